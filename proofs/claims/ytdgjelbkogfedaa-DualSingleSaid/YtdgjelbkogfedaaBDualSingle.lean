import Derived.Test.YtdgjelbkogfedaaEvs
import Derived.Test.YtdgjelbkogfedaaHDualSingley17
namespace Go.Proofs.Ytdgjelbkogfedaa.BDualSingle
open Go.RowKit Go.Proofs.YtdgjelbkogfedaaW.PrintWords Go.Proofs.YtdgjelbkogfedaaW.PrintMore Go.Proofs.Ytdgjelbkogfedaa.Evs Go.Proofs.Ytdgjelbkogfedaa.PDualSingle
set_option linter.unusedVariables false
set_option linter.unusedSectionVars false
set_option linter.unusedSimpArgs false
theorem bt_bd (s : ByteArray) (i : Int) : 0 ≤ bt s i ∧ bt s i ≤ 255 := by
  unfold bt
  split
  · rename_i h
    have:=(s[i.toNat]'h).toNat_lt
    omega
  · omega
def okc (c : Int) : Bool := decide ((65 ≤ c ∧ c ≤ 90) ∨ (48 ≤ c ∧ c ≤ 57))
theorem okc_t {c : Int} (h : (65 ≤ c ∧ c ≤ 90) ∨ (48 ≤ c ∧ c ≤ 57)) : okc c = true := decide_eq_true h
theorem okc_f {c : Int} (h : ¬ ((65 ≤ c ∧ c ≤ 90) ∨ (48 ≤ c ∧ c ≤ 57))) : okc c = false := decide_eq_false h
def allC (s : ByteArray) : Nat → Nat → Bool
 |0, _ => true
 |d + 1, n => okc (bt s n) && allC s d (n + 1)
def nameB (s : ByteArray) : Bool := decide (1 ≤ s.size ∧ s.size ≤ 8 ∧ ¬ (48 ≤ bt s 0 ∧ bt s 0 ≤ 57)) && allC s s.size 0
theorem offer_named_l0 (s : ByteArray) (hs : s.size ≤ 8) : ∀ n, n ≤ s.size → Evt (fun k => offer_named.l0 k s (s.size : Int) (n : Int)) (allC s (s.size - n) n) := by
  refine down ?_ ?_
  · refine Evt.succ ?_
    simp only [offer_named.l0, Nat.sub_self, allC]
    exact Evt.ite_neg (by omega) (Evt.pure _)
  · intro n hn ih
    refine Evt.succ ?_
    obtain ⟨d, hd⟩ : ∃ d, s.size - n = d + 1:=⟨s.size - n - 1, by omega⟩
    have hd' : s.size - (n + 1) = d:=by omega
    rw [hd'] at ih
    rw [hd]
    simp only [offer_named.l0, allC]
    refine Evt.ite_pos (by omega) (Evt.ite_pos (by omega) (Evt.ite_pos (by omega) ?_))
    rw [wrap64_nat (by omega)]
    have bad : ¬ ((65 ≤ bt s n ∧ bt s n ≤ 90) ∨ (48 ≤ bt s n ∧ bt s n ≤ 57)) → false = (okc (bt s n) && allC s d (n + 1)):=fun h => by rw [okc_f h]; rfl
    have fine : ((65 ≤ bt s n ∧ bt s n ≤ 90) ∨ (48 ≤ bt s n ∧ bt s n ≤ 57)) → allC s d (n + 1) = (okc (bt s n) && allC s d (n + 1)):=fun h => by rw [okc_t h, Bool.true_and]
    refine Evt.ite (fun h1 => Evt.ite (fun h2 => Evt.of_eq (bad (by omega))) (fun h2 => Evt.ite (fun h3 => Evt.of_eq (bad (by omega))) (fun h3 => Evt.cast ih (fine (by omega)))))
      (fun h1 => Evt.ite (fun h2 => Evt.ite (fun h3 => Evt.of_eq (bad (by omega))) (fun h3 => Evt.ite (fun h4 => Evt.of_eq (bad (by omega))) (fun h4 => Evt.cast ih (fine (by omega))))) (fun h2 => Evt.cast ih (fine (by omega))))
theorem offer_named_ev (s : ByteArray) : Evt (fun k => offer_named.f k s) (nameB s) := by
  simp only [offer_named.f]
  have j0t : ∀ b, b = true → nameB s = false → Evt (fun k => offer_named.j0 k s b) (nameB s):=by
    intro b hb hn
    subst hb
    refine Evt.succ ?_
    simp only [offer_named.j0]
    exact Evt.ite_pos (by simp) (Evt.of_eq hn.symm)
  by_cases h0 : s.size = 0
  · refine Evt.ite_pos ((toList_nil s).2 h0) (j0t _ rfl ?_)
    unfold nameB
    rw [decide_eq_false (by omega)]
    rfl
  · refine Evt.ite_neg (fun h => h0 ((toList_nil s).1 h)) ?_
    by_cases h8 : s.size ≤ 8
    · refine Evt.ite_neg (by omega) (Evt.ite_pos (by omega) ?_)
      have go : ∀ b, b = decide (48 ≤ bt s 0 ∧ bt s 0 ≤ 57) → Evt (fun k => offer_named.j0 k s b) (nameB s):=by
        intro b hb
        by_cases hc : 48 ≤ bt s 0 ∧ bt s 0 ≤ 57
        · refine j0t b (by rw [hb]; exact decide_eq_true hc) ?_
          unfold nameB
          rw [decide_eq_false (by omega)]
          rfl
        · rw [decide_eq_false hc] at hb
          subst hb
          refine Evt.succ ?_
          simp only [offer_named.j0]
          refine Evt.ite_neg (by simp) ?_
          have:=offer_named_l0 s h8 0 (by omega)
          refine Evt.cast this ?_
          unfold nameB
          rw [decide_eq_true (by omega)]
          rfl
      refine Evt.ite (fun h => go _ ?_) (fun h => go _ ?_)
      · exact decide_eq_decide.2 (by omega)
      · exact (decide_eq_false (by omega)).symm
    · refine Evt.ite_pos (by omega) (j0t _ rfl ?_)
      unfold nameB
      rw [decide_eq_false (by omega)]
      rfl
theorem unit_named_l0 (s : ByteArray) (hs : s.size ≤ 8) : ∀ n, n ≤ s.size → Evt (fun k => unit_named.l0 k s (s.size : Int) (n : Int)) (allC s (s.size - n) n) := by
  refine down ?_ ?_
  · refine Evt.succ ?_
    simp only [unit_named.l0, Nat.sub_self, allC]
    exact Evt.ite_neg (by omega) (Evt.pure _)
  · intro n hn ih
    refine Evt.succ ?_
    obtain ⟨d, hd⟩ : ∃ d, s.size - n = d + 1:=⟨s.size - n - 1, by omega⟩
    have hd' : s.size - (n + 1) = d:=by omega
    rw [hd'] at ih
    rw [hd]
    simp only [unit_named.l0, allC]
    refine Evt.ite_pos (by omega) (Evt.ite_pos (by omega) (Evt.ite_pos (by omega) ?_))
    rw [wrap64_nat (by omega)]
    have bad : ¬ ((65 ≤ bt s n ∧ bt s n ≤ 90) ∨ (48 ≤ bt s n ∧ bt s n ≤ 57)) → false = (okc (bt s n) && allC s d (n + 1)):=fun h => by rw [okc_f h]; rfl
    have fine : ((65 ≤ bt s n ∧ bt s n ≤ 90) ∨ (48 ≤ bt s n ∧ bt s n ≤ 57)) → allC s d (n + 1) = (okc (bt s n) && allC s d (n + 1)):=fun h => by rw [okc_t h, Bool.true_and]
    refine Evt.ite (fun h1 => Evt.ite (fun h2 => Evt.of_eq (bad (by omega))) (fun h2 => Evt.ite (fun h3 => Evt.of_eq (bad (by omega))) (fun h3 => Evt.cast ih (fine (by omega)))))
      (fun h1 => Evt.ite (fun h2 => Evt.ite (fun h3 => Evt.of_eq (bad (by omega))) (fun h3 => Evt.ite (fun h4 => Evt.of_eq (bad (by omega))) (fun h4 => Evt.cast ih (fine (by omega))))) (fun h2 => Evt.cast ih (fine (by omega))))
theorem unit_named_ev (s : ByteArray) : Evt (fun k => unit_named.f k s) (nameB s) := by
  simp only [unit_named.f]
  have j0t : ∀ b, b = true → nameB s = false → Evt (fun k => unit_named.j0 k s b) (nameB s):=by
    intro b hb hn
    subst hb
    refine Evt.succ ?_
    simp only [unit_named.j0]
    exact Evt.ite_pos (by simp) (Evt.of_eq hn.symm)
  by_cases h0 : s.size = 0
  · refine Evt.ite_pos ((toList_nil s).2 h0) (j0t _ rfl ?_)
    unfold nameB
    rw [decide_eq_false (by omega)]
    rfl
  · refine Evt.ite_neg (fun h => h0 ((toList_nil s).1 h)) ?_
    by_cases h8 : s.size ≤ 8
    · refine Evt.ite_neg (by omega) (Evt.ite_pos (by omega) ?_)
      have go : ∀ b, b = decide (48 ≤ bt s 0 ∧ bt s 0 ≤ 57) → Evt (fun k => unit_named.j0 k s b) (nameB s):=by
        intro b hb
        by_cases hc : 48 ≤ bt s 0 ∧ bt s 0 ≤ 57
        · refine j0t b (by rw [hb]; exact decide_eq_true hc) ?_
          unfold nameB
          rw [decide_eq_false (by omega)]
          rfl
        · rw [decide_eq_false hc] at hb
          subst hb
          refine Evt.succ ?_
          simp only [unit_named.j0]
          refine Evt.ite_neg (by simp) ?_
          have:=unit_named_l0 s h8 0 (by omega)
          refine Evt.cast this ?_
          unfold nameB
          rw [decide_eq_true (by omega)]
          rfl
      refine Evt.ite (fun h => go _ ?_) (fun h => go _ ?_)
      · exact decide_eq_decide.2 (by omega)
      · exact (decide_eq_false (by omega)).symm
    · refine Evt.ite_pos (by omega) (j0t _ rfl ?_)
      unfold nameB
      rw [decide_eq_false (by omega)]
      rfl
theorem in_eq (a b c : Int) : gridhallref3_In.f a b c = some (decide (b ≤ a ∧ a ≤ c)) := by
  unfold gridhallref3_In.f
  by_cases h : a ≥ b
  · rw [if_pos h]
    congr 1
    exact decide_eq_decide.2 (by omega)
  · rw [if_neg h, decide_eq_false (by omega)]
theorem ref_Named_l0 (s : ByteArray) (hs : s.size ≤ 8) : ∀ n, n ≤ s.size → Evt (fun k => gridhallref3_Named.l0 k s (s.size : Int) (n : Int)) (allC s (s.size - n) n) := by
  refine down ?_ ?_
  · refine Evt.succ ?_
    simp only [gridhallref3_Named.l0, Nat.sub_self, allC]
    exact Evt.ite_neg (by omega) (Evt.pure _)
  · intro n hn ih
    refine Evt.succ ?_
    obtain ⟨d, hd⟩ : ∃ d, s.size - n = d + 1:=⟨s.size - n - 1, by omega⟩
    have hd' : s.size - (n + 1) = d:=by omega
    rw [hd'] at ih
    rw [hd]
    simp only [gridhallref3_Named.l0, allC]
    refine Evt.ite_pos (by omega) (Evt.ite_pos (by omega) (Evt.ite_pos (by omega) ?_))
    have hb:=bt_bd s n
    rw [wrap64_nat (by omega), wrap64_of (x:=bt s n) (by omega) (by omega)]
    simp only [in_eq, Option.bind_some]
    have bad : ¬ ((65 ≤ bt s n ∧ bt s n ≤ 90) ∨ (48 ≤ bt s n ∧ bt s n ≤ 57)) → false = (okc (bt s n) && allC s d (n + 1)):=fun h => by rw [okc_f h]; rfl
    have fine : ((65 ≤ bt s n ∧ bt s n ≤ 90) ∨ (48 ≤ bt s n ∧ bt s n ≤ 57)) → allC s d (n + 1) = (okc (bt s n) && allC s d (n + 1)):=fun h => by rw [okc_t h, Bool.true_and]
    refine Evt.ite (fun h1 => Evt.cast ih (fine (by simp at h1; omega))) (fun h1 => Evt.ite (fun h2 => Evt.cast ih (fine (by simp at h2; omega))) (fun h2 => Evt.of_eq (bad (by simp at h1 h2; omega))))
theorem ref_Named_ev (s : ByteArray) : Evt (fun k => gridhallref3_Named.f k s) (nameB s) := by
  simp only [gridhallref3_Named.f]
  have j0t : ∀ b, b = true → nameB s = false → Evt (fun k => gridhallref3_Named.j0 k s b) (nameB s):=by
    intro b hb hn
    subst hb
    refine Evt.succ ?_
    simp only [gridhallref3_Named.j0]
    exact Evt.ite_pos (by simp) (Evt.of_eq hn.symm)
  by_cases h0 : s.size = 0
  · refine Evt.ite_pos (by omega) (j0t _ rfl ?_)
    unfold nameB
    rw [decide_eq_false (by omega)]
    rfl
  · refine Evt.ite_neg (by omega) ?_
    by_cases h8 : s.size ≤ 8
    · refine Evt.ite_neg (by omega) (Evt.ite_pos (by omega) ?_)
      have hb:=bt_bd s 0
      rw [wrap64_of (x:=bt s 0) (by omega) (by omega)]
      simp only [in_eq, Option.bind_some]
      by_cases hc : 48 ≤ bt s 0 ∧ bt s 0 ≤ 57
      · refine j0t _ (decide_eq_true hc) ?_
        unfold nameB
        rw [decide_eq_false (by omega)]
        rfl
      · rw [decide_eq_false hc]
        refine Evt.succ ?_
        simp only [gridhallref3_Named.j0]
        refine Evt.ite_neg (by simp) ?_
        refine Evt.cast (ref_Named_l0 s h8 0 (by omega)) ?_
        unfold nameB
        rw [decide_eq_true (by omega)]
        rfl
    · refine Evt.ite_pos (by omega) (j0t _ rfl ?_)
      unfold nameB
      rw [decide_eq_false (by omega)]
      rfl
def okR (a b c d e f g : Int) : Prop := (0 ≤ a ∧ a ≤ b) ∧ b ≤ 100000 ∧ (1 ≤ c ∧ c ≤ 100000) ∧ (1 ≤ d ∧ d ≤ 100000) ∧ (1 ≤ e ∧ e ≤ 24) ∧ (1 ≤ f ∧ f ≤ 24) ∧ (0 ≤ g ∧ g ≤ 1000000)
instance (a b c d e f g : Int) : Decidable (okR a b c d e f g) := by unfold okR; exact inferInstance
def ruleErr (s : ByteArray) (a b c d e f g : Int) : Int := if nameB s = true then (if okR a b c d e f g then 0 else 4) else 6
def okS (a b : Int) (o : Bool) (t q : Int) : Prop := (1 ≤ t ∧ t ≤ 200000) ∧ (o = true → a ≤ q ∧ q ≤ b)
instance (a b : Int) (o : Bool) (t q : Int) : Decidable (okS a b o t q) := by unfold okS; exact inferInstance
def stErr (s : ByteArray) (a b c d e f g : Int) (o : Bool) (t q : Int) : Int := if ruleErr s a b c d e f g = 0 then (if okS a b o t q then (if o = true ∨ q = 0 then 0 else 3) else 4) else ruleErr s a b c d e f g
section
variable (s : ByteArray) (a b c d e f g : Int)
theorem uCheck_ev : Evt (fun k => unit_Check.f k s a b c d e f g) (ruleErr s a b c d e f g) := by
  simp only [unit_Check.f]
  refine Evt.bind (unit_named_ev s) ?_
  by_cases h : nameB s = true
  · have no : ¬ okR a b c d e f g → 4 = ruleErr s a b c d e f g:=fun hh => by unfold ruleErr; rw [if_pos h, if_neg hh]
    have ok : okR a b c d e f g → 0 = ruleErr s a b c d e f g:=fun hh => by unfold ruleErr; rw [if_pos h, if_pos hh]
    refine Evt.ite_pos h ?_
    refine Evt.ite (fun x => Evt.of_eq (no (by unfold okR; omega))) (fun x1 => ?_)
    refine Evt.ite (fun x => Evt.of_eq (no (by unfold okR; omega))) (fun x2 => ?_)
    refine Evt.ite (fun x => Evt.of_eq (no (by unfold okR; omega))) (fun x3 => ?_)
    refine Evt.ite (fun x => Evt.of_eq (no (by unfold okR; omega))) (fun x4 => ?_)
    refine Evt.ite (fun x => Evt.of_eq (no (by unfold okR; omega))) (fun x5 => ?_)
    refine Evt.ite (fun x => Evt.of_eq (no (by unfold okR; omega))) (fun x6 => ?_)
    refine Evt.ite (fun x => Evt.of_eq (no (by unfold okR; omega))) (fun x7 => ?_)
    refine Evt.ite (fun x => Evt.of_eq (no (by unfold okR; omega))) (fun x8 => ?_)
    refine Evt.ite (fun x => Evt.of_eq (no (by unfold okR; omega))) (fun x9 => ?_)
    refine Evt.ite (fun x => Evt.of_eq (no (by unfold okR; omega))) (fun x10 => ?_)
    refine Evt.ite (fun x => Evt.of_eq (no (by unfold okR; omega))) (fun x11 => ?_)
    refine Evt.ite (fun x => Evt.of_eq (no (by unfold okR; omega))) (fun x12 => ?_)
    refine Evt.ite (fun x => Evt.of_eq (no (by unfold okR; omega))) (fun x13 => ?_)
    exact Evt.of_eq (ok (by unfold okR; omega))
  · exact Evt.ite_neg h (Evt.of_eq (by unfold ruleErr; rw [if_neg h]))
theorem RuleError_ev : Evt (fun k => gridhallref3_RuleError.f k s a b c d e f g) (ruleErr s a b c d e f g) := by
  simp only [gridhallref3_RuleError.f, in_eq, Option.bind_some, decide_eq_true_eq]
  refine Evt.bind (ref_Named_ev s) ?_
  by_cases h : nameB s = true
  · have no : ¬ okR a b c d e f g → 4 = ruleErr s a b c d e f g:=fun hh => by unfold ruleErr; rw [if_pos h, if_neg hh]
    have ok : okR a b c d e f g → 0 = ruleErr s a b c d e f g:=fun hh => by unfold ruleErr; rw [if_pos h, if_pos hh]
    refine Evt.ite_pos h ?_
    refine Evt.ite (fun x1 => ?_) (fun x => Evt.of_eq (no (by unfold okR; omega)))
    refine Evt.ite (fun x2 => ?_) (fun x => Evt.of_eq (no (by unfold okR; omega)))
    refine Evt.ite (fun x3 => ?_) (fun x => Evt.of_eq (no (by unfold okR; omega)))
    refine Evt.ite (fun x4 => ?_) (fun x => Evt.of_eq (no (by unfold okR; omega)))
    refine Evt.ite (fun x5 => ?_) (fun x => Evt.of_eq (no (by unfold okR; omega)))
    refine Evt.ite (fun x6 => ?_) (fun x => Evt.of_eq (no (by unfold okR; omega)))
    refine Evt.ite (fun x7 => ?_) (fun x => Evt.of_eq (no (by unfold okR; omega)))
    exact Evt.of_eq (ok (by unfold okR; omega))
  · exact Evt.ite_neg h (Evt.of_eq (by unfold ruleErr; rw [if_neg h]))
theorem ruleErr_ok (h : ruleErr s a b c d e f g = 0) : nameB s = true ∧ okR a b c d e f g := by
  unfold ruleErr at h
  by_cases h1 : nameB s = true
  · rw [if_pos h1] at h
    by_cases h2 : okR a b c d e f g
    · exact ⟨h1, h2⟩
    · rw [if_neg h2] at h
      omega
  · rw [if_neg h1] at h
    omega
variable (o : Bool) (t q : Int)
theorem stErr_ok (h : stErr s a b c d e f g o t q = 0) : ruleErr s a b c d e f g = 0 ∧ okR a b c d e f g ∧ okS a b o t q ∧ (o = true ∨ q = 0) := by
  unfold stErr at h
  by_cases h1 : ruleErr s a b c d e f g = 0
  · rw [if_pos h1] at h
    by_cases h2 : okS a b o t q
    · rw [if_pos h2] at h
      by_cases h3 : o = true ∨ q = 0
      · exact ⟨h1, (ruleErr_ok _ _ _ _ _ _ _ _ h1).2, h2, h3⟩
      · rw [if_neg h3] at h
        omega
    · rw [if_neg h2] at h
      omega
  · rw [if_neg h1] at h
    exact absurd h h1
theorem CheckState_ev : Evt (fun k => unit_CheckState.f k s a b c d e f g o t q) (stErr s a b c d e f g o t q) := by
  simp only [unit_CheckState.f]
  refine Evt.bind (uCheck_ev s a b c d e f g) ?_
  by_cases h : ruleErr s a b c d e f g = 0
  · refine Evt.ite_pos h ?_
    have no : ¬ okS a b o t q → 4 = stErr s a b c d e f g o t q:=fun hh => by unfold stErr; rw [if_pos h, if_neg hh]
    have ok : okS a b o t q → (o = true ∨ q = 0) → 0 = stErr s a b c d e f g o t q:=fun hh h2 => by unfold stErr; rw [if_pos h, if_pos hh, if_pos h2]
    have fm : okS a b o t q → ¬ (o = true ∨ q = 0) → 3 = stErr s a b c d e f g o t q:=fun hh h2 => by unfold stErr; rw [if_pos h, if_pos hh, if_neg h2]
    have j1 : ∀ v, (v = false → okS a b o t q) → (v = true → ¬ okS a b o t q) → Evt (fun k => unit_CheckState.j1 k v o t q) (stErr s a b c d e f g o t q):=by
      intro v h1 h2
      refine Evt.succ ?_
      simp only [unit_CheckState.j1]
      cases v with
     |true => exact Evt.ite_pos (by simp) (Evt.of_eq (no (h2 rfl)))
     |false =>
        refine Evt.ite_neg (by simp) (Evt.ite (fun x => Evt.of_eq (ok (h1 rfl) (.inl x))) (fun x => Evt.ite (fun y => Evt.of_eq (ok (h1 rfl) (.inr y))) (fun y => Evt.of_eq (fm (h1 rfl) (fun z => z.elim x y)))))
    have j0 : ∀ v, v = decide (¬ (1 ≤ t ∧ t ≤ 200000)) → Evt (fun k => unit_CheckState.j0 k v s a b c d e f g o t q) (stErr s a b c d e f g o t q):=by
      intro v hv
      refine Evt.succ ?_
      simp only [unit_CheckState.j0]
      by_cases ht : 1 ≤ t ∧ t ≤ 200000
      · refine Evt.ite_neg (by simp [hv, ht]) (Evt.ite (fun x => Evt.ite (fun y => ?_) (fun y => ?_)) (fun x => ?_))
        · exact j1 _ (fun z => by simp at z) (fun _ z => by have:=z.2 x; omega)
        · exact j1 _ (fun z => ⟨ht, fun _ => by simp at z; omega⟩) (fun z w => by have:=w.2 x; simp at z; omega)
        · exact j1 _ (fun _ => ⟨ht, fun z => absurd z x⟩) (fun z => by simp at z)
      · exact Evt.ite_pos (by rw [hv]; exact decide_eq_true ht) (Evt.of_eq (no (fun z => ht z.1)))
    refine Evt.ite (fun x => j0 _ ?_) (fun x => j0 _ ?_)
    · exact (decide_eq_true (by omega)).symm
    · exact decide_eq_decide.2 (by omega)
  · exact Evt.ite_neg h (Evt.of_eq (by unfold stErr; rw [if_neg h]))
theorem StateError_ev : Evt (fun k => gridhallref3_StateError.f k s a b c d e f g o t q) (stErr s a b c d e f g o t q) := by
  simp only [gridhallref3_StateError.f, in_eq, Option.bind_some]
  refine Evt.bind (RuleError_ev s a b c d e f g) ?_
  by_cases h : ruleErr s a b c d e f g = 0
  · refine Evt.ite_pos h ?_
    have no : ¬ okS a b o t q → 4 = stErr s a b c d e f g o t q:=fun hh => by unfold stErr; rw [if_pos h, if_neg hh]
    have ok : okS a b o t q → (o = true ∨ q = 0) → 0 = stErr s a b c d e f g o t q:=fun hh h2 => by unfold stErr; rw [if_pos h, if_pos hh, if_pos h2]
    have fm : okS a b o t q → ¬ (o = true ∨ q = 0) → 3 = stErr s a b c d e f g o t q:=fun hh h2 => by unfold stErr; rw [if_pos h, if_pos hh, if_neg h2]
    have j1 : ∀ v, (v = false → okS a b o t q) → (v = true → ¬ okS a b o t q) → Evt (fun k => gridhallref3_StateError.j0 k v o t q) (stErr s a b c d e f g o t q):=by
      intro v h1 h2
      refine Evt.succ ?_
      simp only [gridhallref3_StateError.j0]
      cases v with
     |true => exact Evt.ite_pos (by simp) (Evt.of_eq (no (h2 rfl)))
     |false =>
        refine Evt.ite_neg (by simp) (Evt.ite (fun x => Evt.of_eq (ok (h1 rfl) (.inl x))) (fun x => Evt.ite (fun y => Evt.of_eq (ok (h1 rfl) (.inr y))) (fun y => Evt.of_eq (fm (h1 rfl) (fun z => z.elim x y)))))
    refine Evt.ite (fun x => Evt.ite (fun y => ?_) (fun y => ?_)) (fun x => ?_)
    · have x:=of_decide_eq_true x
      exact j1 _ (fun z => ⟨x, fun _ => by simpa using z⟩) (fun z w => by have:=w.2 y; simp [this] at z)
    · have x:=of_decide_eq_true x
      exact j1 _ (fun _ => ⟨x, fun z => absurd z y⟩) (fun z => by simp at z)
    · exact j1 _ (fun z => by simp at z) (fun _ z => x (decide_eq_true z.1))
  · exact Evt.ite_neg h (Evt.of_eq (by unfold stErr; rw [if_neg h]))
def movR (p : Int) : Bool × Int × Int × Int × Int :=
  if ¬ (p = -1) ∧ ¬ (a ≤ p ∧ p ≤ b) then (false, 0, 0, 0, 4) else
  if o = true then
    (if p = -1 then (if t < e then (false, 0, 0, 0, 12) else (false, 1, 0, 0, 0)) else
      (if -d ≤ p - q ∧ p - q ≤ c then (true, mn (t + 1) 200000, p, 0, 0) else (false, 0, 0, 0, 17)))
  else
    (if p = -1 then (false, mn (t + 1) 200000, 0, 0, 0) else (if t < f then (false, 0, 0, 0, 12) else (true, 1, p, g, 0)))
theorem Next_ev (p : Int) : Evt (fun k => unit_Next.f k s a b c d e f g o t q p) (if stErr s a b c d e f g o t q = 0 then movR a b c d e f g o t q p else (false, 0, 0, 0, stErr s a b c d e f g o t q)) := by
  simp only [unit_Next.f]
  refine Evt.bind (CheckState_ev s a b c d e f g o t q) ?_
  by_cases h : stErr s a b c d e f g o t q = 0
  · rw [if_pos h]
    refine Evt.ite_pos h ?_
    obtain ⟨_, ⟨r1, r2, r3, r4, r5, r6, r7⟩,⟨s1, s2⟩, s3⟩:=stErr_ok s a b c d e f g o t q h
    have bad : ¬ (p = -1) → ¬ (a ≤ p ∧ p ≤ b) → ∀ v w, v = true → Evt (fun k => unit_Next.j0 k p w v s a b c d e f g o t q) (movR a b c d e f g o t q p):=by
      intro h1 h2 v w hv
      refine Evt.succ ?_
      simp only [unit_Next.j0]
      refine Evt.ite_pos hv (Evt.of_eq ?_)
      unfold movR
      rw [if_pos ⟨h1, h2⟩]
    have fine : (p = -1 ∨ (a ≤ p ∧ p ≤ b)) → ∀ v, v = false → Evt (fun k => unit_Next.j0 k p (p == -1) v s a b c d e f g o t q) (movR a b c d e f g o t q p):=by
      intro h1 v hv
      refine Evt.succ ?_
      simp only [unit_Next.j0]
      refine Evt.ite_neg (by simp [hv]) ?_
      have e0 : movR a b c d e f g o t q p = (if o = true then
    (if p = -1 then (if t < e then (false, 0, 0, 0, 12) else (false, 1, 0, 0, 0)) else
      (if -d ≤ p - q ∧ p - q ≤ c then (true, mn (t + 1) 200000, p, 0, 0) else (false, 0, 0, 0, 17)))
  else
    (if p = -1 then (false, mn (t + 1) 200000, 0, 0, 0) else (if t < f then (false, 0, 0, 0, 12) else (true, 1, p, g, 0)))):=by
        unfold movR
        exact if_neg (by omega)
      rw [e0]
      have w1:=wrap64_of (x:=t + 1) (by omega) (by omega)
      cases o with
     |true =>
        have s4:=s2 rfl
        refine Evt.ite_pos (by simp) ?_
        rw [if_pos rfl]
        by_cases hp : p = -1
        · rw [if_pos hp]
          subst hp
          refine Evt.ite_pos (by simp) ?_
          by_cases ht : t < e
          · rw [if_pos ht, decide_eq_true ht]
            refine Evt.succ ?_
            simp only [unit_Next.j1]
            refine Evt.ite_pos (by simp) (Evt.succ ?_)
            simp only [unit_Next.j2]
            exact Evt.ite_pos (by simp) (Evt.pure _)
          · rw [if_neg ht, decide_eq_false ht]
            refine Evt.succ ?_
            simp only [unit_Next.j1]
            refine Evt.ite_neg (by simp) (Evt.ite_pos (by simp) (Evt.succ ?_))
            simp only [unit_Next.j2]
            refine Evt.ite_neg (by simp) (Evt.ite_pos (by simp) (Evt.ite_pos (by simp) (Evt.succ ?_)))
            simp only [unit_Next.j3]
            exact Evt.ite_neg (by simp) (Evt.ite_neg (by simp) (Evt.ite_pos (by simp) (Evt.pure _)))
        · have hb : (p == -1) = false:=by simpa using hp
          rw [if_neg hp, hb]
          refine Evt.ite_neg (by simp) (Evt.succ ?_)
          simp only [unit_Next.j1]
          refine Evt.ite_neg (by simp) (Evt.ite_pos (by simp) (Evt.succ ?_))
          simp only [unit_Next.j2]
          refine Evt.ite_neg (by simp) (Evt.ite_pos (by simp) (Evt.ite_neg (by simp) ?_))
          rw [wrap64_of (x:=q + c) (by omega) (by omega), wrap64_of (x:=q - d) (by omega) (by omega)]
          refine Evt.ite (fun x => ?_) (fun x => ?_)
          · rw [if_neg (by omega)]
            refine Evt.succ ?_
            simp only [unit_Next.j3]
            exact Evt.ite_pos (by simp) (Evt.pure _)
          · by_cases y : p < q - d
            · rw [if_neg (by omega), decide_eq_true y]
              refine Evt.succ ?_
              simp only [unit_Next.j3]
              exact Evt.ite_pos (by simp) (Evt.pure _)
            · rw [if_pos (by omega), decide_eq_false y]
              refine Evt.succ ?_
              simp only [unit_Next.j3]
              refine Evt.ite_neg (by simp) (Evt.ite_pos (by simp) ?_)
              rw [w1, mx_ge (a:=p) (b:=0) (by omega)]
              exact Evt.pure _
     |false =>
        have s4 : q = 0:=by simpa using s3
        refine Evt.ite_neg (by simp) (Evt.succ ?_)
        simp only [unit_Next.j1]
        refine Evt.ite_neg (by simp) (Evt.ite_neg (by simp) ?_)
        rw [if_neg (by simp)]
        by_cases hp : p = -1
        · rw [if_pos hp]
          subst hp
          refine Evt.ite_pos (by simp) (Evt.succ ?_)
          simp only [unit_Next.j2]
          refine Evt.ite_neg (by simp) (Evt.ite_neg (by simp) (Evt.succ ?_))
          simp only [unit_Next.j3]
          refine Evt.ite_neg (by simp) (Evt.ite_pos (by simp) ?_)
          rw [w1, mx_le (a:=-1) (b:=0) (by omega)]
          exact Evt.pure _
        · have hb : (p == -1) = false:=by simpa using hp
          rw [if_neg hp, hb]
          refine Evt.ite_neg (by simp) ?_
          by_cases ht : t < f
          · rw [if_pos ht, decide_eq_true ht]
            refine Evt.succ ?_
            simp only [unit_Next.j2]
            exact Evt.ite_pos (by simp) (Evt.pure _)
          · rw [if_neg ht, decide_eq_false ht]
            refine Evt.succ ?_
            simp only [unit_Next.j2]
            refine Evt.ite_neg (by simp) (Evt.ite_neg (by simp) (Evt.succ ?_))
            simp only [unit_Next.j3]
            exact Evt.ite_neg (by simp) (Evt.ite_neg (by simp) (Evt.ite_neg (by simp) (Evt.pure _)))
    refine Evt.ite (fun x => fine (.inl x) _ rfl) (fun x => Evt.ite (fun y => bad x (by omega) _ _ rfl) (fun y => ?_))
    by_cases z : p > b
    · exact bad x (by omega) _ _ (decide_eq_true z)
    · exact fine (.inr (by omega)) _ (decide_eq_false z)
  · rw [if_neg h]
    exact Evt.ite_neg h (Evt.pure _)
theorem Moved_ev (p : Int) (hp64 : -9223372036854775808 ≤ p ∧ p ≤ 9223372036854775807) (h : stErr s a b c d e f g o t q = 0) : Evt (fun k => gridhallref3_Moved.f k s a b c d e f g o t q p) (movR a b c d e f g o t q p) := by
  obtain ⟨_, ⟨r1, r2, r3, r4, r5, r6, r7⟩,⟨s1, s2⟩, s3⟩:=stErr_ok s a b c d e f g o t q h
  simp only [gridhallref3_Moved.f, in_eq, Option.bind_some]
  have fine : (p = -1 ∨ (a ≤ p ∧ p ≤ b)) → ∀ v, v = false → Evt (fun k => gridhallref3_Moved.j0 k p (p != -1) v s a b c d e f g o t q) (movR a b c d e f g o t q p):=by
    intro h1 v hv
    refine Evt.succ ?_
    simp only [gridhallref3_Moved.j0, in_eq, Option.bind_some]
    refine Evt.ite_neg (by simp [hv]) ?_
    have e0 : movR a b c d e f g o t q p = (if o = true then
    (if p = -1 then (if t < e then (false, 0, 0, 0, 12) else (false, 1, 0, 0, 0)) else
      (if -d ≤ p - q ∧ p - q ≤ c then (true, mn (t + 1) 200000, p, 0, 0) else (false, 0, 0, 0, 17)))
  else
    (if p = -1 then (false, mn (t + 1) 200000, 0, 0, 0) else (if t < f then (false, 0, 0, 0, 12) else (true, 1, p, g, 0)))):=by
      unfold movR
      exact if_neg (by omega)
    rw [e0]
    have w1:=wrap64_of (x:=t + 1) (by omega) (by omega)
    have e2 : (p != -1) = true → q ≤ b → 0 ≤ q → ∀ (v : Bool) (u : Int), Evt (fun k => gridhallref3_Moved.j2 k p (p != -1) s a b c d e f g o t q v u q) (if -d ≤ p - q ∧ p - q ≤ c then (v, u, p, 0, 0) else (false, 0, 0, 0, 17)):=by
      intro x1 x2 x3 v u
      have x4 : a ≤ p ∧ p ≤ b:=by
        rcases h1 with h1|h1
        · simp [h1] at x1
        · exact h1
      refine Evt.succ ?_
      simp only [gridhallref3_Moved.j2, in_eq, Option.bind_some]
      refine Evt.ite_pos x1 ?_
      rw [wrap64_of (x:=p - q) (by omega) (by omega), wrap64_of (x:=-d) (by omega) (by omega)]
      refine Evt.ite (fun y => ?_) (fun y => ?_)
      · exact Evt.of_eq (if_pos (of_decide_eq_true y)).symm
      · exact Evt.of_eq (if_neg (fun z => y (decide_eq_true z))).symm
    have e3 : (if t < 200000 then t + 1 else t) = mn (t + 1) 200000:=by
      unfold mn
      repeat' split
      all_goals omega
    cases o with
   |true =>
      have s4:=s2 rfl
      rw [if_pos rfl]
      by_cases hp : p = -1
      · rw [if_pos hp]
        subst hp
        refine Evt.ite_pos (by simp) (Evt.ite_pos (by simp) ?_)
        refine Evt.ite (fun x => ?_) (fun x => ?_)
        · rw [if_pos x]
          refine Evt.succ ?_
          simp only [gridhallref3_Moved.j1]
          exact Evt.ite_pos (by simp) (Evt.pure _)
        · rw [if_neg x]
          refine Evt.succ ?_
          simp only [gridhallref3_Moved.j1]
          exact Evt.ite_neg (by simp) (Evt.ite_neg (by simp) (Evt.pure _))
      · have hb : (p != -1) = true:=by simpa using hp
        rw [if_neg hp]
        refine Evt.ite_neg (by simp [hb]) ?_
        rw [w1, ← e3]
        refine Evt.ite (fun x => ?_) (fun x => ?_)
        · rw [if_pos x]
          exact e2 hb (by omega) (by omega) true (t + 1)
        · rw [if_neg x]
          exact e2 hb (by omega) (by omega) true t
   |false =>
      have s4 : q = 0:=by simpa using s3
      rw [if_neg (by simp)]
      by_cases hp : p = -1
      · rw [if_pos hp]
        subst hp
        refine Evt.ite_neg (by simp) ?_
        rw [w1, ← e3]
        refine Evt.ite (fun x => ?_) (fun x => ?_)
        · rw [if_pos x]
          refine Evt.succ ?_
          simp only [gridhallref3_Moved.j2, in_eq, Option.bind_some]
          exact Evt.ite_neg (by simp) (Evt.of_eq (by rw [s4]))
        · rw [if_neg x]
          refine Evt.succ ?_
          simp only [gridhallref3_Moved.j2, in_eq, Option.bind_some]
          exact Evt.ite_neg (by simp) (Evt.of_eq (by rw [s4]))
      · have hb : (p != -1) = true:=by simpa using hp
        rw [if_neg hp, hb]
        refine Evt.ite_pos (by simp) (Evt.ite_neg (by simp) ?_)
        by_cases ht : t < f
        · rw [if_pos ht, decide_eq_true ht]
          refine Evt.succ ?_
          simp only [gridhallref3_Moved.j1]
          exact Evt.ite_pos (by simp) (Evt.pure _)
        · rw [if_neg ht, decide_eq_false ht]
          refine Evt.succ ?_
          simp only [gridhallref3_Moved.j1]
          exact Evt.ite_neg (by simp) (Evt.ite_pos (by simp) (Evt.pure _))
  by_cases hp : p = -1
  · exact Evt.ite_pos hp (fine (.inl hp) _ rfl)
  · refine Evt.ite_neg hp ?_
    by_cases hr : a ≤ p ∧ p ≤ b
    · exact fine (.inr hr) _ (by rw [decide_eq_true hr]; rfl)
    · refine Evt.succ ?_
      simp only [gridhallref3_Moved.j0]
      refine Evt.ite_pos (by rw [decide_eq_false hr]; rfl) (Evt.of_eq ?_)
      unfold movR
      rw [if_pos ⟨hp, hr⟩]
end
abbrev St := S116
abbrev zSt : St := z116
def pw (l : List St) (n : Nat) : Int := (l.getD n zSt).f0
def pr (l : List St) (n : Nat) : Int := (l.getD n zSt).f1
theorem rd0 (l : List St) (n : Nat) : (rd_T116 l (n : Int)).f0 = pw l n := Eq.trans rfl rfl
theorem rd1 (l : List St) (n : Nat) : (rd_T116 l (n : Int)).f1 = pr l n := Eq.trans rfl rfl
def tot (l : List St) : Nat → Int
 |0 => 0
 |n + 1 => tot l n + pw l n
def stepErr (l : List St) : Nat → Nat → Int
 |0, _ => 0
 |d + 1, n => if ¬ (1 ≤ pw l n ∧ pw l n ≤ 100000 ∧ -1000000 ≤ pr l n ∧ pr l n ≤ 1000000) then 4 else if 0 < n ∧ pr l n < pr l (n - 1) then 3 else if tot l (n + 1) > 100000 then 2 else stepErr l d (n + 1)
def offErr (s : ByteArray) (l : List St) : Int := if nameB s = true then (if l.length > 12 then 2 else stepErr l l.length 0) else 6
theorem pred_cast {n : Nat} (h : 0 < n) (hb : n ≤ 9223372036854775807) : wrap64 ((n : Int) - 1) = ((n - 1 : Nat) : Int) := by
  unfold wrap64
  omega
def Pre (l : List St) (n : Nat) : Prop := (∀ m, m < n → 1 ≤ pw l m ∧ pw l m ≤ 100000) ∧ tot l n ≤ 100000
theorem tot_mono {l : List St} {n : Nat} (h : ∀ m, m < n → 1 ≤ pw l m) : ∀ m, m ≤ n → 0 ≤ tot l m ∧ tot l m ≤ tot l n := by
  induction n with
 |zero =>
    intro m hm
    have : m = 0:=by omega
    subst this
    simp [tot]
 |succ n ih =>
    intro m hm
    have h1:=ih (fun m hm => h m (by omega))
    have h2:=h n (by omega)
    simp only [tot]
    by_cases e : m = n + 1
    · subst e
      have:=h1 n (by omega)
      simp only [tot]
      omega
    · have:=h1 m (by omega)
      omega
theorem Pre.bd {l : List St} {n : Nat} (h : Pre l n) : ∀ m, m ≤ n → 0 ≤ tot l m ∧ tot l m ≤ 100000 := by
  intro m hm
  have:=tot_mono (fun m hm => (h.1 m hm).1) m hm
  have:=h.2
  omega
theorem Pre.mono {l : List St} {n m : Nat} (h : Pre l n) (hm : m ≤ n) : Pre l m := ⟨fun j hj => h.1 j (by omega), (h.bd m hm).2⟩
structure Val (l : List St) : Prop where
  len : l.length ≤ 12
  rng : ∀ n, n < l.length → 1 ≤ pw l n ∧ pw l n ≤ 100000 ∧ -1000000 ≤ pr l n ∧ pr l n ≤ 1000000
  srt : ∀ n, 0 < n → n < l.length → pr l (n - 1) ≤ pr l n
  all : tot l l.length ≤ 100000
theorem stepErr_val (l : List St) : ∀ d n, n + d = l.length → Pre l n → stepErr l d n = 0 →
    (∀ m, n ≤ m → m < l.length → 1 ≤ pw l m ∧ pw l m ≤ 100000 ∧ -1000000 ≤ pr l m ∧ pr l m ≤ 1000000) ∧ (∀ m, n ≤ m → 0 < m → m < l.length → pr l (m - 1) ≤ pr l m) ∧ tot l l.length ≤ 100000:=by
  intro d
  induction d with
 |zero =>
    intro n hn hp _
    exact ⟨fun m h1 h2 => by omega, fun m h1 _ h2 => by omega, by rw [← hn]; exact hp.2⟩
 |succ d ih =>
    intro n hn hp h
    simp only [stepErr] at h
    by_cases c1 : ¬ (1 ≤ pw l n ∧ pw l n ≤ 100000 ∧ -1000000 ≤ pr l n ∧ pr l n ≤ 1000000)
    · rw [if_pos c1] at h
      omega
    · rw [if_neg c1] at h
      by_cases c2 : 0 < n ∧ pr l n < pr l (n - 1)
      · rw [if_pos c2] at h
        omega
      · rw [if_neg c2] at h
        by_cases c3 : tot l (n + 1) > 100000
        · rw [if_pos c3] at h
          omega
        · rw [if_neg c3] at h
          have hp' : Pre l (n + 1):=by
            refine ⟨fun m hm => ?_, by omega⟩
            by_cases e : m = n
            · subst e
              omega
            · exact hp.1 m (by omega)
          obtain ⟨h1, h2, h3⟩:=ih (n + 1) (by omega) hp' h
          refine ⟨fun m hm hl => ?_, fun m hm h0 hl => ?_, h3⟩
          · by_cases e : m = n
            · subst e
              omega
            · exact h1 m (by omega) hl
          · by_cases e : m = n
            · subst e
              omega
            · exact h2 m (by omega) h0 hl
theorem pre0 (l : List St) : Pre l 0 := ⟨fun m hm => by omega, by simp [tot]⟩
theorem offErr_val {s : ByteArray} {l : List St} (h : offErr s l = 0) : nameB s = true ∧ Val l := by
  unfold offErr at h
  by_cases c1 : nameB s = true
  · rw [if_pos c1] at h
    by_cases c2 : l.length > 12
    · rw [if_pos c2] at h
      omega
    · rw [if_neg c2] at h
      obtain ⟨h1, h2, h3⟩:=stepErr_val l l.length 0 (by omega) (pre0 l) h
      exact ⟨c1, by omega, fun n hn => h1 n (by omega) hn, fun n h0 hn => h2 n (by omega) h0 hn, h3⟩
  · rw [if_neg c1] at h
    omega
theorem Val.pre {l : List St} (h : Val l) : Pre l l.length := ⟨fun m hm => ⟨(h.rng m hm).1, (h.rng m hm).2.1⟩, h.all⟩
theorem Val.bd {l : List St} (h : Val l) (m : Nat) (hm : m ≤ l.length) : 0 ≤ tot l m ∧ tot l m ≤ 100000 := h.pre.bd m hm
theorem Check_l0 (s : ByteArray) (l : List St) (hl : l.length ≤ 12) : ∀ n, n ≤ l.length → Pre l n → Evt (fun k => offer_Check.l0 k (tot l n) l (l.length : Int) (n : Int) s l) (stepErr l (l.length - n) n) := by
  refine down ?_ ?_
  · intro _
    refine Evt.succ ?_
    simp only [offer_Check.l0, Nat.sub_self, stepErr]
    exact Evt.ite_neg (by omega) (Evt.pure _)
  · intro n hn ih hp
    obtain ⟨d, hd⟩ : ∃ d, l.length - n = d + 1:=⟨l.length - n - 1, by omega⟩
    have hd' : l.length - (n + 1) = d:=by omega
    rw [hd'] at ih
    rw [hd]
    have hb:=hp.bd n (Nat.le_refl _)
    have j2 : (1 ≤ pw l n ∧ pw l n ≤ 100000 ∧ -1000000 ≤ pr l n ∧ pr l n ≤ 1000000) → ∀ b, b = decide (0 < n ∧ pr l n < pr l (n - 1)) → Evt (fun k => offer_Check.j2 k (tot l n) l (l.length : Int) (n : Int) b s l (pw l n) (pr l n)) (stepErr l (d + 1) n):=by
      intro hc b hb2
      refine Evt.succ ?_
      simp only [offer_Check.j2, stepErr]
      rw [if_neg (by omega), wrap64_of (x:=tot l n + pw l n) (by omega) (by omega), wrap64_nat (by omega)]
      subst hb2
      refine Evt.ite (fun h => ?_) (fun h => ?_)
      · rw [if_pos (of_decide_eq_true h)]
        exact Evt.pure _
      · rw [if_neg (fun h2 => h (decide_eq_true h2))]
        refine Evt.ite (fun h2 => ?_) (fun h2 => ?_)
        · rw [if_pos (show tot l (n + 1) > 100000 from h2)]
          exact Evt.pure _
        · have h3 : ¬ tot l (n + 1) > 100000:=h2
          rw [if_neg h3]
          refine ih ⟨fun m hm => ?_, by omega⟩
          by_cases e : m = n
          · subst e
            omega
          · exact hp.1 m (by omega)
    have j1t : ¬ (1 ≤ pw l n ∧ pw l n ≤ 100000 ∧ -1000000 ≤ pr l n ∧ pr l n ≤ 1000000) → ∀ b, b = true → Evt (fun k => offer_Check.j1 k (tot l n) (n : Int) l (l.length : Int) (n : Int) b s l (pw l n) (pr l n)) (stepErr l (d + 1) n):=by
      intro hc b hb2
      subst hb2
      refine Evt.succ ?_
      simp only [offer_Check.j1, stepErr]
      rw [if_pos hc]
      exact Evt.ite_pos (by simp) (Evt.pure _)
    have j1f : (1 ≤ pw l n ∧ pw l n ≤ 100000 ∧ -1000000 ≤ pr l n ∧ pr l n ≤ 1000000) → ∀ b, b = false → Evt (fun k => offer_Check.j1 k (tot l n) (n : Int) l (l.length : Int) (n : Int) b s l (pw l n) (pr l n)) (stepErr l (d + 1) n):=by
      intro hc b hb2
      subst hb2
      refine Evt.succ ?_
      simp only [offer_Check.j1]
      refine Evt.ite_neg (by simp) (Evt.ite (fun h => ?_) (fun h => ?_))
      · rw [pred_cast (by omega) (by omega)]
        refine Evt.ite_pos (by omega) (Evt.ite_pos (by omega) ?_)
        simp only [rd1]
        refine j2 hc _ (decide_eq_decide.2 ?_)
        omega
      · exact j2 hc _ (decide_eq_false (by omega)).symm
    refine Evt.succ ?_
    simp only [offer_Check.l0]
    refine Evt.ite_pos (by omega) (Evt.ite_pos (by omega) (Evt.ite_pos (by omega) ?_))
    simp only [rd0, rd1]
    refine Evt.ite (fun h => j1t (by omega) _ rfl) (fun h1 => Evt.ite (fun h => j1t (by omega) _ rfl) (fun h2 => Evt.ite (fun h => j1t (by omega) _ rfl) (fun h3 => ?_)))
    by_cases h4 : pr l n > 1000000
    · exact j1t (by omega) _ (decide_eq_true h4)
    · exact j1f (by omega) _ (decide_eq_false h4)
theorem Check_ev (s : ByteArray) (l : List St) : Evt (fun k => offer_Check.f k s l) (offErr s l) := by
  simp only [offer_Check.f]
  refine Evt.bind (offer_named_ev s) ?_
  unfold offErr
  by_cases h : nameB s = true
  · rw [if_pos h]
    refine Evt.ite_pos h ?_
    by_cases h2 : l.length > 12
    · rw [if_pos h2]
      exact Evt.ite_pos (by omega) (Evt.pure _)
    · rw [if_neg h2]
      exact Evt.ite_neg (by omega) (Check_l0 s l (by omega) 0 (by omega) (pre0 l))
  · rw [if_neg h]
    exact Evt.ite_neg h (Evt.pure _)
theorem tot_take (l : List St) (k : Nat) : ∀ n, n ≤ k → tot (l.take k) n = tot l n := by
  intro n
  induction n with
 |zero => intro _; rfl
 |succ n ih =>
    intro h
    simp only [tot]
    rw [ih (by omega)]
    congr 1
    unfold pw
    rw [List.getD_eq_getElem?_getD, List.getD_eq_getElem?_getD, List.getElem?_take_of_lt (by omega)]
theorem Before_l0' (l : List St) (h : ∀ m, m < l.length → 0 ≤ pw l m ∧ pw l m ≤ 100000) (hl : l.length ≤ 1000000) : ∀ n, n ≤ l.length → 0 ≤ tot l n → tot l n ≤ 100000 * n → Evt (fun k => gridhallref3_Before.l0 k (tot l n) l (l.length : Int) (n : Int)) (tot l l.length) := by
  refine down ?_ ?_
  · intro _ _
    refine Evt.succ ?_
    simp only [gridhallref3_Before.l0]
    exact Evt.ite_neg (by omega) (Evt.pure _)
  · intro n hn ih h1 h2
    refine Evt.succ ?_
    simp only [gridhallref3_Before.l0]
    refine Evt.ite_pos (by omega) (Evt.ite_pos (by omega) (Evt.ite_pos (by omega) ?_))
    simp only [rd0]
    have hb:=h n hn
    simp only [tot] at ih
    rw [wrap64_of (x:=tot l n + pw l n) (by omega) (by omega), wrap64_nat (by omega)]
    exact ih (by omega) (by omega)
theorem Before_ev' (s : ByteArray) (l : List St) (n : Nat) (hn : n ≤ l.length) (h : ∀ m, m < n → 0 ≤ pw l m ∧ pw l m ≤ 100000) (hl : n ≤ 1000000) : Evt (fun k => gridhallref3_Before.f k s l (n : Int)) (tot l n) := by
  simp only [gridhallref3_Before.f]
  refine Evt.ite_pos (by omega) (Evt.ite_pos (by omega) ?_)
  refine Evt.bindo rfl ?_
  have e : ((n : Int)).toNat = n:=by omega
  rw [e]
  have hlen : (l.take n).length = n:=by rw [List.length_take]; omega
  have hh:=Before_l0' (l.take n) (fun m hm => by
    rw [hlen] at hm
    have:=h m hm
    unfold pw at this ⊢
    rw [List.getD_eq_getElem?_getD] at this ⊢
    rw [List.getElem?_take_of_lt hm]
    exact this) (by omega) 0 (by omega) (by simp [tot]) (by simp [tot])
  rw [hlen, tot_take _ _ _ (Nat.le_refl _)] at hh
  rw [hlen]
  exact hh
theorem Before_ev (s : ByteArray) (l : List St) (n : Nat) (hn : n ≤ l.length) (hp : Pre l n) (hl : n ≤ 1000000) : Evt (fun k => gridhallref3_Before.f k s l (n : Int)) (tot l n) :=
  Before_ev' s l n hn (fun m hm => by have:=hp.1 m hm; omega) hl
theorem OfferError_l0 (s : ByteArray) (l : List St) (hl : l.length ≤ 12) : ∀ n, n ≤ l.length → Pre l n → Evt (fun k => gridhallref3_OfferError.l0 k l (l.length : Int) (n : Int) s l) (stepErr l (l.length - n) n) := by
  refine down ?_ ?_
  · intro _
    refine Evt.succ ?_
    simp only [gridhallref3_OfferError.l0, Nat.sub_self, stepErr]
    exact Evt.ite_neg (by omega) (Evt.pure _)
  · intro n hn ih hp
    obtain ⟨d, hd⟩ : ∃ d, l.length - n = d + 1:=⟨l.length - n - 1, by omega⟩
    have hd' : l.length - (n + 1) = d:=by omega
    rw [hd'] at ih
    rw [hd]
    have hb:=hp.bd n (Nat.le_refl _)
    have j2 : (1 ≤ pw l n ∧ pw l n ≤ 100000 ∧ -1000000 ≤ pr l n ∧ pr l n ≤ 1000000) → ∀ b, b = decide (0 < n ∧ pr l n < pr l (n - 1)) → Evt (fun k => gridhallref3_OfferError.j2 k (n : Int) l (l.length : Int) (n : Int) b s l) (stepErr l (d + 1) n):=by
      intro hc b hb2
      refine Evt.succ ?_
      simp only [gridhallref3_OfferError.j2, stepErr]
      rw [if_neg (by omega), wrap64_nat (by omega)]
      subst hb2
      refine Evt.ite (fun h => ?_) (fun h => ?_)
      · rw [if_pos (of_decide_eq_true h)]
        exact Evt.pure _
      · rw [if_neg (fun h2 => h (decide_eq_true h2))]
        refine Evt.bind (Before_ev' s l (n + 1) (by omega) (fun m hm => ?_) (by omega)) ?_
        · by_cases e : m = n
          · subst e
            omega
          · have:=hp.1 m (by omega)
            omega
        · refine Evt.ite (fun h2 => ?_) (fun h2 => ?_)
          · rw [if_pos h2]
            exact Evt.pure _
          · rw [if_neg h2]
            refine ih ⟨fun m hm => ?_, by omega⟩
            by_cases e : m = n
            · subst e
              omega
            · exact hp.1 m (by omega)
    have j1t : ¬ (1 ≤ pw l n ∧ pw l n ≤ 100000 ∧ -1000000 ≤ pr l n ∧ pr l n ≤ 1000000) → ∀ b, b = true → Evt (fun k => gridhallref3_OfferError.j1 k (n : Int) l (l.length : Int) (n : Int) b s l (pw l n) (pr l n)) (stepErr l (d + 1) n):=by
      intro hc b hb2
      subst hb2
      refine Evt.succ ?_
      simp only [gridhallref3_OfferError.j1, stepErr]
      rw [if_pos hc]
      exact Evt.ite_pos (by simp) (Evt.pure _)
    have j1f : (1 ≤ pw l n ∧ pw l n ≤ 100000 ∧ -1000000 ≤ pr l n ∧ pr l n ≤ 1000000) → ∀ b, b = false → Evt (fun k => gridhallref3_OfferError.j1 k (n : Int) l (l.length : Int) (n : Int) b s l (pw l n) (pr l n)) (stepErr l (d + 1) n):=by
      intro hc b hb2
      subst hb2
      refine Evt.succ ?_
      simp only [gridhallref3_OfferError.j1]
      refine Evt.ite_neg (by simp) (Evt.ite (fun h => ?_) (fun h => ?_))
      · rw [pred_cast (by omega) (by omega)]
        refine Evt.ite_pos (by omega) (Evt.ite_pos (by omega) ?_)
        simp only [rd1]
        refine j2 hc _ (decide_eq_decide.2 ?_)
        omega
      · exact j2 hc _ (decide_eq_false (by omega)).symm
    refine Evt.succ ?_
    simp only [gridhallref3_OfferError.l0]
    refine Evt.ite_pos (by omega) (Evt.ite_pos (by omega) (Evt.ite_pos (by omega) ?_))
    simp only [rd0, rd1, in_eq, Option.bind_some]
    refine Evt.ite (fun h => ?_) (fun h => ?_)
    · have h:=of_decide_eq_true h
      by_cases h4 : -1000000 ≤ pr l n ∧ pr l n ≤ 1000000
      · exact j1f (by omega) _ (by rw [decide_eq_true h4]; rfl)
      · exact j1t (by omega) _ (by rw [decide_eq_false h4]; rfl)
    · have h : ¬ (1 ≤ pw l n ∧ pw l n ≤ 100000):=fun h2 => h (decide_eq_true h2)
      exact j1t (by omega) _ rfl
theorem OfferError_ev (s : ByteArray) (l : List St) : Evt (fun k => gridhallref3_OfferError.f k s l) (offErr s l) := by
  simp only [gridhallref3_OfferError.f]
  refine Evt.bind (ref_Named_ev s) ?_
  unfold offErr
  by_cases h : nameB s = true
  · rw [if_pos h]
    refine Evt.ite_pos h ?_
    by_cases h2 : l.length > 12
    · rw [if_pos h2]
      exact Evt.ite_pos (by omega) (Evt.pure _)
    · rw [if_neg h2]
      exact Evt.ite_neg (by omega) (OfferError_l0 s l (by omega) 0 (by omega) (pre0 l))
  · rw [if_neg h]
    exact Evt.ite_neg h (Evt.pure _)
theorem mul_bd {a b A B : Int} (h1 : 0 ≤ a) (h2 : a ≤ A) (h3 : -B ≤ b) (h4 : b ≤ B) : -(A * B) ≤ b * a ∧ b * a ≤ A * B := by
  have hB : 0 ≤ B:=by omega
  have e1 : a * B ≤ A * B:=Int.mul_le_mul_of_nonneg_right h2 hB
  have e2 : b * a ≤ B * a:=Int.mul_le_mul_of_nonneg_right h4 h1
  have e3 : (-B) * a ≤ b * a:=Int.mul_le_mul_of_nonneg_right h3 h1
  rw [Int.mul_comm B a] at e2
  rw [Int.neg_mul, Int.mul_comm B a] at e3
  omega
def part (l : List St) (p : Int) (n : Nat) : Int := mn (mx p (tot l n)) (tot l n + pw l n) - tot l n
def cst (l : List St) (p : Int) : Nat → Int
 |0 => 0
 |n + 1 => cst l p n + pr l n * part l p n
theorem part_bd {l : List St} (p : Int) {n : Nat} (h : 0 ≤ pw l n) : 0 ≤ part l p n ∧ part l p n ≤ pw l n := by
  unfold part mn mx
  split <;> split <;> omega
theorem cst_bd {l : List St} (h : Val l) (p : Int) : ∀ n, n ≤ l.length → -(100000000000 * (n : Int)) ≤ cst l p n ∧ cst l p n ≤ 100000000000 * (n : Int) := by
  intro n
  induction n with
 |zero => intro _; simp [cst]
 |succ n ih =>
    intro hn
    have h0:=ih (by omega)
    have hr:=h.rng n (by omega)
    have hp:=part_bd (l:=l) p (n:=n) (by omega)
    have:=mul_bd (A:=100000) (B:=1000000) hp.1 (by omega) (by omega) hr.2.2.2
    simp only [cst]
    omega
theorem Most_l0 (l : List St) (h : Val l) : ∀ n, n ≤ l.length → Evt (fun k => offer_Most.l0 k (tot l n) l (l.length : Int) (n : Int)) (tot l l.length) := by
  have hl:=h.len
  refine down ?_ ?_
  · refine Evt.succ ?_
    simp only [offer_Most.l0]
    exact Evt.ite_neg (by omega) (Evt.pure _)
  · intro n hn ih
    refine Evt.succ ?_
    simp only [offer_Most.l0]
    refine Evt.ite_pos (by omega) (Evt.ite_pos (by omega) (Evt.ite_pos (by omega) ?_))
    simp only [rd0]
    have hb2:=h.bd (n + 1) (by omega)
    simp only [tot] at hb2 ih
    rw [wrap64_of (x:=tot l n + pw l n) (by omega) (by omega), wrap64_nat (by omega)]
    exact ih
theorem Most_ev (s : ByteArray) (l : List St) (h : Val l) : Evt (fun k => offer_Most.f k s l) (tot l l.length) := by
  simp only [offer_Most.f]
  exact Most_l0 l h 0 (by omega)
theorem Cost_l0 (l : List St) (h : Val l) (p : Int) (hp0 : 0 ≤ p) (hp : p ≤ 100000) : ∀ n, n ≤ l.length → Evt (fun k => offer_Cost.l0 k (mx (p - tot l n) 0) (cst l p n) l (l.length : Int) (n : Int)) (cst l p l.length, 0) := by
  have hl:=h.len
  refine down ?_ ?_
  · refine Evt.succ ?_
    simp only [offer_Cost.l0]
    exact Evt.ite_neg (by omega) (Evt.pure _)
  · intro n hn ih
    refine Evt.succ ?_
    simp only [offer_Cost.l0]
    refine Evt.ite_pos (by omega) (Evt.ite_pos (by omega) (Evt.ite_pos (by omega) ?_))
    simp only [rd0, rd1]
    have hr:=h.rng n hn
    have hb:=h.bd n (by omega)
    have hb2:=h.bd (n + 1) (by omega)
    simp only [tot] at hb2 ih
    have hpart:=part_bd (l:=l) p (n:=n) (by omega)
    have e1 : mn (mx (p - tot l n) 0) (pw l n) = part l p n:=by
      unfold part mn mx
      repeat' split
      all_goals omega
    have e2 : mx (p - tot l n) 0 - part l p n = mx (p - (tot l n + pw l n)) 0:=by
      unfold part mn mx
      repeat' split
      all_goals omega
    have e3 : 0 ≤ mx (p - (tot l n + pw l n)) 0 ∧ mx (p - (tot l n + pw l n)) 0 ≤ 100000:=by
      unfold mx
      split <;> omega
    have hc:=cst_bd h p n (by omega)
    have hm:=mul_bd (A:=100000) (B:=1000000) hpart.1 (by omega) (by omega) hr.2.2.2
    rw [e1, e2, wrap64_of (x:=mx (p - (tot l n + pw l n)) 0) (by omega) (by omega), Int.mul_comm (part l p n) (pr l n), wrap64_of (x:=pr l n * part l p n) (by omega) (by omega), wrap64_of (x:=cst l p n + pr l n * part l p n) (by omega) (by omega), wrap64_nat (by omega)]
    exact ih
def costR (s : ByteArray) (l : List St) (p : Int) : Int × Int := if offErr s l = 0 then (if 0 ≤ p ∧ p ≤ tot l l.length then (cst l p l.length, 0) else (0, 4)) else (0, offErr s l)
theorem Cost_ev (s : ByteArray) (l : List St) (p : Int) : Evt (fun k => offer_Cost.f k s l p) (costR s l p) := by
  simp only [offer_Cost.f]
  refine Evt.bind (Check_ev s l) ?_
  unfold costR
  by_cases h : offErr s l = 0
  · rw [if_pos h]
    refine Evt.ite_pos h ?_
    have hv:=(offErr_val h).2
    have hb:=hv.bd l.length (Nat.le_refl _)
    by_cases h1 : p < 0
    · rw [if_neg (by omega)]
      refine Evt.ite_pos h1 (Evt.succ ?_)
      simp only [offer_Cost.j0]
      exact Evt.ite_pos (by simp) (Evt.pure _)
    · refine Evt.ite_neg h1 (Evt.bind (Most_ev s l hv) (Evt.succ ?_))
      simp only [offer_Cost.j0]
      by_cases h2 : p > tot l l.length
      · rw [if_neg (by omega)]
        exact Evt.ite_pos (decide_eq_true h2) (Evt.pure _)
      · rw [if_pos (by omega)]
        refine Evt.ite_neg (by simpa using h2) ?_
        have:=Cost_l0 l hv p (by omega) (by omega) 0 (by omega)
        simp only [tot, cst] at this
        rw [mx_ge (by omega), Int.sub_zero] at this
        exact this
  · rw [if_neg h]
    exact Evt.ite_neg h (Evt.pure _)
theorem All_ev (s : ByteArray) (l : List St) (h : Val l) : Evt (fun k => gridhallref3_All.f k s l) (tot l l.length) := by
  have hl:=h.len
  simp only [gridhallref3_All.f]
  refine Evt.bind (Before_ev s l l.length (Nat.le_refl _) h.pre (by omega)) ?_
  exact Evt.pure _
theorem refCost_l0 (s : ByteArray) (l : List St) (h : Val l) (p : Int) : ∀ n, n ≤ l.length → Evt (fun k => gridhallref3_Cost.l0 k p (cst l p n) l (l.length : Int) (n : Int) s l) (cst l p l.length) := by
  have hl:=h.len
  refine down ?_ ?_
  · refine Evt.succ ?_
    simp only [gridhallref3_Cost.l0]
    exact Evt.ite_neg (by omega) (Evt.pure _)
  · intro n hn ih
    refine Evt.succ ?_
    simp only [gridhallref3_Cost.l0]
    refine Evt.ite_pos (by omega) (Evt.ite_pos (by omega) (Evt.ite_pos (by omega) ?_))
    simp only [rd0, rd1]
    refine Evt.bind (Before_ev s l n (by omega) (h.pre.mono (by omega)) (by omega)) ?_
    have hb:=h.bd n (by omega)
    have hr:=h.rng n hn
    have hpart:=part_bd (l:=l) p (n:=n) (by omega)
    have hc:=cst_bd h p n (by omega)
    have hm:=mul_bd (A:=100000) (B:=1000000) hpart.1 (by omega) (by omega) hr.2.2.2
    have e : mn (mx p (tot l n)) (tot l n + pw l n) - tot l n = part l p n:=rfl
    rw [wrap64_of (x:=tot l n + pw l n) (by omega) (by omega), e, wrap64_of (x:=part l p n) (by omega) (by omega), wrap64_of (x:=pr l n * part l p n) (by omega) (by omega), wrap64_of (x:=cst l p n + pr l n * part l p n) (by omega) (by omega), wrap64_nat (by omega)]
    exact ih
theorem refCost_ev (s : ByteArray) (l : List St) (h : Val l) (p : Int) : Evt (fun k => gridhallref3_Cost.f k s l p) (cst l p l.length) := by
  simp only [gridhallref3_Cost.f]
  exact refCost_l0 s l h p 0 (by omega)
def supL (l : List St) (p : Int) : Nat → Int
 |0 => 0
 |n + 1 => if pr l n < p then supL l p n + pw l n else supL l p n
def supM (l : List St) (p : Int) : Nat → Int
 |0 => 0
 |n + 1 => if pr l n ≤ p then supM l p n + pw l n else supM l p n
theorem sup_bd {l : List St} (h : Val l) (p : Int) : ∀ n, n ≤ l.length → 0 ≤ supL l p n ∧ supL l p n ≤ tot l n ∧ 0 ≤ supM l p n ∧ supM l p n ≤ tot l n := by
  intro n
  induction n with
 |zero => intro _; simp [supL, supM, tot]
 |succ n ih =>
    intro hn
    have h0:=ih (by omega)
    have hr:=h.rng n (by omega)
    simp only [supL, supM, tot]
    split <;> split <;> omega
theorem Supply_l0 (l : List St) (h : Val l) (p : Int) : ∀ n, n ≤ l.length → Evt (fun k => offer_Supply.l0 k p (supL l p n) (supM l p n) l (l.length : Int) (n : Int)) (supL l p l.length, supM l p l.length, 0) := by
  have hl:=h.len
  refine down ?_ ?_
  · refine Evt.succ ?_
    simp only [offer_Supply.l0]
    exact Evt.ite_neg (by omega) (Evt.pure _)
  · intro n hn ih
    refine Evt.succ ?_
    simp only [offer_Supply.l0]
    refine Evt.ite_pos (by omega) (Evt.ite_pos (by omega) (Evt.ite_pos (by omega) ?_))
    simp only [rd0, rd1]
    have hb:=h.bd n (by omega)
    have hr:=h.rng n hn
    have hs:=sup_bd h p n (by omega)
    rw [wrap64_of (x:=supL l p n + pw l n) (by omega) (by omega), wrap64_of (x:=supM l p n + pw l n) (by omega) (by omega), wrap64_nat (by omega)]
    simp only [supL, supM] at ih
    refine Evt.ite (fun c => Evt.ite (fun c2 => ?_) (fun c2 => by omega)) (fun c => Evt.ite (fun c2 => ?_) (fun c2 => ?_))
    · rw [if_pos c, if_pos c2] at ih
      exact ih
    · rw [if_neg c, if_pos c2] at ih
      exact ih
    · rw [if_neg c, if_neg c2] at ih
      exact ih
def supR (s : ByteArray) (l : List St) (p : Int) : Int × Int × Int := if offErr s l = 0 then (if -2000000 ≤ p ∧ p ≤ 2000000 then (supL l p l.length, supM l p l.length, 0) else (0, 0, 4)) else (0, 0, offErr s l)
theorem Supply_ev (s : ByteArray) (l : List St) (p : Int) : Evt (fun k => offer_Supply.f k s l p) (supR s l p) := by
  simp only [offer_Supply.f]
  refine Evt.bind (Check_ev s l) ?_
  unfold supR
  by_cases h : offErr s l = 0
  · rw [if_pos h]
    refine Evt.ite_pos h ?_
    have hv:=(offErr_val h).2
    by_cases h1 : p < -2000000
    · rw [if_neg (by omega)]
      refine Evt.ite_pos h1 (Evt.succ ?_)
      simp only [offer_Supply.j0]
      exact Evt.ite_pos (by simp) (Evt.pure _)
    · refine Evt.ite_neg h1 (Evt.succ ?_)
      simp only [offer_Supply.j0]
      by_cases h2 : p > 2000000
      · rw [if_neg (by omega)]
        exact Evt.ite_pos (decide_eq_true h2) (Evt.pure _)
      · rw [if_pos (by omega)]
        refine Evt.ite_neg (by simpa using h2) ?_
        exact Supply_l0 l hv p 0 (by omega)
  · rw [if_neg h]
    exact Evt.ite_neg h (Evt.pure _)
theorem tot_le {l : List St} (h : Val l) {a b : Nat} (hab : a ≤ b) (hb : b ≤ l.length) : tot l a ≤ tot l b :=
  (tot_mono (n:=b) (fun m hm => (h.rng m (by omega)).1) a hab).2
theorem srt_le {l : List St} (h : Val l) {a b : Nat} (hab : a ≤ b) (hb : b < l.length) : pr l a ≤ pr l b := by
  induction b with
 |zero =>
    have : a = 0:=by omega
    rw [this]
    exact Int.le_refl _
 |succ b ih =>
    by_cases e : a = b + 1
    · rw [e]
      exact Int.le_refl _
    · have h1:=ih (by omega) (by omega)
      have h2:=h.srt (b + 1) (by omega) hb
      simp only [Nat.add_sub_cancel] at h2
      omega
def vl (l : List St) (p : Int) : Nat → Int
 |0 => 0
 |n + 1 => vl l p n + (p - pr l n) * pw l n
def bst (l : List St) (p : Int) : Nat → Int
 |0 => 0
 |n + 1 => if pr l n < p then bst l p n + (p - pr l n) * pw l n else bst l p n
theorem all_le (l : List St) (p : Int) : ∀ n, (∀ m, m < n → pr l m ≤ p) → supM l p n = tot l n ∧ vl l p n = bst l p n := by
  intro n
  induction n with
 |zero => intro _; exact ⟨rfl, rfl⟩
 |succ n ih =>
    intro h
    have h0:=ih (fun m hm => h m (by omega))
    have h1:=h n (by omega)
    simp only [supM, tot, vl, bst]
    rw [if_pos h1]
    refine ⟨by omega, ?_⟩
    by_cases c : pr l n < p
    · rw [if_pos c]
      omega
    · have e : p - pr l n = 0:=by omega
      rw [if_neg c, e, Int.zero_mul]
      omega
theorem all_lt (l : List St) (p : Int) : ∀ n, (∀ m, m < n → pr l m < p) → supL l p n = tot l n := by
  intro n
  induction n with
 |zero => intro _; rfl
 |succ n ih =>
    intro h
    simp only [supL, tot]
    rw [if_pos (h n (by omega)), ih (fun m hm => h m (by omega))]
theorem supL_at {l : List St} (h : Val l) (p : Int) : ∀ n, n ≤ l.length → ∃ A, A ≤ n ∧ (∀ j, j < A → pr l j < p) ∧ (∀ j, A ≤ j → j < n → ¬ pr l j < p) ∧ supL l p n = tot l A := by
  intro n
  induction n with
 |zero => intro _; exact ⟨0, by omega, fun j hj => by omega, fun j h1 h2 => by omega, rfl⟩
 |succ n ih =>
    intro hn
    by_cases c : pr l n < p
    · have ha : ∀ m, m < n + 1 → pr l m < p:=fun m hm => by
        have:=srt_le h (a:=m) (b:=n) (by omega) (by omega)
        omega
      exact ⟨n + 1, by omega, ha, fun j h1 h2 => by omega, all_lt l p (n + 1) ha⟩
    · obtain ⟨A, h1, h2, h3, h4⟩:=ih (by omega)
      refine ⟨A, by omega, h2, fun j a b => ?_, ?_⟩
      · by_cases e : j = n
        · rw [e]
          exact c
        · exact h3 j a (by omega)
      · simp only [supL]
        rw [if_neg c]
        exact h4
theorem supM_at {l : List St} (h : Val l) (p : Int) : ∀ n, n ≤ l.length → ∃ A, A ≤ n ∧ (∀ j, j < A → pr l j ≤ p) ∧ (∀ j, A ≤ j → j < n → ¬ pr l j ≤ p) ∧ supM l p n = tot l A := by
  intro n
  induction n with
 |zero => intro _; exact ⟨0, by omega, fun j hj => by omega, fun j h1 h2 => by omega, rfl⟩
 |succ n ih =>
    intro hn
    by_cases c : pr l n ≤ p
    · have ha : ∀ m, m < n + 1 → pr l m ≤ p:=fun m hm => by
        have:=srt_le h (a:=m) (b:=n) (by omega) (by omega)
        omega
      exact ⟨n + 1, by omega, ha, fun j h1 h2 => by omega, (all_le l p (n + 1) ha).1⟩
    · obtain ⟨A, h1, h2, h3, h4⟩:=ih (by omega)
      refine ⟨A, by omega, h2, fun j a b => ?_, ?_⟩
      · by_cases e : j = n
        · rw [e]
          exact c
        · exact h3 j a (by omega)
      · simp only [supM]
        rw [if_neg c]
        exact h4
theorem part_sum {l : List St} (h : Val l) {p : Int} (hp : 0 ≤ p) : ∀ n, n < l.length → BDualSingle.part l p n = mn p (tot l (n + 1)) - mn p (tot l n) := by
  intro n hn
  have h0:=(h.bd n (by omega)).1
  have hr:=(h.rng n hn).1
  have e : tot l (n + 1) = tot l n + pw l n:=rfl
  unfold BDualSingle.part
  rw [e]
  unfold mn mx
  repeat' split
  all_goals omega
theorem mul_sgn {a b : Int} (h : (0 ≤ a ∧ 0 ≤ b) ∨ (a ≤ 0 ∧ b ≤ 0)) : 0 ≤ a * b := by
  rcases h with ⟨h1, h2⟩|⟨h1, h2⟩
  · exact Int.mul_nonneg h1 h2
  · have:=Int.mul_nonneg (a:=-a) (b:=-b) (by omega) (by omega)
    rw [Int.neg_mul_neg] at this
    exact this
theorem sub_grad {l : List St} (h : Val l) {m f x lo : Int} (h0 : 0 ≤ lo) (hf : lo ≤ f) (hx : lo ≤ x) (hx2 : x ≤ tot l l.length) (hf2 : f ≤ tot l l.length) (hL : supL l m l.length ≤ f) (hM : f ≤ mx lo (supM l m l.length)) :
    m * (x - f) ≤ cst l x l.length - cst l f l.length:=by
  obtain ⟨A, hA, a1, a2, a3⟩:=supL_at h m l.length (Nat.le_refl _)
  obtain ⟨B, hB, b1, b2, b3⟩:=supM_at h m l.length (Nat.le_refl _)
  rw [a3] at hL
  rw [b3] at hM
  have all : ∀ n, n ≤ l.length → m * (mn x (tot l n) - mn f (tot l n)) ≤ cst l x n - cst l f n:=by
    intro n
    induction n with
   |zero =>
      intro _
      have e1 : mn x 0 = 0:=mn_ge (by omega)
      have e2 : mn f 0 = 0:=mn_ge (by omega)
      simp [cst, tot, e1, e2]
   |succ n ih =>
      intro hn
      have ih:=ih (by omega)
      simp only [cst]
      have px:=part_sum h (p:=x) (by omega) n (by omega)
      have pf:=part_sum h (p:=f) (by omega) n (by omega)
      have t1:=tot_le h (a:=n) (b:=n + 1) (by omega) hn
      have key : 0 ≤ (pr l n - m) * (BDualSingle.part l x n - BDualSingle.part l f n):=by
        refine mul_sgn ?_
        by_cases c1 : n < A
        · right
          have:=a1 n c1
          have t2:=tot_le h (a:=n + 1) (b:=A) (by omega) hA
          refine ⟨by omega, ?_⟩
          rw [px, pf]
          unfold mn
          repeat' split
          all_goals omega
        · have q1:=a2 n (by omega) (by omega)
          by_cases c2 : n < B
          · have q2:=b1 n c2
            have e : pr l n - m = 0:=by omega
            rw [e]
            by_cases c3 : 0 ≤ BDualSingle.part l x n - BDualSingle.part l f n
            · exact Or.inl ⟨by omega, c3⟩
            · exact Or.inr ⟨by omega, by omega⟩
          · have q2:=b2 n (by omega) (by omega)
            have t2:=tot_le h (a:=B) (b:=n) (by omega) (by omega)
            left
            refine ⟨by omega, ?_⟩
            rw [px, pf]
            revert hM
            unfold mx mn
            repeat' split
            all_goals omega
      rw [Int.sub_mul, Int.mul_sub, Int.mul_sub] at key
      rw [px, pf] at key ⊢
      rw [Int.mul_sub] at ih ⊢
      rw [Int.mul_sub, Int.mul_sub, Int.mul_sub, Int.mul_sub] at key
      rw [Int.mul_sub, Int.mul_sub]
      omega
  have:=all l.length (Nat.le_refl _)
  rw [mn_le hx2, mn_le hf2] at this
  exact this
end Go.Proofs.Ytdgjelbkogfedaa.BDualSingle
