/- Plain laws for InterlockSays. -/
import Derived.Test.YtielinaielicbaaCInterlockSays
namespace Go.Proofs.Ytielinaielicbaa.DInterlockSays
open Go.RowKit Go.Proofs.YtielinaielicbaaW.PrintWords Go.Proofs.YtielinaielicbaaW.PrintMore Go.Proofs.Ytielinaielicbaa.Evs Go.Proofs.Ytielinaielicbaa.PInterlockSays Go.Proofs.Ytielinaielicbaa.NInterlockSays Go.Proofs.Ytielinaielicbaa.BInterlockSays Go.Proofs.Ytielinaielicbaa.CInterlockSays
set_option linter.unusedVariables false
set_option linter.unusedSimpArgs false
/-! rules -/
def rl (l : List S122) (n : Nat) : S122 := l.getD n z122
theorem rd_rl (l : List S122) (n : Nat) : rd_T122 l (n : Int) = rl l n := by simp [rd_T122, rl]
def okRule (r : S122) : Prop := (0 < r.f2.length ∧ r.f2.length ≤ 40) ∧ ∀ j, j < r.f2.length → okNode r.f2 j
def small (l : List S122) : Prop := ∀ n, n < l.length → (rl l n).f1.size ≤ 9223372036854775806 ∧ ∀ j, j < (rl l n).f2.length → (nd (rl l n).f2 j).f1.size ≤ 9223372036854775806
theorem rules_l (l : List S122) (hl : l.length ≤ 24) (hs : small l) : ∀ n, n ≤ l.length → ∃ e, Evt (fun k => interlock_Check.l0 k l (l.length : Int) (n : Int)) e ∧ Evt (fun k => gridhallref4_RulesError.l0 k l (l.length : Int) (n : Int)) e ∧ (e = 0 → ∀ j, n ≤ j → j < l.length → okRule (rl l j)) := by
  refine down (P := fun n => ∃ e, Evt (fun k => interlock_Check.l0 k l (l.length : Int) (n : Int)) e ∧ Evt (fun k => gridhallref4_RulesError.l0 k l (l.length : Int) (n : Int)) e ∧ (e = 0 → ∀ j, n ≤ j → j < l.length → okRule (rl l j))) ?_ ?_
  · refine ⟨0, Evt.succ ?_, Evt.succ ?_, fun _ j a b => by omega⟩
    · simp only [interlock_Check.l0]
      exact Evt.ite_neg (by omega) (Evt.pure _)
    · simp only [gridhallref4_RulesError.l0]
      exact Evt.ite_neg (by omega) (Evt.pure _)
  · intro n hn ⟨e, A, B, g⟩
    have hs := hs n hn
    by_cases nm : isName (rl l n).f1
    · obtain ⟨e', A', B', g'⟩ := cond_ev (rl l n).f2 hs.2
      by_cases he : e' = 0
      · refine ⟨e, Evt.succ ?_, Evt.succ ?_, fun h0 j a b => ?_⟩
        · simp only [interlock_Check.l0, rd_rl]
          refine Evt.ite_pos (by omega) (Evt.ite_pos (by omega) (Evt.ite_pos (by omega) (Evt.bind (named_ev _ hs.1) ?_)))
          rw [decide_eq_true nm]
          refine Evt.ite_pos (by simp) (Evt.bind A' (Evt.ite_pos he ?_))
          rw [wrap64_nat (n := n) (by omega)]
          exact A
        · simp only [gridhallref4_RulesError.l0, rd_rl]
          refine Evt.ite_pos (by omega) (Evt.ite_pos (by omega) (Evt.ite_pos (by omega) (Evt.bind (refn_ev _) ?_)))
          rw [decide_eq_true nm]
          refine Evt.ite_pos (by simp) (Evt.bind B' (Evt.ite_pos he ?_))
          rw [wrap64_nat (n := n) (by omega)]
          exact B
        · by_cases c : j = n
          · subst c; exact g' he
          · exact g h0 j (by omega) b
      · refine ⟨e', Evt.succ ?_, Evt.succ ?_, fun h => absurd h he⟩
        · simp only [interlock_Check.l0, rd_rl]
          refine Evt.ite_pos (by omega) (Evt.ite_pos (by omega) (Evt.ite_pos (by omega) (Evt.bind (named_ev _ hs.1) ?_)))
          rw [decide_eq_true nm]
          exact Evt.ite_pos (by simp) (Evt.bind A' (Evt.ite_neg he (Evt.pure _)))
        · simp only [gridhallref4_RulesError.l0, rd_rl]
          refine Evt.ite_pos (by omega) (Evt.ite_pos (by omega) (Evt.ite_pos (by omega) (Evt.bind (refn_ev _) ?_)))
          rw [decide_eq_true nm]
          exact Evt.ite_pos (by simp) (Evt.bind B' (Evt.ite_neg he (Evt.pure _)))
    · refine ⟨6, Evt.succ ?_, Evt.succ ?_, fun h => absurd h (by decide)⟩
      · simp only [interlock_Check.l0, rd_rl]
        refine Evt.ite_pos (by omega) (Evt.ite_pos (by omega) (Evt.ite_pos (by omega) (Evt.bind (named_ev _ hs.1) ?_)))
        rw [decide_eq_false nm]
        exact Evt.ite_neg (by simp) (Evt.pure _)
      · simp only [gridhallref4_RulesError.l0, rd_rl]
        refine Evt.ite_pos (by omega) (Evt.ite_pos (by omega) (Evt.ite_pos (by omega) (Evt.bind (refn_ev _) ?_)))
        rw [decide_eq_false nm]
        exact Evt.ite_neg (by simp) (Evt.pure _)
theorem rules_ev (l : List S122) (hs : small l) : ∃ e, Evt (fun k => interlock_Check.f k l) e ∧ Evt (fun k => gridhallref4_RulesError.f k l) e ∧ (e = 0 → l.length ≤ 24 ∧ ∀ j, j < l.length → okRule (rl l j)) := by
  simp only [interlock_Check.f, gridhallref4_RulesError.f]
  by_cases c : (l.length : Int) > 24
  · exact ⟨2, Evt.ite_pos c (Evt.pure _), Evt.ite_pos c (Evt.pure _), fun h => absurd h (by decide)⟩
  obtain ⟨e, A, B, g⟩ := rules_l l (by omega) hs 0 (by omega)
  exact ⟨e, Evt.ite_neg c A, Evt.ite_neg c B, fun h => ⟨by omega, fun j hj => g h j (by omega) hj⟩⟩
/-! states -/
def sx (l : List S63) (n : Nat) : S63 := l.getD n z63
theorem rd_sx (l : List S63) (n : Nat) : rd_T63 l (n : Int) = sx l n := by simp [rd_T63, sx]
def nm (l : List S63) (n : Nat) : List UInt8 := (sx l n).f0.toList
theorem nm_take (l : List S63) (n j : Nat) (h : j < n) : nm (l.take n) j = nm l j := by
  unfold nm sx
  rw [List.getD_eq_getElem?_getD, List.getD_eq_getElem?_getD, List.getElem?_take, if_pos h]
theorem toL_beq (a b : List UInt8) : (a == b) = decide (a = b) := by
  by_cases h : a = b
  · rw [decide_eq_true h]; simpa using h
  · rw [decide_eq_false h]; simpa using h
theorem index_l (xs : List S63) (x : S63) (hl : xs.length ≤ 32) : ∀ n, n ≤ xs.length → ∃ r, Evt (fun k => slices_IndexFunc_of_CheckStates_1.l0 k xs (xs.length : Int) (n : Int) [x]) r ∧ (0 ≤ r ↔ ∃ j, n ≤ j ∧ j < xs.length ∧ nm xs j = x.f0.toList) := by
  refine down (P := fun n => ∃ r, Evt (fun k => slices_IndexFunc_of_CheckStates_1.l0 k xs (xs.length : Int) (n : Int) [x]) r ∧ (0 ≤ r ↔ ∃ j, n ≤ j ∧ j < xs.length ∧ nm xs j = x.f0.toList)) ?_ ?_
  · refine ⟨-1, Evt.succ ?_, ⟨fun h => by omega, fun ⟨j, a, b, _⟩ => by omega⟩⟩
    simp only [slices_IndexFunc_of_CheckStates_1.l0]
    exact Evt.ite_neg (by omega) (Evt.pure _)
  · intro n hn ⟨r, R, g⟩
    have hd : interlock_CheckStates_1.f (sx xs n).f0 (sx xs n).f1 [x] = some (decide (nm xs n = x.f0.toList)) := by
      have e : rd_T63 [x] 0 = x := rfl
      simp only [interlock_CheckStates_1.f, e, toL_beq]
      exact if_pos (by simp)
    by_cases c : nm xs n = x.f0.toList
    · refine ⟨n, Evt.succ ?_, ⟨fun _ => ⟨n, by omega, hn, c⟩, fun _ => by omega⟩⟩
      simp only [slices_IndexFunc_of_CheckStates_1.l0, rd_sx]
      refine Evt.ite_pos (by omega) (Evt.ite_pos (by omega) (Evt.ite_pos (by omega) (Evt.bindo hd ?_)))
      rw [decide_eq_true c]
      exact Evt.ite_pos (by simp) (Evt.pure _)
    · refine ⟨r, Evt.succ ?_, g.trans ⟨fun ⟨j, a, b, d⟩ => ⟨j, by omega, b, d⟩, fun ⟨j, a, b, d⟩ => ⟨j, by rcases Nat.lt_or_eq_of_le a with a | a; exact a; subst a; exact absurd d c, b, d⟩⟩⟩
      simp only [slices_IndexFunc_of_CheckStates_1.l0, rd_sx]
      refine Evt.ite_pos (by omega) (Evt.ite_pos (by omega) (Evt.ite_pos (by omega) (Evt.bindo hd ?_)))
      rw [decide_eq_false c, wrap64_nat (n := n) (by omega)]
      exact Evt.ite_neg (by simp) R
theorem contains_ev (xs : List S63) (x : S63) (hl : xs.length ≤ 32) : Evt (fun k => slices_ContainsFunc_of_CheckStates_1.f k xs [x]) (decide (∃ j, j < xs.length ∧ nm xs j = x.f0.toList)) := by
  obtain ⟨r, R, g⟩ := index_l xs x hl 0 (by omega)
  simp only [slices_ContainsFunc_of_CheckStates_1.f]
  refine Evt.bind (by simp only [slices_IndexFunc_of_CheckStates_1.f]; exact R) (Evt.of_eq (decide_eq_decide.2 ?_))
  exact g.trans ⟨fun ⟨j, _, b, d⟩ => ⟨j, b, d⟩, fun ⟨j, b, d⟩ => ⟨j, by omega, b, d⟩⟩
open Classical in
theorem inner_l (l : List S63) (hl : l.length ≤ 32) (n : Nat) (hn : n < l.length) (s : ByteArray) (b : Bool) (r : Int) : ∀ j, j ≤ n → (if ∃ i, j ≤ i ∧ i < n ∧ nm l i = s.toList then r = 7 else Evt (fun k => gridhallref4_StatesError.l0 k l l (l.length : Int) ((n + 1 : Nat) : Int)) r) →
    Evt (fun k => gridhallref4_StatesError.l1 k l l (l.length : Int) (n : Int) (l.take n) (((l.take n).length : Nat) : Int) (j : Int) s b) r := by
  have tl : (l.take n).length = n := by rw [List.length_take]; omega
  refine down (P := fun j => (if ∃ i, j ≤ i ∧ i < n ∧ nm l i = s.toList then r = 7 else Evt (fun k => gridhallref4_StatesError.l0 k l l (l.length : Int) ((n + 1 : Nat) : Int)) r) → Evt (fun k => gridhallref4_StatesError.l1 k l l (l.length : Int) (n : Int) (l.take n) (((l.take n).length : Nat) : Int) (j : Int) s b) r) ?_ ?_
  · intro h
    rw [if_neg (fun ⟨i, a, b, _⟩ => by omega)] at h
    refine Evt.succ ?_
    simp only [gridhallref4_StatesError.l1]
    rw [tl, wrap64_nat (n := n) (by omega)]
    exact Evt.ite_neg (by omega) h
  · intro j hj ih h
    refine Evt.succ ?_
    simp only [gridhallref4_StatesError.l1, rd_sx]
    have e : (sx (l.take n) j).f0.toList = nm l j := nm_take l n j hj
    refine Evt.ite_pos (by omega) (Evt.ite_pos (by omega) (Evt.ite_pos (by omega) (Evt.ite (fun c => ?_) (fun c => ?_))))
    · rw [e] at c
      rw [if_pos ⟨j, by omega, hj, c⟩] at h
      exact Evt.of_eq h.symm
    · rw [e] at c
      rw [wrap64_nat (n := j) (by omega)]
      refine ih ?_
      by_cases d : ∃ i, j + 1 ≤ i ∧ i < n ∧ nm l i = s.toList
      · rw [if_pos d]
        obtain ⟨i, a, b, d⟩ := d
        rw [if_pos ⟨i, by omega, b, d⟩] at h
        exact h
      · rw [if_neg d]
        rw [if_neg (fun ⟨i, a, b, x⟩ => d ⟨i, by rcases Nat.lt_or_eq_of_le a with a | a; exact a; subst a; exact absurd x c, b, x⟩)] at h
        exact h
def once (l : List S63) : Prop := ∀ i j, i < j → j < l.length → nm l i ≠ nm l j
open Classical in
theorem states_l (l : List S63) (hl : l.length ≤ 32) (hs : ∀ j, j < l.length → (sx l j).f0.size ≤ 9223372036854775806) : ∀ n, n ≤ l.length → ∃ e, Evt (fun k => interlock_CheckStates.l0 k l l (l.length : Int) (n : Int)) e ∧ Evt (fun k => gridhallref4_StatesError.l0 k l l (l.length : Int) (n : Int)) e ∧ (e = 0 → ∀ j, n ≤ j → j < l.length → ∀ i, i < j → nm l i ≠ nm l j) := by
  refine down (P := fun n => ∃ e, Evt (fun k => interlock_CheckStates.l0 k l l (l.length : Int) (n : Int)) e ∧ Evt (fun k => gridhallref4_StatesError.l0 k l l (l.length : Int) (n : Int)) e ∧ (e = 0 → ∀ j, n ≤ j → j < l.length → ∀ i, i < j → nm l i ≠ nm l j)) ?_ ?_
  · refine ⟨0, Evt.succ ?_, Evt.succ ?_, fun _ j a b => by omega⟩
    · simp only [interlock_CheckStates.l0]
      exact Evt.ite_neg (by omega) (Evt.pure _)
    · simp only [gridhallref4_StatesError.l0]
      exact Evt.ite_neg (by omega) (Evt.pure _)
  · intro n hn ⟨e, A, B, g⟩
    have tl : (l.take n).length = n := by rw [List.length_take]; omega
    by_cases cn : isName (sx l n).f0
    · have cc := contains_ev (l.take n) ⟨(sx l n).f0, (sx l n).f1⟩ (by omega)
      have ex : (∃ j, j < (l.take n).length ∧ nm (l.take n) j = (sx l n).f0.toList) ↔ ∃ i, 0 ≤ i ∧ i < n ∧ nm l i = (sx l n).f0.toList := by
        rw [tl]
        exact ⟨fun ⟨j, a, b⟩ => ⟨j, by omega, a, by rw [← nm_take l n j a]; exact b⟩, fun ⟨j, _, a, b⟩ => ⟨j, a, by rw [nm_take l n j a]; exact b⟩⟩
      have both : ∀ r, (if ∃ i, 0 ≤ i ∧ i < n ∧ nm l i = (sx l n).f0.toList then r = 7 else r = e) → Evt (fun k => interlock_CheckStates.l0 k l l (l.length : Int) (n : Int)) r ∧ Evt (fun k => gridhallref4_StatesError.l0 k l l (l.length : Int) (n : Int)) r := by
        intro r hr
        refine ⟨Evt.succ ?_, Evt.succ ?_⟩
        · simp only [interlock_CheckStates.l0, rd_sx]
          refine Evt.ite_pos (by omega) (Evt.ite_pos (by omega) (Evt.ite_pos (by omega) (Evt.bind (named_ev _ (hs n hn)) ?_)))
          rw [decide_eq_true cn, Int.toNat_natCast]
          refine Evt.ite_pos (by simp) (Evt.ite_pos (by omega) (Evt.bind cc ?_))
          by_cases d : ∃ i, 0 ≤ i ∧ i < n ∧ nm l i = (sx l n).f0.toList
          · rw [if_pos d] at hr
            rw [decide_eq_true (ex.2 d)]
            exact Evt.ite_pos (by simp) (Evt.of_eq hr.symm)
          · rw [if_neg d] at hr
            subst hr
            rw [decide_eq_false (fun x => d (ex.1 x)), wrap64_nat (n := n) (by omega)]
            exact Evt.ite_neg (by simp) A
        · simp only [gridhallref4_StatesError.l0, rd_sx]
          refine Evt.ite_pos (by omega) (Evt.ite_pos (by omega) (Evt.ite_pos (by omega) (Evt.bind (refn_ev _) ?_)))
          rw [decide_eq_true cn, Int.toNat_natCast]
          refine Evt.ite_pos (by simp) (Evt.ite_pos (by omega) (Evt.bindo rfl ?_))
          refine inner_l l hl n hn _ _ r 0 (by omega) ?_
          by_cases d : ∃ i, 0 ≤ i ∧ i < n ∧ nm l i = (sx l n).f0.toList
          · rw [if_pos d] at hr ⊢
            exact hr
          · rw [if_neg d] at hr ⊢
            subst hr
            exact B
      by_cases d : ∃ i, 0 ≤ i ∧ i < n ∧ nm l i = (sx l n).f0.toList
      · obtain ⟨a, b⟩ := both 7 (by rw [if_pos d])
        exact ⟨7, a, b, fun h => absurd h (by decide)⟩
      · obtain ⟨a, b⟩ := both e (by rw [if_neg d])
        refine ⟨e, a, b, fun h j x y i hi => ?_⟩
        by_cases c : j = n
        · subst c
          exact fun z => d ⟨i, by omega, hi, z⟩
        · exact g h j (by omega) y i hi
    · refine ⟨6, Evt.succ ?_, Evt.succ ?_, fun h => absurd h (by decide)⟩
      · simp only [interlock_CheckStates.l0, rd_sx]
        refine Evt.ite_pos (by omega) (Evt.ite_pos (by omega) (Evt.ite_pos (by omega) (Evt.bind (named_ev _ (hs n hn)) ?_)))
        rw [decide_eq_false cn]
        exact Evt.ite_neg (by simp) (Evt.pure _)
      · simp only [gridhallref4_StatesError.l0, rd_sx]
        refine Evt.ite_pos (by omega) (Evt.ite_pos (by omega) (Evt.ite_pos (by omega) (Evt.bind (refn_ev _) ?_)))
        rw [decide_eq_false cn]
        exact Evt.ite_neg (by simp) (Evt.pure _)
theorem states_ev (l : List S63) (hs : ∀ j, j < l.length → (sx l j).f0.size ≤ 9223372036854775806) : ∃ e, Evt (fun k => interlock_CheckStates.f k l) e ∧ Evt (fun k => gridhallref4_StatesError.f k l) e ∧ (e = 0 → l.length ≤ 32 ∧ once l) := by
  simp only [interlock_CheckStates.f, gridhallref4_StatesError.f]
  by_cases c : (l.length : Int) > 32
  · exact ⟨2, Evt.ite_pos c (Evt.pure _), Evt.ite_pos c (Evt.pure _), fun h => absurd h (by decide)⟩
  obtain ⟨e, A, B, g⟩ := states_l l (by omega) hs 0 (by omega)
  exact ⟨e, Evt.ite_neg c A, Evt.ite_neg c B, fun h => ⟨by omega, fun i j a b => g h j (by omega) b i a⟩⟩
/-- The first state of a switch. -/
theorem find_l (xs : List S63) (s : ByteArray) (hl : xs.length ≤ 32) : ∀ n, n ≤ xs.length → (∃ j, n ≤ j ∧ j < xs.length ∧ nm xs j = s.toList ∧ Evt (fun k => slices_IndexFunc_of_find_1.l0 k xs (xs.length : Int) (n : Int) [s]) (j : Int)) ∨ ((∀ j, n ≤ j → j < xs.length → nm xs j ≠ s.toList) ∧ Evt (fun k => slices_IndexFunc_of_find_1.l0 k xs (xs.length : Int) (n : Int) [s]) (-1)) := by
  refine down (P := fun n => (∃ j, n ≤ j ∧ j < xs.length ∧ nm xs j = s.toList ∧ Evt (fun k => slices_IndexFunc_of_find_1.l0 k xs (xs.length : Int) (n : Int) [s]) (j : Int)) ∨ ((∀ j, n ≤ j → j < xs.length → nm xs j ≠ s.toList) ∧ Evt (fun k => slices_IndexFunc_of_find_1.l0 k xs (xs.length : Int) (n : Int) [s]) (-1))) ?_ ?_
  · refine Or.inr ⟨fun j a b => by omega, Evt.succ ?_⟩
    simp only [slices_IndexFunc_of_find_1.l0]
    exact Evt.ite_neg (by omega) (Evt.pure _)
  · intro n hn ih
    have hd : interlock_find_1.f (sx xs n).f0 (sx xs n).f1 [s] = some (decide (nm xs n = s.toList)) := by
      have e : rdOf ByteArray.empty [s] 0 = s := rfl
      simp only [interlock_find_1.f, e, toL_beq]
      exact if_pos (by simp)
    by_cases c : nm xs n = s.toList
    · refine Or.inl ⟨n, by omega, hn, c, Evt.succ ?_⟩
      simp only [slices_IndexFunc_of_find_1.l0, rd_sx]
      refine Evt.ite_pos (by omega) (Evt.ite_pos (by omega) (Evt.ite_pos (by omega) (Evt.bindo hd ?_)))
      rw [decide_eq_true c]
      exact Evt.ite_pos (by simp) (Evt.pure _)
    · have go : ∀ r, Evt (fun k => slices_IndexFunc_of_find_1.l0 k xs (xs.length : Int) ((n + 1 : Nat) : Int) [s]) r → Evt (fun k => slices_IndexFunc_of_find_1.l0 k xs (xs.length : Int) (n : Int) [s]) r := by
        intro r R
        refine Evt.succ ?_
        simp only [slices_IndexFunc_of_find_1.l0, rd_sx]
        refine Evt.ite_pos (by omega) (Evt.ite_pos (by omega) (Evt.ite_pos (by omega) (Evt.bindo hd ?_)))
        rw [decide_eq_false c, wrap64_nat (n := n) (by omega)]
        exact Evt.ite_neg (by simp) R
      rcases ih with ⟨j, a, b, d, R⟩ | ⟨a, R⟩
      · exact Or.inl ⟨j, by omega, b, d, go _ R⟩
      · exact Or.inr ⟨fun j x y => by
          by_cases e : j = n
          · subst e; exact c
          · exact a j (by omega) y, go _ R⟩
theorem find_ev (xs : List S63) (s : ByteArray) (hl : xs.length ≤ 32) : (∃ j, j < xs.length ∧ nm xs j = s.toList ∧ Evt (fun k => interlock_find.f k xs s) (j : Int)) ∨ ((∀ j, j < xs.length → nm xs j ≠ s.toList) ∧ Evt (fun k => interlock_find.f k xs s) (-1)) := by
  simp only [interlock_find.f, slices_IndexFunc_of_find_1.f]
  rcases find_l xs s hl 0 (by omega) with ⟨j, a, b, d, R⟩ | ⟨a, R⟩
  · exact Or.inl ⟨j, b, d, Evt.bind R (Evt.pure _)⟩
  · exact Or.inr ⟨fun j x => a j (by omega) x, Evt.bind R (Evt.pure _)⟩
end Go.Proofs.Ytielinaielicbaa.DInterlockSays
