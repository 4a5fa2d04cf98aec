/- InterlockSays holds: for all rules, states, operations and names Check, CheckStates, Explain and Permitted return what the reference returns; no condition. -/
import Derived.Test.YtielinaielicbaaGInterlockSays
import Derived.Test.YtielinaielicbaaRowInterlockSays
namespace Go.Proofs.Ytielinaielicbaa.FInterlockSays
open Go.RowKit Go.Proofs.YtielinaielicbaaW.PrintWords Go.Proofs.YtielinaielicbaaW.PrintMore Go.Proofs.Ytielinaielicbaa.Evs Go.Proofs.Ytielinaielicbaa.PInterlockSays Go.Proofs.Ytielinaielicbaa.NInterlockSays Go.Proofs.Ytielinaielicbaa.BInterlockSays Go.Proofs.Ytielinaielicbaa.CInterlockSays Go.Proofs.Ytielinaielicbaa.DInterlockSays Go.Proofs.Ytielinaielicbaa.GInterlockSays
set_option linter.unusedVariables false
set_option linter.unusedSimpArgs false
theorem cond_same {r : S122} (hr : okRule r) {st : List S63} (hl : st.length ≤ 32) (h1 : once st) : ∃ b, Evt (fun k => interlock_holds.f k r.f2 st) b ∧ Evt (fun k => gridhallref4_Holds.f k r.f2 ((r.f2.length : Int) - 1) st) b := by
  obtain ⟨V, hV⟩ := val_ex (l := r.f2) h1 r.f2.length (Nat.le_refl _) hr.2
  refine ⟨V (r.f2.length - 1), ?_, ?_⟩
  · have A := code_holds hr.1.2 hr.1.1 hl h1 hr.2 hV r.f2.length 0 (List.replicate r.f2.length false) (by omega) (by omega) (by simp) (fun j h => by omega) (fun j _ => by
      rw [List.getD_eq_getElem?_getD, List.getElem?_replicate]
      split <;> rfl)
    simp only [interlock_holds.f]
    rw [Int.toNat_natCast]
    have := hr.1
    exact Evt.ite_pos (by omega) (Evt.ite_pos (by omega) A)
  · have B := ref_holds hl h1 hr.2 hV r.f2.length (r.f2.length - 1) (by have := hr.1; omega) (by have := hr.1; omega)
    have e : ((r.f2.length - 1 : Nat) : Int) = (r.f2.length : Int) - 1 := by have := hr.1; omega
    rw [e] at B
    exact B
theorem same_l (xs : List Int) (hl : xs.length ≤ 24) : ∀ n, n ≤ xs.length → Evt (fun k => gridhallref4_Same_int.l0 k xs xs (xs.length : Int) (n : Int)) true := by
  refine down ?_ ?_
  · refine Evt.succ ?_
    simp only [gridhallref4_Same_int.l0]
    exact Evt.ite_neg (by omega) (Evt.pure _)
  · intro n hn ih
    refine Evt.succ ?_
    simp only [gridhallref4_Same_int.l0]
    rw [wrap64_nat (n := n) (by omega)]
    exact Evt.ite_pos (by omega) (Evt.ite_pos (by omega) (Evt.ite_pos (by omega) (Evt.ite_pos (by omega) (Evt.ite_pos (by simp) ih))))
theorem same_ev (xs : List Int) (hl : xs.length ≤ 24) : Evt (fun k => gridhallref4_Same_int.f k xs xs) true := by
  simp only [gridhallref4_Same_int.f]
  exact Evt.ite_pos (by simp) (same_l xs hl 0 (by omega))
theorem list_l {l : List S122} (hl : l.length ≤ 24) (hr : ∀ j, j < l.length → okRule (rl l j)) {st : List S63} (hs : st.length ≤ 32) (h1 : once st) (c : Bool) (s : ByteArray) : ∀ n, n ≤ l.length → ∀ out : List Int, out.length ≤ n → ∃ r, r.length ≤ 24 ∧ Evt (fun k => interlock_Explain.l0 k st c s out l (l.length : Int) (n : Int)) (r, 0) ∧ Evt (fun k => gridhallref4_Forbids.l0 k st c s out l (l.length : Int) (n : Int)) r := by
  refine down (P := fun n => ∀ out : List Int, out.length ≤ n → ∃ r, r.length ≤ 24 ∧ Evt (fun k => interlock_Explain.l0 k st c s out l (l.length : Int) (n : Int)) (r, 0) ∧ Evt (fun k => gridhallref4_Forbids.l0 k st c s out l (l.length : Int) (n : Int)) r) ?_ ?_
  · intro out ho
    refine ⟨out, by omega, Evt.succ ?_, Evt.succ ?_⟩
    · simp only [interlock_Explain.l0]
      exact Evt.ite_neg (by omega) (Evt.pure _)
    · simp only [gridhallref4_Forbids.l0]
      exact Evt.ite_neg (by omega) (Evt.pure _)
  · intro n hn ih out ho
    have okr := hr n hn
    obtain ⟨b, A, B⟩ := cond_same okr hs h1
    by_cases c1 : ((rl l n).f0 == c) = true
    · by_cases c2 : (rl l n).f1.toList = s.toList
      · have pick : ∃ out' : List Int, out'.length ≤ n + 1 ∧ out' = if b = true then out else out ++ [(n : Int)] := ⟨_, (by split; (· omega); (· simp only [List.length_append, List.length_cons, List.length_nil]; omega)), rfl⟩
        obtain ⟨out', ho', he⟩ := pick
        obtain ⟨r, hlen, R1, R2⟩ := ih out' ho'
        refine ⟨r, hlen, Evt.succ ?_, Evt.succ ?_⟩
        · simp only [interlock_Explain.l0, rd_rl]
          refine Evt.ite_pos (by omega) (Evt.ite_pos (by omega) (Evt.ite_pos (by omega) (Evt.ite_pos c1 (Evt.ite_pos c2 (Evt.bind A ?_)))))
          rw [wrap64_nat (n := n) (by omega)]
          refine Evt.ite (fun h => ?_) (fun h => Evt.ite_pos (by omega) ?_)
          · rw [if_pos h] at he; rw [he] at R1; exact R1
          · rw [if_neg h] at he; rw [he] at R1; exact R1
        · simp only [gridhallref4_Forbids.l0, rd_rl]
          refine Evt.ite_pos (by omega) (Evt.ite_pos (by omega) (Evt.ite_pos (by omega) (Evt.ite_pos c1 (Evt.ite_pos c2 ?_))))
          rw [wpredi (n := (rl l n).f2.length) (by have := okr.1; omega), wrap64_nat (n := n) (by omega)]
          refine Evt.bind B (Evt.ite (fun h => ?_) (fun h => Evt.ite_pos (by omega) ?_))
          · rw [if_pos h] at he; rw [he] at R2; exact R2
          · rw [if_neg h] at he; rw [he] at R2; exact R2
      · obtain ⟨r, hlen, R1, R2⟩ := ih out (by omega)
        refine ⟨r, hlen, Evt.succ ?_, Evt.succ ?_⟩
        · simp only [interlock_Explain.l0, rd_rl]
          rw [wrap64_nat (n := n) (by omega)]
          exact Evt.ite_pos (by omega) (Evt.ite_pos (by omega) (Evt.ite_pos (by omega) (Evt.ite_pos c1 (Evt.ite_neg c2 R1))))
        · simp only [gridhallref4_Forbids.l0, rd_rl]
          rw [wrap64_nat (n := n) (by omega)]
          exact Evt.ite_pos (by omega) (Evt.ite_pos (by omega) (Evt.ite_pos (by omega) (Evt.ite_pos c1 (Evt.ite_neg c2 R2))))
    · obtain ⟨r, hlen, R1, R2⟩ := ih out (by omega)
      refine ⟨r, hlen, Evt.succ ?_, Evt.succ ?_⟩
      · simp only [interlock_Explain.l0, rd_rl]
        rw [wrap64_nat (n := n) (by omega)]
        exact Evt.ite_pos (by omega) (Evt.ite_pos (by omega) (Evt.ite_pos (by omega) (Evt.ite_neg c1 R1)))
      · simp only [gridhallref4_Forbids.l0, rd_rl]
        rw [wrap64_nat (n := n) (by omega)]
        exact Evt.ite_pos (by omega) (Evt.ite_pos (by omega) (Evt.ite_pos (by omega) (Evt.ite_neg c1 R2)))
/-- The law's own look for the switch. -/
theorem known_l {st : List S63} (hs : st.length ≤ 9223372036854775806) (l : List S122) (c : Bool) (s : ByteArray) {a b : Int} {r : Bool} : ∀ n, n ≤ st.length → ∀ f : Bool,
    (∀ g : Bool, (g = true ↔ f = true ∨ ∃ q, n ≤ q ∧ At st s q) → Evt (fun k => (if a = 0 then (if b = 0 then (if g = true then (gridhalllaw4_InterlockSays.j2 k l st c s 0) else (gridhalllaw4_InterlockSays.j2 k l st c s 8)) else (gridhalllaw4_InterlockSays.j2 k l st c s b)) else (gridhalllaw4_InterlockSays.j2 k l st c s a))) r) →
    Evt (fun k => gridhalllaw4_InterlockSays.l0 k l st c s a b f st (st.length : Int) (n : Int)) r := by
  refine down (P := fun n => ∀ f : Bool,
    (∀ g : Bool, (g = true ↔ f = true ∨ ∃ q, n ≤ q ∧ At st s q) → Evt (fun k => (if a = 0 then (if b = 0 then (if g = true then (gridhalllaw4_InterlockSays.j2 k l st c s 0) else (gridhalllaw4_InterlockSays.j2 k l st c s 8)) else (gridhalllaw4_InterlockSays.j2 k l st c s b)) else (gridhalllaw4_InterlockSays.j2 k l st c s a))) r) →
    Evt (fun k => gridhalllaw4_InterlockSays.l0 k l st c s a b f st (st.length : Int) (n : Int)) r) ?_ ?_
  · intro f h
    refine Evt.succ ?_
    simp only [gridhalllaw4_InterlockSays.l0]
    exact Evt.ite_neg (by omega) (h f ⟨fun x => Or.inl x, fun x => by rcases x with x | ⟨q, a, b⟩; exact x; have := b.1; omega⟩)
  · intro n hn ih f h
    refine Evt.succ ?_
    simp only [gridhalllaw4_InterlockSays.l0, rd_sx]
    rw [wrap64_nat (n := n) (by omega)]
    refine Evt.ite_pos (by omega) (Evt.ite_pos (by omega) (Evt.ite_pos (by omega) (Evt.ite (fun hf => ih true (fun g hg => h g ?_)) (fun hf => ih _ (fun g hg => h g ?_)))))
    · rw [hg]
      exact ⟨fun _ => Or.inl hf, fun _ => Or.inl rfl⟩
    · rw [hg]
      refine ⟨fun x => ?_, fun x => ?_⟩
      · rcases x with x | ⟨q, y, z⟩
        · exact Or.inr ⟨n, Nat.le_refl _, hn, eq_of_beq x⟩
        · exact Or.inr ⟨q, by omega, z⟩
      · rcases x with x | ⟨q, y, z⟩
        · exact absurd x hf
        · by_cases e : q = n
          · subst e
            exact Or.inl (by rw [show ((sx st q).f0.toList == s.toList) = decide (nm st q = s.toList) from toL_beq _ _]; exact decide_eq_true z.2)
          · exact Or.inr ⟨q, by omega, z⟩
theorem j2_ev {l : List S122} (hsl : small l) {st : List S63} (c : Bool) (s : ByteArray) {a b : Int} (A : Evt (fun k => interlock_Check.f k l) a) (B : Evt (fun k => interlock_CheckStates.f k st) b) (ga : a = 0 → l.length ≤ 24 ∧ ∀ j, j < l.length → okRule (rl l j)) (gb : b = 0 → st.length ≤ 32 ∧ once st) (w : Int)
    (hw : (a ≠ 0 ∧ w = a) ∨ (a = 0 ∧ b ≠ 0 ∧ w = b) ∨ (a = 0 ∧ b = 0 ∧ w = 8 ∧ ∀ q, ¬ At st s q) ∨ (a = 0 ∧ b = 0 ∧ w = 0 ∧ ∃ q, At st s q)) : Evt (fun k => gridhalllaw4_InterlockSays.j2 k l st c s w) true := by
  have fail : w ≠ 0 → Evt (fun k => interlock_Explain.f k l st c s) ([], w) → Evt (fun k => gridhalllaw4_InterlockSays.j2 k l st c s w) true := by
    intro hw0 E
    have P : Evt (fun k => interlock_Permitted.f k l st c s) (false, w) := by
      simp only [interlock_Permitted.f]
      exact Evt.bind E (Evt.ite_neg hw0 (Evt.pure _))
    refine Evt.succ ?_
    simp only [gridhalllaw4_InterlockSays.j2]
    exact Evt.bind E (Evt.bind P (Evt.ite_neg hw0 (Evt.ite_pos (by simp) (Evt.ite_pos (by simp) (Evt.ite_pos (by simp) (Evt.of_eq (by simp)))))))
  rcases hw with ⟨h, rfl⟩ | ⟨h, h2, rfl⟩ | ⟨h, h2, rfl, no⟩ | ⟨h, h2, rfl, q, hq⟩
  · refine fail h ?_
    simp only [interlock_Explain.f]
    exact Evt.bind A (Evt.ite_neg h (Evt.pure _))
  · refine fail h2 ?_
    simp only [interlock_Explain.f]
    exact Evt.bind A (Evt.ite_pos h (Evt.bind B (Evt.ite_neg h2 (Evt.pure _))))
  · refine fail (by decide) ?_
    obtain ⟨hs, h1⟩ := gb h2
    simp only [interlock_Explain.f]
    rcases find_ev st s hs with ⟨m, x, y, F⟩ | ⟨x, F⟩
    · exact absurd ⟨x, y⟩ (no m)
    · exact Evt.bind A (Evt.ite_pos h (Evt.bind B (Evt.ite_pos h2 (Evt.bind F (Evt.ite_pos (by omega) (Evt.pure _))))))
  · obtain ⟨hs, h1⟩ := gb h2
    obtain ⟨hl, hr⟩ := ga h
    obtain ⟨r, hlen, R1, R2⟩ := list_l hl hr hs h1 c s 0 (by omega) [] (by simp)
    have E : Evt (fun k => interlock_Explain.f k l st c s) (r, 0) := by
      simp only [interlock_Explain.f]
      rcases find_ev st s hs with ⟨m, x, y, F⟩ | ⟨x, F⟩
      · exact Evt.bind A (Evt.ite_pos h (Evt.bind B (Evt.ite_pos h2 (Evt.bind F (Evt.ite_neg (by omega) R1)))))
      · exact absurd hq.2 (x q hq.1)
    have P : Evt (fun k => interlock_Permitted.f k l st c s) (((r.length : Int) == 0), 0) := by
      simp only [interlock_Permitted.f]
      exact Evt.bind E (Evt.ite_pos rfl (Evt.pure _))
    have F : Evt (fun k => gridhallref4_Forbids.f k l st c s) r := by
      simp only [gridhallref4_Forbids.f]
      exact R2
    refine Evt.succ ?_
    simp only [gridhalllaw4_InterlockSays.j2]
    exact Evt.bind E (Evt.bind P (Evt.ite_pos (by simp) (Evt.bind F (Evt.ite_pos (by simp) (Evt.ite_pos (by simp) (Evt.bind (same_ev r hlen) (Evt.ite_pos rfl (Evt.of_eq (by simp)))))))))
theorem Evt.of_mono {α : Type} {g : Nat → Option α} (hm : ∀ k r, g k = some r → g (k + 1) = some r) {K : Nat} {r : α} (h : g K = some r) : Evt g r := by
  refine ⟨K, fun k hk => ?_⟩
  obtain ⟨d, rfl⟩ : ∃ d, k = K + d := ⟨k - K, by omega⟩
  induction d with
  | zero => exact h
  | succ d ih => exact hm _ _ (ih (by omega))
theorem fact_ev : Evt (fun k => gridhalllaw4_interlockFact.f k) true := Evt.of_mono (fun k r h => gridhalllaw4_interlockFact.mono k r h) (K := 40) (by decide +kernel)
theorem law (l : List S122) (st : List S63) (c : Bool) (s : ByteArray) (hsl : small l) (hss : ∀ j, j < st.length → (sx st j).f0.size ≤ 9223372036854775806) (hs63 : st.length ≤ 9223372036854775806) : Evt (fun k => gridhalllaw4_InterlockSays.f k l st c s) true := by
  obtain ⟨a, A1, A2, ga⟩ := rules_ev l hsl
  obtain ⟨b, B1, B2, gb⟩ := states_ev st hss
  simp only [gridhalllaw4_InterlockSays.f]
  refine Evt.bind fact_ev (Evt.ite_pos rfl (Evt.bind A2 (Evt.bind B2 (Evt.bind A1 (Evt.ite_pos rfl (Evt.bind B1 ?_))))))
  rw [show (b != b) = false by simp]
  refine Evt.succ ?_
  simp only [gridhalllaw4_InterlockSays.j0]
  refine Evt.ite_neg (by simp) ?_
  have big : ∀ g : Bool, (g = true ↔ ∃ q, At st s q) → Evt (fun k => (if a = 0 then (if b = 0 then (if g = true then (gridhalllaw4_InterlockSays.j2 k l st c s 0) else (gridhalllaw4_InterlockSays.j2 k l st c s 8)) else (gridhalllaw4_InterlockSays.j2 k l st c s b)) else (gridhalllaw4_InterlockSays.j2 k l st c s a))) true := by
    intro g hg
    refine Evt.ite (fun h => Evt.ite (fun h2 => Evt.ite (fun h3 => ?_) (fun h3 => ?_)) (fun h2 => ?_)) (fun h => ?_)
    · exact j2_ev hsl c s A1 B1 ga gb 0 (Or.inr (Or.inr (Or.inr ⟨h, h2, rfl, hg.1 h3⟩)))
    · exact j2_ev hsl c s A1 B1 ga gb 8 (Or.inr (Or.inr (Or.inl ⟨h, h2, rfl, fun q hq => h3 (hg.2 ⟨q, hq⟩)⟩)))
    · exact j2_ev hsl c s A1 B1 ga gb b (Or.inr (Or.inl ⟨h, h2, rfl⟩))
    · exact j2_ev hsl c s A1 B1 ga gb a (Or.inl ⟨h, rfl⟩)
  exact known_l hs63 l c s 0 (by omega) false (fun g hg => big g (hg.trans ⟨fun x => by rcases x with x | ⟨q, _, y⟩; simp at x; exact ⟨q, y⟩, fun ⟨q, y⟩ => Or.inr ⟨q, by omega, y⟩⟩))
theorem mem_getD {α : Type} {l : List α} {z : α} {n : Nat} (h : n < l.length) : l.getD n z ∈ l := by
  rw [List.getD_eq_getElem?_getD, List.getElem?_eq_getElem h]
  exact List.getElem_mem h
theorem InterlockSays_holds : Go.Proofs.Ytielinaielicbaa.Rows.InterlockSaysSaid := Go.Proofs.Ytielinaielicbaa.RInterlockSays.said (fun l st c s g1 g2 _ _ => (law l st c s (fun n hn => by
    have h := g1.2 (rl l n) (mem_getD hn)
    refine ⟨by have := h.2.1; omega, fun j hj => ?_⟩
    have h2 := h.2.2.2 (nd (rl l n).f2 j) (mem_getD hj)
    have := h2.2.1
    omega) (fun j hj => by
    have h := g2.2 (sx st j) (mem_getD hj)
    have := h.1
    omega) (by omega)).ex)
end Go.Proofs.Ytielinaielicbaa.FInterlockSays
