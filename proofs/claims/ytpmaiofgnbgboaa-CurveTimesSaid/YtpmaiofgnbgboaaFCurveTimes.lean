/- CurveTimes holds: for every characteristic, pickup and current Time returns the specified time; no condition. -/
import Derived.Test.YtpmaiofgnbgboaaBCurveTimes
import Derived.Test.YtpmaiofgnbgboaaRowCurveTimes
namespace Go.Proofs.Ytpmaiofgnbgboaa.FCurveTimes
open Go.RowKit Go.Proofs.YtpmaiofgnbgboaaW.PrintWords Go.Proofs.YtpmaiofgnbgboaaW.PrintMore Go.Proofs.Ytpmaiofgnbgboaa.Evs Go.Proofs.Ytpmaiofgnbgboaa.PCurveTimes Go.Proofs.Ytpmaiofgnbgboaa.BCurveTimes
set_option linter.unusedVariables false
set_option linter.unusedSimpArgs false
/-! the law -/
theorem Time_ev (l : List S76) (p c : Int) : ∃ e, Evt (fun k => curve_Check.f k l) e ∧ ((e ≠ 0 ∧ Evt (fun k => curve_Time.f k l p c) (0, e)) ∨ (e = 0 ∧ valid l ∧
    ((¬ ((1 ≤ p ∧ p ≤ 1000000) ∧ (0 ≤ c ∧ c ≤ 1000000)) ∧ Evt (fun k => curve_Time.f k l p c) (0, 4)) ∨
     (((1 ≤ p ∧ p ≤ 1000000) ∧ (0 ≤ c ∧ c ≤ 1000000)) ∧ ∃ t b, Evt (fun k => curve_Time.f k l p c) (if b = true then t else 0, if b = true then 0 else 8) ∧ Says l p (100 * c) (if b = true then some t else none) ∧ (b = true → 0 ≤ t))))) := by
  obtain ⟨e, E, V⟩ := Check_ev l
  refine ⟨e, E, ?_⟩
  by_cases h0 : e = 0
  · right
    subst h0
    have v := V rfl
    refine ⟨rfl, v, ?_⟩
    have bad : Evt (fun k => curve_Time.j0 k l p c true) (0, 4) := by
      refine Evt.succ ?_
      simp only [curve_Time.j0]
      exact Evt.ite_pos (by simp) (Evt.pure _)
    have head : ∀ r, Evt (fun k => (if p < 1 then (curve_Time.j0 k l p c true) else (if p > 1000000 then (curve_Time.j0 k l p c true) else (if c < 0 then (curve_Time.j0 k l p c true) else (curve_Time.j0 k l p c (decide (c > 1000000))))))) r → Evt (fun k => curve_Time.f k l p c) r := by
      intro r h
      simp only [curve_Time.f]
      exact Evt.bind E (Evt.ite_pos rfl h)
    by_cases g : (1 ≤ p ∧ p ≤ 1000000) ∧ (0 ≤ c ∧ c ≤ 1000000)
    · right
      refine ⟨g, ?_⟩
      obtain ⟨t, b, A, S, z, n⟩ := at_ev v g.1 g.2
      refine ⟨t, b, head _ (Evt.ite_neg (by omega) (Evt.ite_neg (by omega) (Evt.ite_neg (by omega) ?_))), S, n⟩
      rw [decide_eq_false (by omega)]
      refine Evt.succ ?_
      simp only [curve_Time.j0]
      refine Evt.ite_neg (by simp) (Evt.bind A ?_)
      cases b with
      | true => exact Evt.ite_pos rfl (Evt.of_eq (by simp))
      | false => exact Evt.ite_neg (by simp) (Evt.of_eq (by simp))
    · left
      refine ⟨g, head _ (Evt.ite (fun _ => bad) (fun h1 => Evt.ite (fun _ => bad) (fun h2 => Evt.ite (fun _ => bad) (fun h3 => ?_))))⟩
      rw [decide_eq_true (by omega)]
      exact bad
  · left
    refine ⟨h0, ?_⟩
    simp only [curve_Time.f]
    exact Evt.bind E (Evt.ite_neg h0 (Evt.pure _))
def two : List S76 := [⟨100, 1000⟩, ⟨200, 500⟩]
theorem two_valid : valid two := by
  refine ⟨by decide, by decide, fun j hj => ?_⟩
  have : j = 0 ∨ j = 1 := by have : two.length = 2 := rfl; omega
  rcases this with rfl | rfl
  · exact ⟨by decide, fun h => absurd h (by decide)⟩
  · exact ⟨by decide, fun _ => by decide⟩
theorem Evt.of_mono {α : Type} {g : Nat → Option α} (hm : ∀ k r, g k = some r → g (k + 1) = some r) {K : Nat} {r : α} (h : g K = some r) : Evt g r := by
  refine ⟨K, fun k hk => ?_⟩
  obtain ⟨d, rfl⟩ : ∃ d, k = K + d := ⟨k - K, by omega⟩
  induction d with
  | zero => exact h
  | succ d ih => exact hm _ _ (ih (by omega))
theorem two_check : Evt (fun k => curve_Check.f k two) 0 := Evt.of_mono (fun k r h => curve_Check.mono two k r h) (K := 12) (by decide +kernel)
theorem Evt.uniq {α : Type} {g : Nat → Option α} {r s : α} (h1 : Evt g r) (h2 : Evt g s) : r = s := by
  obtain ⟨K, h1⟩ := h1
  obtain ⟨L, h2⟩ := h2
  exact Option.some.inj ((h1 (K + L) (by omega)).symm.trans (h2 (K + L) (by omega)))
theorem works_ev : Evt (fun k => gridhalllaw2_curveWorks.f k) true := by
  obtain ⟨e, E, h⟩ := Time_ev two 100 150
  have := Evt.uniq E two_check
  subst this
  rcases h with ⟨h, _⟩ | ⟨_, v, ⟨h, _⟩ | ⟨_, t, b, A, S, _⟩⟩
  · exact absurd rfl h
  · exact absurd (by omega) h
  have S' : Says two 100 15000 (some 750) := Or.inr (Or.inr ⟨0, by decide, by decide, by decide, by decide⟩)
  have u := Says.uniq v (by omega) (show Says two 100 15000 _ from S) S'
  cases b with
  | false => simp at u
  | true =>
    simp only [if_true] at u
    obtain rfl := Option.some.inj u
    obtain ⟨e, E, h⟩ := Time_ev two 100 99
    have := Evt.uniq E two_check
    subst this
    rcases h with ⟨h, _⟩ | ⟨_, v, ⟨h, _⟩ | ⟨_, t, b, A2, S2, _⟩⟩
    · exact absurd rfl h
    · exact absurd (by omega) h
    have u := Says.uniq v (by omega) (show Says two 100 9900 _ from S2) (Or.inl ⟨by decide, rfl⟩)
    cases b with
    | true => simp at u
    | false =>
      simp only [gridhalllaw2_curveWorks.f]
      refine Evt.bindo rfl (Evt.bind A (Evt.bind A2 ?_))
      exact Evt.ite_pos rfl (Evt.ite_pos rfl (Evt.of_eq rfl))
theorem law (l : List S76) (p c : Int) : Evt (fun k => gridhalllaw2_CurveTimes.f k l p c) true := by
  simp only [gridhalllaw2_CurveTimes.f]
  refine Evt.bind works_ev (Evt.ite_pos rfl ?_)
  obtain ⟨e, E, h⟩ := Time_ev l p c
  rcases h with ⟨h0, A⟩ | ⟨h0, v, ⟨g, A⟩ | ⟨g, t, b, A, S, n⟩⟩
  · exact Evt.bind A (Evt.bind E (Evt.ite_neg h0 (Evt.ite_pos rfl (Evt.of_eq rfl))))
  · refine Evt.bind A (Evt.bind E (Evt.ite_pos h0 ?_))
    have bad : Evt (fun k => gridhalllaw2_CurveTimes.j0 k l p c 0 4 true) true := by
      refine Evt.succ ?_
      simp only [gridhalllaw2_CurveTimes.j0]
      exact Evt.ite_pos (by simp) (Evt.ite_pos (by simp) (Evt.of_eq (by simp)))
    refine Evt.ite (fun _ => bad) (fun h1 => Evt.ite (fun _ => bad) (fun h2 => Evt.ite (fun _ => bad) (fun h3 => ?_)))
    rw [decide_eq_true (by omega)]
    exact bad
  · refine Evt.bind A (Evt.bind E (Evt.ite_pos h0 (Evt.ite_neg (by omega) (Evt.ite_neg (by omega) (Evt.ite_neg (by omega) ?_)))))
    rw [decide_eq_false (by omega)]
    refine Evt.succ ?_
    simp only [gridhalllaw2_CurveTimes.j0]
    refine Evt.ite_neg (by simp) ?_
    rcases slow_ev v g.1 g.2 with ⟨B, S2⟩ | ⟨u, B, S2, h2⟩
    · have w := Says.uniq v (by omega) S S2
      cases b with
      | true => simp at w
      | false => exact Evt.bind B (Evt.ite_pos (by decide) (Evt.ite_pos rfl (Evt.of_eq rfl)))
    · have w := Says.uniq v (by omega) S S2
      cases b with
      | false => simp at w
      | true =>
        simp only [if_true] at w
        obtain rfl := Option.some.inj w
        exact Evt.bind B (Evt.ite_neg (by omega) (Evt.ite_pos rfl (Evt.of_eq (by simp))))
theorem CurveTimes_holds : Go.Proofs.Ytpmaiofgnbgboaa.Rows.CurveTimesSaid := Go.Proofs.Ytpmaiofgnbgboaa.RCurveTimes.said (fun l p c _ _ _ => (law l p c).ex)
end Go.Proofs.Ytpmaiofgnbgboaa.FCurveTimes
