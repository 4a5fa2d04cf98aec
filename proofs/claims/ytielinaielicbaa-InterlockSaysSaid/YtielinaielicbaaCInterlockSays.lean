/- Plain laws for InterlockSays. -/
import Derived.Test.YtielinaielicbaaBInterlockSays
namespace Go.Proofs.Ytielinaielicbaa.CInterlockSays
open Go.RowKit Go.Proofs.YtielinaielicbaaW.PrintWords Go.Proofs.YtielinaielicbaaW.PrintMore Go.Proofs.Ytielinaielicbaa.Evs Go.Proofs.Ytielinaielicbaa.PInterlockSays Go.Proofs.Ytielinaielicbaa.NInterlockSays Go.Proofs.Ytielinaielicbaa.BInterlockSays
set_option linter.unusedVariables false
set_option linter.unusedSimpArgs false
/-! one node, in both -/
theorem take_top (op : List Int) (m : Int) (c : Nat) (hc : op.length + 1 - c = op.length - (c - 1)) (h1 : 1 ≤ c) : (op ++ [m]).take (op.length + 1 - c) = op.take (op.length - (c - 1)) := by
  rw [hc, List.take_append_of_le_length (by omega)]
/-- Every node has a span, as far as all before it are in order. -/
theorem spans {l : List S119} (hl : l.length ≤ 40) {n : Nat} {op : List Int} (iv : Inv l n op) (hn : n < l.length) : ∃ v : Int, Evt (fun k => gridhallref4_span.f k l (n : Int)) v ∧
    (((nd l n).f0 ≠ 4 ∧ (nd l n).f0 ≠ 5 ∧ (nd l n).f0 ≠ 6 ∧ v = n) ∨
     ((nd l n).f0 = 4 ∧ ((v < 0 ∧ ¬ ∃ op' m, op = op' ++ [m] ∧ (nd l n).f2 = m) ∨ ∃ (op' : List Int) (m st : Nat), op = op' ++ [(m : Int)] ∧ n = m + 1 ∧ (nd l n).f2 = m ∧ Inv l st op' ∧ st ≤ m ∧ v = st)) ∨
     (((nd l n).f0 = 5 ∨ (nd l n).f0 = 6) ∧ ((v < 0 ∧ ¬ ∃ op' m m', op = op' ++ [m'] ++ [m] ∧ (nd l n).f2 = m' ∧ (nd l n).f3 = m) ∨ ∃ (op' : List Int) (m m' st : Nat), op = op' ++ [(m' : Int)] ++ [(m : Int)] ∧ n = m + 1 ∧ m' < m ∧ (nd l n).f2 = m' ∧ (nd l n).f3 = m ∧ Inv l st op' ∧ st ≤ m' ∧ v = st))) := by
  by_cases h4 : (nd l n).f0 = 4
  · cases iv with
    | nil =>
      refine ⟨-1, span_not hl hn h4 ?_, Or.inr (Or.inl ⟨h4, Or.inl ⟨by omega, ?_⟩⟩)⟩
      · split
        · exact span_neg l
        · rfl
      · rintro ⟨op', m, e, _⟩
        simp at e
    | push m st op' iv' hst hsp =>
      have e1 : ((m + 1 : Nat) : Int) - 1 = (m : Int) := by omega
      by_cases c : (nd l (m + 1)).f2 = (m : Int)
      · exact ⟨(st : Int), span_not hl hn h4 (by rw [e1, if_pos c]; exact hsp), Or.inr (Or.inl ⟨h4, Or.inr ⟨op', m, st, rfl, rfl, c, iv', hst, rfl⟩⟩)⟩
      · refine ⟨-1, span_not hl hn h4 (by rw [e1, if_neg c]), Or.inr (Or.inl ⟨h4, Or.inl ⟨by omega, ?_⟩⟩)⟩
        rintro ⟨op2, m2, e, hm⟩
        have := (List.append_inj' e rfl).2
        simp at this
        exact c (hm.trans this.symm)
  by_cases h5 : (nd l n).f0 = 5 ∨ (nd l n).f0 = 6
  · cases iv with
    | nil =>
      refine ⟨-1, span_two hl hn h5 ?_, Or.inr (Or.inr ⟨h5, Or.inl ⟨by omega, ?_⟩⟩)⟩
      · split
        · exact ⟨-1, by omega, by omega, span_neg l, by rw [if_pos (by omega)]⟩
        · rfl
      · rintro ⟨op', m, m', e, _⟩
        simp at e
    | push m st op' iv' hst hsp =>
      have e1 : ((m + 1 : Nat) : Int) - 1 = (m : Int) := by omega
      by_cases c : (nd l (m + 1)).f3 = (m : Int)
      · cases iv' with
        | nil =>
          refine ⟨-1, span_two hl hn h5 (by rw [e1, if_pos c]; exact ⟨_, by omega, by omega, hsp, by rw [if_pos (by omega)]⟩), Or.inr (Or.inr ⟨h5, Or.inl ⟨by omega, ?_⟩⟩)⟩
          rintro ⟨op2, m2, m2', e, _⟩
          have := congrArg List.length e
          simp at this
        | push m' st' op2 iv2 hst2 hsp2 =>
          have e2 : ((m' + 1 : Nat) : Int) - 1 = (m' : Int) := by omega
          by_cases d : (nd l (m + 1)).f2 = (m' : Int)
          · exact ⟨(st' : Int), span_two hl hn h5 (by rw [e1, if_pos c]; exact ⟨_, by omega, by omega, hsp, by rw [if_neg (by omega), e2, if_pos d]; exact hsp2⟩), Or.inr (Or.inr ⟨h5, Or.inr ⟨op2, m, m', st', rfl, rfl, by omega, d, c, iv2, hst2, rfl⟩⟩)⟩
          · refine ⟨-1, span_two hl hn h5 (by rw [e1, if_pos c]; exact ⟨_, by omega, by omega, hsp, by rw [if_neg (by omega), e2, if_neg d]⟩), Or.inr (Or.inr ⟨h5, Or.inl ⟨by omega, ?_⟩⟩)⟩
            rintro ⟨op3, m3, m3', e, hm, _⟩
            have := (List.append_inj' (List.append_inj' e rfl).1 rfl).2
            simp at this
            exact d (hm.trans this.symm)
      · refine ⟨-1, span_two hl hn h5 (by rw [e1, if_neg c]), Or.inr (Or.inr ⟨h5, Or.inl ⟨by omega, ?_⟩⟩)⟩
        rintro ⟨op2, m2, m2', e, _, hm⟩
        have := (List.append_inj' e rfl).2
        simp at this
        exact c (hm.trans this.symm)
  · exact ⟨n, span_leaf hn h4 (by omega) (by omega), Or.inl ⟨h4, by omega, by omega, rfl⟩⟩
theorem step {l : List S119} (hl : l.length ≤ 40) (hs : ∀ j, j < l.length → (nd l j).f1.size ≤ 9223372036854775806) {n : Nat} {op : List Int} (iv : Inv l n op) (hn : n < l.length) : Step l op n := by
  have oplen := iv.len
  by_cases cK : ¬ (0 ≤ (nd l n).f0 ∧ (nd l n).f0 ≤ 6)
  · refine Or.inl ⟨1, by decide, code_node hl hn hs ?_, ref_node hl hn (v := 0) (fun h => absurd h cK) ?_⟩
    · rw [if_pos (by unfold many; rw [if_neg (by omega), if_neg (by omega), if_neg (by omega)]; omega)]
    · rw [if_pos cK]
  have cK := Decidable.not_not.1 cK
  by_cases cN : ((nd l n).f0 = 2 ∨ (nd l n).f0 = 3) ∧ ¬ isName (nd l n).f1
  · have hm : many (nd l n).f0 = 0 := by unfold many; rw [if_pos (by omega)]
    refine Or.inl ⟨6, by decide, code_node hl hn hs ?_, ref_node hl hn (v := (n : Int)) (fun _ => span_leaf hn (by omega) (by omega) (by omega)) ?_⟩
    · rw [hm, if_neg (by omega), if_pos cN]
    · rw [if_neg (fun x => x cK), if_pos cN]
  have hm0 : 0 ≤ many (nd l n).f0 := by
    unfold many
    split
    · omega
    · split
      · omega
      · split <;> omega
  have three : ∀ b : Bool, b = true → Evt (fun k => interlock_condition.j2 k op (n : Int) (many (nd l n).f0) l (l.length : Int) (n : Int) b (nd l n).f0 (nd l n).f1 (nd l n).f2 (nd l n).f3) 3 := by
    intro b hb
    refine Evt.succ ?_
    simp only [interlock_condition.j2]
    exact Evt.ite_pos hb (Evt.pure _)
  have code3 : ((¬ ((nd l n).f0 = 2 ∨ (nd l n).f0 = 3) ∧ (nd l n).f1.toList ≠ []) ∨ (many (nd l n).f0 < 1 ∧ (nd l n).f2 ≠ 0) ∨ (many (nd l n).f0 < 2 ∧ (nd l n).f3 ≠ 0) ∨ (op.length : Int) < many (nd l n).f0) → Evt (fun k => CL k op l n) 3 := by
    intro h
    refine code_node hl hn hs ?_
    rw [if_neg (by omega), if_neg cN]
    exact three _ (decide_eq_true h)
  have ref3 : ∀ v : Int, Evt (fun k => gridhallref4_span.f k l (n : Int)) v → ((¬ ((nd l n).f0 = 2 ∨ (nd l n).f0 = 3) ∧ (nd l n).f1.toList ≠ []) ∨ (many (nd l n).f0 < 1 ∧ (nd l n).f2 ≠ 0) ∨ (many (nd l n).f0 < 2 ∧ (nd l n).f3 ≠ 0) ∨ v < 0) → Evt (fun k => RL k l n) 3 := by
    intro v hv h
    refine ref_node hl hn (fun _ => hv) ?_
    rw [if_neg (fun x => x cK), if_neg cN, if_pos h]
  have refgo : ∀ v : Int, Evt (fun k => gridhallref4_span.f k l (n : Int)) v → ¬ ((¬ ((nd l n).f0 = 2 ∨ (nd l n).f0 = 3) ∧ (nd l n).f1.toList ≠ []) ∨ (many (nd l n).f0 < 1 ∧ (nd l n).f2 ≠ 0) ∨ (many (nd l n).f0 < 2 ∧ (nd l n).f3 ≠ 0)) → 0 ≤ v → ∀ r, Evt (fun k => RL k l (n + 1)) r → Evt (fun k => RL k l n) r := by
    intro v hv h h0 r hr
    refine ref_node hl hn (fun _ => hv) ?_
    rw [if_neg (fun x => x cK), if_neg cN, if_neg (fun x => by rcases x with x | x | x | x; exact h (Or.inl x); exact h (Or.inr (Or.inl x)); exact h (Or.inr (Or.inr x)); omega)]
    exact hr
  have codego : ¬ ((¬ ((nd l n).f0 = 2 ∨ (nd l n).f0 = 3) ∧ (nd l n).f1.toList ≠ []) ∨ (many (nd l n).f0 < 1 ∧ (nd l n).f2 ≠ 0) ∨ (many (nd l n).f0 < 2 ∧ (nd l n).f3 ≠ 0)) → ¬ (op.length : Int) < many (nd l n).f0 → ∀ r, Evt (fun k => interlock_condition.j2 k op (n : Int) (many (nd l n).f0) l (l.length : Int) (n : Int) false (nd l n).f0 (nd l n).f1 (nd l n).f2 (nd l n).f3) r → Evt (fun k => CL k op l n) r := by
    intro h h2 r hr
    refine code_node hl hn hs ?_
    rw [if_neg (by omega), if_neg cN, decide_eq_false (fun x => by rcases x with x | x | x | x; exact h (Or.inl x); exact h (Or.inr (Or.inl x)); exact h (Or.inr (Or.inr x)); exact h2 x)]
    exact hr
  obtain ⟨v, hv, hcase⟩ := spans hl iv hn
  by_cases cF : (¬ ((nd l n).f0 = 2 ∨ (nd l n).f0 = 3) ∧ (nd l n).f1.toList ≠ []) ∨ (many (nd l n).f0 < 1 ∧ (nd l n).f2 ≠ 0) ∨ (many (nd l n).f0 < 2 ∧ (nd l n).f3 ≠ 0)
  · have cF' : ∀ X : Prop, (¬ ((nd l n).f0 = 2 ∨ (nd l n).f0 = 3) ∧ (nd l n).f1.toList ≠ []) ∨ (many (nd l n).f0 < 1 ∧ (nd l n).f2 ≠ 0) ∨ (many (nd l n).f0 < 2 ∧ (nd l n).f3 ≠ 0) ∨ X := fun X => by rcases cF with x | x | x; exact Or.inl x; exact Or.inr (Or.inl x); exact Or.inr (Or.inr (Or.inl x))
    exact Or.inl ⟨3, by decide, code3 (cF' _), ref3 v hv (cF' _)⟩
  have ref3 : v < 0 → Evt (fun k => RL k l n) 3 := fun h => ref3 v hv (Or.inr (Or.inr (Or.inr h)))
  have refgo := refgo v hv cF
  have code3 : (op.length : Int) < many (nd l n).f0 → Evt (fun k => CL k op l n) 3 := fun h => code3 (Or.inr (Or.inr (Or.inr h)))
  have codego := codego cF
  clear cF
  rcases hcase with ⟨h4, h5, h6, rfl⟩ | ⟨h4, hc⟩ | ⟨h5, hc⟩
  · have hm : many (nd l n).f0 = 0 := by unfold many; rw [if_pos (by omega)]
    rw [hm] at codego
    refine Or.inr ⟨op ++ [(n : Int)], Inv.push n n op iv (Nat.le_refl _) hv, ⟨cK, by omega, by omega⟩, fun r hr => codego (by omega) r ?_, refgo (by omega)⟩
    refine Evt.succ ?_
    simp only [interlock_condition.j2]
    refine Evt.ite_neg (by simp) (Evt.ite_neg (by omega) (Evt.ite_neg (by omega) ?_))
    rw [wsub0 (n := op.length) (by omega), wrap64_nat (n := n) (by omega)]
    refine Evt.ite_pos (by omega) (Evt.ite_pos (by omega) (Evt.bindo rfl (Evt.ite_pos (by simp; omega) ?_)))
    rw [Int.toNat_natCast, List.take_length]
    exact hr
  · have hm : many (nd l n).f0 = 1 := by rw [h4]; rfl
    rw [hm] at codego code3
    rcases hc with ⟨hneg, hno⟩ | ⟨op', m, st, rfl, rfl, hA, iv', hst, rfl⟩
    · refine Or.inl ⟨3, by decide, ?_, ref3 hneg⟩
      by_cases hlen : op = []
      · exact code3 (by rw [hlen]; simp)
      · obtain ⟨op', m, rfl⟩ : ∃ op' m, op = op' ++ [m] := ⟨op.dropLast, op.getLast hlen, (List.dropLast_concat_getLast hlen).symm⟩
        have hA : (nd l n).f2 ≠ m := fun e => hno ⟨op', m, rfl, e⟩
        refine codego (by simp only [List.length_append, List.length_cons, List.length_nil]; omega) 3 ?_
        refine Evt.succ ?_
        simp only [interlock_condition.j2]
        rw [wsub1 (n := (op' ++ [m]).length) (by simp only [List.length_append, List.length_cons, List.length_nil]; omega) (by omega), rd_last (n := (op' ++ [m]).length - 1) (by simp)]
        exact Evt.ite_neg (by simp) (Evt.ite_pos (by simp) (Evt.ite_pos (by omega) (Evt.ite_pos (by simp only [List.length_append, List.length_cons, List.length_nil]; omega) (Evt.ite_neg hA (Evt.pure _)))))
    · refine Or.inr ⟨op' ++ [((m + 1 : Nat) : Int)], Inv.push (m + 1) st op' iv' (by omega) hv, ⟨cK, fun _ => by omega, by omega⟩, fun r hr => codego (by simp only [List.length_append, List.length_cons, List.length_nil]; omega) r ?_, refgo (by omega)⟩
      refine Evt.succ ?_
      simp only [interlock_condition.j2]
      rw [wsub1 (n := (op' ++ [(m : Int)]).length) (by simp only [List.length_append, List.length_cons, List.length_nil]; omega) (by omega), rd_last (n := (op' ++ [(m : Int)]).length - 1) (by simp), wrap64_nat (n := m + 1) (by omega)]
      refine Evt.ite_neg (by simp) (Evt.ite_pos (by simp) (Evt.ite_pos (by omega) (Evt.ite_pos (by simp only [List.length_append, List.length_cons, List.length_nil]; omega) (Evt.ite_pos hA (Evt.ite_neg (by omega) (Evt.ite_pos (by omega) (Evt.ite_pos (by simp only [List.length_append, List.length_cons, List.length_nil]; omega) (Evt.bindo rfl ?_))))))))
      rw [Int.toNat_natCast, show (op' ++ [(m : Int)]).length - 1 = op'.length by simp, List.take_left]
      have := iv'.len
      exact Evt.ite_pos (by omega) hr
  · have hm : many (nd l n).f0 = 2 := by rcases h5 with h5 | h5 <;> rw [h5] <;> rfl
    rw [hm] at codego code3
    rcases hc with ⟨hneg, hno⟩ | ⟨op', m, m', st, rfl, rfl, hmm, hA, hB, iv', hst, rfl⟩
    · refine Or.inl ⟨3, by decide, ?_, ref3 hneg⟩
      by_cases hlen : op.length < 2
      · exact code3 (by omega)
      · obtain ⟨op1, m, rfl⟩ : ∃ op' m, op = op' ++ [m] := ⟨op.dropLast, op.getLast (fun e => by rw [e] at hlen; simp at hlen), (List.dropLast_concat_getLast _).symm⟩
        obtain ⟨op', m', rfl⟩ : ∃ op' m, op1 = op' ++ [m] := ⟨op1.dropLast, op1.getLast (fun e => by rw [e] at hlen; simp at hlen), (List.dropLast_concat_getLast _).symm⟩
        have hAB : ¬ ((nd l n).f2 = m' ∧ (nd l n).f3 = m) := fun e => hno ⟨op', m, m', rfl, e.1, e.2⟩
        have e3 : rd (op' ++ [m'] ++ [m]) (((op' ++ [m'] ++ [m]).length - 2 : Nat) : Int) = m' := by simp [rd]
        refine codego (by simp only [List.length_append, List.length_cons, List.length_nil]; omega) 3 ?_
        refine Evt.succ ?_
        simp only [interlock_condition.j2]
        rw [wsub1 (n := (op' ++ [m'] ++ [m]).length) (by simp only [List.length_append, List.length_cons, List.length_nil]; omega) (by omega), wsub2 (n := (op' ++ [m'] ++ [m]).length) (by simp only [List.length_append, List.length_cons, List.length_nil]; omega) (by omega), rd_last (n := (op' ++ [m'] ++ [m]).length - 1) (by simp), e3]
        refine Evt.ite_neg (by simp) (Evt.ite_neg (by omega) (Evt.ite_pos (by simp) (Evt.ite_pos (by omega) (Evt.ite_pos (by simp only [List.length_append, List.length_cons, List.length_nil]; omega) (Evt.ite (fun a => Evt.ite_pos (by omega) (Evt.ite_pos (by simp only [List.length_append, List.length_cons, List.length_nil]; omega) (Evt.ite_neg (fun b => hAB ⟨a, b⟩) (Evt.pure _)))) (fun a => Evt.pure _))))))
    · have e3 : rd (op' ++ [(m' : Int)] ++ [(m : Int)]) (((op' ++ [(m' : Int)] ++ [(m : Int)]).length - 2 : Nat) : Int) = m' := by simp [rd]
      have := iv'.len
      refine Or.inr ⟨op' ++ [((m + 1 : Nat) : Int)], Inv.push (m + 1) st op' iv' (by omega) hv, ⟨cK, fun _ => by omega, fun _ => by omega⟩, fun r hr => codego (by simp only [List.length_append, List.length_cons, List.length_nil]; omega) r ?_, refgo (by omega)⟩
      refine Evt.succ ?_
      simp only [interlock_condition.j2]
      rw [wsub1 (n := (op' ++ [(m' : Int)] ++ [(m : Int)]).length) (by simp only [List.length_append, List.length_cons, List.length_nil]; omega) (by omega), wsub2 (n := (op' ++ [(m' : Int)] ++ [(m : Int)]).length) (by simp only [List.length_append, List.length_cons, List.length_nil]; omega) (by omega), rd_last (n := (op' ++ [(m' : Int)] ++ [(m : Int)]).length - 1) (by simp), e3, wrap64_nat (n := m + 1) (by omega)]
      refine Evt.ite_neg (by simp) (Evt.ite_neg (by omega) (Evt.ite_pos (by simp) (Evt.ite_pos (by omega) (Evt.ite_pos (by simp only [List.length_append, List.length_cons, List.length_nil]; omega) (Evt.ite_pos hA (Evt.ite_pos (by omega) (Evt.ite_pos (by simp only [List.length_append, List.length_cons, List.length_nil]; omega) (Evt.ite_pos hB (Evt.ite_pos (by omega) (Evt.ite_pos (by simp only [List.length_append, List.length_cons, List.length_nil]; omega) (Evt.bindo rfl ?_)))))))))))
      rw [Int.toNat_natCast, show (op' ++ [(m' : Int)] ++ [(m : Int)]).length - 2 = op'.length by simp, List.append_assoc, List.take_left]
      exact Evt.ite_pos (by omega) hr
theorem cond_l {l : List S119} (hl : l.length ≤ 40) (h0 : 0 < l.length) (hs : ∀ j, j < l.length → (nd l j).f1.size ≤ 9223372036854775806) : ∀ d n op, l.length - n = d → n ≤ l.length → Inv l n op → (∀ j, j < n → okNode l j) →
    ∃ e, Evt (fun k => CL k op l n) e ∧ Evt (fun k => RL k l n) e ∧ (e = 0 → ∀ j, j < l.length → okNode l j) := by
  intro d
  induction d with
  | zero =>
    intro n op hd hn iv ok
    have : n = l.length := by omega
    subst this
    have fin : ∀ e, Evt (fun k => CL k op l l.length) e → Evt (fun k => RL k l l.length) e → ∃ e, Evt (fun k => CL k op l l.length) e ∧ Evt (fun k => RL k l l.length) e ∧ (e = 0 → ∀ j, j < l.length → okNode l j) := fun e a b => ⟨e, a, b, fun _ => ok⟩
    generalize hL : l.length = L at *
    cases iv with
    | nil => omega
    | push m st op' iv' hst hsp =>
      have z := iv'.zero
      refine fin (if st = 0 then 0 else 3) (Evt.succ ?_) (Evt.succ ?_)
      · simp only [CL, interlock_condition.l0]
        refine Evt.ite_neg (by omega) (Evt.ite (fun c => Evt.of_eq ?_) (fun c => Evt.of_eq ?_))
        · have : op' = [] := List.eq_nil_of_length_eq_zero (by simp at c; omega)
          rw [if_pos (z.2 this)]
        · rw [if_neg (fun e => c (by rw [z.1 e]; rfl))]
      · simp only [RL, gridhallref4_ConditionError.l0]
        refine Evt.ite_neg (by omega) ?_
        rw [hL, show wrap64 (((m + 1 : Nat) : Int) - 1) = (m : Int) by rw [wrap64_of (by omega) (by omega)]; omega]
        refine Evt.bind hsp (Evt.ite (fun c => Evt.of_eq ?_) (fun c => Evt.of_eq ?_))
        · rw [if_pos (by omega)]
        · rw [if_neg (by omega)]
  | succ d ih =>
    intro n op hd hn iv ok
    rcases step hl hs iv (by omega) with ⟨e, he, a, b⟩ | ⟨op', iv', okn, a, b⟩
    · exact ⟨e, a, b, fun h => absurd h he⟩
    · obtain ⟨e, E1, E2, g⟩ := ih (n + 1) op' (by omega) (by omega) iv' (fun j hj => by
        by_cases c : j = n
        · subst c; exact okn
        · exact ok j (by omega))
      exact ⟨e, a e E1, b e E2, g⟩
theorem cond_ev (l : List S119) (hs : ∀ j, j < l.length → (nd l j).f1.size ≤ 9223372036854775806) : ∃ e, Evt (fun k => interlock_condition.f k l) e ∧ Evt (fun k => gridhallref4_ConditionError.f k l) e ∧ (e = 0 → (0 < l.length ∧ l.length ≤ 40) ∧ ∀ j, j < l.length → okNode l j) := by
  simp only [interlock_condition.f, gridhallref4_ConditionError.f]
  by_cases c : (l.length : Int) > 40
  · exact ⟨2, Evt.ite_pos c (Evt.pure _), Evt.ite_pos c (Evt.pure _), fun h => absurd h (by decide)⟩
  by_cases c0 : (l.length : Int) = 0
  · exact ⟨3, Evt.ite_neg c (Evt.ite_pos c0 (Evt.pure _)), Evt.ite_neg c (Evt.ite_pos c0 (Evt.pure _)), fun h => absurd h (by decide)⟩
  obtain ⟨e, A, B, g⟩ := cond_l (l := l) (by omega) (by omega) hs l.length 0 [] (by omega) (by omega) Inv.nil (fun j h => by omega)
  exact ⟨e, Evt.ite_neg c (Evt.ite_neg c0 A), Evt.ite_neg c (Evt.ite_neg c0 B), fun h => ⟨by omega, g h⟩⟩
end Go.Proofs.Ytielinaielicbaa.CInterlockSays
