/- The library's stable sort keeps equal elements' order and sorts. -/
import Derived.Test.YtekpnmeikibioaaEvs
import Derived.Test.YtekpnmeikibioaaHHoursSpreadsy8
namespace Go.Proofs.Ytekpnmeikibioaa.ZHoursSpreads
open Go.RowKit Go.Proofs.YtekpnmeikibioaaW.PrintWords Go.Proofs.YtekpnmeikibioaaW.PrintMore Go.Proofs.Ytekpnmeikibioaa.Evs Go.Proofs.Ytekpnmeikibioaa.PHoursSpreads 
set_option linter.unusedVariables false
set_option linter.unusedSectionVars false
set_option linter.unusedSimpArgs false
/-! sorting, in plain words: lists with places, a strict order, what a stable sort keeps -/
section
variable {E : Type}
theorem getD_mid (A : List E) (x : E) (C : List E) (z : E) : (A ++ x :: C).getD A.length z = x := by simp [List.getD_eq_getElem?_getD]
theorem getD_at {l A C : List E} {x : E} {z : E} {n : Nat} (h : l = A ++ x :: C) (hn : n = A.length) : l.getD n z = x := by
  subst h
  subst hn
  exact getD_mid A x C z
theorem set_mid (A : List E) (x y : E) (C : List E) : (A ++ x :: C).set A.length y = A ++ y :: C := by simp
theorem set_two (A : List E) (x y : E) (C : List E) (B : List E) {i j : Nat} (hi : i = A.length) (hj : j = A.length + 1 + C.length) : ((A ++ x :: (C ++ y :: B)).set i y).set j x = A ++ y :: (C ++ x :: B) := by
  subst hi
  subst hj
  rw [set_mid]
  have e : A ++ y :: (C ++ y :: B) = (A ++ y :: C) ++ y :: B := by simp
  rw [e, show A.length + 1 + C.length = (A ++ y :: C).length by simp; omega, set_mid]
  simp
theorem set_two' (A : List E) (x y : E) (C : List E) (B : List E) {i j : Nat} (hi : i = A.length) (hj : j = A.length + 1 + C.length) : ((A ++ x :: (C ++ y :: B)).set j x).set i y = A ++ y :: (C ++ x :: B) := by
  subst hi
  subst hj
  have e : A ++ x :: (C ++ y :: B) = (A ++ x :: C) ++ y :: B := by simp
  rw [e, show A.length + 1 + C.length = (A ++ x :: C).length by simp; omega, set_mid]
  have e2 : (A ++ x :: C) ++ x :: B = A ++ x :: (C ++ x :: B) := by simp
  rw [e2, set_mid]
/-- A strict order whose 'neither is less' is an equivalence. -/
structure Weak (lt : E → E → Bool) : Prop where
  irr : ∀ x, lt x x = false
  tr : ∀ {x y z}, lt x y = true → lt y z = true → lt x z = true
  tl : ∀ {x y z}, lt x y = false → lt y z = false → lt x z = false
variable {lt : E → E → Bool}
theorem Weak.asym (W : Weak lt) {x y : E} (h : lt x y = true) : lt y x = false := by
  cases h2 : lt y x with
  | false => rfl
  | true => have := W.tr h h2; rw [W.irr] at this; cases this
/-- x is not behind y, y not ahead of z, ..: x not behind z. -/
theorem Weak.le_tr (W : Weak lt) {x y z : E} (h1 : lt y x = false) (h2 : lt z y = false) : lt z x = false := W.tl h2 h1
theorem Weak.lt_le (W : Weak lt) {x y z : E} (h1 : lt x y = true) (h2 : lt z y = false) : lt x z = true := by
  cases h : lt x z with
  | true => rfl
  | false => have := W.tl h h2; rw [h1] at this; cases this
theorem Weak.le_lt (W : Weak lt) {x y z : E} (h1 : lt y x = false) (h2 : lt y z = true) : lt x z = true := by
  cases h : lt x z with
  | true => rfl
  | false => have := W.tl h1 h; rw [h2] at this; cases this
def eqv (lt : E → E → Bool) (x y : E) : Bool := !lt x y && !lt y x
/-- Sorted: nothing is behind what is greater. -/
def Srt (lt : E → E → Bool) (l : List E) : Prop := l.Pairwise (fun x y => lt y x = false)
/-- The same elements, those that are equal in the same order. -/
def St (lt : E → E → Bool) (l r : List E) : Prop := ∀ x, r.filter (eqv lt x) = l.filter (eqv lt x)
theorem St.refl (l : List E) : St lt l l := fun _ => rfl
theorem St.trans {a b c : List E} (h1 : St lt a b) (h2 : St lt b c) : St lt a c := fun x => (h2 x).trans (h1 x)
theorem St.symm {a b : List E} (h : St lt a b) : St lt b a := fun x => (h x).symm
theorem St.app {a b c d : List E} (h1 : St lt a b) (h2 : St lt c d) : St lt (a ++ c) (b ++ d) := fun x => by rw [List.filter_append, List.filter_append, h1 x, h2 x]
theorem St.mid (A B : List E) {c d : List E} (h : St lt c d) : St lt (A ++ c ++ B) (A ++ d ++ B) := ((St.refl A).app h).app (St.refl B)
/-- Blocks between which nothing is equal change places. -/
theorem St.comm (W : Weak lt) {a b : List E} (h : ∀ x ∈ a, ∀ y ∈ b, lt y x = true) : St lt (a ++ b) (b ++ a) := by
  intro x
  rw [List.filter_append, List.filter_append]
  by_cases ha : a.filter (eqv lt x) = []
  · rw [ha, List.nil_append, List.append_nil]
  by_cases hb : b.filter (eqv lt x) = []
  · rw [hb, List.nil_append, List.append_nil]
  exfalso
  obtain ⟨p, hp⟩ := List.exists_mem_of_ne_nil _ ha
  obtain ⟨q, hq⟩ := List.exists_mem_of_ne_nil _ hb
  rw [List.mem_filter] at hp hq
  simp only [eqv, Bool.and_eq_true, Bool.not_eq_true'] at hp hq
  have h1 := h p hp.1 q hq.1
  have h2 := W.tl hq.2.2 hp.2.1
  rw [h1] at h2
  cases h2
theorem St.mem (W : Weak lt) {a b : List E} (h : St lt a b) (x : E) : x ∈ b ↔ x ∈ a := by
  have e : ∀ l : List E, x ∈ l ↔ x ∈ l.filter (eqv lt x) := fun l => by
    rw [List.mem_filter]
    simp [eqv, W.irr]
  rw [e b, e a, h x]
theorem St.length (W : Weak lt) : ∀ {a b : List E}, St lt a b → b.length = a.length := by
  intro a
  induction h : a.length using Nat.strongRecOn generalizing a with
  | _ n ih =>
    intro b hab
    cases a with
    | nil =>
      cases b with
      | nil => exact h
      | cons y b => exact absurd ((St.mem W hab y).1 (by simp)) (by simp)
    | cons x a =>
      -- take the whole class of x away
      have cls : ∀ l : List E, l.length = (l.filter (eqv lt x)).length + (l.filter (fun y => !eqv lt x y)).length := fun l => by
        induction l with
        | nil => rfl
        | cons y l ih => cases hy : eqv lt x y <;> simp [List.filter_cons, hy] <;> omega
      have tr : ∀ {p q r : E}, eqv lt p q = true → eqv lt q r = eqv lt p r := fun {p q r} h => by
        simp only [eqv, Bool.and_eq_true, Bool.not_eq_true'] at h
        cases hr : eqv lt p r with
        | true =>
          simp only [eqv, Bool.and_eq_true, Bool.not_eq_true'] at hr ⊢
          exact ⟨W.tl h.2 hr.1, W.tl hr.2 h.1⟩
        | false =>
          cases hq : eqv lt q r with
          | false => rfl
          | true =>
            simp only [eqv, Bool.and_eq_true, Bool.not_eq_true'] at hq
            have : eqv lt p r = true := by
              simp only [eqv, Bool.and_eq_true, Bool.not_eq_true']
              exact ⟨W.tl h.1 hq.1, W.tl hq.2 h.2⟩
            rw [this] at hr
            cases hr
      have rest : St lt ((x :: a).filter (fun y => !eqv lt x y)) (b.filter (fun y => !eqv lt x y)) := by
        intro z
        rw [List.filter_filter, List.filter_filter]
        cases hz : eqv lt x z with
        | true =>
          have e : ∀ l : List E, l.filter (fun y => eqv lt z y && !eqv lt x y) = [] := fun l => by
            rw [List.filter_eq_nil_iff]
            intro y _
            rw [tr hz]
            simp
          rw [e, e]
        | false =>
          have e : ∀ l : List E, l.filter (fun y => eqv lt z y && !eqv lt x y) = l.filter (eqv lt z) := fun l => by
            congr 1
            funext y
            cases hy : eqv lt z y with
            | false => rfl
            | true =>
              have : eqv lt x y = false := by
                cases hxy : eqv lt x y with
                | false => rfl
                | true =>
                  have sy : eqv lt y x = true := by simp only [eqv, Bool.and_eq_true, Bool.not_eq_true'] at hxy ⊢; exact ⟨hxy.2, hxy.1⟩
                  have sz : eqv lt y z = true := by simp only [eqv, Bool.and_eq_true, Bool.not_eq_true'] at hy ⊢; exact ⟨hy.2, hy.1⟩
                  have := tr hxy (r := z)
                  rw [sz] at this
                  rw [← this] at hz
                  cases hz
              rw [this]
              rfl
          rw [e, e]
          exact hab z
      have small : ((x :: a).filter (fun y => !eqv lt x y)).length < n := by
        have := cls (x :: a)
        have h1 : 0 < ((x :: a).filter (eqv lt x)).length := List.length_pos_of_mem (a := x) (List.mem_filter.2 ⟨by simp, by simp [eqv, W.irr]⟩)
        omega
      have := ih _ small rfl rest
      rw [cls b, hab x, this, ← h]
      exact (cls (x :: a)).symm
theorem Srt.app {a b : List E} (h1 : Srt lt a) (h2 : Srt lt b) (h : ∀ x ∈ a, ∀ y ∈ b, lt y x = false) : Srt lt (a ++ b) := List.pairwise_append.2 ⟨h1, h2, h⟩
theorem Srt.left {a b : List E} (h : Srt lt (a ++ b)) : Srt lt a := (List.pairwise_append.1 h).1
theorem Srt.right {a b : List E} (h : Srt lt (a ++ b)) : Srt lt b := (List.pairwise_append.1 h).2.1
theorem Srt.cross {a b : List E} (h : Srt lt (a ++ b)) : ∀ x ∈ a, ∀ y ∈ b, lt y x = false := (List.pairwise_append.1 h).2.2
theorem Srt.nil : Srt lt [] := List.Pairwise.nil
theorem Srt.one (x : E) : Srt lt [x] := List.pairwise_singleton _ _
theorem split_at (l : List E) (n : Nat) (h : n ≤ l.length) : ∃ a b, l = a ++ b ∧ a.length = n := ⟨l.take n, l.drop n, (List.take_append_drop n l).symm, by rw [List.length_take]; omega⟩
/-- Two neighbours, at both sides of a place. -/
theorem Srt.le_last (W : Weak lt) {a : List E} {p : E} (h : Srt lt (a ++ [p])) : ∀ x ∈ a ++ [p], lt p x = false := by
  intro x hx
  rcases List.mem_append.1 hx with hx | hx
  · exact h.cross x hx p (by simp)
  · simp at hx
    subst hx
    exact W.irr x
theorem Srt.ge_first (W : Weak lt) {a : List E} {p : E} (h : Srt lt (p :: a)) : ∀ x ∈ p :: a, lt x p = false := by
  intro x hx
  rcases List.mem_cons.1 hx with hx | hx
  · subst hx
    exact W.irr x
  · exact (List.pairwise_cons.1 h).1 x hx
end
/-! the library's stable sort, for one comparison: Spread_1 -/
section
variable {lt : Int → Int → Bool} {Ok : Int → Prop} {ct : List Int} {cw : List (List Int)} {cz : List Int}
theorem srd (x : List Int) (n : Nat) : rd x (n : Int) = x.getD n 0 := by simp [rd]
theorem sadd {m n : Nat} (h : m + n ≤ 4 * 140737488351232) : wrap64 ((m : Int) + (n : Int)) = ((m + n : Nat) : Int) := by
  rw [wrap64_of (by omega) (by omega)]
  omega
theorem sadd1 {m : Nat} (h : m + 1 ≤ 4 * 140737488351232) : wrap64 ((m : Int) + 1) = ((m + 1 : Nat) : Int) := by
  rw [wrap64_of (by omega) (by omega)]
  omega
theorem ssub {m n : Nat} (h : n ≤ m) (h2 : m ≤ 4 * 140737488351232) : wrap64 ((m : Int) - (n : Int)) = ((m - n : Nat) : Int) := by
  rw [wrap64_of (by omega) (by omega)]
  omega
theorem ssub1 {m : Nat} (h : 1 ≤ m) (h2 : m ≤ 4 * 140737488351232) : wrap64 ((m : Int) - 1) = ((m - 1 : Nat) : Int) := by
  rw [wrap64_of (by omega) (by omega)]
  omega
theorem shalf {i j : Nat} (h : i + j ≤ 4 * 140737488351232) : wrap64 ((IntKind.u64.wrap (wrap64 ((i : Int) + (j : Int)))) / 2) = (((i + j) / 2 : Nat) : Int) := by
  have h1 : IntKind.u64.wrap (wrap64 ((i : Int) + (j : Int))) = (i : Int) + (j : Int) := by
    rw [wrap64_of (by omega) (by omega)]
    simp [IntKind.wrap, IntKind.bits, IntKind.signed]
    omega
  rw [h1, wrap64_of (by omega) (by omega)]
  omega
theorem getD_in {l : List Int} {n : Nat} (z : Int) (h : n < l.length) : l.getD n z ∈ l := by
  rw [List.getD_eq_getElem?_getD, List.getElem?_eq_getElem h]
  exact List.getElem_mem h
/-! swapRange -/
theorem swr_l : ∀ d (i a b n : Nat) (A Yd Xr C Xd Yr B : List Int), Yd.length = i → Xd.length = i → Xr.length = d → Yr.length = d → A.length = a → b = a + i + d + C.length → n = i + d → (A ++ (Yd ++ (Xr ++ (C ++ (Xd ++ (Yr ++ B)))))).length ≤ 140737488351232 →
    Evt (fun k => slices_swapRangeCmpFunc_of_Spread_1.l0 k (A ++ (Yd ++ (Xr ++ (C ++ (Xd ++ (Yr ++ B)))))) (a : Int) (b : Int) (n : Int) (i : Int)) (A ++ (Yd ++ (Yr ++ (C ++ (Xd ++ (Xr ++ B)))))) := by
  intro d
  induction d with
  | zero =>
    intro i a b n A Yd Xr C Xd Yr B h1 h2 h3 h4 h5 h6 h7 hL
    obtain rfl := List.eq_nil_of_length_eq_zero h3
    obtain rfl := List.eq_nil_of_length_eq_zero h4
    refine Evt.succ ?_
    simp only [slices_swapRangeCmpFunc_of_Spread_1.l0]
    exact Evt.ite_neg (by omega) (Evt.pure _)
  | succ d ih =>
    intro i a b n A Yd Xr C Xd Yr B h1 h2 h3 h4 h5 h6 h7 hL
    obtain ⟨x, Xr, rfl⟩ := List.exists_cons_of_length_eq_add_one h3
    obtain ⟨y, Yr, rfl⟩ := List.exists_cons_of_length_eq_add_one h4
    simp only [List.length_cons] at h3 h4
    simp only [List.length_append, List.length_cons] at hL
    have ih := ih (i + 1) a b n A (Yd ++ [y]) Xr C (Xd ++ [x]) Yr B (by simp; omega) (by simp; omega) (by omega) (by omega) h5 (by omega) (by omega) (by simp; omega)
    have e1 : A ++ (Yd ++ (x :: Xr ++ (C ++ (Xd ++ (y :: Yr ++ B))))) = (A ++ Yd) ++ x :: ((Xr ++ C ++ Xd) ++ y :: (Yr ++ B)) := by simp
    have g1 : (A ++ (Yd ++ (x :: Xr ++ (C ++ (Xd ++ (y :: Yr ++ B)))))).getD (a + i) 0 = x := getD_at (A := A ++ Yd) e1 (by simp; omega)
    have g2 : (A ++ (Yd ++ (x :: Xr ++ (C ++ (Xd ++ (y :: Yr ++ B)))))).getD (b + i) 0 = y := getD_at (A := (A ++ Yd) ++ x :: (Xr ++ C ++ Xd)) (C := Yr ++ B) (by rw [e1]; simp) (by simp; omega)
    have s := set_two (A ++ Yd) x y (Xr ++ C ++ Xd) (Yr ++ B) (i := a + i) (j := b + i) (by simp; omega) (by simp; omega)
    have ln : (A ++ (Yd ++ (x :: Xr ++ (C ++ (Xd ++ (y :: Yr ++ B)))))).length = A.length + (Yd.length + (Xr.length + 1 + (C.length + (Xd.length + (Yr.length + 1 + B.length))))) := by simp <;> omega
    refine Evt.succ ?_
    simp only [slices_swapRangeCmpFunc_of_Spread_1.l0]
    rw [sadd (m := b) (n := i) (by omega), sadd (m := a) (n := i) (by omega), srd _ (b + i), srd _ (a + i), g1, g2, Int.toNat_natCast, Int.toNat_natCast, sadd1 (m := i) (by omega)]
    refine Evt.ite_pos (by omega) (Evt.ite_pos (by omega) (Evt.ite_pos (by omega) (Evt.ite_pos (by omega) (Evt.ite_pos (by omega) ?_))))
    have e2 : ((A ++ (Yd ++ (x :: Xr ++ (C ++ (Xd ++ (y :: Yr ++ B)))))).set (a + i) y).set (b + i) x = A ++ ((Yd ++ [y]) ++ (Xr ++ (C ++ ((Xd ++ [x]) ++ (Yr ++ B))))) := by rw [e1, s]; simp
    have e3 : A ++ ((Yd ++ [y]) ++ (Yr ++ (C ++ ((Xd ++ [x]) ++ (Xr ++ B))))) = A ++ (Yd ++ (y :: Yr ++ (C ++ (Xd ++ (x :: Xr ++ B))))) := by simp
    rw [e3] at ih
    have ih2 : Evt (fun k => slices_swapRangeCmpFunc_of_Spread_1.l0 k (((A ++ (Yd ++ (x :: Xr ++ (C ++ (Xd ++ (y :: Yr ++ B)))))).set (a + i) y).set (b + i) x) (a : Int) (b : Int) (n : Int) ((i + 1 : Nat) : Int)) (A ++ (Yd ++ (y :: Yr ++ (C ++ (Xd ++ (x :: Xr ++ B)))))) := by rw [e2]; exact ih
    exact ih2
theorem swr (A X C Y B : List Int) {a b n : Nat} (h1 : A.length = a) (h2 : X.length = n) (h3 : Y.length = n) (h4 : b = a + n + C.length) (hL : (A ++ (X ++ (C ++ (Y ++ B)))).length ≤ 140737488351232) :
    Evt (fun k => slices_swapRangeCmpFunc_of_Spread_1.f k (A ++ (X ++ (C ++ (Y ++ B)))) (a : Int) (b : Int) (n : Int) ct cw cz) (A ++ (Y ++ (C ++ (X ++ B)))) := by
  simp only [slices_swapRangeCmpFunc_of_Spread_1.f]
  have := swr_l n 0 a b n A [] X C [] Y B rfl rfl h2 h3 h1 (by omega) (by omega) (by simpa using hL)
  simpa using this
/-! rotate -/
theorem rot_l : ∀ s (i j m : Nat) (A U V B : List Int), i + j ≤ s → 0 < i → 0 < j → U.length = i → V.length = j → m = A.length + i → (A ++ (U ++ (V ++ B))).length ≤ 140737488351232 →
    Evt (fun k => slices_rotateCmpFunc_of_Spread_1.l0 k (A ++ (U ++ (V ++ B))) (m : Int) (i : Int) (j : Int) ct cw cz) (A ++ (V ++ (U ++ B))) := by
  intro s
  induction s with
  | zero => intro i j m A U V B h0 hi; omega
  | succ s ih =>
    intro i j m A U V B h0 hi hj hU hV hm hL
    have ln : (A ++ (U ++ (V ++ B))).length = A.length + (i + (j + B.length)) := by simp [hU, hV]
    have hL2 : A.length + (i + (j + B.length)) ≤ 140737488351232 := by rw [← ln]; exact hL
    clear ln
    refine Evt.succ ?_
    simp only [slices_rotateCmpFunc_of_Spread_1.l0]
    rw [ssub (m := m) (n := i) (by omega) (by omega)]
    by_cases c : i = j
    · subst c
      have := swr (ct := ct) (cw := cw) (cz := cz) A U [] V B (a := m - i) (b := m) (n := i) (by omega) hU hV (by simp; omega) (by simpa using hL)
      simp only [List.nil_append] at this
      exact Evt.ite_pos rfl (Evt.bind this (Evt.pure _))
    · refine Evt.ite_neg (by omega) ?_
      by_cases d : i > j
      · obtain ⟨U1, U2, rfl, hU1⟩ := split_at U j (by omega)
        simp only [List.length_append] at hU
        have sw := swr (ct := ct) (cw := cw) (cz := cz) A U1 U2 V B (a := m - i) (b := m) (n := j) (by omega) hU1 hV (by omega) (by simpa using hL)
        have rc := ih (i - j) j m (A ++ V) U2 U1 B (by omega) (by omega) hj (by omega) hU1 (by simp; omega) (by simp; omega)
        rw [ssub (m := i) (n := j) (by omega) (by omega)]
        refine Evt.ite_pos (by omega) (Evt.bind (a := A ++ (V ++ (U2 ++ (U1 ++ B)))) (by simpa using sw) ?_)
        simpa using rc
      · obtain ⟨V1, V2, rfl, hV1⟩ := split_at V (j - i) (by omega)
        simp only [List.length_append] at hV
        have sw := swr (ct := ct) (cw := cw) (cz := cz) A U V1 V2 B (a := m - i) (b := m + j - i) (n := i) (by omega) hU (by omega) (by omega) (by simpa using hL)
        have rc := ih i (j - i) m A V2 V1 (U ++ B) (by omega) hi (by omega) (by omega) hV1 (by omega) (by simp; omega)
        rw [sadd (m := m) (n := j) (by omega), ssub (m := m + j) (n := i) (by omega) (by omega), ssub (m := j) (n := i) (by omega) (by omega)]
        refine Evt.ite_neg (by omega) (Evt.bind (a := A ++ (V2 ++ (V1 ++ (U ++ B)))) (by simpa using sw) ?_)
        simpa using rc
theorem rot (A U V B : List Int) {a m b : Nat} (h1 : A.length = a) (h2 : m = a + U.length) (h3 : b = m + V.length) (hU : 0 < U.length) (hV : 0 < V.length) (hL : (A ++ (U ++ (V ++ B))).length ≤ 140737488351232) :
    Evt (fun k => slices_rotateCmpFunc_of_Spread_1.f k (A ++ (U ++ (V ++ B))) (a : Int) (m : Int) (b : Int) ct cw cz) (A ++ (V ++ (U ++ B))) := by
  have ln : (A ++ (U ++ (V ++ B))).length = A.length + (U.length + (V.length + B.length)) := by simp
  simp only [slices_rotateCmpFunc_of_Spread_1.f]
  rw [ssub (m := m) (n := a) (by omega) (by omega), ssub (m := b) (n := m) (by omega) (by omega)]
  exact rot_l _ (m - a) (b - m) m A U V B (Nat.le_refl _) (by omega) (by omega) (by omega) (by omega) (by omega) hL
/-! insertionSort -/
theorem ins_in (W : Weak lt) (hc : ∀ p q : Int, Ok p → Ok q → ∃ c : Int, Evt (fun k => hours_Spread_1.f p q ct cw cz) c ∧ (c < 0 ↔ lt p q = true)) {a b i : Nat} (A : List Int) (hA : A.length = a) : ∀ s (P Q R : List Int) (e : Int) (j : Nat), P.length = s → (∀ y ∈ P, Ok y) → Ok e → j = a + P.length → i = a + P.length + Q.length → (A ++ (P ++ e :: (Q ++ R))).length ≤ 140737488351232 → Srt lt (P ++ Q) → (∀ q ∈ Q, lt e q = true) →
    ∃ M, Srt lt M ∧ St lt (P ++ e :: Q) M ∧ ∀ r, Evt (fun k => slices_insertionSortCmpFunc_of_Spread_1.l0 k (A ++ (M ++ R)) (a : Int) (b : Int) ((i + 1 : Nat) : Int) ct cw cz) r → Evt (fun k => slices_insertionSortCmpFunc_of_Spread_1.l1 k (A ++ (P ++ e :: (Q ++ R))) (a : Int) (b : Int) (i : Int) (j : Int) ct cw cz) r := by
  intro s
  induction s with
  | zero =>
    intro P Q R e j hs okP oke hj hi hL hS hQ
    obtain rfl := List.eq_nil_of_length_eq_zero hs
    have ln : (A ++ ([] ++ e :: (Q ++ R))).length = A.length + (Q.length + R.length + 1) := by simp
    simp only [List.length_nil, Nat.add_zero] at hj hi
    refine ⟨e :: Q, ?_, St.refl _, fun r H => Evt.succ ?_⟩
    · exact Srt.app (a := [e]) (Srt.one e) (by simpa using hS) (fun x hx y hy => by simp at hx; subst hx; exact W.asym (hQ y hy))
    · simp only [slices_insertionSortCmpFunc_of_Spread_1.l1]
      rw [sadd1 (m := i) (by omega)]
      exact Evt.ite_neg (by omega) H
  | succ s ih =>
    intro P Q R e j hs okP oke hj hi hL hS hQ
    obtain ⟨P, p, rfl⟩ : ∃ P' p, P = P' ++ [p] := ⟨P.dropLast, P.getLast (fun h => by rw [h] at hs; simp at hs), (List.dropLast_concat_getLast _).symm⟩
    simp only [List.length_append, List.length_cons, List.length_nil] at hs hj hi
    have e1 : A ++ (P ++ [p] ++ e :: (Q ++ R)) = (A ++ P) ++ p :: ([] ++ e :: (Q ++ R)) := by simp
    have ln : (A ++ (P ++ [p] ++ e :: (Q ++ R))).length = A.length + (P.length + 1 + (Q.length + R.length + 1)) := by simp; omega
    have g1 : (A ++ (P ++ [p] ++ e :: (Q ++ R))).getD j 0 = e := getD_at (A := A ++ P ++ [p]) (C := Q ++ R) (by simp) (by simp; omega)
    have g2 : (A ++ (P ++ [p] ++ e :: (Q ++ R))).getD (j - 1) 0 = p := getD_at (A := A ++ P) e1 (by simp; omega)
    have sw := set_two' (A ++ P) p e [] (Q ++ R) (i := j - 1) (j := j) (by simp; omega) (by simp; omega)
    obtain ⟨c, hcc, hlt⟩ := hc e p oke (okP p (by simp))
    have go : ∀ r, (if c < 0 then Evt (fun k => slices_insertionSortCmpFunc_of_Spread_1.l1 k (A ++ (P ++ e :: ((p :: Q) ++ R))) (a : Int) (b : Int) (i : Int) ((j - 1 : Nat) : Int) ct cw cz) r else Evt (fun k => slices_insertionSortCmpFunc_of_Spread_1.l0 k (A ++ (P ++ [p] ++ e :: (Q ++ R))) (a : Int) (b : Int) ((i + 1 : Nat) : Int) ct cw cz) r) →
        Evt (fun k => slices_insertionSortCmpFunc_of_Spread_1.l1 k (A ++ (P ++ [p] ++ e :: (Q ++ R))) (a : Int) (b : Int) (i : Int) (j : Int) ct cw cz) r := by
      intro r H
      refine Evt.succ ?_
      simp only [slices_insertionSortCmpFunc_of_Spread_1.l1]
      rw [ssub1 (m := j) (by omega) (by omega), srd _ j, srd _ (j - 1), g1, g2, Int.toNat_natCast, Int.toNat_natCast, sadd1 (m := i) (by omega)]
      refine Evt.ite_pos (by omega) (Evt.ite_pos (by omega) (Evt.ite_pos (by omega) (Evt.ite_pos (by omega) (Evt.ite_pos (by omega) (Evt.bind hcc ?_)))))
      refine Evt.ite (fun h => ?_) (fun h => ?_)
      · rw [if_pos h] at H
        have e2 : ((A ++ (P ++ [p] ++ e :: (Q ++ R))).set j p).set (j - 1) e = A ++ (P ++ e :: ((p :: Q) ++ R)) := by rw [e1, sw]; simp
        rw [← e2] at H
        exact H
      · rw [if_neg h] at H
        exact H
    by_cases h : lt e p = true
    · obtain ⟨M, hM, hSt, H⟩ := ih P (p :: Q) R e (j - 1) (by omega) (fun y hy => okP y (by simp [hy])) oke (by omega) (by simp; omega) (by simp at hL ⊢; omega) (by simpa using hS) (fun q hq => by
        rcases List.mem_cons.1 hq with rfl | hq
        · exact h
        · exact hQ q hq)
      refine ⟨M, hM, ?_, fun r hr => go r (by rw [if_pos (hlt.2 h)]; exact H r hr)⟩
      refine St.trans ?_ hSt
      have := St.mid P Q (St.comm W (a := [p]) (b := [e]) (fun x hx y hy => by simp at hx hy; subst hx hy; exact h))
      simpa using this
    · have h' : lt e p = false := by simpa using h
      refine ⟨P ++ [p] ++ e :: Q, ?_, St.refl _, fun r hr => go r (by rw [if_neg (fun x => h (hlt.1 x))]; simpa using hr)⟩
      refine Srt.app hS.left (Srt.app (a := [e]) (Srt.one e) hS.right (fun x hx y hy => by simp at hx; subst hx; exact W.asym (hQ y hy))) (fun x hx y hy => ?_)
      rcases List.mem_cons.1 hy with rfl | hy
      · exact W.tl h' (Srt.le_last W hS.left x hx)
      · exact hS.cross x hx y hy
theorem ins_out (W : Weak lt) (hc : ∀ p q : Int, Ok p → Ok q → ∃ c : Int, Evt (fun k => hours_Spread_1.f p q ct cw cz) c ∧ (c < 0 ↔ lt p q = true)) {a b : Nat} (A B : List Int) (hA : A.length = a) : ∀ (T M : List Int) (i : Nat), (∀ y ∈ M, Ok y) → (∀ y ∈ T, Ok y) → i = a + M.length → b = i + T.length → (A ++ (M ++ (T ++ B))).length ≤ 140737488351232 → Srt lt M → ∃ N, Srt lt N ∧ St lt (M ++ T) N ∧ Evt (fun k => slices_insertionSortCmpFunc_of_Spread_1.l0 k (A ++ (M ++ (T ++ B))) (a : Int) (b : Int) (i : Int) ct cw cz) (A ++ (N ++ B)) := by
  intro T
  induction T with
  | nil =>
    intro M i okM okT hi hb hL hM
    refine ⟨M, hM, by rw [List.append_nil]; exact St.refl _, Evt.succ ?_⟩
    simp only [slices_insertionSortCmpFunc_of_Spread_1.l0, List.nil_append]
    simp only [List.length_nil] at hb
    exact Evt.ite_neg (by omega) (Evt.pure _)
  | cons e T ih =>
    intro M i okM okT hi hb hL hM
    simp only [List.length_cons] at hb
    obtain ⟨M1, s1, t1, H⟩ := ins_in W hc (a := a) (b := b) (i := i) A hA M.length M [] (T ++ B) e i rfl okM (okT e (by simp)) hi (by simp; omega) (by simpa using hL) (by simpa using hM) (fun q hq => by simp at hq)
    have l1 := St.length W t1
    simp only [List.length_append, List.length_cons, List.length_nil] at l1
    obtain ⟨N, sN, tN, HN⟩ := ih M1 (i + 1) (fun y hy => by
      rcases List.mem_append.1 ((St.mem W t1 y).1 hy) with h | h
      · exact okM y h
      · simp at h
        subst h
        exact okT _ (by simp)) (fun y hy => okT y (by simp [hy])) (by omega) (by omega) (by simp at hL ⊢; omega) s1
    refine ⟨N, sN, ?_, Evt.succ ?_⟩
    · have := (t1.app (St.refl T)).trans tN
      simpa using this
    · simp only [slices_insertionSortCmpFunc_of_Spread_1.l0]
      have := H _ HN
      simp only [List.nil_append] at this
      exact Evt.ite_pos (by omega) this
theorem ins_f (W : Weak lt) (hc : ∀ p q : Int, Ok p → Ok q → ∃ c : Int, Evt (fun k => hours_Spread_1.f p q ct cw cz) c ∧ (c < 0 ↔ lt p q = true)) (A M B : List Int) {a b : Nat} (hA : A.length = a) (hb : b = a + M.length) (ok : ∀ y ∈ M, Ok y) (hL : (A ++ (M ++ B)).length ≤ 140737488351232) : ∃ N, Srt lt N ∧ St lt M N ∧ Evt (fun k => slices_insertionSortCmpFunc_of_Spread_1.f k (A ++ (M ++ B)) (a : Int) (b : Int) ct cw cz) (A ++ (N ++ B)) := by
  have ln : (A ++ (M ++ B)).length = A.length + (M.length + B.length) := by simp
  simp only [slices_insertionSortCmpFunc_of_Spread_1.f]
  rw [sadd1 (m := a) (by omega)]
  cases M with
  | nil =>
    refine ⟨[], Srt.nil, St.refl _, Evt.succ ?_⟩
    simp only [slices_insertionSortCmpFunc_of_Spread_1.l0]
    simp only [List.length_nil] at hb
    exact Evt.ite_neg (by omega) (Evt.pure _)
  | cons e M =>
    simp only [List.length_cons] at hb
    obtain ⟨N, s, t, H⟩ := ins_out W hc (a := a) (b := b) A B hA M [e] (a + 1) (fun y hy => by
      simp at hy
      subst hy
      exact ok _ (by simp)) (fun y hy => ok y (by simp [hy])) (by simp) (by omega) (by simpa using hL) (Srt.one e)
    exact ⟨N, s, by simpa using t, by simpa using H⟩
/-! symMerge -/
theorem sm_l0 (hc : ∀ p q : Int, Ok p → Ok q → ∃ c : Int, Evt (fun k => hours_Spread_1.f p q ct cw cz) c ∧ (c < 0 ↔ lt p q = true)) (x : List Int) {a lo hi : Nat} (ha : a < x.length) (hh : hi ≤ x.length) (hL : x.length ≤ 140737488351232) (ok : ∀ y ∈ x, Ok y) : ∀ d (i j : Nat), j ≤ i + d → lo ≤ i → i ≤ j → j ≤ hi →
    (i = lo ∨ lt (x.getD (i - 1) 0) (x.getD a 0) = true) → (j = hi ∨ lt (x.getD j 0) (x.getD a 0) = false) →
    ∃ s : Nat, lo ≤ s ∧ s ≤ hi ∧ (s = lo ∨ lt (x.getD (s - 1) 0) (x.getD a 0) = true) ∧ (s = hi ∨ lt (x.getD s 0) (x.getD a 0) = false) ∧
      ∀ r, Evt (fun k => slices_symMergeCmpFunc_of_Spread_1.l1 k x (s : Int) (a : Int)) r → Evt (fun k => slices_symMergeCmpFunc_of_Spread_1.l0 k x (a : Int) (i : Int) (j : Int) ct cw cz) r := by
  intro d
  induction d with
  | zero =>
    intro i j h1 h2 h3 h4 h5 h6
    obtain rfl : i = j := by omega
    refine ⟨i, h2, h4, h5, h6, fun r H => Evt.succ ?_⟩
    simp only [slices_symMergeCmpFunc_of_Spread_1.l0]
    exact Evt.ite_neg (by omega) H
  | succ d ih =>
    intro i j h1 h2 h3 h4 h5 h6
    by_cases c : i = j
    · subst c
      refine ⟨i, h2, h4, h5, h6, fun r H => Evt.succ ?_⟩
      simp only [slices_symMergeCmpFunc_of_Spread_1.l0]
      exact Evt.ite_neg (by omega) H
    · obtain ⟨h, eh⟩ : ∃ h : Nat, h = (i + j) / 2 := ⟨_, rfl⟩
      obtain ⟨v, hv, hlt⟩ := hc (x.getD h 0) (x.getD a 0) (ok _ (getD_in _ (by omega))) (ok _ (getD_in _ (by omega)))
      have go : ∀ r, (if v < 0 then Evt (fun k => slices_symMergeCmpFunc_of_Spread_1.l0 k x (a : Int) ((h + 1 : Nat) : Int) (j : Int) ct cw cz) r else Evt (fun k => slices_symMergeCmpFunc_of_Spread_1.l0 k x (a : Int) (i : Int) (h : Int) ct cw cz) r) →
          Evt (fun k => slices_symMergeCmpFunc_of_Spread_1.l0 k x (a : Int) (i : Int) (j : Int) ct cw cz) r := by
        intro r H
        refine Evt.succ ?_
        simp only [slices_symMergeCmpFunc_of_Spread_1.l0]
        rw [shalf (i := i) (j := j) (by omega), ← eh, srd _ h, srd _ a, sadd1 (m := h) (by omega)]
        refine Evt.ite_pos (by omega) (Evt.ite_pos (by omega) (Evt.ite_pos (by omega) (Evt.ite_pos (by omega) (Evt.ite_pos (by omega) (Evt.bind hv ?_)))))
        refine Evt.ite (fun h => ?_) (fun h => ?_)
        · rw [if_pos h] at H
          exact H
        · rw [if_neg h] at H
          exact H
      by_cases hb : lt (x.getD h 0) (x.getD a 0) = true
      · obtain ⟨s, b1, b2, b3, b4, H⟩ := ih (h + 1) j (by omega) (by omega) (by omega) h4 (Or.inr hb) h6
        exact ⟨s, b1, b2, b3, b4, fun r hr => go r (by rw [if_pos (hlt.2 hb)]; exact H r hr)⟩
      · obtain ⟨s, b1, b2, b3, b4, H⟩ := ih i h (by omega) h2 (by omega) (by omega) h5 (Or.inr (by simpa using hb))
        exact ⟨s, b1, b2, b3, b4, fun r hr => go r (by rw [if_neg (fun y => hb (hlt.1 y))]; exact H r hr)⟩
theorem sm_l2 (hc : ∀ p q : Int, Ok p → Ok q → ∃ c : Int, Evt (fun k => hours_Spread_1.f p q ct cw cz) c ∧ (c < 0 ↔ lt p q = true)) (x : List Int) {m lo hi : Nat} (hm : m < x.length) (hh : hi ≤ x.length) (hL : x.length ≤ 140737488351232) (ok : ∀ y ∈ x, Ok y) : ∀ d (i j : Nat), j ≤ i + d → lo ≤ i → i ≤ j → j ≤ hi →
    (i = lo ∨ lt (x.getD m 0) (x.getD (i - 1) 0) = false) → (j = hi ∨ lt (x.getD m 0) (x.getD j 0) = true) →
    ∃ s : Nat, lo ≤ s ∧ s ≤ hi ∧ (s = lo ∨ lt (x.getD m 0) (x.getD (s - 1) 0) = false) ∧ (s = hi ∨ lt (x.getD m 0) (x.getD s 0) = true) ∧
      ∀ r, Evt (fun k => slices_symMergeCmpFunc_of_Spread_1.l3 k x (s : Int) (m : Int)) r → Evt (fun k => slices_symMergeCmpFunc_of_Spread_1.l2 k x (m : Int) (i : Int) (j : Int) ct cw cz) r := by
  intro d
  induction d with
  | zero =>
    intro i j h1 h2 h3 h4 h5 h6
    obtain rfl : i = j := by omega
    refine ⟨i, h2, h4, h5, h6, fun r H => Evt.succ ?_⟩
    simp only [slices_symMergeCmpFunc_of_Spread_1.l2]
    exact Evt.ite_neg (by omega) H
  | succ d ih =>
    intro i j h1 h2 h3 h4 h5 h6
    by_cases c : i = j
    · subst c
      refine ⟨i, h2, h4, h5, h6, fun r H => Evt.succ ?_⟩
      simp only [slices_symMergeCmpFunc_of_Spread_1.l2]
      exact Evt.ite_neg (by omega) H
    · obtain ⟨h, eh⟩ : ∃ h : Nat, h = (i + j) / 2 := ⟨_, rfl⟩
      obtain ⟨v, hv, hlt⟩ := hc (x.getD m 0) (x.getD h 0) (ok _ (getD_in _ (by omega))) (ok _ (getD_in _ (by omega)))
      have go : ∀ r, (if v < 0 then Evt (fun k => slices_symMergeCmpFunc_of_Spread_1.l2 k x (m : Int) (i : Int) (h : Int) ct cw cz) r else Evt (fun k => slices_symMergeCmpFunc_of_Spread_1.l2 k x (m : Int) ((h + 1 : Nat) : Int) (j : Int) ct cw cz) r) →
          Evt (fun k => slices_symMergeCmpFunc_of_Spread_1.l2 k x (m : Int) (i : Int) (j : Int) ct cw cz) r := by
        intro r H
        refine Evt.succ ?_
        simp only [slices_symMergeCmpFunc_of_Spread_1.l2]
        rw [shalf (i := i) (j := j) (by omega), ← eh, srd _ h, srd _ m, sadd1 (m := h) (by omega)]
        refine Evt.ite_pos (by omega) (Evt.ite_pos (by omega) (Evt.ite_pos (by omega) (Evt.ite_pos (by omega) (Evt.ite_pos (by omega) (Evt.bind hv ?_)))))
        refine Evt.ite (fun h => ?_) (fun h => ?_)
        · rw [if_pos h] at H
          exact H
        · rw [if_neg h] at H
          exact H
      by_cases hb : lt (x.getD m 0) (x.getD h 0) = true
      · obtain ⟨s, b1, b2, b3, b4, H⟩ := ih i h (by omega) h2 (by omega) (by omega) h5 (Or.inr hb)
        exact ⟨s, b1, b2, b3, b4, fun r hr => go r (by rw [if_pos (hlt.2 hb)]; exact H r hr)⟩
      · obtain ⟨s, b1, b2, b3, b4, H⟩ := ih (h + 1) j (by omega) (by omega) (by omega) h4 (Or.inr (by simpa using hb)) h6
        exact ⟨s, b1, b2, b3, b4, fun r hr => go r (by rw [if_neg (fun y => hb (hlt.1 y))]; exact H r hr)⟩
theorem sm_l4 (hc : ∀ p q : Int, Ok p → Ok q → ∃ c : Int, Evt (fun k => hours_Spread_1.f p q ct cw cz) c ∧ (c < 0 ↔ lt p q = true)) (x : List Int) (a m b mid n : Int) {p lo hi : Nat} (hi1 : ∀ c, lo ≤ c → c < hi → c < x.length ∧ c ≤ p ∧ p - c < x.length) (hp : p ≤ 2 * 140737488351232) (hL : x.length ≤ 140737488351232) (ok : ∀ y ∈ x, Ok y) : ∀ d (i j : Nat), j ≤ i + d → lo ≤ i → i ≤ j → j ≤ hi → hi ≤ 140737488351232 →
    (i = lo ∨ lt (x.getD (p - (i - 1)) 0) (x.getD (i - 1) 0) = false) → (j = hi ∨ lt (x.getD (p - j) 0) (x.getD j 0) = true) →
    ∃ s : Nat, lo ≤ s ∧ s ≤ hi ∧ (s = lo ∨ lt (x.getD (p - (s - 1)) 0) (x.getD (s - 1) 0) = false) ∧ (s = hi ∨ lt (x.getD (p - s) 0) (x.getD s 0) = true) ∧
      ∀ r, Evt (fun k => if (s : Int) < m then slices_symMergeCmpFunc_of_Spread_1.j6 k x a m b mid (s : Int) (wrap64 (n - (s : Int))) (decide (m < (wrap64 (n - (s : Int))))) ct cw cz else slices_symMergeCmpFunc_of_Spread_1.j6 k x a m b mid (s : Int) (wrap64 (n - (s : Int))) false ct cw cz) r →
        Evt (fun k => slices_symMergeCmpFunc_of_Spread_1.l4 k x a m b mid n (i : Int) (j : Int) (p : Int) ct cw cz) r := by
  intro d
  induction d with
  | zero =>
    intro i j h1 h2 h3 h4 _ h5 h6
    obtain rfl : i = j := by omega
    refine ⟨i, h2, h4, h5, h6, fun r H => Evt.succ ?_⟩
    simp only [slices_symMergeCmpFunc_of_Spread_1.l4]
    exact Evt.ite_neg (by omega) H
  | succ d ih =>
    intro i j h1 h2 h3 h4 hhi h5 h6
    by_cases c : i = j
    · subst c
      refine ⟨i, h2, h4, h5, h6, fun r H => Evt.succ ?_⟩
      simp only [slices_symMergeCmpFunc_of_Spread_1.l4]
      exact Evt.ite_neg (by omega) H
    · obtain ⟨h, eh⟩ : ∃ h : Nat, h = (i + j) / 2 := ⟨_, rfl⟩
      obtain ⟨q1, q2, q3⟩ := hi1 h (by omega) (by omega)
      obtain ⟨v, hv, hlt⟩ := hc (x.getD (p - h) 0) (x.getD h 0) (ok _ (getD_in _ (by omega))) (ok _ (getD_in _ (by omega)))
      have go : ∀ r, (if v < 0 then Evt (fun k => slices_symMergeCmpFunc_of_Spread_1.l4 k x a m b mid n (i : Int) (h : Int) (p : Int) ct cw cz) r else Evt (fun k => slices_symMergeCmpFunc_of_Spread_1.l4 k x a m b mid n ((h + 1 : Nat) : Int) (j : Int) (p : Int) ct cw cz) r) →
          Evt (fun k => slices_symMergeCmpFunc_of_Spread_1.l4 k x a m b mid n (i : Int) (j : Int) (p : Int) ct cw cz) r := by
        intro r H
        refine Evt.succ ?_
        simp only [slices_symMergeCmpFunc_of_Spread_1.l4]
        rw [shalf (i := i) (j := j) (by omega), ← eh, ssub (m := p) (n := h) q2 (by omega), srd _ h, srd _ (p - h), sadd1 (m := h) (by omega)]
        refine Evt.ite_pos (by omega) (Evt.ite_pos (by omega) (Evt.ite_pos (by omega) (Evt.ite_pos (by omega) (Evt.ite_pos (by omega) (Evt.bind hv ?_)))))
        refine Evt.ite (fun h => ?_) (fun h => ?_)
        · rw [if_pos h] at H
          exact H
        · rw [if_neg h] at H
          exact H
      by_cases hb : lt (x.getD (p - h) 0) (x.getD h 0) = true
      · obtain ⟨s, b1, b2, b3, b4, H⟩ := ih i h (by omega) h2 (by omega) (by omega) hhi h5 (Or.inr hb)
        exact ⟨s, b1, b2, b3, b4, fun r hr => go r (by rw [if_pos (hlt.2 hb)]; exact H r hr)⟩
      · obtain ⟨s, b1, b2, b3, b4, H⟩ := ih (h + 1) j (by omega) (by omega) (by omega) h4 hhi (Or.inr (by simpa using hb)) h6
        exact ⟨s, b1, b2, b3, b4, fun r hr => go r (by rw [if_neg (fun y => hb (hlt.1 y))]; exact H r hr)⟩
theorem sm_l1 (e : Int) (R : List Int) : ∀ (Q A : List Int) (p i : Nat), A.length = p → i = p + 1 + Q.length → (A ++ e :: (Q ++ R)).length ≤ 140737488351232 → Evt (fun k => slices_symMergeCmpFunc_of_Spread_1.l1 k (A ++ e :: (Q ++ R)) (i : Int) (p : Int)) (A ++ (Q ++ e :: R)) := by
  intro Q
  induction Q with
  | nil =>
    intro A p i h1 h2 hL
    simp only [List.length_append, List.length_cons, List.length_nil] at h2 hL
    refine Evt.succ ?_
    simp only [slices_symMergeCmpFunc_of_Spread_1.l1]
    rw [ssub1 (m := i) (by omega) (by omega)]
    exact Evt.ite_neg (by omega) (Evt.pure _)
  | cons q Q ih =>
    intro A p i h1 h2 hL
    simp only [List.length_cons] at h2
    have ln : (A ++ e :: (q :: Q ++ R)).length = A.length + (Q.length + R.length + 2) := by simp <;> omega
    have ih := ih (A ++ [q]) (p + 1) i (by simp; omega) (by omega) (by simp at hL ⊢; omega)
    have e1 : A ++ e :: (q :: Q ++ R) = A ++ e :: ([] ++ q :: (Q ++ R)) := by simp
    have g1 : (A ++ e :: (q :: Q ++ R)).getD p 0 = e := getD_at (A := A) rfl (by omega)
    have g2 : (A ++ e :: (q :: Q ++ R)).getD (p + 1) 0 = q := getD_at (A := A ++ [e]) (C := Q ++ R) (by simp) (by simp; omega)
    have sw := set_two A e q [] (Q ++ R) (i := p) (j := p + 1) (by omega) (by simp; omega)
    refine Evt.succ ?_
    simp only [slices_symMergeCmpFunc_of_Spread_1.l1]
    rw [ssub1 (m := i) (by omega) (by omega), sadd1 (m := p) (by omega), srd _ p, srd _ (p + 1), g1, g2, Int.toNat_natCast, Int.toNat_natCast]
    refine Evt.ite_pos (by omega) (Evt.ite_pos (by omega) (Evt.ite_pos (by omega) (Evt.ite_pos (by omega) (Evt.ite_pos (by omega) ?_))))
    have e2 : ((A ++ e :: (q :: Q ++ R)).set p q).set (p + 1) e = A ++ [q] ++ e :: (Q ++ R) := by rw [e1, sw]; simp
    have e3 : A ++ [q] ++ (Q ++ e :: R) = A ++ (q :: Q ++ e :: R) := by simp
    rw [← e2, e3] at ih
    exact ih
theorem sm_l3 (e : Int) (A : List Int) {i : Nat} (hA : i = A.length) : ∀ n (Q R : List Int) (p : Nat), Q.length = n → p = A.length + n → (A ++ (Q ++ e :: R)).length ≤ 140737488351232 → Evt (fun k => slices_symMergeCmpFunc_of_Spread_1.l3 k (A ++ (Q ++ e :: R)) (i : Int) (p : Int)) (A ++ e :: (Q ++ R)) := by
  intro n
  induction n with
  | zero =>
    intro Q R p h1 h2 hL
    obtain rfl := List.eq_nil_of_length_eq_zero h1
    refine Evt.succ ?_
    simp only [slices_symMergeCmpFunc_of_Spread_1.l3]
    exact Evt.ite_neg (by omega) (Evt.pure _)
  | succ n ih =>
    intro Q R p h1 h2 hL
    obtain ⟨Q, q, rfl⟩ : ∃ P' p, Q = P' ++ [p] := ⟨Q.dropLast, Q.getLast (fun h => by rw [h] at h1; simp at h1), (List.dropLast_concat_getLast _).symm⟩
    simp only [List.length_append, List.length_cons, List.length_nil] at h1
    have ln : (A ++ (Q ++ [q] ++ e :: R)).length = A.length + (Q.length + R.length + 2) := by simp <;> omega
    have ih := ih Q (q :: R) (p - 1) (by omega) (by omega) (by simp at hL ⊢; omega)
    have e1 : A ++ (Q ++ [q] ++ e :: R) = (A ++ Q) ++ q :: ([] ++ e :: R) := by simp
    have g1 : (A ++ (Q ++ [q] ++ e :: R)).getD p 0 = e := getD_at (A := A ++ Q ++ [q]) (C := R) (by simp) (by simp; omega)
    have g2 : (A ++ (Q ++ [q] ++ e :: R)).getD (p - 1) 0 = q := getD_at (A := A ++ Q) e1 (by simp; omega)
    have sw := set_two' (A ++ Q) q e [] R (i := p - 1) (j := p) (by simp; omega) (by simp; omega)
    refine Evt.succ ?_
    simp only [slices_symMergeCmpFunc_of_Spread_1.l3]
    rw [ssub1 (m := p) (by omega) (by omega), srd _ p, srd _ (p - 1), g1, g2, Int.toNat_natCast, Int.toNat_natCast]
    refine Evt.ite_pos (by omega) (Evt.ite_pos (by omega) (Evt.ite_pos (by omega) (Evt.ite_pos (by omega) (Evt.ite_pos (by omega) ?_))))
    have e2 : ((A ++ (Q ++ [q] ++ e :: R)).set p q).set (p - 1) e = A ++ (Q ++ e :: (q :: R)) := by rw [e1, sw]; simp
    have e3 : A ++ e :: (Q ++ q :: R) = A ++ e :: (Q ++ [q] ++ R) := by simp
    rw [← e2, e3] at ih
    exact ih
end
section
variable {lt : Int → Int → Bool} {Ok : Int → Prop} {ct : List Int} {cw : List (List Int)} {cz : List Int}
theorem ex_last {L : List Int} (h : 0 < L.length) : ∃ P p, L = P ++ [p] := ⟨L.dropLast, L.getLast (fun e => by rw [e] at h; simp at h), (List.dropLast_concat_getLast _).symm⟩
theorem ex_first {L : List Int} (h : 0 < L.length) : ∃ p P, L = p :: P := by
  cases L with
  | nil => simp at h
  | cons p P => exact ⟨p, P, rfl⟩
/-- One element ahead of a sorted row. -/
theorem sm_one (W : Weak lt) (hc : ∀ p q : Int, Ok p → Ok q → ∃ c : Int, Evt (fun k => hours_Spread_1.f p q ct cw cz) c ∧ (c < 0 ↔ lt p q = true)) (A R B : List Int) (e : Int) {a m b : Nat} (hA : A.length = a) (hm : m = a + 1) (hb : b = m + R.length) (hR : Srt lt R) (hL : (A ++ (e :: (R ++ B))).length ≤ 140737488351232) (ok : ∀ y ∈ A ++ (e :: (R ++ B)), Ok y) :
    ∃ M, Srt lt M ∧ St lt (e :: R) M ∧ Evt (fun k => slices_symMergeCmpFunc_of_Spread_1.l0 k (A ++ (e :: (R ++ B))) (a : Int) (m : Int) (b : Int) ct cw cz) (A ++ (M ++ B)) := by
  have ln : (A ++ (e :: (R ++ B))).length = A.length + (R.length + B.length + 1) := by simp
  have ge : (A ++ (e :: (R ++ B))).getD a 0 = e := getD_at (A := A) rfl (by omega)
  obtain ⟨s, b1, b2, b3, b4, H⟩ := sm_l0 hc (A ++ (e :: (R ++ B))) (a := a) (lo := m) (hi := b) (by omega) (by omega) hL ok (b - m) m b (by omega) (by omega) (by omega) (by omega) (Or.inl rfl) (Or.inl rfl)
  rw [ge] at b3 b4
  obtain ⟨R1, R2, rfl, hR1⟩ := split_at R (s - m) (by omega)
  simp only [List.length_append] at hb ln
  have c1 : ∀ x ∈ R1, lt x e = true := by
    by_cases h : 0 < R1.length
    · obtain ⟨P, p, rfl⟩ := ex_last h
      simp only [List.length_append, List.length_cons, List.length_nil] at hR1
      rcases b3 with b3 | b3
      · omega
      · rw [getD_at (A := A ++ e :: P) (x := p) (C := R2 ++ B) (by simp) (by simp; omega)] at b3
        exact fun x hx => W.le_lt (Srt.le_last W hR.left x hx) b3
    · have : R1 = [] := List.eq_nil_of_length_eq_zero (by omega)
      subst this
      exact fun x hx => by simp at hx
  have c2 : ∀ y ∈ R2, lt y e = false := by
    by_cases h : 0 < R2.length
    · obtain ⟨p, P, rfl⟩ := ex_first h
      simp only [List.length_cons] at hb ln
      rcases b4 with b4 | b4
      · omega
      · rw [getD_at (A := A ++ e :: R1) (x := p) (C := P ++ B) (by simp) (by simp; omega)] at b4
        exact fun y hy => W.tl (Srt.ge_first W hR.right y hy) b4
    · have : R2 = [] := List.eq_nil_of_length_eq_zero (by omega)
      subst this
      exact fun x hx => by simp at hx
  refine ⟨R1 ++ e :: R2, ?_, ?_, ?_⟩
  · refine Srt.app hR.left (Srt.app (a := [e]) (Srt.one e) hR.right (fun x hx y hy => by simp at hx; subst hx; exact c2 y hy)) (fun x hx y hy => ?_)
    rcases List.mem_cons.1 hy with rfl | hy
    · exact W.asym (c1 x hx)
    · exact hR.cross x hx y hy
  · have := (St.comm W (a := [e]) (b := R1) (fun x hx y hy => by simp at hx; subst hx; exact c1 y hy)).app (St.refl (lt := lt) R2)
    simpa using this
  · have := H (A ++ (R1 ++ e :: (R2 ++ B))) (by
      have := sm_l1 e (R2 ++ B) R1 A a s hA (by omega) (by simpa using hL)
      simpa using this)
    simpa using this
/-- One element behind a sorted row. -/
theorem sm_two (W : Weak lt) (hc : ∀ p q : Int, Ok p → Ok q → ∃ c : Int, Evt (fun k => hours_Spread_1.f p q ct cw cz) c ∧ (c < 0 ↔ lt p q = true)) (A L B : List Int) (e : Int) {a m : Nat} (hA : A.length = a) (hm : m = a + L.length) (hS : Srt lt L) (hL : (A ++ (L ++ e :: B)).length ≤ 140737488351232) (ok : ∀ y ∈ A ++ (L ++ e :: B), Ok y) :
    ∃ M, Srt lt M ∧ St lt (L ++ [e]) M ∧ Evt (fun k => slices_symMergeCmpFunc_of_Spread_1.l2 k (A ++ (L ++ e :: B)) (m : Int) (a : Int) (m : Int) ct cw cz) (A ++ (M ++ B)) := by
  have ln : (A ++ (L ++ e :: B)).length = A.length + (L.length + B.length + 1) := by simp <;> omega
  have ge : (A ++ (L ++ e :: B)).getD m 0 = e := getD_at (A := A ++ L) (C := B) (by simp) (by simp; omega)
  obtain ⟨s, b1, b2, b3, b4, H⟩ := sm_l2 hc (A ++ (L ++ e :: B)) (m := m) (lo := a) (hi := m) (by omega) (by omega) hL ok (m - a) a m (by omega) (by omega) (by omega) (by omega) (Or.inl rfl) (Or.inl rfl)
  rw [ge] at b3 b4
  obtain ⟨L1, L2, rfl, hL1⟩ := split_at L (s - a) (by omega)
  simp only [List.length_append] at hm ln
  have c1 : ∀ x ∈ L1, lt e x = false := by
    by_cases h : 0 < L1.length
    · obtain ⟨P, p, rfl⟩ := ex_last h
      simp only [List.length_append, List.length_cons, List.length_nil] at hL1
      rcases b3 with b3 | b3
      · omega
      · rw [getD_at (A := A ++ P) (x := p) (C := L2 ++ e :: B) (by simp) (by simp; omega)] at b3
        exact fun x hx => W.tl b3 (Srt.le_last W hS.left x hx)
    · have : L1 = [] := List.eq_nil_of_length_eq_zero (by omega)
      subst this
      exact fun x hx => by simp at hx
  have c2 : ∀ y ∈ L2, lt e y = true := by
    by_cases h : 0 < L2.length
    · obtain ⟨p, P, rfl⟩ := ex_first h
      simp only [List.length_cons] at hm ln
      rcases b4 with b4 | b4
      · omega
      · rw [getD_at (A := A ++ L1) (x := p) (C := P ++ e :: B) (by simp) (by simp; omega)] at b4
        exact fun y hy => W.lt_le b4 (Srt.ge_first W hS.right y hy)
    · have : L2 = [] := List.eq_nil_of_length_eq_zero (by omega)
      subst this
      exact fun x hx => by simp at hx
  refine ⟨L1 ++ e :: L2, ?_, ?_, ?_⟩
  · refine Srt.app hS.left (Srt.app (a := [e]) (Srt.one e) hS.right (fun x hx y hy => by simp at hx; subst hx; exact W.asym (c2 y hy))) (fun x hx y hy => ?_)
    rcases List.mem_cons.1 hy with rfl | hy
    · exact c1 x hx
    · exact hS.cross x hx y hy
  · have := (St.refl (lt := lt) L1).app (St.comm W (a := L2) (b := [e]) (fun x hx y hy => by simp at hy; subst hy; exact c2 x hx))
    simpa using this
  · have := H (A ++ (L1 ++ e :: (L2 ++ B))) (by
      have := sm_l3 e (A ++ L1) (i := s) (by simp; omega) L2.length L2 B m rfl (by simp; omega) (by simpa using hL)
      simpa using this)
    simpa using this
set_option maxHeartbeats 4000000 in
/-- Two sorted rows one behind the other become one, the equal ones in their order. -/
theorem sm_f (W : Weak lt) (hc : ∀ p q : Int, Ok p → Ok q → ∃ c : Int, Evt (fun k => hours_Spread_1.f p q ct cw cz) c ∧ (c < 0 ↔ lt p q = true)) : ∀ t (A L R B : List Int) (a m b : Nat), L.length + R.length ≤ t → A.length = a → m = a + L.length → b = m + R.length → 0 < L.length → 0 < R.length → Srt lt L → Srt lt R → (A ++ (L ++ (R ++ B))).length ≤ 140737488351232 → (∀ y ∈ A ++ (L ++ (R ++ B)), Ok y) →
    ∃ M, Srt lt M ∧ St lt (L ++ R) M ∧ Evt (fun k => slices_symMergeCmpFunc_of_Spread_1.f k (A ++ (L ++ (R ++ B))) (a : Int) (m : Int) (b : Int) ct cw cz) (A ++ (M ++ B)) := by
  intro t
  induction t with
  | zero => intro A L R B a m b h1 h2 h3 h4 h5; omega
  | succ t ih =>
    intro A L R B a m b h1 h2 h3 h4 h5 h6 sL sR hL ok
    have ln : (A ++ (L ++ (R ++ B))).length = A.length + (L.length + (R.length + B.length)) := by simp
    have hbn : A.length + (L.length + (R.length + B.length)) ≤ 140737488351232 := by rw [← ln]; exact hL
    by_cases ca : m - a = 1
    · obtain ⟨e, L, rfl⟩ := ex_first h5
      simp only [List.length_cons] at h3 h1
      obtain rfl : L = [] := List.eq_nil_of_length_eq_zero (by omega)
      obtain ⟨M, s1, s2, H⟩ := sm_one W hc A R B e (a := a) (m := m) (b := b) h2 (by omega) h4 sR (by simpa using hL) (fun y hy => ok y (by simpa using hy))
      refine ⟨M, s1, by simpa using s2, Evt.succ ?_⟩
      simp only [slices_symMergeCmpFunc_of_Spread_1.f]
      rw [ssub (m := m) (n := a) (by omega) (by omega)]
      exact Evt.ite_pos (by omega) (by simpa using H)
    · by_cases cb : b - m = 1
      · obtain ⟨e, R, rfl⟩ := ex_first h6
        simp only [List.length_cons] at h4 h1
        obtain rfl : R = [] := List.eq_nil_of_length_eq_zero (by omega)
        obtain ⟨M, s1, s2, H⟩ := sm_two W hc A L B e (a := a) (m := m) h2 (by omega) sL (by simpa using hL) (fun y hy => ok y (by simpa using hy))
        refine ⟨M, s1, by simpa using s2, Evt.succ ?_⟩
        simp only [slices_symMergeCmpFunc_of_Spread_1.f]
        rw [ssub (m := m) (n := a) (by omega) (by omega), ssub (m := b) (n := m) (by omega) (by omega)]
        exact Evt.ite_neg (by omega) (Evt.ite_pos (by omega) (by simpa using H))
      · -- the middle
        obtain ⟨mid, emid⟩ : ∃ mid : Nat, mid = (a + b) / 2 := ⟨_, rfl⟩
        obtain ⟨lo, hi, elh⟩ : ∃ lo hi : Nat, (m > mid ∧ lo = mid + m - b ∧ hi = mid) ∨ (¬ m > mid ∧ lo = a ∧ hi = m) := by
          by_cases c : m > mid
          · exact ⟨_, _, Or.inl ⟨c, rfl, rfl⟩⟩
          · exact ⟨_, _, Or.inr ⟨c, rfl, rfl⟩⟩
        obtain ⟨s, b1, b2, b3, b4, H⟩ := sm_l4 hc (A ++ (L ++ (R ++ B))) (a : Int) (m : Int) (b : Int) (mid : Int) ((mid + m : Nat) : Int) (p := mid + m - 1) (lo := lo) (hi := hi)
          (fun c g1 g2 => by rcases elh with ⟨_, _, _⟩ | ⟨_, _, _⟩ <;> exact ⟨by omega, by omega, by omega⟩) (by omega) hL ok (hi - lo) lo hi (by omega) (by omega) (by rcases elh with ⟨_, _, _⟩ | ⟨_, _, _⟩ <;> omega) (by omega) (by rcases elh with ⟨_, _, _⟩ | ⟨_, _, _⟩ <;> omega) (Or.inl rfl) (Or.inl rfl)
        obtain ⟨en, een⟩ : ∃ en : Nat, en = mid + m - s := ⟨_, rfl⟩
        have k1 : a ≤ s := by rcases elh with ⟨_, _, _⟩ | ⟨_, _, _⟩ <;> omega
        have k2 : s ≤ m := by rcases elh with ⟨_, _, _⟩ | ⟨_, _, _⟩ <;> omega
        have k3 : s ≤ mid := by rcases elh with ⟨_, _, _⟩ | ⟨_, _, _⟩ <;> omega
        have k4 : en ≤ b := by rcases elh with ⟨_, _, _⟩ | ⟨_, _, _⟩ <;> omega
        have k5 : s < m → s < mid → s ≠ hi := by rcases elh with ⟨_, _, _⟩ | ⟨_, _, _⟩ <;> omega
        have k6 : a < s → en < b → s ≠ lo := by rcases elh with ⟨_, _, _⟩ | ⟨_, _, _⟩ <;> omega
        obtain ⟨L1, L2, rfl, hL1⟩ := split_at L (s - a) (by omega)
        obtain ⟨R1, R2, rfl, hR1⟩ := split_at R (en - m) (by omega)
        simp only [List.length_append] at h1 h3 h4 h5 h6 hbn
        clear ln
        have x1 : ∀ x ∈ R1, ∀ y ∈ L2, lt x y = true := by
          by_cases h : 0 < R1.length ∧ 0 < L2.length
          · obtain ⟨P, p, rfl⟩ := ex_last h.1
            obtain ⟨q, Q, rfl⟩ := ex_first h.2
            simp only [List.length_append, List.length_cons, List.length_nil] at hR1 h3 h4
            rcases b4 with b4 | b4
            · exact absurd b4 (k5 (by omega) (by omega))
            · rw [getD_at (A := A ++ (L1 ++ (q :: Q ++ P))) (x := p) (C := R2 ++ B) (by simp) (by simp; omega), getD_at (A := A ++ L1) (x := q) (C := Q ++ (P ++ [p] ++ R2 ++ B)) (by simp) (by simp; omega)] at b4
              exact fun x hx y hy => W.lt_le (W.le_lt (Srt.le_last W sR.left x hx) b4) (Srt.ge_first W sL.right y hy)
          · intro x hx y hy
            exact absurd ⟨List.length_pos_of_mem hx, List.length_pos_of_mem hy⟩ h
        have x2 : ∀ x ∈ L1, ∀ y ∈ R2, lt y x = false := by
          by_cases h : 0 < L1.length ∧ 0 < R2.length
          · obtain ⟨P, p, rfl⟩ := ex_last h.1
            obtain ⟨q, Q, rfl⟩ := ex_first h.2
            simp only [List.length_append, List.length_cons, List.length_nil] at hL1 h3 h4
            rcases b3 with b3 | b3
            · exact absurd b3 (k6 (by omega) (by omega))
            · rw [getD_at (A := A ++ (P ++ [p] ++ L2 ++ R1)) (x := q) (C := Q ++ B) (by simp) (by simp; omega), getD_at (A := A ++ P) (x := p) (C := L2 ++ (R1 ++ q :: Q ++ B)) (by simp) (by simp; omega)] at b3
              exact fun x hx y hy => W.tl (W.tl (Srt.ge_first W sR.right y hy) b3) (Srt.le_last W sL.left x hx)
          · intro x hx y hy
            exact absurd ⟨List.length_pos_of_mem hx, List.length_pos_of_mem hy⟩ h
        have half : ∀ (A L R B : List Int) (a m b : Nat), L.length + R.length ≤ t → A.length = a → m = a + L.length → b = m + R.length → Srt lt L → Srt lt R → (A ++ (L ++ (R ++ B))).length ≤ 140737488351232 → (∀ y ∈ A ++ (L ++ (R ++ B)), Ok y) →
            ∃ M, Srt lt M ∧ St lt (L ++ R) M ∧ ((a < m ∧ m < b ∧ Evt (fun k => slices_symMergeCmpFunc_of_Spread_1.f k (A ++ (L ++ (R ++ B))) (a : Int) (m : Int) (b : Int) ct cw cz) (A ++ (M ++ B))) ∨ ((¬ a < m ∨ ¬ m < b) ∧ M = L ++ R)) := by
          intro A L R B a m b h1 h2 h3 h4 sL sR hlen ok'
          by_cases c : 0 < L.length ∧ 0 < R.length
          · obtain ⟨M, x, y, z⟩ := ih A L R B a m b h1 h2 h3 h4 c.1 c.2 sL sR hlen ok'
            exact ⟨M, x, y, Or.inl ⟨by omega, by omega, z⟩⟩
          · refine ⟨L ++ R, ?_, St.refl _, Or.inr ⟨by omega, rfl⟩⟩
            cases L with
            | nil => simpa using sR
            | cons p L =>
              cases R with
              | nil => simpa using sL
              | cons q R => exact absurd ⟨by simp, by simp⟩ c
        obtain ⟨M1, s1, t1, H1⟩ := half A L1 R1 ((L2 ++ R2) ++ B) a s mid (by omega) h2 (by omega) (by omega) sL.left sR.left (by simp at hL ⊢; omega) (fun y hy => ok y (by simp only [List.mem_append] at hy ⊢; grind))
        have lm1 := St.length W t1
        simp only [List.length_append] at lm1
        have q1 : L2.length + R2.length ≤ t := by clear H1 H half; omega
        have q2 : (A ++ M1).length = mid := by
          clear H1 H half
          rw [List.length_append]
          omega
        have q3 : en = mid + L2.length := by clear H1 H half; omega
        have q4 : b = en + R2.length := by clear H1 H half; omega
        have q5 : (A ++ M1 ++ (L2 ++ (R2 ++ B))).length ≤ 140737488351232 := by
          clear H1 H half
          simp only [List.length_append] at hL ⊢
          omega
        obtain ⟨M2, s2, t2, H2⟩ := half (A ++ M1) L2 R2 B mid en b q1 q2 q3 q4 sL.right sR.right q5 (fun y hy => ok y (by have := St.mem W t1 y; simp only [List.mem_append] at hy this ⊢; grind))
        have tails : ∀ T, T = A ++ (M1 ++ ((L2 ++ R2) ++ B)) → Evt (fun k => if (mid : Int) < (en : Int) then (if (en : Int) < (b : Int) then ((slices_symMergeCmpFunc_of_Spread_1.f k T (mid : Int) (en : Int) (b : Int) ct cw cz).bind fun t154 => (some t154)) else (some T)) else (some T)) (A ++ ((M1 ++ M2) ++ B)) := by
          intro T eT
          subst eT
          rcases H2 with ⟨c1, c2, H⟩ | ⟨c, rfl⟩
          · exact Evt.ite_pos (by omega) (Evt.ite_pos (by omega) (Evt.bind (a := A ++ ((M1 ++ M2) ++ B)) (by simpa using H) (Evt.pure _)))
          · refine Evt.ite (fun _ => Evt.ite (fun _ => by omega) (fun _ => Evt.of_eq (by simp))) (fun _ => Evt.of_eq (by simp))
        have j7 : Evt (fun k => slices_symMergeCmpFunc_of_Spread_1.j7 k (A ++ (L1 ++ (R1 ++ ((L2 ++ R2) ++ B)))) (a : Int) (b : Int) (mid : Int) (s : Int) (en : Int) ct cw cz) (A ++ ((M1 ++ M2) ++ B)) := by
          refine Evt.succ ?_
          simp only [slices_symMergeCmpFunc_of_Spread_1.j7]
          rcases H1 with ⟨c1, c2, H⟩ | ⟨c, rfl⟩
          · refine Evt.ite_pos (by omega) (Evt.succ ?_)
            simp only [slices_symMergeCmpFunc_of_Spread_1.j8]
            exact Evt.ite_pos (by simp; omega) (Evt.bind H (tails _ rfl))
          · refine Evt.ite (fun h => Evt.succ ?_) (fun h => Evt.succ ?_)
            · simp only [slices_symMergeCmpFunc_of_Spread_1.j8]
              exact Evt.ite_neg (by simp; omega) (tails _ (by simp))
            · simp only [slices_symMergeCmpFunc_of_Spread_1.j8]
              first
                | exact Evt.ite_neg (by simp) (tails _ (by simp))
                | exact tails _ (by simp)
        have top : Evt (fun k => if (s : Int) < (m : Int) then slices_symMergeCmpFunc_of_Spread_1.j6 k (A ++ (L1 ++ L2 ++ (R1 ++ R2 ++ B))) (a : Int) (m : Int) (b : Int) (mid : Int) (s : Int) (en : Int) (decide ((m : Int) < (en : Int))) ct cw cz else slices_symMergeCmpFunc_of_Spread_1.j6 k (A ++ (L1 ++ L2 ++ (R1 ++ R2 ++ B))) (a : Int) (m : Int) (b : Int) (mid : Int) (s : Int) (en : Int) false ct cw cz) (A ++ ((M1 ++ M2) ++ B)) := by
          by_cases c : s < m ∧ m < en
          · refine Evt.ite_pos (by omega) (Evt.succ ?_)
            simp only [slices_symMergeCmpFunc_of_Spread_1.j6]
            have := rot (ct := ct) (cw := cw) (cz := cz) (A ++ L1) L2 R1 (R2 ++ B) (a := s) (m := m) (b := en) (by simp; omega) (by omega) (by omega) (by omega) (by omega) (by simpa using hL)
            exact Evt.ite_pos (by simp; omega) (Evt.bind (a := A ++ (L1 ++ (R1 ++ ((L2 ++ R2) ++ B)))) (by simpa using this) j7)
          · have e : A ++ (L1 ++ L2 ++ (R1 ++ R2 ++ B)) = A ++ (L1 ++ (R1 ++ ((L2 ++ R2) ++ B))) := by
              by_cases d : s < m
              · obtain rfl : R1 = [] := List.eq_nil_of_length_eq_zero (by omega)
                simp
              · obtain rfl : L2 = [] := List.eq_nil_of_length_eq_zero (by omega)
                simp
            rw [e]
            refine Evt.ite (fun h => Evt.succ ?_) (fun h => Evt.succ ?_)
            · simp only [slices_symMergeCmpFunc_of_Spread_1.j6]
              exact Evt.ite_neg (by simp; omega) j7
            · simp only [slices_symMergeCmpFunc_of_Spread_1.j6]
              first
                | exact Evt.ite_neg (by simp) j7
                | exact j7
        refine ⟨M1 ++ M2, ?_, ?_, ?_⟩
        · refine Srt.app s1 s2 (fun x hx y hy => ?_)
          have hx := (St.mem W t1 x).1 hx
          have hy := (St.mem W t2 y).1 hy
          rcases List.mem_append.1 hx with hx | hx <;> rcases List.mem_append.1 hy with hy | hy
          · exact sL.cross x hx y hy
          · exact x2 x hx y hy
          · exact W.asym (x1 x hx y hy)
          · exact sR.cross x hx y hy
        · have c1 := (St.comm W (a := L2) (b := R1) (fun x hx y hy => x1 y hy x hx)).mid L1 R2
          have c2 : St lt (L1 ++ L2 ++ (R1 ++ R2)) (L1 ++ R1 ++ (L2 ++ R2)) := by simpa using c1
          exact c2.trans (t1.app t2)
        · have e1 : wrap64 (((mid + m : Nat) : Int) - (s : Int)) = (en : Int) := by
            rw [een]
            exact ssub (by omega) (by omega)
          rw [e1] at H
          have H := H _ top
          refine Evt.succ ?_
          simp only [slices_symMergeCmpFunc_of_Spread_1.f]
          rw [ssub (m := m) (n := a) (by omega) (by omega), ssub (m := b) (n := m) (by omega) (by omega), shalf (i := a) (j := b) (by omega), ← emid, sadd (m := mid) (n := m) (by omega)]
          refine Evt.ite_neg (by omega) (Evt.ite_neg (by omega) ?_)
          rcases elh with ⟨g1, g2, g3⟩ | ⟨g1, g2, g3⟩
          · rw [ssub (m := mid + m) (n := b) (by omega) (by omega), ← g2]
            rw [g3] at H
            refine Evt.ite_pos (by omega) (Evt.succ ?_)
            simp only [slices_symMergeCmpFunc_of_Spread_1.j4]
            rw [ssub1 (m := mid + m) (by omega) (by omega)]
            exact H
          · rw [g2, g3] at H
            refine Evt.ite_neg (by omega) (Evt.succ ?_)
            simp only [slices_symMergeCmpFunc_of_Spread_1.j4]
            rw [ssub1 (m := mid + m) (by omega) (by omega)]
            exact H
end
end Go.Proofs.Ytekpnmeikibioaa.ZHoursSpreads
