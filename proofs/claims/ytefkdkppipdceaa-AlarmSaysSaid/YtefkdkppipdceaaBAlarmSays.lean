import Derived.Test.YtefkdkppipdceaaEvs
import Derived.Test.YtefkdkppipdceaaHAlarmSaysy2
import Derived.Test.YtefkdkppipdceaaHAlarmSaysy3
import Derived.Test.YtefkdkppipdceaaHAlarmSaysy8
import Derived.Test.YtefkdkppipdceaaHAlarmSaysy9
namespace Go.Proofs.Ytefkdkppipdceaa.BAlarmSays
open Go.RowKit Go.Proofs.YtefkdkppipdceaaW.PrintWords Go.Proofs.YtefkdkppipdceaaW.PrintMore Go.Proofs.Ytefkdkppipdceaa.Evs Go.Proofs.Ytefkdkppipdceaa.PAlarmSays
set_option linter.unusedVariables false
set_option linter.unusedSectionVars false
set_option linter.unusedSimpArgs false
def okAt (s : ByteArray) (i : Nat) : Prop := (65 ≤ bt s i ∧ bt s i ≤ 90) ∨ (0 < i ∧ 48 ≤ bt s i ∧ bt s i ≤ 57)
instance (s : ByteArray) (i : Nat) : Decidable (okAt s i) := by unfold okAt; exact inferInstance
def isName (s : ByteArray) : Prop := 1 ≤ s.size ∧ s.size ≤ 8 ∧ ∀ i, i < s.size → okAt s i
instance (s : ByteArray) : Decidable (isName s) := by unfold isName; exact inferInstance
theorem namedb_t (s : ByteArray) (hs : s.size ≤ 9223372036854775806) : ∀ n, n ≤ s.size → (∀ i, n ≤ i → i < s.size → okAt s i) → Evt (fun k => alarm_named.l0 k s (bytesOf s) ((bytesOf s).length : Int) (n : Int)) (decide (1 ≤ s.size ∧ s.size ≤ 8)) := by
  refine down (P:=fun n => (∀ i, n ≤ i → i < s.size → okAt s i) → Evt (fun k => alarm_named.l0 k s (bytesOf s) ((bytesOf s).length : Int) (n : Int)) (decide (1 ≤ s.size ∧ s.size ≤ 8))) ?_ ?_
  · intro _
    refine Evt.succ ?_
    simp only [alarm_named.l0, bytesOf_length]
    refine Evt.ite_neg (by omega) (Evt.ite (fun h => Evt.of_eq ?_) (fun h => Evt.of_eq ?_))
    · have:=(toList_nil s).1 h
      exact (decide_eq_false (by omega)).symm
    · have : s.size ≠ 0:=fun e => h ((toList_nil s).2 e)
      exact decide_eq_decide.2 (by omega)
  · intro n hn ih h
    have ok:=h n (Nat.le_refl _) hn
    have ih:=ih (fun i a b => h i (by omega) b)
    refine Evt.succ ?_
    simp only [alarm_named.l0, rd_bytesOf, bytesOf_length] at ih ⊢
    refine Evt.ite_pos (by omega) (Evt.ite_pos (by omega) (Evt.ite_pos (by omega) ?_))
    rw [wrap64_nat (by omega)]
    unfold okAt at ok
    refine Evt.ite (fun h1 => Evt.ite (fun h2 => ih) (fun h2 => Evt.ite_pos (by omega) (Evt.ite_pos (by omega) (Evt.ite_pos (by omega) ih)))) (fun h1 => Evt.ite_pos (by omega) (Evt.ite_pos (by omega) (Evt.ite_pos (by omega) ih)))
theorem namedb_f (s : ByteArray) (hs : s.size ≤ 9223372036854775806) : ∀ n, n ≤ s.size → (∃ i, n ≤ i ∧ i < s.size ∧ ¬ okAt s i) → Evt (fun k => alarm_named.l0 k s (bytesOf s) ((bytesOf s).length : Int) (n : Int)) false := by
  refine down (P:=fun n => (∃ i, n ≤ i ∧ i < s.size ∧ ¬ okAt s i) → Evt (fun k => alarm_named.l0 k s (bytesOf s) ((bytesOf s).length : Int) (n : Int)) false) ?_ ?_
  · rintro ⟨i, a, b, _⟩
    omega
  · intro n hn ih h
    refine Evt.succ ?_
    simp only [alarm_named.l0, rd_bytesOf, bytesOf_length] at ih ⊢
    refine Evt.ite_pos (by omega) (Evt.ite_pos (by omega) (Evt.ite_pos (by omega) ?_))
    rw [wrap64_nat (by omega)]
    by_cases ok : okAt s n
    · have ih:=ih (by obtain ⟨i, a, b, c⟩:=h; exact ⟨i, by rcases Nat.lt_or_eq_of_le a with a|a; exact a; subst a; exact absurd ok c, b, c⟩)
      unfold okAt at ok
      refine Evt.ite (fun h1 => Evt.ite (fun h2 => ih) (fun h2 => Evt.ite_pos (by omega) (Evt.ite_pos (by omega) (Evt.ite_pos (by omega) ih)))) (fun h1 => Evt.ite_pos (by omega) (Evt.ite_pos (by omega) (Evt.ite_pos (by omega) ih)))
    · unfold okAt at ok
      have last : ¬ ((65 ≤ bt s n ∧ bt s n ≤ 90)) → Evt (fun k => if (n : Int) > 0 then (if bt s n ≥ 48 then (if bt s n ≤ 57 then alarm_named.l0 k s (bytesOf s) (s.size : Int) ((n + 1 : Nat) : Int) else some false) else some false) else some false) false:=fun _ =>
        Evt.ite (fun h3 => Evt.ite (fun h4 => Evt.ite (fun h5 => absurd (by omega) ok) (fun _ => Evt.pure _)) (fun _ => Evt.pure _)) (fun _ => Evt.pure _)
      refine Evt.ite (fun h1 => Evt.ite (fun h2 => absurd (by omega) ok) (fun h2 => last (by omega))) (fun h1 => last (by omega))
theorem named_ev (s : ByteArray) (hs : s.size ≤ 9223372036854775806) : Evt (fun k => alarm_named.f k s) (decide (isName s)) := by
  simp only [alarm_named.f]
  refine Evt.ite_pos (by omega) ?_
  by_cases h : ∀ i, i < s.size → okAt s i
  · refine Evt.cast (namedb_t s hs 0 (by omega) (fun i _ b => h i b)) ?_
    unfold isName
    exact decide_eq_decide.2 ⟨fun a => ⟨a.1, a.2, h⟩, fun a => ⟨a.1, a.2.1⟩⟩
  · refine Evt.cast (namedb_f s hs 0 (by omega) ?_) ?_
    · refine Classical.byContradiction fun c => h fun i hi => Classical.byContradiction fun d => c ⟨i, by omega, hi, d⟩
    · exact (decide_eq_false (fun a => h a.2.2)).symm
theorem refn_l0 (s : ByteArray) (hs : s.size ≤ 8) (h0 : 1 ≤ s.size) (hf : ¬ (48 ≤ bt s 0 ∧ bt s 0 ≤ 57)) : ∀ n, n ≤ s.size → Evt (fun k => gridhallref4_Named.l0 k s (s.size : Int) (n : Int)) (decide (∀ i, i < s.size → n ≤ i → okAt s i)) := by
  refine down (P:=fun n => Evt (fun k => gridhallref4_Named.l0 k s (s.size : Int) (n : Int)) (decide (∀ i, i < s.size → n ≤ i → okAt s i))) ?_ ?_
  · refine Evt.succ ?_
    simp only [gridhallref4_Named.l0]
    exact Evt.ite_neg (by omega) (Evt.of_eq (decide_eq_true (fun i a b => by omega)).symm)
  · intro n hn ih
    refine Evt.succ ?_
    simp only [gridhallref4_Named.l0]
    refine Evt.ite_pos (by omega) (Evt.ite_pos (by omega) (Evt.ite_pos (by omega) ?_))
    rw [wrap64_nat (by omega)]
    have fine : okAt s n → decide (∀ i, i < s.size → n + 1 ≤ i → okAt s i) = decide (∀ i, i < s.size → n ≤ i → okAt s i):=fun ok => decide_eq_decide.2 ⟨fun a i b c => by
      rcases Nat.lt_or_eq_of_le c with c|c
      · exact a i b c
      · subst c; exact ok, fun a i b c => a i b (by omega)⟩
    have bad : ¬ okAt s n → false = decide (∀ i, i < s.size → n ≤ i → okAt s i):=fun ok => (decide_eq_false (fun a => ok (a n hn (Nat.le_refl _)))).symm
    have zero : n = 0 → bt s n = bt s 0:=fun e => by subst e; rfl
    have last : ¬ ((65 ≤ bt s n ∧ bt s n ≤ 90)) → Evt (fun k => if bt s n ≥ 48 then (if bt s n ≤ 57 then gridhallref4_Named.l0 k s (s.size : Int) ((n + 1 : Nat) : Int) else some false) else some false) (decide (∀ i, i < s.size → n ≤ i → okAt s i)):=fun ne =>
      Evt.ite (fun h4 => Evt.ite (fun h5 => Evt.cast ih (fine (Or.inr ⟨by rcases Nat.eq_zero_or_pos n with e|e; have:=zero e; omega; exact e, by omega, by omega⟩))) (fun h5 => Evt.of_eq (bad (by unfold okAt; omega)))) (fun h4 => Evt.of_eq (bad (by unfold okAt; omega)))
    refine Evt.ite (fun h1 => Evt.ite (fun h2 => Evt.cast ih (fine (Or.inl ⟨by omega, h2⟩))) (fun h2 => last (by omega))) (fun h1 => last (by omega))
theorem refn_ev (s : ByteArray) : Evt (fun k => gridhallref4_Named.f k s) (decide (isName s)) := by
  have j0t : ¬ isName s → Evt (fun k => gridhallref4_Named.j0 k s true) (decide (isName s)):=by
    intro h
    refine Evt.succ ?_
    simp only [gridhallref4_Named.j0]
    exact Evt.ite_pos (by simp) (Evt.of_eq (decide_eq_false h).symm)
  simp only [gridhallref4_Named.f]
  by_cases h0 : s.size = 0
  · exact Evt.ite_pos (by omega) (j0t (fun h => by have:=h.1; omega))
  by_cases h8 : s.size ≤ 8
  · refine Evt.ite_neg (by omega) (Evt.ite_neg (by omega) (Evt.ite_pos (by omega) ?_))
    have no : ¬ (65 ≤ bt s 0 ∧ bt s 0 ≤ 90) → ¬ isName s:=fun a h => by
      have:=h.2.2 0 (by omega)
      unfold okAt at this
      simp at this
      exact a this
    refine Evt.ite (fun h1 => ?_) (fun h1 => ?_)
    · by_cases h2 : bt s 0 ≤ 90
      · rw [decide_eq_true h2]
        refine Evt.succ ?_
        simp only [gridhallref4_Named.j0]
        refine Evt.ite_neg (by simp) (Evt.cast (refn_l0 s h8 (by omega) (by omega) 0 (by omega)) ?_)
        unfold isName
        exact decide_eq_decide.2 ⟨fun a => ⟨by omega, h8, fun i b => a i b (by omega)⟩, fun a i b _ => a.2.2 i b⟩
      · rw [decide_eq_false h2]
        exact j0t (no (by omega))
    · exact j0t (no (by omega))
  · exact Evt.ite_neg (by omega) (Evt.ite_pos (by omega) (j0t (fun h => h8 h.2.1)))
section
variable {E : Type}
theorem getD_mid (A : List E) (x : E) (C : List E) (z : E) : (A ++ x :: C).getD A.length z = x := by simp [List.getD_eq_getElem?_getD]
theorem getD_at {l A C : List E} {x : E} {z : E} {n : Nat} (h : l = A ++ x :: C) (hn : n = A.length) : l.getD n z = x := by
  subst h
  subst hn
  exact getD_mid A x C z
theorem set_mid (A : List E) (x y : E) (C : List E) : (A ++ x :: C).set A.length y = A ++ y :: C := by simp
theorem set_two' (A : List E) (x y : E) (C : List E) (B : List E) {i j : Nat} (hi : i = A.length) (hj : j = A.length + 1 + C.length) : ((A ++ x :: (C ++ y :: B)).set j x).set i y = A ++ y :: (C ++ x :: B) := by
  subst hi
  subst hj
  have e : A ++ x :: (C ++ y :: B) = (A ++ x :: C) ++ y :: B:=by simp
  rw [e, show A.length + 1 + C.length = (A ++ x :: C).length by simp; omega, set_mid]
  have e2 : (A ++ x :: C) ++ x :: B = A ++ x :: (C ++ x :: B):=by simp
  rw [e2, set_mid]
structure Weak (lt : E → E → Bool) : Prop where
  irr : ∀ x, lt x x = false
  tr : ∀ {x y z}, lt x y = true → lt y z = true → lt x z = true
  tl : ∀ {x y z}, lt x y = false → lt y z = false → lt x z = false
variable {lt : E → E → Bool}
theorem Weak.asym (W : Weak lt) {x y : E} (h : lt x y = true) : lt y x = false := by
  cases h2 : lt y x with
 |false => rfl
 |true => have:=W.tr h h2; rw [W.irr] at this; cases this
def eqv (lt : E → E → Bool) (x y : E) : Bool := !lt x y && !lt y x
def Srt (lt : E → E → Bool) (l : List E) : Prop := l.Pairwise (fun x y => lt y x = false)
def St (lt : E → E → Bool) (l r : List E) : Prop := ∀ x, r.filter (eqv lt x) = l.filter (eqv lt x)
theorem St.refl (l : List E) : St lt l l := fun _ => rfl
theorem St.trans {a b c : List E} (h1 : St lt a b) (h2 : St lt b c) : St lt a c := fun x => (h2 x).trans (h1 x)
theorem St.symm {a b : List E} (h : St lt a b) : St lt b a := fun x => (h x).symm
theorem St.app {a b c d : List E} (h1 : St lt a b) (h2 : St lt c d) : St lt (a ++ c) (b ++ d) := fun x => by rw [List.filter_append, List.filter_append, h1 x, h2 x]
theorem St.mid (A B : List E) {c d : List E} (h : St lt c d) : St lt (A ++ c ++ B) (A ++ d ++ B) := ((St.refl A).app h).app (St.refl B)
theorem St.comm (W : Weak lt) {a b : List E} (h : ∀ x ∈ a, ∀ y ∈ b, lt y x = true) : St lt (a ++ b) (b ++ a) := by
  intro x
  rw [List.filter_append, List.filter_append]
  by_cases ha : a.filter (eqv lt x) = []
  · rw [ha, List.nil_append, List.append_nil]
  by_cases hb : b.filter (eqv lt x) = []
  · rw [hb, List.nil_append, List.append_nil]
  exfalso
  obtain ⟨p, hp⟩:=List.exists_mem_of_ne_nil _ ha
  obtain ⟨q, hq⟩:=List.exists_mem_of_ne_nil _ hb
  rw [List.mem_filter] at hp hq
  simp only [eqv, Bool.and_eq_true, Bool.not_eq_true'] at hp hq
  have h1:=h p hp.1 q hq.1
  have h2:=W.tl hq.2.2 hp.2.1
  rw [h1] at h2
  cases h2
theorem St.mem (W : Weak lt) {a b : List E} (h : St lt a b) (x : E) : x ∈ b ↔ x ∈ a := by
  have e : ∀ l : List E, x ∈ l ↔ x ∈ l.filter (eqv lt x):=fun l => by
    rw [List.mem_filter]
    simp [eqv, W.irr]
  rw [e b, e a, h x]
theorem St.length (W : Weak lt) : ∀ {a b : List E}, St lt a b → b.length = a.length := by
  intro a
  induction h : a.length using Nat.strongRecOn generalizing a with
 |_ n ih =>
    intro b hab
    cases a with
   |nil =>
      cases b with
     |nil => exact h
     |cons y b => exact absurd ((St.mem W hab y).1 (by simp)) (by simp)
   |cons x a =>
      have cls : ∀ l : List E, l.length = (l.filter (eqv lt x)).length + (l.filter (fun y => !eqv lt x y)).length:=fun l => by
        induction l with
       |nil => rfl
       |cons y l ih => cases hy : eqv lt x y <;> simp [List.filter_cons, hy] <;> omega
      have tr : ∀ {p q r : E}, eqv lt p q = true → eqv lt q r = eqv lt p r:=fun {p q r} h => by
        simp only [eqv, Bool.and_eq_true, Bool.not_eq_true'] at h
        cases hr : eqv lt p r with
       |true =>
          simp only [eqv, Bool.and_eq_true, Bool.not_eq_true'] at hr ⊢
          exact ⟨W.tl h.2 hr.1, W.tl hr.2 h.1⟩
       |false =>
          cases hq : eqv lt q r with
         |false => rfl
         |true =>
            simp only [eqv, Bool.and_eq_true, Bool.not_eq_true'] at hq
            have : eqv lt p r = true:=by
              simp only [eqv, Bool.and_eq_true, Bool.not_eq_true']
              exact ⟨W.tl h.1 hq.1, W.tl hq.2 h.2⟩
            rw [this] at hr
            cases hr
      have rest : St lt ((x :: a).filter (fun y => !eqv lt x y)) (b.filter (fun y => !eqv lt x y)):=by
        intro z
        rw [List.filter_filter, List.filter_filter]
        cases hz : eqv lt x z with
       |true =>
          have e : ∀ l : List E, l.filter (fun y => eqv lt z y && !eqv lt x y) = []:=fun l => by
            rw [List.filter_eq_nil_iff]
            intro y _
            rw [tr hz]
            simp
          rw [e, e]
       |false =>
          have e : ∀ l : List E, l.filter (fun y => eqv lt z y && !eqv lt x y) = l.filter (eqv lt z):=fun l => by
            congr 1
            funext y
            cases hy : eqv lt z y with
           |false => rfl
           |true =>
              have : eqv lt x y = false:=by
                cases hxy : eqv lt x y with
               |false => rfl
               |true =>
                  have sy : eqv lt y x = true:=by simp only [eqv, Bool.and_eq_true, Bool.not_eq_true'] at hxy ⊢; exact ⟨hxy.2, hxy.1⟩
                  have sz : eqv lt y z = true:=by simp only [eqv, Bool.and_eq_true, Bool.not_eq_true'] at hy ⊢; exact ⟨hy.2, hy.1⟩
                  have:=tr hxy (r:=z)
                  rw [sz] at this
                  rw [← this] at hz
                  cases hz
              rw [this]
              rfl
          rw [e, e]
          exact hab z
      have small : ((x :: a).filter (fun y => !eqv lt x y)).length < n:=by
        have:=cls (x :: a)
        have h1 : 0 < ((x :: a).filter (eqv lt x)).length:=List.length_pos_of_mem (a:=x) (List.mem_filter.2 ⟨by simp, by simp [eqv, W.irr]⟩)
        omega
      have:=ih _ small rfl rest
      rw [cls b, hab x, this, ← h]
      exact (cls (x :: a)).symm
theorem Srt.app {a b : List E} (h1 : Srt lt a) (h2 : Srt lt b) (h : ∀ x ∈ a, ∀ y ∈ b, lt y x = false) : Srt lt (a ++ b) := List.pairwise_append.2 ⟨h1, h2, h⟩
theorem Srt.left {a b : List E} (h : Srt lt (a ++ b)) : Srt lt a := (List.pairwise_append.1 h).1
theorem Srt.right {a b : List E} (h : Srt lt (a ++ b)) : Srt lt b := (List.pairwise_append.1 h).2.1
theorem Srt.cross {a b : List E} (h : Srt lt (a ++ b)) : ∀ x ∈ a, ∀ y ∈ b, lt y x = false := (List.pairwise_append.1 h).2.2
theorem Srt.nil : Srt lt [] := List.Pairwise.nil
theorem Srt.one (x : E) : Srt lt [x] := List.pairwise_singleton _ _
theorem Srt.le_last (W : Weak lt) {a : List E} {p : E} (h : Srt lt (a ++ [p])) : ∀ x ∈ a ++ [p], lt p x = false := by
  intro x hx
  rcases List.mem_append.1 hx with hx|hx
  · exact h.cross x hx p (by simp)
  · simp at hx
    subst hx
    exact W.irr x
end
section
variable {E : Type} {lt : E → E → Bool}
theorem St.tail {x : E} {a b : List E} (h : St lt (x :: a) (x :: b)) : St lt a b := by
  intro z
  have:=h z
  rw [List.filter_cons, List.filter_cons] at this
  split at this
  · exact List.cons.inj this |>.2
  · exact this
theorem Srt.uniq (W : Weak lt) : ∀ (s r : List E), s.Pairwise (fun x y => lt x y = true) → Srt lt r → St lt s r → r = s := by
  intro s
  induction s with
 |nil =>
    intro r _ _ h
    have:=St.length W h
    exact List.eq_nil_of_length_eq_zero this
 |cons x s ih =>
    intro r hs hr h
    obtain ⟨hx, hs'⟩:=List.pairwise_cons.1 hs
    cases r with
   |nil =>
      have:=St.length W h
      simp at this
   |cons y r =>
      obtain ⟨hy, hr'⟩:=List.pairwise_cons.1 hr
      have e : y = x:=by
        have m1 : y ∈ x :: s:=(St.mem W h y).1 (by simp)
        have m2 : x ∈ y :: r:=(St.mem W h x).2 (by simp)
        rcases List.mem_cons.1 m1 with e|m1
        · exact e
        · rcases List.mem_cons.1 m2 with e|m2
          · exact e.symm
          · have h1:=hx y m1
            have h2:=hy x m2
            rw [h1] at h2
            cases h2
      subst e
      rw [ih r hs' hr' (St.tail h)]
end
section
variable {V : Type} [DecidableEq V]
theorem nodup_len : ∀ (xs ys : List V), xs.Nodup → (∀ x ∈ xs, x ∈ ys) → xs.length ≤ ys.length := by
  intro xs
  induction xs with
 |nil => intro ys _ _; simp
 |cons x xs ih =>
    intro ys hn hs
    obtain ⟨h1, h2⟩:=List.nodup_cons.1 hn
    have hx : x ∈ ys:=hs x (by simp)
    have h3:=ih (ys.erase x) h2 (fun z hz => (List.mem_erase_of_ne (by intro e; subst e; exact h1 hz)).2 (hs z (by simp [hz])))
    rw [List.length_erase_of_mem hx] at h3
    have : 0 < ys.length:=List.length_pos_of_mem hx
    simp only [List.length_cons]
    omega
def Wk (E : V → V → Prop) : V → List V → Prop
 |_, [] => True
 |a, v :: vs => E a v ∧ Wk E v vs
def endp : V → List V → V
 |a, [] => a
 |_, v :: vs => endp v vs
def Path (E : V → V → Prop) : Nat → V → V → Prop
 |0, a, b => a = b
 |j + 1, a, b => ∃ c, E a c ∧ Path E j c b
theorem path_wk {E : V → V → Prop} : ∀ j a b, Path E j a b ↔ ∃ vs : List V, vs.length = j ∧ Wk E a vs ∧ endp a vs = b := by
  intro j
  induction j with
 |zero =>
    intro a b
    constructor
    · intro h; exact ⟨[], rfl, trivial, h⟩
    · rintro ⟨vs, h, _, e⟩
      obtain rfl:=List.eq_nil_of_length_eq_zero h
      exact e
 |succ j ih =>
    intro a b
    constructor
    · rintro ⟨c, h1, h2⟩
      obtain ⟨vs, l, w, e⟩:=(ih c b).1 h2
      exact ⟨c :: vs, by simp [l], ⟨h1, w⟩, e⟩
    · rintro ⟨vs, l, w, e⟩
      obtain ⟨v, vs, rfl⟩:=List.exists_cons_of_length_eq_add_one l
      exact ⟨v, w.1, (ih v b).2 ⟨vs, by simpa using l, w.2, e⟩⟩
theorem wk_cut {E : V → V → Prop} : ∀ (p : List V) (a v : V) (q : List V), Wk E a (p ++ v :: q) → Wk E v q := by
  intro p
  induction p with
 |nil => intro a v q h; exact h.2
 |cons x p ih => intro a v q h; exact ih x v q h.2
theorem endp_cut : ∀ (p : List V) (a v : V) (q : List V), endp a (p ++ v :: q) = endp v q := by
  intro p
  induction p with
 |nil => intro a v q; rfl
 |cons x p ih => intro a v q; exact ih x v q
theorem wk_short {E : V → V → Prop} : ∀ n (vs : List V) (a : V), vs.length ≤ n → Wk E a vs → ∃ us : List V, us.Nodup ∧ (∀ x ∈ us, x ∈ vs) ∧ Wk E a us ∧ endp a us = endp a vs := by
  intro n
  induction n with
 |zero =>
    intro vs a h _
    obtain rfl:=List.eq_nil_of_length_eq_zero (Nat.le_zero.1 h)
    exact ⟨[], List.nodup_nil, fun x hx => (by cases hx), trivial, rfl⟩
 |succ n ih =>
    intro vs a h w
    cases vs with
   |nil => exact ⟨[], List.nodup_nil, fun x hx => (by cases hx), trivial, rfl⟩
   |cons v rest =>
      simp only [List.length_cons] at h
      by_cases m : v ∈ rest
      · obtain ⟨p, q, rfl⟩:=List.append_of_mem m
        simp only [List.length_append, List.length_cons] at h
        obtain ⟨us, u1, u2, u3, u4⟩:=ih (v :: q) a (by simp; omega) ⟨w.1, wk_cut p v v q w.2⟩
        refine ⟨us, u1, fun x hx => by have:=u2 x hx; simp at this ⊢; rcases this with e|e <;> simp [e], u3, ?_⟩
        rw [u4]
        show endp v q = endp v (p ++ v :: q)
        rw [endp_cut]
      · obtain ⟨us, u1, u2, u3, u4⟩:=ih rest v (by omega) w.2
        exact ⟨v :: us, List.nodup_cons.2 ⟨fun g => m (u2 v g), u1⟩, fun x hx => by rcases List.mem_cons.1 hx with e|e; simp [e]; exact List.mem_cons_of_mem v (u2 x e), ⟨w.1, u3⟩, u4⟩
theorem wk_mem {E : V → V → Prop} {ls : List V} (he : ∀ a c, E a c → c ∈ ls) : ∀ (vs : List V) (a : V), Wk E a vs → ∀ x ∈ vs, x ∈ ls := by
  intro vs
  induction vs with
 |nil => intro a _ x hx; cases hx
 |cons v vs ih =>
    intro a w x hx
    rcases List.mem_cons.1 hx with rfl|hx
    · exact he a x w.1
    · exact ih v w.2 x hx
theorem path_bound {E : V → V → Prop} {ls : List V} (he : ∀ a c, E a c → c ∈ ls) {a b : V} {j : Nat} (h : Path E j a b) : ∃ i, i ≤ ls.length ∧ Path E i a b := by
  obtain ⟨vs, l, w, e⟩:=(path_wk j a b).1 h
  obtain ⟨us, u1, u2, u3, u4⟩:=wk_short vs.length vs a (Nat.le_refl _) w
  exact ⟨us.length, nodup_len us ls u1 (fun x hx => wk_mem he vs a w x (u2 x hx)),(path_wk _ a b).2 ⟨us, rfl, u3, u4.trans e⟩⟩
theorem path_add {E : V → V → Prop} : ∀ i j a b c, Path E i a b → Path E j b c → Path E (i + j) a c := by
  intro i
  induction i with
 |zero => intro j a b c h1 h2; rw [show a = b from h1, Nat.zero_add]; exact h2
 |succ i ih =>
    rintro j a b c ⟨d, h1, h2⟩ h3
    rw [show i + 1 + j = (i + j) + 1 by omega]
    exact ⟨d, h1, ih j d b c h2 h3⟩
end
def PI (r : Nat → Nat → Prop) : Nat → Nat → Nat → Prop
 |0, i, k => r i k
 |m + 1, i, k => PI r m i k ∨ (PI r m i m ∧ PI r m m k)
theorem PI_trans {r : Nat → Nat → Prop} : ∀ m i j k, j < m → PI r m i j → PI r m j k → PI r m i k := by
  intro m
  induction m with
 |zero => intro i j k h; omega
 |succ m ih =>
    intro i j k hj h1 h2
    by_cases e : j = m
    · subst e
      have a : PI r j i j:=by rcases h1 with h|h; exact h; exact h.1
      have b : PI r j j k:=by rcases h2 with h|h; exact h; exact h.2
      exact Or.inr ⟨a, b⟩
    · have hj' : j < m:=by omega
      rcases h1 with h1|⟨h1, h1'⟩ <;> rcases h2 with h2|⟨h2, h2'⟩
      · exact Or.inl (ih i j k hj' h1 h2)
      · exact Or.inr ⟨ih i j m hj' h1 h2, h2'⟩
      · exact Or.inr ⟨h1, ih m j k hj' h1' h2⟩
      · exact Or.inr ⟨h1, h2'⟩
theorem bl_irr : ∀ x : List UInt8, Op.bytesLess x x = false := by
  intro x
  induction x with
 |nil => rfl
 |cons a x ih => simp [Op.bytesLess, ih]
theorem bl_tri : ∀ x y : List UInt8, Op.bytesLess x y = true ∨ x = y ∨ Op.bytesLess y x = true := by
  intro x
  induction x with
 |nil =>
    intro y
    cases y with
   |nil => exact Or.inr (Or.inl rfl)
   |cons b y => exact Or.inl rfl
 |cons a x ih =>
    intro y
    cases y with
   |nil => exact Or.inr (Or.inr rfl)
   |cons b y =>
      simp only [Op.bytesLess, Bool.or_eq_true, Bool.and_eq_true, decide_eq_true_eq, beq_iff_eq, List.cons.injEq, UInt8.lt_iff_toNat_lt, ← UInt8.toNat_inj]
      rcases Nat.lt_trichotomy a.toNat b.toNat with h|h|h
      · exact Or.inl (Or.inl h)
      · rcases ih y with g|g|g
        · exact Or.inl (Or.inr ⟨h, g⟩)
        · exact Or.inr (Or.inl ⟨h, g⟩)
        · exact Or.inr (Or.inr (Or.inr ⟨h.symm, g⟩))
      · exact Or.inr (Or.inr (Or.inl h))
theorem bl_tr : ∀ x y z : List UInt8, Op.bytesLess x y = true → Op.bytesLess y z = true → Op.bytesLess x z = true := by
  intro x
  induction x with
 |nil =>
    intro y z h1 h2
    cases z with
   |nil => cases y <;> simp [Op.bytesLess] at h2
   |cons c z => rfl
 |cons a x ih =>
    intro y z h1 h2
    cases y with
   |nil => simp [Op.bytesLess] at h1
   |cons b y =>
      cases z with
     |nil => simp [Op.bytesLess] at h2
     |cons c z =>
        simp only [Op.bytesLess, Bool.or_eq_true, Bool.and_eq_true, decide_eq_true_eq, beq_iff_eq, UInt8.lt_iff_toNat_lt, ← UInt8.toNat_inj] at h1 h2 ⊢
        rcases h1 with h1|⟨h1, g1⟩ <;> rcases h2 with h2|⟨h2, g2⟩
        · exact Or.inl (by omega)
        · exact Or.inl (by omega)
        · exact Or.inl (by omega)
        · exact Or.inr ⟨by omega, ih y z g1 g2⟩
def tl (a b : ByteArray) : Bool := Op.bytesLess a.toList b.toList
theorem tl_weak : Weak tl := by
  refine ⟨fun x => bl_irr _, fun {x y z} h1 h2 => bl_tr _ _ _ h1 h2, fun {x y z} h1 h2 => ?_⟩
  unfold tl at *
  by_cases h : Op.bytesLess x.toList z.toList = true
  · rcases bl_tri x.toList y.toList with g|g|g
    · rw [h1] at g; cases g
    · rw [g, h2] at h; cases h
    · rw [bl_tr _ _ _ g h] at h2; cases h2
  · simpa using h
def nm (l : List ByteArray) (n : Nat) : ByteArray := l.getD n ByteArray.empty
theorem rnm (l : List ByteArray) (n : Nat) : rdOf ByteArray.empty l (n : Int) = nm l n := Eq.trans rfl rfl
abbrev Ca := S81
def ca (c : List Ca) (n : Nat) : Ca := c.getD n z81
theorem rca (c : List Ca) (n : Nat) : rd_T81 c (n : Int) = ca c n := Eq.trans rfl rfl
theorem nm_take (l : List ByteArray) {m n : Nat} (h : m < n) : nm (l.take n) m = nm l m := by
  unfold nm
  rw [List.getD_eq_getElem?_getD, List.getD_eq_getElem?_getD, List.getElem?_take, if_pos h]
theorem ca_take (l : List Ca) {m n : Nat} (h : m < n) : ca (l.take n) m = ca l m := by
  unfold ca
  rw [List.getD_eq_getElem?_getD, List.getD_eq_getElem?_getD, List.getElem?_take, if_pos h]
def pos (l : List ByteArray) (s : ByteArray) : Nat → Nat → Int
 |0, _ => -1
 |d + 1, n => if s.toList = (nm l n).toList then (n : Int) else pos l s d (n + 1)
theorem pos_spec (l : List ByteArray) (s : ByteArray) : ∀ d n, (pos l s d n = -1 ∧ ∀ m, n ≤ m → m < n + d → s.toList ≠ (nm l m).toList) ∨ (∃ m, n ≤ m ∧ m < n + d ∧ pos l s d n = (m : Int) ∧ s.toList = (nm l m).toList) := by
  intro d
  induction d with
 |zero => intro n; exact Or.inl ⟨rfl, fun m h1 h2 => by omega⟩
 |succ d ih =>
    intro n
    simp only [pos]
    split
    · rename_i h
      exact Or.inr ⟨n, by omega, by omega, rfl, h⟩
    · rename_i h
      rcases ih (n + 1) with ⟨h1, h2⟩|⟨m, h1, h2, h3, h4⟩
      · refine Or.inl ⟨h1, fun m g1 g2 => ?_⟩
        by_cases e : m = n
        · rw [e]; exact h
        · exact h2 m (by omega) (by omega)
      · exact Or.inr ⟨m, by omega, by omega, h3, h4⟩
theorem idx_l0 (l : List ByteArray) (hl : l.length ≤ 1000) (s : ByteArray) : ∀ n, n ≤ l.length → Evt (fun k => slices_Index_string_string.l0 k l s (l.length : Int) (n : Int)) (pos l s (l.length - n) n) := by
  refine down ?_ ?_
  · refine Evt.succ ?_
    simp only [slices_Index_string_string.l0, Nat.sub_self, pos]
    exact Evt.ite_neg (by omega) (Evt.pure _)
  · intro n hn ih
    obtain ⟨d, hd⟩ : ∃ d, l.length - n = d + 1:=⟨l.length - n - 1, by omega⟩
    rw [show l.length - (n + 1) = d by omega] at ih
    rw [hd]
    refine Evt.succ ?_
    simp only [slices_Index_string_string.l0, pos, rnm]
    rw [wrap64_nat (by omega)]
    refine Evt.ite_pos (by omega) (Evt.ite_pos (by omega) (Evt.ite_pos (by omega) ?_))
    by_cases h : s.toList = (nm l n).toList
    · exact Evt.cast (Evt.ite_pos h (Evt.pure _)) (if_pos h).symm
    · exact Evt.cast (Evt.ite_neg h ih) (if_neg h).symm
theorem idx_ev (l : List ByteArray) (hl : l.length ≤ 1000) (s : ByteArray) : Evt (fun k => slices_Index_string_string.f k l s) (pos l s l.length 0) := by
  simp only [slices_Index_string_string.f]
  exact idx_l0 l hl s 0 (Nat.zero_le _)
theorem rix_l0 (l : List ByteArray) (hl : l.length ≤ 1000) (s : ByteArray) : ∀ n, n ≤ l.length → Evt (fun k => gridhallref4_Index.l0 k s l (l.length : Int) (n : Int)) (pos l s (l.length - n) n) := by
  refine down ?_ ?_
  · refine Evt.succ ?_
    simp only [gridhallref4_Index.l0, Nat.sub_self, pos]
    exact Evt.ite_neg (by omega) (Evt.pure _)
  · intro n hn ih
    obtain ⟨d, hd⟩ : ∃ d, l.length - n = d + 1:=⟨l.length - n - 1, by omega⟩
    rw [show l.length - (n + 1) = d by omega] at ih
    rw [hd]
    refine Evt.succ ?_
    simp only [gridhallref4_Index.l0, pos, rnm]
    rw [wrap64_nat (by omega)]
    refine Evt.ite_pos (by omega) (Evt.ite_pos (by omega) (Evt.ite_pos (by omega) ?_))
    by_cases h : s.toList = (nm l n).toList
    · exact Evt.cast (Evt.ite_pos h.symm (Evt.pure _)) (if_pos h).symm
    · exact Evt.cast (Evt.ite_neg (fun e => h e.symm) ih) (if_neg h).symm
theorem rix_ev (l : List ByteArray) (hl : l.length ≤ 1000) (s : ByteArray) : Evt (fun k => gridhallref4_Index.f k l s) (pos l s l.length 0) := by
  simp only [gridhallref4_Index.f]
  exact rix_l0 l hl s 0 (Nat.zero_le _)
def twin2 (c : List Ca) (a b : ByteArray) : Nat → Nat → Bool
 |0, _ => false
 |d + 1, m => if (a.toList == (ca c m).f0.toList && b.toList == (ca c m).f1.toList) = true then true else twin2 c a b d (m + 1)
def caErr (c : List Ca) (n : Nat) : Int := if isName (ca c n).f0 ∧ isName (ca c n).f1 then (if (ca c n).f0.toList = (ca c n).f1.toList then 3 else if twin2 c (ca c n).f0 (ca c n).f1 n 0 = true then 7 else 0) else 6
def casErr (c : List Ca) : Nat → Nat → Int
 |0, _ => 0
 |d + 1, n => if caErr c n = 0 then casErr c d (n + 1) else caErr c n
def txErr (l : List ByteArray) (n : Nat) : Int := if isName (nm l n) then (if 0 ≤ pos (l.take n) (nm l n) n 0 then 7 else 0) else 6
def txsErr (l : List ByteArray) : Nat → Nat → Int
 |0, _ => 0
 |d + 1, n => if txErr l n = 0 then txsErr l d (n + 1) else txErr l n
def cErr (c : List Ca) : Int := if c.length > 40 then 2 else casErr c c.length 0
def lErr (l : List ByteArray) : Int := if l.length > 24 then 2 else txsErr l l.length 0
theorem six0 : ¬ (6 : Int) = 0 := by decide
section
variable {c : List Ca} {l : List ByteArray} (sc : ∀ n, n < c.length → (ca c n).f0.size ≤ 9223372036854775806 ∧ (ca c n).f1.size ≤ 9223372036854775806) (sl : ∀ n, n < l.length → (nm l n).size ≤ 9223372036854775806)
theorem cidx_l0 (hc : c.length ≤ 1000) (n : Nat) (hn : n < c.length) (a b : ByteArray) : ∀ m, m ≤ n → ∃ r : Int, Evt (fun k => api_AlarmCause_118.l0 k (c.take n) (n : Int) (m : Int) a b) r ∧ (0 ≤ r ↔ twin2 c a b (n - m) m = true) := by
  have hlen : (c.take n).length = n:=by rw [List.length_take]; omega
  refine down ?_ ?_
  · refine ⟨-1, Evt.succ ?_, by simp [twin2]⟩
    simp only [api_AlarmCause_118.l0]
    exact Evt.ite_neg (by omega) (Evt.pure _)
  · intro m hm ⟨r, ih, hr⟩
    obtain ⟨d, hd⟩ : ∃ d, n - m = d + 1:=⟨n - m - 1, by omega⟩
    rw [show n - (m + 1) = d by omega] at hr
    rw [hd]
    by_cases h : (a.toList == (ca c m).f0.toList && b.toList == (ca c m).f1.toList) = true
    · refine ⟨(m : Int), Evt.succ ?_, ?_⟩
      · simp only [api_AlarmCause_118.l0, hlen, rca]
        exact Evt.ite_pos (by omega) (Evt.ite_pos (by omega) (Evt.ite_pos (by omega) (Evt.ite_pos (by rw [ca_take c hm]; exact h) (Evt.pure _))))
      · simp only [twin2, if_pos h]
        exact ⟨fun _ => trivial, fun _ => by omega⟩
    · refine ⟨r, Evt.succ ?_, ?_⟩
      · simp only [api_AlarmCause_118.l0, hlen, rca]
        rw [wrap64_nat (by omega)]
        exact Evt.ite_pos (by omega) (Evt.ite_pos (by omega) (Evt.ite_pos (by omega) (Evt.ite_neg (by rw [ca_take c hm]; exact h) ih)))
      · simp only [twin2, if_neg h]
        exact hr
include sc in
theorem chk_l0 (hc : c.length ≤ 1000) : ∀ n, n ≤ c.length → Evt (fun k => alarm_Check.l0 k c c (c.length : Int) (n : Int)) (casErr c (c.length - n) n) := by
  refine down ?_ ?_
  · refine Evt.succ ?_
    simp only [alarm_Check.l0, Nat.sub_self, casErr]
    exact Evt.ite_neg (by omega) (Evt.pure _)
  · intro n hn ih
    obtain ⟨d, hd⟩ : ∃ d, c.length - n = d + 1:=⟨c.length - n - 1, by omega⟩
    rw [show c.length - (n + 1) = d by omega] at ih
    rw [hd]
    have s1:=(sc n hn).1
    have s2:=(sc n hn).2
    have bad : ¬ (isName (ca c n).f0 ∧ isName (ca c n).f1) → Evt (fun k => alarm_Check.j1 k c (n : Int) c (c.length : Int) (n : Int) true (ca c n).f0 (ca c n).f1) (casErr c (d + 1) n):=by
      intro h
      have e : caErr c n = 6:=if_neg h
      have e2 : casErr c (d + 1) n = 6:=by simp only [casErr]; rw [e]; exact if_neg six0
      rw [e2]
      refine Evt.succ ?_
      simp only [alarm_Check.j1]
      exact Evt.ite_pos trivial (Evt.pure _)
    refine Evt.succ ?_
    simp only [alarm_Check.l0, rca]
    refine Evt.ite_pos (by omega) (Evt.ite_pos (by omega) (Evt.ite_pos (by omega) (Evt.bind (named_ev _ s1) ?_)))
    by_cases h1 : isName (ca c n).f0
    · refine Evt.ite_pos (decide_eq_true h1) (Evt.bind (named_ev _ s2) ?_)
      by_cases h2 : isName (ca c n).f1
      · rw [decide_eq_true h2]
        refine Evt.succ ?_
        simp only [alarm_Check.j1]
        refine Evt.ite_neg (by simp) ?_
        have ec : caErr c n = if (ca c n).f0.toList = (ca c n).f1.toList then 3 else if twin2 c (ca c n).f0 (ca c n).f1 n 0 = true then 7 else 0:=if_pos ⟨h1, h2⟩
        by_cases h3 : (ca c n).f0.toList = (ca c n).f1.toList
        · have e : casErr c (d + 1) n = 3:=by simp only [casErr]; rw [ec, if_pos h3]; rfl
          rw [e]
          exact Evt.ite_pos h3 (Evt.pure _)
        · rw [if_neg h3] at ec
          refine Evt.ite_neg h3 (Evt.ite_pos (by omega) (Evt.ite_pos (by omega) ?_))
          have hlen : (c.take n).length = n:=by rw [List.length_take]; omega
          obtain ⟨r, g1, g2⟩:=cidx_l0 hc n hn (ca c n).f0 (ca c n).f1 0 (Nat.zero_le _)
          rw [show ((n : Int)).toNat = n by omega, wrap64_nat (by omega)]
          refine Evt.bind (a:=twin2 c (ca c n).f0 (ca c n).f1 n 0) ?_ ?_
          · simp only [api_AlarmCause_106.f, api_AlarmCause_118.f, hlen]
            refine Evt.bind g1 (Evt.of_eq ?_)
            rw [Nat.sub_zero] at g2
            cases q : twin2 c (ca c n).f0 (ca c n).f1 n 0 with
           |true => exact decide_eq_true (g2.2 q)
           |false => exact decide_eq_false (fun g => by rw [g2.1 g] at q; cases q)
          · by_cases q : twin2 c (ca c n).f0 (ca c n).f1 n 0 = true
            · rw [if_pos q] at ec
              have e : casErr c (d + 1) n = 7:=by simp only [casErr]; rw [ec]; rfl
              rw [e]
              exact Evt.ite_pos q (Evt.pure _)
            · rw [if_neg q] at ec
              have e : casErr c (d + 1) n = casErr c d (n + 1):=by simp only [casErr]; rw [ec]; rfl
              rw [e]
              exact Evt.ite_neg q ih
      · rw [decide_eq_false h2]
        exact bad (fun h => h2 h.2)
    · exact Evt.ite_neg (by simpa using h1) (bad (fun h => h1 h.1))
include sc in
theorem chk_ev : Evt (fun k => alarm_Check.f k c) (cErr c) := by
  simp only [alarm_Check.f]
  unfold cErr
  by_cases h : c.length > 40
  · exact Evt.cast (Evt.ite_pos (by omega) (Evt.pure _)) (if_pos h).symm
  · exact Evt.cast (Evt.ite_neg (by omega) (chk_l0 sc (by omega) 0 (Nat.zero_le _))) (if_neg h).symm
include sl in
theorem act_l0 (hl : l.length ≤ 1000) : ∀ n, n ≤ l.length → Evt (fun k => alarm_active.l0 k l l (l.length : Int) (n : Int)) (txsErr l (l.length - n) n) := by
  refine down ?_ ?_
  · refine Evt.succ ?_
    simp only [alarm_active.l0, Nat.sub_self, txsErr]
    exact Evt.ite_neg (by omega) (Evt.pure _)
  · intro n hn ih
    obtain ⟨d, hd⟩ : ∃ d, l.length - n = d + 1:=⟨l.length - n - 1, by omega⟩
    rw [show l.length - (n + 1) = d by omega] at ih
    rw [hd]
    have hlen : (l.take n).length = n:=by rw [List.length_take]; omega
    refine Evt.succ ?_
    simp only [alarm_active.l0, rnm]
    refine Evt.ite_pos (by omega) (Evt.ite_pos (by omega) (Evt.ite_pos (by omega) (Evt.bind (named_ev _ (sl n hn)) ?_)))
    by_cases h1 : isName (nm l n)
    · have et : txErr l n = if 0 ≤ pos (l.take n) (nm l n) n 0 then 7 else 0:=if_pos h1
      refine Evt.ite_pos (decide_eq_true h1) (Evt.ite_pos (by omega) ?_)
      rw [show ((n : Int)).toNat = n by omega, wrap64_nat (by omega)]
      have I:=idx_ev (l.take n) (by omega) (nm l n)
      rw [hlen] at I
      simp only [slices_Contains_string_string.f]
      refine Evt.bind (Evt.bind I (Evt.pure _)) ?_
      by_cases q : 0 ≤ pos (l.take n) (nm l n) n 0
      · rw [if_pos q] at et
        have e : txsErr l (d + 1) n = 7:=by simp only [txsErr]; rw [et]; rfl
        rw [e]
        exact Evt.ite_pos (decide_eq_true q) (Evt.pure _)
      · rw [if_neg q] at et
        have e : txsErr l (d + 1) n = txsErr l d (n + 1):=by simp only [txsErr]; rw [et]; rfl
        rw [e]
        exact Evt.ite_neg (by simpa using q) ih
    · have et : txErr l n = 6:=if_neg h1
      have e : txsErr l (d + 1) n = 6:=by simp only [txsErr]; rw [et]; rfl
      rw [e]
      exact Evt.ite_neg (by simpa using h1) (Evt.pure _)
include sl in
theorem act_ev : Evt (fun k => alarm_active.f k l) (lErr l) := by
  simp only [alarm_active.f]
  unfold lErr
  by_cases h : l.length > 24
  · exact Evt.cast (Evt.ite_pos (by omega) (Evt.pure _)) (if_pos h).symm
  · exact Evt.cast (Evt.ite_neg (by omega) (act_l0 sl (by omega) 0 (Nat.zero_le _))) (if_neg h).symm
theorem rer_l2 (hl : l.length ≤ 1000) : ∀ n, n ≤ l.length → Evt (fun k => gridhallref4_AlarmError.l2 k l l (l.length : Int) (n : Int)) (txsErr l (l.length - n) n) := by
  refine down ?_ ?_
  · refine Evt.succ ?_
    simp only [gridhallref4_AlarmError.l2, Nat.sub_self, txsErr]
    exact Evt.ite_neg (by omega) (Evt.pure _)
  · intro n hn ih
    obtain ⟨d, hd⟩ : ∃ d, l.length - n = d + 1:=⟨l.length - n - 1, by omega⟩
    rw [show l.length - (n + 1) = d by omega] at ih
    rw [hd]
    have hlen : (l.take n).length = n:=by rw [List.length_take]; omega
    refine Evt.succ ?_
    simp only [gridhallref4_AlarmError.l2, rnm]
    refine Evt.ite_pos (by omega) (Evt.ite_pos (by omega) (Evt.ite_pos (by omega) (Evt.bind (refn_ev _) ?_)))
    by_cases h1 : isName (nm l n)
    · have et : txErr l n = if 0 ≤ pos (l.take n) (nm l n) n 0 then 7 else 0:=if_pos h1
      refine Evt.ite_pos (decide_eq_true h1) (Evt.ite_pos (by omega) ?_)
      rw [show ((n : Int)).toNat = n by omega, wrap64_nat (by omega)]
      have I:=rix_ev (l.take n) (by omega) (nm l n)
      rw [hlen] at I
      refine Evt.bind I ?_
      by_cases q : 0 ≤ pos (l.take n) (nm l n) n 0
      · rw [if_pos q] at et
        have e : txsErr l (d + 1) n = 7:=by simp only [txsErr]; rw [et]; rfl
        rw [e]
        exact Evt.ite_pos q (Evt.pure _)
      · rw [if_neg q] at et
        have e : txsErr l (d + 1) n = txsErr l d (n + 1):=by simp only [txsErr]; rw [et]; rfl
        rw [e]
        exact Evt.ite_neg q ih
    · have et : txErr l n = 6:=if_neg h1
      have e : txsErr l (d + 1) n = 6:=by simp only [txsErr]; rw [et]; rfl
      rw [e]
      exact Evt.ite_neg (by simpa using h1) (Evt.pure _)
theorem rer_l1 (hc : c.length ≤ 1000) (n : Nat) (hn : n < c.length) (a b : ByteArray) (r : Int) (hr : Evt (fun k => gridhallref4_AlarmError.l0 k c l c (c.length : Int) ((n + 1 : Nat) : Int)) r) :
    ∀ m, m ≤ n → Evt (fun k => gridhallref4_AlarmError.l1 k c l c (c.length : Int) (n : Int) (c.take n) (n : Int) (m : Int) a b) (if twin2 c a b (n - m) m = true then 7 else r):=by
  have hlen : (c.take n).length = n:=by rw [List.length_take]; omega
  refine down ?_ ?_
  · refine Evt.succ ?_
    simp only [gridhallref4_AlarmError.l1, Nat.sub_self, twin2]
    rw [wrap64_nat (by omega)]
    exact Evt.ite_neg (by omega) (by simpa using hr)
  · intro m hm ih
    obtain ⟨d, hd⟩ : ∃ d, n - m = d + 1:=⟨n - m - 1, by omega⟩
    rw [show n - (m + 1) = d by omega] at ih
    rw [hd]
    refine Evt.succ ?_
    simp only [gridhallref4_AlarmError.l1, hlen, rca]
    rw [wrap64_nat (by omega)]
    refine Evt.ite_pos (by omega) (Evt.ite_pos (by omega) (Evt.ite_pos (by omega) ?_))
    by_cases h : (a.toList == (ca c m).f0.toList && b.toList == (ca c m).f1.toList) = true
    · have e : twin2 c a b (d + 1) m = true:=by simp only [twin2, if_pos h]
      rw [if_pos e]
      exact Evt.ite_pos (by rw [ca_take c hm]; exact h) (Evt.pure _)
    · have e : twin2 c a b (d + 1) m = twin2 c a b d (m + 1):=by simp only [twin2, if_neg h]
      rw [e]
      exact Evt.ite_neg (by rw [ca_take c hm]; exact h) ih
theorem rer_l0 (hc : c.length ≤ 1000) : ∀ n, n ≤ c.length → Evt (fun k => gridhallref4_AlarmError.l0 k c l c (c.length : Int) (n : Int)) (if casErr c (c.length - n) n = 0 then lErr l else casErr c (c.length - n) n) := by
  refine down ?_ ?_
  · refine Evt.succ ?_
    simp only [gridhallref4_AlarmError.l0, Nat.sub_self, casErr]
    refine Evt.ite_neg (by omega) ?_
    rw [if_pos trivial]
    unfold lErr
    by_cases h : l.length > 24
    · exact Evt.cast (Evt.ite_pos (by omega) (Evt.pure _)) (if_pos h).symm
    · exact Evt.cast (Evt.ite_neg (by omega) (rer_l2 (by omega) 0 (Nat.zero_le _))) (if_neg h).symm
  · intro n hn ih
    obtain ⟨d, hd⟩ : ∃ d, c.length - n = d + 1:=⟨c.length - n - 1, by omega⟩
    rw [show c.length - (n + 1) = d by omega] at ih
    rw [hd]
    have bad : ¬ (isName (ca c n).f0 ∧ isName (ca c n).f1) → Evt (fun k => gridhallref4_AlarmError.j1 k c l (n : Int) c (c.length : Int) (n : Int) true (ca c n).f0 (ca c n).f1) (if casErr c (d + 1) n = 0 then lErr l else casErr c (d + 1) n):=by
      intro h
      have e : caErr c n = 6:=if_neg h
      have e2 : casErr c (d + 1) n = 6:=by simp only [casErr]; rw [e]; exact if_neg six0
      rw [e2, if_neg six0]
      refine Evt.succ ?_
      simp only [gridhallref4_AlarmError.j1]
      exact Evt.ite_pos trivial (Evt.pure _)
    refine Evt.succ ?_
    simp only [gridhallref4_AlarmError.l0, rca]
    refine Evt.ite_pos (by omega) (Evt.ite_pos (by omega) (Evt.ite_pos (by omega) (Evt.bind (refn_ev _) ?_)))
    by_cases h1 : isName (ca c n).f0
    · refine Evt.ite_pos (decide_eq_true h1) (Evt.bind (refn_ev _) ?_)
      by_cases h2 : isName (ca c n).f1
      · rw [decide_eq_true h2]
        refine Evt.succ ?_
        simp only [gridhallref4_AlarmError.j1]
        refine Evt.ite_neg (by simp) ?_
        have ec : caErr c n = if (ca c n).f0.toList = (ca c n).f1.toList then 3 else if twin2 c (ca c n).f0 (ca c n).f1 n 0 = true then 7 else 0:=if_pos ⟨h1, h2⟩
        by_cases h3 : (ca c n).f0.toList = (ca c n).f1.toList
        · have e : casErr c (d + 1) n = 3:=by simp only [casErr]; rw [ec, if_pos h3]; rfl
          rw [e]
          exact Evt.ite_pos h3 (Evt.pure _)
        · rw [if_neg h3] at ec
          have hlen : (c.take n).length = n:=by rw [List.length_take]; omega
          refine Evt.ite_neg h3 (Evt.ite_pos (by omega) (Evt.ite_pos (by omega) (Evt.bindo rfl ?_)))
          rw [show ((n : Int)).toNat = n by omega, hlen]
          have H:=rer_l1 (l:=l) hc n hn (ca c n).f0 (ca c n).f1 _ ih 0 (Nat.zero_le _)
          rw [Nat.sub_zero] at H
          by_cases q : twin2 c (ca c n).f0 (ca c n).f1 n 0 = true
          · rw [if_pos q] at ec H
            have e : casErr c (d + 1) n = 7:=by simp only [casErr]; rw [ec]; rfl
            rw [e]
            exact H
          · rw [if_neg q] at ec H
            have e : casErr c (d + 1) n = casErr c d (n + 1):=by simp only [casErr]; rw [ec]; rfl
            rw [e]
            exact H
      · rw [decide_eq_false h2]
        exact bad (fun h => h2 h.2)
    · exact Evt.ite_neg (by simpa using h1) (bad (fun h => h1 h.1))
def alErr (c : List Ca) (l : List ByteArray) : Int := if cErr c = 0 then lErr l else cErr c
theorem rer_ev : Evt (fun k => gridhallref4_AlarmError.f k c l) (alErr c l) := by
  simp only [gridhallref4_AlarmError.f]
  by_cases h : c.length > 40
  · have e : cErr c = 2:=if_pos h
    have e2 : alErr c l = 2:=by unfold alErr; rw [e]; rfl
    rw [e2]
    exact Evt.ite_pos (by omega) (Evt.pure _)
  · have e : cErr c = casErr c c.length 0:=if_neg h
    refine Evt.ite_neg (by omega) ?_
    have:=rer_l0 (c:=c) (l:=l) (by omega) 0 (Nat.zero_le _)
    rw [Nat.sub_zero, ← e] at this
    exact this
end
theorem txs_dist (l : List ByteArray) : ∀ d n, n + d = l.length → txsErr l d n = 0 → ∀ m, n ≤ m → m < l.length → ∀ i, i < m → (nm l m).toList ≠ (nm l i).toList := by
  intro d
  induction d with
 |zero => intro n h _ m h1 h2; omega
 |succ d ih =>
    intro n h h0 m h1 h2 i hi
    simp only [txsErr] at h0
    by_cases c : txErr l n = 0
    · rw [if_pos c] at h0
      by_cases e : m = n
      · subst e
        unfold txErr at c
        by_cases q : isName (nm l m)
        · rw [if_pos q] at c
          by_cases g : 0 ≤ pos (l.take m) (nm l m) m 0
          · rw [if_pos g] at c; omega
          · rcases pos_spec (l.take m) (nm l m) m 0 with ⟨a1, a2⟩|⟨x, a1, a2, a3, a4⟩
            · have:=a2 i (by omega) (by omega)
              rw [nm_take l hi] at this
              exact this
            · omega
        · rw [if_neg q] at c; omega
      · exact ih (n + 1) (by omega) h0 m (by omega) h2 i hi
    · rw [if_neg c] at h0
      exact absurd h0 c
def Dist (l : List ByteArray) : Prop := ∀ i j, i < l.length → j < l.length → (nm l i).toList = (nm l j).toList → i = j
theorem lErr_dist {l : List ByteArray} (h : lErr l = 0) : Dist l := by
  unfold lErr at h
  by_cases c : l.length > 24
  · rw [if_pos c] at h; omega
  · rw [if_neg c] at h
    have D:=txs_dist l l.length 0 (by omega) h
    intro i j hi hj e
    rcases Nat.lt_trichotomy i j with g|g|g
    · exact absurd e.symm (D j (Nat.zero_le _) hj i g)
    · exact g
    · exact absurd e (D i (Nat.zero_le _) hi j g)
end Go.Proofs.Ytefkdkppipdceaa.BAlarmSays
