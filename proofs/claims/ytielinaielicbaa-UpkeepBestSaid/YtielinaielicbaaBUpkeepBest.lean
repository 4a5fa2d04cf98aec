import Derived.Test.YtielinaielicbaaEvs
import Derived.Test.YtielinaielicbaaHUpkeepBesty0
import Derived.Test.YtielinaielicbaaHUpkeepBesty1
import Derived.Test.YtielinaielicbaaHUpkeepBesty2
import Derived.Test.YtielinaielicbaaHUpkeepBesty3
import Derived.Test.YtielinaielicbaaHUpkeepBesty4
import Derived.Test.YtielinaielicbaaHUpkeepBesty5
import Derived.Test.YtielinaielicbaaHUpkeepBesty6
import Derived.Test.YtielinaielicbaaHUpkeepBesty7
import Derived.Test.YtielinaielicbaaHUpkeepBesty8
import Derived.Test.YtielinaielicbaaHUpkeepBesty9
import Derived.Test.YtielinaielicbaaHUpkeepBesty10
namespace Go.Proofs.Ytielinaielicbaa.BUpkeepBest
open Go.RowKit Go.Proofs.YtielinaielicbaaW.PrintWords Go.Proofs.YtielinaielicbaaW.PrintMore Go.Proofs.Ytielinaielicbaa.Evs Go.Proofs.Ytielinaielicbaa.PUpkeepBest
set_option linter.unusedVariables false
set_option linter.unusedSectionVars false
set_option linter.unusedSimpArgs false
def okAt (s : ByteArray) (i : Nat) : Prop := (65 ≤ bt s i ∧ bt s i ≤ 90) ∨ (0 < i ∧ 48 ≤ bt s i ∧ bt s i ≤ 57)
instance (s : ByteArray) (i : Nat) : Decidable (okAt s i) := by unfold okAt; exact inferInstance
def isName (s : ByteArray) : Prop := 1 ≤ s.size ∧ s.size ≤ 8 ∧ ∀ i, i < s.size → okAt s i
instance (s : ByteArray) : Decidable (isName s) := by unfold isName; exact inferInstance
theorem namedb_t (s : ByteArray) (hs : s.size ≤ 9223372036854775806) : ∀ n, n ≤ s.size → (∀ i, n ≤ i → i < s.size → okAt s i) → Evt (fun k => upkeep_named.l0 k s (bytesOf s) ((bytesOf s).length : Int) (n : Int)) (decide (1 ≤ s.size ∧ s.size ≤ 8)) := by
  refine down (P:=fun n => (∀ i, n ≤ i → i < s.size → okAt s i) → Evt (fun k => upkeep_named.l0 k s (bytesOf s) ((bytesOf s).length : Int) (n : Int)) (decide (1 ≤ s.size ∧ s.size ≤ 8))) ?_ ?_
  · intro _
    refine Evt.succ ?_
    simp only [upkeep_named.l0, bytesOf_length]
    refine Evt.ite_neg (by omega) (Evt.ite (fun h => Evt.of_eq ?_) (fun h => Evt.of_eq ?_))
    · have:=(toList_nil s).1 h
      exact (decide_eq_false (by omega)).symm
    · have : s.size ≠ 0:=fun e => h ((toList_nil s).2 e)
      exact decide_eq_decide.2 (by omega)
  · intro n hn ih h
    have ok:=h n (Nat.le_refl _) hn
    have ih:=ih (fun i a b => h i (by omega) b)
    refine Evt.succ ?_
    simp only [upkeep_named.l0, rd_bytesOf, bytesOf_length] at ih ⊢
    refine Evt.ite_pos (by omega) (Evt.ite_pos (by omega) (Evt.ite_pos (by omega) ?_))
    rw [wrap64_nat (by omega)]
    unfold okAt at ok
    refine Evt.ite (fun h1 => Evt.ite (fun h2 => ih) (fun h2 => Evt.ite_pos (by omega) (Evt.ite_pos (by omega) (Evt.ite_pos (by omega) ih)))) (fun h1 => Evt.ite_pos (by omega) (Evt.ite_pos (by omega) (Evt.ite_pos (by omega) ih)))
theorem namedb_f (s : ByteArray) (hs : s.size ≤ 9223372036854775806) : ∀ n, n ≤ s.size → (∃ i, n ≤ i ∧ i < s.size ∧ ¬ okAt s i) → Evt (fun k => upkeep_named.l0 k s (bytesOf s) ((bytesOf s).length : Int) (n : Int)) false := by
  refine down (P:=fun n => (∃ i, n ≤ i ∧ i < s.size ∧ ¬ okAt s i) → Evt (fun k => upkeep_named.l0 k s (bytesOf s) ((bytesOf s).length : Int) (n : Int)) false) ?_ ?_
  · rintro ⟨i, a, b, _⟩
    omega
  · intro n hn ih h
    refine Evt.succ ?_
    simp only [upkeep_named.l0, rd_bytesOf, bytesOf_length] at ih ⊢
    refine Evt.ite_pos (by omega) (Evt.ite_pos (by omega) (Evt.ite_pos (by omega) ?_))
    rw [wrap64_nat (by omega)]
    by_cases ok : okAt s n
    · have ih:=ih (by obtain ⟨i, a, b, c⟩:=h; exact ⟨i, by rcases Nat.lt_or_eq_of_le a with a|a; exact a; subst a; exact absurd ok c, b, c⟩)
      unfold okAt at ok
      refine Evt.ite (fun h1 => Evt.ite (fun h2 => ih) (fun h2 => Evt.ite_pos (by omega) (Evt.ite_pos (by omega) (Evt.ite_pos (by omega) ih)))) (fun h1 => Evt.ite_pos (by omega) (Evt.ite_pos (by omega) (Evt.ite_pos (by omega) ih)))
    · unfold okAt at ok
      have last : ¬ ((65 ≤ bt s n ∧ bt s n ≤ 90)) → Evt (fun k => if (n : Int) > 0 then (if bt s n ≥ 48 then (if bt s n ≤ 57 then upkeep_named.l0 k s (bytesOf s) (s.size : Int) ((n + 1 : Nat) : Int) else some false) else some false) else some false) false:=fun _ =>
        Evt.ite (fun h3 => Evt.ite (fun h4 => Evt.ite (fun h5 => absurd (by omega) ok) (fun _ => Evt.pure _)) (fun _ => Evt.pure _)) (fun _ => Evt.pure _)
      refine Evt.ite (fun h1 => Evt.ite (fun h2 => absurd (by omega) ok) (fun h2 => last (by omega))) (fun h1 => last (by omega))
theorem named_ev (s : ByteArray) (hs : s.size ≤ 9223372036854775806) : Evt (fun k => upkeep_named.f k s) (decide (isName s)) := by
  simp only [upkeep_named.f]
  refine Evt.ite_pos (by omega) ?_
  by_cases h : ∀ i, i < s.size → okAt s i
  · refine Evt.cast (namedb_t s hs 0 (by omega) (fun i _ b => h i b)) ?_
    unfold isName
    exact decide_eq_decide.2 ⟨fun a => ⟨a.1, a.2, h⟩, fun a => ⟨a.1, a.2.1⟩⟩
  · refine Evt.cast (namedb_f s hs 0 (by omega) ?_) ?_
    · refine Classical.byContradiction fun c => h fun i hi => Classical.byContradiction fun d => c ⟨i, by omega, hi, d⟩
    · exact (decide_eq_false (fun a => h a.2.2)).symm
theorem refn_l0 (s : ByteArray) (hs : s.size ≤ 8) (h0 : 1 ≤ s.size) (hf : ¬ (48 ≤ bt s 0 ∧ bt s 0 ≤ 57)) : ∀ n, n ≤ s.size → Evt (fun k => gridhallref4_Named.l0 k s (s.size : Int) (n : Int)) (decide (∀ i, i < s.size → n ≤ i → okAt s i)) := by
  refine down (P:=fun n => Evt (fun k => gridhallref4_Named.l0 k s (s.size : Int) (n : Int)) (decide (∀ i, i < s.size → n ≤ i → okAt s i))) ?_ ?_
  · refine Evt.succ ?_
    simp only [gridhallref4_Named.l0]
    exact Evt.ite_neg (by omega) (Evt.of_eq (decide_eq_true (fun i a b => by omega)).symm)
  · intro n hn ih
    refine Evt.succ ?_
    simp only [gridhallref4_Named.l0]
    refine Evt.ite_pos (by omega) (Evt.ite_pos (by omega) (Evt.ite_pos (by omega) ?_))
    rw [wrap64_nat (by omega)]
    have fine : okAt s n → decide (∀ i, i < s.size → n + 1 ≤ i → okAt s i) = decide (∀ i, i < s.size → n ≤ i → okAt s i):=fun ok => decide_eq_decide.2 ⟨fun a i b c => by
      rcases Nat.lt_or_eq_of_le c with c|c
      · exact a i b c
      · subst c; exact ok, fun a i b c => a i b (by omega)⟩
    have bad : ¬ okAt s n → false = decide (∀ i, i < s.size → n ≤ i → okAt s i):=fun ok => (decide_eq_false (fun a => ok (a n hn (Nat.le_refl _)))).symm
    have zero : n = 0 → bt s n = bt s 0:=fun e => by subst e; rfl
    have last : ¬ ((65 ≤ bt s n ∧ bt s n ≤ 90)) → Evt (fun k => if bt s n ≥ 48 then (if bt s n ≤ 57 then gridhallref4_Named.l0 k s (s.size : Int) ((n + 1 : Nat) : Int) else some false) else some false) (decide (∀ i, i < s.size → n ≤ i → okAt s i)):=fun ne =>
      Evt.ite (fun h4 => Evt.ite (fun h5 => Evt.cast ih (fine (Or.inr ⟨by rcases Nat.eq_zero_or_pos n with e|e; have:=zero e; omega; exact e, by omega, by omega⟩))) (fun h5 => Evt.of_eq (bad (by unfold okAt; omega)))) (fun h4 => Evt.of_eq (bad (by unfold okAt; omega)))
    refine Evt.ite (fun h1 => Evt.ite (fun h2 => Evt.cast ih (fine (Or.inl ⟨by omega, h2⟩))) (fun h2 => last (by omega))) (fun h1 => last (by omega))
theorem refn_ev (s : ByteArray) : Evt (fun k => gridhallref4_Named.f k s) (decide (isName s)) := by
  have j0t : ¬ isName s → Evt (fun k => gridhallref4_Named.j0 k s true) (decide (isName s)):=by
    intro h
    refine Evt.succ ?_
    simp only [gridhallref4_Named.j0]
    exact Evt.ite_pos (by simp) (Evt.of_eq (decide_eq_false h).symm)
  simp only [gridhallref4_Named.f]
  by_cases h0 : s.size = 0
  · exact Evt.ite_pos (by omega) (j0t (fun h => by have:=h.1; omega))
  by_cases h8 : s.size ≤ 8
  · refine Evt.ite_neg (by omega) (Evt.ite_neg (by omega) (Evt.ite_pos (by omega) ?_))
    have no : ¬ (65 ≤ bt s 0 ∧ bt s 0 ≤ 90) → ¬ isName s:=fun a h => by
      have:=h.2.2 0 (by omega)
      unfold okAt at this
      simp at this
      exact a this
    refine Evt.ite (fun h1 => ?_) (fun h1 => ?_)
    · by_cases h2 : bt s 0 ≤ 90
      · rw [decide_eq_true h2]
        refine Evt.succ ?_
        simp only [gridhallref4_Named.j0]
        refine Evt.ite_neg (by simp) (Evt.cast (refn_l0 s h8 (by omega) (by omega) 0 (by omega)) ?_)
        unfold isName
        exact decide_eq_decide.2 ⟨fun a => ⟨by omega, h8, fun i b => a i b (by omega)⟩, fun a i b _ => a.2.2 i b⟩
      · rw [decide_eq_false h2]
        exact j0t (no (by omega))
    · exact j0t (no (by omega))
  · exact Evt.ite_neg (by omega) (Evt.ite_pos (by omega) (j0t (fun h => h8 h.2.1)))
theorem in_eq (a b c : Int) : gridhallref4_In.f a b c = some (decide (b ≤ a ∧ a ≤ c)) := by
  unfold gridhallref4_In.f
  by_cases h : a ≥ b
  · rw [if_pos h]
    congr 1
    exact decide_eq_decide.2 (by omega)
  · rw [if_neg h, decide_eq_false (by omega)]
abbrev Jb := S28
abbrev Ap := S29
def jb (js : List Jb) (n : Nat) : Jb := js.getD n z28
def lg (js : List Jb) (n : Nat) : Int := (jb js n).f1
def ft (js : List Jb) (n : Nat) : Int := (jb js n).f2
def la (js : List Jb) (n : Nat) : Int := (jb js n).f3
def wt (js : List Jb) (n : Nat) : Int := (jb js n).f4
def p0 (ap : List Ap) (n : Nat) : Int := (ap.getD n z29).f0
def p1 (ap : List Ap) (n : Nat) : Int := (ap.getD n z29).f1
theorem rj (js : List Jb) (n : Nat) : rd_T28 js (n : Int) = jb js n := Eq.trans rfl rfl
theorem ra0 (ap : List Ap) (n : Nat) : (rd_T29 ap (n : Int)).f0 = p0 ap n := Eq.trans rfl rfl
theorem ra1 (ap : List Ap) (n : Nat) : (rd_T29 ap (n : Int)).f1 = p1 ap n := Eq.trans rfl rfl
def okAp (m : Int) (ap : List Ap) (n : Nat) : Prop := (0 ≤ p0 ap n ∧ p0 ap n < m) ∧ (0 ≤ p1 ap n ∧ p1 ap n < m)
instance (m : Int) (ap : List Ap) (n : Nat) : Decidable (okAp m ap n) := by unfold okAp; exact inferInstance
def apStep (m : Int) (ap : List Ap) : Nat → Nat → Int
 |0, _ => 0
 |d + 1, n => if okAp m ap n then (if p0 ap n = p1 ap n then 3 else apStep m ap d (n + 1)) else 8
def dup (js : List Jb) (n : Nat) : Bool := (js.take n).any (fun p => p.f0.toList == (jb js n).f0.toList)
def okJ (js : List Jb) (n : Nat) : Prop := (1 ≤ lg js n ∧ lg js n ≤ 60) ∧ (0 ≤ ft js n ∧ ft js n ≤ la js n) ∧ la js n ≤ 60 ∧ la js n ≤ ft js n + 11 ∧ 0 ≤ wt js n ∧ wt js n ≤ 1000
instance (js : List Jb) (n : Nat) : Decidable (okJ js n) := by unfold okJ; exact inferInstance
def jobStep (js : List Jb) (ap : List Ap) : Nat → Nat → Int
 |0, _ => apStep js.length ap ap.length 0
 |d + 1, n => if isName (jb js n).f0 then (if dup js n = true then 7 else if okJ js n then jobStep js ap d (n + 1) else 4) else 6
def upErr (js : List Jb) (ap : List Ap) (c : Int) : Int := if js.length > 6 ∨ ap.length > 256 then 2 else if 1 ≤ c ∧ c ≤ 6 then jobStep js ap js.length 0 else 4
theorem any_iff (t : List Jb) (x : List UInt8) : (t.any (fun p => p.f0.toList == x) = true) ↔ ∃ m, m < t.length ∧ (jb t m).f0.toList = x := by
  rw [List.any_eq_true]
  constructor
  · rintro ⟨p, hp, e⟩
    obtain ⟨m, hm, em⟩:=List.getElem_of_mem hp
    refine ⟨m, hm, ?_⟩
    unfold jb
    rw [List.getD_eq_getElem?_getD, List.getElem?_eq_getElem hm]
    simp only [Option.getD_some]
    rw [em]
    exact eq_of_beq e
  · rintro ⟨m, hm, e⟩
    refine ⟨t[m], List.getElem_mem hm, ?_⟩
    unfold jb at e
    rw [List.getD_eq_getElem?_getD, List.getElem?_eq_getElem hm] at e
    simp only [Option.getD_some] at e
    rw [e]
    exact beq_self_eq_true _
theorem idx_t (t : List Jb) (x : Jb) (hl : t.length ≤ 6) : ∀ n, n ≤ t.length → (∃ m, n ≤ m ∧ m < t.length ∧ (jb t m).f0.toList = x.f0.toList) → ∃ r : Int, r ≥ 0 ∧ Evt (fun k => slices_IndexFunc_of_Check_1.l0 k t (t.length : Int) (n : Int) [x]) r := by
  refine down (P:=fun n => (∃ m, n ≤ m ∧ m < t.length ∧ (jb t m).f0.toList = x.f0.toList) → ∃ r : Int, r ≥ 0 ∧ Evt (fun k => slices_IndexFunc_of_Check_1.l0 k t (t.length : Int) (n : Int) [x]) r) ?_ ?_
  · rintro ⟨m, a, b, _⟩
    omega
  · intro n hn ih h
    by_cases c : (jb t n).f0.toList = x.f0.toList
    · refine ⟨n, by omega, Evt.succ ?_⟩
      simp only [slices_IndexFunc_of_Check_1.l0, rj]
      refine Evt.ite_pos (by omega) (Evt.ite_pos (by omega) (Evt.ite_pos (by omega) (Evt.bindo (a:=true) ?_ (Evt.ite_pos rfl (Evt.pure _)))))
      simp only [upkeep_Check_1.f]
      rw [if_pos (by simp)]
      have e : rd_T28 [x] 0 = x:=rfl
      rw [e, c]
      simp
    · obtain ⟨r, r0, r1⟩:=ih (by obtain ⟨m, a, b, d⟩:=h; exact ⟨m, by rcases Nat.lt_or_eq_of_le a with a|a; exact a; subst a; exact absurd d c, b, d⟩)
      refine ⟨r, r0, Evt.succ ?_⟩
      simp only [slices_IndexFunc_of_Check_1.l0, rj]
      rw [wrap64_nat (by omega)]
      refine Evt.ite_pos (by omega) (Evt.ite_pos (by omega) (Evt.ite_pos (by omega) (Evt.bindo (a:=false) ?_ (Evt.ite_neg (by simp) r1))))
      simp only [upkeep_Check_1.f]
      rw [if_pos (by simp)]
      have e : rd_T28 [x] 0 = x:=rfl
      rw [e]
      simp [c]
theorem idx_f (t : List Jb) (x : Jb) (hl : t.length ≤ 6) : ∀ n, n ≤ t.length → (∀ m, n ≤ m → m < t.length → (jb t m).f0.toList ≠ x.f0.toList) → Evt (fun k => slices_IndexFunc_of_Check_1.l0 k t (t.length : Int) (n : Int) [x]) (-1) := by
  refine down (P:=fun n => (∀ m, n ≤ m → m < t.length → (jb t m).f0.toList ≠ x.f0.toList) → Evt (fun k => slices_IndexFunc_of_Check_1.l0 k t (t.length : Int) (n : Int) [x]) (-1)) ?_ ?_
  · intro _
    refine Evt.succ ?_
    simp only [slices_IndexFunc_of_Check_1.l0]
    exact Evt.ite_neg (by omega) (Evt.pure _)
  · intro n hn ih h
    have c:=h n (Nat.le_refl _) hn
    refine Evt.succ ?_
    simp only [slices_IndexFunc_of_Check_1.l0, rj]
    rw [wrap64_nat (by omega)]
    refine Evt.ite_pos (by omega) (Evt.ite_pos (by omega) (Evt.ite_pos (by omega) (Evt.bindo (a:=false) ?_ (Evt.ite_neg (by simp) (ih (fun m a b => h m (by omega) b))))))
    simp only [upkeep_Check_1.f]
    rw [if_pos (by simp)]
    have e : rd_T28 [x] 0 = x:=rfl
    rw [e]
    simp [c]
theorem contains_ev (t : List Jb) (x : Jb) (hl : t.length ≤ 6) : Evt (fun k => slices_ContainsFunc_of_Check_1.f k t [x]) (t.any (fun p => p.f0.toList == x.f0.toList)) := by
  simp only [slices_ContainsFunc_of_Check_1.f, slices_IndexFunc_of_Check_1.f]
  by_cases c : ∃ m, m < t.length ∧ (jb t m).f0.toList = x.f0.toList
  · obtain ⟨r, r0, r1⟩:=idx_t t x hl 0 (by omega) (by obtain ⟨m, a, b⟩:=c; exact ⟨m, by omega, a, b⟩)
    rw [(any_iff t _).2 c]
    exact Evt.bind r1 (Evt.of_eq (decide_eq_true r0))
  · have r1:=idx_f t x hl 0 (by omega) (fun m _ b e => c ⟨m, b, e⟩)
    have : t.any (fun p => p.f0.toList == x.f0.toList) = false:=by
      cases h : t.any (fun p => p.f0.toList == x.f0.toList) with
     |false => rfl
     |true => exact absurd ((any_iff t _).1 h) c
    rw [this]
    exact Evt.bind r1 (Evt.of_eq (by decide))
section
variable (js : List Jb) (ap : List Ap) (c : Int) (hj : js.length ≤ 6) (ha : ap.length ≤ 256)
include hj ha
theorem chk_l1 : ∀ n, n ≤ ap.length → Evt (fun k => upkeep_Check.l1 k ap (ap.length : Int) (n : Int) js ap c) (apStep js.length ap (ap.length - n) n) := by
  refine down ?_ ?_
  · refine Evt.succ ?_
    simp only [upkeep_Check.l1, Nat.sub_self, apStep]
    exact Evt.ite_neg (by omega) (Evt.pure _)
  · intro n hn ih
    obtain ⟨d, hd⟩ : ∃ d, ap.length - n = d + 1:=⟨ap.length - n - 1, by omega⟩
    rw [show ap.length - (n + 1) = d by omega] at ih
    rw [hd]
    have j3 : ∀ b, b = !(decide (okAp js.length ap n)) → Evt (fun k => upkeep_Check.j3 k ap (ap.length : Int) (n : Int) b js ap c (p0 ap n) (p1 ap n)) (apStep js.length ap (d + 1) n):=by
      intro b hb
      subst hb
      refine Evt.succ ?_
      simp only [upkeep_Check.j3, apStep]
      rw [wrap64_nat (by omega)]
      by_cases o : okAp js.length ap n
      · rw [decide_eq_true o, if_pos o]
        refine Evt.ite_neg (by simp) (Evt.ite (fun e => Evt.of_eq (if_pos e).symm) (fun e => ?_))
        rw [if_neg e]
        exact ih
      · rw [decide_eq_false o, if_neg o]
        exact Evt.ite_pos rfl (Evt.pure _)
    refine Evt.succ ?_
    simp only [upkeep_Check.l1, ra0, ra1]
    refine Evt.ite_pos (by omega) (Evt.ite_pos (by omega) (Evt.ite_pos (by omega) ?_))
    refine Evt.ite (fun e => j3 _ ?_) (fun e => j3 _ ?_)
    · rw [decide_eq_false]
      · rfl
      · unfold okAp
        revert e
        unfold mn
        split <;> omega
    · rw [← decide_not]
      refine decide_eq_decide.2 ?_
      unfold okAp
      revert e
      unfold mn mx
      split <;> split <;> omega
theorem chk_l0 (hs : ∀ n, n < js.length → (jb js n).f0.size ≤ 9223372036854775806) : ∀ n, n ≤ js.length → Evt (fun k => upkeep_Check.l0 k js (js.length : Int) (n : Int) js ap c) (jobStep js ap (js.length - n) n) := by
  refine down ?_ ?_
  · refine Evt.succ ?_
    simp only [upkeep_Check.l0, Nat.sub_self, jobStep]
    exact Evt.ite_neg (by omega) (chk_l1 js ap c hj ha 0 (by omega))
  · intro n hn ih
    obtain ⟨d, hd⟩ : ∃ d, js.length - n = d + 1:=⟨js.length - n - 1, by omega⟩
    rw [show js.length - (n + 1) = d by omega] at ih
    rw [hd]
    refine Evt.succ ?_
    simp only [upkeep_Check.l0, rj, jobStep]
    refine Evt.ite_pos (by omega) (Evt.ite_pos (by omega) (Evt.ite_pos (by omega) (Evt.bind (named_ev _ (hs n hn)) ?_)))
    by_cases c1 : isName (jb js n).f0
    · rw [if_pos c1]
      have ce:=contains_ev (js.take n) (jb js n) (by rw [List.length_take]; omega)
      refine Evt.ite_pos (decide_eq_true c1) (Evt.ite_pos (by omega) ?_)
      rw [Int.toNat_natCast]
      refine Evt.bind ce ?_
      show Evt (fun k => if dup js n = true then _ else _) _
      by_cases c2 : dup js n = true
      · rw [if_pos c2]
        exact Evt.ite_pos c2 (Evt.pure _)
      · rw [if_neg c2]
        refine Evt.ite_neg c2 ?_
        have bad : ¬ okJ js n → 4 = (if okJ js n then jobStep js ap d (n + 1) else 4):=fun h => (if_neg h).symm
        show Evt (fun k => if lg js n < 1 then some 4 else if lg js n > 60 then some 4 else if ft js n < 0 then some 4 else if la js n > 60 then some 4 else if ft js n > la js n then some 4 else if wrap64 (la js n - ft js n) ≥ 12 then some 4 else if wt js n < 0 then some 4 else if wt js n > 1000 then some 4 else upkeep_Check.l0 k js (js.length : Int) (wrap64 ((n : Int) + 1)) js ap c) _
        rw [wrap64_nat (by omega)]
        unfold okJ at bad
        refine Evt.ite (fun e => Evt.of_eq (bad (by omega))) (fun e1 => Evt.ite (fun e => Evt.of_eq (bad (by omega))) (fun e2 => Evt.ite (fun e => Evt.of_eq (bad (by omega))) (fun e3 => Evt.ite (fun e => Evt.of_eq (bad (by omega))) (fun e4 => Evt.ite (fun e => Evt.of_eq (bad (by omega))) (fun e5 => ?_)))))
        rw [wrap64_of (x:=la js n - ft js n) (by omega) (by omega)]
        refine Evt.ite (fun e => Evt.of_eq (bad (by omega))) (fun e6 => Evt.ite (fun e => Evt.of_eq (bad (by omega))) (fun e7 => Evt.ite (fun e => Evt.of_eq (bad (by omega))) (fun e8 => ?_)))
        rw [if_pos (by unfold okJ; omega)]
        exact ih
    · rw [if_neg c1]
      exact Evt.ite_neg (by simpa using c1) (Evt.pure _)
end
theorem Check_ev (js : List Jb) (ap : List Ap) (c : Int) (hs : ∀ n, n < js.length → (jb js n).f0.size ≤ 9223372036854775806) : Evt (fun k => upkeep_Check.f k js ap c) (upErr js ap c) := by
  simp only [upkeep_Check.f]
  unfold upErr
  have j0 : ∀ b, b = decide (js.length > 6 ∨ ap.length > 256) → Evt (fun k => upkeep_Check.j0 k b js ap c) (if js.length > 6 ∨ ap.length > 256 then 2 else if 1 ≤ c ∧ c ≤ 6 then jobStep js ap js.length 0 else 4):=by
    intro b hb
    subst hb
    refine Evt.succ ?_
    simp only [upkeep_Check.j0]
    by_cases h : js.length > 6 ∨ ap.length > 256
    · rw [if_pos h]
      exact Evt.ite_pos (decide_eq_true h) (Evt.pure _)
    · rw [if_neg h]
      refine Evt.ite_neg (by simpa using h) (Evt.ite (fun e => Evt.of_eq (if_neg (by omega)).symm) (fun e1 => Evt.ite (fun e => Evt.of_eq (if_neg (by omega)).symm) (fun e2 => ?_)))
      rw [if_pos (by omega)]
      exact chk_l0 js ap c (by omega) (by omega) hs 0 (by omega)
  refine Evt.ite (fun e => j0 _ (decide_eq_true (Or.inl (by omega))).symm) (fun e => j0 _ (decide_eq_decide.2 (by omega)))
section
variable (js : List Jb) (ap : List Ap) (c : Int) (hj : js.length ≤ 6) (ha : ap.length ≤ 256)
include hj ha
theorem ref_l2 : ∀ n, n ≤ ap.length → Evt (fun k => gridhallref4_UpkeepError.l2 k ap (ap.length : Int) (n : Int) js ap c) (apStep js.length ap (ap.length - n) n) := by
  refine down ?_ ?_
  · refine Evt.succ ?_
    simp only [gridhallref4_UpkeepError.l2, Nat.sub_self, apStep]
    exact Evt.ite_neg (by omega) (Evt.pure _)
  · intro n hn ih
    obtain ⟨d, hd⟩ : ∃ d, ap.length - n = d + 1:=⟨ap.length - n - 1, by omega⟩
    rw [show ap.length - (n + 1) = d by omega] at ih
    rw [hd]
    have j4 : ∀ b, b = !(decide (okAp js.length ap n)) → Evt (fun k => gridhallref4_UpkeepError.j4 k ap (ap.length : Int) (n : Int) b js ap c (p0 ap n) (p1 ap n)) (apStep js.length ap (d + 1) n):=by
      intro b hb
      subst hb
      refine Evt.succ ?_
      simp only [gridhallref4_UpkeepError.j4, apStep]
      rw [wrap64_nat (by omega)]
      by_cases o : okAp js.length ap n
      · rw [decide_eq_true o, if_pos o]
        refine Evt.ite_neg (by simp) (Evt.ite (fun e => Evt.of_eq (if_pos e).symm) (fun e => ?_))
        rw [if_neg e]
        exact ih
      · rw [decide_eq_false o, if_neg o]
        exact Evt.ite_pos rfl (Evt.pure _)
    refine Evt.succ ?_
    simp only [gridhallref4_UpkeepError.l2, ra0, ra1, in_eq, Option.bind_some]
    rw [wrap64_of (x:=(js.length : Int) - 1) (by omega) (by omega)]
    refine Evt.ite_pos (by omega) (Evt.ite_pos (by omega) (Evt.ite_pos (by omega) ?_))
    refine Evt.ite (fun e => j4 _ ?_) (fun e => j4 _ ?_)
    · have e:=of_decide_eq_true e
      congr 1
      refine decide_eq_decide.2 ?_
      unfold okAp
      omega
    · rw [decide_eq_false]
      · rfl
      · intro o
        unfold okAp at o
        exact e (decide_eq_true (by omega))
theorem ref_l1 (n : Nat) (hn : n < js.length) (d : Nat) (hd : js.length - n = d + 1) (ih : Evt (fun k => gridhallref4_UpkeepError.l0 k js (js.length : Int) ((n + 1 : Nat) : Int) js ap c) (jobStep js ap d (n + 1))) (y : List Jb) (hy : y.length ≤ 6) :
    ∀ m, m ≤ y.length → Evt (fun k => gridhallref4_UpkeepError.l1 k js (js.length : Int) (n : Int) y (y.length : Int) (m : Int) js ap c (jb js n).f0 (jb js n).f1 (jb js n).f2 (jb js n).f3 (jb js n).f4) (if (y.drop m).any (fun p => p.f0.toList == (jb js n).f0.toList) = true then 7 else if okJ js n then jobStep js ap d (n + 1) else 4):=by
  refine down ?_ ?_
  · refine Evt.succ ?_
    simp only [gridhallref4_UpkeepError.l1, in_eq, Option.bind_some]
    rw [List.drop_length, wrap64_nat (n:=n) (by omega)]
    refine Evt.ite_neg (by omega) ?_
    rw [if_neg (by simp)]
    have bad : ¬ okJ js n → 4 = (if okJ js n then jobStep js ap d (n + 1) else 4):=fun h => (if_neg h).symm
    show Evt (fun k => if decide (1 ≤ lg js n ∧ lg js n ≤ 60) = true then (if decide (0 ≤ la js n ∧ la js n ≤ 60) = true then (if decide (0 ≤ ft js n ∧ ft js n ≤ la js n) = true then (if la js n > wrap64 (ft js n + 11) then some 4 else if decide (0 ≤ wt js n ∧ wt js n ≤ 1000) = true then gridhallref4_UpkeepError.l0 k js (js.length : Int) ((n + 1 : Nat) : Int) js ap c else some 4) else some 4) else some 4) else some 4) _
    unfold okJ at bad
    refine Evt.ite (fun e1 => ?_) (fun e => Evt.of_eq (bad (fun o => e (decide_eq_true (by omega)))))
    have e1:=of_decide_eq_true e1
    refine Evt.ite (fun e2 => ?_) (fun e => Evt.of_eq (bad (fun o => e (decide_eq_true (by omega)))))
    have e2:=of_decide_eq_true e2
    refine Evt.ite (fun e3 => ?_) (fun e => Evt.of_eq (bad (fun o => e (decide_eq_true (by omega)))))
    have e3:=of_decide_eq_true e3
    rw [wrap64_of (x:=ft js n + 11) (by omega) (by omega)]
    refine Evt.ite (fun e => Evt.of_eq (bad (by omega))) (fun e4 => ?_)
    refine Evt.ite (fun e5 => ?_) (fun e => Evt.of_eq (bad (fun o => e (decide_eq_true (by omega)))))
    have e5:=of_decide_eq_true e5
    rw [if_pos (by unfold okJ; omega)]
    exact ih
  · intro m hm ih2
    have ed : y.drop m = jb y m :: y.drop (m + 1):=by
      unfold jb
      exact getD_drop hm
    rw [ed, List.any_cons]
    refine Evt.succ ?_
    simp only [gridhallref4_UpkeepError.l1, rj]
    rw [wrap64_nat (n:=m) (by omega)]
    refine Evt.ite_pos (by omega) (Evt.ite_pos (by omega) (Evt.ite_pos (by omega) ?_))
    by_cases e : (jb y m).f0.toList = (jb js n).f0.toList
    · rw [if_pos (by simp [e])]
      exact Evt.ite_pos e (Evt.pure _)
    · rw [show ((jb y m).f0.toList == (jb js n).f0.toList) = false by simpa using e, Bool.false_or]
      exact Evt.ite_neg e ih2
theorem ref_l0 : ∀ n, n ≤ js.length → Evt (fun k => gridhallref4_UpkeepError.l0 k js (js.length : Int) (n : Int) js ap c) (jobStep js ap (js.length - n) n) := by
  refine down ?_ ?_
  · refine Evt.succ ?_
    simp only [gridhallref4_UpkeepError.l0, Nat.sub_self, jobStep]
    exact Evt.ite_neg (by omega) (ref_l2 js ap c hj ha 0 (by omega))
  · intro n hn ih
    obtain ⟨d, hd⟩ : ∃ d, js.length - n = d + 1:=⟨js.length - n - 1, by omega⟩
    rw [show js.length - (n + 1) = d by omega] at ih
    rw [hd]
    refine Evt.succ ?_
    simp only [gridhallref4_UpkeepError.l0, rj, jobStep, Option.bind_some]
    refine Evt.ite_pos (by omega) (Evt.ite_pos (by omega) (Evt.ite_pos (by omega) (Evt.bind (refn_ev _) ?_)))
    by_cases c1 : isName (jb js n).f0
    · rw [if_pos c1]
      refine Evt.ite_pos (decide_eq_true c1) (Evt.ite_pos (by omega) ?_)
      rw [Int.toNat_natCast]
      exact ref_l1 js ap c hj ha n hn d hd ih (js.take n) (by rw [List.length_take]; omega) 0 (by omega)
    · rw [if_neg c1]
      exact Evt.ite_neg (by simpa using c1) (Evt.pure _)
end
theorem UpkeepError_ev (js : List Jb) (ap : List Ap) (c : Int) : Evt (fun k => gridhallref4_UpkeepError.f k js ap c) (upErr js ap c) := by
  simp only [gridhallref4_UpkeepError.f]
  unfold upErr
  have j0 : ∀ b, b = decide (js.length > 6 ∨ ap.length > 256) → Evt (fun k => gridhallref4_UpkeepError.j0 k b js ap c) (if js.length > 6 ∨ ap.length > 256 then 2 else if 1 ≤ c ∧ c ≤ 6 then jobStep js ap js.length 0 else 4):=by
    intro b hb
    subst hb
    refine Evt.succ ?_
    simp only [gridhallref4_UpkeepError.j0, in_eq, Option.bind_some]
    by_cases h : js.length > 6 ∨ ap.length > 256
    · rw [if_pos h]
      exact Evt.ite_pos (decide_eq_true h) (Evt.pure _)
    · rw [if_neg h]
      refine Evt.ite_neg (by simpa using h) (Evt.ite (fun e => ?_) (fun e => Evt.of_eq (if_neg (fun o => e (decide_eq_true o))).symm))
      rw [if_pos (of_decide_eq_true e)]
      exact ref_l0 js ap c (by omega) (by omega) 0 (by omega)
  refine Evt.ite (fun e => j0 _ (decide_eq_true (Or.inl (by omega))).symm) (fun e => j0 _ (decide_eq_decide.2 (by omega)))
structure Up (js : List Jb) (ap : List Ap) (c : Int) : Prop where
  hj : js.length ≤ 6
  ha : ap.length ≤ 256
  hc : 1 ≤ c ∧ c ≤ 6
  job : ∀ n, n < js.length → okJ js n
  par : ∀ n, n < ap.length → okAp js.length ap n ∧ p0 ap n ≠ p1 ap n
theorem apStep_ok (m : Int) (ap : List Ap) : ∀ d n, n + d = ap.length → apStep m ap d n = 0 → ∀ i, n ≤ i → i < ap.length → okAp m ap i ∧ p0 ap i ≠ p1 ap i := by
  intro d
  induction d with
 |zero => intro n hn _ i h1 h2; omega
 |succ d ih =>
    intro n hn h i h1 h2
    simp only [apStep] at h
    by_cases c1 : okAp m ap n
    · rw [if_pos c1] at h
      by_cases c2 : p0 ap n = p1 ap n
      · rw [if_pos c2] at h
        omega
      · rw [if_neg c2] at h
        by_cases e : i = n
        · subst e
          exact ⟨c1, c2⟩
        · exact ih (n + 1) (by omega) h i (by omega) h2
    · rw [if_neg c1] at h
      omega
theorem jobStep_ok (js : List Jb) (ap : List Ap) : ∀ d n, n + d = js.length → jobStep js ap d n = 0 → (∀ i, n ≤ i → i < js.length → okJ js i) ∧ apStep js.length ap ap.length 0 = 0 := by
  intro d
  induction d with
 |zero => intro n hn h; exact ⟨fun i h1 h2 => by omega, h⟩
 |succ d ih =>
    intro n hn h
    simp only [jobStep] at h
    by_cases c1 : isName (jb js n).f0
    · rw [if_pos c1] at h
      by_cases c2 : dup js n = true
      · rw [if_pos c2] at h
        omega
      · rw [if_neg c2] at h
        by_cases c3 : okJ js n
        · rw [if_pos c3] at h
          obtain ⟨g1, g2⟩:=ih (n + 1) (by omega) h
          refine ⟨fun i h1 h2 => ?_, g2⟩
          by_cases e : i = n
          · subst e
            exact c3
          · exact g1 i (by omega) h2
        · rw [if_neg c3] at h
          omega
    · rw [if_neg c1] at h
      omega
theorem upErr_ok {js : List Jb} {ap : List Ap} {c : Int} (h : upErr js ap c = 0) : Up js ap c := by
  unfold upErr at h
  by_cases c1 : js.length > 6 ∨ ap.length > 256
  · rw [if_pos c1] at h
    omega
  · rw [if_neg c1] at h
    by_cases c2 : 1 ≤ c ∧ c ≤ 6
    · rw [if_pos c2] at h
      obtain ⟨g1, g2⟩:=jobStep_ok js ap js.length 0 (by omega) h
      exact ⟨by omega, by omega, c2, fun n hn => g1 n (by omega) hn, fun n hn => apStep_ok _ ap ap.length 0 (by omega) g2 n (by omega) hn⟩
    · rw [if_neg c2] at h
      omega
def pl (l : List Int) (n : Nat) : Int := l.getD n 0
theorem rdp (l : List Int) (n : Nat) : rd l (n : Int) = pl l n := Eq.trans rfl rfl
def bz (js : List Jb) (l : List Int) (i : Nat) (day : Int) : Prop := pl l i ≤ day ∧ day < pl l i + lg js i
instance (js : List Jb) (l : List Int) (i : Nat) (day : Int) : Decidable (bz js l i day) := by unfold bz; exact inferInstance
def q0 (ap : List Ap) (n : Nat) : Nat := (p0 ap n).toNat
def q1 (ap : List Ap) (n : Nat) : Nat := (p1 ap n).toNat
def pr (ap : List Ap) (n k : Nat) : Prop := (q0 ap n = k ∧ q1 ap n < k) ∨ (q1 ap n = k ∧ q0 ap n < k)
def Conf (js : List Jb) (ap : List Ap) (l : List Int) (k : Nat) : Prop := ∃ n, n < ap.length ∧ pr ap n k ∧ ∃ day : Int, 0 ≤ day ∧ day < 121 ∧ bz js l (q0 ap n) day ∧ bz js l (q1 ap n) day
def cnt (js : List Jb) (l : List Int) (day : Int) : Nat → Int
 |0 => 0
 |i + 1 => cnt js l day i + (if bz js l i day then 1 else 0)
def Full (js : List Jb) (c : Int) (l : List Int) (k : Nat) : Prop := ∃ day : Int, 0 ≤ day ∧ day < 121 ∧ bz js l k day ∧ cnt js l day (k + 1) > c
theorem cnt_bd (js : List Jb) (l : List Int) (day : Int) : ∀ i, 0 ≤ cnt js l day i ∧ cnt js l day i ≤ i := by
  intro i
  induction i with
 |zero => simp [cnt]
 |succ i ih =>
    simp only [cnt]
    split <;> omega
section
variable {js : List Jb} {ap : List Ap} {c : Int} (hu : Up js ap c) {l : List Int} (hl : l.length = js.length) (ht : ∀ i, i < js.length → ft js i ≤ pl l i ∧ pl l i ≤ la js i)
include hu hl ht
theorem tb (i : Nat) (hi : i < js.length) : 0 ≤ pl l i ∧ pl l i ≤ 60 ∧ 1 ≤ lg js i ∧ lg js i ≤ 60 := by
  have:=hu.job i hi
  have:=ht i hi
  unfold okJ at *
  omega
theorem qb (n : Nat) (hn : n < ap.length) : p0 ap n = (q0 ap n : Int) ∧ p1 ap n = (q1 ap n : Int) ∧ q0 ap n < js.length ∧ q1 ap n < js.length ∧ q0 ap n ≠ q1 ap n := by
  obtain ⟨⟨⟨a1, a2⟩, a3, a4⟩, a5⟩:=hu.par n hn
  unfold q0 q1
  omega
theorem busy_ev (i : Nat) (hi : i < js.length) (day : Int) : gridhallref4_PlanError_1.f (i : Int) day [l] [(⟨js, ap, c⟩ : S25)] = some (decide (bz js l i day)) := by
  obtain ⟨b1, b2, b3, b4⟩:=tb hu hl ht i hi
  have e1 : rd_L4 [l] 0 = l:=rfl
  have e2 : (rd_T25 [(⟨js, ap, c⟩ : S25)] 0).f0 = js:=rfl
  simp only [gridhallref4_PlanError_1.f, e1, e2, rdp, rj, in_eq, Option.bind_some]
  show (if 0 < (([l] : List (List Int)).length : Int) then (if 0 ≤ (i : Int) then (if (i : Int) < (l.length : Int) then (if 0 < (([(⟨js, ap, c⟩ : S25)] : List S25).length : Int) then (if (i : Int) < (js.length : Int) then some (decide (pl l i ≤ day ∧ day ≤ wrap64 (wrap64 (pl l i + lg js i) - 1))) else none) else none) else none) else none) else none) = _
  rw [if_pos (by simp), if_pos (by omega), if_pos (by omega), if_pos (by simp), if_pos (by omega), wrap64_of (x:=pl l i + lg js i) (by omega) (by omega), wrap64_of (x:=pl l i + lg js i - 1) (by omega) (by omega)]
  congr 1
  refine decide_eq_decide.2 ?_
  unfold bz
  omega
def hitD (js : List Jb) (ap : List Ap) (l : List Int) (k : Nat) (day : Int) (m : Nat) : Prop := pr ap m k ∧ bz js l (q0 ap m) day ∧ bz js l (q1 ap m) day
theorem ref_l3 (k : Nat) (hk : k < js.length) (day : Int) (r : Int) : ∀ n, n ≤ ap.length → ((∃ m, n ≤ m ∧ m < ap.length ∧ hitD js ap l k day m) → r = 11) → ((∀ m, n ≤ m → m < ap.length → ¬ hitD js ap l k day m) → Evt (fun q => gridhallref4_PlanError.l2 q (k : Int) (js.length : Int) (k : Int) (wrap64 (day + 1)) js ap c l) r) →
    Evt (fun q => gridhallref4_PlanError.l3 q (k : Int) day (js.length : Int) (k : Int) day ap (ap.length : Int) (n : Int) js ap c l) r:=by
  refine down (P:=fun n => ((∃ m, n ≤ m ∧ m < ap.length ∧ hitD js ap l k day m) → r = 11) → ((∀ m, n ≤ m → m < ap.length → ¬ hitD js ap l k day m) → Evt (fun q => gridhallref4_PlanError.l2 q (k : Int) (js.length : Int) (k : Int) (wrap64 (day + 1)) js ap c l) r) → Evt (fun q => gridhallref4_PlanError.l3 q (k : Int) day (js.length : Int) (k : Int) day ap (ap.length : Int) (n : Int) js ap c l) r) ?_ ?_
  · intro _ h
    refine Evt.succ ?_
    simp only [gridhallref4_PlanError.l3]
    exact Evt.ite_neg (by omega) (h (fun m a b => by omega))
  · intro n hn ih h1 h2
    obtain ⟨e0, e1, s0, s1, ne⟩:=qb hu hl ht n hn
    have z0:=busy_ev hu hl ht (q0 ap n) s0 day
    have z1:=busy_ev hu hl ht (q1 ap n) s1 day
    have go : ¬ hitD js ap l k day n → Evt (fun q => gridhallref4_PlanError.l3 q (k : Int) day (js.length : Int) (k : Int) day ap (ap.length : Int) ((n + 1 : Nat) : Int) js ap c l) r:=by
      intro hh
      refine ih (fun ⟨m, a, b, d⟩ => h1 ⟨m, by omega, b, d⟩) (fun h => h2 (fun m a b => ?_))
      by_cases e : m = n
      · subst e
        exact hh
      · exact h m (by omega) b
    have both : pr ap n k → Evt (fun q => (gridhallref4_PlanError_1.f (q0 ap n : Int) day [l] [(⟨js, ap, c⟩ : S25)]).bind fun t181 => (if t181 = true then ((gridhallref4_PlanError_1.f (q1 ap n : Int) day [l] [(⟨js, ap, c⟩ : S25)]).bind fun t182 => (if t182 = true then (some 11) else (gridhallref4_PlanError.l3 q (k : Int) day (js.length : Int) (k : Int) day ap (ap.length : Int) ((n + 1 : Nat) : Int) js ap c l))) else (gridhallref4_PlanError.l3 q (k : Int) day (js.length : Int) (k : Int) day ap (ap.length : Int) ((n + 1 : Nat) : Int) js ap c l))) r:=by
      intro hp
      refine Evt.bindo z0 (Evt.ite (fun c1 => Evt.bindo z1 (Evt.ite (fun c2 => Evt.of_eq (h1 ⟨n, Nat.le_refl _, hn, hp, of_decide_eq_true c1, of_decide_eq_true c2⟩).symm) (fun c2 => go (fun h => c2 (decide_eq_true h.2.2))))) (fun c1 => go (fun h => c1 (decide_eq_true h.2.1))))
    refine Evt.succ ?_
    simp only [gridhallref4_PlanError.l3, ra0, ra1, e0, e1]
    rw [wrap64_nat (n:=n) (by have:=hu.ha; omega)]
    refine Evt.ite_pos (by omega) (Evt.ite_pos (by omega) (Evt.ite_pos (by omega) ?_))
    refine Evt.ite (fun c1 => Evt.ite (fun c2 => both (Or.inl ⟨by omega, by omega⟩)) (fun c2 => Evt.ite (fun c3 => by omega) (fun c3 => go (fun h => ?_)))) (fun c1 => Evt.ite (fun c3 => Evt.ite (fun c4 => both (Or.inr ⟨by omega, by omega⟩)) (fun c4 => go (fun h => ?_))) (fun c3 => go (fun h => ?_)))
    · have:=h.1
      unfold pr at this
      omega
    · have:=h.1
      unfold pr at this
      omega
    · have:=h.1
      unfold pr at this
      omega
theorem ref_l2d (k : Nat) (hk : k < js.length) (r : Int) : ∀ n, n ≤ 121 → ((∃ day : Nat, n ≤ day ∧ day < 121 ∧ ∃ m, m < ap.length ∧ hitD js ap l k day m) → r = 11) → ((∀ day : Nat, n ≤ day → day < 121 → ∀ m, m < ap.length → ¬ hitD js ap l k day m) → Evt (fun q => gridhallref4_PlanError.l4 q (k : Int) (js.length : Int) (k : Int) 0 js ap c l) r) →
    Evt (fun q => gridhallref4_PlanError.l2 q (k : Int) (js.length : Int) (k : Int) (n : Int) js ap c l) r:=by
  refine down (P:=fun n => ((∃ day : Nat, n ≤ day ∧ day < 121 ∧ ∃ m, m < ap.length ∧ hitD js ap l k day m) → r = 11) → ((∀ day : Nat, n ≤ day → day < 121 → ∀ m, m < ap.length → ¬ hitD js ap l k day m) → Evt (fun q => gridhallref4_PlanError.l4 q (k : Int) (js.length : Int) (k : Int) 0 js ap c l) r) → Evt (fun q => gridhallref4_PlanError.l2 q (k : Int) (js.length : Int) (k : Int) (n : Int) js ap c l) r) ?_ ?_
  · intro _ h
    refine Evt.succ ?_
    simp only [gridhallref4_PlanError.l2]
    exact Evt.ite_neg (by omega) (h (fun d a b => by omega))
  · intro n hn ih h1 h2
    refine Evt.succ ?_
    simp only [gridhallref4_PlanError.l2]
    refine Evt.ite_pos (by omega) (ref_l3 hu hl ht k hk (n : Int) r 0 (by omega) (fun ⟨m, _, b, d⟩ => h1 ⟨n, Nat.le_refl _, hn, m, b, d⟩) (fun h => ?_))
    rw [wrap64_nat (n:=n) (by omega)]
    refine ih (fun ⟨d, a, b, e⟩ => h1 ⟨d, by omega, b, e⟩) (fun g => h2 (fun d a b m hm => ?_))
    by_cases e : d = n
    · subst e
      exact h m (by omega) hm
    · exact g d (by omega) b m hm
theorem ref_l5 (k : Nat) (hk : k < js.length) (day : Int) (r : Int) (h1 : bz js l k day ∧ cnt js l day (k + 1) > c → r = 9) (h2 : ¬ (bz js l k day ∧ cnt js l day (k + 1) > c) → Evt (fun q => gridhallref4_PlanError.l4 q (k : Int) (js.length : Int) (k : Int) (wrap64 (day + 1)) js ap c l) r) :
    ∀ i, i ≤ k + 1 → Evt (fun q => gridhallref4_PlanError.l5 q (k : Int) day (cnt js l day i) (js.length : Int) (k : Int) day ((k + 1 : Nat) : Int) (i : Int) js ap c l) r:=by
  have hj:=hu.hj
  refine down ?_ ?_
  · refine Evt.succ ?_
    simp only [gridhallref4_PlanError.l5]
    refine Evt.ite_neg (by omega) (Evt.bindo (busy_ev hu hl ht k hk day) (Evt.ite (fun c1 => Evt.ite (fun c2 => Evt.of_eq (h1 ⟨of_decide_eq_true c1, c2⟩).symm) (fun c2 => h2 (fun h => c2 h.2))) (fun c1 => h2 (fun h => c1 (decide_eq_true h.1)))))
  · intro i hi ih
    have cb:=cnt_bd js l day i
    refine Evt.succ ?_
    simp only [gridhallref4_PlanError.l5]
    rw [wrap64_nat (n:=i) (by omega), wrap64_of (x:=cnt js l day i + 1) (by omega) (by omega)]
    simp only [cnt] at ih
    refine Evt.ite_pos (by omega) (Evt.bindo (busy_ev hu hl ht i (by omega) day) (Evt.ite (fun c1 => ?_) (fun c1 => ?_)))
    · rw [if_pos (of_decide_eq_true c1)] at ih
      exact ih
    · rw [if_neg (fun h => c1 (decide_eq_true h)), Int.add_zero] at ih
      exact ih
theorem ref_l4 (k : Nat) (hk : k < js.length) (r : Int) : ∀ n, n ≤ 121 → ((∃ day : Nat, n ≤ day ∧ day < 121 ∧ bz js l k day ∧ cnt js l day (k + 1) > c) → r = 9) → ((∀ day : Nat, n ≤ day → day < 121 → ¬ (bz js l k day ∧ cnt js l day (k + 1) > c)) → Evt (fun q => gridhallref4_PlanError.l1 q (js.length : Int) ((k + 1 : Nat) : Int) js ap c l) r) →
    Evt (fun q => gridhallref4_PlanError.l4 q (k : Int) (js.length : Int) (k : Int) (n : Int) js ap c l) r:=by
  have hj:=hu.hj
  refine down (P:=fun n => ((∃ day : Nat, n ≤ day ∧ day < 121 ∧ bz js l k day ∧ cnt js l day (k + 1) > c) → r = 9) → ((∀ day : Nat, n ≤ day → day < 121 → ¬ (bz js l k day ∧ cnt js l day (k + 1) > c)) → Evt (fun q => gridhallref4_PlanError.l1 q (js.length : Int) ((k + 1 : Nat) : Int) js ap c l) r) → Evt (fun q => gridhallref4_PlanError.l4 q (k : Int) (js.length : Int) (k : Int) (n : Int) js ap c l) r) ?_ ?_
  · intro _ h
    refine Evt.succ ?_
    simp only [gridhallref4_PlanError.l4]
    rw [wrap64_nat (n:=k) (by omega)]
    exact Evt.ite_neg (by omega) (h (fun d a b => by omega))
  · intro n hn ih h1 h2
    refine Evt.succ ?_
    simp only [gridhallref4_PlanError.l4]
    rw [wrap64_nat (n:=k) (by omega)]
    refine Evt.ite_pos (by omega) (ref_l5 hu hl ht k hk (n : Int) r (fun h => h1 ⟨n, Nat.le_refl _, hn, h⟩) (fun h => ?_) 0 (by omega))
    rw [wrap64_nat (n:=n) (by omega)]
    refine ih (fun ⟨d, a, b, e⟩ => h1 ⟨d, by omega, b, e⟩) (fun g => h2 (fun d a b => ?_))
    by_cases e : d = n
    · subst e
      exact h
    · exact g d (by omega) b
theorem ref_k (k : Nat) (hk : k < js.length) (r : Int) (h1 : Conf js ap l k → r = 11) (h2 : ¬ Conf js ap l k → Full js c l k → r = 9) (h3 : ¬ Conf js ap l k → ¬ Full js c l k → Evt (fun q => gridhallref4_PlanError.l1 q (js.length : Int) ((k + 1 : Nat) : Int) js ap c l) r) :
    Evt (fun q => gridhallref4_PlanError.l1 q (js.length : Int) (k : Int) js ap c l) r:=by
  refine Evt.succ ?_
  simp only [gridhallref4_PlanError.l1]
  refine Evt.ite_pos (by omega) (ref_l2d hu hl ht k hk r 0 (by omega) (fun ⟨d, _, b, m, hm, h⟩ => h1 ⟨m, hm, h.1, d, by omega, by omega, h.2.1, h.2.2⟩) (fun g => ?_))
  have nc : ¬ Conf js ap l k:=by
    rintro ⟨m, hm, hp, d, d0, d1, b0, b1⟩
    have e : (d.toNat : Int) = d:=by omega
    exact g d.toNat (by omega) (by omega) m hm ⟨hp, by rw [e]; exact b0, by rw [e]; exact b1⟩
  refine ref_l4 hu hl ht k hk r 0 (by omega) (fun ⟨d, _, b, h⟩ => h2 nc ⟨d, by omega, by omega, h.1, h.2⟩) (fun g2 => h3 nc ?_)
  rintro ⟨d, d0, d1, b0, b1⟩
  have e : (d.toNat : Int) = d:=by omega
  exact g2 d.toNat (by omega) (by omega) ⟨by rw [e]; exact b0, by rw [e]; exact b1⟩
end
theorem cnt_congr {js : List Jb} {l t : List Int} {m : Nat} (h : ∀ i, i < m → pl t i = pl l i) (day : Int) : ∀ i, i ≤ m → cnt js t day i = cnt js l day i := by
  intro i
  induction i with
 |zero => intro _; rfl
 |succ i ih =>
    intro hi
    simp only [cnt]
    rw [ih (by omega)]
    have : bz js t i day ↔ bz js l i day:=by
      unfold bz
      rw [h i (by omega)]
    by_cases c : bz js l i day
    · rw [if_pos c, if_pos (this.2 c)]
    · rw [if_neg c, if_neg (fun d => c (this.1 d))]
section
variable {js : List Jb} {ap : List Ap} {c : Int} (hu : Up js ap c) {l : List Int} (hl : l.length = js.length) (ht : ∀ i, i < js.length → ft js i ≤ pl l i ∧ pl l i ≤ la js i)
include hu hl ht
def ov (js : List Jb) (l : List Int) (i j : Nat) : Prop := pl l i < pl l j + lg js j ∧ pl l j < pl l i + lg js i
theorem ov_iff (i j : Nat) (hi : i < js.length) (hj : j < js.length) : ov js l i j ↔ ∃ day : Int, 0 ≤ day ∧ day < 121 ∧ bz js l i day ∧ bz js l j day := by
  have a:=tb hu hl ht i hi
  have b:=tb hu hl ht j hj
  unfold ov bz
  constructor
  · rintro ⟨h1, h2⟩
    by_cases e : pl l i ≤ pl l j
    · exact ⟨pl l j, by omega, by omega, by omega, by omega⟩
    · exact ⟨pl l i, by omega, by omega, by omega, by omega⟩
  · rintro ⟨d, d0, d1, b0, b1⟩
    omega
variable {k : Nat} (hk : k < js.length) {t : List Int} (lt_ : t.length = k + 1) (tp : ∀ i, i < k + 1 → pl t i = pl l i)
include hk lt_ tp
theorem same_ev (i j : Nat) (hi : i ≤ k) (hj : j ≤ k) : ∃ b : Bool, (b = true ↔ ov js l i j) ∧ upkeep_same.f js ap c t (i : Int) (j : Int) = some b := by
  have a:=tb hu hl ht i (by omega)
  have b:=tb hu hl ht j (by omega)
  simp only [upkeep_same.f, rdp, rj]
  rw [tp i (by omega), tp j (by omega)]
  show ∃ b : Bool, _ ∧ (if 0 ≤ (i : Int) then (if (i : Int) < (t.length : Int) then (if 0 ≤ (j : Int) then (if (j : Int) < (t.length : Int) then (if (j : Int) < (js.length : Int) then (if pl l i < wrap64 (pl l j + lg js j) then (if (i : Int) < (js.length : Int) then some (decide (pl l j < wrap64 (pl l i + lg js i))) else none) else some false) else none) else none) else none) else none) else none) = some b
  rw [if_pos (by omega), if_pos (by omega), if_pos (by omega), if_pos (by omega), if_pos (by omega), wrap64_of (x:=pl l j + lg js j) (by omega) (by omega), wrap64_of (x:=pl l i + lg js i) (by omega) (by omega)]
  by_cases h : pl l i < pl l j + lg js j
  · rw [if_pos h, if_pos (by omega)]
    exact ⟨_, by unfold ov; simp; omega, rfl⟩
  · rw [if_neg h]
    exact ⟨false, by unfold ov; simp; omega, rfl⟩
theorem al_l0 (r : Int) (h1 : Conf js ap l k → r = 11) (h2 : ¬ Conf js ap l k → Evt (fun q => upkeep_allowed.l1 q t (k : Int) (pl l k) js ap c) r) : ∀ n, n ≤ ap.length → (∀ m, m < n → ¬ (pr ap m k ∧ ov js l (q0 ap m) (q1 ap m))) →
    Evt (fun q => upkeep_allowed.l0 q t (k : Int) ap (ap.length : Int) (n : Int) js ap c) r:=by
  have cf : Conf js ap l k ↔ ∃ m, m < ap.length ∧ pr ap m k ∧ ov js l (q0 ap m) (q1 ap m):=by
    unfold Conf
    constructor
    · rintro ⟨m, hm, hp, d⟩
      obtain ⟨_, _, s0, s1, _⟩:=qb hu hl ht m hm
      exact ⟨m, hm, hp, (ov_iff hu hl ht _ _ s0 s1).2 d⟩
    · rintro ⟨m, hm, hp, d⟩
      obtain ⟨_, _, s0, s1, _⟩:=qb hu hl ht m hm
      exact ⟨m, hm, hp, (ov_iff hu hl ht _ _ s0 s1).1 d⟩
  refine down (P:=fun n => (∀ m, m < n → ¬ (pr ap m k ∧ ov js l (q0 ap m) (q1 ap m))) → Evt (fun q => upkeep_allowed.l0 q t (k : Int) ap (ap.length : Int) (n : Int) js ap c) r) ?_ ?_
  · intro h
    refine Evt.succ ?_
    simp only [upkeep_allowed.l0, rdp]
    rw [tp k (by omega)]
    exact Evt.ite_neg (by omega) (Evt.ite_pos (by omega) (Evt.ite_pos (by omega) (h2 (fun hc => by obtain ⟨m, hm, hh⟩:=cf.1 hc; exact h m hm hh))))
  · intro n hn ih h
    obtain ⟨e0, e1, s0, s1, ne⟩:=qb hu hl ht n hn
    have next : ¬ (pr ap n k ∧ ov js l (q0 ap n) (q1 ap n)) → Evt (fun q => upkeep_allowed.l0 q t (k : Int) ap (ap.length : Int) ((n + 1 : Nat) : Int) js ap c) r:=by
      intro hh
      refine ih (fun m hm => ?_)
      by_cases e : m = n
      · subst e
        exact hh
      · exact h m (by omega)
    refine Evt.succ ?_
    simp only [upkeep_allowed.l0, ra0, ra1, e0, e1]
    rw [wrap64_nat (n:=n) (by have:=hu.ha; omega)]
    refine Evt.ite_pos (by omega) (Evt.ite_pos (by omega) (Evt.ite_pos (by omega) ?_))
    by_cases cm : mx (q0 ap n : Int) (q1 ap n : Int) = (k : Int)
    · have hp : pr ap n k ∧ q0 ap n ≤ k ∧ q1 ap n ≤ k:=by
        unfold pr
        revert cm
        unfold mx
        split <;> omega
      obtain ⟨b, b1, b2⟩:=same_ev hu hl ht hk lt_ tp (q0 ap n) (q1 ap n) hp.2.1 hp.2.2
      refine Evt.ite_pos cm (Evt.bindo b2 (Evt.ite (fun hb => ?_) (fun hb => next (fun hh => hb (b1.2 hh.2)))))
      exact Evt.of_eq (h1 (cf.2 ⟨n, hn, hp.1, b1.1 hb⟩)).symm
    · refine Evt.ite_neg cm (next (fun hh => ?_))
      have:=hh.1
      unfold pr at this
      revert cm
      unfold mx
      split <;> omega
theorem al_l2 (day : Int) (r : Int) (h1 : cnt js l day (k + 1) > c → r = 9) (h2 : ¬ (cnt js l day (k + 1) > c) → Evt (fun q => upkeep_allowed.l1 q t (k : Int) (wrap64 (day + 1)) js ap c) r) :
    ∀ i, i ≤ k + 1 → Evt (fun q => upkeep_allowed.l2 q t (k : Int) day (cnt js l day i) t ((k + 1 : Nat) : Int) (i : Int) js ap c) r:=by
  have hj:=hu.hj
  refine down ?_ ?_
  · refine Evt.succ ?_
    simp only [upkeep_allowed.l2]
    exact Evt.ite_neg (by omega) (Evt.ite (fun e => Evt.of_eq (h1 e).symm) (fun e => h2 e))
  · intro i hi ih
    have cb:=cnt_bd js l day i
    have a:=tb hu hl ht i (by omega)
    refine Evt.succ ?_
    simp only [upkeep_allowed.l2, rdp, rj]
    rw [tp i (by omega), wrap64_nat (n:=i) (by omega), wrap64_of (x:=cnt js l day i + 1) (by omega) (by omega)]
    simp only [cnt] at ih
    refine Evt.ite_pos (by omega) (Evt.ite_pos (by omega) (Evt.ite_pos (by omega) ?_))
    have el : wrap64 (pl l i + (jb js i).f1) = pl l i + lg js i:=wrap64_of (x:=pl l i + lg js i) (by omega) (by omega)
    rw [el]
    refine Evt.ite (fun c1 => Evt.ite_pos (by omega) (Evt.ite (fun c2 => ?_) (fun c2 => ?_))) (fun c1 => ?_)
    · rw [if_pos (by unfold bz; omega)] at ih
      exact ih
    · rw [if_neg (by unfold bz; omega), Int.add_zero] at ih
      exact ih
    · rw [if_neg (by unfold bz; omega), Int.add_zero] at ih
      exact ih
theorem al_l1 (r : Int) (h1 : Full js c l k → r = 9) (h2 : ¬ Full js c l k → r = 0) : ∀ (d : Nat) (day : Int), pl l k ≤ day → day + d = pl l k + lg js k → (∀ e : Int, pl l k ≤ e → e < day → ¬ (cnt js l e (k + 1) > c)) →
    Evt (fun q => upkeep_allowed.l1 q t (k : Int) day js ap c) r:=by
  have a:=tb hu hl ht k hk
  intro d
  induction d with
 |zero =>
    intro day h0 hd hn
    refine Evt.succ ?_
    simp only [upkeep_allowed.l1, rdp, rj]
    rw [tp k (by omega)]
    have el : wrap64 (pl l k + (jb js k).f1) = pl l k + lg js k:=wrap64_of (x:=pl l k + lg js k) (by omega) (by omega)
    rw [el]
    refine Evt.ite_pos (by omega) (Evt.ite_pos (by omega) (Evt.ite_pos (by omega) (Evt.ite_neg (by omega) (Evt.of_eq (h2 ?_).symm))))
    rintro ⟨e, e0, e1, b, g⟩
    unfold bz at b
    exact hn e (by omega) (by omega) g
 |succ d ih =>
    intro day h0 hd hn
    refine Evt.succ ?_
    simp only [upkeep_allowed.l1, rdp, rj, lt_]
    rw [tp k (by omega)]
    have el : wrap64 (pl l k + (jb js k).f1) = pl l k + lg js k:=wrap64_of (x:=pl l k + lg js k) (by omega) (by omega)
    rw [el]
    refine Evt.ite_pos (by omega) (Evt.ite_pos (by omega) (Evt.ite_pos (by omega) (Evt.ite_pos (by omega) (al_l2 hu hl ht hk lt_ tp day r (fun g => h1 ⟨day, by omega, by omega, by unfold bz; omega, g⟩) (fun g => ?_) 0 (by omega)))))
    rw [wrap64_of (x:=day + 1) (by omega) (by omega)]
    refine ih (day + 1) (by omega) (by omega) (fun e e0 e1 => ?_)
    by_cases ee : e = day
    · subst ee
      exact g
    · exact hn e e0 (by omega)
theorem allowed_ev (r : Int) (h1 : Conf js ap l k → r = 11) (h2 : ¬ Conf js ap l k → Full js c l k → r = 9) (h3 : ¬ Conf js ap l k → ¬ Full js c l k → r = 0) : Evt (fun q => upkeep_allowed.f q js ap c t) r := by
  have a:=tb hu hl ht k hk
  simp only [upkeep_allowed.f, lt_]
  rw [show wrap64 (((k + 1 : Nat) : Int) - 1) = (k : Int) by have:=hu.hj; unfold wrap64; omega]
  refine al_l0 hu hl ht hk lt_ tp r h1 (fun nc => al_l1 hu hl ht hk lt_ tp r (h2 nc) (h3 nc) (lg js k).toNat (pl l k) (Int.le_refl _) (by omega) (fun e e0 e1 => by omega)) 0 (by omega) (fun m hm => by omega)
end
def cs (js : List Jb) (l : List Int) : Nat → Int
 |0 => 0
 |n + 1 => cs js l n + (pl l n - ft js n) * wt js n
section
variable {js : List Jb} {ap : List Ap} {c : Int} (hu : Up js ap c) {l : List Int} (hl : l.length = js.length) (ht : ∀ i, i < js.length → ft js i ≤ pl l i ∧ pl l i ≤ la js i)
include hu hl ht
theorem mul_bd (n : Nat) (hn : n < js.length) : (0 ≤ pl l n - ft js n ∧ pl l n - ft js n ≤ 11) ∧ (0 ≤ (pl l n - ft js n) * wt js n ∧ (pl l n - ft js n) * wt js n ≤ 11000) ∧ 0 ≤ wt js n ∧ wt js n ≤ 1000 := by
  have o:=hu.job n hn
  have:=ht n hn
  unfold okJ at o
  have e1 : 0 ≤ (pl l n - ft js n) * wt js n:=Int.mul_nonneg (by omega) (by omega)
  have e2 : (pl l n - ft js n) * wt js n ≤ 11 * wt js n:=Int.mul_le_mul_of_nonneg_right (by omega) (by omega)
  omega
theorem cs_bd : ∀ n, n ≤ js.length → 0 ≤ cs js l n ∧ cs js l n ≤ 11000 * n := by
  intro n
  induction n with
 |zero => intro _; simp [cs]
 |succ n ih =>
    intro hn
    have:=ih (by omega)
    have:=mul_bd hu hl ht n (by omega)
    simp only [cs]
    omega
theorem refcost_l1 (n : Nat) (hn : n < js.length) (r : Int) (ih : Evt (fun q => gridhallref4_PlanCost.l0 q (cs js l (n + 1)) l (l.length : Int) ((n + 1 : Nat) : Int) js ap c) r) (D : Nat) (hD : pl l n - ft js n = D) :
    ∀ i, i ≤ D → Evt (fun q => gridhallref4_PlanCost.l1 q (cs js l n + (i : Int) * wt js n) (n : Int) l (l.length : Int) (n : Int) (D : Int) (i : Int) js ap c) r:=by
  have hj:=hu.hj
  have b:=mul_bd hu hl ht n hn
  have cb:=cs_bd hu hl ht n (by omega)
  have e : cs js l (n + 1) = cs js l n + (D : Int) * wt js n:=by
    rw [← hD]
    rfl
  refine down ?_ ?_
  · refine Evt.succ ?_
    simp only [gridhallref4_PlanCost.l1]
    rw [wrap64_nat (n:=n) (by omega), ← e]
    exact Evt.ite_neg (by omega) ih
  · intro i hi ih2
    have e1 : (i : Int) * wt js n ≤ 11 * wt js n:=Int.mul_le_mul_of_nonneg_right (by omega) (by omega)
    have e0 : 0 ≤ (i : Int) * wt js n:=Int.mul_nonneg (by omega) (by omega)
    have e2 : (((i + 1 : Nat) : Int)) * wt js n = (i : Int) * wt js n + wt js n:=by
      rw [show (((i + 1 : Nat) : Int)) = (i : Int) + 1 by omega, Int.add_mul, Int.one_mul]
    rw [e2] at ih2
    refine Evt.succ ?_
    simp only [gridhallref4_PlanCost.l1, rj]
    rw [wrap64_nat (n:=i) (by omega)]
    have e3 : wrap64 (cs js l n + (i : Int) * wt js n + (jb js n).f4) = cs js l n + ((i : Int) * wt js n + wt js n):=by
      have : cs js l n + (i : Int) * wt js n + (jb js n).f4 = cs js l n + ((i : Int) * wt js n + wt js n):=by
        show cs js l n + (i : Int) * wt js n + wt js n = _
        omega
      rw [this]
      exact wrap64_of (by omega) (by omega)
    rw [e3]
    exact Evt.ite_pos (by omega) (Evt.ite_pos (by omega) (Evt.ite_pos (by omega) ih2))
theorem refcost_ev : Evt (fun q => gridhallref4_PlanCost.f q js ap c l) (cs js l js.length) := by
  have hj:=hu.hj
  simp only [gridhallref4_PlanCost.f]
  have : ∀ n, n ≤ js.length → Evt (fun q => gridhallref4_PlanCost.l0 q (cs js l n) l (l.length : Int) (n : Int) js ap c) (cs js l js.length):=by
    refine down ?_ ?_
    · refine Evt.succ ?_
      simp only [gridhallref4_PlanCost.l0]
      exact Evt.ite_neg (by omega) (Evt.pure _)
    · intro n hn ih
      have o:=hu.job n hn
      unfold okJ at o
      have h:=ht n hn
      obtain ⟨D, hD⟩ : ∃ D : Nat, pl l n - ft js n = D:=⟨(pl l n - ft js n).toNat, by omega⟩
      have l1:=refcost_l1 hu hl ht n hn _ ih D hD 0 (by omega)
      rw [show cs js l n + ((0 : Nat) : Int) * wt js n = cs js l n by simp] at l1
      refine Evt.succ ?_
      simp only [gridhallref4_PlanCost.l0, rdp, rj]
      have e1 : wrap64 (pl l n - (jb js n).f2) = (D : Int):=by
        rw [← hD]
        exact wrap64_of (x:=pl l n - ft js n) (by omega) (by omega)
      rw [e1]
      exact Evt.ite_pos (by omega) (Evt.ite_pos (by omega) (Evt.ite_pos (by omega) (Evt.ite_pos (by omega) l1)))
  exact this 0 (by omega)
end
end Go.Proofs.Ytielinaielicbaa.BUpkeepBest
