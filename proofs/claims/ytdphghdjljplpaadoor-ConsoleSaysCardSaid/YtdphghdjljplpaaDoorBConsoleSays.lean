import Derived.Test.YtdphghdjljplpaaDoorEvs
import Derived.Test.YtdphghdjljplpaaDoorHConsoleSaysy1
import Derived.Test.YtdphghdjljplpaaDoorHConsoleSaysy2
import Derived.Test.YtdphghdjljplpaaDoorHConsoleSaysy3
import Derived.Test.YtdphghdjljplpaaDoorHConsoleSaysy4
namespace Go.Proofs.YtdphghdjljplpaaDoor.BConsoleSays
open Go.RowKit Go.Proofs.YtdphghdjljplpaaDoorW.PrintWords Go.Proofs.YtdphghdjljplpaaDoorW.PrintMore Go.Proofs.YtdphghdjljplpaaDoor.Evs Go.Proofs.YtdphghdjljplpaaDoor.PConsoleSays
set_option linter.unusedVariables false
set_option linter.unusedSectionVars false
set_option linter.unusedSimpArgs false
def okAt (s : ByteArray) (i : Nat) : Prop := (65 ≤ bt s i ∧ bt s i ≤ 90) ∨ (0 < i ∧ 48 ≤ bt s i ∧ bt s i ≤ 57)
instance (s : ByteArray) (i : Nat) : Decidable (okAt s i) := by unfold okAt; exact inferInstance
def isName (s : ByteArray) : Prop := 1 ≤ s.size ∧ s.size ≤ 8 ∧ ∀ i, i < s.size → okAt s i
instance (s : ByteArray) : Decidable (isName s) := by unfold isName; exact inferInstance
theorem namedb_t (s : ByteArray) (hs : s.size ≤ 9223372036854775806) : ∀ n, n ≤ s.size → (∀ i, n ≤ i → i < s.size → okAt s i) → Evt (fun k => console_named.l0 k s (bytesOf s) ((bytesOf s).length : Int) (n : Int)) (decide (1 ≤ s.size ∧ s.size ≤ 8)) := by
  refine down (P:=fun n => (∀ i, n ≤ i → i < s.size → okAt s i) → Evt (fun k => console_named.l0 k s (bytesOf s) ((bytesOf s).length : Int) (n : Int)) (decide (1 ≤ s.size ∧ s.size ≤ 8))) ?_ ?_
  · intro _
    refine Evt.succ ?_
    simp only [console_named.l0, bytesOf_length]
    refine Evt.ite_neg (by omega) (Evt.ite (fun h => Evt.of_eq ?_) (fun h => Evt.of_eq ?_))
    · have:=(toList_nil s).1 h
      exact (decide_eq_false (by omega)).symm
    · have : s.size ≠ 0:=fun e => h ((toList_nil s).2 e)
      exact decide_eq_decide.2 (by omega)
  · intro n hn ih h
    have ok:=h n (Nat.le_refl _) hn
    have ih:=ih (fun i a b => h i (by omega) b)
    refine Evt.succ ?_
    simp only [console_named.l0, rd_bytesOf, bytesOf_length] at ih ⊢
    refine Evt.ite_pos (by omega) (Evt.ite_pos (by omega) (Evt.ite_pos (by omega) ?_))
    rw [wrap64_nat (by omega)]
    unfold okAt at ok
    refine Evt.ite (fun h1 => Evt.ite (fun h2 => ih) (fun h2 => Evt.ite_pos (by omega) (Evt.ite_pos (by omega) (Evt.ite_pos (by omega) ih)))) (fun h1 => Evt.ite_pos (by omega) (Evt.ite_pos (by omega) (Evt.ite_pos (by omega) ih)))
theorem namedb_f (s : ByteArray) (hs : s.size ≤ 9223372036854775806) : ∀ n, n ≤ s.size → (∃ i, n ≤ i ∧ i < s.size ∧ ¬ okAt s i) → Evt (fun k => console_named.l0 k s (bytesOf s) ((bytesOf s).length : Int) (n : Int)) false := by
  refine down (P:=fun n => (∃ i, n ≤ i ∧ i < s.size ∧ ¬ okAt s i) → Evt (fun k => console_named.l0 k s (bytesOf s) ((bytesOf s).length : Int) (n : Int)) false) ?_ ?_
  · rintro ⟨i, a, b, _⟩
    omega
  · intro n hn ih h
    refine Evt.succ ?_
    simp only [console_named.l0, rd_bytesOf, bytesOf_length] at ih ⊢
    refine Evt.ite_pos (by omega) (Evt.ite_pos (by omega) (Evt.ite_pos (by omega) ?_))
    rw [wrap64_nat (by omega)]
    by_cases ok : okAt s n
    · have ih:=ih (by obtain ⟨i, a, b, c⟩:=h; exact ⟨i, by rcases Nat.lt_or_eq_of_le a with a|a; exact a; subst a; exact absurd ok c, b, c⟩)
      unfold okAt at ok
      refine Evt.ite (fun h1 => Evt.ite (fun h2 => ih) (fun h2 => Evt.ite_pos (by omega) (Evt.ite_pos (by omega) (Evt.ite_pos (by omega) ih)))) (fun h1 => Evt.ite_pos (by omega) (Evt.ite_pos (by omega) (Evt.ite_pos (by omega) ih)))
    · unfold okAt at ok
      have last : ¬ ((65 ≤ bt s n ∧ bt s n ≤ 90)) → Evt (fun k => if (n : Int) > 0 then (if bt s n ≥ 48 then (if bt s n ≤ 57 then console_named.l0 k s (bytesOf s) (s.size : Int) ((n + 1 : Nat) : Int) else some false) else some false) else some false) false:=fun _ =>
        Evt.ite (fun h3 => Evt.ite (fun h4 => Evt.ite (fun h5 => absurd (by omega) ok) (fun _ => Evt.pure _)) (fun _ => Evt.pure _)) (fun _ => Evt.pure _)
      refine Evt.ite (fun h1 => Evt.ite (fun h2 => absurd (by omega) ok) (fun h2 => last (by omega))) (fun h1 => last (by omega))
theorem named_ev (s : ByteArray) (hs : s.size ≤ 9223372036854775806) : Evt (fun k => console_named.f k s) (decide (isName s)) := by
  simp only [console_named.f]
  refine Evt.ite_pos (by omega) ?_
  by_cases h : ∀ i, i < s.size → okAt s i
  · refine Evt.cast (namedb_t s hs 0 (by omega) (fun i _ b => h i b)) ?_
    unfold isName
    exact decide_eq_decide.2 ⟨fun a => ⟨a.1, a.2, h⟩, fun a => ⟨a.1, a.2.1⟩⟩
  · refine Evt.cast (namedb_f s hs 0 (by omega) ?_) ?_
    · refine Classical.byContradiction fun c => h fun i hi => Classical.byContradiction fun d => c ⟨i, by omega, hi, d⟩
    · exact (decide_eq_false (fun a => h a.2.2)).symm
theorem refn_l0 (s : ByteArray) (hs : s.size ≤ 8) (h0 : 1 ≤ s.size) (hf : ¬ (48 ≤ bt s 0 ∧ bt s 0 ≤ 57)) : ∀ n, n ≤ s.size → Evt (fun k => gridhallref4_Named.l0 k s (s.size : Int) (n : Int)) (decide (∀ i, i < s.size → n ≤ i → okAt s i)) := by
  refine down (P:=fun n => Evt (fun k => gridhallref4_Named.l0 k s (s.size : Int) (n : Int)) (decide (∀ i, i < s.size → n ≤ i → okAt s i))) ?_ ?_
  · refine Evt.succ ?_
    simp only [gridhallref4_Named.l0]
    exact Evt.ite_neg (by omega) (Evt.of_eq (decide_eq_true (fun i a b => by omega)).symm)
  · intro n hn ih
    refine Evt.succ ?_
    simp only [gridhallref4_Named.l0]
    refine Evt.ite_pos (by omega) (Evt.ite_pos (by omega) (Evt.ite_pos (by omega) ?_))
    rw [wrap64_nat (by omega)]
    have fine : okAt s n → decide (∀ i, i < s.size → n + 1 ≤ i → okAt s i) = decide (∀ i, i < s.size → n ≤ i → okAt s i):=fun ok => decide_eq_decide.2 ⟨fun a i b c => by
      rcases Nat.lt_or_eq_of_le c with c|c
      · exact a i b c
      · subst c; exact ok, fun a i b c => a i b (by omega)⟩
    have bad : ¬ okAt s n → false = decide (∀ i, i < s.size → n ≤ i → okAt s i):=fun ok => (decide_eq_false (fun a => ok (a n hn (Nat.le_refl _)))).symm
    have zero : n = 0 → bt s n = bt s 0:=fun e => by subst e; rfl
    have last : ¬ ((65 ≤ bt s n ∧ bt s n ≤ 90)) → Evt (fun k => if bt s n ≥ 48 then (if bt s n ≤ 57 then gridhallref4_Named.l0 k s (s.size : Int) ((n + 1 : Nat) : Int) else some false) else some false) (decide (∀ i, i < s.size → n ≤ i → okAt s i)):=fun ne =>
      Evt.ite (fun h4 => Evt.ite (fun h5 => Evt.cast ih (fine (Or.inr ⟨by rcases Nat.eq_zero_or_pos n with e|e; have:=zero e; omega; exact e, by omega, by omega⟩))) (fun h5 => Evt.of_eq (bad (by unfold okAt; omega)))) (fun h4 => Evt.of_eq (bad (by unfold okAt; omega)))
    refine Evt.ite (fun h1 => Evt.ite (fun h2 => Evt.cast ih (fine (Or.inl ⟨by omega, h2⟩))) (fun h2 => last (by omega))) (fun h1 => last (by omega))
theorem refn_ev (s : ByteArray) : Evt (fun k => gridhallref4_Named.f k s) (decide (isName s)) := by
  have j0t : ¬ isName s → Evt (fun k => gridhallref4_Named.j0 k s true) (decide (isName s)):=by
    intro h
    refine Evt.succ ?_
    simp only [gridhallref4_Named.j0]
    exact Evt.ite_pos (by simp) (Evt.of_eq (decide_eq_false h).symm)
  simp only [gridhallref4_Named.f]
  by_cases h0 : s.size = 0
  · exact Evt.ite_pos (by omega) (j0t (fun h => by have:=h.1; omega))
  by_cases h8 : s.size ≤ 8
  · refine Evt.ite_neg (by omega) (Evt.ite_neg (by omega) (Evt.ite_pos (by omega) ?_))
    have no : ¬ (65 ≤ bt s 0 ∧ bt s 0 ≤ 90) → ¬ isName s:=fun a h => by
      have:=h.2.2 0 (by omega)
      unfold okAt at this
      simp at this
      exact a this
    refine Evt.ite (fun h1 => ?_) (fun h1 => ?_)
    · by_cases h2 : bt s 0 ≤ 90
      · rw [decide_eq_true h2]
        refine Evt.succ ?_
        simp only [gridhallref4_Named.j0]
        refine Evt.ite_neg (by simp) (Evt.cast (refn_l0 s h8 (by omega) (by omega) 0 (by omega)) ?_)
        unfold isName
        exact decide_eq_decide.2 ⟨fun a => ⟨by omega, h8, fun i b => a i b (by omega)⟩, fun a i b _ => a.2.2 i b⟩
      · rw [decide_eq_false h2]
        exact j0t (no (by omega))
    · exact j0t (no (by omega))
  · exact Evt.ite_neg (by omega) (Evt.ite_pos (by omega) (j0t (fun h => h8 h.2.1)))
theorem in_eq (a b c : Int) : gridhallref4_In.f a b c = some (decide (b ≤ a ∧ a ≤ c)) := by
  unfold gridhallref4_In.f
  by_cases h : a ≥ b
  · rw [if_pos h]
    congr 1
    exact decide_eq_decide.2 (by omega)
  · rw [if_neg h, decide_eq_false (by omega)]
abbrev Vb := S32
def vtab : List Vb := [(⟨(⟨#[97, 99, 107]⟩ : ByteArray), true, false, 0, 0⟩ : Vb), ⟨(⟨#[99, 108, 111, 115, 101]⟩ : ByteArray), true, false, 0, 0⟩, ⟨(⟨#[103, 101, 110]⟩ : ByteArray), true, true, 0, 100000⟩, ⟨(⟨#[108, 111, 97, 100]⟩ : ByteArray), true, true, 0, 100000⟩, ⟨(⟨#[111, 112, 101, 110]⟩ : ByteArray), true, false, 0, 0⟩, ⟨(⟨#[115, 116, 111, 114, 101]⟩ : ByteArray), true, true, (-100000), 100000⟩, ⟨(⟨#[116, 101, 108, 108]⟩ : ByteArray), false, false, 0, 0⟩, ⟨(⟨#[119, 97, 105, 116]⟩ : ByteArray), false, true, 0, 3600⟩]
def vb (n : Nat) : Vb := vtab.getD n z32
def place (s : ByteArray) : Nat → Nat → Int
 |0, _ => -1
 |d + 1, n => if (vb n).f0.toList = s.toList then (n : Int) else place s d (n + 1)
theorem vlen : vtab.length = 8 := rfl
theorem rvb (n : Nat) : rd_T32 vtab (n : Int) = vb n := Eq.trans rfl rfl
theorem fidx_l0 (s : ByteArray) : ∀ n : Nat, n ≤ 8 → Evt (fun k => slices_IndexFunc_of_find_1.l0 k vtab ((8 : Nat) : Int) (n : Int) [s]) (place s (8 - n) n) := by
  refine down ?_ ?_
  · refine Evt.succ ?_
    simp only [slices_IndexFunc_of_find_1.l0, Nat.sub_self, place]
    exact Evt.ite_neg (by omega) (Evt.pure _)
  · intro n hn ih
    obtain ⟨d, hd⟩ : ∃ d, 8 - n = d + 1:=⟨8 - n - 1, by omega⟩
    rw [show 8 - (n + 1) = d by omega] at ih
    rw [hd]
    refine Evt.succ ?_
    simp only [slices_IndexFunc_of_find_1.l0, place, vlen, rvb]
    rw [wrap64_nat (by omega)]
    refine Evt.ite_pos (by omega) (Evt.ite_pos (by omega) (Evt.ite_pos (by omega) ?_))
    by_cases h : (vb n).f0.toList = s.toList
    · rw [if_pos h]
      refine Evt.bindo (a:=true) ?_ (Evt.ite_pos rfl (Evt.pure _))
      simp only [console_find_1.f]
      rw [if_pos (by simp)]
      congr 1
      exact beq_iff_eq.2 h
    · rw [if_neg h]
      refine Evt.bindo (a:=false) ?_ (Evt.ite_neg (by simp) ih)
      simp only [console_find_1.f]
      rw [if_pos (by simp)]
      congr 1
      exact beq_eq_false_iff_ne.2 h
theorem place_rng (s : ByteArray) : ∀ d n, place s d n = -1 ∨ ((n : Int) ≤ place s d n ∧ place s d n < ((n + d : Nat) : Int)) := by
  intro d
  induction d with
 |zero => intro n; exact Or.inl rfl
 |succ d ih =>
    intro n
    simp only [place]
    split
    · exact Or.inr ⟨by omega, by omega⟩
    · rcases ih (n + 1) with h|⟨h1, h2⟩
      · exact Or.inl h
      · exact Or.inr ⟨by omega, by omega⟩
def out (s : ByteArray) : ByteArray × Bool × Bool × Int × Int × Bool :=
  if place s 8 0 < 0 then ((⟨#[]⟩ : ByteArray), false, false, 0, 0, false) else ((vb (place s 8 0).toNat).f0, (vb (place s 8 0).toNat).f1, (vb (place s 8 0).toNat).f2, (vb (place s 8 0).toNat).f3, (vb (place s 8 0).toNat).f4, true)
theorem find_ev (s : ByteArray) : Evt (fun k => console_find.f k s) (out s) := by
  simp only [console_find.f, console_verbs.f, slices_IndexFunc_of_find_1.f]
  refine Evt.bindo (a:=vtab) rfl (Evt.bind (fidx_l0 s 0 (by omega)) ?_)
  by_cases h : place s 8 0 < 0
  · have e : out s = ((⟨#[]⟩ : ByteArray), false, false, 0, 0, false):=if_pos h
    rw [e]
    exact Evt.ite_pos h (Evt.pure _)
  · have e : out s = ((vb (place s 8 0).toNat).f0, (vb (place s 8 0).toNat).f1, (vb (place s 8 0).toNat).f2, (vb (place s 8 0).toNat).f3, (vb (place s 8 0).toNat).f4, true):=if_neg h
    rw [e]
    rcases place_rng s 8 0 with g|⟨g1, g2⟩
    · omega
    · obtain ⟨m, hm⟩ : ∃ m : Nat, place s 8 0 = (m : Int):=⟨(place s 8 0).toNat, by omega⟩
      refine Evt.ite_neg h (Evt.ite_pos (by omega) (Evt.ite_pos (show place s (8 - 0) 0 < (vtab.length : Int) from ?_) (Evt.of_eq ?_)))
      · rw [vlen]
        exact g2
      · show ((rd_T32 vtab (place s 8 0)).f0, (rd_T32 vtab (place s 8 0)).f1, (rd_T32 vtab (place s 8 0)).f2, (rd_T32 vtab (place s 8 0)).f3, (rd_T32 vtab (place s 8 0)).f4, true) = _
        rw [hm, rvb]
        rfl
theorem tl0 : (vb 0).f0.toList = [97, 99, 107] := by decide +kernel
theorem tl1 : (vb 1).f0.toList = [99, 108, 111, 115, 101] := by decide +kernel
theorem tl2 : (vb 2).f0.toList = [103, 101, 110] := by decide +kernel
theorem tl3 : (vb 3).f0.toList = [108, 111, 97, 100] := by decide +kernel
theorem tl4 : (vb 4).f0.toList = [111, 112, 101, 110] := by decide +kernel
theorem tl5 : (vb 5).f0.toList = [115, 116, 111, 114, 101] := by decide +kernel
theorem tl6 : (vb 6).f0.toList = [116, 101, 108, 108] := by decide +kernel
theorem tl7 : (vb 7).f0.toList = [119, 97, 105, 116] := by decide +kernel
theorem place_eq (s : ByteArray) : place s 8 0 = if [97, 99, 107] = s.toList then 0 else if [99, 108, 111, 115, 101] = s.toList then 1 else if [103, 101, 110] = s.toList then 2 else if [108, 111, 97, 100] = s.toList then 3 else if [111, 112, 101, 110] = s.toList then 4 else if [115, 116, 111, 114, 101] = s.toList then 5 else if [116, 101, 108, 108] = s.toList then 6 else if [119, 97, 105, 116] = s.toList then 7 else -1 := by
  simp only [place, Nat.zero_add, tl0, tl1, tl2, tl3, tl4, tl5, tl6, tl7, Nat.reduceAdd]
  rfl
def chk (nd nm : Bool) (lo hi : Int) (s : ByteArray) (n : Int) : Int :=
  if nd = true ∧ ¬ isName s then 6 else if (nd = false ∧ ¬ s.toList = []) ∨ (nm = false ∧ n ≠ 0) then 3 else if n < lo then 4 else if n > hi then 4 else 0
theorem chk_j1 (c : Bool) (v s : ByteArray) (n : Int) (x : ByteArray) (nd nm : Bool) (lo hi : Int) : Evt (fun k => console_Check.j1 k c v s n x nd nm lo hi) (if c = true then 3 else if n < lo then 4 else if n > hi then 4 else 0) := by
  refine Evt.succ ?_
  simp only [console_Check.j1]
  by_cases h : c = true
  · exact Evt.cast (Evt.ite_pos h (Evt.pure _)) (if_pos h).symm
  · refine Evt.cast (Evt.ite_neg h (r:=if n < lo then 4 else if n > hi then 4 else 0) ?_) (if_neg h).symm
    by_cases h1 : n < lo
    · exact Evt.cast (Evt.ite_pos h1 (Evt.pure _)) (if_pos h1).symm
    · refine Evt.cast (Evt.ite_neg h1 (r:=if n > hi then 4 else 0) ?_) (if_neg h1).symm
      by_cases h2 : n > hi
      · exact Evt.cast (Evt.ite_pos h2 (Evt.pure _)) (if_pos h2).symm
      · exact Evt.cast (Evt.ite_neg h2 (Evt.pure _)) (if_neg h2).symm
theorem chk_j0 (v s : ByteArray) (n : Int) (x : ByteArray) (nd nm : Bool) (lo hi : Int) (hn : nd = true → isName s) : Evt (fun k => console_Check.j0 k false v s n x nd nm lo hi) (chk nd nm lo hi s n) := by
  have e : chk nd nm lo hi s n = if decide ((nd = false ∧ ¬ s.toList = []) ∨ (nm = false ∧ n ≠ 0)) = true then 3 else if n < lo then 4 else if n > hi then 4 else 0:=by
    unfold chk
    rw [if_neg (fun h => h.2 (hn h.1))]
    simp only [decide_eq_true_eq]
  rw [e]
  have J : ∀ c : Bool, c = decide ((nd = false ∧ ¬ s.toList = []) ∨ (nm = false ∧ n ≠ 0)) → Evt (fun k => console_Check.j1 k c v s n x nd nm lo hi) (if decide ((nd = false ∧ ¬ s.toList = []) ∨ (nm = false ∧ n ≠ 0)) = true then 3 else if n < lo then 4 else if n > hi then 4 else 0):=fun c hc => by
    rw [← hc]
    exact chk_j1 c v s n x nd nm lo hi
  refine Evt.succ ?_
  simp only [console_Check.j0]
  refine Evt.ite_neg (by simp) ?_
  have two : (nd = true ∨ s.toList = []) → Evt (fun k => if nm = true then console_Check.j1 k false v s n x nd nm lo hi else console_Check.j1 k (n != 0) v s n x nd nm lo hi) (if decide ((nd = false ∧ ¬ s.toList = []) ∨ (nm = false ∧ n ≠ 0)) = true then 3 else if n < lo then 4 else if n > hi then 4 else 0):=by
    intro hh
    by_cases hm : nm = true
    · refine Evt.ite_pos hm (J _ ?_)
      rcases hh with hh|hh <;> simp [hm, hh]
    · have hm' : nm = false:=by simpa using hm
      refine Evt.ite_neg hm (J _ ?_)
      by_cases h0 : n = 0 <;> rcases hh with hh|hh <;> simp [hm', hh, h0]
  by_cases hd : nd = true
  · exact Evt.ite_pos hd (two (Or.inl hd))
  · have hd' : nd = false:=by simpa using hd
    refine Evt.ite_neg hd ?_
    by_cases hs : s.toList = []
    · exact Evt.ite_pos hs (two (Or.inr hs))
    · exact Evt.ite_neg hs (J _ (by simp [hd', hs]))
theorem check_ev (v s : ByteArray) (n : Int) (hs : s.size ≤ 9223372036854775806) : Evt (fun k => console_Check.f k v s n) (if place v 8 0 < 0 then 5 else chk (vb (place v 8 0).toNat).f1 (vb (place v 8 0).toNat).f2 (vb (place v 8 0).toNat).f3 (vb (place v 8 0).toNat).f4 s n) := by
  simp only [console_Check.f]
  refine Evt.bind (find_ev v) ?_
  unfold out
  by_cases h : place v 8 0 < 0
  · rw [if_pos h, if_pos h]
    exact Evt.ite_neg (by simp) (Evt.pure _)
  · rw [if_neg h, if_neg h]
    refine Evt.ite_pos rfl ?_
    generalize vb (place v 8 0).toNat = w
    by_cases hd : w.f1 = true
    · refine Evt.ite_pos hd (Evt.bind (named_ev s hs) ?_)
      by_cases hn : isName s
      · rw [decide_eq_true hn]
        exact chk_j0 v s n _ _ _ _ _ (fun _ => hn)
      · rw [decide_eq_false hn]
        have e : chk w.f1 w.f2 w.f3 w.f4 s n = 6:=by unfold chk; rw [if_pos ⟨hd, hn⟩]
        rw [e]
        refine Evt.succ ?_
        simp only [console_Check.j0]
        exact Evt.ite_pos rfl (Evt.pure _)
    · exact Evt.ite_neg hd (chk_j0 v s n _ _ _ _ _ (fun a => absurd a hd))
theorem law_j5 (v s : ByteArray) (n : Int) (nd nm : Bool) (lo hi : Int) (hc : Evt (fun k => console_Check.f k v s n) (chk nd nm lo hi s n)) (hn : nd = true → isName s) (c : Bool) (hb : c = decide ((nd = false ∧ ¬ s.toList = []) ∨ (nm = false ∧ n ≠ 0))) : Evt (fun k => gridhalllaw4_ConsoleSays.j5 k lo hi 0 c v s n) true := by
  have e : chk nd nm lo hi s n = if c = true then 3 else if n < lo then 4 else if n > hi then 4 else 0:=by
    unfold chk
    rw [if_neg (fun h => h.2 (hn h.1)), hb]
    simp only [decide_eq_true_eq]
  refine Evt.succ ?_
  simp only [gridhalllaw4_ConsoleSays.j5]
  by_cases h : c = true
  · rw [if_pos h] at e
    rw [e] at hc
    exact Evt.ite_pos h (Evt.bind hc (Evt.of_eq rfl))
  · rw [if_neg h] at e
    rw [e] at hc
    refine Evt.ite_neg h (Evt.bindo (in_eq _ _ _) ?_)
    by_cases g : lo ≤ n ∧ n ≤ hi
    · rw [if_neg (by omega), if_neg (by omega)] at hc
      exact Evt.ite_pos (decide_eq_true g) (Evt.bind hc (Evt.of_eq rfl))
    · have e4 : (if n < lo then (4 : Int) else if n > hi then 4 else 0) = 4:=by
        by_cases q : n < lo
        · rw [if_pos q]
        · rw [if_neg q, if_pos (by omega)]
      rw [e4] at hc
      exact Evt.ite_neg (by rw [decide_eq_false g]; simp) (Evt.bind hc (Evt.of_eq rfl))
theorem law_j4 (v s : ByteArray) (n : Int) (nd nm : Bool) (lo hi : Int) (hm : nm = false ↔ hi = 0) (hc : Evt (fun k => console_Check.f k v s n) (chk nd nm lo hi s n)) (hn : nd = true → isName s) : Evt (fun k => gridhalllaw4_ConsoleSays.j4 k nd lo hi 0 false v s n) true := by
  have J:=law_j5 v s n nd nm lo hi hc hn
  refine Evt.succ ?_
  simp only [gridhalllaw4_ConsoleSays.j4]
  refine Evt.ite_neg (by simp) ?_
  by_cases hd : nd = true
  · refine Evt.ite_pos hd ?_
    by_cases h : hi = 0
    · exact Evt.ite_pos h (J _ (by simp [hd, hm.2 h]; rfl))
    · exact Evt.ite_neg h (J _ (by have : nm = true:=by cases nm with|true => rfl|false => exact absurd (hm.1 rfl) h
                                   simp [hd, this]))
  · have hd' : nd = false:=by simpa using hd
    refine Evt.ite_neg hd ?_
    by_cases hs : s.toList = []
    · refine Evt.ite_pos hs ?_
      by_cases h : hi = 0
      · exact Evt.ite_pos h (J _ (by simp [hd', hm.2 h, hs]; rfl))
      · exact Evt.ite_neg h (J _ (by have : nm = true:=by cases nm with|true => rfl|false => exact absurd (hm.1 rfl) h
                                     simp [hd', this, hs]))
    · exact Evt.ite_neg hs (J _ (by simp [hd', hs]))
theorem law_j3 (v s : ByteArray) (n : Int) (nd nm : Bool) (lo hi : Int) (hm : nm = false ↔ hi = 0) (hc : Evt (fun k => console_Check.f k v s n) (chk nd nm lo hi s n)) : Evt (fun k => gridhalllaw4_ConsoleSays.j3 k nd lo hi 0 v s n) true := by
  refine Evt.succ ?_
  simp only [gridhalllaw4_ConsoleSays.j3]
  by_cases hd : nd = true
  · refine Evt.ite_pos hd (Evt.bind (refn_ev s) ?_)
    by_cases h : isName s
    · rw [decide_eq_true h]
      exact law_j4 v s n nd nm lo hi hm hc (fun _ => h)
    · rw [decide_eq_false h]
      have e : chk nd nm lo hi s n = 6:=by unfold chk; rw [if_pos ⟨hd, h⟩]
      rw [e] at hc
      refine Evt.succ ?_
      simp only [gridhalllaw4_ConsoleSays.j4]
      exact Evt.ite_pos rfl (Evt.bind hc (Evt.of_eq rfl))
  · exact Evt.ite_neg hd (law_j4 v s n nd nm lo hi hm hc (fun a => absurd a hd))
theorem v0 : (vb 0).f1 = true ∧ (vb 0).f2 = false ∧ (vb 0).f3 = 0 ∧ (vb 0).f4 = 0 := ⟨rfl, rfl, rfl, rfl⟩
theorem law_j0 (v s : ByteArray) (n : Int) (hs : s.size ≤ 9223372036854775806) : Evt (fun k => gridhalllaw4_ConsoleSays.j0 k false v s n) true := by
  have C:=check_ev v s n hs
  have pe:=place_eq v
  have T : ∀ m : Nat, place v 8 0 = (m : Int) → Evt (fun k => console_Check.f k v s n) (chk (vb m).f1 (vb m).f2 (vb m).f3 (vb m).f4 s n):=by
    intro m h
    rw [h] at C
    rw [if_neg (by omega)] at C
    exact C
  have j1t : ∀ x (c : Bool), c = true → Evt (fun k => console_Check.f k v s n) (chk true false 0 0 s n) → Evt (fun k => gridhalllaw4_ConsoleSays.j1 k true 0 0 0 x c v s n) true:=by
    intro x c hc h
    refine Evt.succ ?_
    simp only [gridhalllaw4_ConsoleSays.j1]
    exact Evt.ite_pos hc (law_j3 v s n true false 0 0 (by simp) h)
  have j2t : ∀ x (c : Bool), c = true → Evt (fun k => console_Check.f k v s n) (chk true true 0 100000 s n) → Evt (fun k => gridhalllaw4_ConsoleSays.j2 k true 0 0 0 x c v s n) true:=by
    intro x c hc h
    refine Evt.succ ?_
    simp only [gridhalllaw4_ConsoleSays.j2]
    exact Evt.ite_pos hc (law_j3 v s n true true 0 100000 (by simp) h)
  refine Evt.succ ?_
  simp only [gridhalllaw4_ConsoleSays.j0]
  refine Evt.ite_neg (by simp) ?_
  by_cases h4 : v.toList = ([111, 112, 101, 110] : List UInt8)
  · rw [h4] at pe
    exact Evt.ite_pos h4 (j1t _ _ (beq_iff_eq.2 h4) (T 4 (by rw [pe]; decide)))
  refine Evt.ite_neg h4 ?_
  by_cases h1 : v.toList = ([99, 108, 111, 115, 101] : List UInt8)
  · rw [h1] at pe
    exact Evt.ite_pos h1 (j1t _ _ (beq_iff_eq.2 h1) (T 1 (by rw [pe]; decide)))
  refine Evt.ite_neg h1 ?_
  by_cases h0 : v.toList = ([97, 99, 107] : List UInt8)
  · rw [h0] at pe
    exact j1t _ _ (beq_iff_eq.2 h0) (T 0 (by rw [pe]; decide))
  refine Evt.succ ?_
  simp only [gridhalllaw4_ConsoleSays.j1]
  refine Evt.ite_neg (by simpa using h0) ?_
  by_cases h3 : v.toList = ([108, 111, 97, 100] : List UInt8)
  · rw [h3] at pe
    exact Evt.ite_pos h3 (j2t _ _ (beq_iff_eq.2 h3) (T 3 (by rw [pe]; decide)))
  refine Evt.ite_neg h3 ?_
  by_cases h2 : v.toList = ([103, 101, 110] : List UInt8)
  · rw [h2] at pe
    exact j2t _ _ (beq_iff_eq.2 h2) (T 2 (by rw [pe]; decide))
  refine Evt.succ ?_
  simp only [gridhalllaw4_ConsoleSays.j2]
  refine Evt.ite_neg (by simpa using h2) ?_
  by_cases h5 : v.toList = ([115, 116, 111, 114, 101] : List UInt8)
  · rw [h5] at pe
    exact Evt.ite_pos h5 (law_j3 v s n true true (-100000) 100000 (by simp) (T 5 (by rw [pe]; decide)))
  refine Evt.ite_neg h5 ?_
  by_cases h7 : v.toList = ([119, 97, 105, 116] : List UInt8)
  · rw [h7] at pe
    exact Evt.ite_pos h7 (law_j3 v s n false true 0 3600 (by simp) (T 7 (by rw [pe]; decide)))
  refine Evt.ite_neg h7 ?_
  by_cases h6 : v.toList = ([116, 101, 108, 108] : List UInt8)
  · rw [h6] at pe
    exact Evt.ite_pos h6 (law_j3 v s n false false 0 0 (by simp) (T 6 (by rw [pe]; decide)))
  refine Evt.ite_neg h6 ?_
  have e : place v 8 0 = -1:=by
    rw [pe]
    rw [if_neg (fun g => h0 g.symm), if_neg (fun g => h1 g.symm), if_neg (fun g => h2 g.symm), if_neg (fun g => h3 g.symm), if_neg (fun g => h4 g.symm), if_neg (fun g => h5 g.symm), if_neg (fun g => h6 g.symm), if_neg (fun g => h7 g.symm)]
  rw [e] at C
  exact Evt.bind C (Evt.of_eq rfl)
theorem Evt.of_mono {α : Type} {g : Nat → Option α} (hm : ∀ k r, g k = some r → g (k + 1) = some r) {K : Nat} {r : α} (h : g K = some r) : Evt g r := by
  refine ⟨K, fun k hk => ?_⟩
  obtain ⟨d, rfl⟩ : ∃ d, k = K + d:=⟨k - K, by omega⟩
  induction d with
 |zero => exact h
 |succ d ih => exact hm _ _ (ih (by omega))
theorem print_ev : Evt (fun k => console_Print.f k (⟨#[108, 111, 97, 100]⟩ : ByteArray) (⟨#[76, 49]⟩ : ByteArray) 20) ((⟨#[108, 111, 97, 100, 32, 76, 49, 32, 50, 48]⟩ : ByteArray), 0) := Evt.of_mono (fun k r h => console_Print.mono _ _ _ k r h) (K := 60) (by decide +kernel)
theorem law_f (v s : ByteArray) (n : Int) (hs : s.size ≤ 9223372036854775806) : Evt (fun k => gridhalllaw4_ConsoleSays.f k v s n) true := by
  simp only [gridhalllaw4_ConsoleSays.f]
  refine Evt.bind print_ev (Evt.ite_pos rfl ?_)
  have e : ((⟨#[108, 111, 97, 100, 32, 76, 49, 32, 50, 48]⟩ : ByteArray).toList != ([108, 111, 97, 100, 32, 76, 49, 32, 50, 48] : List UInt8)) = false:=by decide +kernel
  rw [e]
  exact law_j0 v s n hs
end Go.Proofs.YtdphghdjljplpaaDoor.BConsoleSays
