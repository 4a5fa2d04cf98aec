import Derived.Test.YtekpnmeikibioaaEvs
import Derived.Test.YtekpnmeikibioaaHHoursChangesy1
import Derived.Test.YtekpnmeikibioaaHHoursChangesy2
import Derived.Test.YtekpnmeikibioaaHHoursChangesy3
import Derived.Test.YtekpnmeikibioaaHHoursChangesy4
import Derived.Test.YtekpnmeikibioaaHHoursChangesy5
namespace Go.Proofs.Ytekpnmeikibioaa.BHoursChanges
open Go.RowKit Go.Proofs.YtekpnmeikibioaaW.PrintWords Go.Proofs.YtekpnmeikibioaaW.PrintMore Go.Proofs.Ytekpnmeikibioaa.Evs Go.Proofs.Ytekpnmeikibioaa.PHoursChanges
set_option linter.unusedVariables false
set_option linter.unusedSectionVars false
set_option linter.unusedSimpArgs false
theorem bt_bd (s : ByteArray) (i : Int) : 0 ≤ bt s i ∧ bt s i ≤ 255 := by
  unfold bt
  split
  · rename_i h
    have:=(s[i.toNat]'h).toNat_lt
    omega
  · omega
def okc (c : Int) : Bool := decide ((65 ≤ c ∧ c ≤ 90) ∨ (48 ≤ c ∧ c ≤ 57))
theorem okc_t {c : Int} (h : (65 ≤ c ∧ c ≤ 90) ∨ (48 ≤ c ∧ c ≤ 57)) : okc c = true := decide_eq_true h
theorem okc_f {c : Int} (h : ¬ ((65 ≤ c ∧ c ≤ 90) ∨ (48 ≤ c ∧ c ≤ 57))) : okc c = false := decide_eq_false h
def allC (s : ByteArray) : Nat → Nat → Bool
 |0, _ => true
 |d + 1, n => okc (bt s n) && allC s d (n + 1)
def nameB (s : ByteArray) : Bool := decide (1 ≤ s.size ∧ s.size ≤ 8 ∧ ¬ (48 ≤ bt s 0 ∧ bt s 0 ≤ 57)) && allC s s.size 0
theorem offer_named_l0 (s : ByteArray) (hs : s.size ≤ 8) : ∀ n, n ≤ s.size → Evt (fun k => offer_named.l0 k s (s.size : Int) (n : Int)) (allC s (s.size - n) n) := by
  refine down ?_ ?_
  · refine Evt.succ ?_
    simp only [offer_named.l0, Nat.sub_self, allC]
    exact Evt.ite_neg (by omega) (Evt.pure _)
  · intro n hn ih
    refine Evt.succ ?_
    obtain ⟨d, hd⟩ : ∃ d, s.size - n = d + 1:=⟨s.size - n - 1, by omega⟩
    have hd' : s.size - (n + 1) = d:=by omega
    rw [hd'] at ih
    rw [hd]
    simp only [offer_named.l0, allC]
    refine Evt.ite_pos (by omega) (Evt.ite_pos (by omega) (Evt.ite_pos (by omega) ?_))
    rw [wrap64_nat (by omega)]
    have bad : ¬ ((65 ≤ bt s n ∧ bt s n ≤ 90) ∨ (48 ≤ bt s n ∧ bt s n ≤ 57)) → false = (okc (bt s n) && allC s d (n + 1)):=fun h => by rw [okc_f h]; rfl
    have fine : ((65 ≤ bt s n ∧ bt s n ≤ 90) ∨ (48 ≤ bt s n ∧ bt s n ≤ 57)) → allC s d (n + 1) = (okc (bt s n) && allC s d (n + 1)):=fun h => by rw [okc_t h, Bool.true_and]
    refine Evt.ite (fun h1 => Evt.ite (fun h2 => Evt.of_eq (bad (by omega))) (fun h2 => Evt.ite (fun h3 => Evt.of_eq (bad (by omega))) (fun h3 => Evt.cast ih (fine (by omega)))))
      (fun h1 => Evt.ite (fun h2 => Evt.ite (fun h3 => Evt.of_eq (bad (by omega))) (fun h3 => Evt.ite (fun h4 => Evt.of_eq (bad (by omega))) (fun h4 => Evt.cast ih (fine (by omega))))) (fun h2 => Evt.cast ih (fine (by omega))))
theorem offer_named_ev (s : ByteArray) : Evt (fun k => offer_named.f k s) (nameB s) := by
  simp only [offer_named.f]
  have j0t : ∀ b, b = true → nameB s = false → Evt (fun k => offer_named.j0 k s b) (nameB s):=by
    intro b hb hn
    subst hb
    refine Evt.succ ?_
    simp only [offer_named.j0]
    exact Evt.ite_pos (by simp) (Evt.of_eq hn.symm)
  by_cases h0 : s.size = 0
  · refine Evt.ite_pos ((toList_nil s).2 h0) (j0t _ rfl ?_)
    unfold nameB
    rw [decide_eq_false (by omega)]
    rfl
  · refine Evt.ite_neg (fun h => h0 ((toList_nil s).1 h)) ?_
    by_cases h8 : s.size ≤ 8
    · refine Evt.ite_neg (by omega) (Evt.ite_pos (by omega) ?_)
      have go : ∀ b, b = decide (48 ≤ bt s 0 ∧ bt s 0 ≤ 57) → Evt (fun k => offer_named.j0 k s b) (nameB s):=by
        intro b hb
        by_cases hc : 48 ≤ bt s 0 ∧ bt s 0 ≤ 57
        · refine j0t b (by rw [hb]; exact decide_eq_true hc) ?_
          unfold nameB
          rw [decide_eq_false (by omega)]
          rfl
        · rw [decide_eq_false hc] at hb
          subst hb
          refine Evt.succ ?_
          simp only [offer_named.j0]
          refine Evt.ite_neg (by simp) ?_
          have:=offer_named_l0 s h8 0 (by omega)
          refine Evt.cast this ?_
          unfold nameB
          rw [decide_eq_true (by omega)]
          rfl
      refine Evt.ite (fun h => go _ ?_) (fun h => go _ ?_)
      · exact decide_eq_decide.2 (by omega)
      · exact (decide_eq_false (by omega)).symm
    · refine Evt.ite_pos (by omega) (j0t _ rfl ?_)
      unfold nameB
      rw [decide_eq_false (by omega)]
      rfl
theorem in_eq (a b c : Int) : gridhallref3_In.f a b c = some (decide (b ≤ a ∧ a ≤ c)) := by
  unfold gridhallref3_In.f
  by_cases h : a ≥ b
  · rw [if_pos h]
    congr 1
    exact decide_eq_decide.2 (by omega)
  · rw [if_neg h, decide_eq_false (by omega)]
theorem ref_Named_l0 (s : ByteArray) (hs : s.size ≤ 8) : ∀ n, n ≤ s.size → Evt (fun k => gridhallref3_Named.l0 k s (s.size : Int) (n : Int)) (allC s (s.size - n) n) := by
  refine down ?_ ?_
  · refine Evt.succ ?_
    simp only [gridhallref3_Named.l0, Nat.sub_self, allC]
    exact Evt.ite_neg (by omega) (Evt.pure _)
  · intro n hn ih
    refine Evt.succ ?_
    obtain ⟨d, hd⟩ : ∃ d, s.size - n = d + 1:=⟨s.size - n - 1, by omega⟩
    have hd' : s.size - (n + 1) = d:=by omega
    rw [hd'] at ih
    rw [hd]
    simp only [gridhallref3_Named.l0, allC]
    refine Evt.ite_pos (by omega) (Evt.ite_pos (by omega) (Evt.ite_pos (by omega) ?_))
    have hb:=bt_bd s n
    rw [wrap64_nat (by omega), wrap64_of (x:=bt s n) (by omega) (by omega)]
    simp only [in_eq, Option.bind_some]
    have bad : ¬ ((65 ≤ bt s n ∧ bt s n ≤ 90) ∨ (48 ≤ bt s n ∧ bt s n ≤ 57)) → false = (okc (bt s n) && allC s d (n + 1)):=fun h => by rw [okc_f h]; rfl
    have fine : ((65 ≤ bt s n ∧ bt s n ≤ 90) ∨ (48 ≤ bt s n ∧ bt s n ≤ 57)) → allC s d (n + 1) = (okc (bt s n) && allC s d (n + 1)):=fun h => by rw [okc_t h, Bool.true_and]
    refine Evt.ite (fun h1 => Evt.cast ih (fine (by simp at h1; omega))) (fun h1 => Evt.ite (fun h2 => Evt.cast ih (fine (by simp at h2; omega))) (fun h2 => Evt.of_eq (bad (by simp at h1 h2; omega))))
theorem ref_Named_ev (s : ByteArray) : Evt (fun k => gridhallref3_Named.f k s) (nameB s) := by
  simp only [gridhallref3_Named.f]
  have j0t : ∀ b, b = true → nameB s = false → Evt (fun k => gridhallref3_Named.j0 k s b) (nameB s):=by
    intro b hb hn
    subst hb
    refine Evt.succ ?_
    simp only [gridhallref3_Named.j0]
    exact Evt.ite_pos (by simp) (Evt.of_eq hn.symm)
  by_cases h0 : s.size = 0
  · refine Evt.ite_pos (by omega) (j0t _ rfl ?_)
    unfold nameB
    rw [decide_eq_false (by omega)]
    rfl
  · refine Evt.ite_neg (by omega) ?_
    by_cases h8 : s.size ≤ 8
    · refine Evt.ite_neg (by omega) (Evt.ite_pos (by omega) ?_)
      have hb:=bt_bd s 0
      rw [wrap64_of (x:=bt s 0) (by omega) (by omega)]
      simp only [in_eq, Option.bind_some]
      by_cases hc : 48 ≤ bt s 0 ∧ bt s 0 ≤ 57
      · refine j0t _ (decide_eq_true hc) ?_
        unfold nameB
        rw [decide_eq_false (by omega)]
        rfl
      · rw [decide_eq_false hc]
        refine Evt.succ ?_
        simp only [gridhallref3_Named.j0]
        refine Evt.ite_neg (by simp) ?_
        refine Evt.cast (ref_Named_l0 s h8 0 (by omega)) ?_
        unfold nameB
        rw [decide_eq_true (by omega)]
        rfl
    · refine Evt.ite_pos (by omega) (j0t _ rfl ?_)
      unfold nameB
      rw [decide_eq_false (by omega)]
      rfl
abbrev St := S41
abbrev zSt : St := z41
def pw (l : List St) (n : Nat) : Int := (l.getD n zSt).f0
def pr (l : List St) (n : Nat) : Int := (l.getD n zSt).f1
theorem rd0 (l : List St) (n : Nat) : (rd_T41 l (n : Int)).f0 = pw l n := Eq.trans rfl rfl
theorem rd1 (l : List St) (n : Nat) : (rd_T41 l (n : Int)).f1 = pr l n := Eq.trans rfl rfl
def tot (l : List St) : Nat → Int
 |0 => 0
 |n + 1 => tot l n + pw l n
def stepErr (l : List St) : Nat → Nat → Int
 |0, _ => 0
 |d + 1, n => if ¬ (1 ≤ pw l n ∧ pw l n ≤ 100000 ∧ -1000000 ≤ pr l n ∧ pr l n ≤ 1000000) then 4 else if 0 < n ∧ pr l n < pr l (n - 1) then 3 else if tot l (n + 1) > 100000 then 2 else stepErr l d (n + 1)
def offErr (s : ByteArray) (l : List St) : Int := if nameB s = true then (if l.length > 12 then 2 else stepErr l l.length 0) else 6
theorem pred_cast {n : Nat} (h : 0 < n) (hb : n ≤ 9223372036854775807) : wrap64 ((n : Int) - 1) = ((n - 1 : Nat) : Int) := by
  unfold wrap64
  omega
def Pre (l : List St) (n : Nat) : Prop := (∀ m, m < n → 1 ≤ pw l m ∧ pw l m ≤ 100000) ∧ tot l n ≤ 100000
theorem tot_mono {l : List St} {n : Nat} (h : ∀ m, m < n → 1 ≤ pw l m) : ∀ m, m ≤ n → 0 ≤ tot l m ∧ tot l m ≤ tot l n := by
  induction n with
 |zero =>
    intro m hm
    have : m = 0:=by omega
    subst this
    simp [tot]
 |succ n ih =>
    intro m hm
    have h1:=ih (fun m hm => h m (by omega))
    have h2:=h n (by omega)
    simp only [tot]
    by_cases e : m = n + 1
    · subst e
      have:=h1 n (by omega)
      simp only [tot]
      omega
    · have:=h1 m (by omega)
      omega
theorem Pre.bd {l : List St} {n : Nat} (h : Pre l n) : ∀ m, m ≤ n → 0 ≤ tot l m ∧ tot l m ≤ 100000 := by
  intro m hm
  have:=tot_mono (fun m hm => (h.1 m hm).1) m hm
  have:=h.2
  omega
theorem Pre.mono {l : List St} {n m : Nat} (h : Pre l n) (hm : m ≤ n) : Pre l m := ⟨fun j hj => h.1 j (by omega), (h.bd m hm).2⟩
structure Val (l : List St) : Prop where
  len : l.length ≤ 12
  rng : ∀ n, n < l.length → 1 ≤ pw l n ∧ pw l n ≤ 100000 ∧ -1000000 ≤ pr l n ∧ pr l n ≤ 1000000
  srt : ∀ n, 0 < n → n < l.length → pr l (n - 1) ≤ pr l n
  all : tot l l.length ≤ 100000
theorem stepErr_val (l : List St) : ∀ d n, n + d = l.length → Pre l n → stepErr l d n = 0 →
    (∀ m, n ≤ m → m < l.length → 1 ≤ pw l m ∧ pw l m ≤ 100000 ∧ -1000000 ≤ pr l m ∧ pr l m ≤ 1000000) ∧ (∀ m, n ≤ m → 0 < m → m < l.length → pr l (m - 1) ≤ pr l m) ∧ tot l l.length ≤ 100000:=by
  intro d
  induction d with
 |zero =>
    intro n hn hp _
    exact ⟨fun m h1 h2 => by omega, fun m h1 _ h2 => by omega, by rw [← hn]; exact hp.2⟩
 |succ d ih =>
    intro n hn hp h
    simp only [stepErr] at h
    by_cases c1 : ¬ (1 ≤ pw l n ∧ pw l n ≤ 100000 ∧ -1000000 ≤ pr l n ∧ pr l n ≤ 1000000)
    · rw [if_pos c1] at h
      omega
    · rw [if_neg c1] at h
      by_cases c2 : 0 < n ∧ pr l n < pr l (n - 1)
      · rw [if_pos c2] at h
        omega
      · rw [if_neg c2] at h
        by_cases c3 : tot l (n + 1) > 100000
        · rw [if_pos c3] at h
          omega
        · rw [if_neg c3] at h
          have hp' : Pre l (n + 1):=by
            refine ⟨fun m hm => ?_, by omega⟩
            by_cases e : m = n
            · subst e
              omega
            · exact hp.1 m (by omega)
          obtain ⟨h1, h2, h3⟩:=ih (n + 1) (by omega) hp' h
          refine ⟨fun m hm hl => ?_, fun m hm h0 hl => ?_, h3⟩
          · by_cases e : m = n
            · subst e
              omega
            · exact h1 m (by omega) hl
          · by_cases e : m = n
            · subst e
              omega
            · exact h2 m (by omega) h0 hl
theorem pre0 (l : List St) : Pre l 0 := ⟨fun m hm => by omega, by simp [tot]⟩
theorem offErr_val {s : ByteArray} {l : List St} (h : offErr s l = 0) : nameB s = true ∧ Val l := by
  unfold offErr at h
  by_cases c1 : nameB s = true
  · rw [if_pos c1] at h
    by_cases c2 : l.length > 12
    · rw [if_pos c2] at h
      omega
    · rw [if_neg c2] at h
      obtain ⟨h1, h2, h3⟩:=stepErr_val l l.length 0 (by omega) (pre0 l) h
      exact ⟨c1, by omega, fun n hn => h1 n (by omega) hn, fun n h0 hn => h2 n (by omega) h0 hn, h3⟩
  · rw [if_neg c1] at h
    omega
theorem Val.pre {l : List St} (h : Val l) : Pre l l.length := ⟨fun m hm => ⟨(h.rng m hm).1, (h.rng m hm).2.1⟩, h.all⟩
theorem Val.bd {l : List St} (h : Val l) (m : Nat) (hm : m ≤ l.length) : 0 ≤ tot l m ∧ tot l m ≤ 100000 := h.pre.bd m hm
theorem Check_l0 (s : ByteArray) (l : List St) (hl : l.length ≤ 12) : ∀ n, n ≤ l.length → Pre l n → Evt (fun k => offer_Check.l0 k (tot l n) l (l.length : Int) (n : Int) s l) (stepErr l (l.length - n) n) := by
  refine down ?_ ?_
  · intro _
    refine Evt.succ ?_
    simp only [offer_Check.l0, Nat.sub_self, stepErr]
    exact Evt.ite_neg (by omega) (Evt.pure _)
  · intro n hn ih hp
    obtain ⟨d, hd⟩ : ∃ d, l.length - n = d + 1:=⟨l.length - n - 1, by omega⟩
    have hd' : l.length - (n + 1) = d:=by omega
    rw [hd'] at ih
    rw [hd]
    have hb:=hp.bd n (Nat.le_refl _)
    have j2 : (1 ≤ pw l n ∧ pw l n ≤ 100000 ∧ -1000000 ≤ pr l n ∧ pr l n ≤ 1000000) → ∀ b, b = decide (0 < n ∧ pr l n < pr l (n - 1)) → Evt (fun k => offer_Check.j2 k (tot l n) l (l.length : Int) (n : Int) b s l (pw l n) (pr l n)) (stepErr l (d + 1) n):=by
      intro hc b hb2
      refine Evt.succ ?_
      simp only [offer_Check.j2, stepErr]
      rw [if_neg (by omega), wrap64_of (x:=tot l n + pw l n) (by omega) (by omega), wrap64_nat (by omega)]
      subst hb2
      refine Evt.ite (fun h => ?_) (fun h => ?_)
      · rw [if_pos (of_decide_eq_true h)]
        exact Evt.pure _
      · rw [if_neg (fun h2 => h (decide_eq_true h2))]
        refine Evt.ite (fun h2 => ?_) (fun h2 => ?_)
        · rw [if_pos (show tot l (n + 1) > 100000 from h2)]
          exact Evt.pure _
        · have h3 : ¬ tot l (n + 1) > 100000:=h2
          rw [if_neg h3]
          refine ih ⟨fun m hm => ?_, by omega⟩
          by_cases e : m = n
          · subst e
            omega
          · exact hp.1 m (by omega)
    have j1t : ¬ (1 ≤ pw l n ∧ pw l n ≤ 100000 ∧ -1000000 ≤ pr l n ∧ pr l n ≤ 1000000) → ∀ b, b = true → Evt (fun k => offer_Check.j1 k (tot l n) (n : Int) l (l.length : Int) (n : Int) b s l (pw l n) (pr l n)) (stepErr l (d + 1) n):=by
      intro hc b hb2
      subst hb2
      refine Evt.succ ?_
      simp only [offer_Check.j1, stepErr]
      rw [if_pos hc]
      exact Evt.ite_pos (by simp) (Evt.pure _)
    have j1f : (1 ≤ pw l n ∧ pw l n ≤ 100000 ∧ -1000000 ≤ pr l n ∧ pr l n ≤ 1000000) → ∀ b, b = false → Evt (fun k => offer_Check.j1 k (tot l n) (n : Int) l (l.length : Int) (n : Int) b s l (pw l n) (pr l n)) (stepErr l (d + 1) n):=by
      intro hc b hb2
      subst hb2
      refine Evt.succ ?_
      simp only [offer_Check.j1]
      refine Evt.ite_neg (by simp) (Evt.ite (fun h => ?_) (fun h => ?_))
      · rw [pred_cast (by omega) (by omega)]
        refine Evt.ite_pos (by omega) (Evt.ite_pos (by omega) ?_)
        simp only [rd1]
        refine j2 hc _ (decide_eq_decide.2 ?_)
        omega
      · exact j2 hc _ (decide_eq_false (by omega)).symm
    refine Evt.succ ?_
    simp only [offer_Check.l0]
    refine Evt.ite_pos (by omega) (Evt.ite_pos (by omega) (Evt.ite_pos (by omega) ?_))
    simp only [rd0, rd1]
    refine Evt.ite (fun h => j1t (by omega) _ rfl) (fun h1 => Evt.ite (fun h => j1t (by omega) _ rfl) (fun h2 => Evt.ite (fun h => j1t (by omega) _ rfl) (fun h3 => ?_)))
    by_cases h4 : pr l n > 1000000
    · exact j1t (by omega) _ (decide_eq_true h4)
    · exact j1f (by omega) _ (decide_eq_false h4)
theorem Check_ev (s : ByteArray) (l : List St) : Evt (fun k => offer_Check.f k s l) (offErr s l) := by
  simp only [offer_Check.f]
  refine Evt.bind (offer_named_ev s) ?_
  unfold offErr
  by_cases h : nameB s = true
  · rw [if_pos h]
    refine Evt.ite_pos h ?_
    by_cases h2 : l.length > 12
    · rw [if_pos h2]
      exact Evt.ite_pos (by omega) (Evt.pure _)
    · rw [if_neg h2]
      exact Evt.ite_neg (by omega) (Check_l0 s l (by omega) 0 (by omega) (pre0 l))
  · rw [if_neg h]
    exact Evt.ite_neg h (Evt.pure _)
theorem tot_take (l : List St) (k : Nat) : ∀ n, n ≤ k → tot (l.take k) n = tot l n := by
  intro n
  induction n with
 |zero => intro _; rfl
 |succ n ih =>
    intro h
    simp only [tot]
    rw [ih (by omega)]
    congr 1
    unfold pw
    rw [List.getD_eq_getElem?_getD, List.getD_eq_getElem?_getD, List.getElem?_take_of_lt (by omega)]
theorem Before_l0' (l : List St) (h : ∀ m, m < l.length → 0 ≤ pw l m ∧ pw l m ≤ 100000) (hl : l.length ≤ 1000000) : ∀ n, n ≤ l.length → 0 ≤ tot l n → tot l n ≤ 100000 * n → Evt (fun k => gridhallref3_Before.l0 k (tot l n) l (l.length : Int) (n : Int)) (tot l l.length) := by
  refine down ?_ ?_
  · intro _ _
    refine Evt.succ ?_
    simp only [gridhallref3_Before.l0]
    exact Evt.ite_neg (by omega) (Evt.pure _)
  · intro n hn ih h1 h2
    refine Evt.succ ?_
    simp only [gridhallref3_Before.l0]
    refine Evt.ite_pos (by omega) (Evt.ite_pos (by omega) (Evt.ite_pos (by omega) ?_))
    simp only [rd0]
    have hb:=h n hn
    simp only [tot] at ih
    rw [wrap64_of (x:=tot l n + pw l n) (by omega) (by omega), wrap64_nat (by omega)]
    exact ih (by omega) (by omega)
theorem Before_ev' (s : ByteArray) (l : List St) (n : Nat) (hn : n ≤ l.length) (h : ∀ m, m < n → 0 ≤ pw l m ∧ pw l m ≤ 100000) (hl : n ≤ 1000000) : Evt (fun k => gridhallref3_Before.f k s l (n : Int)) (tot l n) := by
  simp only [gridhallref3_Before.f]
  refine Evt.ite_pos (by omega) (Evt.ite_pos (by omega) ?_)
  refine Evt.bindo rfl ?_
  have e : ((n : Int)).toNat = n:=by omega
  rw [e]
  have hlen : (l.take n).length = n:=by rw [List.length_take]; omega
  have hh:=Before_l0' (l.take n) (fun m hm => by
    rw [hlen] at hm
    have:=h m hm
    unfold pw at this ⊢
    rw [List.getD_eq_getElem?_getD] at this ⊢
    rw [List.getElem?_take_of_lt hm]
    exact this) (by omega) 0 (by omega) (by simp [tot]) (by simp [tot])
  rw [hlen, tot_take _ _ _ (Nat.le_refl _)] at hh
  rw [hlen]
  exact hh
theorem Before_ev (s : ByteArray) (l : List St) (n : Nat) (hn : n ≤ l.length) (hp : Pre l n) (hl : n ≤ 1000000) : Evt (fun k => gridhallref3_Before.f k s l (n : Int)) (tot l n) :=
  Before_ev' s l n hn (fun m hm => by have:=hp.1 m hm; omega) hl
theorem OfferError_l0 (s : ByteArray) (l : List St) (hl : l.length ≤ 12) : ∀ n, n ≤ l.length → Pre l n → Evt (fun k => gridhallref3_OfferError.l0 k l (l.length : Int) (n : Int) s l) (stepErr l (l.length - n) n) := by
  refine down ?_ ?_
  · intro _
    refine Evt.succ ?_
    simp only [gridhallref3_OfferError.l0, Nat.sub_self, stepErr]
    exact Evt.ite_neg (by omega) (Evt.pure _)
  · intro n hn ih hp
    obtain ⟨d, hd⟩ : ∃ d, l.length - n = d + 1:=⟨l.length - n - 1, by omega⟩
    have hd' : l.length - (n + 1) = d:=by omega
    rw [hd'] at ih
    rw [hd]
    have hb:=hp.bd n (Nat.le_refl _)
    have j2 : (1 ≤ pw l n ∧ pw l n ≤ 100000 ∧ -1000000 ≤ pr l n ∧ pr l n ≤ 1000000) → ∀ b, b = decide (0 < n ∧ pr l n < pr l (n - 1)) → Evt (fun k => gridhallref3_OfferError.j2 k (n : Int) l (l.length : Int) (n : Int) b s l) (stepErr l (d + 1) n):=by
      intro hc b hb2
      refine Evt.succ ?_
      simp only [gridhallref3_OfferError.j2, stepErr]
      rw [if_neg (by omega), wrap64_nat (by omega)]
      subst hb2
      refine Evt.ite (fun h => ?_) (fun h => ?_)
      · rw [if_pos (of_decide_eq_true h)]
        exact Evt.pure _
      · rw [if_neg (fun h2 => h (decide_eq_true h2))]
        refine Evt.bind (Before_ev' s l (n + 1) (by omega) (fun m hm => ?_) (by omega)) ?_
        · by_cases e : m = n
          · subst e
            omega
          · have:=hp.1 m (by omega)
            omega
        · refine Evt.ite (fun h2 => ?_) (fun h2 => ?_)
          · rw [if_pos h2]
            exact Evt.pure _
          · rw [if_neg h2]
            refine ih ⟨fun m hm => ?_, by omega⟩
            by_cases e : m = n
            · subst e
              omega
            · exact hp.1 m (by omega)
    have j1t : ¬ (1 ≤ pw l n ∧ pw l n ≤ 100000 ∧ -1000000 ≤ pr l n ∧ pr l n ≤ 1000000) → ∀ b, b = true → Evt (fun k => gridhallref3_OfferError.j1 k (n : Int) l (l.length : Int) (n : Int) b s l (pw l n) (pr l n)) (stepErr l (d + 1) n):=by
      intro hc b hb2
      subst hb2
      refine Evt.succ ?_
      simp only [gridhallref3_OfferError.j1, stepErr]
      rw [if_pos hc]
      exact Evt.ite_pos (by simp) (Evt.pure _)
    have j1f : (1 ≤ pw l n ∧ pw l n ≤ 100000 ∧ -1000000 ≤ pr l n ∧ pr l n ≤ 1000000) → ∀ b, b = false → Evt (fun k => gridhallref3_OfferError.j1 k (n : Int) l (l.length : Int) (n : Int) b s l (pw l n) (pr l n)) (stepErr l (d + 1) n):=by
      intro hc b hb2
      subst hb2
      refine Evt.succ ?_
      simp only [gridhallref3_OfferError.j1]
      refine Evt.ite_neg (by simp) (Evt.ite (fun h => ?_) (fun h => ?_))
      · rw [pred_cast (by omega) (by omega)]
        refine Evt.ite_pos (by omega) (Evt.ite_pos (by omega) ?_)
        simp only [rd1]
        refine j2 hc _ (decide_eq_decide.2 ?_)
        omega
      · exact j2 hc _ (decide_eq_false (by omega)).symm
    refine Evt.succ ?_
    simp only [gridhallref3_OfferError.l0]
    refine Evt.ite_pos (by omega) (Evt.ite_pos (by omega) (Evt.ite_pos (by omega) ?_))
    simp only [rd0, rd1, in_eq, Option.bind_some]
    refine Evt.ite (fun h => ?_) (fun h => ?_)
    · have h:=of_decide_eq_true h
      by_cases h4 : -1000000 ≤ pr l n ∧ pr l n ≤ 1000000
      · exact j1f (by omega) _ (by rw [decide_eq_true h4]; rfl)
      · exact j1t (by omega) _ (by rw [decide_eq_false h4]; rfl)
    · have h : ¬ (1 ≤ pw l n ∧ pw l n ≤ 100000):=fun h2 => h (decide_eq_true h2)
      exact j1t (by omega) _ rfl
theorem OfferError_ev (s : ByteArray) (l : List St) : Evt (fun k => gridhallref3_OfferError.f k s l) (offErr s l) := by
  simp only [gridhallref3_OfferError.f]
  refine Evt.bind (ref_Named_ev s) ?_
  unfold offErr
  by_cases h : nameB s = true
  · rw [if_pos h]
    refine Evt.ite_pos h ?_
    by_cases h2 : l.length > 12
    · rw [if_pos h2]
      exact Evt.ite_pos (by omega) (Evt.pure _)
    · rw [if_neg h2]
      exact Evt.ite_neg (by omega) (OfferError_l0 s l (by omega) 0 (by omega) (pre0 l))
  · rw [if_neg h]
    exact Evt.ite_neg h (Evt.pure _)
theorem mul_bd {a b A B : Int} (h1 : 0 ≤ a) (h2 : a ≤ A) (h3 : -B ≤ b) (h4 : b ≤ B) : -(A * B) ≤ b * a ∧ b * a ≤ A * B := by
  have hB : 0 ≤ B:=by omega
  have e1 : a * B ≤ A * B:=Int.mul_le_mul_of_nonneg_right h2 hB
  have e2 : b * a ≤ B * a:=Int.mul_le_mul_of_nonneg_right h4 h1
  have e3 : (-B) * a ≤ b * a:=Int.mul_le_mul_of_nonneg_right h3 h1
  rw [Int.mul_comm B a] at e2
  rw [Int.neg_mul, Int.mul_comm B a] at e3
  omega
def part (l : List St) (p : Int) (n : Nat) : Int := mn (mx p (tot l n)) (tot l n + pw l n) - tot l n
def cst (l : List St) (p : Int) : Nat → Int
 |0 => 0
 |n + 1 => cst l p n + pr l n * part l p n
theorem part_bd {l : List St} (p : Int) {n : Nat} (h : 0 ≤ pw l n) : 0 ≤ part l p n ∧ part l p n ≤ pw l n := by
  unfold part mn mx
  split <;> split <;> omega
theorem cst_bd {l : List St} (h : Val l) (p : Int) : ∀ n, n ≤ l.length → -(100000000000 * (n : Int)) ≤ cst l p n ∧ cst l p n ≤ 100000000000 * (n : Int) := by
  intro n
  induction n with
 |zero => intro _; simp [cst]
 |succ n ih =>
    intro hn
    have h0:=ih (by omega)
    have hr:=h.rng n (by omega)
    have hp:=part_bd (l:=l) p (n:=n) (by omega)
    have:=mul_bd (A:=100000) (B:=1000000) hp.1 (by omega) (by omega) hr.2.2.2
    simp only [cst]
    omega
theorem Most_l0 (l : List St) (h : Val l) : ∀ n, n ≤ l.length → Evt (fun k => offer_Most.l0 k (tot l n) l (l.length : Int) (n : Int)) (tot l l.length) := by
  have hl:=h.len
  refine down ?_ ?_
  · refine Evt.succ ?_
    simp only [offer_Most.l0]
    exact Evt.ite_neg (by omega) (Evt.pure _)
  · intro n hn ih
    refine Evt.succ ?_
    simp only [offer_Most.l0]
    refine Evt.ite_pos (by omega) (Evt.ite_pos (by omega) (Evt.ite_pos (by omega) ?_))
    simp only [rd0]
    have hb2:=h.bd (n + 1) (by omega)
    simp only [tot] at hb2 ih
    rw [wrap64_of (x:=tot l n + pw l n) (by omega) (by omega), wrap64_nat (by omega)]
    exact ih
theorem Most_ev (s : ByteArray) (l : List St) (h : Val l) : Evt (fun k => offer_Most.f k s l) (tot l l.length) := by
  simp only [offer_Most.f]
  exact Most_l0 l h 0 (by omega)
theorem Cost_l0 (l : List St) (h : Val l) (p : Int) (hp0 : 0 ≤ p) (hp : p ≤ 100000) : ∀ n, n ≤ l.length → Evt (fun k => offer_Cost.l0 k (mx (p - tot l n) 0) (cst l p n) l (l.length : Int) (n : Int)) (cst l p l.length, 0) := by
  have hl:=h.len
  refine down ?_ ?_
  · refine Evt.succ ?_
    simp only [offer_Cost.l0]
    exact Evt.ite_neg (by omega) (Evt.pure _)
  · intro n hn ih
    refine Evt.succ ?_
    simp only [offer_Cost.l0]
    refine Evt.ite_pos (by omega) (Evt.ite_pos (by omega) (Evt.ite_pos (by omega) ?_))
    simp only [rd0, rd1]
    have hr:=h.rng n hn
    have hb:=h.bd n (by omega)
    have hb2:=h.bd (n + 1) (by omega)
    simp only [tot] at hb2 ih
    have hpart:=part_bd (l:=l) p (n:=n) (by omega)
    have e1 : mn (mx (p - tot l n) 0) (pw l n) = part l p n:=by
      unfold part mn mx
      repeat' split
      all_goals omega
    have e2 : mx (p - tot l n) 0 - part l p n = mx (p - (tot l n + pw l n)) 0:=by
      unfold part mn mx
      repeat' split
      all_goals omega
    have e3 : 0 ≤ mx (p - (tot l n + pw l n)) 0 ∧ mx (p - (tot l n + pw l n)) 0 ≤ 100000:=by
      unfold mx
      split <;> omega
    have hc:=cst_bd h p n (by omega)
    have hm:=mul_bd (A:=100000) (B:=1000000) hpart.1 (by omega) (by omega) hr.2.2.2
    rw [e1, e2, wrap64_of (x:=mx (p - (tot l n + pw l n)) 0) (by omega) (by omega), Int.mul_comm (part l p n) (pr l n), wrap64_of (x:=pr l n * part l p n) (by omega) (by omega), wrap64_of (x:=cst l p n + pr l n * part l p n) (by omega) (by omega), wrap64_nat (by omega)]
    exact ih
def costR (s : ByteArray) (l : List St) (p : Int) : Int × Int := if offErr s l = 0 then (if 0 ≤ p ∧ p ≤ tot l l.length then (cst l p l.length, 0) else (0, 4)) else (0, offErr s l)
theorem Cost_ev (s : ByteArray) (l : List St) (p : Int) : Evt (fun k => offer_Cost.f k s l p) (costR s l p) := by
  simp only [offer_Cost.f]
  refine Evt.bind (Check_ev s l) ?_
  unfold costR
  by_cases h : offErr s l = 0
  · rw [if_pos h]
    refine Evt.ite_pos h ?_
    have hv:=(offErr_val h).2
    have hb:=hv.bd l.length (Nat.le_refl _)
    by_cases h1 : p < 0
    · rw [if_neg (by omega)]
      refine Evt.ite_pos h1 (Evt.succ ?_)
      simp only [offer_Cost.j0]
      exact Evt.ite_pos (by simp) (Evt.pure _)
    · refine Evt.ite_neg h1 (Evt.bind (Most_ev s l hv) (Evt.succ ?_))
      simp only [offer_Cost.j0]
      by_cases h2 : p > tot l l.length
      · rw [if_neg (by omega)]
        exact Evt.ite_pos (decide_eq_true h2) (Evt.pure _)
      · rw [if_pos (by omega)]
        refine Evt.ite_neg (by simpa using h2) ?_
        have:=Cost_l0 l hv p (by omega) (by omega) 0 (by omega)
        simp only [tot, cst] at this
        rw [mx_ge (by omega), Int.sub_zero] at this
        exact this
  · rw [if_neg h]
    exact Evt.ite_neg h (Evt.pure _)
theorem All_ev (s : ByteArray) (l : List St) (h : Val l) : Evt (fun k => gridhallref3_All.f k s l) (tot l l.length) := by
  have hl:=h.len
  simp only [gridhallref3_All.f]
  refine Evt.bind (Before_ev s l l.length (Nat.le_refl _) h.pre (by omega)) ?_
  exact Evt.pure _
theorem refCost_l0 (s : ByteArray) (l : List St) (h : Val l) (p : Int) : ∀ n, n ≤ l.length → Evt (fun k => gridhallref3_Cost.l0 k p (cst l p n) l (l.length : Int) (n : Int) s l) (cst l p l.length) := by
  have hl:=h.len
  refine down ?_ ?_
  · refine Evt.succ ?_
    simp only [gridhallref3_Cost.l0]
    exact Evt.ite_neg (by omega) (Evt.pure _)
  · intro n hn ih
    refine Evt.succ ?_
    simp only [gridhallref3_Cost.l0]
    refine Evt.ite_pos (by omega) (Evt.ite_pos (by omega) (Evt.ite_pos (by omega) ?_))
    simp only [rd0, rd1]
    refine Evt.bind (Before_ev s l n (by omega) (h.pre.mono (by omega)) (by omega)) ?_
    have hb:=h.bd n (by omega)
    have hr:=h.rng n hn
    have hpart:=part_bd (l:=l) p (n:=n) (by omega)
    have hc:=cst_bd h p n (by omega)
    have hm:=mul_bd (A:=100000) (B:=1000000) hpart.1 (by omega) (by omega) hr.2.2.2
    have e : mn (mx p (tot l n)) (tot l n + pw l n) - tot l n = part l p n:=rfl
    rw [wrap64_of (x:=tot l n + pw l n) (by omega) (by omega), e, wrap64_of (x:=part l p n) (by omega) (by omega), wrap64_of (x:=pr l n * part l p n) (by omega) (by omega), wrap64_of (x:=cst l p n + pr l n * part l p n) (by omega) (by omega), wrap64_nat (by omega)]
    exact ih
theorem refCost_ev (s : ByteArray) (l : List St) (h : Val l) (p : Int) : Evt (fun k => gridhallref3_Cost.f k s l p) (cst l p l.length) := by
  simp only [gridhallref3_Cost.f]
  exact refCost_l0 s l h p 0 (by omega)
abbrev Of := S29
abbrev zOf : Of := z29
def nmO (l : List Of) (n : Nat) : ByteArray := (l.getD n zOf).f0
def stO (l : List Of) (n : Nat) : List St := (l.getD n zOf).f1
theorem rdO0 (l : List Of) (n : Nat) : (rd_T29 l (n : Int)).f0 = nmO l n := Eq.trans rfl rfl
theorem rdO1 (l : List Of) (n : Nat) : (rd_T29 l (n : Int)).f1 = stO l n := Eq.trans rfl rfl
def sameN (l : List Of) (s : ByteArray) : Nat → Nat → Bool
 |0, _ => false
 |d + 1, m => decide ((nmO l m).toList = s.toList) || sameN l s d (m + 1)
def offsStep (l : List Of) : Nat → Nat → Int
 |0, _ => 0
 |d + 1, n => if offErr (nmO l n) (stO l n) = 0 then (if sameN l (nmO l n) n 0 = true then 7 else offsStep l d (n + 1)) else offErr (nmO l n) (stO l n)
def offsErr (l : List Of) : Int := if l.length > 10 then 2 else offsStep l l.length 0
theorem nmO_take (l : List Of) {n m : Nat} (h : m < n) : nmO (l.take n) m = nmO l m := by
  unfold nmO
  rw [List.getD_eq_getElem?_getD, List.getD_eq_getElem?_getD, List.getElem?_take_of_lt h]
theorem offsStep_val (l : List Of) : ∀ d n, n + d = l.length → offsStep l d n = 0 → ∀ m, n ≤ m → m < l.length → nameB (nmO l m) = true ∧ Val (stO l m) ∧ offErr (nmO l m) (stO l m) = 0 ∧ sameN l (nmO l m) m 0 = false := by
  intro d
  induction d with
 |zero => intro n hn _ m h1 h2; omega
 |succ d ih =>
    intro n hn h m h1 h2
    simp only [offsStep] at h
    by_cases c1 : offErr (nmO l n) (stO l n) = 0
    · rw [if_pos c1] at h
      by_cases c2 : sameN l (nmO l n) n 0 = true
      · rw [if_pos c2] at h
        omega
      · rw [if_neg c2] at h
        by_cases e : m = n
        · subst e
          exact ⟨(offErr_val c1).1, (offErr_val c1).2, c1, by simpa using c2⟩
        · exact ih (n + 1) (by omega) h m (by omega) h2
    · rw [if_neg c1] at h
      exact absurd h c1
structure Vals (l : List Of) : Prop where
  len : l.length ≤ 10
  one : ∀ m, m < l.length → nameB (nmO l m) = true ∧ Val (stO l m) ∧ offErr (nmO l m) (stO l m) = 0 ∧ sameN l (nmO l m) m 0 = false
theorem offsErr_val {l : List Of} (h : offsErr l = 0) : Vals l := by
  unfold offsErr at h
  by_cases c : l.length > 10
  · rw [if_pos c] at h
    omega
  · rw [if_neg c] at h
    exact ⟨by omega, fun m hm => offsStep_val l l.length 0 (by omega) h m (by omega) hm⟩
theorem offer_CheckAll_l1 (l : List Of) (hl : l.length ≤ 10) (n : Nat) (hn : n < l.length) (r : Int) (hr : Evt (fun k => offer_CheckAll.l0 k l l (l.length : Int) ((n + 1 : Nat) : Int)) r) :
    ∀ m, m ≤ n → Evt (fun k => offer_CheckAll.l1 k l l (l.length : Int) (n : Int) (l.take n) (n : Int) (m : Int) (nmO l n) (stO l n)) (if sameN l (nmO l n) (n - m) m = true then 7 else r):=by
  have hlen : (l.take n).length = n:=by rw [List.length_take]; omega
  refine down ?_ ?_
  · refine Evt.succ ?_
    simp only [offer_CheckAll.l1, Nat.sub_self, sameN]
    rw [wrap64_nat (by omega)]
    exact Evt.ite_neg (by omega) hr
  · intro m hm ih
    obtain ⟨d, hd⟩ : ∃ d, n - m = d + 1:=⟨n - m - 1, by omega⟩
    rw [show n - (m + 1) = d by omega] at ih
    rw [hd]
    refine Evt.succ ?_
    simp only [offer_CheckAll.l1, hlen, rdO0]
    rw [wrap64_nat (by omega)]
    refine Evt.ite_pos (by omega) (Evt.ite_pos (by omega) (Evt.ite_pos (by omega) ?_))
    by_cases h : (nmO l m).toList = (nmO l n).toList
    · refine Evt.ite_pos (by rw [nmO_take l hm]; exact h) ?_
      rw [if_pos (show sameN l (nmO l n) (d + 1) m = true by simp [sameN, h])]
      exact Evt.pure _
    · refine Evt.ite_neg (by rw [nmO_take l hm]; exact h) ?_
      have e : sameN l (nmO l n) (d + 1) m = sameN l (nmO l n) d (m + 1):=by simp [sameN, h]
      rw [e]
      exact ih
theorem offer_CheckAll_l0 (l : List Of) (hl : l.length ≤ 10) : ∀ n, n ≤ l.length → Evt (fun k => offer_CheckAll.l0 k l l (l.length : Int) (n : Int)) (offsStep l (l.length - n) n) := by
  refine down ?_ ?_
  · refine Evt.succ ?_
    simp only [offer_CheckAll.l0, Nat.sub_self, offsStep]
    exact Evt.ite_neg (by omega) (Evt.pure _)
  · intro n hn ih
    obtain ⟨d, hd⟩ : ∃ d, l.length - n = d + 1:=⟨l.length - n - 1, by omega⟩
    rw [show l.length - (n + 1) = d by omega] at ih
    rw [hd]
    refine Evt.succ ?_
    simp only [offer_CheckAll.l0, offsStep, rdO0, rdO1]
    refine Evt.ite_pos (by omega) (Evt.ite_pos (by omega) (Evt.ite_pos (by omega) (Evt.bind (Check_ev _ _) ?_)))
    by_cases h : offErr (nmO l n) (stO l n) = 0
    · rw [if_pos h]
      refine Evt.ite_pos h (Evt.ite_pos (by omega) (Evt.bindo rfl ?_))
      have e : ((n : Int)).toNat = n:=by omega
      have hlen : (l.take n).length = n:=by rw [List.length_take]; omega
      rw [e, hlen]
      exact offer_CheckAll_l1 l hl n hn _ ih 0 (by omega)
    · rw [if_neg h]
      exact Evt.ite_neg h (Evt.pure _)
theorem offer_CheckAll_ev (l : List Of) : Evt (fun k => offer_CheckAll.f k l) (offsErr l) := by
  simp only [offer_CheckAll.f]
  unfold offsErr
  by_cases h : l.length > 10
  · rw [if_pos h]
    exact Evt.ite_pos (by omega) (Evt.pure _)
  · rw [if_neg h]
    exact Evt.ite_neg (by omega) (offer_CheckAll_l0 l (by omega) 0 (by omega))
theorem gridhallref3_OffersError_l1 (l : List Of) (hl : l.length ≤ 10) (n : Nat) (hn : n < l.length) (r : Int) (hr : Evt (fun k => gridhallref3_OffersError.l0 k l l (l.length : Int) ((n + 1 : Nat) : Int)) r) :
    ∀ m, m ≤ n → Evt (fun k => gridhallref3_OffersError.l1 k l l (l.length : Int) (n : Int) (l.take n) (n : Int) (m : Int) (nmO l n) (stO l n)) (if sameN l (nmO l n) (n - m) m = true then 7 else r):=by
  have hlen : (l.take n).length = n:=by rw [List.length_take]; omega
  refine down ?_ ?_
  · refine Evt.succ ?_
    simp only [gridhallref3_OffersError.l1, Nat.sub_self, sameN]
    rw [wrap64_nat (by omega)]
    exact Evt.ite_neg (by omega) hr
  · intro m hm ih
    obtain ⟨d, hd⟩ : ∃ d, n - m = d + 1:=⟨n - m - 1, by omega⟩
    rw [show n - (m + 1) = d by omega] at ih
    rw [hd]
    refine Evt.succ ?_
    simp only [gridhallref3_OffersError.l1, hlen, rdO0]
    rw [wrap64_nat (by omega)]
    refine Evt.ite_pos (by omega) (Evt.ite_pos (by omega) (Evt.ite_pos (by omega) ?_))
    by_cases h : (nmO l m).toList = (nmO l n).toList
    · refine Evt.ite_pos (by rw [nmO_take l hm]; exact h) ?_
      rw [if_pos (show sameN l (nmO l n) (d + 1) m = true by simp [sameN, h])]
      exact Evt.pure _
    · refine Evt.ite_neg (by rw [nmO_take l hm]; exact h) ?_
      have e : sameN l (nmO l n) (d + 1) m = sameN l (nmO l n) d (m + 1):=by simp [sameN, h]
      rw [e]
      exact ih
theorem gridhallref3_OffersError_l0 (l : List Of) (hl : l.length ≤ 10) : ∀ n, n ≤ l.length → Evt (fun k => gridhallref3_OffersError.l0 k l l (l.length : Int) (n : Int)) (offsStep l (l.length - n) n) := by
  refine down ?_ ?_
  · refine Evt.succ ?_
    simp only [gridhallref3_OffersError.l0, Nat.sub_self, offsStep]
    exact Evt.ite_neg (by omega) (Evt.pure _)
  · intro n hn ih
    obtain ⟨d, hd⟩ : ∃ d, l.length - n = d + 1:=⟨l.length - n - 1, by omega⟩
    rw [show l.length - (n + 1) = d by omega] at ih
    rw [hd]
    refine Evt.succ ?_
    simp only [gridhallref3_OffersError.l0, offsStep, rdO0, rdO1]
    refine Evt.ite_pos (by omega) (Evt.ite_pos (by omega) (Evt.ite_pos (by omega) (Evt.bind (OfferError_ev _ _) ?_)))
    by_cases h : offErr (nmO l n) (stO l n) = 0
    · rw [if_pos h]
      refine Evt.ite_pos h (Evt.ite_pos (by omega) (Evt.bindo rfl ?_))
      have e : ((n : Int)).toNat = n:=by omega
      have hlen : (l.take n).length = n:=by rw [List.length_take]; omega
      rw [e, hlen]
      exact gridhallref3_OffersError_l1 l hl n hn _ ih 0 (by omega)
    · rw [if_neg h]
      exact Evt.ite_neg h (Evt.pure _)
theorem gridhallref3_OffersError_ev (l : List Of) : Evt (fun k => gridhallref3_OffersError.f k l) (offsErr l) := by
  simp only [gridhallref3_OffersError.f]
  unfold offsErr
  by_cases h : l.length > 10
  · rw [if_pos h]
    exact Evt.ite_pos (by omega) (Evt.pure _)
  · rw [if_neg h]
    exact Evt.ite_neg (by omega) (gridhallref3_OffersError_l0 l (by omega) 0 (by omega))
def pn (ps : List Int) (n : Nat) : Int := ps.getD n 0
theorem rdp (ps : List Int) (n : Nat) : rd ps (n : Int) = pn ps n := Eq.trans rfl rfl
def lastT (l : List Of) (n : Nat) : Int := tot (stO l n) (stO l n).length
def cstO (l : List Of) (n : Nat) (p : Int) : Int := cst (stO l n) p (stO l n).length
theorem cstO_bd {l : List Of} (h : Vals l) (n : Nat) (hn : n < l.length) (p : Int) : -1200000000000 ≤ cstO l n p ∧ cstO l n p ≤ 1200000000000 := by
  have hv:=(h.one n hn).2.1
  have:=cst_bd hv p (stO l n).length (Nat.le_refl _)
  have:=hv.len
  unfold cstO
  omega
theorem lastT_bd {l : List Of} (h : Vals l) (n : Nat) (hn : n < l.length) : 0 ≤ lastT l n ∧ lastT l n ≤ 100000 := (h.one n hn).2.1.bd _ (Nat.le_refl _)
def supL (l : List St) (p : Int) : Nat → Int
 |0 => 0
 |n + 1 => if pr l n < p then supL l p n + pw l n else supL l p n
def supM (l : List St) (p : Int) : Nat → Int
 |0 => 0
 |n + 1 => if pr l n ≤ p then supM l p n + pw l n else supM l p n
theorem tot_le {l : List St} (h : Val l) {a b : Nat} (hab : a ≤ b) (hb : b ≤ l.length) : tot l a ≤ tot l b :=
  (tot_mono (n:=b) (fun m hm => (h.rng m (by omega)).1) a hab).2
theorem srt_le {l : List St} (h : Val l) {a b : Nat} (hab : a ≤ b) (hb : b < l.length) : pr l a ≤ pr l b := by
  induction b with
 |zero =>
    have : a = 0:=by omega
    rw [this]
    exact Int.le_refl _
 |succ b ih =>
    by_cases e : a = b + 1
    · rw [e]
      exact Int.le_refl _
    · have h1:=ih (by omega) (by omega)
      have h2:=h.srt (b + 1) (by omega) hb
      simp only [Nat.add_sub_cancel] at h2
      omega
def sm (f : Nat → Int) : Nat → Int
 |0 => 0
 |n + 1 => sm f n + f n
theorem sm_le {f g : Nat → Int} : ∀ n, (∀ i, i < n → f i ≤ g i) → sm f n ≤ sm g n := by
  intro n
  induction n with
 |zero => intro _; exact Int.le_refl _
 |succ n ih =>
    intro h
    have h1:=ih (fun i hi => h i (by omega))
    have h2:=h n (by omega)
    simp only [sm]
    omega
theorem sm_congr {f g : Nat → Int} : ∀ n, (∀ i, i < n → f i = g i) → sm f n = sm g n := by
  intro n
  induction n with
 |zero => intro _; rfl
 |succ n ih =>
    intro h
    simp only [sm]
    rw [ih (fun i hi => h i (by omega)), h n (by omega)]
theorem sm_eq_of {f g : Nat → Int} : ∀ n, (∀ i, i < n → f i ≤ g i) → sm f n = sm g n → ∀ i, i < n → f i = g i := by
  intro n
  induction n with
 |zero => intro _ _ i hi; omega
 |succ n ih =>
    intro h e i hi
    have h1:=sm_le n (fun i hi => h i (by omega))
    have h2:=h n (by omega)
    simp only [sm] at e
    by_cases c : i = n
    · subst c
      omega
    · exact ih (fun i hi => h i (by omega)) (by omega) i (by omega)
theorem sm_upd {f : Nat → Int} (b : Nat) (v : Int) : ∀ n, sm (fun j => if j = b then v else f j) n = sm f n + (if b < n then v - f b else 0) := by
  intro n
  induction n with
 |zero => simp [sm]
 |succ n ih =>
    simp only [sm]
    rw [ih]
    by_cases c : n = b
    · subst c
      rw [if_pos rfl, if_neg (by omega), if_pos (by omega)]
      omega
    · rw [if_neg c]
      by_cases c2 : b < n
      · rw [if_pos c2, if_pos (by omega)]
        omega
      · rw [if_neg c2, if_neg (by omega)]
        omega
theorem sm_nonneg {f : Nat → Int} : ∀ n, (∀ i, i < n → 0 ≤ f i) → 0 ≤ sm f n := by
  intro n
  induction n with
 |zero => intro _; exact Int.le_refl _
 |succ n ih =>
    intro h
    have h1:=ih (fun i hi => h i (by omega))
    have h2:=h n (by omega)
    simp only [sm]
    omega
def tab (f : Nat → Int) (n : Nat) : List Int := (List.range n).map f
theorem tab_len (f : Nat → Int) (n : Nat) : (tab f n).length = n := by simp [tab]
theorem tab_get (f : Nat → Int) {n i : Nat} (h : i < n) : rd (tab f n) (i : Int) = f i := by
  unfold rd tab
  rw [List.getD_eq_getElem?_getD]
  simp [h]
theorem tab_set (f : Nat → Int) {n i : Nat} (v : Int) : (tab f n).set ((i : Int)).toNat v = tab (fun j => if j = i then v else f j) n := by
  rw [show ((i : Int)).toNat = i by omega]
  apply List.ext_getElem
  · simp [tab]
  · intro j h1 h2
    simp only [tab, List.getElem_set, List.getElem_map, List.getElem_range]
    by_cases c : i = j
    · rw [if_pos c, if_pos c.symm]
    · rw [if_neg c, if_neg (fun e => c e.symm)]
theorem tab_congr {f g : Nat → Int} {n : Nat} (h : ∀ i, i < n → f i = g i) : tab f n = tab g n := by
  apply List.ext_getElem
  · simp [tab]
  · intro j h1 h2
    simp only [tab, List.getElem_map, List.getElem_range]
    exact h j (by simpa [tab] using h1)
theorem tab_zero (n : Nat) : List.replicate n (0 : Int) = tab (fun _ => 0) n := by
  apply List.ext_getElem
  · simp [tab]
  · intro j h1 h2
    simp [tab]
theorem all_lt (l : List St) (p : Int) : ∀ n, (∀ m, m < n → pr l m < p) → supL l p n = tot l n := by
  intro n
  induction n with
 |zero => intro _; rfl
 |succ n ih =>
    intro h
    simp only [supL, tot]
    rw [if_pos (h n (by omega)), ih (fun m hm => h m (by omega))]
theorem all_le (l : List St) (p : Int) : ∀ n, (∀ m, m < n → pr l m ≤ p) → supM l p n = tot l n ∧ True := by
  intro n
  induction n with
 |zero => intro _; exact ⟨rfl, trivial⟩
 |succ n ih =>
    intro h
    simp only [supM, tot]
    rw [if_pos (h n (by omega)),(ih (fun m hm => h m (by omega))).1]
    exact ⟨rfl, trivial⟩
theorem supL_at {l : List St} (h : Val l) (p : Int) : ∀ n, n ≤ l.length → ∃ A, A ≤ n ∧ (∀ j, j < A → pr l j < p) ∧ (∀ j, A ≤ j → j < n → ¬ pr l j < p) ∧ supL l p n = tot l A := by
  intro n
  induction n with
 |zero => intro _; exact ⟨0, by omega, fun j hj => by omega, fun j h1 h2 => by omega, rfl⟩
 |succ n ih =>
    intro hn
    by_cases c : pr l n < p
    · have ha : ∀ m, m < n + 1 → pr l m < p:=fun m hm => by
        have:=srt_le h (a:=m) (b:=n) (by omega) (by omega)
        omega
      exact ⟨n + 1, by omega, ha, fun j h1 h2 => by omega, all_lt l p (n + 1) ha⟩
    · obtain ⟨A, h1, h2, h3, h4⟩:=ih (by omega)
      refine ⟨A, by omega, h2, fun j a b => ?_, ?_⟩
      · by_cases e : j = n
        · rw [e]
          exact c
        · exact h3 j a (by omega)
      · simp only [supL]
        rw [if_neg c]
        exact h4
theorem supM_at {l : List St} (h : Val l) (p : Int) : ∀ n, n ≤ l.length → ∃ A, A ≤ n ∧ (∀ j, j < A → pr l j ≤ p) ∧ (∀ j, A ≤ j → j < n → ¬ pr l j ≤ p) ∧ supM l p n = tot l A := by
  intro n
  induction n with
 |zero => intro _; exact ⟨0, by omega, fun j hj => by omega, fun j h1 h2 => by omega, rfl⟩
 |succ n ih =>
    intro hn
    by_cases c : pr l n ≤ p
    · have ha : ∀ m, m < n + 1 → pr l m ≤ p:=fun m hm => by
        have:=srt_le h (a:=m) (b:=n) (by omega) (by omega)
        omega
      exact ⟨n + 1, by omega, ha, fun j h1 h2 => by omega, (all_le l p (n + 1) ha).1⟩
    · obtain ⟨A, h1, h2, h3, h4⟩:=ih (by omega)
      refine ⟨A, by omega, h2, fun j a b => ?_, ?_⟩
      · by_cases e : j = n
        · rw [e]
          exact c
        · exact h3 j a (by omega)
      · simp only [supM]
        rw [if_neg c]
        exact h4
end Go.Proofs.Ytekpnmeikibioaa.BHoursChanges
