/- LedgerSettles in plain words: names, first places, what is moved and what is left. -/
import Derived.Test.YtpmaiofgnbgboaaEvs
import Derived.Test.YtpmaiofgnbgboaaHLedgerSettlesy3
import Derived.Test.YtpmaiofgnbgboaaHLedgerSettlesy4
import Derived.Test.YtpmaiofgnbgboaaHLedgerSettlesy5
import Derived.Test.YtpmaiofgnbgboaaHLedgerSettlesy6
namespace Go.Proofs.Ytpmaiofgnbgboaa.BLedgerSettles
open Go.RowKit Go.Proofs.YtpmaiofgnbgboaaW.PrintWords Go.Proofs.YtpmaiofgnbgboaaW.PrintMore Go.Proofs.Ytpmaiofgnbgboaa.Evs Go.Proofs.Ytpmaiofgnbgboaa.PLedgerSettles 
set_option linter.unusedVariables false
set_option linter.unusedSimpArgs false
/-! names -/
theorem bt_bd (s : ByteArray) (i : Int) : 0 ≤ bt s i ∧ bt s i ≤ 255 := by
  unfold bt
  split
  · rename_i h
    have := (s[i.toNat]'h).toNat_lt
    omega
  · omega
def okc (c : Int) : Bool := decide ((65 ≤ c ∧ c ≤ 90) ∨ (48 ≤ c ∧ c ≤ 57))
theorem okc_t {c : Int} (h : (65 ≤ c ∧ c ≤ 90) ∨ (48 ≤ c ∧ c ≤ 57)) : okc c = true := decide_eq_true h
theorem okc_f {c : Int} (h : ¬ ((65 ≤ c ∧ c ≤ 90) ∨ (48 ≤ c ∧ c ≤ 57))) : okc c = false := decide_eq_false h
def allC (s : ByteArray) : Nat → Nat → Bool
  | 0, _ => true
  | d + 1, n => okc (bt s n) && allC s d (n + 1)
def nameB (s : ByteArray) : Bool := decide (1 ≤ s.size ∧ s.size ≤ 8 ∧ ¬ (48 ≤ bt s 0 ∧ bt s 0 ≤ 57)) && allC s s.size 0
theorem offer_named_l0 (s : ByteArray) (hs : s.size ≤ 8) : ∀ n, n ≤ s.size → Evt (fun k => offer_named.l0 k s (s.size : Int) (n : Int)) (allC s (s.size - n) n) := by
  refine down ?_ ?_
  · refine Evt.succ ?_
    simp only [offer_named.l0, Nat.sub_self, allC]
    exact Evt.ite_neg (by omega) (Evt.pure _)
  · intro n hn ih
    refine Evt.succ ?_
    obtain ⟨d, hd⟩ : ∃ d, s.size - n = d + 1 := ⟨s.size - n - 1, by omega⟩
    have hd' : s.size - (n + 1) = d := by omega
    rw [hd'] at ih
    rw [hd]
    simp only [offer_named.l0, allC]
    refine Evt.ite_pos (by omega) (Evt.ite_pos (by omega) (Evt.ite_pos (by omega) ?_))
    rw [wrap64_nat (by omega)]
    have bad : ¬ ((65 ≤ bt s n ∧ bt s n ≤ 90) ∨ (48 ≤ bt s n ∧ bt s n ≤ 57)) → false = (okc (bt s n) && allC s d (n + 1)) := fun h => by rw [okc_f h]; rfl
    have fine : ((65 ≤ bt s n ∧ bt s n ≤ 90) ∨ (48 ≤ bt s n ∧ bt s n ≤ 57)) → allC s d (n + 1) = (okc (bt s n) && allC s d (n + 1)) := fun h => by rw [okc_t h, Bool.true_and]
    refine Evt.ite (fun h1 => Evt.ite (fun h2 => Evt.of_eq (bad (by omega))) (fun h2 => Evt.ite (fun h3 => Evt.of_eq (bad (by omega))) (fun h3 => Evt.cast ih (fine (by omega)))))
      (fun h1 => Evt.ite (fun h2 => Evt.ite (fun h3 => Evt.of_eq (bad (by omega))) (fun h3 => Evt.ite (fun h4 => Evt.of_eq (bad (by omega))) (fun h4 => Evt.cast ih (fine (by omega))))) (fun h2 => Evt.cast ih (fine (by omega))))
theorem offer_named_ev (s : ByteArray) : Evt (fun k => offer_named.f k s) (nameB s) := by
  simp only [offer_named.f]
  have j0t : ∀ b, b = true → nameB s = false → Evt (fun k => offer_named.j0 k s b) (nameB s) := by
    intro b hb hn
    subst hb
    refine Evt.succ ?_
    simp only [offer_named.j0]
    exact Evt.ite_pos (by simp) (Evt.of_eq hn.symm)
  by_cases h0 : s.size = 0
  · refine Evt.ite_pos ((toList_nil s).2 h0) (j0t _ rfl ?_)
    unfold nameB
    rw [decide_eq_false (by omega)]
    rfl
  · refine Evt.ite_neg (fun h => h0 ((toList_nil s).1 h)) ?_
    by_cases h8 : s.size ≤ 8
    · refine Evt.ite_neg (by omega) (Evt.ite_pos (by omega) ?_)
      have go : ∀ b, b = decide (48 ≤ bt s 0 ∧ bt s 0 ≤ 57) → Evt (fun k => offer_named.j0 k s b) (nameB s) := by
        intro b hb
        by_cases hc : 48 ≤ bt s 0 ∧ bt s 0 ≤ 57
        · refine j0t b (by rw [hb]; exact decide_eq_true hc) ?_
          unfold nameB
          rw [decide_eq_false (by omega)]
          rfl
        · rw [decide_eq_false hc] at hb
          subst hb
          refine Evt.succ ?_
          simp only [offer_named.j0]
          refine Evt.ite_neg (by simp) ?_
          have := offer_named_l0 s h8 0 (by omega)
          refine Evt.cast this ?_
          unfold nameB
          rw [decide_eq_true (by omega)]
          rfl
      refine Evt.ite (fun h => go _ ?_) (fun h => go _ ?_)
      · exact decide_eq_decide.2 (by omega)
      · exact (decide_eq_false (by omega)).symm
    · refine Evt.ite_pos (by omega) (j0t _ rfl ?_)
      unfold nameB
      rw [decide_eq_false (by omega)]
      rfl
theorem in_eq (a b c : Int) : gridhallref3_In.f a b c = some (decide (b ≤ a ∧ a ≤ c)) := by
  unfold gridhallref3_In.f
  by_cases h : a ≥ b
  · rw [if_pos h]
    congr 1
    exact decide_eq_decide.2 (by omega)
  · rw [if_neg h, decide_eq_false (by omega)]
theorem ref_Named_l0 (s : ByteArray) (hs : s.size ≤ 8) : ∀ n, n ≤ s.size → Evt (fun k => gridhallref3_Named.l0 k s (s.size : Int) (n : Int)) (allC s (s.size - n) n) := by
  refine down ?_ ?_
  · refine Evt.succ ?_
    simp only [gridhallref3_Named.l0, Nat.sub_self, allC]
    exact Evt.ite_neg (by omega) (Evt.pure _)
  · intro n hn ih
    refine Evt.succ ?_
    obtain ⟨d, hd⟩ : ∃ d, s.size - n = d + 1 := ⟨s.size - n - 1, by omega⟩
    have hd' : s.size - (n + 1) = d := by omega
    rw [hd'] at ih
    rw [hd]
    simp only [gridhallref3_Named.l0, allC]
    refine Evt.ite_pos (by omega) (Evt.ite_pos (by omega) (Evt.ite_pos (by omega) ?_))
    have hb := bt_bd s n
    rw [wrap64_nat (by omega), wrap64_of (x := bt s n) (by omega) (by omega)]
    simp only [in_eq, Option.bind_some]
    have bad : ¬ ((65 ≤ bt s n ∧ bt s n ≤ 90) ∨ (48 ≤ bt s n ∧ bt s n ≤ 57)) → false = (okc (bt s n) && allC s d (n + 1)) := fun h => by rw [okc_f h]; rfl
    have fine : ((65 ≤ bt s n ∧ bt s n ≤ 90) ∨ (48 ≤ bt s n ∧ bt s n ≤ 57)) → allC s d (n + 1) = (okc (bt s n) && allC s d (n + 1)) := fun h => by rw [okc_t h, Bool.true_and]
    refine Evt.ite (fun h1 => Evt.cast ih (fine (by simp at h1; omega))) (fun h1 => Evt.ite (fun h2 => Evt.cast ih (fine (by simp at h2; omega))) (fun h2 => Evt.of_eq (bad (by simp at h1 h2; omega))))
theorem ref_Named_ev (s : ByteArray) : Evt (fun k => gridhallref3_Named.f k s) (nameB s) := by
  simp only [gridhallref3_Named.f]
  have j0t : ∀ b, b = true → nameB s = false → Evt (fun k => gridhallref3_Named.j0 k s b) (nameB s) := by
    intro b hb hn
    subst hb
    refine Evt.succ ?_
    simp only [gridhallref3_Named.j0]
    exact Evt.ite_pos (by simp) (Evt.of_eq hn.symm)
  by_cases h0 : s.size = 0
  · refine Evt.ite_pos (by omega) (j0t _ rfl ?_)
    unfold nameB
    rw [decide_eq_false (by omega)]
    rfl
  · refine Evt.ite_neg (by omega) ?_
    by_cases h8 : s.size ≤ 8
    · refine Evt.ite_neg (by omega) (Evt.ite_pos (by omega) ?_)
      have hb := bt_bd s 0
      rw [wrap64_of (x := bt s 0) (by omega) (by omega)]
      simp only [in_eq, Option.bind_some]
      by_cases hc : 48 ≤ bt s 0 ∧ bt s 0 ≤ 57
      · refine j0t _ (decide_eq_true hc) ?_
        unfold nameB
        rw [decide_eq_false (by omega)]
        rfl
      · rw [decide_eq_false hc]
        refine Evt.succ ?_
        simp only [gridhallref3_Named.j0]
        refine Evt.ite_neg (by simp) ?_
        refine Evt.cast (ref_Named_l0 s h8 0 (by omega)) ?_
        unfold nameB
        rw [decide_eq_true (by omega)]
        rfl
    · refine Evt.ite_pos (by omega) (j0t _ rfl ?_)
      unfold nameB
      rw [decide_eq_false (by omega)]
      rfl
/-! offers: steps of power and price -/
abbrev St := S92
abbrev zSt : St := z92
def pw (l : List St) (n : Nat) : Int := (l.getD n zSt).f0
def pr (l : List St) (n : Nat) : Int := (l.getD n zSt).f1
theorem rd0 (l : List St) (n : Nat) : (rd_T92 l (n : Int)).f0 = pw l n := Eq.trans rfl rfl
theorem rd1 (l : List St) (n : Nat) : (rd_T92 l (n : Int)).f1 = pr l n := Eq.trans rfl rfl
/-- The power of the first n steps. -/
def tot (l : List St) : Nat → Int
  | 0 => 0
  | n + 1 => tot l n + pw l n
/-- The first error from step n on (d steps are left). -/
def stepErr (l : List St) : Nat → Nat → Int
  | 0, _ => 0
  | d + 1, n => if ¬ (1 ≤ pw l n ∧ pw l n ≤ 100000 ∧ -1000000 ≤ pr l n ∧ pr l n ≤ 1000000) then 4 else if 0 < n ∧ pr l n < pr l (n - 1) then 3 else if tot l (n + 1) > 100000 then 2 else stepErr l d (n + 1)
def offErr (s : ByteArray) (l : List St) : Int := if nameB s = true then (if l.length > 12 then 2 else stepErr l l.length 0) else 6
theorem pred_cast {n : Nat} (h : 0 < n) (hb : n ≤ 9223372036854775807) : wrap64 ((n : Int) - 1) = ((n - 1 : Nat) : Int) := by
  unfold wrap64
  omega
/-- The first n steps have permitted powers, together at most 100000. -/
def Pre (l : List St) (n : Nat) : Prop := (∀ m, m < n → 1 ≤ pw l m ∧ pw l m ≤ 100000) ∧ tot l n ≤ 100000
theorem tot_mono {l : List St} {n : Nat} (h : ∀ m, m < n → 1 ≤ pw l m) : ∀ m, m ≤ n → 0 ≤ tot l m ∧ tot l m ≤ tot l n := by
  induction n with
  | zero =>
    intro m hm
    have : m = 0 := by omega
    subst this
    simp [tot]
  | succ n ih =>
    intro m hm
    have h1 := ih (fun m hm => h m (by omega))
    have h2 := h n (by omega)
    simp only [tot]
    by_cases e : m = n + 1
    · subst e
      have := h1 n (by omega)
      simp only [tot]
      omega
    · have := h1 m (by omega)
      omega
theorem Pre.bd {l : List St} {n : Nat} (h : Pre l n) : ∀ m, m ≤ n → 0 ≤ tot l m ∧ tot l m ≤ 100000 := by
  intro m hm
  have := tot_mono (fun m hm => (h.1 m hm).1) m hm
  have := h.2
  omega
theorem Pre.mono {l : List St} {n m : Nat} (h : Pre l n) (hm : m ≤ n) : Pre l m := ⟨fun j hj => h.1 j (by omega), (h.bd m hm).2⟩
/-- What a valid offer is. -/
structure Val (l : List St) : Prop where
  len : l.length ≤ 12
  rng : ∀ n, n < l.length → 1 ≤ pw l n ∧ pw l n ≤ 100000 ∧ -1000000 ≤ pr l n ∧ pr l n ≤ 1000000
  srt : ∀ n, 0 < n → n < l.length → pr l (n - 1) ≤ pr l n
  all : tot l l.length ≤ 100000
theorem stepErr_val (l : List St) : ∀ d n, n + d = l.length → Pre l n → stepErr l d n = 0 →
    (∀ m, n ≤ m → m < l.length → 1 ≤ pw l m ∧ pw l m ≤ 100000 ∧ -1000000 ≤ pr l m ∧ pr l m ≤ 1000000) ∧ (∀ m, n ≤ m → 0 < m → m < l.length → pr l (m - 1) ≤ pr l m) ∧ tot l l.length ≤ 100000 := by
  intro d
  induction d with
  | zero =>
    intro n hn hp _
    exact ⟨fun m h1 h2 => by omega, fun m h1 _ h2 => by omega, by rw [← hn]; exact hp.2⟩
  | succ d ih =>
    intro n hn hp h
    simp only [stepErr] at h
    by_cases c1 : ¬ (1 ≤ pw l n ∧ pw l n ≤ 100000 ∧ -1000000 ≤ pr l n ∧ pr l n ≤ 1000000)
    · rw [if_pos c1] at h
      omega
    · rw [if_neg c1] at h
      by_cases c2 : 0 < n ∧ pr l n < pr l (n - 1)
      · rw [if_pos c2] at h
        omega
      · rw [if_neg c2] at h
        by_cases c3 : tot l (n + 1) > 100000
        · rw [if_pos c3] at h
          omega
        · rw [if_neg c3] at h
          have hp' : Pre l (n + 1) := by
            refine ⟨fun m hm => ?_, by omega⟩
            by_cases e : m = n
            · subst e
              omega
            · exact hp.1 m (by omega)
          obtain ⟨h1, h2, h3⟩ := ih (n + 1) (by omega) hp' h
          refine ⟨fun m hm hl => ?_, fun m hm h0 hl => ?_, h3⟩
          · by_cases e : m = n
            · subst e
              omega
            · exact h1 m (by omega) hl
          · by_cases e : m = n
            · subst e
              omega
            · exact h2 m (by omega) h0 hl
theorem pre0 (l : List St) : Pre l 0 := ⟨fun m hm => by omega, by simp [tot]⟩
theorem offErr_val {s : ByteArray} {l : List St} (h : offErr s l = 0) : nameB s = true ∧ Val l := by
  unfold offErr at h
  by_cases c1 : nameB s = true
  · rw [if_pos c1] at h
    by_cases c2 : l.length > 12
    · rw [if_pos c2] at h
      omega
    · rw [if_neg c2] at h
      obtain ⟨h1, h2, h3⟩ := stepErr_val l l.length 0 (by omega) (pre0 l) h
      exact ⟨c1, by omega, fun n hn => h1 n (by omega) hn, fun n h0 hn => h2 n (by omega) h0 hn, h3⟩
  · rw [if_neg c1] at h
    omega
theorem Val.pre {l : List St} (h : Val l) : Pre l l.length := ⟨fun m hm => ⟨(h.rng m hm).1, (h.rng m hm).2.1⟩, h.all⟩
theorem Val.bd {l : List St} (h : Val l) (m : Nat) (hm : m ≤ l.length) : 0 ≤ tot l m ∧ tot l m ≤ 100000 := h.pre.bd m hm
theorem Check_l0 (s : ByteArray) (l : List St) (hl : l.length ≤ 12) : ∀ n, n ≤ l.length → Pre l n → Evt (fun k => offer_Check.l0 k (tot l n) l (l.length : Int) (n : Int) s l) (stepErr l (l.length - n) n) := by
  refine down ?_ ?_
  · intro _
    refine Evt.succ ?_
    simp only [offer_Check.l0, Nat.sub_self, stepErr]
    exact Evt.ite_neg (by omega) (Evt.pure _)
  · intro n hn ih hp
    obtain ⟨d, hd⟩ : ∃ d, l.length - n = d + 1 := ⟨l.length - n - 1, by omega⟩
    have hd' : l.length - (n + 1) = d := by omega
    rw [hd'] at ih
    rw [hd]
    have hb := hp.bd n (Nat.le_refl _)
    have j2 : (1 ≤ pw l n ∧ pw l n ≤ 100000 ∧ -1000000 ≤ pr l n ∧ pr l n ≤ 1000000) → ∀ b, b = decide (0 < n ∧ pr l n < pr l (n - 1)) → Evt (fun k => offer_Check.j2 k (tot l n) l (l.length : Int) (n : Int) b s l (pw l n) (pr l n)) (stepErr l (d + 1) n) := by
      intro hc b hb2
      refine Evt.succ ?_
      simp only [offer_Check.j2, stepErr]
      rw [if_neg (by omega), wrap64_of (x := tot l n + pw l n) (by omega) (by omega), wrap64_nat (by omega)]
      subst hb2
      refine Evt.ite (fun h => ?_) (fun h => ?_)
      · rw [if_pos (of_decide_eq_true h)]
        exact Evt.pure _
      · rw [if_neg (fun h2 => h (decide_eq_true h2))]
        refine Evt.ite (fun h2 => ?_) (fun h2 => ?_)
        · rw [if_pos (show tot l (n + 1) > 100000 from h2)]
          exact Evt.pure _
        · have h3 : ¬ tot l (n + 1) > 100000 := h2
          rw [if_neg h3]
          refine ih ⟨fun m hm => ?_, by omega⟩
          by_cases e : m = n
          · subst e
            omega
          · exact hp.1 m (by omega)
    have j1t : ¬ (1 ≤ pw l n ∧ pw l n ≤ 100000 ∧ -1000000 ≤ pr l n ∧ pr l n ≤ 1000000) → ∀ b, b = true → Evt (fun k => offer_Check.j1 k (tot l n) (n : Int) l (l.length : Int) (n : Int) b s l (pw l n) (pr l n)) (stepErr l (d + 1) n) := by
      intro hc b hb2
      subst hb2
      refine Evt.succ ?_
      simp only [offer_Check.j1, stepErr]
      rw [if_pos hc]
      exact Evt.ite_pos (by simp) (Evt.pure _)
    have j1f : (1 ≤ pw l n ∧ pw l n ≤ 100000 ∧ -1000000 ≤ pr l n ∧ pr l n ≤ 1000000) → ∀ b, b = false → Evt (fun k => offer_Check.j1 k (tot l n) (n : Int) l (l.length : Int) (n : Int) b s l (pw l n) (pr l n)) (stepErr l (d + 1) n) := by
      intro hc b hb2
      subst hb2
      refine Evt.succ ?_
      simp only [offer_Check.j1]
      refine Evt.ite_neg (by simp) (Evt.ite (fun h => ?_) (fun h => ?_))
      · rw [pred_cast (by omega) (by omega)]
        refine Evt.ite_pos (by omega) (Evt.ite_pos (by omega) ?_)
        simp only [rd1]
        refine j2 hc _ (decide_eq_decide.2 ?_)
        omega
      · exact j2 hc _ (decide_eq_false (by omega)).symm
    refine Evt.succ ?_
    simp only [offer_Check.l0]
    refine Evt.ite_pos (by omega) (Evt.ite_pos (by omega) (Evt.ite_pos (by omega) ?_))
    simp only [rd0, rd1]
    refine Evt.ite (fun h => j1t (by omega) _ rfl) (fun h1 => Evt.ite (fun h => j1t (by omega) _ rfl) (fun h2 => Evt.ite (fun h => j1t (by omega) _ rfl) (fun h3 => ?_)))
    by_cases h4 : pr l n > 1000000
    · exact j1t (by omega) _ (decide_eq_true h4)
    · exact j1f (by omega) _ (decide_eq_false h4)
theorem Check_ev (s : ByteArray) (l : List St) : Evt (fun k => offer_Check.f k s l) (offErr s l) := by
  simp only [offer_Check.f]
  refine Evt.bind (offer_named_ev s) ?_
  unfold offErr
  by_cases h : nameB s = true
  · rw [if_pos h]
    refine Evt.ite_pos h ?_
    by_cases h2 : l.length > 12
    · rw [if_pos h2]
      exact Evt.ite_pos (by omega) (Evt.pure _)
    · rw [if_neg h2]
      exact Evt.ite_neg (by omega) (Check_l0 s l (by omega) 0 (by omega) (pre0 l))
  · rw [if_neg h]
    exact Evt.ite_neg h (Evt.pure _)
/-! the cheapest units of a list of offers, one after the other -/
def sm (f : Nat → Int) : Nat → Int
  | 0 => 0
  | n + 1 => sm f n + f n
theorem sm_le {f g : Nat → Int} : ∀ n, (∀ i, i < n → f i ≤ g i) → sm f n ≤ sm g n := by
  intro n
  induction n with
  | zero => intro _; exact Int.le_refl _
  | succ n ih =>
    intro h
    have h1 := ih (fun i hi => h i (by omega))
    have h2 := h n (by omega)
    simp only [sm]
    omega
theorem sm_congr {f g : Nat → Int} : ∀ n, (∀ i, i < n → f i = g i) → sm f n = sm g n := by
  intro n
  induction n with
  | zero => intro _; rfl
  | succ n ih =>
    intro h
    simp only [sm]
    rw [ih (fun i hi => h i (by omega)), h n (by omega)]
theorem sm_eq_of {f g : Nat → Int} : ∀ n, (∀ i, i < n → f i ≤ g i) → sm f n = sm g n → ∀ i, i < n → f i = g i := by
  intro n
  induction n with
  | zero => intro _ _ i hi; omega
  | succ n ih =>
    intro h e i hi
    have h1 := sm_le n (fun i hi => h i (by omega))
    have h2 := h n (by omega)
    simp only [sm] at e
    by_cases c : i = n
    · subst c
      omega
    · exact ih (fun i hi => h i (by omega)) (by omega) i (by omega)
theorem sm_lt {f g : Nat → Int} (n : Nat) (h : sm f n < sm g n) : ∃ i, i < n ∧ f i < g i := by
  apply Classical.byContradiction
  intro hc
  have : sm g n ≤ sm f n := sm_le n (fun i hi => by
    apply Decidable.byContradiction
    intro h2
    exact hc ⟨i, hi, by omega⟩)
  omega
theorem sm_upd {f : Nat → Int} (b : Nat) (v : Int) : ∀ n, sm (fun j => if j = b then v else f j) n = sm f n + (if b < n then v - f b else 0) := by
  intro n
  induction n with
  | zero => simp [sm]
  | succ n ih =>
    simp only [sm]
    rw [ih]
    by_cases c : n = b
    · subst c
      rw [if_pos rfl, if_neg (by omega), if_pos (by omega)]
      omega
    · rw [if_neg c]
      by_cases c2 : b < n
      · rw [if_pos c2, if_pos (by omega)]
        omega
      · rw [if_neg c2, if_neg (by omega)]
        omega
theorem sm_nonneg {f : Nat → Int} : ∀ n, (∀ i, i < n → 0 ≤ f i) → 0 ≤ sm f n := by
  intro n
  induction n with
  | zero => intro _; exact Int.le_refl _
  | succ n ih =>
    intro h
    have h1 := ih (fun i hi => h i (by omega))
    have h2 := h n (by omega)
    simp only [sm]
    omega
theorem sm_mono {f : Nat → Int} {N : Nat} (h : ∀ i, i < N → 0 ≤ f i) {a b : Nat} (hab : a ≤ b) (hb : b ≤ N) : sm f a ≤ sm f b := by
  induction b with
  | zero =>
    have : a = 0 := by omega
    rw [this]
    exact Int.le_refl _
  | succ b ih =>
    by_cases c : a = b + 1
    · rw [c]
      exact Int.le_refl _
    · have h1 := ih (by omega) (by omega)
      have h2 := h b (by omega)
      simp only [sm]
      omega
theorem sm_step {f : Nat → Int} (r : Int) (h0 : 0 ≤ r) : ∀ n, r < sm f n → ∃ s, s < n ∧ sm f s ≤ r ∧ r < sm f (s + 1) := by
  intro n
  induction n with
  | zero => intro h; simp only [sm] at h; omega
  | succ n ih =>
    intro h
    by_cases c : r < sm f n
    · obtain ⟨s, h1, h2, h3⟩ := ih c
      exact ⟨s, by omega, h2, h3⟩
    · exact ⟨n, by omega, by omega, h⟩
/-- A list by its values. -/
def tab (f : Nat → Int) (n : Nat) : List Int := (List.range n).map f
theorem tab_len (f : Nat → Int) (n : Nat) : (tab f n).length = n := by simp [tab]
theorem tab_get (f : Nat → Int) {n i : Nat} (h : i < n) : rd (tab f n) (i : Int) = f i := by
  unfold rd tab
  rw [List.getD_eq_getElem?_getD]
  simp [h]
theorem tab_set (f : Nat → Int) {n i : Nat} (v : Int) : (tab f n).set ((i : Int)).toNat v = tab (fun j => if j = i then v else f j) n := by
  rw [show ((i : Int)).toNat = i by omega]
  apply List.ext_getElem
  · simp [tab]
  · intro j h1 h2
    simp only [tab, List.getElem_set, List.getElem_map, List.getElem_range]
    by_cases c : i = j
    · rw [if_pos c, if_pos c.symm]
    · rw [if_neg c, if_neg (fun e => c e.symm)]
theorem tab_congr {f g : Nat → Int} {n : Nat} (h : ∀ i, i < n → f i = g i) : tab f n = tab g n := by
  apply List.ext_getElem
  · simp [tab]
  · intro j h1 h2
    simp only [tab, List.getElem_map, List.getElem_range]
    exact h j (by simpa [tab] using h1)
theorem tab_zero (n : Nat) : List.replicate n (0 : Int) = tab (fun _ => 0) n := by
  apply List.ext_getElem
  · simp [tab]
  · intro j h1 h2
    simp [tab]
/-! units below and at a price -/
abbrev En := S67
abbrev zEn : En := z67
/-! names -/
def at_ (l : List ByteArray) (n : Nat) : ByteArray := l.getD n ByteArray.empty
theorem rdN (l : List ByteArray) (n : Nat) : rdOf ByteArray.empty l (n : Int) = at_ l n := Eq.trans rfl rfl
theorem at_take (l : List ByteArray) {i n : Nat} (h : n < i) : at_ (l.take i) n = at_ l n := by
  unfold at_
  rw [List.getD_eq_getElem?_getD, List.getD_eq_getElem?_getD, List.getElem?_take, if_pos h]
def eqB (s t : ByteArray) : Bool := s.toList == t.toList
def ag (l : List ByteArray) (i : Nat) : Nat → Bool
  | 0 => false
  | m + 1 => if ag l i m = true then true else eqB (at_ l m) (at_ l i)
theorem ag_mono (l : List ByteArray) (i : Nat) : ∀ d n, ag l i n = true → ag l i (n + d) = true := by
  intro d
  induction d with
  | zero => intro n h; exact h
  | succ d ih =>
    intro n h
    have := ih n h
    show ag l i ((n + d) + 1) = true
    simp only [ag]
    rw [if_pos this]
def pn (ps : List Int) (n : Nat) : Int := ps.getD n 0
theorem rdp (ps : List Int) (n : Nat) : rd ps (n : Int) = pn ps n := Eq.trans rfl rfl
theorem tab_pn (ps : List Int) : tab (pn ps) ps.length = ps := by
  apply List.ext_getElem
  · simp [tab]
  · intro j h1 h2
    simp only [tab, List.getElem_map, List.getElem_range, pn]
    rw [List.getD_eq_getElem?_getD, List.getElem?_eq_getElem h2]
    rfl
theorem take_len (l : List ByteArray) {i : Nat} (h : i ≤ l.length) : (l.take i).length = i := by simp; omega
theorem Index_l0 (l : List ByteArray) (hl : l.length ≤ 64) (i : Nat) (hi : i < l.length) : ∀ n, n ≤ i → ag l i n = false → ∃ r : Int, Evt (fun k => slices_Index_string_string.l0 k (l.take i) (at_ l i) (i : Int) (n : Int)) r ∧ decide (r ≥ 0) = ag l i i := by
  have ht := take_len l (i := i) (by omega)
  refine down ?_ ?_
  · intro h
    refine ⟨-1, Evt.succ ?_, by rw [h]; rfl⟩
    simp only [slices_Index_string_string.l0]
    exact Evt.ite_neg (by omega) (Evt.pure _)
  · intro n hn ih h
    by_cases c : (at_ l i).toList = (at_ l n).toList
    · refine ⟨(n : Int), Evt.succ ?_, ?_⟩
      · simp only [slices_Index_string_string.l0]
        refine Evt.ite_pos (by omega) (Evt.ite_pos (by omega) (Evt.ite_pos (by omega) ?_))
        rw [rdN, at_take l hn]
        exact Evt.ite_pos c (Evt.pure _)
      · have h1 : ag l i (n + 1) = true := by
          simp only [ag]
          rw [if_neg (by simp [h])]
          unfold eqB
          rw [c]
          simp
        have h2 := ag_mono l i (i - (n + 1)) (n + 1) h1
        rw [show n + 1 + (i - (n + 1)) = i by omega] at h2
        rw [h2]
        exact decide_eq_true (by omega)
    · have h1 : ag l i (n + 1) = false := by
        simp only [ag]
        rw [if_neg (by simp [h])]
        unfold eqB
        exact beq_false_of_ne (fun e => c e.symm)
      obtain ⟨r, h2, h3⟩ := ih h1
      refine ⟨r, Evt.succ ?_, h3⟩
      simp only [slices_Index_string_string.l0]
      refine Evt.ite_pos (by omega) (Evt.ite_pos (by omega) (Evt.ite_pos (by omega) ?_))
      rw [rdN, at_take l hn, wrap64_nat (by omega)]
      exact Evt.ite_neg c h2
theorem Contains_ev (l : List ByteArray) (hl : l.length ≤ 64) (i : Nat) (hi : i < l.length) : Evt (fun k => slices_Contains_string_string.f k (l.take i) (at_ l i)) (ag l i i) := by
  simp only [slices_Contains_string_string.f, slices_Index_string_string.f]
  obtain ⟨r, h1, h2⟩ := Index_l0 l hl i hi 0 (by omega) rfl
  rw [take_len l (by omega)]
  exact Evt.bind h1 (Evt.of_eq h2)
theorem named_ev (s : ByteArray) : Evt (fun k => ledger_named.f k s) (nameB s) := by
  simp only [ledger_named.f]
  refine Evt.bind (Check_ev s []) (Evt.of_eq ?_)
  unfold offErr
  cases nameB s <;> rfl
/-! the check -/
def inR (x : Int) : Prop := -1000000000000 ≤ x ∧ x ≤ 1000000000000
instance (x : Int) : Decidable (inR x) := inferInstanceAs (Decidable (_ ∧ _))
def chk (l : List ByteArray) (ps : List Int) : Nat → Nat → Int → Int
  | 0, _, s => if s = 0 then 0 else 14
  | d + 1, n, s => if nameB (at_ l n) = true then (if ag l n n = true then 7 else (if inR (pn ps n) then chk l ps d (n + 1) (s + pn ps n) else 4)) else 6
def errR (l : List ByteArray) (ps : List Int) : Int := if l.length > 64 then 2 else (if l.length = ps.length then chk l ps l.length 0 0 else 3)
theorem chk_ok (l : List ByteArray) (ps : List Int) : ∀ d n, chk l ps d n (sm (pn ps) n) = 0 → (∀ i, n ≤ i → i < n + d → inR (pn ps i)) ∧ sm (pn ps) (n + d) = 0 := by
  intro d
  induction d with
  | zero =>
    intro n h
    simp only [chk] at h
    by_cases c : sm (pn ps) n = 0
    · exact ⟨fun i a b => by omega, c⟩
    · rw [if_neg c] at h
      omega
  | succ d ih =>
    intro n h
    simp only [chk] at h
    by_cases c1 : nameB (at_ l n) = true
    · rw [if_pos c1] at h
      by_cases c2 : ag l n n = true
      · rw [if_pos c2] at h
        omega
      · rw [if_neg c2] at h
        by_cases c3 : inR (pn ps n)
        · rw [if_pos c3] at h
          obtain ⟨h1, h2⟩ := ih (n + 1) h
          refine ⟨fun i a b => ?_, by rw [show n + (d + 1) = n + 1 + d by omega]; exact h2⟩
          by_cases e : i = n
          · rw [e]; exact c3
          · exact h1 i (by omega) (by omega)
        · rw [if_neg c3] at h
          omega
    · rw [if_neg c1] at h
      omega
/-! first places -/
def fst (f : Nat → Int) (p : Int → Bool) : Nat → Nat → Nat
  | 0, n => n
  | d + 1, n => if p (f n) = true then n else fst f p d (n + 1)
theorem fst_spec (f : Nat → Int) (p : Int → Bool) : ∀ d n, n ≤ fst f p d n ∧ fst f p d n ≤ n + d ∧ (fst f p d n < n + d → p (f (fst f p d n)) = true) ∧ ∀ j, n ≤ j → j < fst f p d n → p (f j) = false := by
  intro d
  induction d with
  | zero =>
    intro n
    simp only [fst]
    exact ⟨by omega, by omega, fun h => by omega, fun j a b => by omega⟩
  | succ d ih =>
    intro n
    simp only [fst]
    by_cases c : p (f n) = true
    · rw [if_pos c]
      exact ⟨by omega, by omega, fun _ => c, fun j a b => by omega⟩
    · rw [if_neg c]
      obtain ⟨h1, h2, h3, h4⟩ := ih (n + 1)
      refine ⟨by omega, by omega, fun h => h3 (by omega), fun j a b => ?_⟩
      by_cases e : j = n
      · subst e
        simpa using c
      · exact h4 j (by omega) b
theorem fst_skip (f : Nat → Int) (p : Int → Bool) : ∀ e d n, (∀ j, n ≤ j → j < n + e → p (f j) = false) → fst f p (e + d) n = fst f p d (n + e) := by
  intro e
  induction e with
  | zero =>
    intro d n _
    rw [Nat.zero_add]
    rfl
  | succ e ih =>
    intro d n h
    rw [show e + 1 + d = (e + d) + 1 by omega]
    simp only [fst]
    rw [if_neg (by rw [h n (by omega) (by omega)]; simp), ih d (n + 1) (fun j a b => h j (by omega) (by omega)), show n + 1 + e = n + (e + 1) by omega]
def neg (x : Int) : Bool := decide (x < 0)
def pos (x : Int) : Bool := decide (x > 0)
def fI (f : Nat → Int) (N : Nat) : Nat := fst f neg N 0
def fK (f : Nat → Int) (N : Nat) : Nat := fst f pos N 0
def mv (f : Nat → Int) (N : Nat) : Int := mn (-(f (fI f N))) (f (fK f N))
def nx (f : Nat → Int) (N : Nat) (j : Nat) : Int := if j = fK f N then f (fK f N) - mv f N else if j = fI f N then f (fI f N) + mv f N else f j
def run (l : List ByteArray) : Nat → (Nat → Int) → List En
  | 0, _ => []
  | m + 1, f => if fI f l.length = l.length ∨ fK f l.length = l.length then [] else
      ⟨at_ l (fI f l.length), at_ l (fK f l.length), mv f l.length⟩ :: run l m (nx f l.length)
def zi (x : Int) : Int := if x = 0 then 0 else 1
def nz (f : Nat → Int) (N : Nat) : Int := sm (fun j => zi (f j)) N
theorem nz_nn (f : Nat → Int) (N : Nat) : 0 ≤ nz f N := sm_nonneg _ (fun i _ => by unfold zi; split <;> omega)
theorem sm_one : ∀ n : Nat, sm (fun _ => (1 : Int)) n = n := by
  intro n
  induction n with
  | zero => rfl
  | succ n ih => simp only [sm]; omega
theorem nz_le (f : Nat → Int) (N : Nat) : nz f N ≤ N := by
  have := sm_le (f := fun j => zi (f j)) (g := fun _ => 1) N (fun i _ => by show zi (f i) ≤ 1; unfold zi; split <;> omega)
  rw [sm_one] at this
  exact this
theorem sm_z0 : ∀ n : Nat, sm (fun _ => (0 : Int)) n = 0 := by
  intro n
  induction n with
  | zero => rfl
  | succ n ih => simp only [sm]; omega
section
variable {f : Nat → Int} {N : Nat} (hI : fI f N < N) (hK : fK f N < N)
include hI hK
theorem IK : f (fI f N) < 0 ∧ 0 < f (fK f N) ∧ fI f N ≠ fK f N := by
  have h1 := (fst_spec f neg N 0).2.2.1 (by unfold fI at hI; omega)
  have h2 := (fst_spec f pos N 0).2.2.1 (by unfold fK at hK; omega)
  have h1 : f (fI f N) < 0 := of_decide_eq_true h1
  have h2 : f (fK f N) > 0 := of_decide_eq_true h2
  refine ⟨h1, h2, fun e => ?_⟩
  rw [e] at h1
  omega
theorem mv_bd : 0 < mv f N ∧ mv f N ≤ -(f (fI f N)) ∧ mv f N ≤ f (fK f N) ∧ (mv f N = -(f (fI f N)) ∨ mv f N = f (fK f N)) := by
  obtain ⟨h1, h2, _⟩ := IK hI hK
  unfold mv mn
  split
  · exact ⟨by omega, by omega, by omega, by omega⟩
  · exact ⟨by omega, by omega, by omega, by omega⟩
theorem nx_sum : sm (nx f N) N = sm f N := by
  obtain ⟨h1, h2, h3⟩ := IK hI hK
  have e1 := sm_upd (f := f) (fI f N) (f (fI f N) + mv f N) N
  have e2 := sm_upd (f := fun j => if j = fI f N then f (fI f N) + mv f N else f j) (fK f N) (f (fK f N) - mv f N) N
  rw [if_pos hI] at e1
  rw [if_pos hK, if_neg (fun e => h3 e.symm), e1] at e2
  have : sm (nx f N) N = _ := e2
  omega
theorem nx_nz : nz (nx f N) N = nz f N - 2 + zi (f (fI f N) + mv f N) + zi (f (fK f N) - mv f N) := by
  obtain ⟨h1, h2, h3⟩ := IK hI hK
  have e1 := sm_upd (f := fun j => zi (f j)) (fI f N) (zi (f (fI f N) + mv f N)) N
  have e2 := sm_upd (f := fun j => if j = fI f N then zi (f (fI f N) + mv f N) else zi (f j)) (fK f N) (zi (f (fK f N) - mv f N)) N
  rw [if_pos hI] at e1
  rw [if_pos hK, if_neg (fun e => h3 e.symm), e1] at e2
  have z1 : zi (f (fI f N)) = 1 := if_neg (by omega)
  have z2 : zi (f (fK f N)) = 1 := if_neg (by omega)
  have e3 : nz (nx f N) N = sm (fun j => if j = fK f N then zi (f (fK f N) - mv f N) else if j = fI f N then zi (f (fI f N) + mv f N) else zi (f j)) N := by
    refine sm_congr N (fun j _ => ?_)
    show zi (nx f N j) = _
    unfold nx
    split
    · rfl
    · split <;> rfl
  have e4 : nz f N = sm (fun j => zi (f j)) N := rfl
  rw [e3, e2, z1, z2, e4]
  omega
theorem nx_lt : nz (nx f N) N ≤ nz f N - 1 := by
  have h := nx_nz hI hK
  obtain ⟨h1, h2, h3, h4⟩ := mv_bd hI hK
  have b : ∀ x : Int, zi x ≤ 1 := fun x => by unfold zi; split <;> omega
  have b1 := b (f (fI f N) + mv f N)
  have b2 := b (f (fK f N) - mv f N)
  rcases h4 with h4 | h4
  · have : zi (f (fI f N) + mv f N) = 0 := if_pos (by omega)
    omega
  · have : zi (f (fK f N) - mv f N) = 0 := if_pos (by omega)
    omega
theorem nx_in (h : ∀ j, j < N → inR (f j)) : ∀ j, j < N → inR (nx f N j) := by
  intro j hj
  obtain ⟨h1, h2, h3⟩ := IK hI hK
  obtain ⟨m1, m2, m3, _⟩ := mv_bd hI hK
  have a := h _ hI
  have b := h _ hK
  unfold inR at a b
  unfold nx
  split
  · unfold inR; omega
  · split
    · unfold inR; omega
    · exact h j hj
/-- What was looked at stays so. -/
theorem nx_neg : ∀ j, j < fI f N → 0 ≤ nx f N j := by
  intro j hj
  obtain ⟨m1, m2, m3, _⟩ := mv_bd hI hK
  have h0 : neg (f j) = false := (fst_spec f neg N 0).2.2.2 j (by omega) hj
  have h0 : ¬ f j < 0 := of_decide_eq_false h0
  unfold nx
  split
  · omega
  · split
    · omega
    · omega
theorem nx_pos : ∀ j, j < fK f N → nx f N j ≤ 0 := by
  intro j hj
  obtain ⟨m1, m2, m3, _⟩ := mv_bd hI hK
  have h0 : pos (f j) = false := (fst_spec f pos N 0).2.2.2 j (by omega) hj
  have h0 : ¬ f j > 0 := of_decide_eq_false h0
  unfold nx
  split
  · omega
  · split
    · omega
    · omega
omit hI hK in
theorem nx_tab : ((tab f N).set ((fI f N : Nat) : Int).toNat (f (fI f N) + mv f N)).set ((fK f N : Nat) : Int).toNat (f (fK f N) - mv f N) = tab (nx f N) N := by
  rw [tab_set, tab_set]
  rfl
end
/-- Nothing is left where nothing is moved. -/
theorem all_zero {f : Nat → Int} {N : Nat} (hs : sm f N = 0) (h : fI f N = N ∨ fK f N = N) : ∀ j, j < N → f j = 0 := by
  rcases h with h | h
  · have h0 : ∀ j, j < N → 0 ≤ f j := fun j hj => by
      have : neg (f j) = false := (fst_spec f neg N 0).2.2.2 j (by omega) (by unfold fI at h; omega)
      have : ¬ f j < 0 := of_decide_eq_false this
      omega
    intro j hj
    exact (sm_eq_of (f := fun _ => 0) (g := f) N h0 (by rw [sm_z0, hs]) j hj).symm
  · have h0 : ∀ j, j < N → f j ≤ 0 := fun j hj => by
      have : pos (f j) = false := (fst_spec f pos N 0).2.2.2 j (by omega) (by unfold fK at h; omega)
      have : ¬ f j > 0 := of_decide_eq_false this
      omega
    exact sm_eq_of (f := f) (g := fun _ => 0) N h0 (by rw [sm_z0, hs])
theorem fI_le (f : Nat → Int) (N : Nat) : fI f N ≤ N := by have := (fst_spec f neg N 0).2.1; unfold fI; omega
theorem fK_le (f : Nat → Int) (N : Nat) : fK f N ≤ N := by have := (fst_spec f pos N 0).2.1; unfold fK; omega
theorem run_len (l : List ByteArray) : ∀ m (f : Nat → Int), sm f l.length = 0 → ((run l m f).length = 0 ∨ ((run l m f).length : Int) + 1 ≤ nz f l.length) := by
  intro m
  induction m with
  | zero => intro f _; exact .inl rfl
  | succ m ih =>
    intro f hs
    have a := fI_le f l.length
    have b := fK_le f l.length
    simp only [run]
    by_cases c : fI f l.length = l.length ∨ fK f l.length = l.length
    · rw [if_pos c]
      exact .inl rfl
    · rw [if_neg c]
      have hI : fI f l.length < l.length := by omega
      have hK : fK f l.length < l.length := by omega
      have h1 := nx_sum hI hK
      have h2 := nx_nz hI hK
      have h3 := nx_lt hI hK
      have h4 := nz_nn (nx f l.length) l.length
      have z : ∀ x : Int, 0 ≤ zi x := fun x => by unfold zi; split <;> omega
      have z1 := z (f (fI f l.length) + mv f l.length)
      have z2 := z (f (fK f l.length) - mv f l.length)
      right
      simp only [List.length_cons]
      rcases ih (nx f l.length) (by omega) with h | h
      · rw [h]
        have : nz f l.length ≥ 2 := by
          apply Decidable.byContradiction
          intro hh
          have b : ∀ x : Int, zi x = 0 ∨ zi x = 1 := fun x => by unfold zi; split <;> omega
          by_cases c0 : nz f l.length ≤ 0
          · omega
          · -- one place alone cannot sum to 0
            have e1 : nz (nx f l.length) l.length = 0 := by omega
            have e2 : ∀ j, j < l.length → nx f l.length j = 0 := by
              intro j hj
              have := sm_eq_of (f := fun _ => 0) (g := fun j => zi (nx f l.length j)) l.length (fun i _ => z _) (by rw [sm_z0]; exact e1.symm) j hj
              have this : 0 = zi (nx f l.length j) := this
              unfold zi at this
              split at this
              · assumption
              · omega
            have k1 := e2 _ hK
            have k2 := e2 _ hI
            obtain ⟨_, _, h3⟩ := IK hI hK
            have k1 : f (fK f l.length) - mv f l.length = 0 := by
              have e : nx f l.length (fK f l.length) = f (fK f l.length) - mv f l.length := if_pos rfl
              omega
            have k2 : f (fI f l.length) + mv f l.length = 0 := by
              have e : nx f l.length (fI f l.length) = f (fI f l.length) + mv f l.length := by
                unfold nx
                rw [if_neg h3, if_pos rfl]
              omega
            have y1 : zi (f (fI f l.length) + mv f l.length) = 0 := if_pos k2
            have y2 : zi (f (fK f l.length) - mv f l.length) = 0 := if_pos k1
            omega
        omega
      · omega
theorem run_short (l : List ByteArray) : ∀ m (f : Nat → Int), (run l m f).length ≤ m := by
  intro m
  induction m with
  | zero => intro f; exact Nat.le_refl _
  | succ m ih =>
    intro f
    simp only [run]
    split
    · simp
    · have := ih (nx f l.length)
      simp only [List.length_cons]
      omega
end Go.Proofs.Ytpmaiofgnbgboaa.BLedgerSettles
