import Derived.Test.YtdphghdjljplpaaEvs
import Derived.Test.YtdphghdjljplpaaHTopHoursy12
namespace Go.Proofs.Ytdphghdjljplpaa.BTopHours
open Go.RowKit Go.Proofs.YtdphghdjljplpaaW.PrintWords Go.Proofs.YtdphghdjljplpaaW.PrintMore Go.Proofs.Ytdphghdjljplpaa.Evs Go.Proofs.Ytdphghdjljplpaa.PTopHours
set_option linter.unusedVariables false
set_option linter.unusedSectionVars false
set_option linter.unusedSimpArgs false
def okc (c : Int) : Bool := decide ((65 ≤ c ∧ c ≤ 90) ∨ (48 ≤ c ∧ c ≤ 57))
theorem okc_t {c : Int} (h : (65 ≤ c ∧ c ≤ 90) ∨ (48 ≤ c ∧ c ≤ 57)) : okc c = true := decide_eq_true h
theorem okc_f {c : Int} (h : ¬ ((65 ≤ c ∧ c ≤ 90) ∨ (48 ≤ c ∧ c ≤ 57))) : okc c = false := decide_eq_false h
def allC (s : ByteArray) : Nat → Nat → Bool
 |0, _ => true
 |d + 1, n => okc (bt s n) && allC s d (n + 1)
def nameB (s : ByteArray) : Bool := decide (1 ≤ s.size ∧ s.size ≤ 8 ∧ ¬ (48 ≤ bt s 0 ∧ bt s 0 ≤ 57)) && allC s s.size 0
theorem offer_named_l0 (s : ByteArray) (hs : s.size ≤ 8) : ∀ n, n ≤ s.size → Evt (fun k => offer_named.l0 k s (s.size : Int) (n : Int)) (allC s (s.size - n) n) := by
  refine down ?_ ?_
  · refine Evt.succ ?_
    simp only [offer_named.l0, Nat.sub_self, allC]
    exact Evt.ite_neg (by omega) (Evt.pure _)
  · intro n hn ih
    refine Evt.succ ?_
    obtain ⟨d, hd⟩ : ∃ d, s.size - n = d + 1:=⟨s.size - n - 1, by omega⟩
    have hd' : s.size - (n + 1) = d:=by omega
    rw [hd'] at ih
    rw [hd]
    simp only [offer_named.l0, allC]
    refine Evt.ite_pos (by omega) (Evt.ite_pos (by omega) (Evt.ite_pos (by omega) ?_))
    rw [wrap64_nat (by omega)]
    have bad : ¬ ((65 ≤ bt s n ∧ bt s n ≤ 90) ∨ (48 ≤ bt s n ∧ bt s n ≤ 57)) → false = (okc (bt s n) && allC s d (n + 1)):=fun h => by rw [okc_f h]; rfl
    have fine : ((65 ≤ bt s n ∧ bt s n ≤ 90) ∨ (48 ≤ bt s n ∧ bt s n ≤ 57)) → allC s d (n + 1) = (okc (bt s n) && allC s d (n + 1)):=fun h => by rw [okc_t h, Bool.true_and]
    refine Evt.ite (fun h1 => Evt.ite (fun h2 => Evt.of_eq (bad (by omega))) (fun h2 => Evt.ite (fun h3 => Evt.of_eq (bad (by omega))) (fun h3 => Evt.cast ih (fine (by omega)))))
      (fun h1 => Evt.ite (fun h2 => Evt.ite (fun h3 => Evt.of_eq (bad (by omega))) (fun h3 => Evt.ite (fun h4 => Evt.of_eq (bad (by omega))) (fun h4 => Evt.cast ih (fine (by omega))))) (fun h2 => Evt.cast ih (fine (by omega))))
theorem offer_named_ev (s : ByteArray) : Evt (fun k => offer_named.f k s) (nameB s) := by
  simp only [offer_named.f]
  have j0t : ∀ b, b = true → nameB s = false → Evt (fun k => offer_named.j0 k s b) (nameB s):=by
    intro b hb hn
    subst hb
    refine Evt.succ ?_
    simp only [offer_named.j0]
    exact Evt.ite_pos (by simp) (Evt.of_eq hn.symm)
  by_cases h0 : s.size = 0
  · refine Evt.ite_pos ((toList_nil s).2 h0) (j0t _ rfl ?_)
    unfold nameB
    rw [decide_eq_false (by omega)]
    rfl
  · refine Evt.ite_neg (fun h => h0 ((toList_nil s).1 h)) ?_
    by_cases h8 : s.size ≤ 8
    · refine Evt.ite_neg (by omega) (Evt.ite_pos (by omega) ?_)
      have go : ∀ b, b = decide (48 ≤ bt s 0 ∧ bt s 0 ≤ 57) → Evt (fun k => offer_named.j0 k s b) (nameB s):=by
        intro b hb
        by_cases hc : 48 ≤ bt s 0 ∧ bt s 0 ≤ 57
        · refine j0t b (by rw [hb]; exact decide_eq_true hc) ?_
          unfold nameB
          rw [decide_eq_false (by omega)]
          rfl
        · rw [decide_eq_false hc] at hb
          subst hb
          refine Evt.succ ?_
          simp only [offer_named.j0]
          refine Evt.ite_neg (by simp) ?_
          have:=offer_named_l0 s h8 0 (by omega)
          refine Evt.cast this ?_
          unfold nameB
          rw [decide_eq_true (by omega)]
          rfl
      refine Evt.ite (fun h => go _ ?_) (fun h => go _ ?_)
      · exact decide_eq_decide.2 (by omega)
      · exact (decide_eq_false (by omega)).symm
    · refine Evt.ite_pos (by omega) (j0t _ rfl ?_)
      unfold nameB
      rw [decide_eq_false (by omega)]
      rfl
abbrev St := S96
abbrev zSt : St := z96
def pw (l : List St) (n : Nat) : Int := (l.getD n zSt).f0
def pr (l : List St) (n : Nat) : Int := (l.getD n zSt).f1
theorem rd0 (l : List St) (n : Nat) : (rd_T96 l (n : Int)).f0 = pw l n := Eq.trans rfl rfl
theorem rd1 (l : List St) (n : Nat) : (rd_T96 l (n : Int)).f1 = pr l n := Eq.trans rfl rfl
def tot (l : List St) : Nat → Int
 |0 => 0
 |n + 1 => tot l n + pw l n
def stepErr (l : List St) : Nat → Nat → Int
 |0, _ => 0
 |d + 1, n => if ¬ (1 ≤ pw l n ∧ pw l n ≤ 100000 ∧ -1000000 ≤ pr l n ∧ pr l n ≤ 1000000) then 4 else if 0 < n ∧ pr l n < pr l (n - 1) then 3 else if tot l (n + 1) > 100000 then 2 else stepErr l d (n + 1)
def offErr (s : ByteArray) (l : List St) : Int := if nameB s = true then (if l.length > 12 then 2 else stepErr l l.length 0) else 6
theorem pred_cast {n : Nat} (h : 0 < n) (hb : n ≤ 9223372036854775807) : wrap64 ((n : Int) - 1) = ((n - 1 : Nat) : Int) := by
  unfold wrap64
  omega
def Pre (l : List St) (n : Nat) : Prop := (∀ m, m < n → 1 ≤ pw l m ∧ pw l m ≤ 100000) ∧ tot l n ≤ 100000
theorem tot_mono {l : List St} {n : Nat} (h : ∀ m, m < n → 1 ≤ pw l m) : ∀ m, m ≤ n → 0 ≤ tot l m ∧ tot l m ≤ tot l n := by
  induction n with
 |zero =>
    intro m hm
    have : m = 0:=by omega
    subst this
    simp [tot]
 |succ n ih =>
    intro m hm
    have h1:=ih (fun m hm => h m (by omega))
    have h2:=h n (by omega)
    simp only [tot]
    by_cases e : m = n + 1
    · subst e
      have:=h1 n (by omega)
      simp only [tot]
      omega
    · have:=h1 m (by omega)
      omega
theorem Pre.bd {l : List St} {n : Nat} (h : Pre l n) : ∀ m, m ≤ n → 0 ≤ tot l m ∧ tot l m ≤ 100000 := by
  intro m hm
  have:=tot_mono (fun m hm => (h.1 m hm).1) m hm
  have:=h.2
  omega
theorem Pre.mono {l : List St} {n m : Nat} (h : Pre l n) (hm : m ≤ n) : Pre l m := ⟨fun j hj => h.1 j (by omega), (h.bd m hm).2⟩
structure Val (l : List St) : Prop where
  len : l.length ≤ 12
  rng : ∀ n, n < l.length → 1 ≤ pw l n ∧ pw l n ≤ 100000 ∧ -1000000 ≤ pr l n ∧ pr l n ≤ 1000000
  srt : ∀ n, 0 < n → n < l.length → pr l (n - 1) ≤ pr l n
  all : tot l l.length ≤ 100000
theorem stepErr_val (l : List St) : ∀ d n, n + d = l.length → Pre l n → stepErr l d n = 0 →
    (∀ m, n ≤ m → m < l.length → 1 ≤ pw l m ∧ pw l m ≤ 100000 ∧ -1000000 ≤ pr l m ∧ pr l m ≤ 1000000) ∧ (∀ m, n ≤ m → 0 < m → m < l.length → pr l (m - 1) ≤ pr l m) ∧ tot l l.length ≤ 100000:=by
  intro d
  induction d with
 |zero =>
    intro n hn hp _
    exact ⟨fun m h1 h2 => by omega, fun m h1 _ h2 => by omega, by rw [← hn]; exact hp.2⟩
 |succ d ih =>
    intro n hn hp h
    simp only [stepErr] at h
    by_cases c1 : ¬ (1 ≤ pw l n ∧ pw l n ≤ 100000 ∧ -1000000 ≤ pr l n ∧ pr l n ≤ 1000000)
    · rw [if_pos c1] at h
      omega
    · rw [if_neg c1] at h
      by_cases c2 : 0 < n ∧ pr l n < pr l (n - 1)
      · rw [if_pos c2] at h
        omega
      · rw [if_neg c2] at h
        by_cases c3 : tot l (n + 1) > 100000
        · rw [if_pos c3] at h
          omega
        · rw [if_neg c3] at h
          have hp' : Pre l (n + 1):=by
            refine ⟨fun m hm => ?_, by omega⟩
            by_cases e : m = n
            · subst e
              omega
            · exact hp.1 m (by omega)
          obtain ⟨h1, h2, h3⟩:=ih (n + 1) (by omega) hp' h
          refine ⟨fun m hm hl => ?_, fun m hm h0 hl => ?_, h3⟩
          · by_cases e : m = n
            · subst e
              omega
            · exact h1 m (by omega) hl
          · by_cases e : m = n
            · subst e
              omega
            · exact h2 m (by omega) h0 hl
theorem pre0 (l : List St) : Pre l 0 := ⟨fun m hm => by omega, by simp [tot]⟩
theorem offErr_val {s : ByteArray} {l : List St} (h : offErr s l = 0) : nameB s = true ∧ Val l := by
  unfold offErr at h
  by_cases c1 : nameB s = true
  · rw [if_pos c1] at h
    by_cases c2 : l.length > 12
    · rw [if_pos c2] at h
      omega
    · rw [if_neg c2] at h
      obtain ⟨h1, h2, h3⟩:=stepErr_val l l.length 0 (by omega) (pre0 l) h
      exact ⟨c1, by omega, fun n hn => h1 n (by omega) hn, fun n h0 hn => h2 n (by omega) h0 hn, h3⟩
  · rw [if_neg c1] at h
    omega
theorem Val.pre {l : List St} (h : Val l) : Pre l l.length := ⟨fun m hm => ⟨(h.rng m hm).1, (h.rng m hm).2.1⟩, h.all⟩
theorem Val.bd {l : List St} (h : Val l) (m : Nat) (hm : m ≤ l.length) : 0 ≤ tot l m ∧ tot l m ≤ 100000 := h.pre.bd m hm
theorem Check_l0 (s : ByteArray) (l : List St) (hl : l.length ≤ 12) : ∀ n, n ≤ l.length → Pre l n → Evt (fun k => offer_Check.l0 k (tot l n) l (l.length : Int) (n : Int) s l) (stepErr l (l.length - n) n) := by
  refine down ?_ ?_
  · intro _
    refine Evt.succ ?_
    simp only [offer_Check.l0, Nat.sub_self, stepErr]
    exact Evt.ite_neg (by omega) (Evt.pure _)
  · intro n hn ih hp
    obtain ⟨d, hd⟩ : ∃ d, l.length - n = d + 1:=⟨l.length - n - 1, by omega⟩
    have hd' : l.length - (n + 1) = d:=by omega
    rw [hd'] at ih
    rw [hd]
    have hb:=hp.bd n (Nat.le_refl _)
    have j2 : (1 ≤ pw l n ∧ pw l n ≤ 100000 ∧ -1000000 ≤ pr l n ∧ pr l n ≤ 1000000) → ∀ b, b = decide (0 < n ∧ pr l n < pr l (n - 1)) → Evt (fun k => offer_Check.j2 k (tot l n) l (l.length : Int) (n : Int) b s l (pw l n) (pr l n)) (stepErr l (d + 1) n):=by
      intro hc b hb2
      refine Evt.succ ?_
      simp only [offer_Check.j2, stepErr]
      rw [if_neg (by omega), wrap64_of (x:=tot l n + pw l n) (by omega) (by omega), wrap64_nat (by omega)]
      subst hb2
      refine Evt.ite (fun h => ?_) (fun h => ?_)
      · rw [if_pos (of_decide_eq_true h)]
        exact Evt.pure _
      · rw [if_neg (fun h2 => h (decide_eq_true h2))]
        refine Evt.ite (fun h2 => ?_) (fun h2 => ?_)
        · rw [if_pos (show tot l (n + 1) > 100000 from h2)]
          exact Evt.pure _
        · have h3 : ¬ tot l (n + 1) > 100000:=h2
          rw [if_neg h3]
          refine ih ⟨fun m hm => ?_, by omega⟩
          by_cases e : m = n
          · subst e
            omega
          · exact hp.1 m (by omega)
    have j1t : ¬ (1 ≤ pw l n ∧ pw l n ≤ 100000 ∧ -1000000 ≤ pr l n ∧ pr l n ≤ 1000000) → ∀ b, b = true → Evt (fun k => offer_Check.j1 k (tot l n) (n : Int) l (l.length : Int) (n : Int) b s l (pw l n) (pr l n)) (stepErr l (d + 1) n):=by
      intro hc b hb2
      subst hb2
      refine Evt.succ ?_
      simp only [offer_Check.j1, stepErr]
      rw [if_pos hc]
      exact Evt.ite_pos (by simp) (Evt.pure _)
    have j1f : (1 ≤ pw l n ∧ pw l n ≤ 100000 ∧ -1000000 ≤ pr l n ∧ pr l n ≤ 1000000) → ∀ b, b = false → Evt (fun k => offer_Check.j1 k (tot l n) (n : Int) l (l.length : Int) (n : Int) b s l (pw l n) (pr l n)) (stepErr l (d + 1) n):=by
      intro hc b hb2
      subst hb2
      refine Evt.succ ?_
      simp only [offer_Check.j1]
      refine Evt.ite_neg (by simp) (Evt.ite (fun h => ?_) (fun h => ?_))
      · rw [pred_cast (by omega) (by omega)]
        refine Evt.ite_pos (by omega) (Evt.ite_pos (by omega) ?_)
        simp only [rd1]
        refine j2 hc _ (decide_eq_decide.2 ?_)
        omega
      · exact j2 hc _ (decide_eq_false (by omega)).symm
    refine Evt.succ ?_
    simp only [offer_Check.l0]
    refine Evt.ite_pos (by omega) (Evt.ite_pos (by omega) (Evt.ite_pos (by omega) ?_))
    simp only [rd0, rd1]
    refine Evt.ite (fun h => j1t (by omega) _ rfl) (fun h1 => Evt.ite (fun h => j1t (by omega) _ rfl) (fun h2 => Evt.ite (fun h => j1t (by omega) _ rfl) (fun h3 => ?_)))
    by_cases h4 : pr l n > 1000000
    · exact j1t (by omega) _ (decide_eq_true h4)
    · exact j1f (by omega) _ (decide_eq_false h4)
theorem Check_ev (s : ByteArray) (l : List St) : Evt (fun k => offer_Check.f k s l) (offErr s l) := by
  simp only [offer_Check.f]
  refine Evt.bind (offer_named_ev s) ?_
  unfold offErr
  by_cases h : nameB s = true
  · rw [if_pos h]
    refine Evt.ite_pos h ?_
    by_cases h2 : l.length > 12
    · rw [if_pos h2]
      exact Evt.ite_pos (by omega) (Evt.pure _)
    · rw [if_neg h2]
      exact Evt.ite_neg (by omega) (Check_l0 s l (by omega) 0 (by omega) (pre0 l))
  · rw [if_neg h]
    exact Evt.ite_neg h (Evt.pure _)
theorem mul_bd {a b A B : Int} (h1 : 0 ≤ a) (h2 : a ≤ A) (h3 : -B ≤ b) (h4 : b ≤ B) : -(A * B) ≤ b * a ∧ b * a ≤ A * B := by
  have hB : 0 ≤ B:=by omega
  have e1 : a * B ≤ A * B:=Int.mul_le_mul_of_nonneg_right h2 hB
  have e2 : b * a ≤ B * a:=Int.mul_le_mul_of_nonneg_right h4 h1
  have e3 : (-B) * a ≤ b * a:=Int.mul_le_mul_of_nonneg_right h3 h1
  rw [Int.mul_comm B a] at e2
  rw [Int.neg_mul, Int.mul_comm B a] at e3
  omega
def part (l : List St) (p : Int) (n : Nat) : Int := mn (mx p (tot l n)) (tot l n + pw l n) - tot l n
def cst (l : List St) (p : Int) : Nat → Int
 |0 => 0
 |n + 1 => cst l p n + pr l n * part l p n
theorem part_bd {l : List St} (p : Int) {n : Nat} (h : 0 ≤ pw l n) : 0 ≤ part l p n ∧ part l p n ≤ pw l n := by
  unfold part mn mx
  split <;> split <;> omega
theorem cst_bd {l : List St} (h : Val l) (p : Int) : ∀ n, n ≤ l.length → -(100000000000 * (n : Int)) ≤ cst l p n ∧ cst l p n ≤ 100000000000 * (n : Int) := by
  intro n
  induction n with
 |zero => intro _; simp [cst]
 |succ n ih =>
    intro hn
    have h0:=ih (by omega)
    have hr:=h.rng n (by omega)
    have hp:=part_bd (l:=l) p (n:=n) (by omega)
    have:=mul_bd (A:=100000) (B:=1000000) hp.1 (by omega) (by omega) hr.2.2.2
    simp only [cst]
    omega
theorem Most_l0 (l : List St) (h : Val l) : ∀ n, n ≤ l.length → Evt (fun k => offer_Most.l0 k (tot l n) l (l.length : Int) (n : Int)) (tot l l.length) := by
  have hl:=h.len
  refine down ?_ ?_
  · refine Evt.succ ?_
    simp only [offer_Most.l0]
    exact Evt.ite_neg (by omega) (Evt.pure _)
  · intro n hn ih
    refine Evt.succ ?_
    simp only [offer_Most.l0]
    refine Evt.ite_pos (by omega) (Evt.ite_pos (by omega) (Evt.ite_pos (by omega) ?_))
    simp only [rd0]
    have hb2:=h.bd (n + 1) (by omega)
    simp only [tot] at hb2 ih
    rw [wrap64_of (x:=tot l n + pw l n) (by omega) (by omega), wrap64_nat (by omega)]
    exact ih
theorem Most_ev (s : ByteArray) (l : List St) (h : Val l) : Evt (fun k => offer_Most.f k s l) (tot l l.length) := by
  simp only [offer_Most.f]
  exact Most_l0 l h 0 (by omega)
theorem Cost_l0 (l : List St) (h : Val l) (p : Int) (hp0 : 0 ≤ p) (hp : p ≤ 100000) : ∀ n, n ≤ l.length → Evt (fun k => offer_Cost.l0 k (mx (p - tot l n) 0) (cst l p n) l (l.length : Int) (n : Int)) (cst l p l.length, 0) := by
  have hl:=h.len
  refine down ?_ ?_
  · refine Evt.succ ?_
    simp only [offer_Cost.l0]
    exact Evt.ite_neg (by omega) (Evt.pure _)
  · intro n hn ih
    refine Evt.succ ?_
    simp only [offer_Cost.l0]
    refine Evt.ite_pos (by omega) (Evt.ite_pos (by omega) (Evt.ite_pos (by omega) ?_))
    simp only [rd0, rd1]
    have hr:=h.rng n hn
    have hb:=h.bd n (by omega)
    have hb2:=h.bd (n + 1) (by omega)
    simp only [tot] at hb2 ih
    have hpart:=part_bd (l:=l) p (n:=n) (by omega)
    have e1 : mn (mx (p - tot l n) 0) (pw l n) = part l p n:=by
      unfold part mn mx
      repeat' split
      all_goals omega
    have e2 : mx (p - tot l n) 0 - part l p n = mx (p - (tot l n + pw l n)) 0:=by
      unfold part mn mx
      repeat' split
      all_goals omega
    have e3 : 0 ≤ mx (p - (tot l n + pw l n)) 0 ∧ mx (p - (tot l n + pw l n)) 0 ≤ 100000:=by
      unfold mx
      split <;> omega
    have hc:=cst_bd h p n (by omega)
    have hm:=mul_bd (A:=100000) (B:=1000000) hpart.1 (by omega) (by omega) hr.2.2.2
    rw [e1, e2, wrap64_of (x:=mx (p - (tot l n + pw l n)) 0) (by omega) (by omega), Int.mul_comm (part l p n) (pr l n), wrap64_of (x:=pr l n * part l p n) (by omega) (by omega), wrap64_of (x:=cst l p n + pr l n * part l p n) (by omega) (by omega), wrap64_nat (by omega)]
    exact ih
def costR (s : ByteArray) (l : List St) (p : Int) : Int × Int := if offErr s l = 0 then (if 0 ≤ p ∧ p ≤ tot l l.length then (cst l p l.length, 0) else (0, 4)) else (0, offErr s l)
theorem Cost_ev (s : ByteArray) (l : List St) (p : Int) : Evt (fun k => offer_Cost.f k s l p) (costR s l p) := by
  simp only [offer_Cost.f]
  refine Evt.bind (Check_ev s l) ?_
  unfold costR
  by_cases h : offErr s l = 0
  · rw [if_pos h]
    refine Evt.ite_pos h ?_
    have hv:=(offErr_val h).2
    have hb:=hv.bd l.length (Nat.le_refl _)
    by_cases h1 : p < 0
    · rw [if_neg (by omega)]
      refine Evt.ite_pos h1 (Evt.succ ?_)
      simp only [offer_Cost.j0]
      exact Evt.ite_pos (by simp) (Evt.pure _)
    · refine Evt.ite_neg h1 (Evt.bind (Most_ev s l hv) (Evt.succ ?_))
      simp only [offer_Cost.j0]
      by_cases h2 : p > tot l l.length
      · rw [if_neg (by omega)]
        exact Evt.ite_pos (decide_eq_true h2) (Evt.pure _)
      · rw [if_pos (by omega)]
        refine Evt.ite_neg (by simpa using h2) ?_
        have:=Cost_l0 l hv p (by omega) (by omega) 0 (by omega)
        simp only [tot, cst] at this
        rw [mx_ge (by omega), Int.sub_zero] at this
        exact this
  · rw [if_neg h]
    exact Evt.ite_neg h (Evt.pure _)
abbrev Of := S31
abbrev zOf : Of := z31
def nmO (l : List Of) (n : Nat) : ByteArray := (l.getD n zOf).f0
def stO (l : List Of) (n : Nat) : List St := (l.getD n zOf).f1
theorem rdO0 (l : List Of) (n : Nat) : (rd_T31 l (n : Int)).f0 = nmO l n := Eq.trans rfl rfl
theorem rdO1 (l : List Of) (n : Nat) : (rd_T31 l (n : Int)).f1 = stO l n := Eq.trans rfl rfl
def sameN (l : List Of) (s : ByteArray) : Nat → Nat → Bool
 |0, _ => false
 |d + 1, m => decide ((nmO l m).toList = s.toList) || sameN l s d (m + 1)
def offsStep (l : List Of) : Nat → Nat → Int
 |0, _ => 0
 |d + 1, n => if offErr (nmO l n) (stO l n) = 0 then (if sameN l (nmO l n) n 0 = true then 7 else offsStep l d (n + 1)) else offErr (nmO l n) (stO l n)
def offsErr (l : List Of) : Int := if l.length > 10 then 2 else offsStep l l.length 0
theorem nmO_take (l : List Of) {n m : Nat} (h : m < n) : nmO (l.take n) m = nmO l m := by
  unfold nmO
  rw [List.getD_eq_getElem?_getD, List.getD_eq_getElem?_getD, List.getElem?_take_of_lt h]
theorem offsStep_val (l : List Of) : ∀ d n, n + d = l.length → offsStep l d n = 0 → ∀ m, n ≤ m → m < l.length → nameB (nmO l m) = true ∧ Val (stO l m) ∧ offErr (nmO l m) (stO l m) = 0 ∧ sameN l (nmO l m) m 0 = false := by
  intro d
  induction d with
 |zero => intro n hn _ m h1 h2; omega
 |succ d ih =>
    intro n hn h m h1 h2
    simp only [offsStep] at h
    by_cases c1 : offErr (nmO l n) (stO l n) = 0
    · rw [if_pos c1] at h
      by_cases c2 : sameN l (nmO l n) n 0 = true
      · rw [if_pos c2] at h
        omega
      · rw [if_neg c2] at h
        by_cases e : m = n
        · subst e
          exact ⟨(offErr_val c1).1, (offErr_val c1).2, c1, by simpa using c2⟩
        · exact ih (n + 1) (by omega) h m (by omega) h2
    · rw [if_neg c1] at h
      exact absurd h c1
structure Vals (l : List Of) : Prop where
  len : l.length ≤ 10
  one : ∀ m, m < l.length → nameB (nmO l m) = true ∧ Val (stO l m) ∧ offErr (nmO l m) (stO l m) = 0 ∧ sameN l (nmO l m) m 0 = false
theorem offsErr_val {l : List Of} (h : offsErr l = 0) : Vals l := by
  unfold offsErr at h
  by_cases c : l.length > 10
  · rw [if_pos c] at h
    omega
  · rw [if_neg c] at h
    exact ⟨by omega, fun m hm => offsStep_val l l.length 0 (by omega) h m (by omega) hm⟩
theorem offer_CheckAll_l1 (l : List Of) (hl : l.length ≤ 10) (n : Nat) (hn : n < l.length) (r : Int) (hr : Evt (fun k => offer_CheckAll.l0 k l l (l.length : Int) ((n + 1 : Nat) : Int)) r) :
    ∀ m, m ≤ n → Evt (fun k => offer_CheckAll.l1 k l l (l.length : Int) (n : Int) (l.take n) (n : Int) (m : Int) (nmO l n) (stO l n)) (if sameN l (nmO l n) (n - m) m = true then 7 else r):=by
  have hlen : (l.take n).length = n:=by rw [List.length_take]; omega
  refine down ?_ ?_
  · refine Evt.succ ?_
    simp only [offer_CheckAll.l1, Nat.sub_self, sameN]
    rw [wrap64_nat (by omega)]
    exact Evt.ite_neg (by omega) hr
  · intro m hm ih
    obtain ⟨d, hd⟩ : ∃ d, n - m = d + 1:=⟨n - m - 1, by omega⟩
    rw [show n - (m + 1) = d by omega] at ih
    rw [hd]
    refine Evt.succ ?_
    simp only [offer_CheckAll.l1, hlen, rdO0]
    rw [wrap64_nat (by omega)]
    refine Evt.ite_pos (by omega) (Evt.ite_pos (by omega) (Evt.ite_pos (by omega) ?_))
    by_cases h : (nmO l m).toList = (nmO l n).toList
    · refine Evt.ite_pos (by rw [nmO_take l hm]; exact h) ?_
      rw [if_pos (show sameN l (nmO l n) (d + 1) m = true by simp [sameN, h])]
      exact Evt.pure _
    · refine Evt.ite_neg (by rw [nmO_take l hm]; exact h) ?_
      have e : sameN l (nmO l n) (d + 1) m = sameN l (nmO l n) d (m + 1):=by simp [sameN, h]
      rw [e]
      exact ih
theorem offer_CheckAll_l0 (l : List Of) (hl : l.length ≤ 10) : ∀ n, n ≤ l.length → Evt (fun k => offer_CheckAll.l0 k l l (l.length : Int) (n : Int)) (offsStep l (l.length - n) n) := by
  refine down ?_ ?_
  · refine Evt.succ ?_
    simp only [offer_CheckAll.l0, Nat.sub_self, offsStep]
    exact Evt.ite_neg (by omega) (Evt.pure _)
  · intro n hn ih
    obtain ⟨d, hd⟩ : ∃ d, l.length - n = d + 1:=⟨l.length - n - 1, by omega⟩
    rw [show l.length - (n + 1) = d by omega] at ih
    rw [hd]
    refine Evt.succ ?_
    simp only [offer_CheckAll.l0, offsStep, rdO0, rdO1]
    refine Evt.ite_pos (by omega) (Evt.ite_pos (by omega) (Evt.ite_pos (by omega) (Evt.bind (Check_ev _ _) ?_)))
    by_cases h : offErr (nmO l n) (stO l n) = 0
    · rw [if_pos h]
      refine Evt.ite_pos h (Evt.ite_pos (by omega) (Evt.bindo rfl ?_))
      have e : ((n : Int)).toNat = n:=by omega
      have hlen : (l.take n).length = n:=by rw [List.length_take]; omega
      rw [e, hlen]
      exact offer_CheckAll_l1 l hl n hn _ ih 0 (by omega)
    · rw [if_neg h]
      exact Evt.ite_neg h (Evt.pure _)
theorem offer_CheckAll_ev (l : List Of) : Evt (fun k => offer_CheckAll.f k l) (offsErr l) := by
  simp only [offer_CheckAll.f]
  unfold offsErr
  by_cases h : l.length > 10
  · rw [if_pos h]
    exact Evt.ite_pos (by omega) (Evt.pure _)
  · rw [if_neg h]
    exact Evt.ite_neg (by omega) (offer_CheckAll_l0 l (by omega) 0 (by omega))
def pn (ps : List Int) (n : Nat) : Int := ps.getD n 0
theorem rdp (ps : List Int) (n : Nat) : rd ps (n : Int) = pn ps n := Eq.trans rfl rfl
def lastT (l : List Of) (n : Nat) : Int := tot (stO l n) (stO l n).length
def cstO (l : List Of) (n : Nat) (p : Int) : Int := cst (stO l n) p (stO l n).length
theorem cstO_bd {l : List Of} (h : Vals l) (n : Nat) (hn : n < l.length) (p : Int) : -1200000000000 ≤ cstO l n p ∧ cstO l n p ≤ 1200000000000 := by
  have hv:=(h.one n hn).2.1
  have:=cst_bd hv p (stO l n).length (Nat.le_refl _)
  have:=hv.len
  unfold cstO
  omega
theorem lastT_bd {l : List Of} (h : Vals l) (n : Nat) (hn : n < l.length) : 0 ≤ lastT l n ∧ lastT l n ≤ 100000 := (h.one n hn).2.1.bd _ (Nat.le_refl _)
def supL (l : List St) (p : Int) : Nat → Int
 |0 => 0
 |n + 1 => if pr l n < p then supL l p n + pw l n else supL l p n
def supM (l : List St) (p : Int) : Nat → Int
 |0 => 0
 |n + 1 => if pr l n ≤ p then supM l p n + pw l n else supM l p n
theorem sup_bd {l : List St} (h : Val l) (p : Int) : ∀ n, n ≤ l.length → 0 ≤ supL l p n ∧ supL l p n ≤ tot l n ∧ 0 ≤ supM l p n ∧ supM l p n ≤ tot l n := by
  intro n
  induction n with
 |zero => intro _; simp [supL, supM, tot]
 |succ n ih =>
    intro hn
    have h0:=ih (by omega)
    have hr:=h.rng n (by omega)
    simp only [supL, supM, tot]
    split <;> split <;> omega
theorem Supply_l0 (l : List St) (h : Val l) (p : Int) : ∀ n, n ≤ l.length → Evt (fun k => offer_Supply.l0 k p (supL l p n) (supM l p n) l (l.length : Int) (n : Int)) (supL l p l.length, supM l p l.length, 0) := by
  have hl:=h.len
  refine down ?_ ?_
  · refine Evt.succ ?_
    simp only [offer_Supply.l0]
    exact Evt.ite_neg (by omega) (Evt.pure _)
  · intro n hn ih
    refine Evt.succ ?_
    simp only [offer_Supply.l0]
    refine Evt.ite_pos (by omega) (Evt.ite_pos (by omega) (Evt.ite_pos (by omega) ?_))
    simp only [rd0, rd1]
    have hb:=h.bd n (by omega)
    have hr:=h.rng n hn
    have hs:=sup_bd h p n (by omega)
    rw [wrap64_of (x:=supL l p n + pw l n) (by omega) (by omega), wrap64_of (x:=supM l p n + pw l n) (by omega) (by omega), wrap64_nat (by omega)]
    simp only [supL, supM] at ih
    refine Evt.ite (fun c => Evt.ite (fun c2 => ?_) (fun c2 => by omega)) (fun c => Evt.ite (fun c2 => ?_) (fun c2 => ?_))
    · rw [if_pos c, if_pos c2] at ih
      exact ih
    · rw [if_neg c, if_pos c2] at ih
      exact ih
    · rw [if_neg c, if_neg c2] at ih
      exact ih
def supR (s : ByteArray) (l : List St) (p : Int) : Int × Int × Int := if offErr s l = 0 then (if -2000000 ≤ p ∧ p ≤ 2000000 then (supL l p l.length, supM l p l.length, 0) else (0, 0, 4)) else (0, 0, offErr s l)
theorem Supply_ev (s : ByteArray) (l : List St) (p : Int) : Evt (fun k => offer_Supply.f k s l p) (supR s l p) := by
  simp only [offer_Supply.f]
  refine Evt.bind (Check_ev s l) ?_
  unfold supR
  by_cases h : offErr s l = 0
  · rw [if_pos h]
    refine Evt.ite_pos h ?_
    have hv:=(offErr_val h).2
    by_cases h1 : p < -2000000
    · rw [if_neg (by omega)]
      refine Evt.ite_pos h1 (Evt.succ ?_)
      simp only [offer_Supply.j0]
      exact Evt.ite_pos (by simp) (Evt.pure _)
    · refine Evt.ite_neg h1 (Evt.succ ?_)
      simp only [offer_Supply.j0]
      by_cases h2 : p > 2000000
      · rw [if_neg (by omega)]
        exact Evt.ite_pos (decide_eq_true h2) (Evt.pure _)
      · rw [if_pos (by omega)]
        refine Evt.ite_neg (by simpa using h2) ?_
        exact Supply_l0 l hv p 0 (by omega)
  · rw [if_neg h]
    exact Evt.ite_neg h (Evt.pure _)
theorem tot_le {l : List St} (h : Val l) {a b : Nat} (hab : a ≤ b) (hb : b ≤ l.length) : tot l a ≤ tot l b :=
  (tot_mono (n:=b) (fun m hm => (h.rng m (by omega)).1) a hab).2
theorem srt_le {l : List St} (h : Val l) {a b : Nat} (hab : a ≤ b) (hb : b < l.length) : pr l a ≤ pr l b := by
  induction b with
 |zero =>
    have : a = 0:=by omega
    rw [this]
    exact Int.le_refl _
 |succ b ih =>
    by_cases e : a = b + 1
    · rw [e]
      exact Int.le_refl _
    · have h1:=ih (by omega) (by omega)
      have h2:=h.srt (b + 1) (by omega) hb
      simp only [Nat.add_sub_cancel] at h2
      omega
def cw (l : List St) : Nat → Int
 |0 => 0
 |n + 1 => cw l n + pr l n * pw l n
theorem cst_tot {l : List St} (h : Val l) (j : Nat) (hj : j ≤ l.length) : ∀ n, n ≤ l.length → cst l (tot l j) n = cw l (min n j) := by
  intro n
  induction n with
 |zero => intro _; simp [cst, cw]
 |succ n ih =>
    intro hn
    simp only [cst]
    rw [ih (by omega)]
    have hr:=h.rng n (by omega)
    by_cases c : n < j
    · have:=tot_le h (a:=n + 1) (b:=j) (by omega) hj
      simp only [tot] at this
      have e : part l (tot l j) n = pw l n:=by
        unfold part mn mx
        repeat' split
        all_goals omega
      rw [e, Nat.min_eq_left (by omega), Nat.min_eq_left (by omega)]
      rfl
    · have:=tot_le h (a:=j) (b:=n) (by omega) (by omega)
      have e : part l (tot l j) n = 0:=by
        unfold part mn mx
        repeat' split
        all_goals omega
      rw [e, Nat.min_eq_right (by omega), Nat.min_eq_right (by omega)]
      simp
def vl (l : List St) (p : Int) : Nat → Int
 |0 => 0
 |n + 1 => vl l p n + (p - pr l n) * pw l n
def bst (l : List St) (p : Int) : Nat → Int
 |0 => 0
 |n + 1 => if pr l n < p then bst l p n + (p - pr l n) * pw l n else bst l p n
theorem all_le (l : List St) (p : Int) : ∀ n, (∀ m, m < n → pr l m ≤ p) → supM l p n = tot l n ∧ vl l p n = bst l p n := by
  intro n
  induction n with
 |zero => intro _; exact ⟨rfl, rfl⟩
 |succ n ih =>
    intro h
    have h0:=ih (fun m hm => h m (by omega))
    have h1:=h n (by omega)
    simp only [supM, tot, vl, bst]
    rw [if_pos h1]
    refine ⟨by omega, ?_⟩
    by_cases c : pr l n < p
    · rw [if_pos c]
      omega
    · have e : p - pr l n = 0:=by omega
      rw [if_neg c, e, Int.zero_mul]
      omega
theorem all_lt (l : List St) (p : Int) : ∀ n, (∀ m, m < n → pr l m < p) → supL l p n = tot l n := by
  intro n
  induction n with
 |zero => intro _; rfl
 |succ n ih =>
    intro h
    simp only [supL, tot]
    rw [if_pos (h n (by omega)), ih (fun m hm => h m (by omega))]
def sm (f : Nat → Int) : Nat → Int
 |0 => 0
 |n + 1 => sm f n + f n
theorem sm_le {f g : Nat → Int} : ∀ n, (∀ i, i < n → f i ≤ g i) → sm f n ≤ sm g n := by
  intro n
  induction n with
 |zero => intro _; exact Int.le_refl _
 |succ n ih =>
    intro h
    have h1:=ih (fun i hi => h i (by omega))
    have h2:=h n (by omega)
    simp only [sm]
    omega
theorem sm_congr {f g : Nat → Int} : ∀ n, (∀ i, i < n → f i = g i) → sm f n = sm g n := by
  intro n
  induction n with
 |zero => intro _; rfl
 |succ n ih =>
    intro h
    simp only [sm]
    rw [ih (fun i hi => h i (by omega)), h n (by omega)]
theorem sm_eq_of {f g : Nat → Int} : ∀ n, (∀ i, i < n → f i ≤ g i) → sm f n = sm g n → ∀ i, i < n → f i = g i := by
  intro n
  induction n with
 |zero => intro _ _ i hi; omega
 |succ n ih =>
    intro h e i hi
    have h1:=sm_le n (fun i hi => h i (by omega))
    have h2:=h n (by omega)
    simp only [sm] at e
    by_cases c : i = n
    · subst c
      omega
    · exact ih (fun i hi => h i (by omega)) (by omega) i (by omega)
theorem sm_upd {f : Nat → Int} (b : Nat) (v : Int) : ∀ n, sm (fun j => if j = b then v else f j) n = sm f n + (if b < n then v - f b else 0) := by
  intro n
  induction n with
 |zero => simp [sm]
 |succ n ih =>
    simp only [sm]
    rw [ih]
    by_cases c : n = b
    · subst c
      rw [if_pos rfl, if_neg (by omega), if_pos (by omega)]
      omega
    · rw [if_neg c]
      by_cases c2 : b < n
      · rw [if_pos c2, if_pos (by omega)]
        omega
      · rw [if_neg c2, if_neg (by omega)]
        omega
theorem sm_nonneg {f : Nat → Int} : ∀ n, (∀ i, i < n → 0 ≤ f i) → 0 ≤ sm f n := by
  intro n
  induction n with
 |zero => intro _; exact Int.le_refl _
 |succ n ih =>
    intro h
    have h1:=ih (fun i hi => h i (by omega))
    have h2:=h n (by omega)
    simp only [sm]
    omega
theorem sm_mono {f : Nat → Int} {N : Nat} (h : ∀ i, i < N → 0 ≤ f i) {a b : Nat} (hab : a ≤ b) (hb : b ≤ N) : sm f a ≤ sm f b := by
  induction b with
 |zero =>
    have : a = 0:=by omega
    rw [this]
    exact Int.le_refl _
 |succ b ih =>
    by_cases c : a = b + 1
    · rw [c]
      exact Int.le_refl _
    · have h1:=ih (by omega) (by omega)
      have h2:=h b (by omega)
      simp only [sm]
      omega
def tab (f : Nat → Int) (n : Nat) : List Int := (List.range n).map f
theorem tab_len (f : Nat → Int) (n : Nat) : (tab f n).length = n := by simp [tab]
theorem tab_get (f : Nat → Int) {n i : Nat} (h : i < n) : rd (tab f n) (i : Int) = f i := by
  unfold rd tab
  rw [List.getD_eq_getElem?_getD]
  simp [h]
theorem tab_set (f : Nat → Int) {n i : Nat} (v : Int) : (tab f n).set ((i : Int)).toNat v = tab (fun j => if j = i then v else f j) n := by
  rw [show ((i : Int)).toNat = i by omega]
  apply List.ext_getElem
  · simp [tab]
  · intro j h1 h2
    simp only [tab, List.getElem_set, List.getElem_map, List.getElem_range]
    by_cases c : i = j
    · rw [if_pos c, if_pos c.symm]
    · rw [if_neg c, if_neg (fun e => c e.symm)]
theorem tab_congr {f g : Nat → Int} {n : Nat} (h : ∀ i, i < n → f i = g i) : tab f n = tab g n := by
  apply List.ext_getElem
  · simp [tab]
  · intro j h1 h2
    simp only [tab, List.getElem_map, List.getElem_range]
    exact h j (by simpa [tab] using h1)
theorem tab_zero (n : Nat) : List.replicate n (0 : Int) = tab (fun _ => 0) n := by
  apply List.ext_getElem
  · simp [tab]
  · intro j h1 h2
    simp [tab]
theorem supL_at {l : List St} (h : Val l) (p : Int) : ∀ n, n ≤ l.length → ∃ A, A ≤ n ∧ (∀ j, j < A → pr l j < p) ∧ (∀ j, A ≤ j → j < n → ¬ pr l j < p) ∧ supL l p n = tot l A := by
  intro n
  induction n with
 |zero => intro _; exact ⟨0, by omega, fun j hj => by omega, fun j h1 h2 => by omega, rfl⟩
 |succ n ih =>
    intro hn
    by_cases c : pr l n < p
    · have ha : ∀ m, m < n + 1 → pr l m < p:=fun m hm => by
        have:=srt_le h (a:=m) (b:=n) (by omega) (by omega)
        omega
      exact ⟨n + 1, by omega, ha, fun j h1 h2 => by omega, all_lt l p (n + 1) ha⟩
    · obtain ⟨A, h1, h2, h3, h4⟩:=ih (by omega)
      refine ⟨A, by omega, h2, fun j a b => ?_, ?_⟩
      · by_cases e : j = n
        · rw [e]
          exact c
        · exact h3 j a (by omega)
      · simp only [supL]
        rw [if_neg c]
        exact h4
theorem supM_at {l : List St} (h : Val l) (p : Int) : ∀ n, n ≤ l.length → ∃ A, A ≤ n ∧ (∀ j, j < A → pr l j ≤ p) ∧ (∀ j, A ≤ j → j < n → ¬ pr l j ≤ p) ∧ supM l p n = tot l A := by
  intro n
  induction n with
 |zero => intro _; exact ⟨0, by omega, fun j hj => by omega, fun j h1 h2 => by omega, rfl⟩
 |succ n ih =>
    intro hn
    by_cases c : pr l n ≤ p
    · have ha : ∀ m, m < n + 1 → pr l m ≤ p:=fun m hm => by
        have:=srt_le h (a:=m) (b:=n) (by omega) (by omega)
        omega
      exact ⟨n + 1, by omega, ha, fun j h1 h2 => by omega, (all_le l p (n + 1) ha).1⟩
    · obtain ⟨A, h1, h2, h3, h4⟩:=ih (by omega)
      refine ⟨A, by omega, h2, fun j a b => ?_, ?_⟩
      · by_cases e : j = n
        · rw [e]
          exact c
        · exact h3 j a (by omega)
      · simp only [supM]
        rw [if_neg c]
        exact h4
def NL (l : List Of) (m : Int) (i : Nat) : Int := supL (stO l i) m (stO l i).length
def NM (l : List Of) (m : Int) (i : Nat) : Int := supM (stO l i) m (stO l i).length
def OL (l : List Of) (m : Int) : Int := sm (NL l m) l.length
def OM (l : List Of) (m : Int) : Int := sm (NM l m) l.length
theorem N_bd {l : List Of} (h : Vals l) (m : Int) (i : Nat) (hi : i < l.length) : 0 ≤ NL l m i ∧ NL l m i ≤ NM l m i ∧ NM l m i ≤ lastT l i ∧ lastT l i ≤ 100000 := by
  have hv:=(h.one i hi).2.1
  have h1:=sup_bd hv m (stO l i).length (Nat.le_refl _)
  have h2:=lastT_bd h i hi
  have h3 : supL (stO l i) m (stO l i).length ≤ supM (stO l i) m (stO l i).length:=by
    have : ∀ n, n ≤ (stO l i).length → supL (stO l i) m n ≤ supM (stO l i) m n:=by
      intro n
      induction n with
     |zero => intro _; exact Int.le_refl _
     |succ n ih =>
        intro hn
        have h0:=ih (by omega)
        have hr:=hv.rng n (by omega)
        simp only [supL, supM]
        split <;> split <;> omega
    exact this _ (Nat.le_refl _)
  refine ⟨h1.1, h3, h1.2.2.2, h2.2⟩
def PL (l : List Of) : List Int := (List.range l.length).flatMap fun i => (List.range (stO l i).length).map (pr (stO l i))
theorem mem_PL (l : List Of) (x : Int) : x ∈ PL l ↔ ∃ i, i < l.length ∧ ∃ j, j < (stO l i).length ∧ pr (stO l i) j = x := by
  simp [PL, List.mem_flatMap, List.mem_range, List.mem_map]
theorem max_below (L : List Int) (m : Int) : (∀ x ∈ L, ¬ x < m) ∨ ∃ p ∈ L, p < m ∧ ∀ x ∈ L, x < m → x ≤ p := by
  induction L with
 |nil => exact .inl (fun x hx => by simp at hx)
 |cons y L ih =>
    by_cases c : y < m
    · right
      rcases ih with ih|⟨p, h1, h2, h3⟩
      · exact ⟨y, List.mem_cons_self, c, fun x hx hm => by
          rcases List.mem_cons.1 hx with rfl|hx
          · exact Int.le_refl _
          · exact absurd hm (ih x hx)⟩
      · by_cases c2 : p ≤ y
        · refine ⟨y, List.mem_cons_self, c, fun x hx hm => ?_⟩
          rcases List.mem_cons.1 hx with rfl|hx
          · exact Int.le_refl _
          · have:=h3 x hx hm
            omega
        · refine ⟨p, List.mem_cons_of_mem _ h1, h2, fun x hx hm => ?_⟩
          rcases List.mem_cons.1 hx with rfl|hx
          · omega
          · exact h3 x hx hm
    · rcases ih with ih|⟨p, h1, h2, h3⟩
      · left
        intro x hx
        rcases List.mem_cons.1 hx with rfl|hx
        · exact c
        · exact ih x hx
      · right
        refine ⟨p, List.mem_cons_of_mem _ h1, h2, fun x hx hm => ?_⟩
        rcases List.mem_cons.1 hx with rfl|hx
        · exact absurd hm c
        · exact h3 x hx hm
theorem OL_none (l : List Of) (m : Int) (h : ∀ x ∈ PL l, ¬ x < m) : OL l m = 0 := by
  have : ∀ i, i < l.length → NL l m i = (fun _ => (0 : Int)) i:=by
    intro i hi
    have : ∀ n, n ≤ (stO l i).length → supL (stO l i) m n = 0:=by
      intro n
      induction n with
     |zero => intro _; rfl
     |succ n ih =>
        intro hn
        simp only [supL]
        rw [if_neg (h _ ((mem_PL l _).2 ⟨i, hi, n, by omega, rfl⟩))]
        exact ih (by omega)
    exact this _ (Nat.le_refl _)
  unfold OL
  rw [sm_congr _ this]
  have : ∀ n, sm (fun _ => (0 : Int)) n = 0:=by
    intro n
    induction n with
   |zero => rfl
   |succ n ih => simp only [sm]; omega
  exact this _
theorem OL_max (l : List Of) (m p : Int) (h1 : p < m) (h2 : ∀ x ∈ PL l, x < m → x ≤ p) : OL l m = OM l p := by
  refine sm_congr _ (fun i hi => ?_)
  have : ∀ n, n ≤ (stO l i).length → supL (stO l i) m n = supM (stO l i) p n:=by
    intro n
    induction n with
   |zero => intro _; rfl
   |succ n ih =>
      intro hn
      simp only [supL, supM]
      have hx:=h2 (pr (stO l i) n) ((mem_PL l _).2 ⟨i, hi, n, by omega, rfl⟩)
      rw [ih (by omega)]
      by_cases c : pr (stO l i) n < m
      · rw [if_pos c, if_pos (hx c)]
      · rw [if_neg c, if_neg (by omega)]
  exact this _ (Nat.le_refl _)
def mg1 (l : List Of) (D : Int) (s : List St) : Nat → Nat → Int → Int
 |0, _, b => b
 |d + 1, n, b => mg1 l D s d (n + 1) (if pr s n < b then (if OM l (pr s n) ≥ D then pr s n else b) else b)
def mg0 (l : List Of) (D : Int) : Nat → Nat → Int → Int
 |0, _, b => b
 |d + 1, n, b => mg0 l D d (n + 1) (mg1 l D (stO l n) (stO l n).length 0 b)
def mg (l : List Of) (D : Int) : Int := mg0 l D l.length 0 2000000
theorem mg1_spec (l : List Of) (D : Int) (s : List St) : ∀ d n b, mg1 l D s d n b ≤ b ∧ (mg1 l D s d n b = b ∨ ∃ j, n ≤ j ∧ j < n + d ∧ mg1 l D s d n b = pr s j ∧ OM l (pr s j) ≥ D) ∧ ∀ j, n ≤ j → j < n + d → OM l (pr s j) ≥ D → mg1 l D s d n b ≤ pr s j := by
  intro d
  induction d with
 |zero => intro n b; exact ⟨Int.le_refl _, .inl rfl, fun j h1 h2 => by omega⟩
 |succ d ih =>
    intro n b
    simp only [mg1]
    obtain ⟨h1, h2, h3⟩:=ih (n + 1) (if pr s n < b then (if OM l (pr s n) ≥ D then pr s n else b) else b)
    have hle : (if pr s n < b then (if OM l (pr s n) ≥ D then pr s n else b) else b) ≤ b:=by
      split
      · split <;> omega
      · exact Int.le_refl _
    refine ⟨by omega, ?_, fun j a1 a2 a3 => ?_⟩
    · rcases h2 with h2|⟨j, a1, a2, a3, a4⟩
      · rw [h2]
        by_cases c1 : pr s n < b
        · rw [if_pos c1]
          by_cases c2 : OM l (pr s n) ≥ D
          · rw [if_pos c2]
            exact .inr ⟨n, by omega, by omega, rfl, c2⟩
          · rw [if_neg c2]
            exact .inl rfl
        · rw [if_neg c1]
          exact .inl rfl
      · exact .inr ⟨j, by omega, by omega, a3, a4⟩
    · by_cases e : j = n
      · subst e
        by_cases c1 : pr s j < b
        · rw [if_pos c1, if_pos a3] at h1 ⊢
          exact h1
        · rw [if_neg c1] at h1 ⊢
          omega
      · exact h3 j (by omega) (by omega) a3
theorem mg0_spec (l : List Of) (D : Int) : ∀ d n b, n + d = l.length → mg0 l D d n b ≤ b ∧ (mg0 l D d n b = b ∨ (mg0 l D d n b ∈ PL l ∧ OM l (mg0 l D d n b) ≥ D)) ∧ ∀ i, n ≤ i → i < l.length → ∀ j, j < (stO l i).length → OM l (pr (stO l i) j) ≥ D → mg0 l D d n b ≤ pr (stO l i) j := by
  intro d
  induction d with
 |zero => intro n b hn; exact ⟨Int.le_refl _, .inl rfl, fun i h1 h2 => by omega⟩
 |succ d ih =>
    intro n b hn
    simp only [mg0]
    obtain ⟨g1, g2, g3⟩:=mg1_spec l D (stO l n) (stO l n).length 0 b
    obtain ⟨h1, h2, h3⟩:=ih (n + 1) (mg1 l D (stO l n) (stO l n).length 0 b) (by omega)
    refine ⟨by omega, ?_, fun i a1 a2 j a3 a4 => ?_⟩
    · rcases h2 with h2|h2
      · rw [h2]
        rcases g2 with g2|⟨j, a1, a2, a3, a4⟩
        · exact .inl g2
        · exact .inr ⟨(mem_PL l _).2 ⟨n, by omega, j, by omega, a3.symm⟩, by rw [a3]; exact a4⟩
      · exact .inr h2
    · by_cases e : i = n
      · subst e
        have:=g3 j (by omega) (by omega) a4
        omega
      · exact h3 i (by omega) a2 j a3 a4
theorem PL_bd {l : List Of} (h : Vals l) {x : Int} (hx : x ∈ PL l) : -1000000 ≤ x ∧ x ≤ 1000000 := by
  obtain ⟨i, hi, j, hj, rfl⟩:=(mem_PL l x).1 hx
  have:=(h.one i hi).2.1.rng j hj
  omega
def sumT (l : List Of) : Int := sm (lastT l) l.length
theorem mg_spec {l : List Of} (h : Vals l) (D : Int) (h1 : 1 ≤ D) (h2 : D ≤ sumT l) : mg l D ∈ PL l ∧ OL l (mg l D) < D ∧ D ≤ OM l (mg l D) := by
  obtain ⟨g1, g2, g3⟩:=mg0_spec l D l.length 0 2000000 (by omega)
  have hall : OL l 2000000 = sumT l:=by
    refine sm_congr _ (fun i hi => ?_)
    refine all_lt (stO l i) 2000000 _ (fun m hm => ?_)
    have:=(h.one i hi).2.1.rng m hm
    omega
  have hm : mg l D ∈ PL l ∧ OM l (mg l D) ≥ D:=by
    rcases g2 with g2|g2
    · rcases max_below (PL l) 2000000 with c|⟨p, c1, c2, c3⟩
      · have:=OL_none l 2000000 c
        omega
      · have e:=OL_max l 2000000 p c2 c3
        obtain ⟨i, hi, j, hj, hp⟩:=(mem_PL l p).1 c1
        have:=g3 i (by omega) hi j hj (by rw [hp]; omega)
        have:=PL_bd h c1
        omega
    · exact g2
  refine ⟨hm.1, ?_, hm.2⟩
  apply Decidable.byContradiction
  intro hc
  rcases max_below (PL l) (mg l D) with c|⟨p, c1, c2, c3⟩
  · have:=OL_none l (mg l D) c
    omega
  · have e:=OL_max l (mg l D) p c2 c3
    obtain ⟨i, hi, j, hj, hp⟩:=(mem_PL l p).1 c1
    have : mg l D ≤ pr (stO l i) j:=g3 i (by omega) hi j hj (by rw [hp]; omega)
    omega
def cM (l : List Of) (m : Int) (i : Nat) : Int := NM l m i - NL l m i
def al (l : List Of) (m r : Int) (i : Nat) : Int := NL l m i + mn (mx (r - sm (cM l m) i) 0) (cM l m i)
theorem cM_nn {l : List Of} (h : Vals l) (m : Int) (i : Nat) (hi : i < l.length) : 0 ≤ cM l m i := by
  have:=N_bd h m i hi
  unfold cM
  omega
theorem al_bd {l : List Of} (h : Vals l) (m r : Int) (i : Nat) (hi : i < l.length) : NL l m i ≤ al l m r i ∧ al l m r i ≤ NM l m i := by
  have:=cM_nn h m i hi
  unfold al
  have e : NM l m i = NL l m i + cM l m i:=by unfold cM; omega
  rw [e]
  unfold mn mx
  split <;> split <;> omega
theorem sm_cM (l : List Of) (m : Int) : ∀ n, sm (cM l m) n = sm (NM l m) n - sm (NL l m) n := by
  intro n
  induction n with
 |zero => rfl
 |succ n ih =>
    simp only [sm]
    rw [ih]
    unfold cM
    omega
theorem sm_al {l : List Of} (h : Vals l) (m r : Int) (hr : 0 ≤ r) : ∀ n, n ≤ l.length → sm (al l m r) n = sm (NL l m) n + mn r (sm (cM l m) n) := by
  intro n
  induction n with
 |zero =>
    intro _
    simp only [sm]
    rw [mn_ge hr]
    omega
 |succ n ih =>
    intro hn
    have hc:=cM_nn h m n (by omega)
    have h0:=sm_mono (f:=cM l m) (N:=l.length) (fun i hi => cM_nn h m i hi) (a:=0) (b:=n) (by omega) (by omega)
    simp only [sm] at h0 ⊢
    rw [ih (by omega)]
    unfold al mn mx
    repeat' split
    all_goals omega
def supB (b : Bool) (s : List St) (p : Int) (n : Nat) : Int := if b = true then supM s p n else supL s p n
def NB (b : Bool) (l : List Of) (p : Int) (i : Nat) : Int := supB b (stO l i) p (stO l i).length
theorem supB_bd {s : List St} (h : Val s) (b : Bool) (p : Int) (n : Nat) (hn : n ≤ s.length) : 0 ≤ supB b s p n ∧ supB b s p n ≤ 100000 := by
  have h1:=sup_bd h p n hn
  have h2:=h.bd n hn
  unfold supB
  split <;> omega
theorem NB_bd {l : List Of} (h : Vals l) (b : Bool) (p : Int) (i : Nat) (hi : i < l.length) : 0 ≤ NB b l p i ∧ NB b l p i ≤ 100000 := supB_bd (h.one i hi).2.1 b p _ (Nat.le_refl _)
theorem smNB_bd {l : List Of} (h : Vals l) (b : Bool) (p : Int) : ∀ n, n ≤ l.length → 0 ≤ sm (NB b l p) n ∧ sm (NB b l p) n ≤ 100000 * (n : Int) := by
  intro n
  induction n with
 |zero => intro _; simp [sm]
 |succ n ih =>
    intro hn
    have h0:=ih (by omega)
    have h1:=NB_bd h b p n (by omega)
    simp only [sm]
    omega
theorem offered_l1 (l : List Of) (h : Vals l) (p : Int) (b : Bool) (i : Nat) (hi : i < l.length) (base : Int) (hb : 0 ≤ base ∧ base ≤ 1000000) (r : Int)
    (hr : Evt (fun k => dispatch_offered.l0 k p b (base + NB b l p i) l (l.length : Int) ((i + 1 : Nat) : Int)) r) :
    ∀ n, n ≤ (stO l i).length → Evt (fun k => dispatch_offered.l1 k p b (base + supB b (stO l i) p n) l (l.length : Int) (i : Int) (stO l i) ((stO l i).length : Int) (n : Int)) r:=by
  have hl:=h.len
  have hv:=(h.one i hi).2.1
  have hs:=hv.len
  refine down ?_ ?_
  · refine Evt.succ ?_
    simp only [dispatch_offered.l1]
    rw [wrap64_nat (n:=i) (by omega)]
    exact Evt.ite_neg (by omega) hr
  · intro n hn ih
    refine Evt.succ ?_
    simp only [dispatch_offered.l1]
    refine Evt.ite_pos (by omega) (Evt.ite_pos (by omega) (Evt.ite_pos (by omega) ?_))
    simp only [rd0, rd1]
    have hb1:=supB_bd hv b p n (by omega)
    have hb2:=hv.rng n hn
    rw [wrap64_of (x:=base + supB b (stO l i) p n + pw (stO l i) n) (by omega) (by omega), wrap64_nat (n:=n) (by omega)]
    have e1 : (pr (stO l i) n < p ∨ (b = true ∧ pr (stO l i) n = p)) → supB b (stO l i) p (n + 1) = supB b (stO l i) p n + pw (stO l i) n:=by
      intro hc
      unfold supB
      cases b with
     |true => simp only [if_true, supM]; exact if_pos (by omega)
     |false =>
        have hc : pr (stO l i) n < p:=by simpa using hc
        simp only [supL]
        rw [if_pos hc]
        rfl
    have e2 : ¬ (pr (stO l i) n < p ∨ (b = true ∧ pr (stO l i) n = p)) → supB b (stO l i) p (n + 1) = supB b (stO l i) p n:=by
      intro hc
      unfold supB
      cases b with
     |true =>
        have hc : ¬ (pr (stO l i) n < p ∨ pr (stO l i) n = p):=by simpa using hc
        simp only [if_true, supM]
        exact if_neg (by omega)
     |false =>
        have hc : ¬ pr (stO l i) n < p:=fun hh => hc (.inl hh)
        simp only [supL]
        rw [if_neg hc, if_neg (by simp), if_neg (by simp)]
    refine Evt.ite (fun c => ?_) (fun c => Evt.ite (fun c2 => Evt.ite (fun c3 => ?_) (fun c3 => ?_)) (fun c2 => ?_))
    · rw [e1 (.inl c)] at ih
      rw [Int.add_assoc]
      exact ih
    · rw [e1 (.inr ⟨c2, c3⟩)] at ih
      rw [Int.add_assoc]
      exact ih
    · rw [e2 (fun hh => hh.elim c (fun z => c3 z.2))] at ih
      exact ih
    · rw [e2 (fun hh => hh.elim c (fun z => c2 z.1))] at ih
      exact ih
theorem offered_l0 (l : List Of) (h : Vals l) (p : Int) (b : Bool) : ∀ n, n ≤ l.length → Evt (fun k => dispatch_offered.l0 k p b (sm (NB b l p) n) l (l.length : Int) (n : Int)) (sm (NB b l p) l.length) := by
  have hl:=h.len
  refine down ?_ ?_
  · refine Evt.succ ?_
    simp only [dispatch_offered.l0]
    exact Evt.ite_neg (by omega) (Evt.pure _)
  · intro n hn ih
    refine Evt.succ ?_
    simp only [dispatch_offered.l0]
    refine Evt.ite_pos (by omega) (Evt.ite_pos (by omega) (Evt.ite_pos (by omega) ?_))
    simp only [rdO1]
    have hb:=smNB_bd h b p n (by omega)
    have:=offered_l1 l h p b n hn (sm (NB b l p) n) (by omega) _ ih 0 (by omega)
    have e : supB b (stO l n) p 0 = 0:=by unfold supB; split <;> rfl
    rw [e, Int.add_zero] at this
    exact this
theorem offeredT_ev (l : List Of) (h : Vals l) (p : Int) : Evt (fun k => dispatch_offered.f k l p true) (OM l p) := by
  simp only [dispatch_offered.f]
  have:=offered_l0 l h p true 0 (by omega)
  exact this
theorem offeredF_ev (l : List Of) (h : Vals l) (p : Int) : Evt (fun k => dispatch_offered.f k l p false) (OL l p) := by
  simp only [dispatch_offered.f]
  have:=offered_l0 l h p false 0 (by omega)
  exact this
theorem marginal_l1 (l : List Of) (h : Vals l) (D : Int) (i : Nat) (hi : i < l.length) (r : Int) :
    ∀ n, n ≤ (stO l i).length → ∀ b : Int, Evt (fun k => dispatch_marginal.l0 k l D (mg1 l D (stO l i) ((stO l i).length - n) n b) l (l.length : Int) ((i + 1 : Nat) : Int)) r → Evt (fun k => dispatch_marginal.l1 k l D b l (l.length : Int) (i : Int) (stO l i) ((stO l i).length : Int) (n : Int)) r:=by
  have hl:=h.len
  have hv:=(h.one i hi).2.1
  have hs:=hv.len
  refine down ?_ ?_
  · intro b hr
    rw [Nat.sub_self] at hr
    refine Evt.succ ?_
    simp only [dispatch_marginal.l1]
    rw [wrap64_nat (n:=i) (by omega)]
    exact Evt.ite_neg (by omega) hr
  · intro n hn ih b hr
    obtain ⟨d, hd⟩ : ∃ d, (stO l i).length - n = d + 1:=⟨(stO l i).length - n - 1, by omega⟩
    rw [show (stO l i).length - (n + 1) = d by omega] at ih
    rw [hd] at hr
    simp only [mg1] at hr
    refine Evt.succ ?_
    simp only [dispatch_marginal.l1]
    refine Evt.ite_pos (by omega) (Evt.ite_pos (by omega) (Evt.ite_pos (by omega) ?_))
    simp only [rd1]
    rw [wrap64_nat (n:=n) (by omega)]
    refine Evt.ite (fun c => Evt.bind (offeredT_ev l h _) (Evt.ite (fun c2 => ih _ ?_) (fun c2 => ih _ ?_))) (fun c => ih _ ?_)
    · rw [if_pos c, if_pos c2] at hr
      exact hr
    · rw [if_pos c, if_neg c2] at hr
      exact hr
    · rw [if_neg c] at hr
      exact hr
theorem marginal_l0 (l : List Of) (h : Vals l) (D : Int) : ∀ n, n ≤ l.length → ∀ b : Int, Evt (fun k => dispatch_marginal.l0 k l D b l (l.length : Int) (n : Int)) (mg0 l D (l.length - n) n b) := by
  have hl:=h.len
  refine down ?_ ?_
  · intro b
    refine Evt.succ ?_
    simp only [dispatch_marginal.l0, Nat.sub_self, mg0]
    exact Evt.ite_neg (by omega) (Evt.pure _)
  · intro n hn ih b
    obtain ⟨d, hd⟩ : ∃ d, l.length - n = d + 1:=⟨l.length - n - 1, by omega⟩
    rw [show l.length - (n + 1) = d by omega] at ih
    rw [hd]
    refine Evt.succ ?_
    simp only [dispatch_marginal.l0, mg0]
    refine Evt.ite_pos (by omega) (Evt.ite_pos (by omega) (Evt.ite_pos (by omega) ?_))
    simp only [rdO1]
    exact marginal_l1 l h D n hn _ 0 (by omega) b (ih _)
theorem marginal_ev (l : List Of) (h : Vals l) (D : Int) : Evt (fun k => dispatch_marginal.f k l D) (mg l D) := by
  simp only [dispatch_marginal.f]
  exact marginal_l0 l h D 0 (by omega) 2000000
theorem sumT_bd {l : List Of} (h : Vals l) : ∀ n, n ≤ l.length → 0 ≤ sm (lastT l) n ∧ sm (lastT l) n ≤ 100000 * (n : Int) := by
  intro n
  induction n with
 |zero => intro _; simp [sm]
 |succ n ih =>
    intro hn
    have h0:=ih (by omega)
    have h1:=lastT_bd h n (by omega)
    simp only [sm]
    omega
theorem dsum_l0 (l : List Of) (h : Vals l) : ∀ n, n ≤ l.length → Evt (fun k => dispatch_sum.l0 k (sm (lastT l) n) l (l.length : Int) (n : Int)) (sumT l) := by
  have hl:=h.len
  refine down ?_ ?_
  · refine Evt.succ ?_
    simp only [dispatch_sum.l0]
    exact Evt.ite_neg (by omega) (Evt.pure _)
  · intro n hn ih
    refine Evt.succ ?_
    simp only [dispatch_sum.l0]
    refine Evt.ite_pos (by omega) (Evt.ite_pos (by omega) (Evt.ite_pos (by omega) ?_))
    simp only [rdO0, rdO1]
    refine Evt.bind (Most_ev _ _ (h.one n hn).2.1) ?_
    have hb:=sumT_bd h (n + 1) (by omega)
    have e : sm (lastT l) n + tot (stO l n) (stO l n).length = sm (lastT l) (n + 1):=rfl
    rw [e, wrap64_of (x:=sm (lastT l) (n + 1)) (by omega) (by omega), wrap64_nat (by omega)]
    exact ih
theorem dsum_ev (l : List Of) (h : Vals l) : Evt (fun k => dispatch_sum.f k l) (sumT l) := by
  simp only [dispatch_sum.f]
  exact dsum_l0 l h 0 (by omega)
def chkR (l : List Of) (D : Int) : Int := if offsErr l = 0 then (if 0 ≤ D ∧ D ≤ 1000000 then (if D > sumT l then 8 else 0) else 4) else offsErr l
theorem dcheck_ev (l : List Of) (D : Int) : Evt (fun k => dispatch_check.f k l D) (chkR l D) := by
  simp only [dispatch_check.f]
  refine Evt.bind (offer_CheckAll_ev l) ?_
  unfold chkR
  by_cases h : offsErr l = 0
  · rw [if_pos h]
    refine Evt.ite_pos h ?_
    have bad : ∀ b, b = true → Evt (fun k => dispatch_check.j0 k l D b) 4:=by
      intro b hb
      refine Evt.succ ?_
      simp only [dispatch_check.j0]
      exact Evt.ite_pos hb (Evt.pure _)
    by_cases c : 0 ≤ D ∧ D ≤ 1000000
    · rw [if_pos c]
      refine Evt.ite_neg (by omega) (Evt.succ ?_)
      simp only [dispatch_check.j0]
      refine Evt.ite_neg (by simp; omega) (Evt.bind (dsum_ev l (offsErr_val h)) (Evt.ite (fun c2 => Evt.of_eq (if_pos c2).symm) (fun c2 => Evt.of_eq (if_neg c2).symm)))
    · rw [if_neg c]
      exact Evt.ite (fun _ => bad _ rfl) (fun c1 => bad _ (decide_eq_true (by omega)))
  · rw [if_neg h]
    exact Evt.ite_neg h (Evt.pure _)
theorem chkR_ok {l : List Of} {D : Int} (h : chkR l D = 0) : Vals l ∧ offsErr l = 0 ∧ 0 ≤ D ∧ D ≤ sumT l := by
  unfold chkR at h
  by_cases h1 : offsErr l = 0
  · rw [if_pos h1] at h
    by_cases h2 : 0 ≤ D ∧ D ≤ 1000000
    · rw [if_pos h2] at h
      by_cases h3 : D > sumT l
      · rw [if_pos h3] at h
        omega
      · exact ⟨offsErr_val h1, h1, h2.1, by omega⟩
    · rw [if_neg h2] at h
      omega
  · rw [if_neg h1] at h
    exact absurd h h1
def cF (l : List Of) (f : Nat → Int) (i : Nat) : Int := cstO l i (f i)
theorem cF_bd {l : List Of} (h : Vals l) (f : Nat → Int) : ∀ n, n ≤ l.length → -1200000000000 * (n : Int) ≤ sm (cF l f) n ∧ sm (cF l f) n ≤ 1200000000000 * (n : Int) := by
  intro n
  induction n with
 |zero => intro _; simp [sm]
 |succ n ih =>
    intro hn
    have h0:=ih (by omega)
    have h1:=cstO_bd h n (by omega) (f n)
    simp only [sm]
    have e : cF l f n = cstO l n (f n):=rfl
    rw [e]
    omega
theorem dcosts_l0 (l : List Of) (h : Vals l) (f : Nat → Int) (hf : ∀ i, i < l.length → 0 ≤ f i ∧ f i ≤ lastT l i) : ∀ n, n ≤ l.length → Evt (fun k => dispatch_costs.l0 k (tab f l.length) (sm (cF l f) n) l (l.length : Int) (n : Int)) (tab f l.length, sm (cF l f) l.length, 0) := by
  have hl:=h.len
  refine down ?_ ?_
  · refine Evt.succ ?_
    simp only [dispatch_costs.l0]
    exact Evt.ite_neg (by omega) (Evt.pure _)
  · intro n hn ih
    refine Evt.succ ?_
    simp only [dispatch_costs.l0, tab_len]
    refine Evt.ite_pos (by omega) (Evt.ite_pos (by omega) (Evt.ite_pos (by omega) (Evt.ite_pos (by omega) ?_)))
    simp only [rdO0, rdO1]
    rw [tab_get f hn]
    refine Evt.bind (Cost_ev _ _ _) ?_
    have ho:=(h.one n hn).2.2.1
    have e : costR (nmO l n) (stO l n) (f n) = (cstO l n (f n), 0):=by
      unfold costR
      rw [if_pos ho]
      exact if_pos (hf n hn)
    have hb:=cF_bd h f (n + 1) (by omega)
    have e2 : sm (cF l f) n + cstO l n (f n) = sm (cF l f) (n + 1):=rfl
    rw [e]
    show Evt (fun k => dispatch_costs.l0 k (tab f l.length) (wrap64 (sm (cF l f) n + cstO l n (f n))) l (l.length : Int) (wrap64 ((n : Int) + 1))) _
    rw [e2, wrap64_of (x:=sm (cF l f) (n + 1)) (by omega) (by omega), wrap64_nat (by omega)]
    exact ih
def fD (l : List Of) (D : Int) (i : Nat) : Int := if D = 0 then 0 else al l (mg l D) (D - OL l (mg l D)) i
def bestR (l : List Of) (D : Int) : List Int × Int × Int := if chkR l D = 0 then (tab (fD l D) l.length, sm (cF l (fD l D)) l.length, 0) else ([], 0, chkR l D)
theorem cstO_zero (l : List Of) (h : Vals l) (i : Nat) (hi : i < l.length) : cstO l i 0 = 0 := by
  have:=cst_tot (h.one i hi).2.1 0 (by omega) (stO l i).length (Nat.le_refl _)
  rw [Nat.min_eq_right (by omega)] at this
  exact this
theorem fD_bd {l : List Of} (h : Vals l) (D : Int) : ∀ i, i < l.length → 0 ≤ fD l D i ∧ fD l D i ≤ lastT l i := by
  intro i hi
  unfold fD
  split
  · have:=lastT_bd h i hi
    omega
  · have h1:=al_bd h (mg l D) (D - OL l (mg l D)) i hi
    have h2:=N_bd h (mg l D) i hi
    omega
theorem Best_l0 (l : List Of) (h : Vals l) (m r : Int) (hm : -1000000 ≤ m ∧ m ≤ 1000000) (hr : 0 ≤ r ∧ r ≤ 1000000) : ∀ n, n ≤ l.length → Evt (fun k => dispatch_Best.l0 k l (tab (fun j => if j < n then al l m r j else 0) l.length) m (mx (r - sm (cM l m) n) 0) l (l.length : Int) (n : Int)) (tab (al l m r) l.length, sm (cF l (al l m r)) l.length, 0) := by
  have hl:=h.len
  refine down ?_ ?_
  · refine Evt.succ ?_
    simp only [dispatch_Best.l0]
    refine Evt.ite_neg (by omega) ?_
    have e : tab (fun j => if j < l.length then al l m r j else 0) l.length = tab (al l m r) l.length:=tab_congr (fun i hi => if_pos hi)
    rw [e]
    refine Evt.bind (g:=fun k => dispatch_costs.f k l (tab (al l m r) l.length)) (a:=(tab (al l m r) l.length, sm (cF l (al l m r)) l.length, 0)) ?_ (Evt.pure _)
    simp only [dispatch_costs.f]
    refine dcosts_l0 l h (al l m r) (fun i hi => ?_) 0 (by omega)
    have h1:=al_bd h m r i hi
    have h2:=N_bd h m i hi
    omega
  · intro n hn ih
    refine Evt.succ ?_
    simp only [dispatch_Best.l0, tab_len]
    refine Evt.ite_pos (by omega) (Evt.ite_pos (by omega) (Evt.ite_pos (by omega) ?_))
    simp only [rdO0, rdO1]
    refine Evt.bind (Supply_ev _ _ _) (Evt.ite_pos (by omega) ?_)
    have ho:=(h.one n hn).2.2.1
    have e : supR (nmO l n) (stO l n) m = (NL l m n, NM l m n, 0):=by
      unfold supR
      rw [if_pos ho]
      exact if_pos (by omega)
    have hb:=N_bd h m n hn
    have hc:=cM_nn h m n hn
    have h0:=sm_mono (f:=cM l m) (N:=l.length) (fun i hi => cM_nn h m i hi) (a:=0) (b:=n) (by omega) (by omega)
    simp only [sm] at h0
    have ec : NM l m n - NL l m n = cM l m n:=rfl
    have ea : NL l m n + mn (mx (r - sm (cM l m) n) 0) (cM l m n) = al l m r n:=rfl
    have hal:=al_bd h m r n hn
    have en : mx (r - sm (cM l m) n) 0 - mn (mx (r - sm (cM l m) n) 0) (cM l m n) = mx (r - sm (cM l m) (n + 1)) 0:=by
      simp only [sm]
      unfold mn mx
      repeat' split
      all_goals omega
    have hbn : 0 ≤ mx (r - sm (cM l m) (n + 1)) 0 ∧ mx (r - sm (cM l m) (n + 1)) 0 ≤ 1000000:=by
      simp only [sm]
      unfold mx
      split <;> omega
    rw [e]
    try simp only []
    rw [ec, wrap64_of (x:=cM l m n) (by omega) (by omega), ea, en, wrap64_of (x:=al l m r n) (by omega) (by omega), wrap64_of (x:=mx (r - sm (cM l m) (n + 1)) 0) (by omega) (by omega), wrap64_nat (by omega), tab_set]
    have e3 : tab (fun j => if j = n then al l m r n else if j < n then al l m r j else 0) l.length = tab (fun j => if j < n + 1 then al l m r j else 0) l.length:=by
      refine tab_congr (fun i hi => ?_)
      show (if i = n then al l m r n else if i < n then al l m r i else 0) = (if i < n + 1 then al l m r i else 0)
      by_cases c : i = n
      · rw [if_pos c, if_pos (by omega), c]
      · rw [if_neg c]
        by_cases c2 : i < n
        · rw [if_pos c2, if_pos (by omega)]
        · rw [if_neg c2, if_neg (by omega)]
    rw [e3]
    exact ih
theorem Best_ev (l : List Of) (D : Int) : Evt (fun k => dispatch_Best.f k l D) (bestR l D) := by
  simp only [dispatch_Best.f]
  refine Evt.bind (dcheck_ev l D) ?_
  unfold bestR
  by_cases h : chkR l D = 0
  · rw [if_pos h]
    obtain ⟨hv, _, h0, h1⟩:=chkR_ok h
    have hl:=hv.len
    refine Evt.ite_pos h (Evt.ite_pos (by omega) (Evt.ite_pos (by omega) (Evt.bindo rfl ?_)))
    rw [show ((l.length : Int)).toNat = l.length by omega, tab_zero]
    by_cases hD : D = 0
    · refine Evt.ite_pos hD (Evt.of_eq ?_)
      have e1 : tab (fun _ => 0) l.length = tab (fD l D) l.length:=tab_congr (fun i hi => by unfold fD; rw [if_pos hD])
      have e2 : sm (cF l (fD l D)) l.length = sm (fun _ => (0 : Int)) l.length:=sm_congr _ (fun i hi => by
        unfold cF fD
        rw [if_pos hD]
        exact cstO_zero l hv i hi)
      have e3 : ∀ n, sm (fun _ => (0 : Int)) n = 0:=by
        intro n
        induction n with
       |zero => rfl
       |succ n ih => simp only [sm]; omega
      rw [e1, e2, e3]
    · have hm:=mg_spec hv D (by omega) h1
      have hp:=PL_bd hv hm.1
      refine Evt.ite_neg hD (Evt.bind (marginal_ev l hv D) (Evt.bind (offeredF_ev l hv _) ?_))
      have hs:=sumT_bd hv l.length (Nat.le_refl _)
      have hOL : 0 ≤ OL l (mg l D):=sm_nonneg _ (fun i hi => (N_bd hv (mg l D) i hi).1)
      have es : sumT l = sm (lastT l) l.length:=rfl
      rw [wrap64_of (x:=D - OL l (mg l D)) (by omega) (by omega)]
      have:=Best_l0 l hv (mg l D) (D - OL l (mg l D)) hp (by omega) 0 (by omega)
      simp only [sm] at this
      rw [mx_ge (a:=D - OL l (mg l D) - 0) (b:=0) (by omega), Int.sub_zero] at this
      have e1 : tab (fun j => if j < 0 then al l (mg l D) (D - OL l (mg l D)) j else 0) l.length = tab (fun _ => 0) l.length:=tab_congr (fun i hi => by
        show (if i < 0 then _ else (0 : Int)) = 0
        exact if_neg (by omega))
      rw [e1] at this
      have e2 : ∀ i, i < l.length → fD l D i = al l (mg l D) (D - OL l (mg l D)) i:=fun i hi => by unfold fD; exact if_neg hD
      rw [tab_congr e2, sm_congr (f:=cF l (fD l D)) (g:=cF l (al l (mg l D) (D - OL l (mg l D)))) l.length (fun i hi => by unfold cF; rw [e2 i hi])]
      exact this
  · rw [if_neg h]
    exact Evt.ite_neg h (Evt.pure _)
end Go.Proofs.Ytdphghdjljplpaa.BTopHours
