import Derived.Test.YtdgjelbkogfedaaEvs
import Derived.Test.YtdgjelbkogfedaaHAuctionClearsy1
import Derived.Test.YtdgjelbkogfedaaHAuctionClearsy2
import Derived.Test.YtdgjelbkogfedaaHAuctionClearsy3
import Derived.Test.YtdgjelbkogfedaaHAuctionClearsy10
namespace Go.Proofs.Ytdgjelbkogfedaa.BAuctionClears
open Go.RowKit Go.Proofs.YtdgjelbkogfedaaW.PrintWords Go.Proofs.YtdgjelbkogfedaaW.PrintMore Go.Proofs.Ytdgjelbkogfedaa.Evs Go.Proofs.Ytdgjelbkogfedaa.PAuctionClears
set_option linter.unusedVariables false
set_option linter.unusedSectionVars false
set_option linter.unusedSimpArgs false
theorem bt_bd (s : ByteArray) (i : Int) : 0 ≤ bt s i ∧ bt s i ≤ 255 := by
  unfold bt
  split
  · rename_i h
    have:=(s[i.toNat]'h).toNat_lt
    omega
  · omega
def okc (c : Int) : Bool := decide ((65 ≤ c ∧ c ≤ 90) ∨ (48 ≤ c ∧ c ≤ 57))
theorem okc_t {c : Int} (h : (65 ≤ c ∧ c ≤ 90) ∨ (48 ≤ c ∧ c ≤ 57)) : okc c = true := decide_eq_true h
theorem okc_f {c : Int} (h : ¬ ((65 ≤ c ∧ c ≤ 90) ∨ (48 ≤ c ∧ c ≤ 57))) : okc c = false := decide_eq_false h
def allC (s : ByteArray) : Nat → Nat → Bool
 |0, _ => true
 |d + 1, n => okc (bt s n) && allC s d (n + 1)
def nameB (s : ByteArray) : Bool := decide (1 ≤ s.size ∧ s.size ≤ 8 ∧ ¬ (48 ≤ bt s 0 ∧ bt s 0 ≤ 57)) && allC s s.size 0
theorem offer_named_l0 (s : ByteArray) (hs : s.size ≤ 8) : ∀ n, n ≤ s.size → Evt (fun k => offer_named.l0 k s (s.size : Int) (n : Int)) (allC s (s.size - n) n) := by
  refine down ?_ ?_
  · refine Evt.succ ?_
    simp only [offer_named.l0, Nat.sub_self, allC]
    exact Evt.ite_neg (by omega) (Evt.pure _)
  · intro n hn ih
    refine Evt.succ ?_
    obtain ⟨d, hd⟩ : ∃ d, s.size - n = d + 1:=⟨s.size - n - 1, by omega⟩
    have hd' : s.size - (n + 1) = d:=by omega
    rw [hd'] at ih
    rw [hd]
    simp only [offer_named.l0, allC]
    refine Evt.ite_pos (by omega) (Evt.ite_pos (by omega) (Evt.ite_pos (by omega) ?_))
    rw [wrap64_nat (by omega)]
    have bad : ¬ ((65 ≤ bt s n ∧ bt s n ≤ 90) ∨ (48 ≤ bt s n ∧ bt s n ≤ 57)) → false = (okc (bt s n) && allC s d (n + 1)):=fun h => by rw [okc_f h]; rfl
    have fine : ((65 ≤ bt s n ∧ bt s n ≤ 90) ∨ (48 ≤ bt s n ∧ bt s n ≤ 57)) → allC s d (n + 1) = (okc (bt s n) && allC s d (n + 1)):=fun h => by rw [okc_t h, Bool.true_and]
    refine Evt.ite (fun h1 => Evt.ite (fun h2 => Evt.of_eq (bad (by omega))) (fun h2 => Evt.ite (fun h3 => Evt.of_eq (bad (by omega))) (fun h3 => Evt.cast ih (fine (by omega)))))
      (fun h1 => Evt.ite (fun h2 => Evt.ite (fun h3 => Evt.of_eq (bad (by omega))) (fun h3 => Evt.ite (fun h4 => Evt.of_eq (bad (by omega))) (fun h4 => Evt.cast ih (fine (by omega))))) (fun h2 => Evt.cast ih (fine (by omega))))
theorem offer_named_ev (s : ByteArray) : Evt (fun k => offer_named.f k s) (nameB s) := by
  simp only [offer_named.f]
  have j0t : ∀ b, b = true → nameB s = false → Evt (fun k => offer_named.j0 k s b) (nameB s):=by
    intro b hb hn
    subst hb
    refine Evt.succ ?_
    simp only [offer_named.j0]
    exact Evt.ite_pos (by simp) (Evt.of_eq hn.symm)
  by_cases h0 : s.size = 0
  · refine Evt.ite_pos ((toList_nil s).2 h0) (j0t _ rfl ?_)
    unfold nameB
    rw [decide_eq_false (by omega)]
    rfl
  · refine Evt.ite_neg (fun h => h0 ((toList_nil s).1 h)) ?_
    by_cases h8 : s.size ≤ 8
    · refine Evt.ite_neg (by omega) (Evt.ite_pos (by omega) ?_)
      have go : ∀ b, b = decide (48 ≤ bt s 0 ∧ bt s 0 ≤ 57) → Evt (fun k => offer_named.j0 k s b) (nameB s):=by
        intro b hb
        by_cases hc : 48 ≤ bt s 0 ∧ bt s 0 ≤ 57
        · refine j0t b (by rw [hb]; exact decide_eq_true hc) ?_
          unfold nameB
          rw [decide_eq_false (by omega)]
          rfl
        · rw [decide_eq_false hc] at hb
          subst hb
          refine Evt.succ ?_
          simp only [offer_named.j0]
          refine Evt.ite_neg (by simp) ?_
          have:=offer_named_l0 s h8 0 (by omega)
          refine Evt.cast this ?_
          unfold nameB
          rw [decide_eq_true (by omega)]
          rfl
      refine Evt.ite (fun h => go _ ?_) (fun h => go _ ?_)
      · exact decide_eq_decide.2 (by omega)
      · exact (decide_eq_false (by omega)).symm
    · refine Evt.ite_pos (by omega) (j0t _ rfl ?_)
      unfold nameB
      rw [decide_eq_false (by omega)]
      rfl
theorem in_eq (a b c : Int) : gridhallref3_In.f a b c = some (decide (b ≤ a ∧ a ≤ c)) := by
  unfold gridhallref3_In.f
  by_cases h : a ≥ b
  · rw [if_pos h]
    congr 1
    exact decide_eq_decide.2 (by omega)
  · rw [if_neg h, decide_eq_false (by omega)]
theorem ref_Named_l0 (s : ByteArray) (hs : s.size ≤ 8) : ∀ n, n ≤ s.size → Evt (fun k => gridhallref3_Named.l0 k s (s.size : Int) (n : Int)) (allC s (s.size - n) n) := by
  refine down ?_ ?_
  · refine Evt.succ ?_
    simp only [gridhallref3_Named.l0, Nat.sub_self, allC]
    exact Evt.ite_neg (by omega) (Evt.pure _)
  · intro n hn ih
    refine Evt.succ ?_
    obtain ⟨d, hd⟩ : ∃ d, s.size - n = d + 1:=⟨s.size - n - 1, by omega⟩
    have hd' : s.size - (n + 1) = d:=by omega
    rw [hd'] at ih
    rw [hd]
    simp only [gridhallref3_Named.l0, allC]
    refine Evt.ite_pos (by omega) (Evt.ite_pos (by omega) (Evt.ite_pos (by omega) ?_))
    have hb:=bt_bd s n
    rw [wrap64_nat (by omega), wrap64_of (x:=bt s n) (by omega) (by omega)]
    simp only [in_eq, Option.bind_some]
    have bad : ¬ ((65 ≤ bt s n ∧ bt s n ≤ 90) ∨ (48 ≤ bt s n ∧ bt s n ≤ 57)) → false = (okc (bt s n) && allC s d (n + 1)):=fun h => by rw [okc_f h]; rfl
    have fine : ((65 ≤ bt s n ∧ bt s n ≤ 90) ∨ (48 ≤ bt s n ∧ bt s n ≤ 57)) → allC s d (n + 1) = (okc (bt s n) && allC s d (n + 1)):=fun h => by rw [okc_t h, Bool.true_and]
    refine Evt.ite (fun h1 => Evt.cast ih (fine (by simp at h1; omega))) (fun h1 => Evt.ite (fun h2 => Evt.cast ih (fine (by simp at h2; omega))) (fun h2 => Evt.of_eq (bad (by simp at h1 h2; omega))))
theorem ref_Named_ev (s : ByteArray) : Evt (fun k => gridhallref3_Named.f k s) (nameB s) := by
  simp only [gridhallref3_Named.f]
  have j0t : ∀ b, b = true → nameB s = false → Evt (fun k => gridhallref3_Named.j0 k s b) (nameB s):=by
    intro b hb hn
    subst hb
    refine Evt.succ ?_
    simp only [gridhallref3_Named.j0]
    exact Evt.ite_pos (by simp) (Evt.of_eq hn.symm)
  by_cases h0 : s.size = 0
  · refine Evt.ite_pos (by omega) (j0t _ rfl ?_)
    unfold nameB
    rw [decide_eq_false (by omega)]
    rfl
  · refine Evt.ite_neg (by omega) ?_
    by_cases h8 : s.size ≤ 8
    · refine Evt.ite_neg (by omega) (Evt.ite_pos (by omega) ?_)
      have hb:=bt_bd s 0
      rw [wrap64_of (x:=bt s 0) (by omega) (by omega)]
      simp only [in_eq, Option.bind_some]
      by_cases hc : 48 ≤ bt s 0 ∧ bt s 0 ≤ 57
      · refine j0t _ (decide_eq_true hc) ?_
        unfold nameB
        rw [decide_eq_false (by omega)]
        rfl
      · rw [decide_eq_false hc]
        refine Evt.succ ?_
        simp only [gridhallref3_Named.j0]
        refine Evt.ite_neg (by simp) ?_
        refine Evt.cast (ref_Named_l0 s h8 0 (by omega)) ?_
        unfold nameB
        rw [decide_eq_true (by omega)]
        rfl
    · refine Evt.ite_pos (by omega) (j0t _ rfl ?_)
      unfold nameB
      rw [decide_eq_false (by omega)]
      rfl
abbrev St := S116
abbrev zSt : St := z116
def pw (l : List St) (n : Nat) : Int := (l.getD n zSt).f0
def pr (l : List St) (n : Nat) : Int := (l.getD n zSt).f1
theorem rd0 (l : List St) (n : Nat) : (rd_T116 l (n : Int)).f0 = pw l n := Eq.trans rfl rfl
theorem rd1 (l : List St) (n : Nat) : (rd_T116 l (n : Int)).f1 = pr l n := Eq.trans rfl rfl
def tot (l : List St) : Nat → Int
 |0 => 0
 |n + 1 => tot l n + pw l n
def stepErr (l : List St) : Nat → Nat → Int
 |0, _ => 0
 |d + 1, n => if ¬ (1 ≤ pw l n ∧ pw l n ≤ 100000 ∧ -1000000 ≤ pr l n ∧ pr l n ≤ 1000000) then 4 else if 0 < n ∧ pr l n < pr l (n - 1) then 3 else if tot l (n + 1) > 100000 then 2 else stepErr l d (n + 1)
def offErr (s : ByteArray) (l : List St) : Int := if nameB s = true then (if l.length > 12 then 2 else stepErr l l.length 0) else 6
theorem pred_cast {n : Nat} (h : 0 < n) (hb : n ≤ 9223372036854775807) : wrap64 ((n : Int) - 1) = ((n - 1 : Nat) : Int) := by
  unfold wrap64
  omega
def Pre (l : List St) (n : Nat) : Prop := (∀ m, m < n → 1 ≤ pw l m ∧ pw l m ≤ 100000) ∧ tot l n ≤ 100000
theorem tot_mono {l : List St} {n : Nat} (h : ∀ m, m < n → 1 ≤ pw l m) : ∀ m, m ≤ n → 0 ≤ tot l m ∧ tot l m ≤ tot l n := by
  induction n with
 |zero =>
    intro m hm
    have : m = 0:=by omega
    subst this
    simp [tot]
 |succ n ih =>
    intro m hm
    have h1:=ih (fun m hm => h m (by omega))
    have h2:=h n (by omega)
    simp only [tot]
    by_cases e : m = n + 1
    · subst e
      have:=h1 n (by omega)
      simp only [tot]
      omega
    · have:=h1 m (by omega)
      omega
theorem Pre.bd {l : List St} {n : Nat} (h : Pre l n) : ∀ m, m ≤ n → 0 ≤ tot l m ∧ tot l m ≤ 100000 := by
  intro m hm
  have:=tot_mono (fun m hm => (h.1 m hm).1) m hm
  have:=h.2
  omega
theorem Pre.mono {l : List St} {n m : Nat} (h : Pre l n) (hm : m ≤ n) : Pre l m := ⟨fun j hj => h.1 j (by omega), (h.bd m hm).2⟩
structure Val (l : List St) : Prop where
  len : l.length ≤ 12
  rng : ∀ n, n < l.length → 1 ≤ pw l n ∧ pw l n ≤ 100000 ∧ -1000000 ≤ pr l n ∧ pr l n ≤ 1000000
  srt : ∀ n, 0 < n → n < l.length → pr l (n - 1) ≤ pr l n
  all : tot l l.length ≤ 100000
theorem pre0 (l : List St) : Pre l 0 := ⟨fun m hm => by omega, by simp [tot]⟩
theorem Val.pre {l : List St} (h : Val l) : Pre l l.length := ⟨fun m hm => ⟨(h.rng m hm).1, (h.rng m hm).2.1⟩, h.all⟩
theorem Val.bd {l : List St} (h : Val l) (m : Nat) (hm : m ≤ l.length) : 0 ≤ tot l m ∧ tot l m ≤ 100000 := h.pre.bd m hm
theorem Check_l0 (s : ByteArray) (l : List St) (hl : l.length ≤ 12) : ∀ n, n ≤ l.length → Pre l n → Evt (fun k => offer_Check.l0 k (tot l n) l (l.length : Int) (n : Int) s l) (stepErr l (l.length - n) n) := by
  refine down ?_ ?_
  · intro _
    refine Evt.succ ?_
    simp only [offer_Check.l0, Nat.sub_self, stepErr]
    exact Evt.ite_neg (by omega) (Evt.pure _)
  · intro n hn ih hp
    obtain ⟨d, hd⟩ : ∃ d, l.length - n = d + 1:=⟨l.length - n - 1, by omega⟩
    have hd' : l.length - (n + 1) = d:=by omega
    rw [hd'] at ih
    rw [hd]
    have hb:=hp.bd n (Nat.le_refl _)
    have j2 : (1 ≤ pw l n ∧ pw l n ≤ 100000 ∧ -1000000 ≤ pr l n ∧ pr l n ≤ 1000000) → ∀ b, b = decide (0 < n ∧ pr l n < pr l (n - 1)) → Evt (fun k => offer_Check.j2 k (tot l n) l (l.length : Int) (n : Int) b s l (pw l n) (pr l n)) (stepErr l (d + 1) n):=by
      intro hc b hb2
      refine Evt.succ ?_
      simp only [offer_Check.j2, stepErr]
      rw [if_neg (by omega), wrap64_of (x:=tot l n + pw l n) (by omega) (by omega), wrap64_nat (by omega)]
      subst hb2
      refine Evt.ite (fun h => ?_) (fun h => ?_)
      · rw [if_pos (of_decide_eq_true h)]
        exact Evt.pure _
      · rw [if_neg (fun h2 => h (decide_eq_true h2))]
        refine Evt.ite (fun h2 => ?_) (fun h2 => ?_)
        · rw [if_pos (show tot l (n + 1) > 100000 from h2)]
          exact Evt.pure _
        · have h3 : ¬ tot l (n + 1) > 100000:=h2
          rw [if_neg h3]
          refine ih ⟨fun m hm => ?_, by omega⟩
          by_cases e : m = n
          · subst e
            omega
          · exact hp.1 m (by omega)
    have j1t : ¬ (1 ≤ pw l n ∧ pw l n ≤ 100000 ∧ -1000000 ≤ pr l n ∧ pr l n ≤ 1000000) → ∀ b, b = true → Evt (fun k => offer_Check.j1 k (tot l n) (n : Int) l (l.length : Int) (n : Int) b s l (pw l n) (pr l n)) (stepErr l (d + 1) n):=by
      intro hc b hb2
      subst hb2
      refine Evt.succ ?_
      simp only [offer_Check.j1, stepErr]
      rw [if_pos hc]
      exact Evt.ite_pos (by simp) (Evt.pure _)
    have j1f : (1 ≤ pw l n ∧ pw l n ≤ 100000 ∧ -1000000 ≤ pr l n ∧ pr l n ≤ 1000000) → ∀ b, b = false → Evt (fun k => offer_Check.j1 k (tot l n) (n : Int) l (l.length : Int) (n : Int) b s l (pw l n) (pr l n)) (stepErr l (d + 1) n):=by
      intro hc b hb2
      subst hb2
      refine Evt.succ ?_
      simp only [offer_Check.j1]
      refine Evt.ite_neg (by simp) (Evt.ite (fun h => ?_) (fun h => ?_))
      · rw [pred_cast (by omega) (by omega)]
        refine Evt.ite_pos (by omega) (Evt.ite_pos (by omega) ?_)
        simp only [rd1]
        refine j2 hc _ (decide_eq_decide.2 ?_)
        omega
      · exact j2 hc _ (decide_eq_false (by omega)).symm
    refine Evt.succ ?_
    simp only [offer_Check.l0]
    refine Evt.ite_pos (by omega) (Evt.ite_pos (by omega) (Evt.ite_pos (by omega) ?_))
    simp only [rd0, rd1]
    refine Evt.ite (fun h => j1t (by omega) _ rfl) (fun h1 => Evt.ite (fun h => j1t (by omega) _ rfl) (fun h2 => Evt.ite (fun h => j1t (by omega) _ rfl) (fun h3 => ?_)))
    by_cases h4 : pr l n > 1000000
    · exact j1t (by omega) _ (decide_eq_true h4)
    · exact j1f (by omega) _ (decide_eq_false h4)
theorem Check_ev (s : ByteArray) (l : List St) : Evt (fun k => offer_Check.f k s l) (offErr s l) := by
  simp only [offer_Check.f]
  refine Evt.bind (offer_named_ev s) ?_
  unfold offErr
  by_cases h : nameB s = true
  · rw [if_pos h]
    refine Evt.ite_pos h ?_
    by_cases h2 : l.length > 12
    · rw [if_pos h2]
      exact Evt.ite_pos (by omega) (Evt.pure _)
    · rw [if_neg h2]
      exact Evt.ite_neg (by omega) (Check_l0 s l (by omega) 0 (by omega) (pre0 l))
  · rw [if_neg h]
    exact Evt.ite_neg h (Evt.pure _)
abbrev Or := S71
abbrev zOr : Or := z71
def og (l : List Or) (n : Nat) : Or := l.getD n zOr
theorem rdOr (l : List Or) (n : Nat) : rd_T71 l (n : Int) = og l n := Eq.trans rfl rfl
def ordErr (o : Or) : Int := if nameB o.f0 = true then (if 1 ≤ o.f2 ∧ o.f2 ≤ 100000 ∧ -1000000 ≤ o.f3 ∧ o.f3 ≤ 1000000 then 0 else 4) else 6
theorem ordErr_off (o : Or) : offErr o.f0 [(⟨o.f2, o.f3⟩ : St)] = ordErr o := by
  unfold offErr ordErr
  by_cases h : nameB o.f0 = true
  · rw [if_pos h, if_pos h]
    simp [stepErr, pw, pr, tot]
    intros
    omega
  · rw [if_neg h, if_neg h]
def named2 (l : List Or) (s : ByteArray) : Nat → Nat → Bool
 |0, _ => false
 |d + 1, m => if (og l m).f0.toList = s.toList then true else named2 l s d (m + 1)
def ordsStep (l : List Or) : Nat → Nat → Int
 |0, _ => 0
 |d + 1, n => if ordErr (og l n) = 0 then (if named2 l (og l n).f0 n 0 = true then 7 else ordsStep l d (n + 1)) else ordErr (og l n)
def ordsErr (l : List Or) : Int := if l.length > 32 then 2 else ordsStep l l.length 0
theorem og_take (l : List Or) {m n : Nat} (h : m < n) : og (l.take n) m = og l m := by
  unfold og
  rw [List.getD_eq_getElem?_getD, List.getD_eq_getElem?_getD, List.getElem?_take, if_pos h]
theorem idx_l0 (l : List Or) (hl : l.length ≤ 32) (n : Nat) (hn : n < l.length) (o : Or) :
    ∀ m, m ≤ n → ∃ r : Int, Evt (fun k => slices_IndexFunc_of_Check_1.l0 k (l.take n) (n : Int) (m : Int) [o]) r ∧ (0 ≤ r ↔ named2 l o.f0 (n - m) m = true):=by
  have hlen : (l.take n).length = n:=by rw [List.length_take]; omega
  refine down ?_ ?_
  · refine ⟨-1, Evt.succ ?_, by simp [named2]⟩
    simp only [slices_IndexFunc_of_Check_1.l0]
    exact Evt.ite_neg (by omega) (Evt.pure _)
  · intro m hm ⟨r, ih, hr⟩
    obtain ⟨d, hd⟩ : ∃ d, n - m = d + 1:=⟨n - m - 1, by omega⟩
    rw [show n - (m + 1) = d by omega] at hr
    rw [hd]
    by_cases h : (og l m).f0.toList = o.f0.toList
    · refine ⟨(m : Int), Evt.succ ?_, by simp [named2, h]⟩
      simp only [slices_IndexFunc_of_Check_1.l0, hlen, rdOr]
      refine Evt.ite_pos (by omega) (Evt.ite_pos (by omega) (Evt.ite_pos (by omega) (Evt.bindo (a:=true) ?_ ?_)))
      · simp only [auction_Check_1.f]
        rw [og_take l hm]
        rw [if_pos (by simp)]
        congr 1
        exact beq_iff_eq.2 h
      · exact Evt.ite_pos rfl (Evt.pure _)
    · refine ⟨r, Evt.succ ?_, by simpa [named2, h] using hr⟩
      simp only [slices_IndexFunc_of_Check_1.l0, hlen, rdOr]
      rw [wrap64_nat (by omega)]
      refine Evt.ite_pos (by omega) (Evt.ite_pos (by omega) (Evt.ite_pos (by omega) (Evt.bindo (a:=false) ?_ ?_)))
      · simp only [auction_Check_1.f]
        rw [og_take l hm]
        rw [if_pos (by simp)]
        congr 1
        exact beq_eq_false_iff_ne.2 h
      · exact Evt.ite_neg (by simp) ih
theorem contains_ev (l : List Or) (hl : l.length ≤ 32) (n : Nat) (hn : n < l.length) (o : Or) : Evt (fun k => slices_ContainsFunc_of_Check_1.f k (l.take n) [o]) (named2 l o.f0 n 0) := by
  have hlen : (l.take n).length = n:=by rw [List.length_take]; omega
  obtain ⟨r, h1, h2⟩:=idx_l0 l hl n hn o 0 (Nat.zero_le _)
  simp only [slices_ContainsFunc_of_Check_1.f, slices_IndexFunc_of_Check_1.f, hlen]
  refine Evt.bind h1 (Evt.of_eq ?_)
  rw [Nat.sub_zero] at h2
  cases h : named2 l o.f0 n 0 with
 |true => exact decide_eq_true (h2.2 h)
 |false => exact decide_eq_false (fun g => by rw [h2.1 g] at h; cases h)
theorem check_l0 (l : List Or) (hl : l.length ≤ 32) : ∀ n, n ≤ l.length → Evt (fun k => auction_Check.l0 k l l (l.length : Int) (n : Int)) (ordsStep l (l.length - n) n) := by
  refine down ?_ ?_
  · refine Evt.succ ?_
    simp only [auction_Check.l0, Nat.sub_self, ordsStep]
    exact Evt.ite_neg (by omega) (Evt.pure _)
  · intro n hn ih
    obtain ⟨d, hd⟩ : ∃ d, l.length - n = d + 1:=⟨l.length - n - 1, by omega⟩
    rw [show l.length - (n + 1) = d by omega] at ih
    rw [hd]
    refine Evt.succ ?_
    simp only [auction_Check.l0, ordsStep, rdOr]
    rw [wrap64_nat (by omega)]
    have e:=Check_ev (og l n).f0 [(⟨(og l n).f2, (og l n).f3⟩ : St)]
    rw [ordErr_off] at e
    refine Evt.ite_pos (by omega) (Evt.ite_pos (by omega) (Evt.ite_pos (by omega) (Evt.bind e ?_)))
    by_cases h : ordErr (og l n) = 0
    · rw [if_pos h]
      refine Evt.ite_pos h (Evt.ite_pos (by omega) ?_)
      have e2:=contains_ev l hl n hn (og l n)
      rw [show ((n : Int)).toNat = n by omega]
      refine Evt.bind e2 ?_
      by_cases g : named2 l (og l n).f0 n 0 = true
      · rw [if_pos g]
        exact Evt.ite_pos g (Evt.pure _)
      · rw [if_neg g]
        exact Evt.ite_neg g ih
    · rw [if_neg h]
      exact Evt.ite_neg h (Evt.pure _)
theorem acheck_ev (l : List Or) : Evt (fun k => auction_Check.f k l) (ordsErr l) := by
  simp only [auction_Check.f]
  unfold ordsErr
  by_cases h : l.length > 32
  · rw [if_pos h]
    exact Evt.ite_pos (by omega) (Evt.pure _)
  · rw [if_neg h]
    exact Evt.ite_neg (by omega) (check_l0 l (by omega) 0 (Nat.zero_le _))
theorem ref_l1 (l : List Or) (hl : l.length ≤ 32) (n : Nat) (hn : n < l.length) (r : Int) (a b c) (hr : Evt (fun k => gridhallref3_OrdersError.l0 k l l (l.length : Int) ((n + 1 : Nat) : Int)) r) :
    ∀ m, m ≤ n → Evt (fun k => gridhallref3_OrdersError.l1 k l l (l.length : Int) (n : Int) (l.take n) (n : Int) (m : Int) (og l n).f0 a b c) (if named2 l (og l n).f0 (n - m) m = true then 7 else r):=by
  have hlen : (l.take n).length = n:=by rw [List.length_take]; omega
  refine down ?_ ?_
  · refine Evt.succ ?_
    simp only [gridhallref3_OrdersError.l1, Nat.sub_self, named2]
    rw [wrap64_nat (by omega)]
    exact Evt.ite_neg (by omega) hr
  · intro m hm ih
    obtain ⟨d, hd⟩ : ∃ d, n - m = d + 1:=⟨n - m - 1, by omega⟩
    rw [show n - (m + 1) = d by omega] at ih
    rw [hd]
    refine Evt.succ ?_
    simp only [gridhallref3_OrdersError.l1, hlen, rdOr]
    rw [wrap64_nat (by omega)]
    refine Evt.ite_pos (by omega) (Evt.ite_pos (by omega) (Evt.ite_pos (by omega) ?_))
    by_cases h : (og l m).f0.toList = (og l n).f0.toList
    · refine Evt.ite_pos (by rw [og_take l hm]; exact h) ?_
      rw [if_pos (show named2 l (og l n).f0 (d + 1) m = true by simp [named2, h])]
      exact Evt.pure _
    · refine Evt.ite_neg (by rw [og_take l hm]; exact h) ?_
      have e : named2 l (og l n).f0 (d + 1) m = named2 l (og l n).f0 d (m + 1):=by simp [named2, h]
      rw [e]
      exact ih
theorem ref_l0 (l : List Or) (hl : l.length ≤ 32) : ∀ n, n ≤ l.length → Evt (fun k => gridhallref3_OrdersError.l0 k l l (l.length : Int) (n : Int)) (ordsStep l (l.length - n) n) := by
  refine down ?_ ?_
  · refine Evt.succ ?_
    simp only [gridhallref3_OrdersError.l0, Nat.sub_self, ordsStep]
    exact Evt.ite_neg (by omega) (Evt.pure _)
  · intro n hn ih
    obtain ⟨d, hd⟩ : ∃ d, l.length - n = d + 1:=⟨l.length - n - 1, by omega⟩
    rw [show l.length - (n + 1) = d by omega] at ih
    rw [hd]
    refine Evt.succ ?_
    simp only [gridhallref3_OrdersError.l0, ordsStep, rdOr]
    refine Evt.ite_pos (by omega) (Evt.ite_pos (by omega) (Evt.ite_pos (by omega) (Evt.bind (ref_Named_ev _) ?_)))
    have bad : ∀ a b c d', Evt (fun k => gridhallref3_OrdersError.j1 k l (n : Int) l (l.length : Int) (n : Int) true a b c d') 4:=fun a b c d' => Evt.succ (by
      simp only [gridhallref3_OrdersError.j1]
      exact Evt.ite_pos trivial (Evt.pure _))
    by_cases h : nameB (og l n).f0 = true
    · refine Evt.ite_pos h (Evt.bindo (in_eq _ _ _) ?_)
      by_cases h2 : 1 ≤ (og l n).f2 ∧ (og l n).f2 ≤ 100000
      · refine Evt.ite_pos (decide_eq_true h2) (Evt.bindo (in_eq _ _ _) ?_)
        by_cases h3 : -1000000 ≤ (og l n).f3 ∧ (og l n).f3 ≤ 1000000
        · have e0 : ordErr (og l n) = 0:=by unfold ordErr; rw [if_pos h, if_pos ⟨h2.1, h2.2, h3.1, h3.2⟩]
          rw [if_pos e0, decide_eq_true h3]
          refine Evt.succ ?_
          simp only [gridhallref3_OrdersError.j1]
          have hlen : (l.take n).length = n:=by rw [List.length_take]; omega
          refine Evt.ite_neg (by simp) (Evt.ite_pos (by omega) (Evt.ite_pos (by omega) (Evt.bindo rfl ?_)))
          rw [show ((n : Int)).toNat = n by omega, hlen]
          exact ref_l1 l hl n hn _ _ _ _ ih 0 (Nat.zero_le _)
        · have e4 : ordErr (og l n) = 4:=by unfold ordErr; rw [if_pos h, if_neg (fun g => h3 ⟨g.2.2.1, g.2.2.2⟩)]
          rw [if_neg (by omega), e4, decide_eq_false h3]
          exact bad _ _ _ _
      · have e4 : ordErr (og l n) = 4:=by unfold ordErr; rw [if_pos h, if_neg (fun g => h2 ⟨g.1, g.2.1⟩)]
        rw [if_neg (by omega), e4]
        exact Evt.ite_neg (by simpa using h2) (bad _ _ _ _)
    · have e6 : ordErr (og l n) = 6:=by unfold ordErr; rw [if_neg h]
      rw [if_neg (by omega), e6]
      exact Evt.ite_neg h (Evt.pure _)
theorem ref_ev (l : List Or) : Evt (fun k => gridhallref3_OrdersError.f k l) (ordsErr l) := by
  simp only [gridhallref3_OrdersError.f]
  unfold ordsErr
  by_cases h : l.length > 32
  · rw [if_pos h]
    exact Evt.ite_pos (by omega) (Evt.pure _)
  · rw [if_neg h]
    exact Evt.ite_neg (by omega) (ref_l0 l (by omega) 0 (Nat.zero_le _))
structure Fine (l : List Or) : Prop where
  len : l.length ≤ 32
  rng : ∀ n, n < l.length → 1 ≤ (og l n).f2 ∧ (og l n).f2 ≤ 100000 ∧ -1000000 ≤ (og l n).f3 ∧ (og l n).f3 ≤ 1000000
theorem ordsStep_fine (l : List Or) : ∀ d n, n + d = l.length → ordsStep l d n = 0 → ∀ m, n ≤ m → m < l.length → 1 ≤ (og l m).f2 ∧ (og l m).f2 ≤ 100000 ∧ -1000000 ≤ (og l m).f3 ∧ (og l m).f3 ≤ 1000000 := by
  intro d
  induction d with
 |zero => intro n h _ m h1 h2; omega
 |succ d ih =>
    intro n h h0 m h1 h2
    simp only [ordsStep] at h0
    by_cases c : ordErr (og l n) = 0
    · rw [if_pos c] at h0
      by_cases g : named2 l (og l n).f0 n 0 = true
      · rw [if_pos g] at h0; omega
      · rw [if_neg g] at h0
        by_cases e : m = n
        · subst e
          unfold ordErr at c
          by_cases q : nameB (og l m).f0 = true
          · rw [if_pos q] at c
            by_cases q2 : 1 ≤ (og l m).f2 ∧ (og l m).f2 ≤ 100000 ∧ -1000000 ≤ (og l m).f3 ∧ (og l m).f3 ≤ 1000000
            · exact q2
            · rw [if_neg q2] at c; omega
          · rw [if_neg q] at c; omega
        · exact ih (n + 1) (by omega) h0 m (by omega) h2
    · rw [if_neg c] at h0
      exact absurd h0 c
theorem ordsErr_fine {l : List Or} (h : ordsErr l = 0) : Fine l := by
  unfold ordsErr at h
  by_cases c : l.length > 32
  · rw [if_pos c] at h; omega
  · rw [if_neg c] at h
    exact ⟨by omega, fun n hn => ordsStep_fine l l.length 0 (by omega) h n (Nat.zero_le _) hn⟩
end Go.Proofs.Ytdgjelbkogfedaa.BAuctionClears
