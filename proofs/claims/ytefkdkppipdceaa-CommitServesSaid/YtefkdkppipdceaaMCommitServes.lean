import Derived.Test.YtefkdkppipdceaaBCommitServes
import Derived.Test.YtefkdkppipdceaaZCommitServes
import Derived.Test.YtefkdkppipdceaaXCommitServes
namespace Go.Proofs.Ytefkdkppipdceaa.MCommitServes
open Go.RowKit Go.Proofs.YtefkdkppipdceaaW.PrintWords Go.Proofs.YtefkdkppipdceaaW.PrintMore Go.Proofs.Ytefkdkppipdceaa.Evs Go.Proofs.Ytefkdkppipdceaa.PCommitServes Go.Proofs.Ytefkdkppipdceaa.BCommitServes Go.Proofs.Ytefkdkppipdceaa.CCommitServes Go.Proofs.Ytefkdkppipdceaa.DCommitServes Go.Proofs.Ytefkdkppipdceaa.GCommitServes Go.Proofs.Ytefkdkppipdceaa.KCommitServes Go.Proofs.Ytefkdkppipdceaa.LCommitServes Go.Proofs.Ytefkdkppipdceaa.ZCommitServes Go.Proofs.Ytefkdkppipdceaa.XCommitServes
set_option linter.unusedVariables false
set_option linter.unusedSectionVars false
set_option linter.unusedSimpArgs false
theorem St.perm {E : Type} {lt : E → E → Bool} (W : Weak lt) {a b : List E} (h : St lt a b) : a.Perm b := by
  classical
  rw [List.perm_iff_count]
  intro x
  have e : ∀ l : List E, l.count x = (l.filter (eqv lt x)).count x:=fun l => by
    rw [List.count_filter]
    simp [eqv, W.irr]
  rw [e a, e b, h x]
abbrev Sg := S166
def wsum (q : Sg → Bool) : List Sg → Int
 |[] => 0
 |s :: L => (if q s = true then s.f1 else 0) + wsum q L
theorem wsum_perm (q : Sg → Bool) {a b : List Sg} (h : a.Perm b) : wsum q a = wsum q b := by
  induction h with
 |nil => rfl
 |cons x _ ih => simp only [wsum]; rw [ih]
 |swap x y l => simp only [wsum]; omega
 |trans _ _ i1 i2 => rw [i1, i2]
theorem wsum_app (q : Sg → Bool) : ∀ a b : List Sg, wsum q (a ++ b) = wsum q a + wsum q b := by
  intro a
  induction a with
 |nil => intro b; simp [wsum]
 |cons x a ih => intro b; simp only [wsum, List.cons_append]; rw [ih]; omega
theorem wsum_nn (q : Sg → Bool) : ∀ a : List Sg, (∀ s ∈ a, 0 < s.f1) → 0 ≤ wsum q a := by
  intro a
  induction a with
 |nil => intro _; exact Int.le_refl _
 |cons x a ih =>
    intro h
    have h1:=ih (fun s hs => h s (by simp [hs]))
    have h2:=h x (by simp)
    simp only [wsum]
    split <;> omega
theorem wsum_none (q : Sg → Bool) : ∀ a : List Sg, (∀ s ∈ a, q s = false) → wsum q a = 0 := by
  intro a
  induction a with
 |nil => intro _; rfl
 |cons x a ih =>
    intro h
    simp only [wsum]
    rw [ih (fun s hs => h s (by simp [hs])), h x (by simp)]
    simp
def atL (m : Int) (i : Nat) (s : Sg) : Bool := decide (s.f0 = (i : Int) ∧ s.f2 < m)
def atM (m : Int) (i : Nat) (s : Sg) : Bool := decide (s.f0 = (i : Int) ∧ s.f2 ≤ m)
def atU (i : Nat) (s : Sg) : Bool := decide (s.f0 = (i : Int))
def allS (_ : Sg) : Bool := true
def addS (g : Nat → Int) (s : Sg) (R : Int) (i : Nat) : Int := if i = s.f0.toNat then g s.f0.toNat + mn s.f1 R else g i
def fillG : List Sg → (Nat → Int) → Int → (Nat → Int)
 |[], g, _ => g
 |s :: L, g, R => fillG L (addS g s R) (R - mn s.f1 R)
def fillR : List Sg → Int → Int
 |[], R => R
 |s :: L, R => fillR L (R - mn s.f1 R)
theorem fill_zero : ∀ (L : List Sg) (g : Nat → Int), (∀ s ∈ L, 0 < s.f1) → fillG L g 0 = g ∧ fillR L 0 = 0 := by
  intro L
  induction L with
 |nil => intro g _; exact ⟨rfl, rfl⟩
 |cons s L ih =>
    intro g h
    have h1:=h s (by simp)
    have e : mn s.f1 0 = 0:=mn_ge (by omega)
    have e2 : addS g s 0 = g:=by
      funext i
      unfold addS
      rw [e]
      split
      · rename_i c
        rw [c]
        omega
      · rfl
    simp only [fillG, fillR]
    rw [e, e2]
    exact ih g (fun s hs => h s (by simp [hs]))
theorem fill_spec : ∀ (L : List Sg) (g : Nat → Int) (R : Int), 0 ≤ R → (∀ s ∈ L, 0 < s.f1 ∧ 0 ≤ s.f0) → L.Pairwise (fun x y => x.f2 ≤ y.f2) →
    fillR L R = mx (R - wsum allS L) 0 ∧ (∀ i, g i ≤ fillG L g R i ∧ fillG L g R i ≤ g i + wsum (atU i) L) ∧
    (0 < R → fillR L R = 0 → ∃ s ∈ L, ∀ i, g i + wsum (atL s.f2 i) L ≤ fillG L g R i ∧ fillG L g R i ≤ g i + wsum (atM s.f2 i) L):=by
  intro L
  induction L with
 |nil =>
    intro g R h0 _ _
    refine ⟨?_, fun i => ?_, fun h1 h2 => ?_⟩
    · simp only [fillR, wsum]
      rw [Int.sub_zero, mx_ge h0]
    · simp [fillG, wsum]
    · simp only [fillR] at h2
      omega
 |cons s L ih =>
    intro g R h0 hL hP
    obtain ⟨s1, s2⟩:=hL s (by simp)
    obtain ⟨hs, hP'⟩:=List.pairwise_cons.1 hP
    have hL' : ∀ s ∈ L, 0 < s.f1 ∧ 0 ≤ s.f0:=fun t ht => hL t (by simp [ht])
    have nn : ∀ q, 0 ≤ wsum q L:=fun q => wsum_nn q L (fun t ht => (hL' t ht).1)
    have ws : wsum allS (s :: L) = s.f1 + wsum allS L:=by
      show (if true = true then s.f1 else 0) + wsum allS L = _
      rw [if_pos rfl]
    have unit : ∀ i : Nat, (i = s.f0.toNat ↔ s.f0 = (i : Int)):=fun i => by omega
    by_cases c : s.f1 < R
    · have e : mn s.f1 R = s.f1:=mn_le (by omega)
      obtain ⟨i1, i2, i3⟩:=ih (addS g s R) (R - s.f1) (by omega) hL' hP'
      have ea : ∀ i : Nat, addS g s R i = g i + (if s.f0 = (i : Int) then s.f1 else 0):=by
        intro i
        unfold addS
        rw [e]
        by_cases d : i = s.f0.toNat
        · rw [if_pos d, if_pos ((unit i).1 d), d]
        · rw [if_neg d, if_neg (fun z => d ((unit i).2 z))]
          omega
      simp only [fillG, fillR]
      rw [e]
      refine ⟨?_, fun i => ?_, fun h1 h2 => ?_⟩
      · rw [i1, ws]
        congr 1
        omega
      · have:=i2 i
        rw [ea i] at this
        simp only [wsum, atU, decide_eq_true_eq]
        revert this
        split <;> intro this <;> constructor <;> omega
      · obtain ⟨t, t1, t2⟩:=i3 (by omega) h2
        refine ⟨t, by simp [t1], fun i => ?_⟩
        have q:=hs t t1
        have:=t2 i
        rw [ea i] at this
        simp only [wsum, atL, atM, decide_eq_true_eq]
        by_cases d : s.f0 = (i : Int)
        · rw [if_pos d] at this
          rw [if_pos (show s.f0 = (i : Int) ∧ s.f2 ≤ t.f2 from ⟨d, q⟩)]
          refine ⟨?_, by omega⟩
          split <;> omega
        · rw [if_neg d] at this
          rw [if_neg (fun z => d z.1), if_neg (fun z => d z.1)]
          omega
    · have e : mn s.f1 R = R:=mn_ge (by omega)
      obtain ⟨z1, z2⟩:=fill_zero L (addS g s R) (fun t ht => (hL' t ht).1)
      have ea : ∀ i : Nat, addS g s R i = g i + (if s.f0 = (i : Int) then R else 0):=by
        intro i
        unfold addS
        rw [e]
        by_cases d : i = s.f0.toNat
        · rw [if_pos d, if_pos ((unit i).1 d), d]
        · rw [if_neg d, if_neg (fun z => d ((unit i).2 z))]
          omega
      simp only [fillG, fillR]
      rw [e, Int.sub_self, z1, z2]
      refine ⟨?_, fun i => ?_, fun h1 h2 => ⟨s, by simp, fun i => ?_⟩⟩
      · have:=nn allS
        rw [ws]
        exact (mx_le (by omega)).symm
      · rw [ea i]
        have:=nn (atU i)
        simp only [wsum]
        unfold atU at this ⊢
        simp only [decide_eq_true_eq]
        split <;> omega
      · rw [ea i]
        have lo : wsum (atL s.f2 i) L = 0:=wsum_none _ L (fun t ht => by
          have:=hs t ht
          unfold atL
          simp
          omega)
        have:=nn (atM s.f2 i)
        simp only [wsum]
        rw [lo]
        have e1 : atL s.f2 i s = false:=by unfold atL; simp
        rw [e1]
        have e2 : atM s.f2 i s = decide (s.f0 = (i : Int)):=by unfold atM; simp
        rw [e2]
        by_cases d : s.f0 = (i : Int)
        · simp [d]
          omega
        · simp [d]
          omega
def amt (l : List Cm) (i j : Nat) : Int := pw (stC l i) j - mn (mx (leC l i - tot (stC l i) j) 0) (pw (stC l i) j)
def segN (l : List Cm) (i : Nat) : Nat → List Sg
 |0 => []
 |n + 1 => segN l i n ++ (if 0 < amt l i n then [⟨(i : Int), amt l i n, pr (stC l i) n⟩] else [])
def SA (l : List Cm) (on : Nat → Bool) : Nat → List Sg
 |0 => []
 |n + 1 => SA l on n ++ (if on n = true then segN l n (stC l n).length else [])
theorem seg_mem (l : List Cm) (i : Nat) : ∀ n s, s ∈ segN l i n → 0 < s.f1 ∧ s.f0 = (i : Int) := by
  intro n
  induction n with
 |zero => intro s hs; simp [segN] at hs
 |succ n ih =>
    intro s hs
    simp only [segN] at hs
    rcases List.mem_append.1 hs with hs|hs
    · exact ih s hs
    · by_cases c : 0 < amt l i n
      · rw [if_pos c] at hs
        simp at hs
        subst hs
        exact ⟨c, rfl⟩
      · rw [if_neg c] at hs
        simp at hs
theorem SA_mem (l : List Cm) (on : Nat → Bool) : ∀ n s, s ∈ SA l on n → 0 < s.f1 ∧ ∃ j, j < n ∧ on j = true ∧ s.f0 = (j : Int) := by
  intro n
  induction n with
 |zero => intro s hs; simp [SA] at hs
 |succ n ih =>
    intro s hs
    simp only [SA] at hs
    rcases List.mem_append.1 hs with hs|hs
    · obtain ⟨a, j, b, c⟩:=ih s hs
      exact ⟨a, j, by omega, c⟩
    · by_cases c : on n = true
      · rw [if_pos c] at hs
        obtain ⟨a, b⟩:=seg_mem l n _ s hs
        exact ⟨a, n, by omega, c, b⟩
      · rw [if_neg c] at hs
        simp at hs
theorem SA_w (l : List Cm) (on : Nat → Bool) (q : Sg → Bool) (i : Nat) (hq : ∀ s : Sg, s.f0 ≠ (i : Int) → q s = false) : ∀ n, n ≤ l.length → wsum q (SA l on n) = if i < n ∧ on i = true then wsum q (segN l i (stC l i).length) else 0 := by
  intro n
  induction n with
 |zero => intro _; simp [SA, wsum]
 |succ n ih =>
    intro hn
    simp only [SA]
    rw [wsum_app, ih (by omega)]
    by_cases e : i = n
    · subst e
      rw [if_neg (fun z => by omega)]
      by_cases c : on i = true
      · rw [if_pos c, if_pos ⟨by omega, c⟩]
        omega
      · rw [if_neg c, if_neg (fun z => c z.2)]
        simp [wsum]
    · have z : wsum q (if on n = true then segN l n (stC l n).length else []) = 0:=by
        refine wsum_none _ _ (fun s hs => hq s ?_)
        by_cases c : on n = true
        · rw [if_pos c] at hs
          rw [(seg_mem l n _ s hs).2]
          omega
        · rw [if_neg c] at hs
          simp at hs
      rw [z]
      by_cases c : i < n ∧ on i = true
      · rw [if_pos c, if_pos ⟨by omega, c.2⟩]
        omega
      · rw [if_neg c, if_neg (fun z => c ⟨by omega, z.2⟩)]
        omega
section
variable {l : List Cm} (h : Coms l)
include h
theorem amt_eq (i j : Nat) (hi : i < l.length) (hj : j < (stC l i).length) : amt l i j = mx (leC l i) (tot (stC l i) (j + 1)) - mx (leC l i) (tot (stC l i) j) ∧ 0 ≤ amt l i j := by
  obtain ⟨hv, h1, _⟩:=h.one i hi
  have h0:=(hv.bd j (by omega)).1
  have hr:=(hv.rng j hj).1
  have e : tot (stC l i) (j + 1) = tot (stC l i) j + pw (stC l i) j:=rfl
  unfold amt
  rw [e]
  unfold mn mx
  constructor
  · repeat' split
    all_goals omega
  · repeat' split
    all_goals omega
theorem seg_w (q : Sg → Bool) (P : Int → Prop) [∀ x, Decidable (P x)] (i : Nat) (hi : i < l.length) (hq : ∀ a p, q ⟨(i : Int), a, p⟩ = decide (P p)) (S : Nat → Int) (S0 : S 0 = 0)
    (S1 : ∀ n, n < (stC l i).length → S (n + 1) = if P (pr (stC l i) n) then S n + pw (stC l i) n else S n) (S2 : ∀ n, n < (stC l i).length → P (pr (stC l i) n) → S n = tot (stC l i) n) :
    ∀ n, n ≤ (stC l i).length → wsum q (segN l i n) = mx (leC l i) (S n) - leC l i:=by
  obtain ⟨hv, h1, _⟩:=h.one i hi
  intro n
  induction n with
 |zero =>
    intro _
    rw [S0, mx_ge h1]
    simp [segN, wsum]
 |succ n ih =>
    intro hn
    obtain ⟨a1, a2⟩:=amt_eq h i n hi (by omega)
    have e : tot (stC l i) (n + 1) = tot (stC l i) n + pw (stC l i) n:=rfl
    simp only [segN]
    rw [wsum_app, ih (by omega), S1 n (by omega)]
    by_cases c : P (pr (stC l i) n)
    · rw [if_pos c, S2 n (by omega) c, ← e]
      by_cases c2 : 0 < amt l i n
      · rw [if_pos c2]
        simp only [wsum]
        rw [hq, decide_eq_true c, if_pos rfl]
        omega
      · rw [if_neg c2]
        simp only [wsum]
        omega
    · rw [if_neg c]
      by_cases c2 : 0 < amt l i n
      · rw [if_pos c2]
        simp only [wsum]
        rw [hq, decide_eq_false c]
        simp
      · rw [if_neg c2]
        simp only [wsum]
        omega
theorem seg_L (m : Int) (i : Nat) (hi : i < l.length) : wsum (atL m i) (segN l i (stC l i).length) = mx (leC l i) (supLC l m i) - leC l i := by
  obtain ⟨hv, _⟩:=h.one i hi
  refine seg_w h (atL m i) (fun p => p < m) i hi (fun a p => by unfold atL; simp) (fun n => supL (stC l i) m n) rfl (fun n _ => rfl) (fun n hn hp => all_lt _ _ _ (fun j hj => by have:=srt_le hv (a:=j) (b:=n) (by omega) hn; omega)) _ (Nat.le_refl _)
theorem seg_M (m : Int) (i : Nat) (hi : i < l.length) : wsum (atM m i) (segN l i (stC l i).length) = mx (leC l i) (supMC l m i) - leC l i := by
  obtain ⟨hv, _⟩:=h.one i hi
  refine seg_w h (atM m i) (fun p => p ≤ m) i hi (fun a p => by unfold atM; simp) (fun n => supM (stC l i) m n) rfl (fun n _ => rfl) (fun n hn hp => (all_le _ _ _ (fun j hj => by have:=srt_le hv (a:=j) (b:=n) (by omega) hn; omega)).1) _ (Nat.le_refl _)
theorem seg_U (q : Sg → Bool) (i : Nat) (hi : i < l.length) (hq : ∀ a p, q ⟨(i : Int), a, p⟩ = true) : wsum q (segN l i (stC l i).length) = moC l i - leC l i := by
  obtain ⟨hv, h1, h2, h3, _⟩:=h.one i hi
  have:=seg_w h q (fun _ => True) i hi (fun a p => by rw [hq]; simp) (fun n => tot (stC l i) n) rfl (fun n _ => by simp [tot]) (fun n hn hp => rfl) _ (Nat.le_refl _)
  rw [this, h3, mx_le (by omega)]
theorem SA_all (on : Nat → Bool) : ∀ n, n ≤ l.length → wsum allS (SA l on n) = sm (moO l on) n - sm (leO l on) n := by
  intro n
  induction n with
 |zero => intro _; simp [SA, wsum, sm]
 |succ n ih =>
    intro hn
    simp only [SA, sm]
    rw [wsum_app, ih (by omega)]
    unfold moO leO
    by_cases c : on n = true
    · rw [if_pos c, if_pos c, if_pos c, seg_U h allS n (by omega) (fun _ _ => rfl)]
      omega
    · rw [if_neg c, if_neg c, if_neg c]
      simp [wsum]
end
end Go.Proofs.Ytefkdkppipdceaa.MCommitServes
namespace Go.Proofs.Ytefkdkppipdceaa.OCommitServes
open Go.RowKit Go.Proofs.YtefkdkppipdceaaW.PrintWords Go.Proofs.YtefkdkppipdceaaW.PrintMore Go.Proofs.Ytefkdkppipdceaa.Evs Go.Proofs.Ytefkdkppipdceaa.PCommitServes Go.Proofs.Ytefkdkppipdceaa.BCommitServes Go.Proofs.Ytefkdkppipdceaa.CCommitServes Go.Proofs.Ytefkdkppipdceaa.DCommitServes Go.Proofs.Ytefkdkppipdceaa.GCommitServes Go.Proofs.Ytefkdkppipdceaa.KCommitServes Go.Proofs.Ytefkdkppipdceaa.LCommitServes Go.Proofs.Ytefkdkppipdceaa.MCommitServes Go.Proofs.Ytefkdkppipdceaa.ZCommitServes Go.Proofs.Ytefkdkppipdceaa.XCommitServes
set_option linter.unusedVariables false
set_option linter.unusedSectionVars false
set_option linter.unusedSimpArgs false
def x9C (on : Nat → Bool) (g : Nat → Int) (i : Nat) : Int := if on i = true then g i else -1
theorem segN_len (l : List Cm) (i : Nat) : ∀ n, (segN l i n).length ≤ n := by
  intro n
  induction n with
 |zero => simp [segN]
 |succ n ih =>
    simp only [segN, List.length_append]
    split <;> simp <;> omega
section
variable {l : List Cm} (h : Coms l)
include h
theorem SA_len (on : Nat → Bool) : ∀ n, n ≤ l.length → (SA l on n).length ≤ 12 * n := by
  intro n
  induction n with
 |zero => intro _; simp [SA]
 |succ n ih =>
    intro hn
    have:=ih (by omega)
    obtain ⟨hv, _⟩:=h.one n (by omega)
    have h1:=segN_len l n (stC l n).length
    have h2:=hv.len
    simp only [SA, List.length_append]
    split
    · omega
    · simp
      omega
theorem sv_l1 (onL : List Bool) (x9 : List Int) (rest : Int) (acc : List Sg) (ha : acc.length ≤ 100) (r : List Int × Int × Bool) (i : Nat) (hi : i < l.length)
    (H : Evt (fun k => commit_serve.l0 k l onL x9 (acc ++ segN l i (stC l i).length) rest l (l.length : Int) ((i + 1 : Nat) : Int)) r) :
    ∀ n, n ≤ (stC l i).length → Evt (fun k => commit_serve.l1 k l onL x9 (acc ++ segN l i n) rest (i : Int) (mx (leC l i - tot (stC l i) n) 0) l (l.length : Int) (i : Int) (stC l i) ((stC l i).length : Int) (n : Int)) r:=by
  obtain ⟨hv, h1, h2, h3, h4⟩:=h.one i hi
  have hl:=h.len
  have hvl:=hv.len
  refine down ?_ ?_
  · refine Evt.succ ?_
    simp only [commit_serve.l1]
    rw [wrap64_nat (n:=i) (by omega)]
    exact Evt.ite_neg (by omega) H
  · intro n hn ih
    obtain ⟨w1, w2, _⟩:=hv.rng n hn
    have tb:=hv.bd n (by omega)
    have sl_:=segN_len l i n
    have e : tot (stC l i) (n + 1) = tot (stC l i) n + pw (stC l i) n:=rfl
    have e2 : mx (leC l i - tot (stC l i) n) 0 - mn (mx (leC l i - tot (stC l i) n) 0) (pw (stC l i) n) = mx (leC l i - tot (stC l i) (n + 1)) 0:=by
      rw [e]
      unfold mn mx
      repeat' split
      all_goals omega
    have b1 : 0 ≤ mn (mx (leC l i - tot (stC l i) n) 0) (pw (stC l i) n) ∧ mn (mx (leC l i - tot (stC l i) n) 0) (pw (stC l i) n) ≤ 200000 ∧ 0 ≤ mx (leC l i - tot (stC l i) n) 0 ∧ mx (leC l i - tot (stC l i) n) 0 ≤ 200000:=by
      unfold mn mx
      repeat' split
      all_goals omega
    have ea : amt l i n = pw (stC l i) n - mn (mx (leC l i - tot (stC l i) n) 0) (pw (stC l i) n):=rfl
    refine Evt.succ ?_
    simp only [commit_serve.l1, rd0, rd1, List.length_append]
    rw [wrap64_nat (n:=n) (by omega), wrap64_of (x:=pw (stC l i) n - mn (mx (leC l i - tot (stC l i) n) 0) (pw (stC l i) n)) (by omega) (by omega), wrap64_of (x:=mx (leC l i - tot (stC l i) n) 0 - mn (mx (leC l i - tot (stC l i) n) 0) (pw (stC l i) n)) (by omega) (by omega), e2, ← ea]
    refine Evt.ite_pos (by omega) (Evt.ite_pos (by omega) (Evt.ite_pos (by omega) ?_))
    simp only [segN] at ih
    by_cases c : 0 < amt l i n
    · rw [if_pos c, ← List.append_assoc] at ih
      exact Evt.ite_pos (by omega) (Evt.ite_pos (by omega) ih)
    · rw [if_neg c, List.append_nil] at ih
      exact Evt.ite_neg (by omega) ih
theorem sv_l0 (onL : List Bool) (hon : onL.length = l.length) (on : Nat → Bool) (ho : ∀ i, onL.getD i false = on i) (D : Int) (hD : 0 ≤ D ∧ D ≤ 1000000) (r : List Int × Int × Bool)
    (H : Evt (fun k => if D - sm (leO l on) l.length < 0 then some (([] : List Int), 0, false) else ((slices_SortStableFunc_of_serve_1.f k (SA l on l.length)).bind fun t156 => (commit_serve.l2 k l (tab (x9C on (leC l)) l.length) (D - sm (leO l on) l.length) t156 ((SA l on l.length).length : Int) 0))) r) :
    ∀ n, n ≤ l.length → Evt (fun k => commit_serve.l0 k l onL (tab (fun i => if i < n then x9C on (leC l) i else 0) l.length) (SA l on n) (D - sm (leO l on) n) l (l.length : Int) (n : Int)) r:=by
  have hl:=h.len
  have th:=leO_thr (on:=on) h
  refine down ?_ ?_
  · refine Evt.succ ?_
    simp only [commit_serve.l0]
    rw [tab_congr (g:=x9C on (leC l)) (fun i hi => if_pos hi)]
    exact Evt.ite_neg (by omega) H
  · intro n hn ih
    obtain ⟨hv, h1, h2, h3, h4⟩:=h.one n hn
    have sb:=Rng.smbd h th.toRng n (by omega)
    have sb1:=Rng.smbd h th.toRng (n + 1) (by omega)
    have ho1 : rdOf false onL (n : Int) = on n:=by rw [← ho n]; simp [rdOf]
    refine Evt.succ ?_
    simp only [commit_serve.l0, rdC, tab_len]
    rw [ho1, wrap64_nat (n:=n) (by omega), tab_set]
    refine Evt.ite_pos (by omega) (Evt.ite_pos (by omega) (Evt.ite_pos (by omega) (Evt.ite_pos (by omega) (Evt.bindo rfl (Evt.ite_pos (by omega) ?_)))))
    by_cases c : on n = true
    · refine Evt.ite_pos c ?_
      have e1 : (ga l n).f0.f1 = leC l n:=rfl
      have z : leO l on n = leC l n:=by unfold leO; rw [if_pos c]
      have e2 : D - sm (leO l on) n - leC l n = D - sm (leO l on) (n + 1):=by simp only [sm]; omega
      rw [e1, wrap64_of (x:=D - sm (leO l on) n - leC l n) (by omega) (by omega), e2, tab_set]
      have e3 : tab (fun j => if j = n then leC l n else if j = n then -1 else if j < n then x9C on (leC l) j else 0) l.length = tab (fun i => if i < n + 1 then x9C on (leC l) i else 0) l.length:=tab_congr (fun i hi => by
        by_cases e : i = n
        · subst e
          rw [if_pos rfl, if_pos (by omega)]
          unfold x9C
          rw [if_pos c]
        · rw [if_neg e, if_neg e]
          by_cases e2 : i < n
          · rw [if_pos e2, if_pos (by omega)]
          · rw [if_neg e2, if_neg (by omega)])
      rw [e3]
      simp only [SA] at ih
      rw [if_pos c] at ih
      have:=sv_l1 h onL _ _ (SA l on n) (by have:=SA_len h on n (by omega); omega) r n hn ih 0 (by omega)
      simp only [segN, List.append_nil, tot, Int.sub_zero] at this
      rw [mx_ge h1] at this
      exact this
    · refine Evt.ite_neg c ?_
      have z : leO l on n = 0:=by unfold leO; rw [if_neg c]
      have e2 : sm (leO l on) (n + 1) = sm (leO l on) n:=by simp only [sm]; omega
      have e3 : tab (fun j => if j = n then -1 else if j < n then x9C on (leC l) j else 0) l.length = tab (fun i => if i < n + 1 then x9C on (leC l) i else 0) l.length:=tab_congr (fun i hi => by
        by_cases e : i = n
        · subst e
          rw [if_pos rfl, if_pos (by omega)]
          unfold x9C
          rw [if_neg c]
        · rw [if_neg e]
          by_cases e2 : i < n
          · rw [if_pos e2, if_pos (by omega)]
          · rw [if_neg e2, if_neg (by omega)])
      rw [e3]
      simp only [SA] at ih
      rw [if_neg c, List.append_nil, e2] at ih
      exact ih
end
end Go.Proofs.Ytefkdkppipdceaa.OCommitServes
namespace Go.Proofs.Ytefkdkppipdceaa.UCommitServes
open Go.RowKit Go.Proofs.YtefkdkppipdceaaW.PrintWords Go.Proofs.YtefkdkppipdceaaW.PrintMore Go.Proofs.Ytefkdkppipdceaa.Evs Go.Proofs.Ytefkdkppipdceaa.PCommitServes Go.Proofs.Ytefkdkppipdceaa.BCommitServes Go.Proofs.Ytefkdkppipdceaa.CCommitServes Go.Proofs.Ytefkdkppipdceaa.DCommitServes Go.Proofs.Ytefkdkppipdceaa.GCommitServes Go.Proofs.Ytefkdkppipdceaa.KCommitServes Go.Proofs.Ytefkdkppipdceaa.LCommitServes Go.Proofs.Ytefkdkppipdceaa.MCommitServes Go.Proofs.Ytefkdkppipdceaa.OCommitServes Go.Proofs.Ytefkdkppipdceaa.ZCommitServes Go.Proofs.Ytefkdkppipdceaa.XCommitServes
set_option linter.unusedVariables false
set_option linter.unusedSectionVars false
set_option linter.unusedSimpArgs false
theorem rdS (s : List Sg) (n : Nat) : rd_T166 s (n : Int) = s.getD n z166 := Eq.trans rfl rfl
section
variable {l : List Cm} (h : Coms l)
include h
theorem sv_l3 (on : Nat → Bool) (g : Nat → Int) (hg : Rng l on g) : ∀ n, n ≤ l.length → Evt (fun k => commit_serve.l3 k (tab (x9C on g) l.length) (sm (cC l g) n) l (l.length : Int) (n : Int)) (tab (x9C on g) l.length, sm (cC l g) l.length, true) := by
  have hl:=h.len
  refine down ?_ ?_
  · refine Evt.succ ?_
    simp only [commit_serve.l3]
    exact Evt.ite_neg (by omega) (Evt.pure _)
  · intro n hn ih
    obtain ⟨hv, h1, h2, h3, h4⟩:=h.one n hn
    have ok:=h.ok n hn
    have b1:=cC_bd h g n (by omega)
    have b2:=cC_bd h g (n + 1) (by omega)
    have gb:=Rng.bd h hg n hn
    have eg : mx (x9C on g n) 0 = g n:=by
      unfold x9C
      cases c : on n with
     |false =>
        have:=hg.off n hn c
        simp [this, mx]
     |true => simp; exact mx_ge gb.1
    have gm : g n ≤ moC l n:=by
      cases c : on n with
     |false => have:=hg.off n hn c; omega
     |true => exact (hg.rng n hn c).2
    refine Evt.succ ?_
    simp only [commit_serve.l3, rdC, tab_len]
    rw [tab_get (x9C on g) hn, eg, wrap64_nat (n:=n) (by omega)]
    have ce:=Cost_ev (ga l n).f1.f0 (stC l n) (g n)
    have cr : costR (ga l n).f1.f0 (stC l n) (g n) = (cst (stC l n) (g n) (stC l n).length, 0):=by
      unfold costR
      rw [if_pos ok, if_pos ⟨gb.1, by omega⟩]
    rw [cr] at ce
    refine Evt.ite_pos (by omega) (Evt.ite_pos (by omega) (Evt.ite_pos (by omega) (Evt.ite_pos (by omega) (Evt.bind ce ?_))))
    have e : sm (cC l g) n + cst (stC l n) (g n) (stC l n).length = sm (cC l g) (n + 1):=rfl
    show Evt (fun k => commit_serve.l3 k (tab (x9C on g) l.length) (wrap64 (sm (cC l g) n + cst (stC l n) (g n) (stC l n).length)) l (l.length : Int) ((n + 1 : Nat) : Int)) _
    rw [e, wrap64_of (by omega) (by omega)]
    exact ih
theorem sv_l2 (on : Nat → Bool) (s : List Sg) (hs : ∀ x ∈ s, 0 < x.f1 ∧ ∃ j, j < l.length ∧ on j = true ∧ x.f0 = (j : Int)) (hlen : s.length ≤ 1000) (r : List Int × Int × Bool) :
    ∀ d n (g : Nat → Int) (R : Int), n + d = s.length → 0 ≤ R → R ≤ 1000000 → (∀ i, i < l.length → -1 ≤ g i ∧ g i + R ≤ 2000000) →
      Evt (fun k => if fillR (s.drop n) R > 0 then some (([] : List Int), 0, false) else (commit_serve.l3 k (tab (x9C on (fillG (s.drop n) g R)) l.length) 0 l (l.length : Int) 0)) r →
      Evt (fun k => commit_serve.l2 k l (tab (x9C on g) l.length) R s (s.length : Int) (n : Int)) r:=by
  have hl:=h.len
  intro d
  induction d with
 |zero =>
    intro n g R hn h0 h1 hg H
    obtain rfl : n = s.length:=by omega
    rw [List.drop_length] at H
    refine Evt.succ ?_
    simp only [commit_serve.l2]
    exact Evt.ite_neg (by omega) H
 |succ d ih =>
    intro n g R hn h0 h1 hg H
    have hn' : n < s.length:=by omega
    obtain ⟨x, ex⟩ : ∃ x, x = s[n]:=⟨_, rfl⟩
    have em : x ∈ s:=by rw [ex]; exact List.getElem_mem hn'
    have eg : s.getD n z166 = x:=by rw [ex]; simp [List.getD_eq_getElem?_getD, hn']
    have ed : s.drop n = x :: s.drop (n + 1):=by rw [ex]; exact List.drop_eq_getElem_cons hn'
    obtain ⟨x1, j, j1, j2, j3⟩:=hs x em
    have gj:=hg j j1
    have bm : 0 ≤ mn x.f1 R ∧ mn x.f1 R ≤ R:=by
      unfold mn
      split <;> omega
    rw [ed] at H
    simp only [fillR, fillG] at H
    have ej : x.f0.toNat = j:=by omega
    have add : ∀ i, addS g x R i = if i = j then g j + mn x.f1 R else g i:=fun i => by unfold addS; rw [ej]
    have:=ih (n + 1) (addS g x R) (R - mn x.f1 R) (by omega) (by omega) (by omega) (fun i hi => by
      rw [add i]
      have:=hg i hi
      split
      · omega
      · omega) H
    refine Evt.succ ?_
    simp only [commit_serve.l2, rdS, tab_len]
    rw [eg, j3, tab_get (x9C on g) j1, wrap64_nat (n:=n) (by omega), wrap64_of (x:=R - mn x.f1 R) (by omega) (by omega)]
    have e9 : x9C on g j = g j:=by unfold x9C; rw [if_pos j2]
    rw [e9, wrap64_of (x:=g j + mn x.f1 R) (by omega) (by omega), tab_set]
    have et : tab (fun i => if i = j then g j + mn x.f1 R else x9C on g i) l.length = tab (x9C on (addS g x R)) l.length:=tab_congr (fun i _ => by
      unfold x9C
      rw [add i]
      by_cases e : i = j
      · subst e
        rw [if_pos rfl, if_pos j2, if_pos rfl]
      · rw [if_neg e, if_neg e])
    rw [et]
    exact Evt.ite_pos (by omega) (Evt.ite_pos (by omega) (Evt.ite_pos (by omega) (Evt.ite_pos (by omega) (Evt.ite_pos (by omega) this))))
end
def ltg (p q : Sg) : Bool := decide (p.f2 < q.f2 ∨ (p.f2 = q.f2 ∧ p.f0 < q.f0))
theorem Wltg : Weak ltg := ⟨fun x => by simp [ltg], fun {x y z} h1 h2 => by simp only [ltg, decide_eq_true_eq] at *; omega, fun {x y z} h1 h2 => by simp only [ltg, decide_eq_false_iff_not] at *; omega⟩
def cmpv (a b : Int) : Int := if a < b then -1 else if a > b then 1 else 0
theorem Compare_eq (a b : Int) : cmp_Compare_int.f a b = some (cmpv a b) := by
  simp only [cmp_Compare_int.f, cmp_isNaN_int.f, Option.bind_some, bne_self_eq_false, cmpv]
  by_cases c1 : a < b
  · simp [c1]
  · by_cases c2 : a > b
    · simp [c1, c2]
    · simp [c1, c2]
theorem Or_ev (x y : Int) : Evt (fun k => cmp_Or_int.f k [x, y]) (if x = 0 then y else x) := by
  have r0 : rd [x, y] 0 = x:=rfl
  have r1 : rd [x, y] 1 = y:=rfl
  have e1 : wrap64 (0 + 1) = 1:=by unfold wrap64; omega
  have e2 : wrap64 (1 + 1) = 2:=by unfold wrap64; omega
  have len : (([x, y] : List Int).length : Int) = 2:=rfl
  simp only [cmp_Or_int.f]
  rw [len]
  have l2 : Evt (fun k => cmp_Or_int.l0 k 0 [x, y] 2 2) 0:=by
    refine Evt.succ ?_
    simp only [cmp_Or_int.l0]
    exact Evt.ite_neg (by omega) (Evt.pure _)
  have l1 : Evt (fun k => cmp_Or_int.l0 k 0 [x, y] 2 1) y:=by
    refine Evt.succ ?_
    simp only [cmp_Or_int.l0]
    rw [r1, e2, len]
    refine Evt.ite_pos (by omega) (Evt.ite_pos (by omega) (Evt.ite_pos (by omega) (Evt.ite (fun c => ?_) (fun c => Evt.pure _))))
    rw [c] at l2 ⊢
    exact l2
  refine Evt.succ ?_
  simp only [cmp_Or_int.l0]
  rw [r0, e1, len]
  refine Evt.ite_pos (by omega) (Evt.ite_pos (by omega) (Evt.ite_pos (by omega) (Evt.ite (fun c => ?_) (fun c => ?_))))
  · exact Evt.cast l1 (if_pos c).symm
  · exact Evt.cast (Evt.pure _) (if_neg c).symm
theorem cmpg (p q : Sg) : ∃ c : Int, Evt (fun k => commit_serve_1.f k p.f0 p.f1 p.f2 q.f0 q.f1 q.f2) c ∧ (c < 0 ↔ ltg p q = true) := by
  refine ⟨if cmpv p.f2 q.f2 = 0 then cmpv p.f0 q.f0 else cmpv p.f2 q.f2, ?_, ?_⟩
  · simp only [commit_serve_1.f]
    exact Evt.bindo (Compare_eq _ _) (Evt.bindo (Compare_eq _ _) (Evt.bind (Or_ev _ _) (Evt.pure _)))
  · simp only [ltg, decide_eq_true_eq, cmpv]
    repeat' split
    all_goals omega
theorem fill_sum (N : Nat) : ∀ (L : List Sg) (g : Nat → Int) (R : Int), (∀ s ∈ L, ∃ j, j < N ∧ s.f0 = ((j : Nat) : Int)) → sm (fillG L g R) N = sm g N + (R - fillR L R) := by
  intro L
  induction L with
 |nil => intro g R _; simp [fillG, fillR]
 |cons s L ih =>
    intro g R hL
    obtain ⟨j, j1, j2⟩:=hL s (by simp)
    simp only [fillG, fillR]
    rw [ih _ _ (fun t ht => hL t (by simp [ht]))]
    have e : addS g s R = fun i => if i = j then g j + mn s.f1 R else g i:=by
      funext i
      unfold addS
      rw [show s.f0.toNat = j by omega]
    rw [e, sm_upd j (g j + mn s.f1 R) N, if_pos j1]
    omega
section
variable {l : List Cm} (h : Coms l)
include h
theorem serve_ev (onL : List Bool) (hon : onL.length = l.length) (on : Nat → Bool) (ho : ∀ i, onL.getD i false = on i) (D : Int) (hD : 0 ≤ D ∧ D ≤ 1000000) :
    ∃ out : List Int × Int × Bool, Evt (fun k => commit_serve.f k l onL D) out ∧ ((out = ([], 0, false) ∧ (D < sm (leO l on) l.length ∨ sm (moO l on) l.length < D)) ∨ ∃ m g, Thr l on m g ∧ sm g l.length = D ∧ out = (tab (x9C on g) l.length, sm (cC l g) l.length, true)):=by
  have hl:=h.len
  have th:=leO_thr (on:=on) h
  have sb:=Rng.smbd h th.toRng l.length (Nat.le_refl _)
  have top : ∀ r, Evt (fun k => if D - sm (leO l on) l.length < 0 then some (([] : List Int), 0, false) else ((slices_SortStableFunc_of_serve_1.f k (SA l on l.length)).bind fun t156 => (commit_serve.l2 k l (tab (x9C on (leC l)) l.length) (D - sm (leO l on) l.length) t156 ((SA l on l.length).length : Int) 0))) r → Evt (fun k => commit_serve.f k l onL D) r:=by
    intro r H
    simp only [commit_serve.f]
    have:=sv_l0 h onL hon on ho D hD r H 0 (by omega)
    refine Evt.ite_pos (by omega) (Evt.ite_pos (by omega) ?_)
    rw [Int.toNat_natCast, tab_zero]
    have e : tab (fun i => if i < 0 then x9C on (leC l) i else 0) l.length = tab (fun _ => 0) l.length:=tab_congr (fun i hi => if_neg (by omega))
    rw [e] at this
    simp only [SA, sm, Int.sub_zero] at this
    exact this
  by_cases c0 : D - sm (leO l on) l.length < 0
  · exact ⟨_, top _ (Evt.ite_pos c0 (Evt.pure _)), Or.inl ⟨rfl, Or.inl (by omega)⟩⟩
  · have sl_:=SA_len h on l.length (Nat.le_refl _)
    obtain ⟨s, s1, s2, s3⟩:=sorts Wltg cmpg (SA l on l.length) (by omega)
    have pm:=St.perm Wltg s2
    have slen:=pm.length_eq
    have mem : ∀ x ∈ s, 0 < x.f1 ∧ ∃ j, j < l.length ∧ on j = true ∧ x.f0 = (j : Int):=fun x hx => SA_mem l on _ x (pm.mem_iff.2 hx)
    have pw_ : s.Pairwise (fun x y => x.f2 ≤ y.f2):=List.Pairwise.imp (fun {x y} hxy => by simp only [ltg, decide_eq_false_iff_not] at hxy; omega) s1
    obtain ⟨f1, f2, f3⟩:=fill_spec s (leO l on) (D - sm (leO l on) l.length) (by omega) (fun x hx => ⟨(mem x hx).1, by obtain ⟨_, j, _, _, e⟩:=mem x hx; omega⟩) pw_
    have tot_ : wsum allS s = sm (moO l on) l.length - sm (leO l on) l.length:=by rw [← wsum_perm allS pm]; exact SA_all h on _ (Nat.le_refl _)
    have U : ∀ i, i < l.length → wsum (atU i) s = if on i = true then moC l i - leC l i else 0:=by
      intro i hi
      rw [← wsum_perm (atU i) pm, SA_w l on (atU i) i (fun s hs => by unfold atU; simp [hs]) _ (Nat.le_refl _)]
      by_cases c : on i = true
      · rw [if_pos ⟨hi, c⟩, if_pos c, seg_U h (atU i) i hi (fun a p => by unfold atU; simp)]
      · rw [if_neg (fun z => c z.2), if_neg c]
    have rng : Rng l on (fillG s (leO l on) (D - sm (leO l on) l.length)):=by
      refine ⟨fun i hi oi => ?_, fun i hi oi => ?_⟩
      · have q:=f2 i
        rw [U i hi, if_neg (by rw [oi]; simp), th.off i hi oi] at q
        omega
      · have q:=f2 i
        have e : leO l on i = leC l i:=by unfold leO; rw [if_pos oi]
        rw [U i hi, if_pos oi, e] at q
        omega
    have sum:=fill_sum l.length s (leO l on) (D - sm (leO l on) l.length) (fun x hx => by obtain ⟨_, j, a, _, e⟩:=mem x hx; exact ⟨j, a, e⟩)
    have lb:=Rng.bd h th.toRng
    have run : ∀ r, Evt (fun k => if fillR s (D - sm (leO l on) l.length) > 0 then some (([] : List Int), 0, false) else (commit_serve.l3 k (tab (x9C on (fillG s (leO l on) (D - sm (leO l on) l.length))) l.length) 0 l (l.length : Int) 0)) r → Evt (fun k => commit_serve.f k l onL D) r:=by
      intro r H
      refine top r (Evt.ite_neg c0 (Evt.bind s3 ?_))
      have:=sv_l2 h on s mem (by omega) r s.length 0 (leO l on) (D - sm (leO l on) l.length) (by omega) (by omega) (by omega) (fun i hi => by have:=lb i hi; omega) H
      have et : tab (x9C on (leC l)) l.length = tab (x9C on (leO l on)) l.length:=tab_congr (fun i _ => by
        unfold x9C leO
        by_cases c : on i = true
        · rw [if_pos c, if_pos c, if_pos c]
        · rw [if_neg c, if_neg c])
      rw [et, slen]
      exact this
    by_cases c1 : fillR s (D - sm (leO l on) l.length) > 0
    · refine ⟨_, run _ (Evt.ite_pos c1 (Evt.pure _)), Or.inl ⟨rfl, Or.inr ?_⟩⟩
      rw [f1, tot_] at c1
      revert c1
      unfold mx
      split <;> omega
    · have z : fillR s (D - sm (leO l on) l.length) = 0:=by
        have : 0 ≤ fillR s (D - sm (leO l on) l.length):=by rw [f1]; unfold mx; split <;> omega
        omega
      have l3:=sv_l3 h on _ rng 0 (by omega)
      refine ⟨_, run _ (Evt.ite_neg c1 l3), Or.inr ?_⟩
      by_cases c2 : D - sm (leO l on) l.length = 0
      · have fz:=(fill_zero s (leO l on) (fun x hx => (mem x hx).1)).1
        rw [c2, fz]
        exact ⟨-2000000, leO l on, th, by omega, rfl⟩
      · obtain ⟨x, x1, x2⟩:=f3 (by omega) z
        refine ⟨x.f2, _, ⟨rng, fun i hi oi => ?_, fun i hi oi => ?_⟩, by rw [sum, z]; omega, rfl⟩
        · have q:=(x2 i).1
          have e : leO l on i = leC l i:=by unfold leO; rw [if_pos oi]
          rw [← wsum_perm (atL x.f2 i) pm, SA_w l on (atL x.f2 i) i (fun s hs => by unfold atL; simp [hs]) _ (Nat.le_refl _), if_pos ⟨hi, oi⟩, seg_L h x.f2 i hi, e] at q
          have : supLC l x.f2 i ≤ mx (leC l i) (supLC l x.f2 i):=by unfold mx; split <;> omega
          omega
        · have q:=(x2 i).2
          have e : leO l on i = leC l i:=by unfold leO; rw [if_pos oi]
          rw [← wsum_perm (atM x.f2 i) pm, SA_w l on (atM x.f2 i) i (fun s hs => by unfold atM; simp [hs]) _ (Nat.le_refl _), if_pos ⟨hi, oi⟩, seg_M h x.f2 i hi, e] at q
          omega
end
end Go.Proofs.Ytefkdkppipdceaa.UCommitServes
