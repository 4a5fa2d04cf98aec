import Derived.Test.YtekpnmeikibioaaBHoursChanges
import Derived.Test.YtekpnmeikibioaaZHoursChanges
import Derived.Test.YtekpnmeikibioaaXHoursChanges
namespace Go.Proofs.Ytekpnmeikibioaa.CHoursChanges
open Go.RowKit Go.Proofs.YtekpnmeikibioaaW.PrintWords Go.Proofs.YtekpnmeikibioaaW.PrintMore Go.Proofs.Ytekpnmeikibioaa.Evs Go.Proofs.Ytekpnmeikibioaa.PHoursChanges Go.Proofs.Ytekpnmeikibioaa.BHoursChanges Go.Proofs.Ytekpnmeikibioaa.ZHoursChanges Go.Proofs.Ytekpnmeikibioaa.XHoursChanges
set_option linter.unusedVariables false
set_option linter.unusedSectionVars false
set_option linter.unusedSimpArgs false
theorem St.perm {E : Type} {lt : E → E → Bool} (W : Weak lt) {a b : List E} (h : St lt a b) : a.Perm b := by
  classical
  rw [List.perm_iff_count]
  intro x
  have e : ∀ l : List E, l.count x = (l.filter (eqv lt x)).count x:=fun l => by
    rw [List.count_filter]
    simp [eqv, W.irr]
  rw [e a, e b, h x]
abbrev Sg := S99
def wsum (q : Sg → Bool) : List Sg → Int
 |[] => 0
 |s :: L => (if q s = true then s.f1 else 0) + wsum q L
theorem wsum_perm (q : Sg → Bool) {a b : List Sg} (h : a.Perm b) : wsum q a = wsum q b := by
  induction h with
 |nil => rfl
 |cons x _ ih => simp only [wsum]; rw [ih]
 |swap x y l => simp only [wsum]; omega
 |trans _ _ i1 i2 => rw [i1, i2]
theorem wsum_app (q : Sg → Bool) : ∀ a b : List Sg, wsum q (a ++ b) = wsum q a + wsum q b := by
  intro a
  induction a with
 |nil => intro b; simp [wsum]
 |cons x a ih => intro b; simp only [wsum, List.cons_append]; rw [ih]; omega
theorem wsum_nn (q : Sg → Bool) : ∀ a : List Sg, (∀ s ∈ a, 0 < s.f1) → 0 ≤ wsum q a := by
  intro a
  induction a with
 |nil => intro _; exact Int.le_refl _
 |cons x a ih =>
    intro h
    have h1:=ih (fun s hs => h s (by simp [hs]))
    have h2:=h x (by simp)
    simp only [wsum]
    split <;> omega
theorem wsum_none (q : Sg → Bool) : ∀ a : List Sg, (∀ s ∈ a, q s = false) → wsum q a = 0 := by
  intro a
  induction a with
 |nil => intro _; rfl
 |cons x a ih =>
    intro h
    simp only [wsum]
    rw [ih (fun s hs => h s (by simp [hs])), h x (by simp)]
    simp
def atL (m : Int) (i : Nat) (s : Sg) : Bool := decide (s.f0 = (i : Int) ∧ s.f2 < m)
def atM (m : Int) (i : Nat) (s : Sg) : Bool := decide (s.f0 = (i : Int) ∧ s.f2 ≤ m)
def atU (i : Nat) (s : Sg) : Bool := decide (s.f0 = (i : Int))
def allS (_ : Sg) : Bool := true
def addS (g : Nat → Int) (s : Sg) (R : Int) (i : Nat) : Int := if i = s.f0.toNat then g s.f0.toNat + mn s.f1 R else g i
def fillG : List Sg → (Nat → Int) → Int → (Nat → Int)
 |[], g, _ => g
 |s :: L, g, R => fillG L (addS g s R) (R - mn s.f1 R)
def fillR : List Sg → Int → Int
 |[], R => R
 |s :: L, R => fillR L (R - mn s.f1 R)
theorem fill_zero : ∀ (L : List Sg) (g : Nat → Int), (∀ s ∈ L, 0 < s.f1) → fillG L g 0 = g ∧ fillR L 0 = 0 := by
  intro L
  induction L with
 |nil => intro g _; exact ⟨rfl, rfl⟩
 |cons s L ih =>
    intro g h
    have h1:=h s (by simp)
    have e : mn s.f1 0 = 0:=mn_ge (by omega)
    have e2 : addS g s 0 = g:=by
      funext i
      unfold addS
      rw [e]
      split
      · rename_i c
        rw [c]
        omega
      · rfl
    simp only [fillG, fillR]
    rw [e, e2]
    exact ih g (fun s hs => h s (by simp [hs]))
theorem fill_spec : ∀ (L : List Sg) (g : Nat → Int) (R : Int), 0 ≤ R → (∀ s ∈ L, 0 < s.f1 ∧ 0 ≤ s.f0) → L.Pairwise (fun x y => x.f2 ≤ y.f2) →
    fillR L R = mx (R - wsum allS L) 0 ∧ (∀ i, g i ≤ fillG L g R i ∧ fillG L g R i ≤ g i + wsum (atU i) L) ∧
    (0 < R → fillR L R = 0 → ∃ s ∈ L, ∀ i, g i + wsum (atL s.f2 i) L ≤ fillG L g R i ∧ fillG L g R i ≤ g i + wsum (atM s.f2 i) L):=by
  intro L
  induction L with
 |nil =>
    intro g R h0 _ _
    refine ⟨?_, fun i => ?_, fun h1 h2 => ?_⟩
    · simp only [fillR, wsum]
      rw [Int.sub_zero, mx_ge h0]
    · simp [fillG, wsum]
    · simp only [fillR] at h2
      omega
 |cons s L ih =>
    intro g R h0 hL hP
    obtain ⟨s1, s2⟩:=hL s (by simp)
    obtain ⟨hs, hP'⟩:=List.pairwise_cons.1 hP
    have hL' : ∀ s ∈ L, 0 < s.f1 ∧ 0 ≤ s.f0:=fun t ht => hL t (by simp [ht])
    have nn : ∀ q, 0 ≤ wsum q L:=fun q => wsum_nn q L (fun t ht => (hL' t ht).1)
    have ws : wsum allS (s :: L) = s.f1 + wsum allS L:=by
      show (if true = true then s.f1 else 0) + wsum allS L = _
      rw [if_pos rfl]
    have unit : ∀ i : Nat, (i = s.f0.toNat ↔ s.f0 = (i : Int)):=fun i => by omega
    by_cases c : s.f1 < R
    · have e : mn s.f1 R = s.f1:=mn_le (by omega)
      obtain ⟨i1, i2, i3⟩:=ih (addS g s R) (R - s.f1) (by omega) hL' hP'
      have ea : ∀ i : Nat, addS g s R i = g i + (if s.f0 = (i : Int) then s.f1 else 0):=by
        intro i
        unfold addS
        rw [e]
        by_cases d : i = s.f0.toNat
        · rw [if_pos d, if_pos ((unit i).1 d), d]
        · rw [if_neg d, if_neg (fun z => d ((unit i).2 z))]
          omega
      simp only [fillG, fillR]
      rw [e]
      refine ⟨?_, fun i => ?_, fun h1 h2 => ?_⟩
      · rw [i1, ws]
        congr 1
        omega
      · have:=i2 i
        rw [ea i] at this
        simp only [wsum, atU, decide_eq_true_eq]
        revert this
        split <;> intro this <;> constructor <;> omega
      · obtain ⟨t, t1, t2⟩:=i3 (by omega) h2
        refine ⟨t, by simp [t1], fun i => ?_⟩
        have q:=hs t t1
        have:=t2 i
        rw [ea i] at this
        simp only [wsum, atL, atM, decide_eq_true_eq]
        by_cases d : s.f0 = (i : Int)
        · rw [if_pos d] at this
          rw [if_pos (show s.f0 = (i : Int) ∧ s.f2 ≤ t.f2 from ⟨d, q⟩)]
          refine ⟨?_, by omega⟩
          split <;> omega
        · rw [if_neg d] at this
          rw [if_neg (fun z => d z.1), if_neg (fun z => d z.1)]
          omega
    · have e : mn s.f1 R = R:=mn_ge (by omega)
      obtain ⟨z1, z2⟩:=fill_zero L (addS g s R) (fun t ht => (hL' t ht).1)
      have ea : ∀ i : Nat, addS g s R i = g i + (if s.f0 = (i : Int) then R else 0):=by
        intro i
        unfold addS
        rw [e]
        by_cases d : i = s.f0.toNat
        · rw [if_pos d, if_pos ((unit i).1 d), d]
        · rw [if_neg d, if_neg (fun z => d ((unit i).2 z))]
          omega
      simp only [fillG, fillR]
      rw [e, Int.sub_self, z1, z2]
      refine ⟨?_, fun i => ?_, fun h1 h2 => ⟨s, by simp, fun i => ?_⟩⟩
      · have:=nn allS
        rw [ws]
        exact (mx_le (by omega)).symm
      · rw [ea i]
        have:=nn (atU i)
        simp only [wsum]
        unfold atU at this ⊢
        simp only [decide_eq_true_eq]
        split <;> omega
      · rw [ea i]
        have lo : wsum (atL s.f2 i) L = 0:=wsum_none _ L (fun t ht => by
          have:=hs t ht
          unfold atL
          simp
          omega)
        have:=nn (atM s.f2 i)
        simp only [wsum]
        rw [lo]
        have e1 : atL s.f2 i s = false:=by unfold atL; simp
        rw [e1]
        have e2 : atM s.f2 i s = decide (s.f0 = (i : Int)):=by unfold atM; simp
        rw [e2]
        by_cases d : s.f0 = (i : Int)
        · simp [d]
          omega
        · simp [d]
          omega
theorem fill_sum (N : Nat) : ∀ (L : List Sg) (g : Nat → Int) (R : Int), (∀ s ∈ L, ∃ j, j < N ∧ s.f0 = ((j : Nat) : Int)) → sm (fillG L g R) N = sm g N + (R - fillR L R) := by
  intro L
  induction L with
 |nil => intro g R _; simp [fillG, fillR]
 |cons s L ih =>
    intro g R hL
    obtain ⟨j, j1, j2⟩:=hL s (by simp)
    simp only [fillG, fillR]
    rw [ih _ _ (fun t ht => hL t (by simp [ht]))]
    have e : addS g s R = fun i => if i = j then g j + mn s.f1 R else g i:=by
      funext i
      unfold addS
      rw [show s.f0.toNat = j by omega]
    rw [e, sm_upd j (g j + mn s.f1 R) N, if_pos j1]
    omega
theorem hsub {l : List St} (h : Val l) {m f x lo hi : Int} (h0 : 0 ≤ lo) (hf : lo ≤ f) (hf2 : f ≤ hi) (hx : lo ≤ x) (hx2 : x ≤ hi) (ht : hi ≤ tot l l.length)
    (hL : mn hi (supL l m l.length) ≤ f) (hM : f ≤ mx lo (supM l m l.length)) : m * (x - f) ≤ cst l x l.length - cst l f l.length:=by
  obtain ⟨A, hA, a1, a2, a3⟩:=supL_at h m l.length (Nat.le_refl _)
  obtain ⟨B, hB, b1, b2, b3⟩:=supM_at h m l.length (Nat.le_refl _)
  rw [a3] at hL
  rw [b3] at hM
  have part_sum : ∀ p, 0 ≤ p → ∀ n, n < l.length → BHoursChanges.part l p n = mn p (tot l (n + 1)) - mn p (tot l n):=by
    intro p hp n hn
    have h0:=(h.bd n (by omega)).1
    have hr:=(h.rng n hn).1
    have e : tot l (n + 1) = tot l n + pw l n:=rfl
    unfold BHoursChanges.part
    rw [e]
    unfold mn mx
    repeat' split
    all_goals omega
  have all : ∀ n, n ≤ l.length → m * (mn x (tot l n) - mn f (tot l n)) ≤ cst l x n - cst l f n:=by
    intro n
    induction n with
   |zero =>
      intro _
      have e1 : mn x 0 = 0:=mn_ge (by omega)
      have e2 : mn f 0 = 0:=mn_ge (by omega)
      simp [cst, tot, e1, e2]
   |succ n ih =>
      intro hn
      have ih:=ih (by omega)
      simp only [cst]
      have px:=part_sum x (by omega) n (by omega)
      have pf:=part_sum f (by omega) n (by omega)
      have t1:=tot_le h (a:=n) (b:=n + 1) (by omega) hn
      have key : 0 ≤ (pr l n - m) * (BHoursChanges.part l x n - BHoursChanges.part l f n):=by
        have sgn : ∀ {a b : Int}, (0 ≤ a ∧ 0 ≤ b) ∨ (a ≤ 0 ∧ b ≤ 0) → 0 ≤ a * b:=by
          intro a b h
          rcases h with ⟨h1, h2⟩|⟨h1, h2⟩
          · exact Int.mul_nonneg h1 h2
          · have:=Int.mul_nonneg (a:=-a) (b:=-b) (by omega) (by omega)
            rw [Int.neg_mul_neg] at this
            exact this
        refine sgn ?_
        by_cases c1 : n < A
        · right
          have:=a1 n c1
          have t2:=tot_le h (a:=n + 1) (b:=A) (by omega) hA
          refine ⟨by omega, ?_⟩
          rw [px, pf]
          revert hL
          unfold mn
          repeat' split
          all_goals omega
        · have q1:=a2 n (by omega) (by omega)
          by_cases c2 : n < B
          · have q2:=b1 n c2
            have e : pr l n - m = 0:=by omega
            rw [e]
            by_cases c3 : 0 ≤ BHoursChanges.part l x n - BHoursChanges.part l f n
            · exact Or.inl ⟨by omega, c3⟩
            · exact Or.inr ⟨by omega, by omega⟩
          · have q2:=b2 n (by omega) (by omega)
            have t2:=tot_le h (a:=B) (b:=n) (by omega) (by omega)
            left
            refine ⟨by omega, ?_⟩
            rw [px, pf]
            revert hM
            unfold mx mn
            repeat' split
            all_goals omega
      rw [Int.sub_mul, Int.mul_sub, Int.mul_sub] at key
      rw [px, pf] at key ⊢
      rw [Int.mul_sub] at ih ⊢
      rw [Int.mul_sub, Int.mul_sub, Int.mul_sub, Int.mul_sub] at key
      rw [Int.mul_sub, Int.mul_sub]
      omega
  have:=all l.length (Nat.le_refl _)
  have lx : x ≤ tot l l.length:=by omega
  have lf : f ≤ tot l l.length:=by omega
  rw [mn_le lx, mn_le lf] at this
  exact this
structure Bx (l : List Of) (lo hi : Nat → Int) : Prop where
  h0 : ∀ i, i < l.length → 0 ≤ lo i
  h1 : ∀ i, i < l.length → lo i ≤ hi i
  h2 : ∀ i, i < l.length → hi i ≤ lastT l i
def cQ (l : List Of) (f : Nat → Int) (i : Nat) : Int := cstO l i (f i)
def InB (l : List Of) (lo hi f : Nat → Int) : Prop := ∀ i, i < l.length → lo i ≤ f i ∧ f i ≤ hi i
theorem hcost_le {l : List Of} (h : Vals l) {lo hi : Nat → Int} (b : Bx l lo hi) {m : Int} {f g : Nat → Int} (hf : InB l lo hi f) (hg : InB l lo hi g)
    (hL : ∀ i, i < l.length → mn (hi i) (supL (stO l i) m (stO l i).length) ≤ f i) (hM : ∀ i, i < l.length → f i ≤ mx (lo i) (supM (stO l i) m (stO l i).length)) :
    ∀ n, n ≤ l.length → m * (sm g n - sm f n) ≤ sm (cQ l g) n - sm (cQ l f) n:=by
  intro n
  induction n with
 |zero => intro _; simp [sm]
 |succ n ih =>
    intro hn
    have ih:=ih (by omega)
    have step : m * (g n - f n) ≤ cQ l g n - cQ l f n:=hsub (h.one n (by omega)).2.1 (b.h0 n (by omega)) (hf n (by omega)).1 (hf n (by omega)).2 (hg n (by omega)).1 (hg n (by omega)).2 (b.h2 n (by omega)) (hL n (by omega)) (hM n (by omega))
    simp only [sm]
    rw [Int.mul_sub] at ih step
    rw [Int.mul_sub, Int.mul_add, Int.mul_add]
    omega
def fr (l : List Of) (lo : Nat → Int) (i j : Nat) : Int := mx (tot (stO l i) j) (lo i)
def tu (l : List Of) (hi : Nat → Int) (i j : Nat) : Int := mn (tot (stO l i) (j + 1)) (hi i)
def sgN (l : List Of) (lo hi : Nat → Int) (i : Nat) : Nat → List Sg
 |0 => []
 |n + 1 => sgN l lo hi i n ++ (if fr l lo i n < tu l hi i n then [⟨(i : Int), tu l hi i n - fr l lo i n, pr (stO l i) n⟩] else [])
def SH (l : List Of) (lo hi : Nat → Int) : Nat → List Sg
 |0 => []
 |n + 1 => SH l lo hi n ++ sgN l lo hi n (stO l n).length
theorem sg_mem (l : List Of) (lo hi : Nat → Int) (i : Nat) : ∀ n s, s ∈ sgN l lo hi i n → 0 < s.f1 ∧ s.f0 = (i : Int) := by
  intro n
  induction n with
 |zero => intro s hs; simp [sgN] at hs
 |succ n ih =>
    intro s hs
    simp only [sgN] at hs
    rcases List.mem_append.1 hs with hs|hs
    · exact ih s hs
    · by_cases c : fr l lo i n < tu l hi i n
      · rw [if_pos c] at hs
        simp at hs
        subst hs
        exact ⟨by show 0 < tu l hi i n - fr l lo i n; omega, rfl⟩
      · rw [if_neg c] at hs
        simp at hs
theorem SH_mem (l : List Of) (lo hi : Nat → Int) : ∀ n s, s ∈ SH l lo hi n → 0 < s.f1 ∧ ∃ j, j < n ∧ s.f0 = (j : Int) := by
  intro n
  induction n with
 |zero => intro s hs; simp [SH] at hs
 |succ n ih =>
    intro s hs
    simp only [SH] at hs
    rcases List.mem_append.1 hs with hs|hs
    · obtain ⟨a, j, b, c⟩:=ih s hs
      exact ⟨a, j, by omega, c⟩
    · obtain ⟨a, b⟩:=sg_mem l lo hi n _ s hs
      exact ⟨a, n, by omega, b⟩
theorem SH_w (l : List Of) (lo hi : Nat → Int) (q : Sg → Bool) (i : Nat) (hq : ∀ s : Sg, s.f0 ≠ (i : Int) → q s = false) : ∀ n, n ≤ l.length → wsum q (SH l lo hi n) = if i < n then wsum q (sgN l lo hi i (stO l i).length) else 0 := by
  intro n
  induction n with
 |zero => intro _; simp [SH, wsum]
 |succ n ih =>
    intro hn
    simp only [SH]
    rw [wsum_app, ih (by omega)]
    by_cases e : i = n
    · subst e
      rw [if_neg (by omega), if_pos (by omega)]
      omega
    · have z : wsum q (sgN l lo hi n (stO l n).length) = 0:=by
        refine wsum_none _ _ (fun s hs => hq s ?_)
        rw [(sg_mem l lo hi n _ s hs).2]
        omega
      rw [z]
      by_cases c : i < n
      · rw [if_pos c, if_pos (by omega)]
        omega
      · rw [if_neg c, if_neg (by omega)]
        omega
section
variable {l : List Of} (h : Vals l) {lo hi : Nat → Int} (b : Bx l lo hi)
include h b
theorem hseg_w (q : Sg → Bool) (P : Int → Prop) [∀ x, Decidable (P x)] (i : Nat) (hi' : i < l.length) (hq : ∀ a p, q ⟨(i : Int), a, p⟩ = decide (P p)) (S : Nat → Int) (S0 : S 0 = 0)
    (S1 : ∀ n, n < (stO l i).length → S (n + 1) = if P (pr (stO l i) n) then S n + pw (stO l i) n else S n) (S2 : ∀ n, n < (stO l i).length → P (pr (stO l i) n) → S n = tot (stO l i) n) :
    ∀ n, n ≤ (stO l i).length → wsum q (sgN l lo hi i n) = mn (hi i) (mx (lo i) (S n)) - lo i:=by
  have hv:=(h.one i hi').2.1
  have b0:=b.h0 i hi'
  have b1:=b.h1 i hi'
  intro n
  induction n with
 |zero =>
    intro _
    rw [S0, mx_ge b0, mn_ge b1]
    simp [sgN, wsum]
 |succ n ih =>
    intro hn
    have e : tot (stO l i) (n + 1) = tot (stO l i) n + pw (stO l i) n:=rfl
    have t0:=(hv.bd n (by omega)).1
    have t1:=(hv.rng n (by omega)).1
    have key : (if fr l lo i n < tu l hi i n then tu l hi i n - fr l lo i n else 0) = mn (hi i) (mx (lo i) (tot (stO l i) (n + 1))) - mn (hi i) (mx (lo i) (tot (stO l i) n)):=by
      unfold fr tu
      rw [e]
      unfold mn mx
      repeat' split
      all_goals omega
    simp only [sgN]
    rw [wsum_app, ih (by omega), S1 n (by omega)]
    by_cases c : P (pr (stO l i) n)
    · rw [if_pos c, S2 n (by omega) c, ← e]
      by_cases c2 : fr l lo i n < tu l hi i n
      · rw [if_pos c2] at key ⊢
        simp only [wsum]
        rw [hq, decide_eq_true c, if_pos rfl]
        omega
      · rw [if_neg c2] at key ⊢
        simp only [wsum]
        omega
    · rw [if_neg c]
      by_cases c2 : fr l lo i n < tu l hi i n
      · rw [if_pos c2]
        simp only [wsum]
        rw [hq, decide_eq_false c]
        simp
      · rw [if_neg c2]
        simp only [wsum]
        omega
theorem hseg_L (m : Int) (i : Nat) (hi' : i < l.length) : wsum (atL m i) (sgN l lo hi i (stO l i).length) = mn (hi i) (mx (lo i) (supL (stO l i) m (stO l i).length)) - lo i := by
  have hv:=(h.one i hi').2.1
  exact hseg_w h b (atL m i) (fun p => p < m) i hi' (fun a p => by unfold atL; simp) (fun n => supL (stO l i) m n) rfl (fun n _ => rfl) (fun n hn hp => all_lt _ _ _ (fun j hj => by have:=srt_le hv (a:=j) (b:=n) (by omega) hn; omega)) _ (Nat.le_refl _)
theorem hseg_M (m : Int) (i : Nat) (hi' : i < l.length) : wsum (atM m i) (sgN l lo hi i (stO l i).length) = mn (hi i) (mx (lo i) (supM (stO l i) m (stO l i).length)) - lo i := by
  have hv:=(h.one i hi').2.1
  exact hseg_w h b (atM m i) (fun p => p ≤ m) i hi' (fun a p => by unfold atM; simp) (fun n => supM (stO l i) m n) rfl (fun n _ => rfl) (fun n hn hp => (all_le _ _ _ (fun j hj => by have:=srt_le hv (a:=j) (b:=n) (by omega) hn; omega)).1) _ (Nat.le_refl _)
theorem hseg_U (q : Sg → Bool) (i : Nat) (hi' : i < l.length) (hq : ∀ a p, q ⟨(i : Int), a, p⟩ = true) : wsum q (sgN l lo hi i (stO l i).length) = hi i - lo i := by
  have b0:=b.h0 i hi'
  have b1:=b.h1 i hi'
  have b2 : hi i ≤ tot (stO l i) (stO l i).length:=b.h2 i hi'
  have:=hseg_w h b q (fun _ => True) i hi' (fun a p => by rw [hq]; simp) (fun n => tot (stO l i) n) rfl (fun n _ => by simp [tot]) (fun n hn hp => rfl) _ (Nat.le_refl _)
  rw [this, mn_le]
  unfold mx
  split <;> omega
theorem SH_all : ∀ n, n ≤ l.length → wsum allS (SH l lo hi n) = sm hi n - sm lo n := by
  intro n
  induction n with
 |zero => intro _; simp [SH, wsum, sm]
 |succ n ih =>
    intro hn
    simp only [SH, sm]
    rw [wsum_app, ih (by omega), hseg_U h b allS n (by omega) (fun _ _ => rfl)]
    omega
theorem fill_best (s : List Sg) (pm : (SH l lo hi l.length).Perm s) (pw_ : s.Pairwise (fun x y => x.f2 ≤ y.f2)) (R : Int) (hR : 0 ≤ R) :
    fillR s R = mx (R - (sm hi l.length - sm lo l.length)) 0 ∧ sm (fillG s lo R) l.length = sm lo l.length + (R - fillR s R) ∧ InB l lo hi (fillG s lo R) ∧
    (fillR s R = 0 → ∀ g, InB l lo hi g → sm g l.length = sm lo l.length + R → sm (cQ l (fillG s lo R)) l.length ≤ sm (cQ l g) l.length):=by
  have mem : ∀ x ∈ s, 0 < x.f1 ∧ ∃ j, j < l.length ∧ x.f0 = (j : Int):=fun x hx => SH_mem l lo hi _ x (pm.mem_iff.2 hx)
  obtain ⟨f1, f2, f3⟩:=fill_spec s lo R hR (fun x hx => ⟨(mem x hx).1, by obtain ⟨_, j, _, e⟩:=mem x hx; omega⟩) pw_
  have tot_ : wsum allS s = sm hi l.length - sm lo l.length:=by rw [← wsum_perm allS pm]; exact SH_all h b _ (Nat.le_refl _)
  rw [tot_] at f1
  have rng : InB l lo hi (fillG s lo R):=by
    intro i hi'
    have q:=f2 i
    have U : wsum (atU i) s = hi i - lo i:=by
      rw [← wsum_perm (atU i) pm, SH_w l lo hi (atU i) i (fun s hs => by unfold atU; simp [hs]) _ (Nat.le_refl _), if_pos hi']
      exact hseg_U h b (atU i) i hi' (fun a p => by unfold atU; simp)
    rw [U] at q
    omega
  have sum:=fill_sum l.length s lo R (fun x hx => by obtain ⟨_, j, a, e⟩:=mem x hx; exact ⟨j, a, e⟩)
  refine ⟨f1, sum, rng, fun hz g hg hs => ?_⟩
  rw [hz] at sum
  by_cases c : R = 0
  · have fz:=(fill_zero s lo (fun x hx => (mem x hx).1)).1
    have eg : ∀ i, i < l.length → lo i = g i:=sm_eq_of l.length (fun i hi' => (hg i hi').1) (by omega)
    rw [c, fz]
    refine Int.le_of_eq (sm_congr _ (fun i hi' => ?_))
    unfold cQ
    rw [eg i hi']
  · obtain ⟨x, x1, x2⟩:=f3 (by omega) hz
    have key:=hcost_le h b rng hg (m:=x.f2) (fun i hi' => by
        have q:=(x2 i).1
        rw [← wsum_perm (atL x.f2 i) pm, SH_w l lo hi (atL x.f2 i) i (fun s hs => by unfold atL; simp [hs]) _ (Nat.le_refl _), if_pos hi', hseg_L h b x.f2 i hi'] at q
        have b1:=b.h1 i hi'
        revert q
        unfold mn mx
        repeat' split
        all_goals omega) (fun i hi' => by
        have q:=(x2 i).2
        rw [← wsum_perm (atM x.f2 i) pm, SH_w l lo hi (atM x.f2 i) i (fun s hs => by unfold atM; simp [hs]) _ (Nat.le_refl _), if_pos hi', hseg_M h b x.f2 i hi'] at q
        revert q
        unfold mn mx
        repeat' split
        all_goals omega) l.length (Nat.le_refl _)
    rw [hs, sum] at key
    have z : sm lo l.length + R - (sm lo l.length + (R - 0)) = 0:=by omega
    rw [z, Int.mul_zero] at key
    omega
end
end Go.Proofs.Ytekpnmeikibioaa.CHoursChanges
