import Derived.Test.YtekpnmeikibioaaBReserveBest
import Derived.Test.YtekpnmeikibioaaZReserveBest
import Derived.Test.YtekpnmeikibioaaXReserveBest
namespace Go.Proofs.Ytekpnmeikibioaa.CReserveBest
open Go.RowKit Go.Proofs.YtekpnmeikibioaaW.PrintWords Go.Proofs.YtekpnmeikibioaaW.PrintMore Go.Proofs.Ytekpnmeikibioaa.Evs Go.Proofs.Ytekpnmeikibioaa.PReserveBest Go.Proofs.Ytekpnmeikibioaa.BReserveBest Go.Proofs.Ytekpnmeikibioaa.ZReserveBest Go.Proofs.Ytekpnmeikibioaa.XReserveBest
set_option linter.unusedVariables false
set_option linter.unusedSectionVars false
set_option linter.unusedSimpArgs false
theorem St.perm {E : Type} {lt : E → E → Bool} (W : Weak lt) {a b : List E} (h : St lt a b) : a.Perm b := by
  classical
  rw [List.perm_iff_count]
  intro x
  have e : ∀ l : List E, l.count x = (l.filter (eqv lt x)).count x:=fun l => by
    rw [List.count_filter]
    simp [eqv, W.irr]
  rw [e a, e b, h x]
abbrev Sg := S82
def wsum (q : Sg → Bool) : List Sg → Int
 |[] => 0
 |s :: L => (if q s = true then s.f1 else 0) + wsum q L
theorem wsum_perm (q : Sg → Bool) {a b : List Sg} (h : a.Perm b) : wsum q a = wsum q b := by
  induction h with
 |nil => rfl
 |cons x _ ih => simp only [wsum]; rw [ih]
 |swap x y l => simp only [wsum]; omega
 |trans _ _ i1 i2 => rw [i1, i2]
theorem wsum_app (q : Sg → Bool) : ∀ a b : List Sg, wsum q (a ++ b) = wsum q a + wsum q b := by
  intro a
  induction a with
 |nil => intro b; simp [wsum]
 |cons x a ih => intro b; simp only [wsum, List.cons_append]; rw [ih]; omega
theorem wsum_none (q : Sg → Bool) : ∀ a : List Sg, (∀ s ∈ a, q s = false) → wsum q a = 0 := by
  intro a
  induction a with
 |nil => intro _; rfl
 |cons x a ih =>
    intro h
    simp only [wsum]
    rw [ih (fun s hs => h s (by simp [hs])), h x (by simp)]
    simp
def atL (m : Int) (i : Nat) (s : Sg) : Bool := decide (s.f0 = (i : Int) ∧ s.f2 < m)
def atM (m : Int) (i : Nat) (s : Sg) : Bool := decide (s.f0 = (i : Int) ∧ s.f2 ≤ m)
def allS (_ : Sg) : Bool := true
theorem hsub {l : List St} (h : Val l) {m f x lo hi : Int} (h0 : 0 ≤ lo) (hf : lo ≤ f) (hf2 : f ≤ hi) (hx : lo ≤ x) (hx2 : x ≤ hi) (ht : hi ≤ tot l l.length)
    (hL : mn hi (supL l m l.length) ≤ f) (hM : f ≤ mx lo (supM l m l.length)) : m * (x - f) ≤ cst l x l.length - cst l f l.length:=by
  obtain ⟨A, hA, a1, a2, a3⟩:=supL_at h m l.length (Nat.le_refl _)
  obtain ⟨B, hB, b1, b2, b3⟩:=supM_at h m l.length (Nat.le_refl _)
  rw [a3] at hL
  rw [b3] at hM
  have part_sum : ∀ p, 0 ≤ p → ∀ n, n < l.length → BReserveBest.part l p n = mn p (tot l (n + 1)) - mn p (tot l n):=by
    intro p hp n hn
    have h0:=(h.bd n (by omega)).1
    have hr:=(h.rng n hn).1
    have e : tot l (n + 1) = tot l n + pw l n:=rfl
    unfold BReserveBest.part
    rw [e]
    unfold mn mx
    repeat' split
    all_goals omega
  have all : ∀ n, n ≤ l.length → m * (mn x (tot l n) - mn f (tot l n)) ≤ cst l x n - cst l f n:=by
    intro n
    induction n with
   |zero =>
      intro _
      have e1 : mn x 0 = 0:=mn_ge (by omega)
      have e2 : mn f 0 = 0:=mn_ge (by omega)
      simp [cst, tot, e1, e2]
   |succ n ih =>
      intro hn
      have ih:=ih (by omega)
      simp only [cst]
      have px:=part_sum x (by omega) n (by omega)
      have pf:=part_sum f (by omega) n (by omega)
      have t1:=tot_le h (a:=n) (b:=n + 1) (by omega) hn
      have key : 0 ≤ (pr l n - m) * (BReserveBest.part l x n - BReserveBest.part l f n):=by
        have sgn : ∀ {a b : Int}, (0 ≤ a ∧ 0 ≤ b) ∨ (a ≤ 0 ∧ b ≤ 0) → 0 ≤ a * b:=by
          intro a b h
          rcases h with ⟨h1, h2⟩|⟨h1, h2⟩
          · exact Int.mul_nonneg h1 h2
          · have:=Int.mul_nonneg (a:=-a) (b:=-b) (by omega) (by omega)
            rw [Int.neg_mul_neg] at this
            exact this
        refine sgn ?_
        by_cases c1 : n < A
        · right
          have:=a1 n c1
          have t2:=tot_le h (a:=n + 1) (b:=A) (by omega) hA
          refine ⟨by omega, ?_⟩
          rw [px, pf]
          revert hL
          unfold mn
          repeat' split
          all_goals omega
        · have q1:=a2 n (by omega) (by omega)
          by_cases c2 : n < B
          · have q2:=b1 n c2
            have e : pr l n - m = 0:=by omega
            rw [e]
            by_cases c3 : 0 ≤ BReserveBest.part l x n - BReserveBest.part l f n
            · exact Or.inl ⟨by omega, c3⟩
            · exact Or.inr ⟨by omega, by omega⟩
          · have q2:=b2 n (by omega) (by omega)
            have t2:=tot_le h (a:=B) (b:=n) (by omega) (by omega)
            left
            refine ⟨by omega, ?_⟩
            rw [px, pf]
            revert hM
            unfold mx mn
            repeat' split
            all_goals omega
      rw [Int.sub_mul, Int.mul_sub, Int.mul_sub] at key
      rw [px, pf] at key ⊢
      rw [Int.mul_sub] at ih ⊢
      rw [Int.mul_sub, Int.mul_sub, Int.mul_sub, Int.mul_sub] at key
      rw [Int.mul_sub, Int.mul_sub]
      omega
  have:=all l.length (Nat.le_refl _)
  have lx : x ≤ tot l l.length:=by omega
  have lf : f ≤ tot l l.length:=by omega
  rw [mn_le lx, mn_le lf] at this
  exact this
structure Bx (l : List Of) (lo hi : Nat → Int) : Prop where
  h0 : ∀ i, i < l.length → 0 ≤ lo i
  h1 : ∀ i, i < l.length → lo i ≤ hi i
  h2 : ∀ i, i < l.length → hi i ≤ lastT l i
def cQ (l : List Of) (f : Nat → Int) (i : Nat) : Int := cstO l i (f i)
def InB (l : List Of) (lo hi f : Nat → Int) : Prop := ∀ i, i < l.length → lo i ≤ f i ∧ f i ≤ hi i
theorem hcost_le {l : List Of} (h : Vals l) {lo hi : Nat → Int} (b : Bx l lo hi) {m : Int} {f g : Nat → Int} (hf : InB l lo hi f) (hg : InB l lo hi g)
    (hL : ∀ i, i < l.length → mn (hi i) (supL (stO l i) m (stO l i).length) ≤ f i) (hM : ∀ i, i < l.length → f i ≤ mx (lo i) (supM (stO l i) m (stO l i).length)) :
    ∀ n, n ≤ l.length → m * (sm g n - sm f n) ≤ sm (cQ l g) n - sm (cQ l f) n:=by
  intro n
  induction n with
 |zero => intro _; simp [sm]
 |succ n ih =>
    intro hn
    have ih:=ih (by omega)
    have step : m * (g n - f n) ≤ cQ l g n - cQ l f n:=hsub (h.one n (by omega)).2.1 (b.h0 n (by omega)) (hf n (by omega)).1 (hf n (by omega)).2 (hg n (by omega)).1 (hg n (by omega)).2 (b.h2 n (by omega)) (hL n (by omega)) (hM n (by omega))
    simp only [sm]
    rw [Int.mul_sub] at ih step
    rw [Int.mul_sub, Int.mul_add, Int.mul_add]
    omega
def fr (l : List Of) (lo : Nat → Int) (i j : Nat) : Int := mx (tot (stO l i) j) (lo i)
def tu (l : List Of) (hi : Nat → Int) (i j : Nat) : Int := mn (tot (stO l i) (j + 1)) (hi i)
def sgN (l : List Of) (lo hi : Nat → Int) (i : Nat) : Nat → List Sg
 |0 => []
 |n + 1 => sgN l lo hi i n ++ (if fr l lo i n < tu l hi i n then [⟨(i : Int), tu l hi i n - fr l lo i n, pr (stO l i) n⟩] else [])
def SH (l : List Of) (lo hi : Nat → Int) : Nat → List Sg
 |0 => []
 |n + 1 => SH l lo hi n ++ sgN l lo hi n (stO l n).length
theorem sg_mem (l : List Of) (lo hi : Nat → Int) (i : Nat) : ∀ n s, s ∈ sgN l lo hi i n → 0 < s.f1 ∧ s.f0 = (i : Int) := by
  intro n
  induction n with
 |zero => intro s hs; simp [sgN] at hs
 |succ n ih =>
    intro s hs
    simp only [sgN] at hs
    rcases List.mem_append.1 hs with hs|hs
    · exact ih s hs
    · by_cases c : fr l lo i n < tu l hi i n
      · rw [if_pos c] at hs
        simp at hs
        subst hs
        exact ⟨by show 0 < tu l hi i n - fr l lo i n; omega, rfl⟩
      · rw [if_neg c] at hs
        simp at hs
theorem SH_mem (l : List Of) (lo hi : Nat → Int) : ∀ n s, s ∈ SH l lo hi n → 0 < s.f1 ∧ ∃ j, j < n ∧ s.f0 = (j : Int) := by
  intro n
  induction n with
 |zero => intro s hs; simp [SH] at hs
 |succ n ih =>
    intro s hs
    simp only [SH] at hs
    rcases List.mem_append.1 hs with hs|hs
    · obtain ⟨a, j, b, c⟩:=ih s hs
      exact ⟨a, j, by omega, c⟩
    · obtain ⟨a, b⟩:=sg_mem l lo hi n _ s hs
      exact ⟨a, n, by omega, b⟩
theorem SH_w (l : List Of) (lo hi : Nat → Int) (q : Sg → Bool) (i : Nat) (hq : ∀ s : Sg, s.f0 ≠ (i : Int) → q s = false) : ∀ n, n ≤ l.length → wsum q (SH l lo hi n) = if i < n then wsum q (sgN l lo hi i (stO l i).length) else 0 := by
  intro n
  induction n with
 |zero => intro _; simp [SH, wsum]
 |succ n ih =>
    intro hn
    simp only [SH]
    rw [wsum_app, ih (by omega)]
    by_cases e : i = n
    · subst e
      rw [if_neg (by omega), if_pos (by omega)]
      omega
    · have z : wsum q (sgN l lo hi n (stO l n).length) = 0:=by
        refine wsum_none _ _ (fun s hs => hq s ?_)
        rw [(sg_mem l lo hi n _ s hs).2]
        omega
      rw [z]
      by_cases c : i < n
      · rw [if_pos c, if_pos (by omega)]
        omega
      · rw [if_neg c, if_neg (by omega)]
        omega
section
variable {l : List Of} (h : Vals l) {lo hi : Nat → Int} (b : Bx l lo hi)
include h b
theorem hseg_w (q : Sg → Bool) (P : Int → Prop) [∀ x, Decidable (P x)] (i : Nat) (hi' : i < l.length) (hq : ∀ a p, q ⟨(i : Int), a, p⟩ = decide (P p)) (S : Nat → Int) (S0 : S 0 = 0)
    (S1 : ∀ n, n < (stO l i).length → S (n + 1) = if P (pr (stO l i) n) then S n + pw (stO l i) n else S n) (S2 : ∀ n, n < (stO l i).length → P (pr (stO l i) n) → S n = tot (stO l i) n) :
    ∀ n, n ≤ (stO l i).length → wsum q (sgN l lo hi i n) = mn (hi i) (mx (lo i) (S n)) - lo i:=by
  have hv:=(h.one i hi').2.1
  have b0:=b.h0 i hi'
  have b1:=b.h1 i hi'
  intro n
  induction n with
 |zero =>
    intro _
    rw [S0, mx_ge b0, mn_ge b1]
    simp [sgN, wsum]
 |succ n ih =>
    intro hn
    have e : tot (stO l i) (n + 1) = tot (stO l i) n + pw (stO l i) n:=rfl
    have t0:=(hv.bd n (by omega)).1
    have t1:=(hv.rng n (by omega)).1
    have key : (if fr l lo i n < tu l hi i n then tu l hi i n - fr l lo i n else 0) = mn (hi i) (mx (lo i) (tot (stO l i) (n + 1))) - mn (hi i) (mx (lo i) (tot (stO l i) n)):=by
      unfold fr tu
      rw [e]
      unfold mn mx
      repeat' split
      all_goals omega
    simp only [sgN]
    rw [wsum_app, ih (by omega), S1 n (by omega)]
    by_cases c : P (pr (stO l i) n)
    · rw [if_pos c, S2 n (by omega) c, ← e]
      by_cases c2 : fr l lo i n < tu l hi i n
      · rw [if_pos c2] at key ⊢
        simp only [wsum]
        rw [hq, decide_eq_true c, if_pos rfl]
        omega
      · rw [if_neg c2] at key ⊢
        simp only [wsum]
        omega
    · rw [if_neg c]
      by_cases c2 : fr l lo i n < tu l hi i n
      · rw [if_pos c2]
        simp only [wsum]
        rw [hq, decide_eq_false c]
        simp
      · rw [if_neg c2]
        simp only [wsum]
        omega
theorem hseg_L (m : Int) (i : Nat) (hi' : i < l.length) : wsum (atL m i) (sgN l lo hi i (stO l i).length) = mn (hi i) (mx (lo i) (supL (stO l i) m (stO l i).length)) - lo i := by
  have hv:=(h.one i hi').2.1
  exact hseg_w h b (atL m i) (fun p => p < m) i hi' (fun a p => by unfold atL; simp) (fun n => supL (stO l i) m n) rfl (fun n _ => rfl) (fun n hn hp => all_lt _ _ _ (fun j hj => by have:=srt_le hv (a:=j) (b:=n) (by omega) hn; omega)) _ (Nat.le_refl _)
theorem hseg_M (m : Int) (i : Nat) (hi' : i < l.length) : wsum (atM m i) (sgN l lo hi i (stO l i).length) = mn (hi i) (mx (lo i) (supM (stO l i) m (stO l i).length)) - lo i := by
  have hv:=(h.one i hi').2.1
  exact hseg_w h b (atM m i) (fun p => p ≤ m) i hi' (fun a p => by unfold atM; simp) (fun n => supM (stO l i) m n) rfl (fun n _ => rfl) (fun n hn hp => (all_le _ _ _ (fun j hj => by have:=srt_le hv (a:=j) (b:=n) (by omega) hn; omega)).1) _ (Nat.le_refl _)
theorem hseg_U (q : Sg → Bool) (i : Nat) (hi' : i < l.length) (hq : ∀ a p, q ⟨(i : Int), a, p⟩ = true) : wsum q (sgN l lo hi i (stO l i).length) = hi i - lo i := by
  have b0:=b.h0 i hi'
  have b1:=b.h1 i hi'
  have b2 : hi i ≤ tot (stO l i) (stO l i).length:=b.h2 i hi'
  have:=hseg_w h b q (fun _ => True) i hi' (fun a p => by rw [hq]; simp) (fun n => tot (stO l i) n) rfl (fun n _ => by simp [tot]) (fun n hn hp => rfl) _ (Nat.le_refl _)
  rw [this, mn_le]
  unfold mx
  split <;> omega
theorem SH_all : ∀ n, n ≤ l.length → wsum allS (SH l lo hi n) = sm hi n - sm lo n := by
  intro n
  induction n with
 |zero => intro _; simp [SH, wsum, sm]
 |succ n ih =>
    intro hn
    simp only [SH, sm]
    rw [wsum_app, ih (by omega), hseg_U h b allS n (by omega) (fun _ _ => rfl)]
    omega
end
theorem sm_cons (f : Nat → Int) : ∀ n, sm f (n + 1) = f 0 + sm (fun i => f (i + 1)) n := by
  intro n
  induction n with
 |zero => simp [sm]
 |succ n ih =>
    have : sm f (n + 1 + 1) = sm f (n + 1) + f (n + 1):=rfl
    rw [this, ih]
    simp only [sm]
    omega
def LSf : List Int → Int → List (List Int)
 |[], s => if s = 0 then [[]] else []
 |a :: ls, s => (List.range (mn a s + 1).toNat).flatMap fun (m : Nat) => (LSf ls (s - (m : Int))).map fun q => (m : Int) :: q
def LSa (ls : List Int) (s : Int) (n : Nat) : List (List Int) := (List.range n).flatMap fun (m : Nat) => (LSf ls (s - (m : Int))).map fun q => (m : Int) :: q
theorem LSa_succ (ls : List Int) (s : Int) (n : Nat) : LSa ls s (n + 1) = LSa ls s n ++ (LSf ls (s - (n : Int))).map fun q => (n : Int) :: q := by
  unfold LSa
  rw [List.range_succ, List.flatMap_append]
  simp
theorem pn_cons0 (a : Int) (q : List Int) : pn (a :: q) 0 = a := rfl
theorem pn_cons1 (a : Int) (q : List Int) (i : Nat) : pn (a :: q) (i + 1) = pn q i := rfl
theorem LS_mem : ∀ (ls : List Int) (s : Int) (q : List Int), q ∈ LSf ls s ↔ q.length = ls.length ∧ (∀ i, i < ls.length → 0 ≤ pn q i ∧ pn q i ≤ pn ls i) ∧ sm (pn q) ls.length = s := by
  intro ls
  induction ls with
 |nil =>
    intro s q
    simp only [LSf]
    by_cases c : s = 0
    · rw [if_pos c]
      subst c
      constructor
      · intro h
        have : q = []:=by simpa using h
        subst this
        exact ⟨rfl, fun i hi => by simp at hi, rfl⟩
      · rintro ⟨h, _⟩
        have : q = []:=List.eq_nil_of_length_eq_zero h
        simp [this]
    · rw [if_neg c]
      constructor
      · intro h; simp at h
      · rintro ⟨_, _, h⟩
        simp only [List.length_nil, sm] at h
        exact absurd h.symm c
 |cons a ls ih =>
    intro s q
    simp only [LSf, List.mem_flatMap, List.mem_map, List.mem_range]
    constructor
    · rintro ⟨m, hm, q', hq', rfl⟩
      obtain ⟨h1, h2, h3⟩:=(ih _ _).1 hq'
      have hm2 : (m : Int) ≤ mn a s:=by omega
      have ha : mn a s ≤ a:=by unfold mn; split <;> omega
      refine ⟨by simp [h1], fun i hi => ?_, ?_⟩
      · cases i with
       |zero => rw [pn_cons0, pn_cons0]; omega
       |succ i => rw [pn_cons1, pn_cons1]; exact h2 i (by simpa using hi)
      · rw [List.length_cons, sm_cons, pn_cons0]
        have : (fun i => pn ((m : Int) :: q') (i + 1)) = pn q':=by funext i; rfl
        rw [this, h3]
        omega
    · rintro ⟨h1, h2, h3⟩
      cases q with
     |nil => simp at h1
     |cons b q' =>
        have b0:=h2 0 (by simp)
        rw [pn_cons0, pn_cons0] at b0
        rw [List.length_cons, sm_cons, pn_cons0] at h3
        have e : (fun i => pn (b :: q') (i + 1)) = pn q':=by funext i; rfl
        rw [e] at h3
        have nn:=sm_nonneg (f:=pn q') ls.length (fun i hi => by have:=h2 (i + 1) (by simp; omega); rw [pn_cons1] at this; exact this.1)
        have bm : b ≤ mn a s:=by unfold mn; split <;> omega
        refine ⟨b.toNat, by omega, q', (ih _ _).2 ⟨by simpa using h1, fun i hi => ?_, ?_⟩, ?_⟩
        · have:=h2 (i + 1) (by simp; omega)
          rw [pn_cons1, pn_cons1] at this
          exact this
        · omega
        · rw [show ((b.toNat : Nat) : Int) = b by omega]
theorem LS_len : ∀ (ls : List Int) (s : Int), (∀ i, i < ls.length → pn ls i ≤ 8) → (LSf ls s).length ≤ 9 ^ ls.length := by
  intro ls
  induction ls with
 |nil => intro s _; simp only [LSf]; split <;> simp
 |cons a ls ih =>
    intro s h
    have ha : a ≤ 8:=h 0 (by simp)
    have h' : ∀ i, i < ls.length → pn ls i ≤ 8:=fun i hi => h (i + 1) (by simp; omega)
    have all : ∀ n, (LSa ls s n).length ≤ n * 9 ^ ls.length:=by
      intro n
      induction n with
     |zero => simp [LSa]
     |succ n ihn =>
        rw [LSa_succ, List.length_append, List.length_map, Nat.add_mul, Nat.one_mul]
        have:=ih (s - (n : Int)) h'
        omega
    have e : LSf (a :: ls) s = LSa ls s (mn a s + 1).toNat:=rfl
    have m9 : (mn a s + 1).toNat ≤ 9:=by unfold mn; split <;> omega
    rw [e, List.length_cons, Nat.pow_succ, Nat.mul_comm (9 ^ ls.length) 9]
    exact Nat.le_trans (all _) (Nat.mul_le_mul_right _ m9)
theorem rdLL (x : List (List Int)) (n : Nat) : rd_L7 x (n : Int) = x.getD n [] := Eq.trans rfl rfl
theorem Lists_ev : ∀ (ls : List Int) (s : Int), (∀ i, i < ls.length → 0 ≤ pn ls i ∧ pn ls i ≤ 8) → ls.length ≤ 3 → -10 ≤ s → s ≤ 1000 → Evt (fun k => gridhallref3_Lists.f k ls s) (LSf ls s) := by
  intro ls
  induction ls with
 |nil =>
    intro s _ _ _ _
    refine Evt.succ ?_
    simp only [gridhallref3_Lists.f, LSf]
    refine Evt.ite_pos (by simp) (Evt.ite (fun c => ?_) (fun c => ?_))
    · rw [if_pos c]; exact Evt.pure _
    · rw [if_neg c]; exact Evt.pure _
 |cons a ls ih =>
    intro s h hl s0 s1
    have ha:=h 0 (by simp)
    rw [pn_cons0] at ha
    have h' : ∀ i, i < ls.length → 0 ≤ pn ls i ∧ pn ls i ≤ 8:=fun i hi => h (i + 1) (by simp; omega)
    have ll : ls.length ≤ 2:=by simpa using hl
    have pl : (9 : Nat) ^ ls.length ≤ 81:=by
      have : (9 : Nat) ^ ls.length ≤ 9 ^ 2:=Nat.pow_le_pow_right (by omega) ll
      omega
    have acc_len : ∀ n, n ≤ 9 → (LSa ls s n).length ≤ 729:=by
      intro n hn
      have : ∀ m, (LSa ls s m).length ≤ m * 81:=by
        intro m
        induction m with
       |zero => simp [LSa]
       |succ m ihm =>
          rw [LSa_succ, List.length_append, List.length_map, Nat.add_mul, Nat.one_mul]
          have:=LS_len ls (s - (m : Int)) (fun i hi => (h' i hi).2)
          omega
      have:=this n
      have : n * 81 ≤ 9 * 81:=Nat.mul_le_mul_right _ hn
      omega
    have in_len : ∀ t q, q ∈ LSf ls t → q.length ≤ 3:=fun t q hq => by
      have:=((LS_mem ls t q).1 hq).1
      omega
    have l1 : ∀ (n : Nat), n < 9 → (Evt (fun k => gridhallref3_Lists.l0 k (a :: ls) s (LSa ls s (n + 1)) ((n + 1 : Nat) : Int)) (LSf (a :: ls) s)) →
        ∀ m, m ≤ (LSf ls (s - (n : Int))).length → Evt (fun k => gridhallref3_Lists.l1 k (a :: ls) s (LSa ls s n ++ ((LSf ls (s - (n : Int))).take m).map fun q => (n : Int) :: q) (n : Int) (LSf ls (s - (n : Int))) ((LSf ls (s - (n : Int))).length : Int) (m : Int)) (LSf (a :: ls) s):=by
      intro n hn H
      have bl:=LS_len ls (s - (n : Int)) (fun i hi => (h' i hi).2)
      refine down ?_ ?_
      · refine Evt.succ ?_
        simp only [gridhallref3_Lists.l1]
        rw [List.take_length, ← LSa_succ, wrap64_nat (n:=n) (by omega)]
        exact Evt.ite_neg (by omega) H
      · intro m hm ihm
        have al:=acc_len n (by omega)
        have ql:=in_len _ _ (getD_mem (z:=[]) hm)
        refine Evt.succ ?_
        simp only [gridhallref3_Lists.l1, rdLL]
        rw [wrap64_nat (n:=m) (by omega)]
        refine Evt.ite_pos (by omega) (Evt.ite_pos (by omega) (Evt.ite_pos (by omega) (Evt.bindo (a:=[(n : Int)]) rfl (Evt.ite_pos (by rw [show ([(n : Int)] : List Int).length = 1 from rfl]; omega) (Evt.ite_pos (by rw [List.length_append, List.length_map, List.length_take]; omega) ?_)))))
        rw [getD_take_succ (z:=[]) hm, List.map_append, ← List.append_assoc] at ihm
        exact ihm
    have top : ∀ d n, n + d = (mn a s + 1).toNat → Evt (fun k => gridhallref3_Lists.l0 k (a :: ls) s (LSa ls s n) (n : Int)) (LSf (a :: ls) s):=by
      have m9 : (mn a s + 1).toNat ≤ 9:=by unfold mn; split <;> omega
      intro d
      induction d with
     |zero =>
        intro n hn
        refine Evt.succ ?_
        simp only [gridhallref3_Lists.l0]
        have e : LSf (a :: ls) s = LSa ls s n:=by rw [show n = (mn a s + 1).toNat by omega]; rfl
        rw [e]
        refine Evt.ite_pos (by rw [List.length_cons]; omega) (Evt.ite_neg ?_ (Evt.pure _))
        show ¬ (n : Int) ≤ mn a s
        omega
     |succ d ihd =>
        intro n hn
        have H:=ihd (n + 1) (by omega)
        have nb : (n : Int) ≤ mn a s:=by omega
        have ns : (n : Int) ≤ s:=by revert nb; unfold mn; split <;> omega
        refine Evt.succ ?_
        simp only [gridhallref3_Lists.l0]
        refine Evt.ite_pos (by rw [List.length_cons]; omega) (Evt.ite_pos nb (Evt.ite_pos (by rw [List.length_cons]; omega) ?_))
        rw [wrap64_of (x:=s - (n : Int)) (by omega) (by omega)]
        have e1 : (a :: ls).drop 1 = ls:=rfl
        rw [e1]
        refine Evt.bind (ih (s - (n : Int)) h' (by omega) (by omega) (by omega)) ?_
        have:=l1 n (by omega) H 0 (by omega)
        simp only [List.take_zero, List.map_nil, List.append_nil] at this
        exact this
    refine Evt.succ ?_
    simp only [gridhallref3_Lists.f]
    refine Evt.ite_neg (by rw [List.length_cons]; omega) ?_
    have:=top _ 0 (Nat.zero_add _)
    simp only [LSa, List.range_zero, List.flatMap_nil] at this
    exact this
theorem cst_step {l : List St} (h : Val l) (x : Int) (h0 : 0 ≤ x) (h1 : x < tot l l.length) : cst l (x + 1) l.length - cst l x l.length = untF l x l.length 0 := by
  obtain ⟨m, hm⟩ : ∃ m, m = untF l x l.length 0:=⟨_, rfl⟩
  have mb : m ≤ 1000000:=by
    rw [hm]
    refine (unit_le h x 1000000 h0 (by omega)).2 ?_
    have e:=(all_le l 1000000 l.length (fun j hj => (h.rng j hj).2.2.2)).1
    rw [e]
    exact h1
  have a1 : supL l m l.length ≤ x:=by
    apply Decidable.byContradiction
    intro c
    have:=(unit_lt h x m h0 (by omega)).2 (by omega)
    omega
  have a2 : x < supM l m l.length:=(unit_le h x m h0 (by omega)).1 (by omega)
  have t0:=(h.bd l.length (Nat.le_refl _)).1
  have b1:=hsub h (m:=m) (f:=x) (x:=x + 1) (lo:=0) (hi:=tot l l.length) (by omega) (by omega) (by omega) (by omega) (by omega) (by omega) (by unfold mn; split <;> omega) (by unfold mx; split <;> omega)
  have b2:=hsub h (m:=m) (f:=x + 1) (x:=x) (lo:=0) (hi:=tot l l.length) (by omega) (by omega) (by omega) (by omega) (by omega) (by omega) (by unfold mn; split <;> omega) (by unfold mx; split <;> omega)
  rw [show x + 1 - x = 1 by omega, Int.mul_one] at b1
  rw [show x - (x + 1) = -1 by omega, Int.mul_neg, Int.mul_one] at b2
  omega
theorem unt_mono {l : List St} (h : Val l) (x y : Int) (h0 : 0 ≤ x) (hxy : x ≤ y) (h1 : y < tot l l.length) : untF l x l.length 0 ≤ untF l y l.length 0 := by
  have mb : untF l y l.length 0 ≤ 1000000:=by
    refine (unit_le h y 1000000 (by omega) (by omega)).2 ?_
    have e:=(all_le l 1000000 l.length (fun j hj => (h.rng j hj).2.2.2)).1
    rw [e]
    exact h1
  refine (unit_le h x _ h0 (by omega)).2 ?_
  have:=(unit_le h y _ (by omega) (by omega)).1 (Int.le_refl (untF l y l.length 0))
  omega
theorem cst_conv {l : List St} (h : Val l) (x y : Int) (h0 : 0 ≤ x) (hxy : x ≤ y) : ∀ d : Nat, y + d ≤ tot l l.length → cst l (x + d) l.length - cst l x l.length ≤ cst l (y + d) l.length - cst l y l.length := by
  intro d
  induction d with
 |zero => intro _; simp
 |succ d ih =>
    intro hd
    have ih:=ih (by omega)
    have s1:=cst_step h (x + d) (by omega) (by omega)
    have s2:=cst_step h (y + d) (by omega) (by omega)
    have s3:=unt_mono h (x + d) (y + d) (by omega) (by omega) (by omega)
    rw [show x + ((d + 1 : Nat) : Int) = x + d + 1 by omega, show y + ((d + 1 : Nat) : Int) = y + d + 1 by omega]
    omega
def wt (s : List Sg) (j : Nat) : Int := (s.getD j z82).f1
def pc (s : List Sg) (j : Nat) : Int := (s.getD j z82).f2
def un (s : List Sg) (j : Nat) : Int := (s.getD j z82).f0
theorem wsum_sm (q : Sg → Bool) (s : List Sg) : wsum q s = sm (fun j => if q (s.getD j z82) = true then wt s j else 0) s.length := by
  induction s with
 |nil => rfl
 |cons x s ih =>
    have e : sm (fun j => if q ((x :: s).getD j z82) = true then wt (x :: s) j else 0) (x :: s).length = (if q x = true then x.f1 else 0) + sm (fun j => if q (s.getD j z82) = true then wt s j else 0) s.length:=by
      rw [List.length_cons, sm_cons]
      rfl
    rw [e, ← ih]
    rfl
def bu (s : List Sg) (b : Nat → Int) (n : Nat) (i : Nat) : Int := sm (fun j => if un s j = (i : Int) then b j else 0) n
structure Tk (s : List Sg) (b : Nat → Int) : Prop where
  rng : ∀ j, j < s.length → 0 ≤ b j ∧ b j ≤ wt s j
  pf : ∀ j i, j < s.length → i < j → 0 < b j → b i = wt s i
def Fit (s : List Sg) (b : Nat → Int) (m : Int) : Prop := (∀ j, j < s.length → 0 < b j → pc s j ≤ m) ∧ (∀ j, j < s.length → b j < wt s j → m ≤ pc s j)
theorem bu_lo {s : List Sg} {b : Nat → Int} (h : Tk s b) {m : Int} (hf : Fit s b m) (i : Nat) : wsum (atL m i) s ≤ bu s b s.length i ∧ bu s b s.length i ≤ wsum (atM m i) s := by
  rw [wsum_sm, wsum_sm]
  unfold bu
  constructor
  · refine sm_le _ (fun j hj => ?_)
    have r:=h.rng j hj
    have f1:=hf.2 j hj
    unfold atL
    simp only [decide_eq_true_eq]
    show (if un s j = (i : Int) ∧ pc s j < m then wt s j else 0) ≤ _
    by_cases c : un s j = (i : Int)
    · rw [if_pos c]
      by_cases c2 : pc s j < m
      · rw [if_pos ⟨c, c2⟩]
        apply Decidable.byContradiction
        intro c3
        have:=f1 (by omega)
        omega
      · rw [if_neg (fun z => c2 z.2)]
        exact r.1
    · rw [if_neg c, if_neg (fun z => c z.1)]
      exact Int.le_refl _
  · refine sm_le _ (fun j hj => ?_)
    have r:=h.rng j hj
    have f1:=hf.1 j hj
    unfold atM
    simp only [decide_eq_true_eq]
    show _ ≤ (if un s j = (i : Int) ∧ pc s j ≤ m then wt s j else 0)
    by_cases c : un s j = (i : Int)
    · rw [if_pos c]
      by_cases c2 : pc s j ≤ m
      · rw [if_pos ⟨c, c2⟩]
        exact r.2
      · rw [if_neg (fun z => c2 z.2)]
        apply Decidable.byContradiction
        intro c3
        have:=f1 (by omega)
        omega
    · rw [if_neg c, if_neg (fun z => c z.1)]
      exact Int.le_refl _
section
variable {s : List Sg} {b : Nat → Int} (h : Tk s b) (hs : ∀ i j, i ≤ j → j < s.length → pc s i ≤ pc s j) (hp : ∀ j, j < s.length → -1000000 ≤ pc s j ∧ pc s j ≤ 1000000)
include h hs hp
theorem fit_max : ∃ m, Fit s b m ∧ ((∃ j, j < s.length ∧ 0 < b j ∧ pc s j = m) ∨ (m = -2000000 ∧ ∀ j, j < s.length → ¬ 0 < b j)) := by
  have key : ∀ n, n ≤ s.length → (∃ j, j < n ∧ 0 < b j ∧ ∀ i, i < n → 0 < b i → i ≤ j) ∨ ∀ j, j < n → ¬ 0 < b j:=by
    intro n
    induction n with
   |zero => intro _; exact .inr (fun j hj => by omega)
   |succ n ih =>
      intro hn
      by_cases c : 0 < b n
      · exact .inl ⟨n, by omega, c, fun i hi _ => by omega⟩
      · rcases ih (by omega) with ⟨j, a1, a2, a3⟩|a
        · exact .inl ⟨j, by omega, a2, fun i hi hb => by
            by_cases e : i = n
            · subst e; exact absurd hb c
            · exact a3 i (by omega) hb⟩
        · exact .inr (fun j hj => by
            by_cases e : j = n
            · subst e; exact c
            · exact a j (by omega))
  rcases key s.length (Nat.le_refl _) with ⟨j, a1, a2, a3⟩|a
  · refine ⟨pc s j, ⟨fun i hi hb => hs i j (a3 i hi hb) a1, fun i hi hb => ?_⟩, .inl ⟨j, a1, a2, rfl⟩⟩
    by_cases c : j ≤ i
    · exact hs j i c hi
    · have:=h.pf j i a1 (by omega) a2
      omega
  · exact ⟨-2000000, ⟨fun i hi hb => absurd hb (a i hi), fun i hi _ => by have:=hp i hi; omega⟩, .inr ⟨rfl, a⟩⟩
theorem fit_min : ∃ m, Fit s b m ∧ ((∃ j, j < s.length ∧ b j < wt s j ∧ pc s j = m) ∨ (m = 2000000 ∧ ∀ j, j < s.length → ¬ b j < wt s j)) := by
  have key : ∀ n, n ≤ s.length → (∃ j, j < n ∧ b j < wt s j ∧ ∀ i, i < j → ¬ b i < wt s i) ∨ ∀ j, j < n → ¬ b j < wt s j:=by
    intro n
    induction n with
   |zero => intro _; exact .inr (fun j hj => by omega)
   |succ n ih =>
      intro hn
      rcases ih (by omega) with ⟨j, a1, a2, a3⟩|a
      · exact .inl ⟨j, by omega, a2, a3⟩
      · by_cases c : b n < wt s n
        · exact .inl ⟨n, by omega, c, a⟩
        · exact .inr (fun j hj => by
            by_cases e : j = n
            · subst e; exact c
            · exact a j (by omega))
  rcases key s.length (Nat.le_refl _) with ⟨j, a1, a2, a3⟩|a
  · refine ⟨pc s j, ⟨fun i hi hb => ?_, fun i hi hb => ?_⟩, .inl ⟨j, a1, a2, rfl⟩⟩
    · by_cases c : i ≤ j
      · exact hs i j c a1
      · have:=h.pf i j hi (by omega) hb
        omega
    · by_cases c : j ≤ i
      · exact hs j i c hi
      · exact absurd hb (a3 i (by omega))
  · exact ⟨2000000, ⟨fun i hi _ => by have:=hp i hi; omega, fun i hi hb => absurd hb (a i hi)⟩, .inr ⟨rfl, a⟩⟩
end
theorem sm_add (f g : Nat → Int) : ∀ n, sm (fun i => f i + g i) n = sm f n + sm g n := by
  intro n
  induction n with
 |zero => rfl
 |succ n ih => simp only [sm]; rw [ih]; omega
theorem sm_bu (s : List Sg) (b : Nat → Int) (N : Nat) (hu : ∀ j, j < s.length → ∃ i, i < N ∧ un s j = (i : Int)) : ∀ n, n ≤ s.length → sm (bu s b n) N = sm b n := by
  intro n
  induction n with
 |zero =>
    intro _
    have : ∀ N, sm (bu s b 0) N = 0:=by
      intro N
      induction N with
     |zero => rfl
     |succ N ih => simp only [sm]; rw [ih]; rfl
    exact this N
 |succ n ih =>
    intro hn
    have e : bu s b (n + 1) = fun i => bu s b n i + (if un s n = (i : Int) then b n else 0):=rfl
    rw [e, sm_add, ih (by omega)]
    obtain ⟨i, hi, hi2⟩:=hu n (by omega)
    have one : ∀ N, sm (fun k : Nat => if un s n = (k : Int) then b n else 0) N = if i < N then b n else 0:=by
      intro N
      induction N with
     |zero => simp [sm]
     |succ N ihN =>
        simp only [sm]
        rw [ihN]
        by_cases c : i = N
        · subst c
          rw [if_neg (by omega), if_pos hi2, if_pos (by omega)]
          omega
        · rw [if_neg (show ¬ un s n = (N : Int) by omega)]
          by_cases c2 : i < N
          · rw [if_pos c2, if_pos (by omega)]; omega
          · rw [if_neg c2, if_neg (by omega)]; omega
    have:=one N
    rw [if_pos hi] at this
    rw [this]
    rfl
structure Two (l : List Of) (kn : Nat → Int) (sb sa : List Sg) (b a : Nat → Int) : Prop where
  v : Vals l
  kb : ∀ i, i < l.length → 0 ≤ kn i ∧ kn i ≤ lastT l i
  pb : (SH l (fun _ => 0) kn l.length).Perm sb
  pa : (SH l kn (lastT l) l.length).Perm sa
  ob : ∀ i j, i ≤ j → j < sb.length → pc sb i ≤ pc sb j
  oa : ∀ i j, i ≤ j → j < sa.length → pc sa i ≤ pc sa j
  tb : Tk sb b
  ta : Tk sa a
section
variable {l : List Of} {kn : Nat → Int} {sb sa : List Sg} {b a : Nat → Int} (h : Two l kn sb sa b a)
include h
theorem Two.bB : Bx l (fun _ => 0) kn := ⟨fun i hi => Int.le_refl _, fun i hi => (h.kb i hi).1, fun i hi => (h.kb i hi).2⟩
theorem Two.bA : Bx l kn (lastT l) := ⟨fun i hi => (h.kb i hi).1, fun i hi => (h.kb i hi).2, fun i hi => Int.le_refl _⟩
omit h in
theorem SH_price (hv : Vals l) (lo hi : Nat → Int) : ∀ n, n ≤ l.length → ∀ s ∈ SH l lo hi n, -1000000 ≤ s.f2 ∧ s.f2 ≤ 1000000 := by
  intro n
  induction n with
 |zero => intro _ s hs; simp [SH] at hs
 |succ n ih =>
    intro hn s hs
    simp only [SH] at hs
    rcases List.mem_append.1 hs with hs|hs
    · exact ih (by omega) s hs
    · have hvn:=(hv.one n (by omega)).2.1
      have : ∀ m, m ≤ (stO l n).length → ∀ s ∈ sgN l lo hi n m, -1000000 ≤ s.f2 ∧ s.f2 ≤ 1000000:=by
        intro m
        induction m with
       |zero => intro _ s hs; simp [sgN] at hs
       |succ m ihm =>
          intro hm s hs
          simp only [sgN] at hs
          rcases List.mem_append.1 hs with hs|hs
          · exact ihm (by omega) s hs
          · split at hs
            · simp at hs
              subst hs
              have:=hvn.rng m (by omega)
              exact ⟨this.2.2.1, this.2.2.2⟩
            · simp at hs
      exact this _ (Nat.le_refl _) s hs
omit h in
theorem perm_price (hv : Vals l) {lo hi : Nat → Int} {s : List Sg} (p : (SH l lo hi l.length).Perm s) : ∀ j, j < s.length → -1000000 ≤ pc s j ∧ pc s j ≤ 1000000 := fun j hj =>
  SH_price hv lo hi _ (Nat.le_refl _) _ (p.mem_iff.2 (getD_mem (z:=z82) hj))
omit h in
theorem perm_unit {lo hi : Nat → Int} {s : List Sg} (p : (SH l lo hi l.length).Perm s) : ∀ j, j < s.length → 0 < wt s j ∧ ∃ i, i < l.length ∧ un s j = (i : Int) := fun j hj =>
  SH_mem l lo hi _ _ (p.mem_iff.2 (getD_mem (z:=z82) hj))
theorem Two.inB : ∀ i, i < l.length → 0 ≤ bu sb b sb.length i ∧ bu sb b sb.length i ≤ kn i := by
  intro i hi
  obtain ⟨m, f, _⟩:=fit_max h.tb h.ob (perm_price h.v h.pb)
  have q:=bu_lo h.tb f i
  have e:=SH_w l (fun _ => 0) kn (atM m i) i (fun s hs => by unfold atM; simp [hs]) l.length (Nat.le_refl _)
  rw [if_pos hi, wsum_perm _ h.pb, hseg_M h.v h.bB m i hi] at e
  have e2:=SH_w l (fun _ => 0) kn (atL m i) i (fun s hs => by unfold atL; simp [hs]) l.length (Nat.le_refl _)
  rw [if_pos hi, wsum_perm _ h.pb, hseg_L h.v h.bB m i hi] at e2
  have k:=h.kb i hi
  rw [e, e2] at q
  revert q
  unfold mn mx
  repeat' split
  all_goals omega
theorem Two.inA : ∀ i, i < l.length → 0 ≤ bu sa a sa.length i ∧ kn i + bu sa a sa.length i ≤ lastT l i := by
  intro i hi
  obtain ⟨m, f, _⟩:=fit_max h.ta h.oa (perm_price h.v h.pa)
  have q:=bu_lo h.ta f i
  have e:=SH_w l kn (lastT l) (atM m i) i (fun s hs => by unfold atM; simp [hs]) l.length (Nat.le_refl _)
  rw [if_pos hi, wsum_perm _ h.pa, hseg_M h.v h.bA m i hi] at e
  have e2:=SH_w l kn (lastT l) (atL m i) i (fun s hs => by unfold atL; simp [hs]) l.length (Nat.le_refl _)
  rw [if_pos hi, wsum_perm _ h.pa, hseg_L h.v h.bA m i hi] at e2
  have k:=h.kb i hi
  rw [e, e2] at q
  revert q
  unfold mn mx
  repeat' split
  all_goals omega
theorem Two.subB {m : Int} (f : Fit sb b m) {g : Nat → Int} (hg : ∀ i, i < l.length → 0 ≤ g i ∧ g i ≤ kn i) :
    m * (sm g l.length - sm b sb.length) ≤ sm (cQ l g) l.length - sm (cQ l (bu sb b sb.length)) l.length:=by
  have key:=hcost_le h.v h.bB (m:=m) (f:=bu sb b sb.length) (g:=g) (fun i hi => h.inB i hi) hg (fun i hi => ?_) (fun i hi => ?_) l.length (Nat.le_refl _)
  · rw [sm_bu sb b l.length (fun j hj => (perm_unit h.pb j hj).2) _ (Nat.le_refl _)] at key
    exact key
  · have q:=(bu_lo h.tb f i).1
    have e2:=SH_w l (fun _ => 0) kn (atL m i) i (fun s hs => by unfold atL; simp [hs]) l.length (Nat.le_refl _)
    rw [if_pos hi, wsum_perm _ h.pb, hseg_L h.v h.bB m i hi] at e2
    rw [e2] at q
    have k:=h.kb i hi
    revert q
    unfold mn mx
    repeat' split
    all_goals omega
  · have q:=(bu_lo h.tb f i).2
    have e2:=SH_w l (fun _ => 0) kn (atM m i) i (fun s hs => by unfold atM; simp [hs]) l.length (Nat.le_refl _)
    rw [if_pos hi, wsum_perm _ h.pb, hseg_M h.v h.bB m i hi] at e2
    rw [e2] at q
    revert q
    unfold mn mx
    repeat' split
    all_goals omega
theorem Two.subA {m : Int} (f : Fit sa a m) {g : Nat → Int} (hg : ∀ i, i < l.length → kn i ≤ g i ∧ g i ≤ lastT l i) :
    m * (sm g l.length - (sm kn l.length + sm a sa.length)) ≤ sm (cQ l g) l.length - sm (cQ l (fun i => kn i + bu sa a sa.length i)) l.length:=by
  have key:=hcost_le h.v h.bA (m:=m) (f:=fun i => kn i + bu sa a sa.length i) (g:=g) (fun i hi => by have:=h.inA i hi; show kn i ≤ kn i + bu sa a sa.length i ∧ kn i + bu sa a sa.length i ≤ lastT l i; omega) hg (fun i hi => ?_) (fun i hi => ?_) l.length (Nat.le_refl _)
  · rw [sm_add, sm_bu sa a l.length (fun j hj => (perm_unit h.pa j hj).2) _ (Nat.le_refl _)] at key
    exact key
  · have q:=(bu_lo h.ta f i).1
    have e2:=SH_w l kn (lastT l) (atL m i) i (fun s hs => by unfold atL; simp [hs]) l.length (Nat.le_refl _)
    rw [if_pos hi, wsum_perm _ h.pa, hseg_L h.v h.bA m i hi] at e2
    rw [e2] at q
    have k:=h.kb i hi
    show mn (lastT l i) _ ≤ kn i + _
    revert q
    unfold mn mx
    repeat' split
    all_goals omega
  · have q:=(bu_lo h.ta f i).2
    have e2:=SH_w l kn (lastT l) (atM m i) i (fun s hs => by unfold atM; simp [hs]) l.length (Nat.le_refl _)
    rw [if_pos hi, wsum_perm _ h.pa, hseg_M h.v h.bA m i hi] at e2
    rw [e2] at q
    show kn i + _ ≤ _
    revert q
    unfold mn mx
    repeat' split
    all_goals omega
theorem Two.best (lost slack D : Int) (hD : sm b sb.length + sm a sa.length = D) (hlo : D - sm kn l.length ≤ lost ∨ 0 ≤ lost) (hl1 : lost = mx 0 (D - sm kn l.length))
    (ex : sm a sa.length = lost ∨ ∀ j, j < sa.length → 0 < a j → ∀ i, i < sb.length → b i < wt sb i → pc sa j ≤ pc sb i)
    (ni : sm a sa.length = slack ∨ ∀ j, j < sa.length → a j < wt sa j → ∀ i, i < sb.length → 0 < b i → pc sb i ≤ pc sa j)
    (q : Nat → Int) (hq : ∀ i, i < l.length → 0 ≤ q i ∧ q i ≤ lastT l i) (hs : sm q l.length = D) (hk : sm (fun i => mx 0 (q i - kn i)) l.length ≤ slack) (ha : sm a sa.length ≤ slack) :
    sm (cQ l (fun i => bu sb b sb.length i + bu sa a sa.length i)) l.length ≤ sm (cQ l q) l.length:=by
  have pB:=perm_price h.v h.pb
  have pA:=perm_price h.v h.pa
  obtain ⟨x, hx⟩ : ∃ x : Nat → Int, x = fun i => mn (q i) (kn i):=⟨_, rfl⟩
  obtain ⟨y, hy⟩ : ∃ y : Nat → Int, y = fun i => mx 0 (q i - kn i):=⟨_, rfl⟩
  have xy : ∀ i, q i = x i + y i:=fun i => by
    rw [hx, hy]
    show q i = mn (q i) (kn i) + mx 0 (q i - kn i)
    unfold mn mx
    split <;> split <;> omega
  have hsum : sm x l.length + sm y l.length = D:=by
    rw [← sm_add, ← hs]
    exact (sm_congr _ (fun i _ => xy i)).symm
  have hx1 : ∀ i, i < l.length → 0 ≤ x i ∧ x i ≤ kn i:=fun i hi => by
    have:=hq i hi
    have:=h.kb i hi
    rw [hx]
    show 0 ≤ mn (q i) (kn i) ∧ mn (q i) (kn i) ≤ kn i
    unfold mn
    split <;> omega
  have hy1 : ∀ i, i < l.length → 0 ≤ y i ∧ kn i + y i ≤ lastT l i:=fun i hi => by
    have:=hq i hi
    have:=h.kb i hi
    rw [hy]
    show 0 ≤ mx 0 (q i - kn i) ∧ kn i + mx 0 (q i - kn i) ≤ lastT l i
    unfold mx
    split <;> omega
  have yl : lost ≤ sm y l.length:=by
    have a1:=sm_le l.length (fun i hi => (hx1 i hi).2)
    have a2:=sm_nonneg (f:=y) l.length (fun i hi => (hy1 i hi).1)
    rw [hl1]
    unfold mx
    split <;> omega
  have hk : sm y l.length ≤ slack:=by rw [hy]; exact hk
  have cq : sm (cQ l q) l.length = sm (cQ l x) l.length + sm (cQ l (fun i => kn i + y i)) l.length - sm (cQ l kn) l.length:=by
    have e : sm (cQ l q) l.length + sm (cQ l kn) l.length = sm (cQ l x) l.length + sm (cQ l (fun i => kn i + y i)) l.length:=by
      rw [← sm_add, ← sm_add]
      refine sm_congr _ (fun i hi => ?_)
      have k:=h.kb i hi
      show cstO l i (q i) + cstO l i (kn i) = cstO l i (x i) + cstO l i (kn i + y i)
      by_cases c : q i ≤ kn i
      · have e1 : x i = q i:=by rw [hx]; exact mn_le c
        have e2 : y i = 0:=by rw [hy]; exact mx_ge (by omega)
        rw [e1, e2, Int.add_zero]
      · have e1 : x i = kn i:=by rw [hx]; exact mn_ge (by omega)
        have e2 : kn i + y i = q i:=by have:=xy i; omega
        rw [e1, e2]
        omega
    omega
  have co : sm (cQ l (fun i => bu sb b sb.length i + bu sa a sa.length i)) l.length ≤ sm (cQ l (bu sb b sb.length)) l.length + sm (cQ l (fun i => kn i + bu sa a sa.length i)) l.length - sm (cQ l kn) l.length:=by
    have e : sm (cQ l (fun i => bu sb b sb.length i + bu sa a sa.length i)) l.length + sm (cQ l kn) l.length ≤ sm (cQ l (bu sb b sb.length)) l.length + sm (cQ l (fun i => kn i + bu sa a sa.length i)) l.length:=by
      rw [← sm_add, ← sm_add]
      refine sm_le _ (fun i hi => ?_)
      have i1:=h.inB i hi
      have i2:=h.inA i hi
      have hv:=(h.v.one i hi).2.1
      have k:=cst_conv hv (bu sb b sb.length i) (kn i) i1.1 i1.2 (bu sa a sa.length i).toNat (by rw [Int.toNat_of_nonneg i2.1]; exact i2.2)
      rw [Int.toNat_of_nonneg i2.1] at k
      show cstO l i (bu sb b sb.length i + bu sa a sa.length i) + cstO l i (kn i) ≤ cstO l i (bu sb b sb.length i) + cstO l i (kn i + bu sa a sa.length i)
      unfold cstO
      omega
    omega
  have fin : ∀ m v, Fit sb b m → Fit sa a v → 0 ≤ (v - m) * (sm y l.length - sm a sa.length) → sm (cQ l (fun i => bu sb b sb.length i + bu sa a sa.length i)) l.length ≤ sm (cQ l q) l.length:=by
    intro m v fm fv hmv
    have s1:=h.subB fm hx1
    have s2:=h.subA fv (g:=fun i => kn i + y i) (fun i hi => by have:=hy1 i hi; show kn i ≤ kn i + y i ∧ kn i + y i ≤ lastT l i; omega)
    rw [sm_add, show sm kn l.length + sm y l.length - (sm kn l.length + sm a sa.length) = sm y l.length - sm a sa.length by omega] at s2
    rw [show sm x l.length - sm b sb.length = -(sm y l.length - sm a sa.length) by omega, Int.mul_neg] at s1
    rw [Int.sub_mul] at hmv
    omega
  rcases Int.lt_trichotomy (sm y l.length) (sm a sa.length) with c|c|c
  · obtain ⟨v, fv, hv⟩:=fit_max h.ta h.oa pA
    obtain ⟨m, fm, hm⟩:=fit_min h.tb h.ob pB
    have vm : v ≤ m:=by
      rcases ex with ex|ex
      · omega
      · rcases hv with ⟨j, j1, j2, j3⟩|⟨e, _⟩
        · rcases hm with ⟨i, i1, i2, i3⟩|⟨e, _⟩
          · rw [← j3, ← i3]
            exact ex j j1 j2 i i1 i2
          · have:=pA j j1
            omega
        · rcases hm with ⟨i, i1, i2, i3⟩|⟨e2, _⟩
          · have:=pB i i1
            omega
          · omega
    refine fin m v fm fv ?_
    have:=Int.mul_nonneg (a:=m - v) (b:=sm a sa.length - sm y l.length) (by omega) (by omega)
    rw [show v - m = -(m - v) by omega, show sm y l.length - sm a sa.length = -(sm a sa.length - sm y l.length) by omega, Int.neg_mul_neg]
    exact this
  · obtain ⟨v, fv, _⟩:=fit_max h.ta h.oa pA
    obtain ⟨m, fm, _⟩:=fit_min h.tb h.ob pB
    refine fin m v fm fv ?_
    rw [c, Int.sub_self, Int.mul_zero]
    exact Int.le_refl _
  · obtain ⟨v, fv, hv⟩:=fit_min h.ta h.oa pA
    obtain ⟨m, fm, hm⟩:=fit_max h.tb h.ob pB
    have vm : m ≤ v:=by
      rcases ni with ni|ni
      · omega
      · rcases hv with ⟨j, j1, j2, j3⟩|⟨e, _⟩
        · rcases hm with ⟨i, i1, i2, i3⟩|⟨e, _⟩
          · rw [← j3, ← i3]
            exact ni j j1 j2 i i1 i2
          · have:=pA j j1
            omega
        · rcases hm with ⟨i, i1, i2, i3⟩|⟨e2, _⟩
          · have:=pB i i1
            omega
          · omega
    exact fin m v fm fv (Int.mul_nonneg (by omega) (by omega))
end
end Go.Proofs.Ytekpnmeikibioaa.CReserveBest
