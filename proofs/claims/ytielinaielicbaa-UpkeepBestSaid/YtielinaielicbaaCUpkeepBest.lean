import Derived.Test.YtielinaielicbaaBUpkeepBest
namespace Go.Proofs.Ytielinaielicbaa.CUpkeepBest
open Go.RowKit Go.Proofs.YtielinaielicbaaW.PrintWords Go.Proofs.YtielinaielicbaaW.PrintMore Go.Proofs.Ytielinaielicbaa.Evs Go.Proofs.Ytielinaielicbaa.PUpkeepBest Go.Proofs.Ytielinaielicbaa.BUpkeepBest
set_option linter.unusedVariables false
set_option linter.unusedSectionVars false
set_option linter.unusedSimpArgs false
def days (a : Int) : Nat → List Int
 |0 => []
 |n + 1 => a :: days (a + 1) n
theorem days_mem : ∀ (n : Nat) (a d : Int), d ∈ days a n ↔ a ≤ d ∧ d < a + n
 |0, a, d => by simp only [days, List.not_mem_nil, false_iff]; omega
 |n + 1, a, d => by
    simp only [days, List.mem_cons, days_mem n (a + 1) d]
    omega
def nd (js : List Jb) (i : Nat) : Nat := (la js i - ft js i + 1).toNat
def allP (js : List Jb) : Nat → List Int → List (List Int)
 |0, p => [p]
 |m + 1, p => (days (ft js p.length) (nd js p.length)).flatMap (fun d => allP js m (p ++ [d]))
def good (js : List Jb) (ap : List Ap) (c : Int) (l : List Int) (k : Nat) : Prop := ¬ Conf js ap l k ∧ ¬ Full js c l k
def Vd (js : List Jb) (ap : List Ap) (c : Int) (l : List Int) : Prop := ∀ k, k < js.length → good js ap c l k
open Classical in
noncomputable def exts (js : List Jb) (ap : List Ap) (c : Int) : Nat → List Int → List (List Int)
 |0, l => [l]
 |m + 1, l => (days (ft js l.length) (nd js l.length)).flatMap (fun d => if good js ap c (l ++ [d]) l.length then exts js ap c m (l ++ [d]) else [])
def better (js : List Jb) (b p : List Int) : List Int := if b = [] ∨ cs js p js.length < cs js b js.length then p else b
def pick (js : List Jb) (b : List Int) (L : List (List Int)) : List Int := L.foldl (better js) b
def inR (js : List Jb) (p : List Int) : Prop := p.length ≤ js.length ∧ ∀ i, i < p.length → ft js i ≤ pl p i ∧ pl p i ≤ la js i
theorem pl_left (l t : List Int) (i : Nat) (h : i < l.length) : pl (l ++ t) i = pl l i := by
  unfold pl
  rw [List.getD_eq_getElem?_getD, List.getD_eq_getElem?_getD, List.getElem?_append_left h]
theorem pl_last (l t : List Int) (d : Int) : pl (l ++ d :: t) l.length = d := by
  unfold pl
  rw [List.getD_eq_getElem?_getD, List.getElem?_append_right (Nat.le_refl _), Nat.sub_self]
  rfl
theorem inR_snoc {js : List Jb} {p : List Int} {d : Int} (h : inR js p) (hp : p.length < js.length) (h1 : ft js p.length ≤ d) (h2 : d ≤ la js p.length) : inR js (p ++ [d]) := by
  refine ⟨by rw [List.length_append]; simp only [List.length_singleton]; omega, fun i hi => ?_⟩
  rw [List.length_append] at hi
  simp only [List.length_singleton] at hi
  by_cases e : i = p.length
  · subst e
    rw [pl_last]
    exact ⟨h1, h2⟩
  · rw [pl_left _ _ _ (by omega)]
    exact h.2 i (by omega)
theorem len_snoc (p : List Int) (d : Int) : (p ++ [d]).length = p.length + 1 := by simp
theorem nd_mem {js : List Jb} {i : Nat} {d : Int} (h : d ∈ days (ft js i) (nd js i)) : ft js i ≤ d ∧ d ≤ la js i := by
  have:=(days_mem _ _ _).1 h
  unfold nd at this
  omega
theorem allP_spec {js : List Jb} : ∀ (m : Nat) (p q : List Int), inR js p → p.length + m = js.length → q ∈ allP js m p → q.length = js.length ∧ inR js q ∧ ∀ i, i < p.length → pl q i = pl p i
 |0, p, q, h, e, hq => by
    simp only [allP, List.mem_singleton] at hq
    subst hq
    exact ⟨by omega, h, fun _ _ => rfl⟩
 |m + 1, p, q, h, e, hq => by
    simp only [allP, List.mem_flatMap] at hq
    obtain ⟨d, hd, hq⟩:=hq
    have b:=nd_mem hd
    obtain ⟨r1, r2, r3⟩:=allP_spec m (p ++ [d]) q (inR_snoc h (by omega) b.1 b.2) (by rw [len_snoc]; omega) hq
    refine ⟨r1, r2, fun i hi => ?_⟩
    rw [r3 i (by rw [len_snoc]; omega), pl_left _ _ _ hi]
theorem allP_ne {js : List Jb} (hd : ∀ i, i < js.length → ft js i ≤ la js i) : ∀ (m : Nat) (p : List Int), p.length + m = js.length → ∃ q, q ∈ allP js m p
 |0, p, _ => ⟨p, by simp [allP]⟩
 |m + 1, p, e => by
    obtain ⟨q, hq⟩:=allP_ne hd m (p ++ [ft js p.length]) (by rw [len_snoc]; omega)
    refine ⟨q, ?_⟩
    simp only [allP, List.mem_flatMap]
    refine ⟨ft js p.length, (days_mem _ _ _).2 ?_, hq⟩
    have:=hd p.length (by omega)
    unfold nd
    omega
theorem bz_congr {js : List Jb} {t l : List Int} {i : Nat} (h : pl t i = pl l i) (day : Int) : bz js t i day ↔ bz js l i day := by
  unfold bz
  rw [h]
theorem good_congr {js : List Jb} {ap : List Ap} {c : Int} {t l : List Int} {k : Nat} (h : ∀ i, i < k + 1 → pl t i = pl l i) : good js ap c t k ↔ good js ap c l k := by
  have h1 : Conf js ap t k ↔ Conf js ap l k:=by
    unfold Conf
    constructor
    · rintro ⟨n, a, b, day, d0, d1, x, y⟩
      have q : q0 ap n < k + 1 ∧ q1 ap n < k + 1:=by unfold pr at b; omega
      exact ⟨n, a, b, day, d0, d1, (bz_congr (h _ q.1) _).1 x, (bz_congr (h _ q.2) _).1 y⟩
    · rintro ⟨n, a, b, day, d0, d1, x, y⟩
      have q : q0 ap n < k + 1 ∧ q1 ap n < k + 1:=by unfold pr at b; omega
      exact ⟨n, a, b, day, d0, d1, (bz_congr (h _ q.1) _).2 x, (bz_congr (h _ q.2) _).2 y⟩
  have h2 : Full js c t k ↔ Full js c l k:=by
    unfold Full
    constructor
    · rintro ⟨day, d0, d1, x, y⟩
      refine ⟨day, d0, d1, (bz_congr (h _ (by omega)) _).1 x, ?_⟩
      rw [← cnt_congr (m:=k + 1) h day (k + 1) (Nat.le_refl _)]
      exact y
    · rintro ⟨day, d0, d1, x, y⟩
      refine ⟨day, d0, d1, (bz_congr (h _ (by omega)) _).2 x, ?_⟩
      rw [cnt_congr (m:=k + 1) h day (k + 1) (Nat.le_refl _)]
      exact y
  unfold good
  rw [h1, h2]
open Classical in
theorem exts_eq {js : List Jb} {ap : List Ap} {c : Int} : ∀ (m : Nat) (p : List Int), inR js p → p.length + m = js.length → (∀ k, k < p.length → good js ap c p k) → exts js ap c m p = (allP js m p).filter (fun q => decide (Vd js ap c q))
 |0, p, h, e, g => by
    simp only [exts, allP]
    have v : Vd js ap c p:=fun k hk => g k (by omega)
    rw [List.filter_cons_of_pos (p:=fun q => decide (Vd js ap c q)) (decide_eq_true v)]
    rfl
 |m + 1, p, h, e, g => by
    simp only [exts, allP]
    rw [List.filter_flatMap]
    have : ∀ d, d ∈ days (ft js p.length) (nd js p.length) → (if good js ap c (p ++ [d]) p.length then exts js ap c m (p ++ [d]) else []) = (allP js m (p ++ [d])).filter (fun q => decide (Vd js ap c q)):=by
      intro d hd
      have b:=nd_mem hd
      have r:=inR_snoc h (by omega) b.1 b.2
      have le : (p ++ [d]).length + m = js.length:=by rw [len_snoc]; omega
      by_cases c1 : good js ap c (p ++ [d]) p.length
      · rw [if_pos c1]
        refine exts_eq m (p ++ [d]) r le (fun k hk => ?_)
        rw [len_snoc] at hk
        by_cases e1 : k = p.length
        · subst e1
          exact c1
        · exact (good_congr (fun i hi => pl_left _ _ _ (by omega))).2 (g k (by omega))
      · rw [if_neg c1]
        symm
        rw [List.filter_eq_nil_iff]
        intro q hq v
        have v:=of_decide_eq_true v
        have s:=(allP_spec m _ q r le hq).2.2
        exact c1 ((good_congr (fun i hi => s i (by rw [len_snoc]; omega))).1 (v p.length (by omega)))
    have fm : ∀ (l : List Int) (f g : Int → List (List Int)),(∀ d, d ∈ l → f d = g d) → l.flatMap f = l.flatMap g:=by
      intro l f g hfg
      induction l with
     |nil => rfl
     |cons a l ih =>
        rw [List.flatMap_cons, List.flatMap_cons, hfg a (by simp), ih (fun d hd => hfg d (by simp [hd]))]
    exact fm _ _ _ this
theorem cs_congr {js : List Jb} {t l : List Int} : ∀ k, (∀ i, i < k → pl t i = pl l i) → cs js t k = cs js l k
 |0, _ => rfl
 |k + 1, h => by
    simp only [cs]
    rw [cs_congr k (fun i hi => h i (by omega)), h k (by omega)]
section
variable {js : List Jb} {ap : List Ap} {c : Int} (hu : Up js ap c)
include hu
theorem mulR {l : List Int} (hr : inR js l) (n : Nat) (hn : n < l.length) : (0 ≤ pl l n - ft js n ∧ pl l n - ft js n ≤ 11) ∧ (0 ≤ (pl l n - ft js n) * wt js n ∧ (pl l n - ft js n) * wt js n ≤ 11000) ∧ 0 ≤ wt js n ∧ wt js n ≤ 1000 := by
  have o:=hu.job n (by have:=hr.1; omega)
  have:=hr.2 n hn
  unfold okJ at o
  have e1 : 0 ≤ (pl l n - ft js n) * wt js n:=Int.mul_nonneg (by omega) (by omega)
  have e2 : (pl l n - ft js n) * wt js n ≤ 11 * wt js n:=Int.mul_le_mul_of_nonneg_right (by omega) (by omega)
  omega
theorem csR {l : List Int} (hr : inR js l) : ∀ n, n ≤ l.length → 0 ≤ cs js l n ∧ cs js l n ≤ 11000 * n := by
  intro n
  induction n with
 |zero => intro _; simp [cs]
 |succ n ih =>
    intro hn
    have:=ih (by omega)
    have:=mulR hu hr n (by omega)
    simp only [cs]
    omega
theorem cs_up {l : List Int} (hr : inR js l) : ∀ d k, k + d ≤ l.length → cs js l k ≤ cs js l (k + d) := by
  intro d
  induction d with
 |zero => intro k _; exact Int.le_refl _
 |succ d ih =>
    intro k hk
    have:=ih k (by omega)
    have:=mulR hu hr (k + d) (by omega)
    rw [show k + (d + 1) = (k + d) + 1 by omega]
    simp only [cs]
    omega
theorem costR {l : List Int} (hr : inR js l) : Evt (fun q => upkeep_cost.f q js ap c l) (cs js l l.length) := by
  have hj:=hu.hj
  have hl:=hr.1
  simp only [upkeep_cost.f]
  have : ∀ n, n ≤ l.length → Evt (fun q => upkeep_cost.l0 q (cs js l n) l (l.length : Int) (n : Int) js ap c) (cs js l l.length):=by
    refine down ?_ ?_
    · refine Evt.succ ?_
      simp only [upkeep_cost.l0]
      exact Evt.ite_neg (by omega) (Evt.pure _)
    · intro n hn ih
      have o:=hu.job n (by omega)
      unfold okJ at o
      have b:=mulR hu hr n hn
      have d:=csR hu hr (n + 1) (by omega)
      have h:=hr.2 n hn
      refine Evt.succ ?_
      simp only [upkeep_cost.l0, rdp, rj]
      rw [wrap64_nat (n:=n) (by omega)]
      have e1 : wrap64 (pl l n - (jb js n).f2) = pl l n - ft js n:=wrap64_of (x:=pl l n - ft js n) (by omega) (by omega)
      have e2 : wrap64 ((pl l n - ft js n) * (jb js n).f4) = (pl l n - ft js n) * wt js n:=wrap64_of (x:=(pl l n - ft js n) * wt js n) (by omega) (by omega)
      have e3 : wrap64 (cs js l n + (pl l n - ft js n) * wt js n) = cs js l (n + 1):=by
        have : cs js l (n + 1) = cs js l n + (pl l n - ft js n) * wt js n:=rfl
        rw [← this]
        exact wrap64_of (by omega) (by omega)
      rw [e1, e2, e3]
      exact Evt.ite_pos (by omega) (Evt.ite_pos (by omega) (Evt.ite_pos (by omega) (Evt.ite_pos (by omega) ih)))
  exact this 0 (by omega)
theorem exts_spec {m : Nat} {p q : List Int} (h : inR js p) (e : p.length + m = js.length) (hq : q ∈ allP js m p) : q.length = js.length ∧ inR js q ∧ cs js p p.length ≤ cs js q js.length := by
  obtain ⟨r1, r2, r3⟩:=allP_spec m p q h e hq
  refine ⟨r1, r2, ?_⟩
  rw [← cs_congr p.length r3]
  have:=cs_up hu r2 m p.length (by omega)
  rw [e] at this
  exact this
end
theorem exts_sub {js : List Jb} {ap : List Ap} {c : Int} : ∀ (m : Nat) (p q : List Int), q ∈ exts js ap c m p → q ∈ allP js m p
 |0, p, q, h => by simpa only [exts, allP] using h
 |m + 1, p, q, h => by
    simp only [exts, allP, List.mem_flatMap] at h ⊢
    obtain ⟨d, hd, hq⟩:=h
    refine ⟨d, hd, ?_⟩
    split at hq
    · exact exts_sub m _ _ hq
    · simp at hq
theorem pick_append (js : List Jb) (b : List Int) (L M : List (List Int)) : pick js b (L ++ M) = pick js (pick js b L) M := List.foldl_append
theorem pick_ge {js : List Jb} {b : List Int} : ∀ (L : List (List Int)), b ≠ [] → (∀ p, p ∈ L → cs js b js.length ≤ cs js p js.length) → pick js b L = b
 |[], _, _ => rfl
 |p :: L, hb, h => by
    have e : better js b p = b:=by
      unfold better
      rw [if_neg]
      rintro (h1|h1)
      · exact hb h1
      · have:=h p (by simp)
        omega
    show pick js (better js b p) L = b
    rw [e]
    exact pick_ge L hb (fun p hp => h p (by simp [hp]))
def okB (js : List Jb) (b : List Int) : Prop := b = [] ∨ (b.length = js.length ∧ inR js b)
theorem pick_ok {js : List Jb} : ∀ (L : List (List Int)) (b : List Int), okB js b → (∀ p, p ∈ L → p.length = js.length ∧ inR js p) → okB js (pick js b L)
 |[], b, hb, _ => hb
 |p :: L, b, hb, h => by
    refine pick_ok L (better js b p) ?_ (fun p hp => h p (by simp [hp]))
    unfold better
    split
    · exact Or.inr (h p (by simp))
    · exact hb
theorem pick_ne {js : List Jb} : ∀ (L : List (List Int)) (b : List Int), b ≠ [] → (∀ p, p ∈ L → p ≠ []) → pick js b L ≠ []
 |[], b, hb, _ => hb
 |p :: L, b, hb, h => by
    refine pick_ne L (better js b p) ?_ (fun p hp => h p (by simp [hp]))
    unfold better
    split
    · exact h p (by simp)
    · exact hb
theorem pick_nil {js : List Jb} {L : List (List Int)} (h : ∀ p, p ∈ L → p ≠ []) : pick js [] L = [] ↔ L = [] := by
  cases L with
 |nil => exact ⟨fun _ => rfl, fun _ => rfl⟩
 |cons p L =>
    refine ⟨fun e => ?_, fun e => by cases e⟩
    have e1 : better js [] p = p:=if_pos (Or.inl rfl)
    have : pick js (better js [] p) L = []:=e
    rw [e1] at this
    exact absurd this (pick_ne L p (h p (by simp)) (fun p hp => h p (by simp [hp])))
end Go.Proofs.Ytielinaielicbaa.CUpkeepBest
