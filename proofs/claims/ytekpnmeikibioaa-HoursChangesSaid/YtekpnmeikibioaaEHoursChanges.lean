import Derived.Test.YtekpnmeikibioaaDHoursChanges
import Derived.Test.YtekpnmeikibioaaHHoursChangesy11
import Derived.Test.YtekpnmeikibioaaHHoursChangesy12
namespace Go.Proofs.Ytekpnmeikibioaa.EHoursChanges
open Go.RowKit Go.Proofs.YtekpnmeikibioaaW.PrintWords Go.Proofs.YtekpnmeikibioaaW.PrintMore Go.Proofs.Ytekpnmeikibioaa.Evs Go.Proofs.Ytekpnmeikibioaa.PHoursChanges Go.Proofs.Ytekpnmeikibioaa.BHoursChanges Go.Proofs.Ytekpnmeikibioaa.CHoursChanges Go.Proofs.Ytekpnmeikibioaa.DHoursChanges Go.Proofs.Ytekpnmeikibioaa.ZHoursChanges Go.Proofs.Ytekpnmeikibioaa.XHoursChanges
set_option linter.unusedVariables false
set_option linter.unusedSectionVars false
set_option linter.unusedSimpArgs false
theorem sm_cons (f : Nat → Int) : ∀ n, sm f (n + 1) = f 0 + sm (fun i => f (i + 1)) n := by
  intro n
  induction n with
 |zero => simp [sm]
 |succ n ih =>
    have : sm f (n + 1 + 1) = sm f (n + 1) + f (n + 1):=rfl
    rw [this, ih]
    simp only [sm]
    omega
def LSf : List Int → Int → List (List Int)
 |[], s => if s = 0 then [[]] else []
 |a :: ls, s => (List.range (mn a s + 1).toNat).flatMap fun (m : Nat) => (LSf ls (s - (m : Int))).map fun q => (m : Int) :: q
def LSa (ls : List Int) (s : Int) (n : Nat) : List (List Int) := (List.range n).flatMap fun (m : Nat) => (LSf ls (s - (m : Int))).map fun q => (m : Int) :: q
theorem LSa_succ (ls : List Int) (s : Int) (n : Nat) : LSa ls s (n + 1) = LSa ls s n ++ (LSf ls (s - (n : Int))).map fun q => (n : Int) :: q := by
  unfold LSa
  rw [List.range_succ, List.flatMap_append]
  simp
theorem pn_cons0 (a : Int) (q : List Int) : pn (a :: q) 0 = a := rfl
theorem pn_cons1 (a : Int) (q : List Int) (i : Nat) : pn (a :: q) (i + 1) = pn q i := rfl
theorem LS_mem : ∀ (ls : List Int) (s : Int) (q : List Int), q ∈ LSf ls s ↔ q.length = ls.length ∧ (∀ i, i < ls.length → 0 ≤ pn q i ∧ pn q i ≤ pn ls i) ∧ sm (pn q) ls.length = s := by
  intro ls
  induction ls with
 |nil =>
    intro s q
    simp only [LSf]
    by_cases c : s = 0
    · rw [if_pos c]
      subst c
      constructor
      · intro h
        have : q = []:=by simpa using h
        subst this
        exact ⟨rfl, fun i hi => by simp at hi, rfl⟩
      · rintro ⟨h, _⟩
        have : q = []:=List.eq_nil_of_length_eq_zero h
        simp [this]
    · rw [if_neg c]
      constructor
      · intro h; simp at h
      · rintro ⟨_, _, h⟩
        simp only [List.length_nil, sm] at h
        exact absurd h.symm c
 |cons a ls ih =>
    intro s q
    simp only [LSf, List.mem_flatMap, List.mem_map, List.mem_range]
    constructor
    · rintro ⟨m, hm, q', hq', rfl⟩
      obtain ⟨h1, h2, h3⟩:=(ih _ _).1 hq'
      have hm2 : (m : Int) ≤ mn a s:=by omega
      have ha : mn a s ≤ a:=by unfold mn; split <;> omega
      refine ⟨by simp [h1], fun i hi => ?_, ?_⟩
      · cases i with
       |zero => rw [pn_cons0, pn_cons0]; omega
       |succ i => rw [pn_cons1, pn_cons1]; exact h2 i (by simpa using hi)
      · rw [List.length_cons, sm_cons, pn_cons0]
        have : (fun i => pn ((m : Int) :: q') (i + 1)) = pn q':=by funext i; rfl
        rw [this, h3]
        omega
    · rintro ⟨h1, h2, h3⟩
      cases q with
     |nil => simp at h1
     |cons b q' =>
        have b0:=h2 0 (by simp)
        rw [pn_cons0, pn_cons0] at b0
        rw [List.length_cons, sm_cons, pn_cons0] at h3
        have e : (fun i => pn (b :: q') (i + 1)) = pn q':=by funext i; rfl
        rw [e] at h3
        have nn:=sm_nonneg (f:=pn q') ls.length (fun i hi => by have:=h2 (i + 1) (by simp; omega); rw [pn_cons1] at this; exact this.1)
        have bm : b ≤ mn a s:=by unfold mn; split <;> omega
        refine ⟨b.toNat, by omega, q', (ih _ _).2 ⟨by simpa using h1, fun i hi => ?_, ?_⟩, ?_⟩
        · have:=h2 (i + 1) (by simp; omega)
          rw [pn_cons1, pn_cons1] at this
          exact this
        · omega
        · rw [show ((b.toNat : Nat) : Int) = b by omega]
theorem LS_len : ∀ (ls : List Int) (s : Int), (∀ i, i < ls.length → pn ls i ≤ 8) → (LSf ls s).length ≤ 9 ^ ls.length := by
  intro ls
  induction ls with
 |nil => intro s _; simp only [LSf]; split <;> simp
 |cons a ls ih =>
    intro s h
    have ha : a ≤ 8:=h 0 (by simp)
    have h' : ∀ i, i < ls.length → pn ls i ≤ 8:=fun i hi => h (i + 1) (by simp; omega)
    have all : ∀ n, (LSa ls s n).length ≤ n * 9 ^ ls.length:=by
      intro n
      induction n with
     |zero => simp [LSa]
     |succ n ihn =>
        rw [LSa_succ, List.length_append, List.length_map, Nat.add_mul, Nat.one_mul]
        have:=ih (s - (n : Int)) h'
        omega
    have e : LSf (a :: ls) s = LSa ls s (mn a s + 1).toNat:=rfl
    have m9 : (mn a s + 1).toNat ≤ 9:=by unfold mn; split <;> omega
    rw [e, List.length_cons, Nat.pow_succ, Nat.mul_comm (9 ^ ls.length) 9]
    exact Nat.le_trans (all _) (Nat.mul_le_mul_right _ m9)
theorem rdLL (x : List (List Int)) (n : Nat) : rd_L2 x (n : Int) = x.getD n [] := Eq.trans rfl rfl
theorem Lists_ev : ∀ (ls : List Int) (s : Int), (∀ i, i < ls.length → 0 ≤ pn ls i ∧ pn ls i ≤ 8) → ls.length ≤ 3 → -10 ≤ s → s ≤ 1000 → Evt (fun k => gridhallref3_Lists.f k ls s) (LSf ls s) := by
  intro ls
  induction ls with
 |nil =>
    intro s _ _ _ _
    refine Evt.succ ?_
    simp only [gridhallref3_Lists.f, LSf]
    refine Evt.ite_pos (by simp) (Evt.ite (fun c => ?_) (fun c => ?_))
    · rw [if_pos c]; exact Evt.pure _
    · rw [if_neg c]; exact Evt.pure _
 |cons a ls ih =>
    intro s h hl s0 s1
    have ha:=h 0 (by simp)
    rw [pn_cons0] at ha
    have h' : ∀ i, i < ls.length → 0 ≤ pn ls i ∧ pn ls i ≤ 8:=fun i hi => h (i + 1) (by simp; omega)
    have ll : ls.length ≤ 2:=by simpa using hl
    have pl : (9 : Nat) ^ ls.length ≤ 81:=by
      have : (9 : Nat) ^ ls.length ≤ 9 ^ 2:=Nat.pow_le_pow_right (by omega) ll
      omega
    have acc_len : ∀ n, n ≤ 9 → (LSa ls s n).length ≤ 729:=by
      intro n hn
      have : ∀ m, (LSa ls s m).length ≤ m * 81:=by
        intro m
        induction m with
       |zero => simp [LSa]
       |succ m ihm =>
          rw [LSa_succ, List.length_append, List.length_map, Nat.add_mul, Nat.one_mul]
          have:=LS_len ls (s - (m : Int)) (fun i hi => (h' i hi).2)
          omega
      have:=this n
      have : n * 81 ≤ 9 * 81:=Nat.mul_le_mul_right _ hn
      omega
    have in_len : ∀ t q, q ∈ LSf ls t → q.length ≤ 3:=fun t q hq => by
      have:=((LS_mem ls t q).1 hq).1
      omega
    have l1 : ∀ (n : Nat), n < 9 → (Evt (fun k => gridhallref3_Lists.l0 k (a :: ls) s (LSa ls s (n + 1)) ((n + 1 : Nat) : Int)) (LSf (a :: ls) s)) →
        ∀ m, m ≤ (LSf ls (s - (n : Int))).length → Evt (fun k => gridhallref3_Lists.l1 k (a :: ls) s (LSa ls s n ++ ((LSf ls (s - (n : Int))).take m).map fun q => (n : Int) :: q) (n : Int) (LSf ls (s - (n : Int))) ((LSf ls (s - (n : Int))).length : Int) (m : Int)) (LSf (a :: ls) s):=by
      intro n hn H
      have bl:=LS_len ls (s - (n : Int)) (fun i hi => (h' i hi).2)
      refine down ?_ ?_
      · refine Evt.succ ?_
        simp only [gridhallref3_Lists.l1]
        rw [List.take_length, ← LSa_succ, wrap64_nat (n:=n) (by omega)]
        exact Evt.ite_neg (by omega) H
      · intro m hm ihm
        have al:=acc_len n (by omega)
        have ql:=in_len _ _ (getD_mem (z:=[]) hm)
        refine Evt.succ ?_
        simp only [gridhallref3_Lists.l1, rdLL]
        rw [wrap64_nat (n:=m) (by omega)]
        refine Evt.ite_pos (by omega) (Evt.ite_pos (by omega) (Evt.ite_pos (by omega) (Evt.bindo (a:=[(n : Int)]) rfl (Evt.ite_pos (by rw [show ([(n : Int)] : List Int).length = 1 from rfl]; omega) (Evt.ite_pos (by rw [List.length_append, List.length_map, List.length_take]; omega) ?_)))))
        rw [getD_take_succ (z:=[]) hm, List.map_append, ← List.append_assoc] at ihm
        exact ihm
    have top : ∀ d n, n + d = (mn a s + 1).toNat → Evt (fun k => gridhallref3_Lists.l0 k (a :: ls) s (LSa ls s n) (n : Int)) (LSf (a :: ls) s):=by
      have m9 : (mn a s + 1).toNat ≤ 9:=by unfold mn; split <;> omega
      intro d
      induction d with
     |zero =>
        intro n hn
        refine Evt.succ ?_
        simp only [gridhallref3_Lists.l0]
        have e : LSf (a :: ls) s = LSa ls s n:=by rw [show n = (mn a s + 1).toNat by omega]; rfl
        rw [e]
        refine Evt.ite_pos (by rw [List.length_cons]; omega) (Evt.ite_neg ?_ (Evt.pure _))
        show ¬ (n : Int) ≤ mn a s
        omega
     |succ d ihd =>
        intro n hn
        have H:=ihd (n + 1) (by omega)
        have nb : (n : Int) ≤ mn a s:=by omega
        have ns : (n : Int) ≤ s:=by revert nb; unfold mn; split <;> omega
        refine Evt.succ ?_
        simp only [gridhallref3_Lists.l0]
        refine Evt.ite_pos (by rw [List.length_cons]; omega) (Evt.ite_pos nb (Evt.ite_pos (by rw [List.length_cons]; omega) ?_))
        rw [wrap64_of (x:=s - (n : Int)) (by omega) (by omega)]
        have e1 : (a :: ls).drop 1 = ls:=rfl
        rw [e1]
        refine Evt.bind (ih (s - (n : Int)) h' (by omega) (by omega) (by omega)) ?_
        have:=l1 n (by omega) H 0 (by omega)
        simp only [List.take_zero, List.map_nil, List.append_nil] at this
        exact this
    refine Evt.succ ?_
    simp only [gridhallref3_Lists.f]
    refine Evt.ite_neg (by rw [List.length_cons]; omega) ?_
    have:=top _ 0 (Nat.zero_add _)
    simp only [LSa, List.range_zero, List.flatMap_nil] at this
    exact this
def okQ (p q : List Int) (M : Int) : Nat → Bool
 |0 => true
 |n + 1 => okQ p q M n && decide (-M ≤ pn q n - pn p n ∧ pn q n - pn p n ≤ M)
theorem okQ_iff (p q : List Int) (M : Int) : ∀ n, okQ p q M n = true ↔ ∀ i, i < n → -M ≤ pn q i - pn p i ∧ pn q i - pn p i ≤ M := by
  intro n
  induction n with
 |zero => simp [okQ]
 |succ n ih =>
    simp only [okQ, Bool.and_eq_true, decide_eq_true_eq]
    rw [ih]
    constructor
    · rintro ⟨h1, h2⟩ i hi
      by_cases e : i = n
      · subst e
        exact h2
      · exact h1 i (by omega)
    · intro h
      exact ⟨fun i hi => h i (by omega), h n (by omega)⟩
theorem tab_succ (f : Nat → Int) (n : Nat) : tab f (n + 1) = tab f n ++ [f n] := by
  unfold tab
  rw [List.range_succ, List.map_append]
  rfl
theorem rdQ (x : List (List Int)) : rd_L2 x 0 = x.getD 0 [] := Eq.trans rfl rfl
section
variable {l : List Of} {p : List Int} {D M : Int} (h : Pl l p D M)
include h
theorem cl_ev (q : List Int) (hq : q.length = l.length) (hb : ∀ i, i < l.length → 0 ≤ pn q i ∧ pn q i ≤ 100000) (was : Int) (hw : -12000000000000 ≤ was ∧ was ≤ 12000000000000) :
    Evt (fun k => gridhalllaw3_HoursChanges_1.f k q [was] [l] [p] [M]) (sm (cQ l (pn q)) l.length - was, okQ p q M l.length):=by
  have hl:=h.v.len
  have hM:=h.hM
  have hp:=h.len
  have loop : ∀ n, n ≤ l.length → Evt (fun k => gridhalllaw3_HoursChanges_1.l0 k q (sm (cQ l (pn q)) n - was) (okQ p q M n) l (l.length : Int) (n : Int) [p] [M]) (sm (cQ l (pn q)) l.length - was, okQ p q M l.length):=by
    refine down ?_ ?_
    · refine Evt.succ ?_
      simp only [gridhalllaw3_HoursChanges_1.l0]
      exact Evt.ite_neg (by omega) (Evt.pure _)
    · intro n hn ih
      have hv:=(h.v.one n hn).2.1
      have a1:=cQ_bd h (pn q) n (by omega)
      have a2:=cQ_bd h (pn q) (n + 1) (by omega)
      have pb:=h.bd n hn
      have qb:=hb n hn
      have pr_:=h.rng n hn
      refine Evt.succ ?_
      simp only [gridhalllaw3_HoursChanges_1.l0, rdO0, rdO1, rdp]
      rw [wrap64_nat (n:=n) (by omega)]
      refine Evt.ite_pos (by omega) (Evt.ite_pos (by omega) (Evt.ite_pos (by omega) (Evt.ite_pos (by omega) (Evt.bind (refCost_ev (nmO l n) (stO l n) hv (pn q n)) ?_))))
      have e1 : sm (cQ l (pn q)) n - was + cst (stO l n) (pn q n) (stO l n).length = sm (cQ l (pn q)) (n + 1) - was:=by
        simp only [sm]
        have : cQ l (pn q) n = cst (stO l n) (pn q n) (stO l n).length:=rfl
        omega
      rw [e1, wrap64_of (x:=sm (cQ l (pn q)) (n + 1) - was) (by omega) (by omega)]
      have r0 : rd [M] 0 = M:=rfl
      simp only [okQ] at ih
      by_cases c : okQ p q M n = true
      · rw [c, Bool.true_and] at ih
        refine Evt.ite_pos c (Evt.ite_pos (by simp) (Evt.ite_pos ?_ (Evt.ite_pos (by simp) ?_)))
        · show (n : Int) < (p.length : Int)
          omega
        · rw [r0, rdQ]
          show Evt (fun k => (gridhallref3_In.f (wrap64 (pn q n - rd p n)) (wrap64 (-M)) M).bind _) _
          rw [rdp, wrap64_of (x:=pn q n - pn p n) (by omega) (by omega), wrap64_of (x:=-M) (by omega) (by omega)]
          exact Evt.bindo (in_eq _ _ _) ih
      · rw [Bool.eq_false_iff.2 c, Bool.false_and] at ih
        exact Evt.ite_neg c ih
  simp only [gridhalllaw3_HoursChanges_1.f]
  refine Evt.ite_pos (by simp) (Evt.ite_pos (by simp) ?_)
  have r0 : rd [was] 0 = was:=rfl
  have r1 : ∀ x : List (List Of), rd_L7 x 0 = x.getD 0 []:=fun x => Eq.trans rfl rfl
  rw [r0, r1, wrap64_of (x:=-was) (by omega) (by omega)]
  have:=loop 0 (by omega)
  simp only [sm, okQ] at this
  rw [show (0 : Int) - was = -was by omega] at this
  exact this
def BI (l : List Of) (p : List Int) (M was : Int) (L : List (List Int)) (n : Nat) (b : Int) (s : Bool) : Prop :=
  (s = false → ∀ j, j < n → okQ p (L.getD j []) M l.length = false) ∧
  (s = true → (∃ j, j < n ∧ okQ p (L.getD j []) M l.length = true ∧ b = sm (cQ l (pn (L.getD j []))) l.length - was) ∧ ∀ j, j < n → okQ p (L.getD j []) M l.length = true → b ≤ sm (cQ l (pn (L.getD j []))) l.length - was)
def FIN (l : List Of) (p : List Int) (D M : Int) (e : Int) (pw : List Int) (c was : Int) (lim : List Int) (b : Int) (s : Bool) : Prop :=
  (s = true → e = 0 ∧ c = b ∧ pw.length = l.length ∧ Evt (fun k => gridhalllaw3_HoursChanges.l3 k D lim b [] 0 pw (pw.length : Int) 0 l p M was) true) ∧ (s = false → e = 8 ∧ pw = [] ∧ c = 0)
omit h in
theorem BI_step {was : Int} {L : List (List Int)} {n : Nat} {b : Int} {s : Bool} (hI : BI l p M was L n b s) (q : List Int) (hq : L.getD n [] = q) :
    (okQ p q M l.length = false → BI l p M was L (n + 1) b s) ∧ (okQ p q M l.length = true → s = false → BI l p M was L (n + 1) (sm (cQ l (pn q)) l.length - was) true) ∧
    (okQ p q M l.length = true → s = true → sm (cQ l (pn q)) l.length - was < b → BI l p M was L (n + 1) (sm (cQ l (pn q)) l.length - was) true) ∧
    (okQ p q M l.length = true → s = true → ¬ sm (cQ l (pn q)) l.length - was < b → BI l p M was L (n + 1) b s):=by
  obtain ⟨h1, h2⟩:=hI
  have last : ∀ j, j < n + 1 → j = n ∨ j < n:=fun j hj => by omega
  refine ⟨fun o => ⟨fun hs j hj => ?_, fun hs => ?_⟩, fun o hs => ⟨fun hs => (by cases hs), fun _ => ⟨⟨n, by omega, by rw [hq]; exact o, by rw [hq]⟩, fun j hj oj => ?_⟩⟩, fun o hs c => ⟨fun hs => (by cases hs), fun _ => ⟨⟨n, by omega, by rw [hq]; exact o, by rw [hq]⟩, fun j hj oj => ?_⟩⟩, fun o hs c => ⟨fun hs2 => (by rw [hs] at hs2; cases hs2), fun _ => ?_⟩⟩
  · rcases last j hj with e|e
    · subst e; rw [hq]; exact o
    · exact h1 hs j e
  · obtain ⟨⟨j, a1, a2, a3⟩, a4⟩:=h2 hs
    refine ⟨⟨j, by omega, a2, a3⟩, fun j hj oj => ?_⟩
    rcases last j hj with e|e
    · subst e; rw [hq, o] at oj; cases oj
    · exact a4 j e oj
  · rcases last j hj with e|e
    · subst e; rw [hq]; exact Int.le_refl _
    · have:=h1 hs j e; rw [this] at oj; cases oj
  · obtain ⟨_, a4⟩:=h2 hs
    rcases last j hj with e|e
    · subst e; rw [hq]; exact Int.le_refl _
    · have:=a4 j e oj; omega
  · obtain ⟨⟨j, a1, a2, a3⟩, a4⟩:=h2 hs
    refine ⟨⟨j, by omega, a2, a3⟩, fun j hj oj => ?_⟩
    rcases last j hj with e|e
    · subst e; rw [hq]; omega
    · exact a4 j e oj
theorem lw_l2 (e : Int) (pw : List Int) (c was : Int) (hw : -12000000000000 ≤ was ∧ was ≤ 12000000000000) (lim : List Int) (L : List (List Int)) (hL : ∀ q, q ∈ L → q.length = l.length ∧ ∀ i, i < l.length → 0 ≤ pn q i ∧ pn q i ≤ 100000) (hlen : L.length ≤ 1000)
    (H : ∀ b s, BI l p M was L L.length b s → FIN l p D M e pw c was lim b s) :
    ∀ d n b s, n + d = L.length → BI l p M was L n b s → Evt (fun k => gridhalllaw3_HoursChanges.l2 k D e lim b s L (L.length : Int) (n : Int) l p M pw c was) true:=by
  intro d
  induction d with
 |zero =>
    intro n b s hn hI
    obtain rfl : n = L.length:=by omega
    obtain ⟨f1, f2⟩:=H b s hI
    refine Evt.succ ?_
    simp only [gridhalllaw3_HoursChanges.l2]
    refine Evt.ite_neg (by omega) ?_
    cases s with
   |true =>
      obtain ⟨g1, g2, g3, g4⟩:=f1 rfl
      refine Evt.ite_pos rfl (Evt.ite_pos g1 (Evt.ite_pos g2 (Evt.succ ?_)))
      simp only [gridhalllaw3_HoursChanges.j10]
      refine Evt.ite_neg ?_ g4
      rw [g3]
      simp
   |false =>
      obtain ⟨g1, g2, g3⟩:=f2 rfl
      refine Evt.ite_neg (by decide) (Evt.ite_pos g1 (Evt.ite_pos ?_ (Evt.of_eq ?_)))
      · rw [g2]; rfl
      · rw [g3]; rfl
 |succ d ih =>
    intro n b s hn hI
    have hn' : n < L.length:=by omega
    obtain ⟨q, eq⟩ : ∃ q, q = L.getD n []:=⟨_, rfl⟩
    obtain ⟨q1, q2⟩:=hL q (by rw [eq]; exact getD_mem hn')
    obtain ⟨s1, s2, s3, s4⟩:=BI_step hI q eq.symm
    refine Evt.succ ?_
    simp only [gridhalllaw3_HoursChanges.l2, rdLL]
    rw [wrap64_nat (n:=n) (by omega), ← eq]
    refine Evt.ite_pos (by omega) (Evt.ite_pos (by omega) (Evt.ite_pos (by omega) (Evt.bind (cl_ev h q q1 q2 was hw) ?_)))
    simp only []
    cases o : okQ p q M l.length with
   |false => exact Evt.ite_neg (by decide) (ih (n + 1) b s (by omega) (s1 o))
   |true =>
      refine Evt.ite_pos rfl ?_
      cases s with
     |true => exact Evt.ite_pos rfl (Evt.ite (fun c => ih (n + 1) _ _ (by omega) (s3 o rfl c)) (fun c => ih (n + 1) _ _ (by omega) (s4 o rfl c)))
     |false => exact Evt.ite_neg (by decide) (ih (n + 1) _ _ (by omega) (s2 o rfl))
theorem lw_l3 (f : Nat → Int) (hf : InB l (loH p M) (hiH l p M) f) (hs : sm f l.length = D) (h8 : ∀ i, i < l.length → lastT l i ≤ 8) (was : Int) (hw : -12000000000000 ≤ was ∧ was ≤ 12000000000000) (b : Int) (hb : b = sm (cQ l f) l.length - was) :
    ∀ n, n ≤ l.length → Evt (fun k => gridhalllaw3_HoursChanges.l3 k D (tab (lastT l) l.length) b (tab f n) (sm f n) (tab (fun i => f i - pn p i) l.length) (l.length : Int) (n : Int) l p M was) true:=by
  have hl:=h.v.len
  have fb : ∀ i, i < l.length → 0 ≤ f i ∧ f i ≤ 8:=fun i hi => by
    have:=hf i hi
    have:=h.bd i hi
    have:=h8 i hi
    omega
  have sb : ∀ n, n ≤ l.length → 0 ≤ sm f n ∧ sm f n ≤ 8 * (n : Int):=by
    intro n
    induction n with
   |zero => intro _; simp [sm]
   |succ n ih =>
      intro hn
      have:=ih (by omega)
      have:=fb n (by omega)
      simp only [sm]
      omega
  refine down ?_ ?_
  · refine Evt.succ ?_
    simp only [gridhalllaw3_HoursChanges.l3]
    have ce:=cl_ev h (tab f l.length) (tab_len _ _) (fun i hi => by rw [tab_pn f hi]; have:=fb i hi; omega) was hw
    have ok : okQ p (tab f l.length) M l.length = true:=(okQ_iff _ _ _ _).2 (fun i hi => by
      rw [tab_pn f hi]
      have:=hf i hi
      revert this
      unfold loH hiH mx mn
      repeat' split
      all_goals omega)
    have cc : sm (cQ l (pn (tab f l.length))) l.length = sm (cQ l f) l.length:=sm_congr _ (fun i hi => by unfold cQ; rw [tab_pn f hi])
    rw [ok, cc] at ce
    refine Evt.ite_neg (by omega) (Evt.bind ce (Evt.ite_pos rfl (Evt.ite_pos hb.symm (Evt.of_eq ?_))))
    rw [hs]
    simp
  · intro n hn ih
    have f1:=fb n hn
    have b1:=sb n (by omega)
    have pb:=h.bd n hn
    have p8:=h8 n hn
    have hp:=h.len
    refine Evt.succ ?_
    simp only [gridhalllaw3_HoursChanges.l3, rdp, tab_len]
    rw [tab_pn _ hn, tab_pn (lastT l) hn, wrap64_nat (n:=n) (by omega), wrap64_of (x:=pn p n + (f n - pn p n)) (by omega) (by omega), wrap64_of (x:=sm f n + pn p n) (by omega) (by omega), wrap64_of (x:=sm f n + pn p n + (f n - pn p n)) (by omega) (by omega), show pn p n + (f n - pn p n) = f n by omega, show sm f n + pn p n + (f n - pn p n) = sm f (n + 1) by simp only [sm]; omega, ← tab_succ]
    refine Evt.ite_pos (by omega) (Evt.ite_pos (by omega) (Evt.ite_pos (by omega) (Evt.ite_pos (by omega) (Evt.ite_pos (by omega) (Evt.bindo (a:=tab f (n + 1)) rfl (Evt.ite_pos (by rw [tab_len]; omega) (Evt.ite_pos (by omega) ?_)))))))
    rw [tab_pn f (by omega)]
    have fi:=hf n hn
    exact Evt.bindo (in_eq _ _ _) (Evt.ite_pos (decide_eq_true (by omega)) ih)
theorem lw_l1 (e : Int) (pw : List Int) (c : Int)
    (H : (∀ i, i < l.length → lastT l i ≤ 8) → l.length ≤ 3 → Evt (fun k => (gridhallref3_Lists.f k (tab (lastT l) l.length) (mn D 1000)).bind fun t286 => gridhalllaw3_HoursChanges.l2 k D e (tab (lastT l) l.length) 0 false t286 (t286.length : Int) 0 l p M pw c (sm (cQ l (pn p)) l.length)) true) :
    ∀ n, n ≤ l.length → (∀ i, i < n → lastT l i ≤ 8) → (0 < n → l.length ≤ 3) → Evt (fun k => gridhalllaw3_HoursChanges.l1 k D e (tab (lastT l) n) l (l.length : Int) (n : Int) l p M pw c (sm (cQ l (pn p)) n)) true:=by
  have hl:=h.v.len
  refine down ?_ ?_
  · intro a1 a2
    refine Evt.succ ?_
    simp only [gridhalllaw3_HoursChanges.l1]
    exact Evt.ite_neg (by omega) (H a1 (by by_cases c : 0 < l.length; exact a2 c; omega))
  · intro n hn ih a1 a2
    have hv:=(h.v.one n hn).2.1
    have pb:=h.bd n hn
    have pr_:=h.rng n hn
    have b1:=cQ_bd h (pn p) n (by omega)
    have b2:=cQ_bd h (pn p) (n + 1) (by omega)
    have hp:=h.len
    refine Evt.succ ?_
    simp only [gridhalllaw3_HoursChanges.l1, rdO0, rdO1]
    refine Evt.ite_pos (by omega) (Evt.ite_pos (by omega) (Evt.ite_pos (by omega) (Evt.bind (All_ev (nmO l n) (stO l n) hv) ?_)))
    have j8 : ∀ b : Bool, (b = false → lastT l n ≤ 8 ∧ l.length ≤ 3) → Evt (fun k => gridhalllaw3_HoursChanges.j8 k D e (tab (lastT l) n) (n : Int) l (l.length : Int) (n : Int) b l p M pw c (sm (cQ l (pn p)) n) (nmO l n) (stO l n)) true:=by
      intro b hb
      refine Evt.succ ?_
      simp only [gridhalllaw3_HoursChanges.j8, rdp, tab_len]
      cases b with
     |true => exact Evt.ite_pos rfl (Evt.pure _)
     |false =>
        obtain ⟨u1, u2⟩:=hb rfl
        refine Evt.ite_neg (by decide) (Evt.bind (All_ev (nmO l n) (stO l n) hv) (Evt.ite_pos (by omega) (Evt.ite_pos (by omega) (Evt.ite_pos (by omega) (Evt.bind (refCost_ev (nmO l n) (stO l n) hv (pn p n)) ?_)))))
        have e1 : sm (cQ l (pn p)) n + cst (stO l n) (pn p n) (stO l n).length = sm (cQ l (pn p)) (n + 1):=rfl
        rw [e1, wrap64_of (x:=sm (cQ l (pn p)) (n + 1)) (by omega) (by omega), wrap64_nat (n:=n) (by omega)]
        have e2 : tab (lastT l) n ++ [tot (stO l n) (stO l n).length] = tab (lastT l) (n + 1):=(tab_succ _ _).symm
        rw [e2]
        exact ih (fun i hi => by by_cases e : i = n; subst e; exact u1; exact a1 i (by omega)) (fun _ => u2)
    refine Evt.ite (fun c => j8 true (fun z => by cases z)) (fun c => j8 _ (fun z => ?_))
    have z:=of_decide_eq_false z
    exact ⟨by unfold lastT; omega, by omega⟩
end
section
variable {l : List Of} {p : List Int} {D M : Int} (h : Pl l p D M)
include h
theorem lw_main (out : List Int × Int × Int) (o2 : (out = ([], 0, 8) ∧ (D < sm (loH p M) l.length ∨ sm (hiH l p M) l.length < D)) ∨
     ∃ f, InB l (loH p M) (hiH l p M) f ∧ sm f l.length = D ∧ (∀ g, InB l (loH p M) (hiH l p M) g → sm g l.length = D → sm (cQ l f) l.length ≤ sm (cQ l g) l.length) ∧
       out = (tab (fun i => f i - pn p i) l.length, sm (cQ l f) l.length - sm (cQ l (pn p)) l.length, 0)) :
    Evt (fun k => gridhalllaw3_HoursChanges.l1 k D out.2.2 [] l (l.length : Int) 0 l p M out.1 out.2.1 0) true:=by
  have hl:=h.v.len
  have hD:=h.hD
  have H:=lw_l1 h out.2.2 out.1 out.2.1 (fun h8 h3 => ?_) 0 (by omega) (fun i hi => by omega) (fun z => by omega)
  · exact H
  have lim8 : ∀ i, i < (tab (lastT l) l.length).length → 0 ≤ pn (tab (lastT l) l.length) i ∧ pn (tab (lastT l) l.length) i ≤ 8:=by
    intro i hi
    rw [tab_len] at hi
    rw [tab_pn _ hi]
    have:=h.bd i hi
    have:=h8 i hi
    omega
  have ms : 0 ≤ mn D 1000 ∧ mn D 1000 ≤ 1000:=by unfold mn; split <;> omega
  have LE:=Lists_ev (tab (lastT l) l.length) (mn D 1000) lim8 (by rw [tab_len]; exact h3) (by omega) (by omega)
  refine Evt.bind LE ?_
  have mem : ∀ q, q ∈ LSf (tab (lastT l) l.length) (mn D 1000) ↔ q.length = l.length ∧ (∀ i, i < l.length → 0 ≤ pn q i ∧ pn q i ≤ lastT l i) ∧ sm (pn q) l.length = mn D 1000:=by
    intro q
    rw [LS_mem, tab_len]
    constructor
    · rintro ⟨a, b, c⟩
      exact ⟨a, fun i hi => by have:=b i hi; rw [tab_pn _ hi] at this; exact this, c⟩
    · rintro ⟨a, b, c⟩
      exact ⟨a, fun i hi => by rw [tab_pn _ hi]; exact b i hi, c⟩
  have len1 : (LSf (tab (lastT l) l.length) (mn D 1000)).length ≤ 1000:=by
    have a:=LS_len (tab (lastT l) l.length) (mn D 1000) (fun i hi => (lim8 i hi).2)
    rw [tab_len] at a
    have : (9 : Nat) ^ l.length ≤ 9 ^ 3:=Nat.pow_le_pow_right (by omega) h3
    omega
  have wasb:=cQ_bd h (pn p) l.length (Nat.le_refl _)
  have sum8 : ∀ (g : Nat → Int),(∀ i, i < l.length → g i ≤ 8) → ∀ n, n ≤ l.length → sm g n ≤ 8 * (n : Int):=by
    intro g hg n
    induction n with
   |zero => intro _; simp [sm]
   |succ n ih =>
      intro hn
      have:=ih (by omega)
      have:=hg n (by omega)
      simp only [sm]
      omega
  have good : ∀ q, q ∈ LSf (tab (lastT l) l.length) (mn D 1000) → okQ p q M l.length = true → InB l (loH p M) (hiH l p M) (pn q) ∧ sm (pn q) l.length = D:=by
    intro q hq ok
    obtain ⟨a, b, c⟩:=(mem q).1 hq
    have ok:=(okQ_iff p q M l.length).1 ok
    refine ⟨fun i hi => ?_, ?_⟩
    · have:=ok i hi
      have:=b i hi
      unfold loH hiH mx mn
      constructor
      · split <;> omega
      · split <;> omega
    · have:=sum8 (pn q) (fun i hi => by have:=b i hi; have:=h8 i hi; omega) l.length (Nat.le_refl _)
      revert c
      unfold mn
      split <;> intro c <;> omega
  have start : BI l p M (sm (cQ l (pn p)) l.length) (LSf (tab (lastT l) l.length) (mn D 1000)) 0 0 false:=⟨fun _ j hj => by omega, fun z => by cases z⟩
  refine lw_l2 h out.2.2 out.1 out.2.1 (sm (cQ l (pn p)) l.length) (by omega) _ _ (fun q hq => ?_) len1 (fun b s hB => ?_) _ 0 0 false (Nat.zero_add _) start
  · obtain ⟨a, b, _⟩:=(mem q).1 hq
    exact ⟨a, fun i hi => by have:=b i hi; have:=h8 i hi; omega⟩
  · obtain ⟨b1, b2⟩:=hB
    rcases o2 with ⟨o2, nf⟩|⟨f, f1, f2, f3, o2⟩
    · have no : s = false:=by
        cases s with
       |false => rfl
       |true =>
          obtain ⟨⟨j, j1, j2, _⟩, _⟩:=b2 rfl
          obtain ⟨g1, g2⟩:=good _ (getD_mem j1) j2
          have a1:=sm_le l.length (fun i hi => (g1 i hi).1)
          have a2:=sm_le l.length (fun i hi => (g1 i hi).2)
          omega
      refine ⟨fun z => (by rw [no] at z; cases z), fun _ => ?_⟩
      rw [o2]
      exact ⟨rfl, rfl, rfl⟩
    · have fb : ∀ i, i < l.length → 0 ≤ f i ∧ f i ≤ lastT l i:=fun i hi => by
        have:=f1 i hi
        have:=h.bd i hi
        omega
      have fs:=sum8 f (fun i hi => by have:=fb i hi; have:=h8 i hi; omega) l.length (Nat.le_refl _)
      have eD : mn D 1000 = D:=mn_le (by omega)
      have inn : tab f l.length ∈ LSf (tab (lastT l) l.length) (mn D 1000):=(mem _).2 ⟨tab_len _ _, fun i hi => by rw [tab_pn f hi]; exact fb i hi, by rw [eD, sm_congr l.length (fun i hi => tab_pn f hi), f2]⟩
      have fok : okQ p (tab f l.length) M l.length = true:=(okQ_iff _ _ _ _).2 (fun i hi => by
        rw [tab_pn f hi]
        have:=f1 i hi
        revert this
        unfold loH hiH mx mn
        repeat' split
        all_goals omega)
      obtain ⟨j, j1, j2⟩:=List.getElem_of_mem inn
      have jq : (LSf (tab (lastT l) l.length) (mn D 1000)).getD j [] = tab f l.length:=by
        rw [List.getD_eq_getElem?_getD, List.getElem?_eq_getElem j1, j2]
        rfl
      have yes : s = true:=by
        cases s with
       |true => rfl
       |false =>
          have:=b1 rfl j j1
          rw [jq, fok] at this
          cases this
      obtain ⟨⟨i, i1, i2, i3⟩, b4⟩:=b2 yes
      have low:=b4 j j1 (by rw [jq]; exact fok)
      rw [jq] at low
      have cc : sm (cQ l (pn (tab f l.length))) l.length = sm (cQ l f) l.length:=sm_congr _ (fun i hi => by unfold cQ; rw [tab_pn f hi])
      rw [cc] at low
      obtain ⟨g1, g2⟩:=good _ (getD_mem i1) i2
      have up:=f3 _ g1 g2
      have eb : b = sm (cQ l f) l.length - sm (cQ l (pn p)) l.length:=by omega
      refine ⟨fun _ => ?_, fun z => by rw [yes] at z; cases z⟩
      rw [o2]
      refine ⟨rfl, eb.symm, tab_len _ _, ?_⟩
      have:=lw_l3 h f f1 f2 h8 (sm (cQ l (pn p)) l.length) (by omega) b eb 0 (by omega)
      simp only [sm] at this
      rw [tab_len]
      exact this
end
section
variable (l : List Of) (p : List Int) (D M : Int) (e : Int) (pw : List Int) (c : Int)
theorem lw_bad (hl : l.length ≤ 4000000000000) (w : Int) (hw : w ≠ 0) (H : Evt (fun k => gridhalllaw3_HoursChanges.j6 k D e w l p M pw c) true) (i : Int) : Evt (fun k => gridhalllaw3_HoursChanges.l0 k D e w i l p M pw c) true := by
  have j4 : ∀ b, b = false → Evt (fun k => gridhalllaw3_HoursChanges.j4 k D e w i b l p M pw c) true:=by
    intro b hb
    refine Evt.succ ?_
    simp only [gridhalllaw3_HoursChanges.j4]
    refine Evt.ite_neg (by rw [hb]; decide) (Evt.ite_neg hw (Evt.succ ?_))
    simp only [gridhalllaw3_HoursChanges.j5]
    exact Evt.ite_neg (by decide) H
  refine Evt.succ ?_
  simp only [gridhalllaw3_HoursChanges.l0]
  exact Evt.ite (fun _ => j4 _ (by simp [hw])) (fun _ => j4 _ rfl)
theorem lw_l0 (hv : Vals l) (hp : p.length = l.length) : ∀ n, n ≤ l.length → (Evt (fun k => gridhalllaw3_HoursChanges.j6 k D e (plStep l p D M (l.length - n) n) l p M pw c) true) → Evt (fun k => gridhalllaw3_HoursChanges.l0 k D e 0 (n : Int) l p M pw c) true := by
  have hl:=hv.len
  refine down ?_ ?_
  · intro H
    rw [Nat.sub_self] at H
    simp only [plStep] at H
    refine Evt.succ ?_
    simp only [gridhalllaw3_HoursChanges.l0]
    refine Evt.ite_neg (by omega) (Evt.succ ?_)
    simp only [gridhalllaw3_HoursChanges.j4]
    refine Evt.ite_neg (by decide) (Evt.ite_pos (by simp) (Evt.bindo (in_eq _ _ _) ?_))
    have j5 : ∀ b, b = !(decide ((0 ≤ D ∧ D ≤ 1000000) ∧ 0 ≤ M ∧ M ≤ 100000)) → Evt (fun k => gridhalllaw3_HoursChanges.j5 k D e 0 b l p M pw c) true:=by
      intro b hb
      refine Evt.succ ?_
      simp only [gridhalllaw3_HoursChanges.j5]
      by_cases o : (0 ≤ D ∧ D ≤ 1000000) ∧ 0 ≤ M ∧ M ≤ 100000
      · rw [if_pos o] at H
        rw [decide_eq_true o] at hb
        exact Evt.ite_neg (by rw [hb]; decide) H
      · rw [if_neg o] at H
        rw [decide_eq_false o] at hb
        exact Evt.ite_pos (by rw [hb]; rfl) H
    refine Evt.ite (fun a => Evt.bindo (in_eq _ _ _) (j5 _ ?_)) (fun a => j5 _ ?_)
    · have a:=of_decide_eq_true a
      congr 1
      exact decide_eq_decide.2 (by omega)
    · rw [decide_eq_false (fun o => a (decide_eq_true o.1))]
      rfl
  · intro n hn ih H
    obtain ⟨d, hd⟩ : ∃ d, l.length - n = d + 1:=⟨l.length - n - 1, by omega⟩
    rw [show l.length - (n + 1) = d by omega] at ih
    rw [hd] at H
    simp only [plStep] at H
    have hvn:=(hv.one n hn).2.1
    refine Evt.succ ?_
    simp only [gridhalllaw3_HoursChanges.l0]
    refine Evt.ite_pos (by omega) (Evt.succ ?_)
    simp only [gridhalllaw3_HoursChanges.j4, rdO0, rdO1, rdp]
    rw [wrap64_nat (n:=n) (by omega)]
    refine Evt.ite_pos rfl (Evt.ite_pos (by omega) (Evt.ite_pos (by omega) (Evt.ite_pos (by omega) (Evt.bind (All_ev (nmO l n) (stO l n) hvn) (Evt.bindo (in_eq _ _ _) ?_)))))
    refine Evt.ite (fun a => ?_) (fun a => ?_)
    · have a:=of_decide_eq_true a
      rw [if_pos (by unfold lastT; exact a)] at H
      exact ih H
    · rw [if_neg (fun o => a (decide_eq_true (by unfold lastT at o; exact o)))] at H
      exact lw_bad l p D M e pw c (by omega) 4 (by decide) H _
end
theorem lw_j0 (l : List Of) (p : List Int) (D M : Int) (hlen : l.length ≤ 4000000000000) (b : Bool) (hb : b = false) : Evt (fun k => gridhalllaw3_HoursChanges.j0 k D b l p M) true := by
  obtain ⟨out, o1, o2, o3⟩:=Change_ev l p D M
  have fin : Evt (fun k => gridhalllaw3_HoursChanges.j6 k D out.2.2 (chErr l p D M) l p M out.1 out.2.1) true:=by
    refine Evt.succ ?_
    simp only [gridhalllaw3_HoursChanges.j6]
    by_cases c : chErr l p D M = 0
    · refine Evt.ite_pos c ?_
      exact lw_main (chErr_ok c) out (o3 c)
    · have o2:=o2 c
      rw [o2]
      exact Evt.ite_neg c (Evt.ite_pos rfl (Evt.ite_pos rfl (Evt.of_eq rfl)))
  refine Evt.succ ?_
  simp only [gridhalllaw3_HoursChanges.j0]
  refine Evt.ite_neg (by rw [hb]; decide) (Evt.bind o1 (Evt.bind (gridhallref3_OffersError_ev l) ?_))
  have j2 : ∀ w, Evt (fun k => gridhalllaw3_HoursChanges.l0 k D out.2.2 w 0 l p M out.1 out.2.1) true → Evt (fun k => gridhalllaw3_HoursChanges.j2 k D out.2.2 w l p M out.1 out.2.1) true:=by
    intro w H
    refine Evt.succ ?_
    simp only [gridhalllaw3_HoursChanges.j2]
    exact H
  have j1 : ∀ w (b : Bool), Evt (fun k => gridhalllaw3_HoursChanges.l0 k D out.2.2 (if b = true then 3 else w) 0 l p M out.1 out.2.1) true → Evt (fun k => gridhalllaw3_HoursChanges.j1 k D out.2.2 w b l p M out.1 out.2.1) true:=by
    intro w b H
    refine Evt.succ ?_
    simp only [gridhalllaw3_HoursChanges.j1]
    cases b with
   |true => exact Evt.ite_pos rfl (j2 _ (by simpa using H))
   |false => exact Evt.ite_neg (by decide) (j2 _ (by simpa using H))
  by_cases c : offsErr l = 0
  · refine Evt.ite_pos c (j1 _ _ ?_)
    by_cases c2 : p.length = l.length
    · have e : ((p.length : Int) != (l.length : Int)) = false:=by rw [c2]; simp
      rw [e, if_neg (by decide), c]
      have ce : chErr l p D M = plStep l p D M l.length 0:=by unfold chErr; rw [if_pos c, if_pos c2]
      refine lw_l0 l p D M out.2.2 out.1 out.2.1 (offsErr_val c) c2 0 (by omega) ?_
      rw [Nat.sub_zero, ← ce]
      exact fin
    · have e : ((p.length : Int) != (l.length : Int)) = true:=by rw [bne_iff_ne]; omega
      rw [e, if_pos rfl]
      have ce : chErr l p D M = 3:=by unfold chErr; rw [if_pos c, if_neg c2]
      rw [ce] at fin
      exact lw_bad l p D M out.2.2 out.1 out.2.1 hlen 3 (by decide) fin 0
  · refine Evt.ite_neg c (j1 _ _ ?_)
    have ce : chErr l p D M = offsErr l:=by unfold chErr; rw [if_neg c]
    rw [ce] at fin
    rw [if_neg (by decide)]
    exact lw_bad l p D M out.2.2 out.1 out.2.1 hlen _ c fin 0
end Go.Proofs.Ytekpnmeikibioaa.EHoursChanges
