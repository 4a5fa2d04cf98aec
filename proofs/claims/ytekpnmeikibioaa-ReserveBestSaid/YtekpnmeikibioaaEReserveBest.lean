import Derived.Test.YtekpnmeikibioaaDReserveBest
import Derived.Test.YtekpnmeikibioaaHReserveBesty16
namespace Go.Proofs.Ytekpnmeikibioaa.EReserveBest
open Go.RowKit Go.Proofs.YtekpnmeikibioaaW.PrintWords Go.Proofs.YtekpnmeikibioaaW.PrintMore Go.Proofs.Ytekpnmeikibioaa.Evs Go.Proofs.Ytekpnmeikibioaa.PReserveBest Go.Proofs.Ytekpnmeikibioaa.BReserveBest Go.Proofs.Ytekpnmeikibioaa.CReserveBest Go.Proofs.Ytekpnmeikibioaa.DReserveBest Go.Proofs.Ytekpnmeikibioaa.ZReserveBest Go.Proofs.Ytekpnmeikibioaa.XReserveBest
set_option linter.unusedVariables false
set_option linter.unusedSectionVars false
set_option linter.unusedSimpArgs false
def RgB (D need : Int) : Prop := (0 ≤ D ∧ D ≤ 1000000) ∧ 0 ≤ need ∧ need ≤ 1000000
theorem Best_ev (u : List Un) (hl : u.length * 48 ≤ 140737488351232) (D need : Int) : ∃ out : List Int × Int × Int, Evt (fun k => reserve_Best.f k u D need) out ∧
    (unErr u ≠ 0 → out = ([], 0, unErr u)) ∧ (unErr u = 0 → ¬ RgB D need → out = ([], 0, 4)) ∧
    (unErr u = 0 → RgB D need → (out = ([], 0, 8) ∧ ∀ q, ¬ Feas u D need q) ∨ ∃ f, Feas u D need f ∧ (∀ q, Feas u D need q → sm (cQ (ofs u) f) u.length ≤ sm (cQ (ofs u) q) u.length) ∧ out = (tab f u.length, sm (cQ (ofs u) f) u.length, 0)):=by
  have P:=Possible_ev u hl
  simp only [reserve_Best.f]
  by_cases c : unErr u = 0
  · rw [if_pos c] at P
    obtain ⟨h, hv⟩:=unErr_ok c
    have badj : Evt (fun k => reserve_Best.j0 k u D need (rs u u.length) true) ([], 0, 4):=by
      refine Evt.succ ?_
      simp only [reserve_Best.j0]
      exact Evt.ite_pos (by simp) (Evt.pure _)
    by_cases g : RgB D need
    · obtain ⟨⟨d1, d2⟩, n1, n2⟩:=g
      obtain ⟨out, o1, o2⟩:=bs_main h hv D need ⟨d1, d2⟩ ⟨n1, n2⟩
      refine ⟨out, Evt.bind P (Evt.ite_pos (by simp) (Evt.ite_neg (by omega) (Evt.ite_neg (by omega) (Evt.ite_neg (by omega) ?_)))), fun e => absurd c e, fun _ e => absurd ⟨⟨d1, d2⟩, n1, n2⟩ e, fun _ _ => o2⟩
      rw [decide_eq_false (by omega)]
      exact o1
    · refine ⟨([], 0, 4), Evt.bind P (Evt.ite_pos rfl ?_), fun e => absurd c e, fun _ _ => rfl, fun _ e => absurd e g⟩
      unfold RgB at g
      refine Evt.ite (fun _ => badj) (fun c1 => Evt.ite (fun _ => badj) (fun c2 => Evt.ite (fun _ => badj) (fun c3 => ?_)))
      rw [decide_eq_true (by omega)]
      exact badj
  · rw [if_neg c] at P
    exact ⟨([], 0, unErr u), Evt.bind P (Evt.ite_neg c (Evt.pure _)), fun _ => rfl, fun e => absurd e c, fun e => absurd e c⟩
theorem tab_succ (f : Nat → Int) (n : Nat) : tab f (n + 1) = tab f n ++ [f n] := by
  unfold tab
  rw [List.range_succ, List.map_append]
  rfl
def heQ (u : List Un) (q : Nat → Int) (i : Nat) : Int := mn (faU u i) (mostU u i - q i)
def BI (ok : List Int → Bool) (cs : List Int → Int) (L : List (List Int)) (n : Nat) (b : Int) (s : Bool) : Prop :=
  (s = false → ∀ j, j < n → ok (L.getD j []) = false) ∧
  (s = true → (∃ j, j < n ∧ ok (L.getD j []) = true ∧ b = cs (L.getD j [])) ∧ ∀ j, j < n → ok (L.getD j []) = true → b ≤ cs (L.getD j []))
theorem BI_step {ok : List Int → Bool} {cs : List Int → Int} {L : List (List Int)} {n : Nat} {b : Int} {s : Bool} (hI : BI ok cs L n b s) (q : List Int) (hq : L.getD n [] = q) :
    (ok q = false → BI ok cs L (n + 1) b s) ∧ (ok q = true → s = false → BI ok cs L (n + 1) (cs q) true) ∧
    (ok q = true → s = true → cs q < b → BI ok cs L (n + 1) (cs q) true) ∧
    (ok q = true → s = true → ¬ cs q < b → BI ok cs L (n + 1) b s):=by
  obtain ⟨h1, h2⟩:=hI
  have last : ∀ j, j < n + 1 → j = n ∨ j < n:=fun j hj => by omega
  refine ⟨fun o => ⟨fun hs j hj => ?_, fun hs => ?_⟩, fun o hs => ⟨fun hs => (by cases hs), fun _ => ⟨⟨n, by omega, by rw [hq]; exact o, by rw [hq]⟩, fun j hj oj => ?_⟩⟩, fun o hs c => ⟨fun hs => (by cases hs), fun _ => ⟨⟨n, by omega, by rw [hq]; exact o, by rw [hq]⟩, fun j hj oj => ?_⟩⟩, fun o hs c => ⟨fun hs2 => (by rw [hs] at hs2; cases hs2), fun _ => ?_⟩⟩
  · rcases last j hj with e|e
    · subst e; rw [hq]; exact o
    · exact h1 hs j e
  · obtain ⟨⟨j, a1, a2, a3⟩, a4⟩:=h2 hs
    refine ⟨⟨j, by omega, a2, a3⟩, fun j hj oj => ?_⟩
    rcases last j hj with e|e
    · subst e; rw [hq, o] at oj; cases oj
    · exact a4 j e oj
  · rcases last j hj with e|e
    · subst e; rw [hq]; exact Int.le_refl _
    · have:=h1 hs j e; rw [this] at oj; cases oj
  · obtain ⟨_, a4⟩:=h2 hs
    rcases last j hj with e|e
    · subst e; rw [hq]; exact Int.le_refl _
    · have:=a4 j e oj; omega
  · obtain ⟨⟨j, a1, a2, a3⟩, a4⟩:=h2 hs
    refine ⟨⟨j, by omega, a2, a3⟩, fun j hj oj => ?_⟩
    rcases last j hj with e|e
    · subst e; rw [hq]; omega
    · exact a4 j e oj
section
variable {u : List Un} (h : ValU u)
include h
theorem cQu_bd (f : Nat → Int) : ∀ n, n ≤ u.length → -1200000000000 * (n : Int) ≤ sm (cQ (ofs u) f) n ∧ sm (cQ (ofs u) f) n ≤ 1200000000000 * (n : Int) := by
  intro n
  induction n with
 |zero => intro _; simp [sm]
 |succ n ih =>
    intro hn
    have i1:=ih (by omega)
    have hv:=(h.one n (by omega)).2.1
    have i2:=cst_bd hv (f n) _ (Nat.le_refl _)
    have hvl:=hv.len
    have e : cQ (ofs u) f n = cst (stU u n) (f n) (stU u n).length:=by unfold cQ cstO; rw [stO_ofs u (by omega)]
    simp only [sm]
    rw [e]
    omega
theorem heQ_bd (q : Nat → Int) (hb : ∀ i, i < u.length → 0 ≤ q i ∧ q i ≤ 100000) : ∀ n, n ≤ u.length → -100000 * (n : Int) ≤ sm (heQ u q) n ∧ sm (heQ u q) n ≤ 100000 * (n : Int) := by
  intro n
  induction n with
 |zero => intro _; simp [sm]
 |succ n ih =>
    intro hn
    have i1:=ih (by omega)
    have:=hb n (by omega)
    have:=h.fast n (by omega)
    have:=mostU_bd h n (by omega)
    have : -100000 ≤ heQ u q n ∧ heQ u q n ≤ 100000:=by unfold heQ mn; split <;> omega
    simp only [sm]
    omega
theorem cl_ev (q : List Int) (hq : q.length = u.length) (hb : ∀ i, i < u.length → 0 ≤ pn q i ∧ pn q i ≤ 100000) :
    Evt (fun k => gridhalllaw3_ReserveBest_1.f k q [u]) (sm (cQ (ofs u) (pn q)) u.length, sm (heQ u (pn q)) u.length):=by
  have hl:=h.len
  have loop : ∀ n, n ≤ u.length → Evt (fun k => gridhalllaw3_ReserveBest_1.l0 k q (sm (cQ (ofs u) (pn q)) n) (sm (heQ u (pn q)) n) u (u.length : Int) (n : Int)) (sm (cQ (ofs u) (pn q)) u.length, sm (heQ u (pn q)) u.length):=by
    refine down ?_ ?_
    · refine Evt.succ ?_
      simp only [gridhalllaw3_ReserveBest_1.l0]
      exact Evt.ite_neg (by omega) (Evt.pure _)
    · intro n hn ih
      have hv:=(h.one n hn).2.1
      have a2:=cQu_bd h (pn q) (n + 1) (by omega)
      have b2:=heQ_bd h (pn q) hb (n + 1) (by omega)
      have qb:=hb n hn
      have mb:=mostU_bd h n hn
      refine Evt.succ ?_
      simp only [gridhalllaw3_ReserveBest_1.l0, rdU0, rdU1, rdU2, rdp]
      rw [wrap64_nat (n:=n) (by omega)]
      refine Evt.ite_pos (by omega) (Evt.ite_pos (by omega) (Evt.ite_pos (by omega) (Evt.ite_pos (by omega) (Evt.bind (refCost_ev (nmU u n) (stU u n) hv (pn q n)) (Evt.bind (All_ev (nmU u n) (stU u n) hv) ?_)))))
      have e1 : sm (cQ (ofs u) (pn q)) n + cst (stU u n) (pn q n) (stU u n).length = sm (cQ (ofs u) (pn q)) (n + 1):=by
        simp only [sm]
        unfold cQ cstO
        rw [stO_ofs u hn]
      have m0 : tot (stU u n) (stU u n).length = mostU u n:=rfl
      have e2 : sm (heQ u (pn q)) n + mn (faU u n) (mostU u n - pn q n) = sm (heQ u (pn q)) (n + 1):=rfl
      rw [e1, m0, wrap64_of (x:=sm (cQ (ofs u) (pn q)) (n + 1)) (by omega) (by omega), wrap64_of (x:=mostU u n - pn q n) (by omega) (by omega), e2, wrap64_of (x:=sm (heQ u (pn q)) (n + 1)) (by omega) (by omega)]
      exact ih
  simp only [gridhalllaw3_ReserveBest_1.f]
  have r1 : ∀ x : List (List Un), rd_L8 x 0 = x.getD 0 []:=fun x => Eq.trans rfl rfl
  rw [r1]
  exact Evt.ite_pos (by simp) (loop 0 (by omega))
def okR (u : List Un) (need : Int) (q : List Int) : Bool := decide (need ≤ sm (heQ u (pn q)) u.length)
def csR (u : List Un) (q : List Int) : Int := sm (cQ (ofs u) (pn q)) u.length
def FIN (u : List Un) (D need : Int) (e : Int) (pw : List Int) (c : Int) (lim : List Int) (b : Int) (s : Bool) : Prop :=
  (s = true → e = 0 ∧ c = b ∧ pw.length = u.length ∧ Evt (fun k => gridhalllaw3_ReserveBest.l2 k D need pw lim b 0 pw (pw.length : Int) 0 u) true) ∧ (s = false → e = 8 ∧ pw = [] ∧ c = 0)
theorem lw_l1 (D need : Int) (e : Int) (pw : List Int) (c : Int) (lim : List Int) (L : List (List Int)) (hL : ∀ q, q ∈ L → q.length = u.length ∧ ∀ i, i < u.length → 0 ≤ pn q i ∧ pn q i ≤ 100000) (hlen : L.length ≤ 1000)
    (H : ∀ b s, BI (okR u need) (csR u) L L.length b s → FIN u D need e pw c lim b s) :
    ∀ d n b s, n + d = L.length → BI (okR u need) (csR u) L n b s → Evt (fun k => gridhalllaw3_ReserveBest.l1 k D need pw c e lim b s L (L.length : Int) (n : Int) u) true:=by
  intro d
  induction d with
 |zero =>
    intro n b s hn hI
    obtain rfl : n = L.length:=by omega
    obtain ⟨f1, f2⟩:=H b s hI
    refine Evt.succ ?_
    simp only [gridhalllaw3_ReserveBest.l1]
    refine Evt.ite_neg (by omega) ?_
    cases s with
   |true =>
      obtain ⟨g1, g2, g3, g4⟩:=f1 rfl
      refine Evt.ite_pos rfl (Evt.ite_pos g1 (Evt.ite_pos g2 (Evt.succ ?_)))
      simp only [gridhalllaw3_ReserveBest.j4]
      refine Evt.ite_neg ?_ g4
      rw [g3]
      simp
   |false =>
      obtain ⟨g1, g2, g3⟩:=f2 rfl
      refine Evt.ite_neg (by decide) (Evt.ite_pos g1 (Evt.ite_pos ?_ (Evt.of_eq ?_)))
      · rw [g2]; rfl
      · rw [g3]; rfl
 |succ d ih =>
    intro n b s hn hI
    have hn' : n < L.length:=by omega
    obtain ⟨q, eq⟩ : ∃ q, q = L.getD n []:=⟨_, rfl⟩
    obtain ⟨q1, q2⟩:=hL q (by rw [eq]; exact getD_mem hn')
    obtain ⟨s1, s2, s3, s4⟩:=BI_step hI q eq.symm
    refine Evt.succ ?_
    simp only [gridhalllaw3_ReserveBest.l1, rdLL]
    rw [wrap64_nat (n:=n) (by omega), ← eq]
    refine Evt.ite_pos (by omega) (Evt.ite_pos (by omega) (Evt.ite_pos (by omega) (Evt.bind (cl_ev h q q1 q2) ?_)))
    simp only []
    by_cases o : need ≤ sm (heQ u (pn q)) u.length
    · have o' : okR u need q = true:=decide_eq_true o
      refine Evt.ite_pos o ?_
      cases s with
     |true => exact Evt.ite_pos rfl (Evt.ite (fun c => ih (n + 1) _ _ (by omega) (s3 o' rfl c)) (fun c => ih (n + 1) _ _ (by omega) (s4 o' rfl c)))
     |false => exact Evt.ite_neg (by decide) (ih (n + 1) _ _ (by omega) (s2 o' rfl))
    · have o' : okR u need q = false:=decide_eq_false o
      exact Evt.ite_neg o (ih (n + 1) b s (by omega) (s1 o'))
theorem lw_l2 (D need : Int) (f : Nat → Int) (hf : Feas u D need f) (h8 : ∀ i, i < u.length → mostU u i ≤ 8) (b : Int) (hb : b = sm (cQ (ofs u) f) u.length) :
    ∀ n, n ≤ u.length → Evt (fun k => gridhalllaw3_ReserveBest.l2 k D need (tab f u.length) (tab (mostU u) u.length) b (sm f n) (tab f u.length) (u.length : Int) (n : Int) u) true:=by
  have hl:=h.len
  have fb : ∀ i, i < u.length → 0 ≤ f i ∧ f i ≤ 8:=fun i hi => by
    have:=hf.rng i hi
    have:=h8 i hi
    omega
  have sb : ∀ n, n ≤ u.length → 0 ≤ sm f n ∧ sm f n ≤ 8 * (n : Int):=by
    intro n
    induction n with
   |zero => intro _; simp [sm]
   |succ n ih =>
      intro hn
      have:=ih (by omega)
      have:=fb n (by omega)
      simp only [sm]
      omega
  refine down ?_ ?_
  · refine Evt.succ ?_
    simp only [gridhalllaw3_ReserveBest.l2]
    have ce:=cl_ev h (tab f u.length) (tab_len _ _) (fun i hi => by rw [tab_pn f hi]; have:=fb i hi; omega)
    have cc : sm (cQ (ofs u) (pn (tab f u.length))) u.length = sm (cQ (ofs u) f) u.length:=sm_congr _ (fun i hi => by unfold cQ; rw [tab_pn f hi])
    have ch : sm (heQ u (pn (tab f u.length))) u.length = sm (heQ u f) u.length:=sm_congr _ (fun i hi => by unfold heQ; rw [tab_pn f hi])
    rw [cc, ch] at ce
    refine Evt.ite_neg (by omega) (Evt.bind ce (Evt.ite_pos hf.sum (Evt.ite_pos hb.symm (Evt.of_eq ?_))))
    exact decide_eq_true hf.held
  · intro n hn ih
    have f1:=fb n hn
    have b1:=sb n (by omega)
    have fr_:=hf.rng n hn
    refine Evt.succ ?_
    simp only [gridhalllaw3_ReserveBest.l2, rdp, tab_len]
    rw [tab_pn f hn, tab_pn (mostU u) hn, wrap64_nat (n:=n) (by omega), wrap64_of (x:=sm f n + f n) (by omega) (by omega)]
    exact Evt.ite_pos (by omega) (Evt.ite_pos (by omega) (Evt.ite_pos (by omega) (Evt.ite_pos (by omega) (Evt.bindo (in_eq _ _ _) (Evt.ite_pos (decide_eq_true (by omega)) ih)))))
theorem lw_l0 (D need : Int) (e : Int) (pw : List Int) (c : Int)
    (H : (∀ i, i < u.length → mostU u i ≤ 8) → u.length ≤ 3 → Evt (fun k => (gridhallref3_Lists.f k (tab (mostU u) u.length) (mn D 1000)).bind fun t322 => gridhalllaw3_ReserveBest.l1 k D need pw c e (tab (mostU u) u.length) 0 false t322 (t322.length : Int) 0 u) true) :
    ∀ n, n ≤ u.length → (∀ i, i < n → mostU u i ≤ 8) → (0 < n → u.length ≤ 3) → Evt (fun k => gridhalllaw3_ReserveBest.l0 k D need pw c e (tab (mostU u) n) u (u.length : Int) (n : Int) u) true:=by
  have hl:=h.len
  refine down ?_ ?_
  · intro a1 a2
    refine Evt.succ ?_
    simp only [gridhalllaw3_ReserveBest.l0]
    exact Evt.ite_neg (by omega) (H a1 (by by_cases c : 0 < u.length; exact a2 c; omega))
  · intro n hn ih a1 a2
    have hv:=(h.one n hn).2.1
    refine Evt.succ ?_
    simp only [gridhalllaw3_ReserveBest.l0, rdU0, rdU1, tab_len]
    rw [wrap64_nat (n:=n) (by omega)]
    have al:=All_ev (nmU u n) (stU u n) hv
    refine Evt.ite_pos (by omega) (Evt.ite_pos (by omega) (Evt.ite_pos (by omega) (Evt.bind al (Evt.ite (fun _ => Evt.pure _) (fun c1 => Evt.ite (fun _ => Evt.pure _) (fun c2 => Evt.bind al (Evt.ite_pos (by omega) ?_)))))))
    have e2 : tab (mostU u) n ++ [tot (stU u n) (stU u n).length] = tab (mostU u) (n + 1):=(tab_succ _ _).symm
    rw [e2]
    have u1 : mostU u n ≤ 8:=by unfold mostU; omega
    exact ih (fun i hi => by by_cases e : i = n; subst e; exact u1; exact a1 i (by omega)) (fun _ => by omega)
theorem lw_main (D need : Int) (hD : 0 ≤ D ∧ D ≤ 1000000) (out : List Int × Int × Int) (o2 : (out = ([], 0, 8) ∧ ∀ q, ¬ Feas u D need q) ∨ ∃ f, Feas u D need f ∧ (∀ q, Feas u D need q → sm (cQ (ofs u) f) u.length ≤ sm (cQ (ofs u) q) u.length) ∧ out = (tab f u.length, sm (cQ (ofs u) f) u.length, 0)) :
    Evt (fun k => gridhalllaw3_ReserveBest.l0 k D need out.1 out.2.1 out.2.2 [] u (u.length : Int) 0 u) true:=by
  have hl:=h.len
  have H:=lw_l0 h D need out.2.2 out.1 out.2.1 (fun h8 h3 => ?_) 0 (by omega) (fun i hi => by omega) (fun z => by omega)
  · exact H
  have lim8 : ∀ i, i < (tab (mostU u) u.length).length → 0 ≤ pn (tab (mostU u) u.length) i ∧ pn (tab (mostU u) u.length) i ≤ 8:=by
    intro i hi
    rw [tab_len] at hi
    rw [tab_pn _ hi]
    have:=mostU_bd h i hi
    have:=h8 i hi
    omega
  have ms : 0 ≤ mn D 1000 ∧ mn D 1000 ≤ 1000:=by unfold mn; split <;> omega
  have LE:=Lists_ev (tab (mostU u) u.length) (mn D 1000) lim8 (by rw [tab_len]; exact h3) (by omega) (by omega)
  refine Evt.bind LE ?_
  have mem : ∀ q, q ∈ LSf (tab (mostU u) u.length) (mn D 1000) ↔ q.length = u.length ∧ (∀ i, i < u.length → 0 ≤ pn q i ∧ pn q i ≤ mostU u i) ∧ sm (pn q) u.length = mn D 1000:=by
    intro q
    rw [LS_mem, tab_len]
    constructor
    · rintro ⟨a, b, c⟩
      exact ⟨a, fun i hi => by have:=b i hi; rw [tab_pn _ hi] at this; exact this, c⟩
    · rintro ⟨a, b, c⟩
      exact ⟨a, fun i hi => by rw [tab_pn _ hi]; exact b i hi, c⟩
  have len1 : (LSf (tab (mostU u) u.length) (mn D 1000)).length ≤ 1000:=by
    have a:=LS_len (tab (mostU u) u.length) (mn D 1000) (fun i hi => (lim8 i hi).2)
    rw [tab_len] at a
    have : (9 : Nat) ^ u.length ≤ 9 ^ 3:=Nat.pow_le_pow_right (by omega) h3
    omega
  have sum8 : ∀ (g : Nat → Int),(∀ i, i < u.length → g i ≤ 8) → ∀ n, n ≤ u.length → sm g n ≤ 8 * (n : Int):=by
    intro g hg n
    induction n with
   |zero => intro _; simp [sm]
   |succ n ih =>
      intro hn
      have:=ih (by omega)
      have:=hg n (by omega)
      simp only [sm]
      omega
  have good : ∀ q, q ∈ LSf (tab (mostU u) u.length) (mn D 1000) → okR u need q = true → Feas u D need (pn q):=by
    intro q hq ok
    obtain ⟨a, b, c⟩:=(mem q).1 hq
    refine ⟨b, ?_, of_decide_eq_true ok⟩
    have:=sum8 (pn q) (fun i hi => by have:=b i hi; have:=h8 i hi; omega) u.length (Nat.le_refl _)
    revert c
    unfold mn
    split <;> intro c <;> omega
  have start : BI (okR u need) (csR u) (LSf (tab (mostU u) u.length) (mn D 1000)) 0 0 false:=⟨fun _ j hj => by omega, fun z => by cases z⟩
  refine lw_l1 h D need out.2.2 out.1 out.2.1 _ _ (fun q hq => ?_) len1 (fun b s hB => ?_) _ 0 0 false (Nat.zero_add _) start
  · obtain ⟨a, b, _⟩:=(mem q).1 hq
    exact ⟨a, fun i hi => by have:=b i hi; have:=h8 i hi; omega⟩
  · obtain ⟨b1, b2⟩:=hB
    rcases o2 with ⟨o2, nf⟩|⟨f, f1, f3, o2⟩
    · have no : s = false:=by
        cases s with
       |false => rfl
       |true =>
          obtain ⟨⟨j, j1, j2, _⟩, _⟩:=b2 rfl
          exact absurd (good _ (getD_mem j1) j2) (nf _)
      refine ⟨fun z => (by rw [no] at z; cases z), fun _ => ?_⟩
      rw [o2]
      exact ⟨rfl, rfl, rfl⟩
    · have fb:=f1.rng
      have fs:=sum8 f (fun i hi => by have:=fb i hi; have:=h8 i hi; omega) u.length (Nat.le_refl _)
      have fD:=f1.sum
      have eD : mn D 1000 = D:=mn_le (by omega)
      have inn : tab f u.length ∈ LSf (tab (mostU u) u.length) (mn D 1000):=(mem _).2 ⟨tab_len _ _, fun i hi => by rw [tab_pn f hi]; exact fb i hi, by rw [eD, sm_congr u.length (fun i hi => tab_pn f hi), fD]⟩
      have fok : okR u need (tab f u.length) = true:=decide_eq_true (by
        have : sm (heQ u (pn (tab f u.length))) u.length = sm (heQ u f) u.length:=sm_congr _ (fun i hi => by unfold heQ; rw [tab_pn f hi])
        rw [this]
        exact f1.held)
      obtain ⟨j, j1, j2⟩:=List.getElem_of_mem inn
      have jq : (LSf (tab (mostU u) u.length) (mn D 1000)).getD j [] = tab f u.length:=by
        rw [List.getD_eq_getElem?_getD, List.getElem?_eq_getElem j1, j2]
        rfl
      have yes : s = true:=by
        cases s with
       |true => rfl
       |false =>
          have:=b1 rfl j j1
          rw [jq, fok] at this
          cases this
      obtain ⟨⟨i, i1, i2, i3⟩, b4⟩:=b2 yes
      have low:=b4 j j1 (by rw [jq]; exact fok)
      rw [jq] at low
      have cc : csR u (tab f u.length) = sm (cQ (ofs u) f) u.length:=sm_congr _ (fun i hi => by unfold cQ; rw [tab_pn f hi])
      rw [cc] at low
      have up:=f3 _ (good _ (getD_mem i1) i2)
      have eb : b = sm (cQ (ofs u) f) u.length:=by unfold csR at i3; omega
      refine ⟨fun _ => ?_, fun z => (by rw [yes] at z; cases z)⟩
      rw [o2]
      refine ⟨rfl, eb.symm, tab_len _ _, ?_⟩
      have:=lw_l2 h D need f f1 h8 b eb 0 (by omega)
      simp only [sm] at this
      rw [tab_len]
      exact this
end
theorem lw_j0 (u : List Un) (hl : u.length * 48 ≤ 140737488351232) (D need : Int) (b : Bool) (hb : b = false) : Evt (fun k => gridhalllaw3_ReserveBest.j0 k D need b u) true := by
  obtain ⟨out, o1, o2, o3, o4⟩:=Best_ev u hl D need
  refine Evt.succ ?_
  simp only [gridhalllaw3_ReserveBest.j0]
  refine Evt.ite_neg (by rw [hb]; decide) (Evt.bind o1 (Evt.bind (gridhalllaw3_unitsError_ev u hl) ?_))
  by_cases c : unErr u = 0
  · have j1 : ∀ x : Bool, (x = true ↔ ¬ RgB D need) → Evt (fun k => gridhalllaw3_ReserveBest.j1 k D need out.1 out.2.1 out.2.2 x u) true:=by
      intro x hx
      refine Evt.succ ?_
      simp only [gridhalllaw3_ReserveBest.j1]
      by_cases g : RgB D need
      · refine Evt.ite_neg (fun z => hx.1 z g) ?_
        exact lw_main (unErr_ok c).1 D need g.1 out (o4 c g)
      · rw [o3 c g]
        exact Evt.ite_pos (hx.2 g) (Evt.ite_pos rfl (Evt.ite_pos rfl (Evt.of_eq rfl)))
    refine Evt.ite_pos c (Evt.bindo (in_eq _ _ _) (Evt.ite (fun a => Evt.bindo (in_eq _ _ _) (j1 _ ?_)) (fun a => j1 _ ?_)))
    · have a:=of_decide_eq_true a
      unfold RgB
      simp only [Bool.not_eq_true', decide_eq_false_iff_not]
      omega
    · unfold RgB
      exact ⟨fun _ z => a (decide_eq_true z.1), fun _ => rfl⟩
  · rw [o2 c]
    exact Evt.ite_neg c (Evt.ite_pos rfl (Evt.ite_pos rfl (Evt.of_eq rfl)))
end Go.Proofs.Ytekpnmeikibioaa.EReserveBest
