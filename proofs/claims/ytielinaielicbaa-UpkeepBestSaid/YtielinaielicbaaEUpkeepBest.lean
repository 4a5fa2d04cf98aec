import Derived.Test.YtielinaielicbaaDUpkeepBest
import Derived.Test.YtielinaielicbaaHUpkeepBesty11
namespace Go.Proofs.Ytielinaielicbaa.EUpkeepBest
open Go.RowKit Go.Proofs.YtielinaielicbaaW.PrintWords Go.Proofs.YtielinaielicbaaW.PrintMore Go.Proofs.Ytielinaielicbaa.Evs Go.Proofs.Ytielinaielicbaa.PUpkeepBest Go.Proofs.Ytielinaielicbaa.BUpkeepBest Go.Proofs.Ytielinaielicbaa.CUpkeepBest Go.Proofs.Ytielinaielicbaa.DUpkeepBest
set_option linter.unusedVariables false
set_option linter.unusedSectionVars false
set_option linter.unusedSimpArgs false
section
variable {js : List Jb} {ap : List Ap} {c : Int} (hu : Up js ap c)
include hu
theorem planErr_ev {p : List Int} (hl : p.length = js.length) (hr : inR js p) : ∃ e : Int, Evt (fun k => gridhallref4_PlanError.f k js ap c p) e ∧ (e = 0 ↔ Vd js ap c p) := by
  have hj:=hu.hj
  have ht : ∀ i, i < js.length → ft js i ≤ pl p i ∧ pl p i ≤ la js i:=fun i hi => hr.2 i (by omega)
  have h1 : ∀ k, k ≤ js.length → ∃ e : Int, Evt (fun q => gridhallref4_PlanError.l1 q (js.length : Int) (k : Int) js ap c p) e ∧ (e = 0 ↔ ∀ i, k ≤ i → i < js.length → good js ap c p i):=by
    refine down ?_ ?_
    · refine ⟨0, Evt.succ ?_, ⟨fun _ i h1 h2 => by omega, fun _ => rfl⟩⟩
      simp only [gridhallref4_PlanError.l1]
      exact Evt.ite_neg (by omega) (Evt.pure _)
    · intro k hk ih
      obtain ⟨e, i1, i2⟩:=ih
      by_cases c1 : Conf js ap p k
      · exact ⟨11, ref_k hu hl ht k hk 11 (fun _ => rfl) (fun h => absurd c1 h) (fun h => absurd c1 h), ⟨fun h => by omega, fun h => absurd c1 (h k (Nat.le_refl _) hk).1⟩⟩
      · by_cases c2 : Full js c p k
        · exact ⟨9, ref_k hu hl ht k hk 9 (fun h => absurd h c1) (fun _ _ => rfl) (fun _ h => absurd c2 h), ⟨fun h => by omega, fun h => absurd c2 (h k (Nat.le_refl _) hk).2⟩⟩
        · refine ⟨e, ref_k hu hl ht k hk e (fun h => absurd h c1) (fun _ h => absurd h c2) (fun _ _ => i1), ?_⟩
          rw [i2]
          refine ⟨fun h i a b => ?_, fun h i a b => h i (by omega) b⟩
          by_cases ei : i = k
          · subst ei
            exact ⟨c1, c2⟩
          · exact h i (by omega) b
  obtain ⟨e, e1, e2⟩:=h1 0 (by omega)
  refine ⟨e, ?_, by rw [e2]; exact ⟨fun h i hi => h i (by omega) hi, fun h i _ hi => h i hi⟩⟩
  have h0 : ∀ n, n ≤ js.length → Evt (fun q => gridhallref4_PlanError.l0 q p (p.length : Int) (n : Int) js ap c p) e:=by
    refine down ?_ ?_
    · refine Evt.succ ?_
      simp only [gridhallref4_PlanError.l0, hl]
      exact Evt.ite_neg (by omega) e1
    · intro n hn ih
      refine Evt.succ ?_
      simp only [gridhallref4_PlanError.l0, rdp, rj, in_eq, Option.bind_some]
      rw [wrap64_nat (n:=n) (by omega)]
      exact Evt.ite_pos (by omega) (Evt.ite_pos (by omega) (Evt.ite_pos (by omega) (Evt.ite_pos (by omega) (Evt.ite_pos (decide_eq_true (ht n hn)) ih))))
  simp only [gridhallref4_PlanError.f]
  exact Evt.ite_pos (by omega) (h0 0 (by omega))
end
def tls (f : Nat → Int) : Nat → Nat → List Int
 |_, 0 => []
 |a, m + 1 => f a :: tls f (a + 1) m
theorem tls_len (f : Nat → Int) : ∀ m a, (tls f a m).length = m
 |0, _ => rfl
 |m + 1, a => by simp only [tls, List.length_cons, tls_len f m (a + 1)]
theorem tls_snoc (f : Nat → Int) : ∀ (m a : Nat) (t : List Int), tls f a (m + 1) ++ t = tls f a m ++ (f (a + m) :: t)
 |0, a, t => by simp [tls]
 |m + 1, a, t => by
    show f a :: (tls f (a + 1) (m + 1) ++ t) = f a :: (tls f (a + 1) m ++ (f (a + (m + 1)) :: t))
    rw [tls_snoc f m (a + 1) t, show a + 1 + m = a + (m + 1) by omega]
theorem set_at (p t : List Int) (d e : Int) : (p ++ (d :: t)).set p.length e = p ++ (e :: t) := by
  rw [List.set_append_right _ _ (Nat.le_refl _), Nat.sub_self]
  rfl
def seenC (js : List Jb) (A : List (List Int)) : Int := if A = [] then 0 else cs js (pick js [] A) js.length
def anyP (A : List (List Int)) : Bool := !A.isEmpty
theorem anyP_ne {A : List (List Int)} (h : A ≠ []) : anyP A = true := by
  cases A with
 |nil => exact absurd rfl h
 |cons a A => rfl
def okA (js : List Jb) (A : List (List Int)) : Prop := (js.length = 0 → A = []) ∧ ∀ q, q ∈ A → q.length = js.length ∧ inR js q
section
variable {js : List Jb} {ap : List Ap} {c : Int} (hu : Up js ap c) (g : List Int) (gn ge : Int)
include hu
theorem w_l1 {A : List (List Int)} (hA : okA js A) {p : List Int} (hl : p.length = js.length) (hr : inR js p) (r : Bool)
    (h1 : Vd js ap c p → Evt (fun k => gridhalllaw4_UpkeepBest.l2 k g gn ge (pick js [] (A ++ [p])) (anyP (A ++ [p])) (seenC js (A ++ [p])) p ((js.length : Int) - 1) js ap c) r)
    (h2 : ¬ Vd js ap c p → Evt (fun k => gridhalllaw4_UpkeepBest.l2 k g gn ge (pick js [] A) (anyP (A)) (seenC js A) p ((js.length : Int) - 1) js ap c) r) :
    Evt (fun k => gridhalllaw4_UpkeepBest.l1 k g gn ge (pick js [] A) (anyP (A)) (seenC js A) p js ap c) r:=by
  have hj:=hu.hj
  have ht : ∀ i, i < js.length → ft js i ≤ pl p i ∧ pl p i ≤ la js i:=fun i hi => hr.2 i (by omega)
  obtain ⟨e, e1, e2⟩:=planErr_ev hu hl hr
  have j4 : ∀ (b : List Int) (f : Bool) (v : Int), Evt (fun k => gridhalllaw4_UpkeepBest.l2 k g gn ge b f v p ((js.length : Int) - 1) js ap c) r → Evt (fun k => gridhalllaw4_UpkeepBest.j4 k g gn ge b f v p js ap c) r:=by
    intro b f v h
    refine Evt.succ ?_
    simp only [gridhalllaw4_UpkeepBest.j4]
    rw [hl, wrap64_of (x:=(js.length : Int) - 1) (by omega) (by omega)]
    exact h
  have up : pick js [] (A ++ [p]) = better js (pick js [] A) p:=by rw [pick_append]; rfl
  have take : Vd js ap c p → (pick js [] A = [] ∨ cs js p js.length < cs js (pick js [] A) js.length) → Evt (fun k => gridhalllaw4_UpkeepBest.j3 k g gn ge (pick js [] A) (anyP (A)) (seenC js A) p true js ap c) r:=by
    intro v h
    refine Evt.succ ?_
    simp only [gridhalllaw4_UpkeepBest.j3]
    refine Evt.ite_pos (by simp) ?_
    rw [clone_eq p (by omega)]
    simp only [Option.bind_some]
    refine Evt.bind (refcost_ev hu hl ht) (j4 _ _ _ ?_)
    have hh:=h1 v
    have e3 : pick js [] (A ++ [p]) = p:=by
      rw [up]
      exact if_pos h
    rw [show anyP (A ++ [p]) = true from anyP_ne (by simp), show seenC js (A ++ [p]) = cs js p js.length by unfold seenC; rw [if_neg (by simp), e3], e3] at hh
    exact hh
  have skip : ∀ f, f = false → ((Vd js ap c p ∧ A ≠ [] ∧ pick js [] A ≠ [] ∧ ¬ cs js p js.length < cs js (pick js [] A) js.length) ∨ ¬ Vd js ap c p) → Evt (fun k => gridhalllaw4_UpkeepBest.j3 k g gn ge (pick js [] A) (anyP (A)) (seenC js A) p f js ap c) r:=by
    intro f hf h
    subst hf
    refine Evt.succ ?_
    simp only [gridhalllaw4_UpkeepBest.j3]
    refine Evt.ite_neg (by simp) (j4 _ _ _ ?_)
    rcases h with ⟨v, a, b, d⟩|v
    · have hh:=h1 v
      have e3 : pick js [] (A ++ [p]) = pick js [] A:=by
        rw [up]
        exact if_neg (by rintro (x|x); exact b x; exact d x)
      rw [show anyP (A ++ [p]) = anyP A by rw [anyP_ne a, anyP_ne (by simp)], show seenC js (A ++ [p]) = seenC js A by unfold seenC; rw [if_neg (by simp), if_neg a, e3], e3] at hh
      exact hh
    · exact h2 v
  have ne : A ≠ [] → pick js [] A ≠ []:=by
    intro a b
    have n0 : js.length ≠ 0:=fun x => a (hA.1 x)
    refine a ((pick_nil (js:=js) (L:=A) (fun q hq x => ?_)).1 b)
    have:=(hA.2 q hq).1
    rw [x] at this
    exact n0 (by simpa using this.symm)
  refine Evt.succ ?_
  simp only [gridhalllaw4_UpkeepBest.l1]
  refine Evt.bind e1 ?_
  by_cases v : Vd js ap c p
  · refine Evt.ite_pos (e2.2 v) ?_
    by_cases a : A = []
    · refine Evt.ite_neg (by rw [a]; decide) (take v (Or.inl ?_))
      rw [a]
      rfl
    · refine Evt.ite_pos (anyP_ne a) (Evt.bind (refcost_ev hu hl ht) ?_)
      have sc : seenC js A = cs js (pick js [] A) js.length:=if_neg a
      by_cases d : cs js p js.length < cs js (pick js [] A) js.length
      · have t:=take v (Or.inr d)
        rw [show decide (cs js p js.length < seenC js A) = true by rw [sc]; exact decide_eq_true d]
        exact t
      · exact skip _ (by rw [sc]; exact decide_eq_false d) (Or.inl ⟨v, a, ne a, d⟩)
  · exact Evt.ite_neg (fun x => v (e2.1 x)) (skip _ rfl (Or.inr v))
theorem w_back (b : List Int) (f : Bool) (v : Int) (r : Bool) : ∀ (m : Nat) (p t : List Int), p.length + m + t.length = js.length →
    Evt (fun k => gridhalllaw4_UpkeepBest.l2 k g gn ge b f v (p ++ (tls (ft js) p.length m ++ t)) ((p.length : Int) - 1) js ap c) r →
    Evt (fun k => gridhalllaw4_UpkeepBest.l2 k g gn ge b f v (p ++ (tls (la js) p.length m ++ t)) ((p.length : Int) + m - 1) js ap c) r:=by
  have hj:=hu.hj
  intro m
  induction m with
 |zero =>
    intro p t e h
    rw [show (p.length : Int) + ((0 : Nat) : Int) - 1 = (p.length : Int) - 1 by omega]
    exact h
 |succ m ih =>
    intro p t e h
    rw [tls_snoc] at h
    have i1:=ih p (ft js (p.length + m) :: t) (by simp only [List.length_cons]; omega) h
    rw [tls_snoc, ← List.append_assoc]
    rw [← List.append_assoc] at i1
    have hl : (p ++ tls (la js) p.length m).length = p.length + m:=by rw [List.length_append, tls_len]
    refine Evt.succ ?_
    simp only [gridhalllaw4_UpkeepBest.l2]
    rw [show (p.length : Int) + ((m + 1 : Nat) : Int) - 1 = ((p.length + m : Nat) : Int) by omega]
    rw [rdp, rj, Int.toNat_natCast]
    rw [show pl ((p ++ tls (la js) p.length m) ++ (la js (p.length + m) :: t)) (p.length + m) = la js (p.length + m) by rw [← hl]; exact pl_last _ _ _]
    rw [show ((p ++ tls (la js) p.length m) ++ (la js (p.length + m) :: t)).set (p.length + m) (jb js (p.length + m)).f2 = (p ++ tls (la js) p.length m) ++ (ft js (p.length + m) :: t) by rw [← hl]; exact set_at _ _ _ _]
    rw [wrap64_of (x:=((p.length + m : Nat) : Int) - 1) (by omega) (by omega)]
    refine Evt.ite_pos (by omega) (Evt.ite_pos (by omega) (Evt.ite_pos ?_ (Evt.ite_pos (by omega) (Evt.ite_pos rfl ?_))))
    · rw [List.length_append, hl, List.length_cons]
      omega
    · rw [show ((p.length + m : Nat) : Int) - 1 = (p.length : Int) + (m : Int) - 1 by omega]
      exact i1
open Classical in
theorem w_main : ∀ (m : Nat) (p : List Int), inR js p → p.length + m = js.length → ∀ (A : List (List Int)) (r : Bool), okA js A →
    Evt (fun k => gridhalllaw4_UpkeepBest.l2 k g gn ge (pick js [] (A ++ (allP js m p).filter (fun q => decide (Vd js ap c q)))) (anyP (A ++ (allP js m p).filter (fun q => decide (Vd js ap c q)))) (seenC js (A ++ (allP js m p).filter (fun q => decide (Vd js ap c q)))) (p ++ tls (la js) p.length m) ((js.length : Int) - 1) js ap c) r →
    Evt (fun k => gridhalllaw4_UpkeepBest.l1 k g gn ge (pick js [] A) (anyP (A)) (seenC js A) (p ++ tls (ft js) p.length m) js ap c) r:=by
  have hj:=hu.hj
  intro m
  induction m with
 |zero =>
    intro p hr e A r hA h
    simp only [tls, List.append_nil, allP] at h ⊢
    refine w_l1 hu g gn ge hA (by omega) hr r (fun v => ?_) (fun v => ?_)
    · rw [List.filter_cons_of_pos (p:=fun q => decide (Vd js ap c q)) (decide_eq_true v)] at h
      exact h
    · rw [List.filter_cons_of_neg (p:=fun q => decide (Vd js ap c q)) (by simpa using v)] at h
      simp only [List.filter_nil, List.append_nil] at h
      exact h
 |succ m ih =>
    intro p hr e A r hA h
    have fl:=ft_la hu p.length (by omega)
    have inner : ∀ (j : Nat) (d : Int) (A : List (List Int)), okA js A → ft js p.length ≤ d → d + j = la js p.length →
        Evt (fun k => gridhalllaw4_UpkeepBest.l2 k g gn ge (pick js [] (A ++ ((days d (j + 1)).flatMap (fun d => allP js m (p ++ [d]))).filter (fun q => decide (Vd js ap c q)))) (anyP (A ++ ((days d (j + 1)).flatMap (fun d => allP js m (p ++ [d]))).filter (fun q => decide (Vd js ap c q)))) (seenC js (A ++ ((days d (j + 1)).flatMap (fun d => allP js m (p ++ [d]))).filter (fun q => decide (Vd js ap c q)))) (p ++ tls (la js) p.length (m + 1)) ((js.length : Int) - 1) js ap c) r →
        Evt (fun k => gridhalllaw4_UpkeepBest.l1 k g gn ge (pick js [] A) (anyP (A)) (seenC js A) ((p ++ [d]) ++ tls (ft js) (p.length + 1) m) js ap c) r:=by
      intro j
      induction j with
     |zero =>
        intro d A hA h1 h2 h
        have ri:=inR_snoc hr (by omega) h1 (by omega)
        have i:=ih (p ++ [d]) ri (by rw [len_snoc]; omega) A r hA
        rw [len_snoc] at i
        refine i ?_
        simp only [days, List.flatMap_cons, List.flatMap_nil, List.append_nil] at h
        have ed : la js p.length = d:=by omega
        rw [show (p ++ [d]) ++ tls (la js) (p.length + 1) m = p ++ tls (la js) p.length (m + 1) by rw [List.append_assoc, ← ed]; rfl]
        exact h
     |succ j ihj =>
        intro d A hA h1 h2 h
        have ri:=inR_snoc hr (by omega) h1 (by omega)
        have le : (p ++ [d]).length + m = js.length:=by rw [len_snoc]; omega
        have i:=ih (p ++ [d]) ri le A r hA
        rw [len_snoc] at i
        refine i ?_
        rw [show days d (j + 1 + 1) = d :: days (d + 1) (j + 1) from rfl, List.flatMap_cons, List.filter_append, ← List.append_assoc] at h
        have hA' : okA js (A ++ (allP js m (p ++ [d])).filter (fun q => decide (Vd js ap c q))):=by
          refine ⟨fun x => by omega, fun q hq => ?_⟩
          rcases List.mem_append.1 hq with hq|hq
          · exact hA.2 q hq
          · have:=allP_spec m _ q ri le (List.mem_filter.1 hq).1
            exact ⟨this.1, this.2.1⟩
        have nx:=ihj (d + 1) _ hA' (by omega) (by omega) h
        have bk:=w_back hu g gn ge (pick js [] (A ++ (allP js m (p ++ [d])).filter (fun q => decide (Vd js ap c q)))) (anyP (A ++ (allP js m (p ++ [d])).filter (fun q => decide (Vd js ap c q)))) (seenC js (A ++ (allP js m (p ++ [d])).filter (fun q => decide (Vd js ap c q)))) r m (p ++ [d]) [] (by rw [len_snoc]; simp only [List.length_nil]; omega)
        rw [len_snoc, List.append_nil, List.append_nil] at bk
        rw [show ((p.length + 1 : Nat) : Int) + (m : Int) - 1 = (js.length : Int) - 1 by omega] at bk
        refine bk (Evt.succ ?_)
        simp only [gridhalllaw4_UpkeepBest.l2]
        rw [show ((p.length + 1 : Nat) : Int) - 1 = (p.length : Int) by omega, rdp, rj, Int.toNat_natCast]
        rw [show pl ((p ++ [d]) ++ tls (ft js) (p.length + 1) m) p.length = d by rw [List.append_assoc]; exact pl_last _ _ _]
        rw [wrap64_of (x:=d + 1) (by omega) (by omega)]
        rw [show ((p ++ [d]) ++ tls (ft js) (p.length + 1) m).set p.length (d + 1) = (p ++ [d + 1]) ++ tls (ft js) (p.length + 1) m by rw [List.append_assoc, List.append_assoc]; exact set_at _ _ _ _]
        refine Evt.ite_pos (by omega) (Evt.ite_pos (by omega) (Evt.ite_pos ?_ (Evt.ite_pos (by omega) (Evt.ite_neg (fun x => ?_) (Evt.ite_neg (by omega) nx)))))
        · rw [List.length_append, len_snoc, tls_len]
          omega
        · have x : d = la js p.length:=x
          omega
    have h':=inner (nd js p.length - 1) (ft js p.length) A hA (Int.le_refl _) (by unfold nd; omega)
    rw [show nd js p.length - 1 + 1 = nd js p.length by unfold nd; omega] at h'
    have:=h' h
    rw [List.append_assoc] at this
    exact this
end
theorem same_l (l : List Int) (hl : l.length ≤ 6) : Evt (fun k => gridhallref4_Same_int.f k l l) true := by
  simp only [gridhallref4_Same_int.f]
  have : ∀ n, n ≤ l.length → Evt (fun k => gridhallref4_Same_int.l0 k l l (l.length : Int) (n : Int)) true:=by
    refine down ?_ ?_
    · refine Evt.succ ?_
      simp only [gridhallref4_Same_int.l0]
      exact Evt.ite_neg (by omega) (Evt.pure _)
    · intro n hn ih
      refine Evt.succ ?_
      simp only [gridhallref4_Same_int.l0]
      rw [wrap64_nat (n:=n) (by omega)]
      exact Evt.ite_pos (by omega) (Evt.ite_pos (by omega) (Evt.ite_pos (by omega) (Evt.ite_pos (by omega) (Evt.ite_pos (by simp) ih))))
  exact Evt.ite_pos (by simp) (this 0 (by omega))
open Classical in
theorem w_f {js : List Jb} {ap : List Ap} {c : Int} (hs : ∀ n, n < js.length → (jb js n).f0.size ≤ 9223372036854775806) (r : List Int × Int × Int) (hb : Evt (fun k => upkeep_Best.f k js ap c) r) (hr : r = (if upErr js ap c ≠ 0 then ([], 0, upErr js ap c) else if js.length = 0 then ([], 0, 0) else if okP js ap c = [] then ([], 0, 8) else (pick js [] (okP js ap c), cs js (pick js [] (okP js ap c)) js.length, 0))) :
    upErr js ap c = 0 → Evt (fun k => gridhalllaw4_UpkeepBest.l0 k r.1 r.2.1 r.2.2 false 0 (List.replicate js.length 0) js (js.length : Int) 0 js ap c) true:=by
  intro h
  have hu:=upErr_ok h
  have hj:=hu.hj
  have fin : Evt (fun k => gridhalllaw4_UpkeepBest.l2 k r.1 r.2.1 r.2.2 (pick js [] (okP js ap c)) (anyP (okP js ap c)) (seenC js (okP js ap c)) ([] ++ (tls (ft js) ([] : List Int).length js.length ++ [])) ((([] : List Int).length : Int) - 1) js ap c) true:=by
    refine Evt.succ ?_
    simp only [gridhalllaw4_UpkeepBest.l2]
    refine Evt.ite_neg (by simp) (Evt.ite_pos (by simp) ?_)
    rw [hr, if_neg (by omega)]
    by_cases n0 : js.length = 0
    · rw [if_pos n0]
      have e : okP js ap c = [[]]:=by
        unfold okP
        rw [n0]
        simp only [allP]
        have v : Vd js ap c []:=fun k hk => by omega
        rw [List.filter_cons_of_pos (p:=fun q => decide (Vd js ap c q)) (by simpa using v)]
        rfl
      have e1 : seenC js (okP js ap c) = 0:=by
        rw [e]
        unfold seenC
        rw [if_neg (by simp), n0]
        rfl
      have e2 : pick js [] (okP js ap c) = []:=by
        rw [e]
        unfold pick better
        simp
      rw [e1, e2]
      exact Evt.ite_pos (by rw [e]; rfl) (Evt.ite_pos (by simp) (Evt.ite_pos (by simp) (Evt.bind (same_l [] (by simp)) (Evt.pure _))))
    · rw [if_neg n0]
      by_cases e : okP js ap c = []
      · rw [if_pos e]
        exact Evt.ite_neg (by rw [e]; decide) (Evt.ite_pos (by simp) (Evt.ite_pos (by simp) (Evt.pure _)))
      · rw [if_neg e]
        have sc : seenC js (okP js ap c) = cs js (pick js [] (okP js ap c)) js.length:=if_neg e
        have l6 : (pick js [] (okP js ap c)).length ≤ 6:=by
          rcases okP_ok (js:=js) (ap:=ap) (c:=c) with o|o
          · rw [o]
            simp
          · have:=o.1
            omega
        exact Evt.ite_pos (anyP_ne e) (Evt.ite_pos (by simp) (Evt.ite_pos sc.symm (Evt.bind (same_l _ l6) (Evt.pure _))))
  have bk:=w_back hu r.1 r.2.1 r.2.2 _ _ _ true js.length [] [] (by simp) fin
  have mn:=w_main hu r.1 r.2.1 r.2.2 js.length [] (inR_nil js) (by simp) [] true ⟨fun _ => rfl, fun q hq => by simp at hq⟩
  simp only [List.nil_append, List.length_nil, List.append_nil] at bk mn
  rw [show ((0 : Nat) : Int) + (js.length : Int) - 1 = (js.length : Int) - 1 by omega] at bk
  have l1:=mn bk
  have : ∀ n, n ≤ js.length → Evt (fun k => gridhalllaw4_UpkeepBest.l0 k r.1 r.2.1 r.2.2 false 0 (tls (ft js) 0 n ++ List.replicate (js.length - n) 0) js (js.length : Int) (n : Int) js ap c) true:=by
    refine down ?_ ?_
    · refine Evt.succ ?_
      simp only [gridhalllaw4_UpkeepBest.l0, Nat.sub_self, List.replicate_zero, List.append_nil]
      exact Evt.ite_neg (by omega) l1
    · intro n hn ih
      refine Evt.succ ?_
      simp only [gridhalllaw4_UpkeepBest.l0, rj, Int.toNat_natCast]
      rw [wrap64_nat (n:=n) (by omega)]
      obtain ⟨d, hd⟩ : ∃ d, js.length - n = d + 1:=⟨js.length - n - 1, by omega⟩
      rw [show js.length - (n + 1) = d by omega, tls_snoc, Nat.zero_add] at ih
      rw [hd, List.replicate_succ]
      have sa:=set_at (tls (ft js) 0 n) (List.replicate d 0) 0 (ft js n)
      rw [tls_len] at sa
      refine Evt.ite_pos (by omega) (Evt.ite_pos (by omega) (Evt.ite_pos (by omega) (Evt.ite_pos ?_ ?_)))
      · rw [List.length_append, tls_len, List.length_cons, List.length_replicate]
        omega
      · show Evt (fun k => gridhalllaw4_UpkeepBest.l0 k r.1 r.2.1 r.2.2 false 0 ((tls (ft js) 0 n ++ (0 :: List.replicate d 0)).set n (ft js n)) js (js.length : Int) ((n + 1 : Nat) : Int) js ap c) true
        rw [sa]
        exact ih
  exact this 0 (by omega)
theorem w_j0 (js : List Jb) (ap : List Ap) (c : Int) (hs : ∀ n, n < js.length → (jb js n).f0.size ≤ 9223372036854775806) (b : Bool) (hb : b = false) : Evt (fun k => gridhalllaw4_UpkeepBest.j0 k b js ap c) true := by
  subst hb
  refine Evt.succ ?_
  simp only [gridhalllaw4_UpkeepBest.j0, Option.bind_some]
  obtain ⟨m, hm, hm3⟩ : ∃ m : Nat, mn (js.length : Int) 3 = m ∧ m ≤ js.length ∧ m ≤ 3:=by
    unfold mn
    split
    · exact ⟨3, rfl, by omega, by omega⟩
    · exact ⟨js.length, rfl, by omega, by omega⟩
  rw [hm, Int.toNat_natCast]
  refine Evt.ite_neg (by simp) (Evt.ite_pos (by omega) (Evt.ite_pos (by omega) ?_))
  have tl : (js.take m).length = m:=by rw [List.length_take]; omega
  have hs' : ∀ n, n < (js.take m).length → (jb (js.take m) n).f0.size ≤ 9223372036854775806:=by
    intro n hn
    have : jb (js.take m) n = jb js n:=by
      unfold jb
      rw [List.getD_eq_getElem?_getD, List.getD_eq_getElem?_getD, List.getElem?_take, if_pos (by omega)]
    rw [this]
    exact hs n (by omega)
  have be:=Best_ev (js:=js.take m) (ap:=ap) (c:=c) hs'
  refine Evt.bind be (Evt.bind (UpkeepError_ev (js.take m) ap c) ?_)
  by_cases h : upErr (js.take m) ap c = 0
  · refine Evt.ite_pos h (Evt.ite_pos (by omega) (Evt.ite_pos (by rw [Int.toNat_natCast, tl]; omega) ?_))
    rw [Int.toNat_natCast]
    exact w_f hs' _ be rfl h
  · refine Evt.ite_neg h ?_
    rw [if_pos h]
    exact Evt.ite_pos rfl (Evt.ite_pos rfl (Evt.of_eq rfl))
end Go.Proofs.Ytielinaielicbaa.EUpkeepBest
