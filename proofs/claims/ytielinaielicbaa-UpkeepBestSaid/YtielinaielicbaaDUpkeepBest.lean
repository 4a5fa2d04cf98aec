import Derived.Test.YtielinaielicbaaCUpkeepBest
import Derived.Test.YtielinaielicbaaHUpkeepBesty9
namespace Go.Proofs.Ytielinaielicbaa.DUpkeepBest
open Go.RowKit Go.Proofs.YtielinaielicbaaW.PrintWords Go.Proofs.YtielinaielicbaaW.PrintMore Go.Proofs.Ytielinaielicbaa.Evs Go.Proofs.Ytielinaielicbaa.PUpkeepBest Go.Proofs.Ytielinaielicbaa.BUpkeepBest Go.Proofs.Ytielinaielicbaa.CUpkeepBest
set_option linter.unusedVariables false
set_option linter.unusedSectionVars false
set_option linter.unusedSimpArgs false
theorem clone_eq (l : List Int) (hl : l.length ≤ 6) : slices_Clone_int_int.f l = some l := by
  simp only [slices_Clone_int_int.f, Option.bind_some]
  rw [if_pos (by simp only [List.length_nil]; omega)]
  rfl
section
variable {js : List Jb} {ap : List Ap} {c : Int} (hu : Up js ap c)
include hu
theorem ft_la (i : Nat) (hi : i < js.length) : 0 ≤ ft js i ∧ ft js i ≤ la js i ∧ la js i ≤ 60 := by
  have o:=hu.job i hi
  unfold okJ at o
  omega
theorem search_head (m : Nat) (l b : List Int) (hr : inR js l) (e : l.length + m = js.length) (hb : okB js b)
    (h0 : (b = [] ∨ cs js l l.length < cs js b js.length) → Evt (fun k => upkeep_search.j0 k l b false js ap c) (pick js b (exts js ap c m l))) :
    Evt (fun k => upkeep_search.f k js ap c l b) (pick js b (exts js ap c m l)):=by
  refine Evt.succ ?_
  simp only [upkeep_search.f]
  rcases hb with hb|⟨bl, br⟩
  · subst hb
    exact Evt.ite_pos (by simp) (h0 (Or.inl rfl))
  · by_cases c0 : b = []
    · exact Evt.ite_pos (by rw [c0]; rfl) (h0 (Or.inl c0))
    · have bn : b.length ≠ 0:=fun h => c0 (List.eq_nil_of_length_eq_zero h)
      refine Evt.ite_neg (by omega) (Evt.bind (costR hu hr) (Evt.bind (costR hu br) ?_))
      rw [bl]
      by_cases c2 : cs js l l.length ≥ cs js b js.length
      · rw [decide_eq_true c2]
        refine Evt.succ ?_
        simp only [upkeep_search.j0]
        refine Evt.ite_pos (by simp) (Evt.of_eq ?_)
        rw [pick_ge _ c0]
        intro p hp
        have:=(exts_spec hu hr e (exts_sub m l p hp)).2.2
        omega
      · rw [decide_eq_false c2]
        exact h0 (Or.inr (by omega))
open Classical in
theorem search_ev (hn : 0 < js.length) : ∀ (m : Nat) (l b : List Int), inR js l → l.length + m = js.length → okB js b → Evt (fun k => upkeep_search.f k js ap c l b) (pick js b (exts js ap c m l)) := by
  have hj:=hu.hj
  intro m
  induction m with
 |zero =>
    intro l b hr e hb
    refine search_head hu 0 l b hr e hb (fun h => Evt.succ ?_)
    simp only [upkeep_search.j0]
    refine Evt.ite_neg (by simp) (Evt.ite_pos (by omega) (Evt.ite_pos (by omega) ?_))
    rw [clone_eq l (by omega)]
    refine Evt.of_eq ?_
    show l = better js b l
    unfold better
    rw [show l.length = js.length by omega] at h
    rw [if_pos h]
 |succ m ih =>
    intro l b hr e hb
    refine search_head hu (m + 1) l b hr e hb (fun h => Evt.succ ?_)
    simp only [upkeep_search.j0]
    refine Evt.ite_neg (by simp) (Evt.ite_neg (by omega) (Evt.ite_pos (by omega) (Evt.ite_pos (by omega) ?_)))
    have fl:=ft_la hu l.length (by omega)
    have loop : ∀ (j : Nat) (d : Int) (b : List Int), okB js b → ft js l.length ≤ d → d + j = la js l.length + 1 → Evt (fun k => upkeep_search.l0 k l b (l.length : Int) d js ap c) (pick js b ((days d j).flatMap (fun d => if good js ap c (l ++ [d]) l.length then exts js ap c m (l ++ [d]) else []))):=by
      intro j
      induction j with
     |zero =>
        intro d b hb h1 h2
        refine Evt.succ ?_
        simp only [upkeep_search.l0, rj]
        refine Evt.ite_pos (by omega) (Evt.ite_pos (by omega) (Evt.ite_neg (fun h => ?_) (Evt.pure _)))
        have : d ≤ la js l.length:=h
        omega
     |succ j ihj =>
        intro d b hb h1 h2
        have ri:=inR_snoc hr (by omega) h1 (by omega)
        have le : (l ++ [d]).length + m = js.length:=by rw [len_snoc]; omega
        refine Evt.succ ?_
        simp only [upkeep_search.l0, rj, Option.bind_some, List.nil_append]
        rw [wrap64_of (x:=d + 1) (by omega) (by omega)]
        refine Evt.ite_pos (by omega) (Evt.ite_pos (by omega) (Evt.ite_pos (show d ≤ la js l.length by omega) (Evt.ite_pos (by simp only [List.length_nil]; omega) (Evt.ite_pos (by omega) ?_))))
        simp only [days, List.flatMap_cons, pick_append]
        obtain ⟨L, hL⟩:=allP_ne (fun i hi => (ft_la hu i hi).2.1) m (l ++ [d]) le
        obtain ⟨s1, s2, s3⟩:=allP_spec m _ L ri le hL
        have al:=fun r => allowed_ev (ap:=ap) (c:=c) hu (l:=L) s1 (fun i hi => s2.2 i (by omega)) (k:=l.length) (by omega) (t:=l ++ [d]) (len_snoc l d) (fun i hi => (s3 i (by rw [len_snoc]; omega)).symm) r
        have gc : good js ap c (l ++ [d]) l.length ↔ good js ap c L l.length:=good_congr (fun i hi => (s3 i (by rw [len_snoc]; omega)).symm)
        by_cases g : good js ap c (l ++ [d]) l.length
        · have g':=gc.1 g
          rw [if_pos g]
          refine Evt.bind (al 0 (fun h => absurd h g'.1) (fun _ h => absurd h g'.2) (fun _ _ => rfl)) (Evt.ite_pos rfl (Evt.bind (ih (l ++ [d]) b ri le hb) ?_))
          exact ihj (d + 1) _ (pick_ok _ b hb (fun p hp => by
            have:=allP_spec m _ p ri le (exts_sub m _ p hp)
            exact ⟨this.1, this.2.1⟩)) (by omega) (by omega)
        · rw [if_neg g]
          have g' : ¬ good js ap c L l.length:=fun x => g (gc.2 x)
          by_cases cf : Conf js ap L l.length
          · exact Evt.bind (al 11 (fun _ => rfl) (fun h => absurd cf h) (fun h => absurd cf h)) (Evt.ite_neg (by omega) (ihj (d + 1) b hb (by omega) (by omega)))
          · by_cases cg : Full js c L l.length
            · exact Evt.bind (al 9 (fun h => absurd h cf) (fun _ _ => rfl) (fun _ h => absurd cg h)) (Evt.ite_neg (by omega) (ihj (d + 1) b hb (by omega) (by omega)))
            · exact absurd ⟨cf, cg⟩ g'
    rw [rj]
    have:=loop (nd js l.length) (ft js l.length) b hb (Int.le_refl _) (by unfold nd; omega)
    simp only [exts]
    exact this
end
open Classical in
noncomputable def okP (js : List Jb) (ap : List Ap) (c : Int) : List (List Int) := (allP js js.length []).filter (fun q => decide (Vd js ap c q))
theorem inR_nil (js : List Jb) : inR js [] := ⟨Nat.zero_le _, fun i hi => absurd hi (Nat.not_lt_zero _)⟩
theorem okP_spec {js : List Jb} {ap : List Ap} {c : Int} {q : List Int} (h : q ∈ okP js ap c) : q.length = js.length ∧ inR js q := by
  have:=allP_spec js.length [] q (inR_nil js) (by simp) (List.mem_filter.1 h).1
  exact ⟨this.1, this.2.1⟩
theorem okP_ne {js : List Jb} {ap : List Ap} {c : Int} (hn : 0 < js.length) : ∀ q, q ∈ okP js ap c → q ≠ [] := by
  intro q h e
  have:=(okP_spec h).1
  rw [e] at this
  simp at this
  omega
theorem okP_ok {js : List Jb} {ap : List Ap} {c : Int} : okB js (pick js [] (okP js ap c)) := pick_ok _ _ (Or.inl rfl) (fun _ h => okP_spec h)
theorem Best_ev {js : List Jb} {ap : List Ap} {c : Int} (hs : ∀ n, n < js.length → (jb js n).f0.size ≤ 9223372036854775806) :
    Evt (fun k => upkeep_Best.f k js ap c) (if upErr js ap c ≠ 0 then ([], 0, upErr js ap c) else if js.length = 0 then ([], 0, 0) else if okP js ap c = [] then ([], 0, 8) else (pick js [] (okP js ap c), cs js (pick js [] (okP js ap c)) js.length, 0)):=by
  simp only [upkeep_Best.f]
  refine Evt.bind (Check_ev js ap c hs) ?_
  by_cases h : upErr js ap c = 0
  · have hu:=upErr_ok h
    have hj:=hu.hj
    rw [if_neg (by omega)]
    refine Evt.ite_pos h ?_
    by_cases hn : js.length = 0
    · rw [if_pos hn]
      exact Evt.ite_pos (by omega) (Evt.pure _)
    · rw [if_neg hn]
      refine Evt.ite_neg (by omega) ?_
      have se:=search_ev hu (by omega) js.length [] [] (inR_nil js) (by simp) (Or.inl rfl)
      rw [exts_eq js.length [] (inR_nil js) (by simp) (fun k hk => absurd hk (Nat.not_lt_zero _))] at se
      refine Evt.bind (a:=pick js [] (okP js ap c)) se ?_
      have pn:=pick_nil (js:=js) (okP_ne (js:=js) (ap:=ap) (c:=c) (by omega))
      by_cases e : okP js ap c = []
      · rw [if_pos e]
        exact Evt.ite_pos (by rw [pn.2 e]; rfl) (Evt.pure _)
      · rw [if_neg e]
        have ne : pick js [] (okP js ap c) ≠ []:=fun x => e (pn.1 x)
        rcases okP_ok (js:=js) (ap:=ap) (c:=c) with o|⟨o1, o2⟩
        · exact absurd o ne
        · have b:=costR hu o2
          rw [o1] at b
          exact Evt.ite_neg (by omega) (Evt.bind b (Evt.pure _))
  · rw [if_pos h]
    exact Evt.ite_neg h (Evt.pure _)
end Go.Proofs.Ytielinaielicbaa.DUpkeepBest
