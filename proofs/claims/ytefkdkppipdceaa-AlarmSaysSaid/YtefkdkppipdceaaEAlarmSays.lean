import Derived.Test.YtefkdkppipdceaaDAlarmSays
import Derived.Test.YtefkdkppipdceaaHAlarmSaysy11
import Derived.Test.YtefkdkppipdceaaHAlarmSaysy12
namespace Go.Proofs.Ytefkdkppipdceaa.EAlarmSays
open Go.RowKit Go.Proofs.YtefkdkppipdceaaW.PrintWords Go.Proofs.YtefkdkppipdceaaW.PrintMore Go.Proofs.Ytefkdkppipdceaa.Evs Go.Proofs.Ytefkdkppipdceaa.PAlarmSays Go.Proofs.Ytefkdkppipdceaa.BAlarmSays Go.Proofs.Ytefkdkppipdceaa.CAlarmSays Go.Proofs.Ytefkdkppipdceaa.DAlarmSays
set_option linter.unusedVariables false
set_option linter.unusedSectionVars false
set_option linter.unusedSimpArgs false
noncomputable def ix (l : List ByteArray) (s : ByteArray) : Nat := (pos l s l.length 0).toNat
theorem ix_nm {l : List ByteArray} (hd : Dist l) {i : Nat} (hi : i < l.length) : ix l (nm l i) = i := by
  unfold ix
  rw [pos_nm hd hi rfl]
  omega
noncomputable def czB (c : List Ca) (l : List ByteArray) (s : ByteArray) : Bool := @decide (Cz c l (ix l s)) (Classical.propDecidable _)
noncomputable def exB (c : List Ca) (l : List ByteArray) (k : Nat) (s : ByteArray) : Bool := @decide (Ex c l k (ix l s)) (Classical.propDecidable _)
theorem czB_iff (c : List Ca) (l : List ByteArray) (s : ByteArray) : czB c l s = true ↔ Cz c l (ix l s) := @decide_eq_true_iff _ (Classical.propDecidable _)
theorem exB_iff (c : List Ca) (l : List ByteArray) (k : Nat) (s : ByteArray) : exB c l k s = true ↔ Ex c l k (ix l s) := @decide_eq_true_iff _ (Classical.propDecidable _)
theorem mem_nm {l : List ByteArray} {s : ByteArray} (h : s ∈ l) : ∃ i, i < l.length ∧ s = nm l i := by
  obtain ⟨i, hi, e⟩:=List.mem_iff_getElem.1 h
  exact ⟨i, hi, by unfold nm; rw [List.getD_eq_getElem?_getD, List.getElem?_eq_getElem hi]; exact e.symm⟩
theorem first_ev {c : List Ca} {l : List ByteArray} (hl : l.length ≤ 400) (hd : Dist l) {M : List (List Bool)} (hM : Sz M l.length) (hx : ∀ i k, i < l.length → k < l.length → (mg M i k = true ↔ Ex c l i k)) {i : Nat} (hi : i < l.length) : ∃ v, Evt (fun k => alarm_first.f k M l (i : Int)) v ∧ (v = true ↔ Cz c l i) := by
  have hlen:=hM.len
  have hr:=hM.row i hi
  have loop : ∀ n, n ≤ l.length → ∃ v, Evt (fun k => alarm_first.l0 k M l (i : Int) (l.length : Int) (n : Int)) v ∧ (v = true ↔ ∀ k, n ≤ k → k < l.length → Ex c l i k → Ex c l k i ∧ ¬ tl (nm l k) (nm l i) = true):=by
    refine down ?_ ?_
    · refine ⟨true, Evt.succ ?_, fun _ k h1 h2 => by omega, fun _ => rfl⟩
      simp only [alarm_first.l0]
      exact Evt.ite_neg (by omega) (Evt.pure _)
    · intro n hn ⟨v, H, hv⟩
      have hr2:=hM.row n hn
      have top : ∀ r, Evt (fun k => if mg M i n = true then (if mg M n i = true then (if (Op.bytesLess (nm l n).toList (nm l i).toList) = true then (some false) else (alarm_first.l0 k M l (i : Int) (l.length : Int) ((n + 1 : Nat) : Int))) else (some false)) else (alarm_first.l0 k M l (i : Int) (l.length : Int) ((n + 1 : Nat) : Int))) r → Evt (fun k => alarm_first.l0 k M l (i : Int) (l.length : Int) (n : Int)) r:=by
        intro r H
        refine Evt.succ ?_
        simp only [alarm_first.l0, rmg, rnm]
        rw [rrow, rrow, hr, hr2, hlen, wrap64_nat (n:=n) (by omega)]
        refine Evt.ite_pos (by omega) (Evt.ite_pos (by omega) (Evt.ite_pos (by omega) (Evt.ite_pos (by omega) (Evt.ite_pos (by omega) ?_))))
        by_cases q1 : mg M i n = true
        · refine Evt.ite_pos q1 (Evt.ite_pos (by omega) (Evt.ite_pos (by omega) ?_))
          have H1:=H
          by_cases q2 : mg M n i = true
          · refine Evt.ite_pos q2 (Evt.ite_pos (by omega) (Evt.ite_pos (by omega) ?_))
            simpa only [if_pos q1, if_pos q2] using H1
          · refine Evt.ite_neg q2 ?_
            simpa only [if_pos q1, if_neg q2] using H1
        · refine Evt.ite_neg q1 ?_
          simpa only [if_neg q1] using H
      have no : (Ex c l i n ∧ ¬ (Ex c l n i ∧ ¬ tl (nm l n) (nm l i) = true)) → (false = true ↔ ∀ k, n ≤ k → k < l.length → Ex c l i k → Ex c l k i ∧ ¬ tl (nm l k) (nm l i) = true):=fun h => ⟨fun g => (by cases g), fun g => absurd (g n (Nat.le_refl _) hn h.1) h.2⟩
      have yes : (Ex c l i n → Ex c l n i ∧ ¬ tl (nm l n) (nm l i) = true) → (v = true ↔ ∀ k, n ≤ k → k < l.length → Ex c l i k → Ex c l k i ∧ ¬ tl (nm l k) (nm l i) = true):=by
        intro h
        rw [hv]
        constructor
        · intro g k h1 h2
          by_cases e : k = n
          · subst e; exact h
          · exact g k (by omega) h2
        · intro g k h1 h2
          exact g k (by omega) h2
      by_cases g1 : mg M i n = true
      · by_cases g2 : mg M n i = true
        · by_cases g3 : Op.bytesLess (nm l n).toList (nm l i).toList = true
          · exact ⟨false, top _ (Evt.ite_pos g1 (Evt.ite_pos g2 (Evt.ite_pos g3 (Evt.pure _)))), no ⟨(hx i n hi hn).1 g1, fun h => h.2 g3⟩⟩
          · exact ⟨v, top _ (Evt.ite_pos g1 (Evt.ite_pos g2 (Evt.ite_neg g3 H))), yes (fun _ => ⟨(hx n i hn hi).1 g2, g3⟩)⟩
        · exact ⟨false, top _ (Evt.ite_pos g1 (Evt.ite_neg g2 (Evt.pure _))), no ⟨(hx i n hi hn).1 g1, fun h => g2 ((hx n i hn hi).2 h.1)⟩⟩
      · exact ⟨v, top _ (Evt.ite_neg g1 H), yes (fun h => absurd ((hx i n hi hn).2 h) g1)⟩
  obtain ⟨v, H, hv⟩:=loop 0 (Nat.zero_le _)
  refine ⟨v, ?_, hv.trans ⟨fun g k h => g k (Nat.zero_le _) h, fun g k _ h => g k h⟩⟩
  simp only [alarm_first.f]
  exact H
theorem causes_l0 {c : List Ca} {l : List ByteArray} (hl : l.length ≤ 12) (hd : Dist l) {M : List (List Bool)} (hM : Sz M l.length) (hx : ∀ i k, i < l.length → k < l.length → (mg M i k = true ↔ Ex c l i k)) :
    ∀ n, n ≤ l.length → ∃ N, Srt tl N ∧ St tl (l.filter (czB c l)) N ∧ Evt (fun k => alarm_Causes.l0 k l M ((l.take n).filter (czB c l)) l (l.length : Int) (n : Int)) (N, 0):=by
  refine down ?_ ?_
  · rw [List.take_length]
    obtain ⟨N, s1, s2, H⟩:=sort_ev (l.filter (czB c l)) (Nat.le_trans (List.length_filter_le _ _) hl)
    refine ⟨N, s1, s2, Evt.succ ?_⟩
    simp only [alarm_Causes.l0]
    exact Evt.ite_neg (by omega) (Evt.bind H (Evt.pure _))
  · intro n hn ⟨N, s1, s2, H⟩
    refine ⟨N, s1, s2, Evt.succ ?_⟩
    simp only [alarm_Causes.l0, rnm]
    rw [wrap64_nat (by omega)]
    obtain ⟨v, V, hv⟩:=first_ev (by omega) hd hM hx hn
    have e : l.take (n + 1) = l.take n ++ [nm l n]:=getD_take_succ hn
    have ez : czB c l (nm l n) = true ↔ v = true:=by rw [czB_iff, ix_nm hd hn, hv]
    rw [e, List.filter_append, List.filter_cons, List.filter_nil] at H
    have ln:=List.length_filter_le (czB c l) (l.take n)
    rw [List.length_take] at ln
    refine Evt.ite_pos (by omega) (Evt.ite_pos (by omega) (Evt.ite_pos (by omega) (Evt.bind V ?_)))
    by_cases q : v = true
    · rw [if_pos (ez.2 q)] at H
      exact Evt.ite_pos q (Evt.ite_pos (by omega) H)
    · rw [if_neg (fun h => q (ez.1 h)), List.append_nil] at H
      exact Evt.ite_neg q H
structure Small (c : List Ca) (l : List ByteArray) : Prop where
  hc : c.length ≤ 8
  hl : l.length ≤ 5
  sc : ∀ n, n < c.length → (ca c n).f0.size ≤ 9223372036854775806 ∧ (ca c n).f1.size ≤ 9223372036854775806
  sl : ∀ n, n < l.length → (nm l n).size ≤ 9223372036854775806
theorem alErr_split {c : List Ca} {l : List ByteArray} (h : alErr c l = 0) : cErr c = 0 ∧ lErr l = 0 := by
  unfold alErr at h
  by_cases e : cErr c = 0
  · rw [if_pos e] at h; exact ⟨e, h⟩
  · rw [if_neg e] at h; exact absurd h e
theorem causes_ok {c : List Ca} {l : List ByteArray} (hs : Small c l) (h : alErr c l = 0) : ∃ N, Srt tl N ∧ St tl (l.filter (czB c l)) N ∧ Evt (fun k => alarm_Causes.f k c l) (N, 0) := by
  obtain ⟨h1, h2⟩:=alErr_split h
  have hd:=lErr_dist h2
  have hc:=hs.hc
  have hl:=hs.hl
  obtain ⟨M, m1, m2, m3⟩:=reach_ev (c:=c) (l:=l) (by omega) (by omega) hd
  obtain ⟨N, s1, s2, H⟩:=causes_l0 (c:=c) (by omega) hd m1 m2 0 (Nat.zero_le _)
  refine ⟨N, s1, s2, ?_⟩
  simp only [alarm_Causes.f]
  have C:=chk_ev (c:=c) hs.sc
  rw [h1] at C
  have A:=act_ev (l:=l) hs.sl
  rw [h2] at A
  exact Evt.bind C (Evt.ite_pos rfl (Evt.bind A (Evt.ite_pos rfl (Evt.bind m3 (by simpa using H)))))
theorem causes_err {c : List Ca} {l : List ByteArray} (hs : Small c l) (h : alErr c l ≠ 0) : Evt (fun k => alarm_Causes.f k c l) (([] : List ByteArray), alErr c l) := by
  simp only [alarm_Causes.f]
  by_cases h1 : cErr c = 0
  · have e : alErr c l = lErr l:=if_pos h1
    rw [e] at h ⊢
    exact Evt.bind (chk_ev hs.sc) (Evt.ite_pos h1 (Evt.bind (act_ev hs.sl) (Evt.ite_neg h (Evt.pure _))))
  · have e : alErr c l = cErr c:=if_neg h1
    rw [e]
    exact Evt.bind (chk_ev hs.sc) (Evt.ite_neg h1 (Evt.pure _))
theorem explain_l0 {c : List Ca} {l : List ByteArray} (hl : l.length ≤ 12) (hd : Dist l) {M : List (List Bool)} (hM : Sz M l.length) (hx : ∀ i k, i < l.length → k < l.length → (mg M i k = true ↔ Ex c l i k)) {k0 : Nat} (hk : k0 < l.length) (N : List ByteArray) (hN : ∀ s ∈ N, s ∈ l) (hNl : N.length ≤ 400) :
    ∀ n, n ≤ N.length → Evt (fun k => alarm_Explain.l0 k l (k0 : Int) M ((N.take n).filter (exB c l k0)) N (N.length : Int) (n : Int)) (N.filter (exB c l k0), 0):=by
  have hlen:=hM.len
  have hr:=hM.row k0 hk
  refine down ?_ ?_
  · rw [List.take_length]
    refine Evt.succ ?_
    simp only [alarm_Explain.l0]
    exact Evt.ite_neg (by omega) (Evt.pure _)
  · intro n hn H
    refine Evt.succ ?_
    simp only [alarm_Explain.l0, rnm]
    obtain ⟨i, hi, es⟩:=mem_nm (hN (nm N n) (by unfold nm; exact getD_mem hn))
    have ep : pos l (nm N n) l.length 0 = (i : Int):=pos_nm hd hi (by rw [es])
    have I:=idx_ev l (by omega) (nm N n)
    rw [ep] at I
    have e : N.take (n + 1) = N.take n ++ [nm N n]:=getD_take_succ hn
    have ei : ix l (nm N n) = i:=by rw [es]; exact ix_nm hd hi
    have ez : exB c l k0 (nm N n) = true ↔ mg M k0 i = true:=by rw [exB_iff, ei, hx k0 i hk hi]
    rw [e, List.filter_append, List.filter_cons, List.filter_nil] at H
    have ln:=List.length_filter_le (exB c l k0) (N.take n)
    rw [List.length_take] at ln
    rw [wrap64_nat (n:=n) (by omega)]
    refine Evt.ite_pos (by omega) (Evt.ite_pos (by omega) (Evt.ite_pos (by omega) (Evt.ite_pos (by omega) (Evt.ite_pos (by omega) (Evt.bind I ?_)))))
    rw [rmg, rrow, hr]
    refine Evt.ite_pos (by omega) (Evt.ite_pos (by omega) ?_)
    by_cases q : mg M k0 i = true
    · rw [if_pos (ez.2 q)] at H
      exact Evt.ite_pos q (Evt.ite_pos (by omega) H)
    · rw [if_neg (fun h => q (ez.1 h)), List.append_nil] at H
      exact Evt.ite_neg q H
theorem explain_ok {c : List Ca} {l : List ByteArray} (hs : Small c l) (h : alErr c l = 0) (s : ByteArray) {N : List ByteArray} (hN : St tl (l.filter (czB c l)) N) (hC : Evt (fun k => alarm_Causes.f k c l) (N, 0)) :
    (pos l s l.length 0 < 0 → Evt (fun k => alarm_Explain.f k c l s) (([] : List ByteArray), 8)) ∧ (∀ k0 : Nat, pos l s l.length 0 = (k0 : Int) → Evt (fun k => alarm_Explain.f k c l s) (N.filter (exB c l k0), 0)):=by
  obtain ⟨_, h2⟩:=alErr_split h
  have hd:=lErr_dist h2
  have hc:=hs.hc
  have hl:=hs.hl
  obtain ⟨M, m1, m2, m3⟩:=reach_ev (c:=c) (l:=l) (by omega) (by omega) hd
  have I:=idx_ev l (by omega) s
  refine ⟨fun g => ?_, fun k0 g => ?_⟩
  · simp only [alarm_Explain.f]
    exact Evt.bind hC (Evt.ite_pos rfl (Evt.bind I (Evt.ite_pos g (Evt.pure _))))
  · simp only [alarm_Explain.f]
    rw [g] at I
    have ln:=St.length tl_weak hN
    have ln2:=List.length_filter_le (czB c l) l
    have E:=explain_l0 (c:=c) (by omega) hd m1 m2 (pos_lt g).1 N (fun x hx => (List.mem_filter.1 ((St.mem tl_weak hN x).1 hx)).1) (by omega) 0 (Nat.zero_le _)
    exact Evt.bind hC (Evt.ite_pos rfl (Evt.bind I (Evt.ite_neg (by omega) (Evt.bind m3 (by simpa using E)))))
theorem explain_err {c : List Ca} {l : List ByteArray} (hs : Small c l) (h : alErr c l ≠ 0) (s : ByteArray) : Evt (fun k => alarm_Explain.f k c l s) (([] : List ByteArray), alErr c l) := by
  simp only [alarm_Explain.f]
  exact Evt.bind (causes_err hs h) (Evt.ite_neg h (Evt.pure _))
theorem St.filter {l r : List ByteArray} (h : St tl l r) (p : ByteArray → Bool) : St tl (l.filter p) (r.filter p) := by
  intro x
  rw [List.filter_filter, List.filter_filter]
  have e : ∀ m : List ByteArray, m.filter (fun a => eqv tl x a && p a) = (m.filter (eqv tl x)).filter p:=fun m => by
    rw [List.filter_filter]
    congr 1
    funext a
    exact Bool.and_comm _ _
  rw [e, e, h x]
theorem Srt.filter {l : List ByteArray} (h : Srt tl l) (p : ByteArray → Bool) : Srt tl (l.filter p) := List.Pairwise.sublist List.filter_sublist h
theorem strict_of {l r : List ByteArray} (hd : Dist l) (h : Srt tl r) (hs : St tl l r) : r.Pairwise (fun x y => tl x y = true) := by
  have ld : l.Pairwise (fun x y => x.toList ≠ y.toList):=by
    rw [List.pairwise_iff_getElem]
    intro i j hi hj hij e
    have a : nm l i = l[i]:=by unfold nm; rw [List.getD_eq_getElem?_getD, List.getElem?_eq_getElem hi]; rfl
    have b : nm l j = l[j]:=by unfold nm; rw [List.getD_eq_getElem?_getD, List.getElem?_eq_getElem hj]; rfl
    have:=hd i j hi hj (by rw [a, b]; exact e)
    omega
  refine List.pairwise_iff_forall_sublist.2 fun {x y} hxy => ?_
  have h1 : tl y x = false:=List.pairwise_iff_forall_sublist.1 h hxy
  rcases bl_tri x.toList y.toList with g|g|g
  · exact g
  · exfalso
    have f1:=hxy.filter (eqv tl x)
    have e1 : eqv tl x x = true:=by simp [eqv, tl_weak.irr]
    have h2 : tl x y = false:=by unfold tl; rw [g]; exact bl_irr _
    have e2 : eqv tl x y = true:=by simp [eqv, h1, h2]
    rw [hs x, List.filter_cons, if_pos e1, List.filter_cons, if_pos e2, List.filter_nil] at f1
    exact List.pairwise_iff_forall_sublist.1 ld (f1.trans List.filter_sublist) g
  · unfold tl at h1
    rw [h1] at g
    cases g
theorem same_l0 (F : List ByteArray) (hF : F.length ≤ 400) : ∀ n, n ≤ F.length → Evt (fun k => gridhallref4_Same_string.l0 k F F (F.length : Int) (n : Int)) true := by
  refine down ?_ ?_
  · refine Evt.succ ?_
    simp only [gridhallref4_Same_string.l0]
    exact Evt.ite_neg (by omega) (Evt.pure _)
  · intro n hn ih
    refine Evt.succ ?_
    simp only [gridhallref4_Same_string.l0]
    rw [wrap64_nat (by omega)]
    exact Evt.ite_pos (by omega) (Evt.ite_pos (by omega) (Evt.ite_pos (by omega) (Evt.ite_pos (by omega) (Evt.ite_pos trivial ih))))
theorem same_ev (F : List ByteArray) (hF : F.length ≤ 400) : Evt (fun k => gridhallref4_Same_string.f k F F) true := by
  simp only [gridhallref4_Same_string.f]
  exact Evt.ite_pos trivial (same_l0 F hF 0 (Nat.zero_le _))
theorem law_l0 {c : List Ca} {l : List ByteArray} (hs : Small c l) (hd : Dist l) (s : ByteArray) (R : List ByteArray) (hR : St tl l R) (b : Bool) (hb : b = decide (pos l s l.length 0 ≥ 0)) (W : List ByteArray) (we : Int)
    (hW : (pos l s l.length 0 < 0 → W = [] ∧ we = 8) ∧ (∀ k0 : Nat, pos l s l.length 0 = (k0 : Int) → W = R.filter (fun x => czB c l x && exB c l k0 x) ∧ we = 0)) :
    ∀ n, n ≤ R.length → ∀ A B : List ByteArray, A = (R.take n).filter (czB c l) → (∀ k0 : Nat, pos l s l.length 0 = (k0 : Int) → B = (R.take n).filter (fun x => czB c l x && exB c l k0 x)) → A.length ≤ n → B.length ≤ n →
      Evt (fun k => gridhalllaw4_AlarmSays.l0 k c l s (R.filter (czB c l)) 0 W we A B b R (R.length : Int) (n : Int)) true:=by
  have hc:=hs.hc
  have hl:=hs.hl
  have lr:=St.length tl_weak hR
  refine down ?_ ?_
  · intro A B hA hB la lb
    rw [List.take_length] at hA hB
    subst hA
    refine Evt.succ ?_
    simp only [gridhalllaw4_AlarmSays.l0]
    refine Evt.ite_neg (by omega) (Evt.ite_pos trivial (Evt.bind (same_ev _ (by omega)) (Evt.succ ?_)))
    simp only [gridhalllaw4_AlarmSays.j2]
    refine Evt.ite_neg (by simp) ?_
    by_cases q : b = true
    · rw [q] at hb
      have hp : pos l s l.length 0 ≥ 0:=of_decide_eq_true hb.symm
      obtain ⟨k0, hk⟩ : ∃ k0 : Nat, pos l s l.length 0 = (k0 : Int):=⟨(pos l s l.length 0).toNat, by omega⟩
      obtain ⟨w1, w2⟩:=hW.2 k0 hk
      rw [hB k0 hk, w1, w2]
      rw [hB k0 hk] at lb
      exact Evt.ite_pos q (Evt.ite_pos rfl (Evt.bind (same_ev _ (by omega)) (Evt.pure _)))
    · have hp : ¬ pos l s l.length 0 ≥ 0:=fun h => q (by rw [hb]; exact decide_eq_true h)
      obtain ⟨w1, w2⟩:=hW.1 (by omega)
      rw [w1, w2]
      exact Evt.ite_neg q (Evt.ite_pos rfl (Evt.of_eq rfl))
  · intro n hn ih A B hA hB la lb
    obtain ⟨i, hi, es⟩:=mem_nm ((St.mem tl_weak hR (nm R n)).1 (by unfold nm; exact getD_mem hn))
    have et : (nm R n).toList = (nm l i).toList:=by rw [es]
    have ei : ix l (nm R n) = i:=by rw [es]; exact ix_nm hd hi
    obtain ⟨v, V, hv⟩:=cause_ev (c:=c) (by omega) (by omega) hd hi et
    have ez : czB c l (nm R n) = true ↔ v = true:=by rw [czB_iff, ei, hv]
    have e : R.take (n + 1) = R.take n ++ [nm R n]:=getD_take_succ hn
    refine Evt.succ ?_
    simp only [gridhalllaw4_AlarmSays.l0, rnm]
    rw [wrap64_nat (n:=n) (by omega)]
    refine Evt.ite_pos (by omega) (Evt.ite_pos (by omega) (Evt.ite_pos (by omega) (Evt.bind V ?_)))
    by_cases q : v = true
    · have cz:=ez.2 q
      have hA' : A ++ [nm R n] = (R.take (n + 1)).filter (czB c l):=by rw [e, List.filter_append, List.filter_cons, if_pos cz, List.filter_nil, hA]
      refine Evt.ite_pos q (Evt.ite_pos (by omega) (Evt.bindo rfl ?_))
      by_cases qb : b = true
      · rw [qb] at hb
        have hp : pos l s l.length 0 ≥ 0:=of_decide_eq_true hb.symm
        obtain ⟨k0, hk⟩ : ∃ k0 : Nat, pos l s l.length 0 = (k0 : Int):=⟨(pos l s l.length 0).toNat, by omega⟩
        obtain ⟨k1, k2⟩:=pos_lt hk
        obtain ⟨u, U, hu⟩:=ex_ev (c:=c) (by omega) (by omega) hd k1 k2 hi et
        have eu : exB c l k0 (nm R n) = true ↔ u = true:=by rw [exB_iff, ei, hu]
        refine Evt.ite_pos qb (Evt.bind U ?_)
        by_cases g : u = true
        · refine Evt.ite_pos g (Evt.ite_pos (by omega) (ih _ _ hA' (fun k hk' => ?_) (by simp; omega) (by simp; omega)))
          obtain rfl : k = k0:=by omega
          rw [e, List.filter_append, List.filter_cons, if_pos (by rw [cz, eu.2 g]; rfl), List.filter_nil, hB k hk]
        · refine Evt.ite_neg g (ih _ _ hA' (fun k hk' => ?_) (by simp; omega) (by omega))
          obtain rfl : k = k0:=by omega
          rw [e, List.filter_append, List.filter_cons, if_neg (fun h => by
            rw [cz, Bool.true_and] at h
            exact g (eu.1 h)), List.filter_nil, List.append_nil, hB k hk]
      · have hp : ¬ pos l s l.length 0 ≥ 0:=fun h => qb (by rw [hb]; exact decide_eq_true h)
        exact Evt.ite_neg qb (ih _ _ hA' (fun k hk' => by omega) (by simp; omega) (by omega))
    · have cz : ¬ czB c l (nm R n) = true:=fun h => q (ez.1 h)
      refine Evt.ite_neg q (ih _ _ (by rw [e, List.filter_append, List.filter_cons, if_neg cz, List.filter_nil, List.append_nil, hA]) (fun k hk => ?_) (by omega) (by omega))
      rw [e, List.filter_append, List.filter_cons, if_neg (fun h => by
        rw [Bool.and_eq_true] at h
        exact cz h.1), List.filter_nil, List.append_nil, hB k hk]
theorem law_j0 (c : List Ca) (l : List ByteArray) (s : ByteArray) (sc : ∀ n, n < c.length → (ca c n).f0.size ≤ 9223372036854775806 ∧ (ca c n).f1.size ≤ 9223372036854775806) (sl : ∀ n, n < l.length → (nm l n).size ≤ 9223372036854775806) (hcl : c.length ≤ 9000000000000000) (hll : l.length ≤ 9000000000000000) :
    Evt (fun k => gridhalllaw4_AlarmSays.j0 k c l s false) true:=by
  refine Evt.succ ?_
  simp only [gridhalllaw4_AlarmSays.j0]
  rw [mn_eq, mn_eq]
  generalize hc' : c.take (min (c.length : Int) 8).toNat = c'
  generalize hl' : l.take (min (l.length : Int) 5).toNat = l'
  have hs : Small c' l':=by
    refine ⟨by rw [← hc', List.length_take]; omega, by rw [← hl', List.length_take]; omega, fun n hn => ?_, fun n hn => ?_⟩
    · rw [← hc'] at hn ⊢
      rw [List.length_take] at hn
      rw [ca_take c (by omega)]
      exact sc n (by omega)
    · rw [← hl'] at hn ⊢
      rw [List.length_take] at hn
      rw [nm_take l (by omega)]
      exact sl n (by omega)
  refine Evt.ite_neg (by simp) (Evt.ite_pos (by omega) (Evt.ite_pos (by omega) (Evt.bindo rfl (Evt.ite_pos (by omega) (Evt.ite_pos (by omega) ?_)))))
  have h5:=hs.hl
  by_cases h : alErr c' l' = 0
  · obtain ⟨_, h2⟩:=alErr_split h
    have hd:=lErr_dist h2
    obtain ⟨N, s1, s2, hC⟩:=causes_ok hs h
    obtain ⟨R, r1, r2, hR⟩:=sorted_ev l' (by omega)
    obtain ⟨x1, x2⟩:=explain_ok hs h s s2 hC
    have st:=strict_of hd r1 r2
    have eN : N = R.filter (czB c' l'):=by
      refine Srt.uniq tl_weak _ _ (List.Pairwise.sublist List.filter_sublist st) s1 ?_
      exact (St.filter r2 (czB c' l')).symm.trans s2
    have rest : ∀ W we, Evt (fun k => alarm_Explain.f k c' l' s) (W, we) → ((pos l' s l'.length 0 < 0 → W = [] ∧ we = 8) ∧ (∀ k0 : Nat, pos l' s l'.length 0 = (k0 : Int) → W = R.filter (fun x => czB c' l' x && exB c' l' k0 x) ∧ we = 0)) →
        Evt (fun k => (alarm_Causes.f k c' l').bind fun bt259 => ((alarm_Explain.f k c' l' s).bind fun bt263 => ((gridhallref4_AlarmError.f k c' l').bind fun t267 => (if t267 = 0 then ((gridhallref4_Index.f k l' s).bind fun t268 => ((gridhallref4_Sorted.f k l').bind fun t269 => (gridhalllaw4_AlarmSays.l0 k c' l' s bt259.1 bt259.2 bt263.1 bt263.2 ([] : List ByteArray) ([] : List ByteArray) (decide (t268 ≥ 0)) t269 (t269.length : Int) 0))) else (if bt259.2 = t267 then (if bt263.2 = t267 then (some ((wrap64 ((bt259.1.length : Int) + (bt263.1.length : Int))) == 0)) else (some false)) else (some false)))))) true:=by
      intro W we hE hW
      refine Evt.bind hC (Evt.bind hE (Evt.bind rer_ev (Evt.ite_pos h (Evt.bind (rix_ev l' (by omega) s) (Evt.bind hR ?_)))))
      rw [eN]
      exact law_l0 hs hd s R r2 _ rfl W we hW 0 (Nat.zero_le _) [] [] (by simp) (fun k _ => by simp) (by simp) (by simp)
    rcases pos_spec l' s l'.length 0 with ⟨p1, _⟩|⟨k0, _, _, p3, _⟩
    · exact rest _ _ (x1 (by omega)) ⟨fun _ => ⟨rfl, rfl⟩, fun k hk => by omega⟩
    · refine rest _ _ (x2 k0 p3) ⟨fun g => by omega, fun k hk => ⟨?_, rfl⟩⟩
      obtain rfl : k = k0:=by omega
      rw [eN, List.filter_filter]
      congr 1
      funext a
      exact Bool.and_comm _ _
  · refine Evt.bind (causes_err hs h) (Evt.bind (explain_err hs h s) (Evt.bind rer_ev (Evt.ite_neg h (Evt.ite_pos rfl (Evt.ite_pos rfl (Evt.of_eq ?_))))))
    rw [wrap64_of (by simp) (by simp)]
    simp
theorem Evt.of_mono {α : Type} {g : Nat → Option α} (hm : ∀ k r, g k = some r → g (k + 1) = some r) {K : Nat} {r : α} (h : g K = some r) : Evt g r := by
  refine ⟨K, fun k hk => ?_⟩
  obtain ⟨d, rfl⟩ : ∃ d, k = K + d:=⟨k - K, by omega⟩
  induction d with
 |zero => exact h
 |succ d ih => exact hm _ _ (ih (by omega))
def exC : List Ca := [(⟨(⟨#[66]⟩ : ByteArray), (⟨#[65]⟩ : ByteArray)⟩ : Ca), (⟨(⟨#[67]⟩ : ByteArray), (⟨#[66]⟩ : ByteArray)⟩ : Ca)]
def exL : List ByteArray := [(⟨#[67]⟩ : ByteArray), (⟨#[65]⟩ : ByteArray), (⟨#[66]⟩ : ByteArray)]
theorem ex_causes : Evt (fun k => alarm_Causes.f k exC exL) ([(⟨#[65]⟩ : ByteArray)], 0) := Evt.of_mono (fun k r h => alarm_Causes.mono _ _ k r h) (K := 60) (by decide +kernel)
theorem ex_equal : Evt (fun k => slices_Equal_string_string.f k [(⟨#[65]⟩ : ByteArray)] [(⟨#[65]⟩ : ByteArray)]) true := Evt.of_mono (fun k r h => slices_Equal_string_string.mono _ _ k r h) (K := 10) (by decide +kernel)
theorem law_f (c : List Ca) (l : List ByteArray) (s : ByteArray) (sc : ∀ n, n < c.length → (ca c n).f0.size ≤ 9223372036854775806 ∧ (ca c n).f1.size ≤ 9223372036854775806) (sl : ∀ n, n < l.length → (nm l n).size ≤ 9223372036854775806) (hcl : c.length ≤ 9000000000000000) (hll : l.length ≤ 9000000000000000) :
    Evt (fun k => gridhalllaw4_AlarmSays.f k c l s) true:=by
  simp only [gridhalllaw4_AlarmSays.f]
  exact Evt.bind ex_causes (Evt.ite_pos rfl (Evt.bind ex_equal (law_j0 c l s sc sl hcl hll)))
end Go.Proofs.Ytefkdkppipdceaa.EAlarmSays
