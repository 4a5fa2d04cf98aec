import Derived.Test.YtdphghdjljplpaaDTopHours
import Derived.Test.YtdphghdjljplpaaHTopHoursy12
namespace Go.Proofs.Ytdphghdjljplpaa.ETopHours
open Go.RowKit Go.Proofs.YtdphghdjljplpaaW.PrintWords Go.Proofs.YtdphghdjljplpaaW.PrintMore Go.Proofs.Ytdphghdjljplpaa.Evs Go.Proofs.Ytdphghdjljplpaa.PTopHours Go.Proofs.Ytdphghdjljplpaa.BTopHours Go.Proofs.Ytdphghdjljplpaa.CTopHours Go.Proofs.Ytdphghdjljplpaa.DTopHours Go.Proofs.Ytdphghdjljplpaa.ZTopHours Go.Proofs.Ytdphghdjljplpaa.XTopHours
set_option linter.unusedVariables false
set_option linter.unusedSectionVars false
set_option linter.unusedSimpArgs false
theorem hCheck_ev (l : List Int) : ∃ e : Int, Evt (fun k => hours_Check.f k l) e ∧ (e = 0 → l.length ≤ 24) := by
  simp only [hours_Check.f]
  by_cases c : l.length > 24
  · exact ⟨2, Evt.ite_pos (by omega) (Evt.pure _), fun h => by omega⟩
  · have loop : ∀ n, n ≤ l.length → ∃ e : Int, Evt (fun k => hours_Check.l0 k l (l.length : Int) (n : Int)) e:=by
      refine down ?_ ?_
      · refine ⟨0, Evt.succ ?_⟩
        simp only [hours_Check.l0]
        exact Evt.ite_neg (by omega) (Evt.pure _)
      · rintro n hn ⟨e, ih⟩
        by_cases c1 : rd l (n : Int) < -100000
        · refine ⟨4, Evt.succ ?_⟩
          simp only [hours_Check.l0]
          exact Evt.ite_pos (by omega) (Evt.ite_pos (by omega) (Evt.ite_pos (by omega) (Evt.ite_pos c1 (Evt.pure _))))
        · by_cases c2 : rd l (n : Int) > 100000
          · refine ⟨4, Evt.succ ?_⟩
            simp only [hours_Check.l0]
            exact Evt.ite_pos (by omega) (Evt.ite_pos (by omega) (Evt.ite_pos (by omega) (Evt.ite_neg c1 (Evt.ite_pos c2 (Evt.pure _)))))
          · refine ⟨e, Evt.succ ?_⟩
            simp only [hours_Check.l0]
            rw [wrap64_nat (n:=n) (by omega)]
            exact Evt.ite_pos (by omega) (Evt.ite_pos (by omega) (Evt.ite_pos (by omega) (Evt.ite_neg c1 (Evt.ite_neg c2 ih))))
    obtain ⟨e, h⟩:=loop 0 (by omega)
    exact ⟨e, Evt.ite_neg (by omega) h, fun _ => by omega⟩
theorem Errors_ev (f a : List Int) : ∃ out : Int × Int × Int × Int, Evt (fun k => hours_Errors.f k f a) out ∧ (out.2.2.2 = 0 → f.length ≤ 24 ∧ a.length = f.length) := by
  obtain ⟨e1, h1, k1⟩:=hCheck_ev f
  obtain ⟨e2, h2, k2⟩:=hCheck_ev a
  simp only [hours_Errors.f]
  by_cases c1 : e1 = 0
  · by_cases c2 : e2 = 0
    · by_cases c3 : (f.length : Int) = (a.length : Int)
      · have loop : ∀ n, n ≤ a.length → ∀ x y z : Int, ∃ out : Int × Int × Int × Int, Evt (fun k => hours_Errors.l0 k f x y z a (a.length : Int) (n : Int)) out:=by
          refine down ?_ ?_
          · intro x y z
            refine ⟨(x, y, z, 0), Evt.succ ?_⟩
            simp only [hours_Errors.l0]
            exact Evt.ite_neg (by omega) (Evt.pure _)
          · intro n hn ih x y z
            have:=k1 c1
            obtain ⟨out, h⟩:=ih (mx (mx x (wrap64 ((rd a (n : Int)) - (rd f (n : Int))))) (wrap64 (-(wrap64 ((rd a (n : Int)) - (rd f (n : Int))))))) (wrap64 (y + (wrap64 ((rd a (n : Int)) - (rd f (n : Int)))))) (wrap64 (z + (wrap64 ((wrap64 ((rd a (n : Int)) - (rd f (n : Int)))) * (wrap64 ((rd a (n : Int)) - (rd f (n : Int))))))))
            refine ⟨out, Evt.succ ?_⟩
            simp only [hours_Errors.l0]
            rw [wrap64_nat (n:=n) (by omega)]
            exact Evt.ite_pos (by omega) (Evt.ite_pos (by omega) (Evt.ite_pos (by omega) (Evt.ite_pos (by omega) h)))
        obtain ⟨out, h⟩:=loop 0 (by omega) 0 0 0
        exact ⟨out, Evt.bind h1 (Evt.ite_pos c1 (Evt.bind h2 (Evt.ite_pos c2 (Evt.ite_pos c3 h)))), fun _ => ⟨k1 c1, by omega⟩⟩
      · exact ⟨(0, 0, 0, 3), Evt.bind h1 (Evt.ite_pos c1 (Evt.bind h2 (Evt.ite_pos c2 (Evt.ite_neg c3 (Evt.pure _))))), fun h => by simp at h⟩
    · exact ⟨(0, 0, 0, e2), Evt.bind h1 (Evt.ite_pos c1 (Evt.bind h2 (Evt.ite_neg c2 (Evt.pure _)))), fun h => absurd h c2⟩
  · exact ⟨(0, 0, 0, e1), Evt.bind h1 (Evt.ite_neg c1 (Evt.pure _)), fun h => absurd h c1⟩
theorem bFine_ev (a b : Int) : Evt (fun k => gridhalltop_bFine.f k [a, b]) (decide (a = 0 ∧ b = 0)) := by
  have L : (([a, b] : List Int).length : Int) = 2:=rfl
  have r0 : rd [a, b] 0 = a:=rfl
  have r1 : rd [a, b] 1 = b:=rfl
  have w1 : wrap64 (0 + 1) = 1:=wrap64_of (by omega) (by omega)
  have w2 : wrap64 (1 + 1) = 2:=wrap64_of (by omega) (by omega)
  have idx : Evt (fun k => slices_IndexFunc_of_bFine_1.l0 k [a, b] 2 0) (if a = 0 then (if b = 0 then -1 else 1) else 0):=by
    refine Evt.succ ?_
    simp only [slices_IndexFunc_of_bFine_1.l0, L, gridhalltop_bFine_1.f, r0, w1, Option.bind_some]
    refine Evt.ite_pos (by decide) (Evt.ite_pos (by decide) (Evt.ite_pos (by decide) ?_))
    by_cases c : a = 0
    · rw [if_pos c]
      refine Evt.ite_neg (by simp [c]) (Evt.succ ?_)
      simp only [slices_IndexFunc_of_bFine_1.l0, L, gridhalltop_bFine_1.f, r1, w2, Option.bind_some]
      refine Evt.ite_pos (by decide) (Evt.ite_pos (by decide) (Evt.ite_pos (by decide) ?_))
      by_cases c2 : b = 0
      · rw [if_pos c2]
        refine Evt.ite_neg (by simp [c2]) (Evt.succ ?_)
        simp only [slices_IndexFunc_of_bFine_1.l0]
        exact Evt.ite_neg (by decide) (Evt.pure _)
      · rw [if_neg c2]
        exact Evt.ite_pos (by simp [c2]) (Evt.pure _)
    · rw [if_neg c]
      exact Evt.ite_pos (by simp [c]) (Evt.pure _)
  simp only [gridhalltop_bFine.f, slices_ContainsFunc_of_bFine_1.f, slices_IndexFunc_of_bFine_1.f, L]
  refine Evt.bind (Evt.bind idx (Evt.pure _)) (Evt.of_eq ?_)
  by_cases c : a = 0
  · by_cases c2 : b = 0
    · simp [c, c2]
    · simp [c, c2]
  · simp [c]
theorem fD_sum {l : List Of} {D : Int} (h : chkR l D = 0) : sm (fD l D) l.length = D := by
  obtain ⟨hv, _, h0, h1⟩:=chkR_ok h
  by_cases c : D = 0
  · have : sm (fD l D) l.length = sm (fun _ => (0 : Int)) l.length:=sm_congr _ (fun i _ => by unfold fD; rw [if_pos c])
    rw [this, c]
    have : ∀ n, sm (fun _ => (0 : Int)) n = 0:=by
      intro n
      induction n with
     |zero => rfl
     |succ n ih => simp only [sm]; omega
    exact this _
  · obtain ⟨_, g1, g2⟩:=mg_spec hv D (by omega) h1
    have e : sm (fD l D) l.length = sm (al l (mg l D) (D - OL l (mg l D))) l.length:=sm_congr _ (fun i _ => by unfold fD; rw [if_neg c])
    rw [e, sm_al hv _ _ (by omega) _ (Nat.le_refl _), sm_cM]
    have e1 : OL l (mg l D) = sm (NL l (mg l D)) l.length:=rfl
    have e2 : OM l (mg l D) = sm (NM l (mg l D)) l.length:=rfl
    rw [← e1, ← e2]
    unfold mn
    split <;> omega
theorem fD_best {l : List Of} {D : Int} (h : chkR l D = 0) {g : Nat → Int} (hg : ∀ i, i < l.length → 0 ≤ g i ∧ g i ≤ lastT l i) (hs : sm g l.length = D) : sm (cQ l (fD l D)) l.length ≤ sm (cQ l g) l.length := by
  obtain ⟨hv, _, h0, h1⟩:=chkR_ok h
  have fs:=fD_sum h
  have fb:=fD_bd hv D
  by_cases c : D = 0
  · have z : ∀ i, i < l.length → (fun _ => (0 : Int)) i = g i:=sm_eq_of l.length (fun i hi => (hg i hi).1) (by
      rw [hs, c]
      have : ∀ n, sm (fun _ => (0 : Int)) n = 0:=by
        intro n
        induction n with
       |zero => rfl
       |succ n ih => simp only [sm]; omega
      exact this _)
    refine Int.le_of_eq (sm_congr _ (fun i hi => ?_))
    unfold cQ fD
    rw [if_pos c, ← z i hi]
  · have bx : Bx l (fun _ => 0) (lastT l):=⟨fun i hi => Int.le_refl _, fun i hi => (lastT_bd hv i hi).1, fun i hi => Int.le_refl _⟩
    have key:=hcost_le hv bx (m:=mg l D) (f:=fD l D) (g:=g) fb hg (fun i hi => ?_) (fun i hi => ?_) l.length (Nat.le_refl _)
    · rw [hs, fs, Int.sub_self, Int.mul_zero] at key
      omega
    · have:=(al_bd hv (mg l D) (D - OL l (mg l D)) i hi).1
      unfold fD
      rw [if_neg c]
      unfold NL at this
      unfold mn
      split <;> omega
    · have:=(al_bd hv (mg l D) (D - OL l (mg l D)) i hi).2
      unfold fD
      rw [if_neg c]
      unfold NM at this
      unfold mx
      split <;> omega
theorem th_l0 (l : List Of) (f a : List Int) (hl : f.length ≤ 24) (hla : a.length = f.length) : ∀ n, n ≤ f.length → Evt (fun k => gridhalltop_TopHours.l0 k l a f (f.length : Int) (n : Int)) true := by
  refine down ?_ ?_
  · refine Evt.succ ?_
    simp only [gridhalltop_TopHours.l0]
    exact Evt.ite_neg (by omega) (Evt.pure _)
  · intro n hn ih
    refine Evt.succ ?_
    simp only [gridhalltop_TopHours.l0, rdp]
    rw [wrap64_nat (n:=n) (by omega)]
    refine Evt.ite_pos (by omega) (Evt.ite_pos (by omega) (Evt.ite_pos (by omega) (Evt.bind (Best_ev l (pn f n)) (Evt.ite_pos (by omega) (Evt.bind (Best_ev l (pn a n)) (Evt.bind (bFine_ev _ _) ?_))))))
    have b2 : ∀ D, (bestR l D).2.2 = chkR l D:=fun D => by
      unfold bestR
      by_cases c : chkR l D = 0
      · rw [if_pos c, c]
      · rw [if_neg c]
    rw [b2, b2]
    by_cases c : chkR l (pn f n) = 0 ∧ chkR l (pn a n) = 0
    · refine Evt.ite_pos (decide_eq_true c) ?_
      obtain ⟨c1, c2⟩:=c
      have e1 : bestR l (pn f n) = (tab (fD l (pn f n)) l.length, sm (cF l (fD l (pn f n))) l.length, 0):=by unfold bestR; rw [if_pos c1]
      have e2 : bestR l (pn a n) = (tab (fD l (pn a n)) l.length, sm (cF l (fD l (pn a n))) l.length, 0):=by unfold bestR; rw [if_pos c2]
      obtain ⟨hv, ho, d0, d1⟩:=chkR_ok c1
      obtain ⟨_, _, a0, a1⟩:=chkR_ok c2
      have sT:=sumT_bd hv l.length (Nat.le_refl _)
      have hvl:=hv.len
      have fb:=fD_bd hv (pn f n)
      have pp : ∀ i, i < l.length → pn (tab (fD l (pn f n)) l.length) i = fD l (pn f n) i:=fun i hi => tab_pn _ hi
      have st : sumT l = sm (lastT l) l.length:=rfl
      obtain ⟨out, o1, _, o3⟩:=Change_ev l (tab (fD l (pn f n)) l.length) (pn a n) 100000
      have ce : chErr l (tab (fD l (pn f n)) l.length) (pn a n) 100000 = 0:=by
        unfold chErr
        rw [if_pos ho, if_pos (tab_len _ _)]
        have : ∀ d m, m + d = l.length → plStep l (tab (fD l (pn f n)) l.length) (pn a n) 100000 d m = 0:=by
          intro d
          induction d with
         |zero =>
            intro m _
            simp only [plStep]
            rw [if_pos (by omega)]
         |succ d ihd =>
            intro m hm
            simp only [plStep]
            rw [pp m (by omega), if_pos (fb m (by omega))]
            exact ihd (m + 1) (by omega)
        exact this _ _ (by omega)
      have lo0 : ∀ i, i < l.length → loH (tab (fD l (pn f n)) l.length) 100000 i = 0:=fun i hi => by
        have:=fb i hi
        have:=(lastT_bd hv i hi).2
        unfold loH
        rw [pp i hi]
        exact mx_ge (by omega)
      have hi0 : ∀ i, i < l.length → hiH l (tab (fD l (pn f n)) l.length) 100000 i = lastT l i:=fun i hi => by
        have:=fb i hi
        have:=(lastT_bd hv i hi).2
        unfold hiH
        rw [pp i hi]
        exact mn_le (by omega)
      have zs : ∀ m, sm (fun _ => (0 : Int)) m = 0:=by
        intro m
        induction m with
       |zero => rfl
       |succ m ih => simp only [sm]; omega
      rw [e1]
      rcases o3 ce with ⟨_, bad⟩|⟨g, g1, g2, g3, o3⟩
      · rw [sm_congr l.length (g:=fun _ => 0) lo0, zs, sm_congr l.length hi0] at bad
        omega
      · have gb : ∀ i, i < l.length → 0 ≤ g i ∧ g i ≤ lastT l i:=fun i hi => by
          have:=g1 i hi
          rw [lo0 i hi, hi0 i hi] at this
          exact this
        have x1:=fD_best c2 gb g2
        have x2:=g3 (fD l (pn a n)) (fun i hi => by rw [lo0 i hi, hi0 i hi]; exact fD_bd hv _ i hi) (fD_sum c2)
        have P:=chErr_ok ce
        have q1:=cQ_bd P (fD l (pn a n)) l.length (Nat.le_refl _)
        have cp : sm (cQ l (pn (tab (fD l (pn f n)) l.length))) l.length = sm (cF l (fD l (pn f n))) l.length:=sm_congr _ (fun i hi => by unfold cQ cF; rw [pp i hi])
        have cf : sm (cF l (fD l (pn a n))) l.length = sm (cQ l (fD l (pn a n))) l.length:=rfl
        refine Evt.bind o1 ?_
        rw [o3, e2]
        simp only []
        rw [cp, cf, show sm (cF l (fD l (pn f n))) l.length + (sm (cQ l g) l.length - sm (cF l (fD l (pn f n))) l.length) = sm (cQ l (fD l (pn a n))) l.length by omega, wrap64_of (by omega) (by omega)]
        exact Evt.ite_pos (by simp) (Evt.ite_pos (by simp) ih)
    · exact Evt.ite_neg (by simpa using c) ih
theorem th_j0 (l : List Of) (f a : List Int) (hA : Evt (fun k => dispatch_Best.f k [⟨⟨#[65]⟩, [⟨10, 5⟩, ⟨10, 8⟩]⟩] 12) ([12], 66, 0)) (hE : Evt (fun k => hours_Errors.f k [5] [7]) (2, 2, 4, 0)) (b : Bool) (hb : b = false) : Evt (fun k => gridhalltop_TopHours.j0 k l f a b) true := by
  obtain ⟨out, o1, o2⟩:=Errors_ev f a
  refine Evt.succ ?_
  simp only [gridhalltop_TopHours.j0, gridhalltop_bTwo.f, Option.bind_some]
  refine Evt.ite_neg (by rw [hb]; decide) (Evt.bind hA (Evt.ite_pos rfl (Evt.succ ?_)))
  simp only [gridhalltop_TopHours.j1]
  refine Evt.ite_neg (by decide) (Evt.bind hE (Evt.ite_pos rfl (Evt.succ ?_)))
  simp only [gridhalltop_TopHours.j2]
  refine Evt.ite_neg (by decide) (Evt.bind o1 ?_)
  by_cases c : out.2.2.2 = 0
  · obtain ⟨k1, k2⟩:=o2 c
    exact Evt.ite_pos c (th_l0 l f a k1 k2 0 (by omega))
  · exact Evt.ite_neg c (Evt.pure _)
end Go.Proofs.Ytdphghdjljplpaa.ETopHours
