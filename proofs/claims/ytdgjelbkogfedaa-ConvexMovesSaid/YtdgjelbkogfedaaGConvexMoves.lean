import Derived.Test.YtdgjelbkogfedaaEConvexMoves
import Derived.Test.YtdgjelbkogfedaaHConvexMovesy10
namespace Go.Proofs.Ytdgjelbkogfedaa.GConvexMoves
open Go.RowKit Go.Proofs.YtdgjelbkogfedaaW.PrintWords Go.Proofs.YtdgjelbkogfedaaW.PrintMore Go.Proofs.Ytdgjelbkogfedaa.Evs Go.Proofs.Ytdgjelbkogfedaa.PConvexMoves Go.Proofs.Ytdgjelbkogfedaa.CConvexMoves Go.Proofs.Ytdgjelbkogfedaa.DConvexMoves Go.Proofs.Ytdgjelbkogfedaa.ZConvexMoves Go.Proofs.Ytdgjelbkogfedaa.XConvexMoves Go.Proofs.Ytdgjelbkogfedaa.EConvexMoves
set_option linter.unusedVariables false
set_option linter.unusedSimpArgs false
theorem value_ev {a v : Int} {l : List Pc} (h : Cv a v l) {x : Int} (hx : a ≤ x) (hx2 : x ≤ 1000000) : Evt (fun k => convexpl_value.f k a v l x) (fv a v l x l.length) := by
  simp only [convexpl_value.f]
  have:=value_l0 h x hx hx2 0 (by omega)
  simp only [xs, fv] at this
  rw [mn_le (by omega)] at this
  exact this
theorem Restrict_ev {a v : Int} {l : List Pc} (h : Cv a v l) (x y : Int) : ∃ R : Int × Int × List Pc × Int, Evt (fun k => convexpl_Restrict.f k a v l x y) R ∧
    (if mx x a > mn y (xs a l l.length) then R.2.2.2 = 8 else ∃ r, R = (mx x a, fv a v l (mx x a) l.length, r, 0) ∧ Sub a v l (mx x a) r ∧ Cv (mx x a) (fv a v l (mx x a) l.length) r ∧ xs (mx x a) r r.length = mn y (xs a l l.length)):=by
  have e0 : cvErr a v l = 0:=Cv_err h
  have hb:=(h.pre l.length (Nat.le_refl _)).1
  have hchk:=CCheck_ev a v l
  rw [e0] at hchk
  simp only [convexpl_Restrict.f]
  by_cases c : mx x a > mn y (xs a l l.length)
  · refine ⟨(0, 0, [], 8), Evt.bind hchk (Evt.ite_pos rfl (Evt.bind (high_ev h) (Evt.ite_pos c (Evt.pure _)))), ?_⟩
    rw [if_pos c]
  · have c1 : a ≤ mx x a:=by unfold mx; split <;> omega
    have c2 : mn y (xs a l l.length) ≤ xs a l l.length:=by unfold mn; split <;> omega
    obtain ⟨r, r1, r2, r3, r4, r5⟩:=cut_ev h c1 (by omega) c2
    have hc:=Sub.cv h r1 r3 r2.inc
    have m:=made_ev (mx x a) (fv a v l (mx x a) l.length) (St.refl (lt:=lts) r) r2
    unfold madeR at m
    rw [if_pos (Cv_err hc)] at m
    refine ⟨(mx x a, fv a v l (mx x a) l.length, r, 0), Evt.bind hchk (Evt.ite_pos rfl (Evt.bind (high_ev h) (Evt.ite_neg c (Evt.bind (value_ev h c1 (by omega)) (Evt.bind r5 (Evt.bind m (Evt.pure _))))))), ?_⟩
    rw [if_neg c]
    exact ⟨r, rfl, r1, hc, r4⟩
theorem cv_strict {a v : Int} {l : List Pc} (h : Cv a v l) : Strict l := ⟨by have := h.len; omega, fun n hn => by have := (h.rng n hn).1; omega, h.srt⟩
theorem clone_eq (l : List Pc) (hl : l.length ≤ 64) : api_ConvexPiece_76.f l = some l := by
  simp only [api_ConvexPiece_76.f, Option.bind_some, List.length_nil, List.nil_append]
  rw [if_pos (by omega)]
def moveR (a v : Int) (l : List Pc) (x y : Int) : Int × Int × List Pc × Int := if (-2000000 ≤ x ∧ x ≤ 2000000) ∧ okY y then (if cvErr (a + x) (v + y) l = 0 then (a + x, v + y, l, 0) else (0, 0, [], 2)) else (0, 0, [], 4)
theorem Move_ev {a v : Int} {l : List Pc} (h : Cv a v l) (x y : Int) : Evt (fun k => convexpl_Move.f k a v l x y) (moveR a v l x y) := by
  have e0 : cvErr a v l = 0:=Cv_err h
  have hb:=h.pre 0 (by omega)
  obtain ⟨hb1, hb2, hb3⟩:=hb
  simp only [xs, ys] at hb1 hb2 hb3
  have hchk:=CCheck_ev a v l
  rw [e0] at hchk
  have bad : ∀ b, b = true → Evt (fun k => convexpl_Move.j0 k x y b a v l) (0, 0, [], 4):=by
    intro b hb
    subst hb
    refine Evt.succ ?_
    simp only [convexpl_Move.j0]
    first
     |exact Evt.ite_pos (by simp) (Evt.pure _)
     |exact Evt.pure _
  simp only [convexpl_Move.f]
  unfold moveR
  by_cases c : (-2000000 ≤ x ∧ x ≤ 2000000) ∧ okY y
  · have c':=c
    obtain ⟨c1, c2, c3⟩:=c
    rw [if_pos c']
    refine Evt.bind hchk (Evt.ite_pos rfl (Evt.ite_neg (by omega) (Evt.ite_neg (by omega) (Evt.ite_neg (by omega) (Evt.succ ?_)))))
    simp only [convexpl_Move.j0]
    refine Evt.ite_neg (by simp; omega) ?_
    rw [wrap64_of (x:=a + x) (by omega) (by omega), wrap64_of (x:=v + y) (by omega) (by omega)]
    have m:=made_ev (a + x) (v + y) (St.refl (lt:=lts) l) (cv_strict h)
    unfold madeR at m
    refine Evt.bindo (clone_eq l h.len) (Evt.bind m ?_)
    split <;> exact Evt.pure _
  · rw [if_neg c]
    refine Evt.bind hchk (Evt.ite_pos rfl (Evt.ite (fun _ => bad _ rfl) (fun c1 => Evt.ite (fun _ => bad _ rfl) (fun c2 => Evt.ite (fun _ => bad _ rfl) (fun c3 => bad _ (decide_eq_true ?_))))))
    apply Decidable.byContradiction
    intro c4
    exact c ⟨by omega, by unfold okY; omega⟩
def negs (l : List Pc) : List Pc := l.map (fun p => ⟨p.f0, -p.f1⟩)
theorem negs_len (l : List Pc) : (negs l).length = l.length := by simp [negs]
theorem negs_at (l : List Pc) (n : Nat) (hn : n < l.length) : ln (negs l) n = ln l n ∧ sl (negs l) n = -(sl l n) := by
  unfold ln sl negs
  simp [List.getD_eq_getElem?_getD, hn]
theorem rev_at (l : List Pc) (n : Nat) (hn : n < l.length) : ln l.reverse n = ln l (l.length - 1 - n) ∧ sl l.reverse n = sl l (l.length - 1 - n) := by
  unfold ln sl
  simp [List.getD_eq_getElem?_getD, List.getElem?_reverse hn]
theorem Turn_ev {a v : Int} {l : List Pc} (h : Cv a v l) : ∃ r : List Pc, r.length = l.length ∧ (∀ n, n < l.length → ln r n = ln l (l.length - 1 - n) ∧ sl r n = -(sl l (l.length - 1 - n))) ∧ Evt (fun k => convexpl_Turn.f k a v l) (-(xs a l l.length), ys v l l.length, r, 0) := by
  have e0 : cvErr a v l = 0:=Cv_err h
  have hl:=h.len
  have hb:=(h.pre l.length (Nat.le_refl _)).1
  have ha:=xs_mono h (i:=0) (j:=l.length) (by omega) (Nat.le_refl _)
  have hchk:=CCheck_ev a v l
  rw [e0] at hchk
  have hp : ∀ n, n < l.length → ln (negs l).reverse n = ln l (l.length - 1 - n) ∧ sl (negs l).reverse n = -(sl l (l.length - 1 - n)):=by
    intro n hn
    obtain ⟨p1, p2⟩:=rev_at (negs l) n (by rw [negs_len]; exact hn)
    rw [negs_len] at p1 p2
    obtain ⟨q1, q2⟩:=negs_at l (l.length - 1 - n) (by omega)
    rw [p1, p2, q1, q2]
    exact ⟨rfl, rfl⟩
  have hlen : (negs l).reverse.length = l.length:=by rw [List.length_reverse, negs_len]
  refine ⟨(negs l).reverse, hlen, hp, ?_⟩
  have hcv:=turned_cv h hlen hp
  have hst : Strict (negs l).reverse:=cv_strict hcv
  have hsort : St lts (negs l) (negs l).reverse:=by
    refine St.rev Wlts _ ?_
    rw [List.pairwise_iff_getElem]
    intro i j hi hj hij
    rw [getD_lnsl _ i hi, getD_lnsl _ j hj]
    rw [negs_len] at hi hj
    obtain ⟨_, q1⟩:=negs_at l i hi
    obtain ⟨_, q2⟩:=negs_at l j hj
    have:=sl_mono h hij hj
    rw [q1, q2]
    exact decide_eq_true (by show -sl l j < -sl l i; omega)
  have m:=made_ev (-(xs a l l.length)) (ys v l l.length) hsort hst
  unfold madeR at m
  rw [if_pos (Cv_err hcv)] at m
  have hv : fv a v l (xs a l l.length) l.length = ys v l l.length:=by
    have:=fv_xs h l.length (Nat.le_refl _) l.length (Nat.le_refl _)
    rw [Nat.min_self] at this
    exact this
  have loop : ∀ n, n ≤ l.length → Evt (fun k => convexpl_Turn.l0 k (xs a l l.length) ((negs l).take n) l (l.length : Int) (n : Int) a v l) (-(xs a l l.length), ys v l l.length, (negs l).reverse, 0):=by
    refine down ?_ ?_
    · refine Evt.succ ?_
      simp only [convexpl_Turn.l0]
      rw [← negs_len l, List.take_length, wrap64_of (x:=-(xs a l (negs l).length)) (by rw [negs_len]; omega) (by rw [negs_len]; omega), negs_len]
      have:=value_ev h (x:=xs a l l.length) ha (by omega)
      rw [hv] at this
      exact Evt.ite_neg (by omega) (Evt.bind this (Evt.bind m (Evt.pure _)))
    · intro n hn ih
      refine Evt.succ ?_
      simp only [convexpl_Turn.l0, rdc0, rdc1]
      have lt_ : ((negs l).take n).length = n:=by rw [List.length_take, negs_len]; omega
      obtain ⟨q1, q2⟩:=negs_at l n hn
      have hr:=(h.rng n hn).2.2
      have et:=tk (negs l) n (by rw [negs_len]; exact hn)
      rw [q1, q2] at et
      rw [wrap64_of (x:=-(sl l n)) (by omega) (by omega), et, wrap64_nat (n:=n) (by omega)]
      exact Evt.ite_pos (by omega) (Evt.ite_pos (by omega) (Evt.ite_pos (by omega) (Evt.ite_pos (by omega) ih)))
  simp only [convexpl_Turn.f]
  exact Evt.bind hchk (Evt.ite_pos rfl (Evt.bind (high_ev h) (loop 0 (by omega))))
end Go.Proofs.Ytdgjelbkogfedaa.GConvexMoves
