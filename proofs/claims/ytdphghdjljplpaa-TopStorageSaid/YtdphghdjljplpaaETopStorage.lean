import Derived.Test.YtdphghdjljplpaaCTopStorage
import Derived.Test.YtdphghdjljplpaaZTopStorage
import Derived.Test.YtdphghdjljplpaaXTopStorage
namespace Go.Proofs.Ytdphghdjljplpaa.ETopStorage
open Go.RowKit Go.Proofs.YtdphghdjljplpaaW.PrintWords Go.Proofs.YtdphghdjljplpaaW.PrintMore Go.Proofs.Ytdphghdjljplpaa.Evs Go.Proofs.Ytdphghdjljplpaa.PTopStorage Go.Proofs.Ytdphghdjljplpaa.CTopStorage Go.Proofs.Ytdphghdjljplpaa.ZTopStorage Go.Proofs.Ytdphghdjljplpaa.XTopStorage
set_option linter.unusedVariables false
set_option linter.unusedSectionVars false
set_option linter.unusedSimpArgs false
section
variable {E : Type} {lt : E → E → Bool}
theorem St.tail {x : E} {a b : List E} (h : St lt (x :: a) (x :: b)) : St lt a b := by
  intro z
  have:=h z
  rw [List.filter_cons, List.filter_cons] at this
  split at this
  · exact List.cons.inj this |>.2
  · exact this
theorem Srt.uniq (W : Weak lt) : ∀ (s r : List E), s.Pairwise (fun x y => lt x y = true) → Srt lt r → St lt s r → r = s := by
  intro s
  induction s with
 |nil =>
    intro r _ _ h
    have:=St.length W h
    exact List.eq_nil_of_length_eq_zero this
 |cons x s ih =>
    intro r hs hr h
    obtain ⟨hx, hs'⟩:=List.pairwise_cons.1 hs
    cases r with
   |nil =>
      have:=St.length W h
      simp at this
   |cons y r =>
      obtain ⟨hy, hr'⟩:=List.pairwise_cons.1 hr
      have e : y = x:=by
        have m1 : y ∈ x :: s:=(St.mem W h y).1 (by simp)
        have m2 : x ∈ y :: r:=(St.mem W h x).2 (by simp)
        rcases List.mem_cons.1 m1 with e|m1
        · exact e
        · rcases List.mem_cons.1 m2 with e|m2
          · exact e.symm
          · have h1:=hx y m1
            have h2:=hy x m2
            rw [h1] at h2
            cases h2
      subst e
      rw [ih r hs' hr' (St.tail h)]
theorem St.rev (W : Weak lt) : ∀ (l : List E), l.Pairwise (fun x y => lt y x = true) → St lt l l.reverse := by
  intro l
  induction l with
 |nil => intro _; exact St.refl _
 |cons x l ih =>
    intro h
    obtain ⟨hx, h'⟩:=List.pairwise_cons.1 h
    have c:=St.comm W (a:=[x]) (b:=l) (fun p hp y hy => by simp at hp; subst hp; exact hx y hy)
    have:=c.trans ((ih h').app (St.refl (lt:=lt) [x]))
    simpa using this
end
def lts (p q : Pc) : Bool := decide (p.f1 < q.f1)
theorem Wlts : Weak lts := ⟨fun x => by simp [lts], fun {x y z} h1 h2 => by simp [lts] at *; omega, fun {x y z} h1 h2 => by simp [lts] at *; omega⟩
theorem cmps (p q : Pc) : ∃ c : Int, Evt (fun _ => convexpl_made_1.f p.f0 p.f1 q.f0 q.f1) c ∧ (c < 0 ↔ lts p q = true) := by
  simp only [convexpl_made_1.f, cmp_Compare_int.f, cmp_isNaN_int.f, Option.bind_some, bne_self_eq_false, lts, decide_eq_true_eq]
  by_cases c1 : p.f1 < q.f1
  · exact ⟨-1, Evt.ofo (by simp [c1]), by omega⟩
  · by_cases c2 : p.f1 > q.f1
    · exact ⟨1, Evt.ofo (by simp [c1, c2]), by omega⟩
    · exact ⟨0, Evt.ofo (by simp [c1, c2]), by omega⟩
structure Strict (s : List Pc) : Prop where
  len : s.length ≤ 1000000
  pos : ∀ n, n < s.length → ln s n ≠ 0
  inc : ∀ n, 0 < n → n < s.length → sl s (n - 1) < sl s n
theorem getD_lnsl (s : List Pc) (n : Nat) (h : n < s.length) : s[n] = (⟨ln s n, sl s n⟩ : Pc) := by
  have : s.getD n zPc = s[n]:=by simp [List.getD_eq_getElem?_getD, h]
  unfold ln sl
  rw [this]
theorem tk (s : List Pc) (n : Nat) (h : n < s.length) : s.take n ++ [(⟨ln s n, sl s n⟩ : Pc)] = s.take (n + 1) := by
  rw [List.take_succ_eq_append_getElem h, getD_lnsl s n h]
theorem sl_take (s : List Pc) (n i : Nat) (h : i < n) : sl (s.take n) i = sl s i := by
  unfold sl
  simp [List.getD_eq_getElem?_getD, List.getElem?_take, h]
theorem Strict.pw {s : List Pc} (h : Strict s) : s.Pairwise (fun x y => lts x y = true) := by
  have mono : ∀ i j, i < j → j < s.length → sl s i < sl s j:=by
    intro i j
    induction j with
   |zero => omega
   |succ j ih =>
      intro h1 h2
      have:=h.inc (j + 1) (by omega) h2
      simp only [Nat.add_sub_cancel] at this
      by_cases e : i = j
      · rw [e]
        exact this
      · have:=ih (by omega) (by omega)
        omega
  rw [List.pairwise_iff_getElem]
  intro i j hi hj hij
  rw [getD_lnsl s i hi, getD_lnsl s j hj]
  exact decide_eq_true (mono i j hij hj)
def madeR (a v : Int) (s t : List Pc) : Int × Int × List Pc × Int × List Pc := if cvErr a v s = 0 then (a, v, s, 0, t) else (0, 0, [], 2, t)
theorem made_l0 (a v : Int) {s t : List Pc} (h : Strict s) : ∀ n, n ≤ s.length → Evt (fun k => convexpl_made.l0 k t s (s.length : Int) (n : Int) a v (s.take n)) (madeR a v s t) := by
  have hl:=h.len
  refine down ?_ ?_
  · refine Evt.succ ?_
    simp only [convexpl_made.l0]
    rw [List.take_length]
    refine Evt.ite_neg (by omega) (Evt.bind (CCheck_ev a v s) (Evt.ite (fun c => ?_) (fun c => ?_)))
    · unfold madeR
      rw [if_pos c]
      exact Evt.pure _
    · unfold madeR
      rw [if_neg c]
      exact Evt.pure _
  · intro n hn ih
    have hz:=h.pos n hn
    have lt_ : (s.take n).length = n:=by rw [List.length_take]; omega
    refine Evt.succ ?_
    simp only [convexpl_made.l0]
    simp only [rdc0, rdc1, lt_]
    rw [wrap64_nat (n:=n) (by omega), tk s n hn]
    refine Evt.ite_pos (by omega) (Evt.ite_pos (by omega) (Evt.ite_pos (by omega) (Evt.ite_neg hz ?_)))
    by_cases c : n = 0
    · subst c
      exact Evt.ite_neg (by unfold wrap64; omega) (Evt.ite_pos (by omega) ih)
    · rw [pred_castC (by omega) (by omega)]
      refine Evt.ite_pos (by omega) (Evt.ite_pos (by omega) (Evt.ite_pos (by omega) ?_))
      simp only [rdc0, rdc1]
      have:=h.inc n (by omega) hn
      rw [sl_take s n (n - 1) (by omega)]
      exact Evt.ite_neg (by omega) (Evt.ite_pos (by omega) ih)
theorem made_ev (a v : Int) {l s : List Pc} (hs : St lts l s) (h : Strict s) : Evt (fun k => convexpl_made.f k a v l) (madeR a v s s) := by
  have hl:=h.len
  have ls:=St.length Wlts hs
  obtain ⟨r, r1, r2, r3⟩:=sorts Wlts cmps l (by omega)
  obtain rfl : r = s:=Srt.uniq Wlts s r h.pw r1 (hs.symm.trans r2)
  simp only [convexpl_made.f]
  refine Evt.bind r3 ?_
  rw [← ls]
  have:=made_l0 a v (t:=r) h 0 (by omega)
  exact this
theorem ln_app {l t : List Pc} {n : Nat} (h : n < l.length) : ln (l ++ t) n = ln l n := by
  unfold ln
  simp [List.getD_eq_getElem?_getD, List.getElem?_append_left h]
theorem sl_app {l t : List Pc} {n : Nat} (h : n < l.length) : sl (l ++ t) n = sl l n := by
  unfold sl
  simp [List.getD_eq_getElem?_getD, List.getElem?_append_left h]
theorem ln_end (l : List Pc) (p : Pc) : ln (l ++ [p]) l.length = p.f0 := by
  unfold ln
  simp [List.getD_eq_getElem?_getD]
theorem sl_end (l : List Pc) (p : Pc) : sl (l ++ [p]) l.length = p.f1 := by
  unfold sl
  simp [List.getD_eq_getElem?_getD]
theorem xs_app (a : Int) {l t : List Pc} : ∀ n, n ≤ l.length → xs a (l ++ t) n = xs a l n := by
  intro n
  induction n with
 |zero => intro _; rfl
 |succ n ih =>
    intro hn
    simp only [xs]
    rw [ih (by omega), ln_app (by omega)]
structure Cut (a : Int) (l : List Pc) (lo hi : Int) (acc : List Pc) (n : Nat) : Prop where
  len : acc.length ≤ n
  fin : xs lo acc acc.length = mx lo (mn (xs a l n) hi)
  pc : ∀ m, m < acc.length → 1 ≤ ln acc m ∧ ∃ j, j < n ∧ xs a l j ≤ xs lo acc m ∧ xs lo acc (m + 1) ≤ xs a l (j + 1) ∧ sl acc m = sl l j
  inc : ∀ m, 0 < m → m < acc.length → sl acc (m - 1) < sl acc m
theorem cut_l0 {a v : Int} {l : List Pc} (h : Cv a v l) {lo hi : Int} (h1 : a ≤ lo) (h2 : lo ≤ hi) (h3 : hi ≤ xs a l l.length) : ∀ d n (acc : List Pc), n + d = l.length → Cut a l lo hi acc n → ∃ r, Cut a l lo hi r l.length ∧ Evt (fun k => convexpl_cut.l0 k lo hi acc (xs a l n) l (l.length : Int) (n : Int)) r := by
  have hl:=h.len
  have ha:=(h.pre 0 (by omega)).1
  have ha0 : xs a l 0 = a:=rfl
  have hb:=(h.pre l.length (Nat.le_refl _)).1
  intro d
  induction d with
 |zero =>
    intro n acc hn hc
    obtain rfl : n = l.length:=by omega
    refine ⟨acc, hc, Evt.succ ?_⟩
    simp only [convexpl_cut.l0]
    exact Evt.ite_neg (by omega) (Evt.pure _)
 |succ d ih =>
    intro n acc hn hc
    have hr:=(h.rng n (by omega)).1
    have hp:=(h.pre n (by omega)).1
    have hp1:=(h.pre (n + 1) (by omega)).1
    have ex : xs a l (n + 1) = xs a l n + ln l n:=rfl
    have ha':=xs_mono h (i:=0) (j:=n) (by omega) (by omega)
    obtain ⟨c1, c2, c3, c4⟩:=hc
    by_cases c : mx (xs a l n) lo < mn (xs a l (n + 1)) hi
    · obtain ⟨p, ep⟩ : ∃ p : Pc, p = ⟨mn (xs a l (n + 1)) hi - mx (xs a l n) lo, sl l n⟩:=⟨_, rfl⟩
      have e1 : xs lo acc acc.length = mx (xs a l n) lo:=by
        rw [c2]
        revert c
        unfold mx mn
        repeat' split
        all_goals omega
      have e2 : xs lo (acc ++ [p]) (acc.length + 1) = mn (xs a l (n + 1)) hi:=by
        simp only [xs]
        rw [xs_app _ _ (Nat.le_refl _), ln_end, e1, ep]
        show mx (xs a l n) lo + (mn (xs a l (n + 1)) hi - mx (xs a l n) lo) = mn (xs a l (n + 1)) hi
        omega
      have cut : Cut a l lo hi (acc ++ [p]) (n + 1):=by
        refine ⟨by simp; omega, ?_, fun m hm => ?_, fun m h0 hm => ?_⟩
        · rw [show (acc ++ [p]).length = acc.length + 1 by simp, e2]
          revert c
          unfold mx mn
          repeat' split
          all_goals omega
        · simp only [List.length_append, List.length_cons, List.length_nil] at hm
          by_cases e : m = acc.length
          · subst e
            rw [ln_end, sl_end, e2, xs_app _ _ (Nat.le_refl _), e1, ep]
            refine ⟨by show 1 ≤ mn (xs a l (n + 1)) hi - mx (xs a l n) lo; omega, n, by omega, ?_, ?_, rfl⟩
            · unfold mx
              split <;> omega
            · unfold mn
              split <;> omega
          · obtain ⟨q1, j, q2, q3, q4, q5⟩:=c3 m (by omega)
            rw [ln_app (by omega), sl_app (by omega), xs_app _ _ (by omega), xs_app _ _ (by omega)]
            exact ⟨q1, j, by omega, q3, q4, q5⟩
        · simp only [List.length_append, List.length_cons, List.length_nil] at hm
          by_cases e : m = acc.length
          · subst e
            obtain ⟨q1, j, q2, q3, q4, q5⟩:=c3 (acc.length - 1) (by omega)
            rw [sl_end, sl_app (by omega), q5, ep]
            exact sl_mono h q2 (by omega)
          · rw [sl_app (by omega), sl_app (by omega)]
            exact c4 m h0 (by omega)
      obtain ⟨r, r1, r2⟩:=ih (n + 1) (acc ++ [p]) (by omega) cut
      refine ⟨r, r1, Evt.succ ?_⟩
      simp only [convexpl_cut.l0, rdc0, rdc1]
      rw [← ex, wrap64_of (x:=xs a l (n + 1)) (by omega) (by omega), wrap64_of (x:=mn (xs a l (n + 1)) hi - mx (xs a l n) lo) (by omega) (by revert c; unfold mx mn; repeat' split; all_goals omega), wrap64_nat (by omega), ← ep]
      exact Evt.ite_pos (by omega) (Evt.ite_pos (by omega) (Evt.ite_pos (by omega) (Evt.ite_pos c (Evt.ite_pos (by omega) r2))))
    · have cut : Cut a l lo hi acc (n + 1):=by
        refine ⟨by omega, ?_, fun m hm => ?_, c4⟩
        · rw [c2]
          revert c
          unfold mx mn
          repeat' split
          all_goals omega
        · obtain ⟨q1, j, q2, q3, q4, q5⟩:=c3 m hm
          exact ⟨q1, j, by omega, q3, q4, q5⟩
      obtain ⟨r, r1, r2⟩:=ih (n + 1) acc (by omega) cut
      refine ⟨r, r1, Evt.succ ?_⟩
      simp only [convexpl_cut.l0, rdc0, rdc1]
      rw [← ex, wrap64_of (x:=xs a l (n + 1)) (by omega) (by omega), wrap64_nat (by omega)]
      exact Evt.ite_pos (by omega) (Evt.ite_pos (by omega) (Evt.ite_pos (by omega) (Evt.ite_neg c r2)))
theorem cut_ev {a v : Int} {l : List Pc} (h : Cv a v l) {lo hi : Int} (h1 : a ≤ lo) (h2 : lo ≤ hi) (h3 : hi ≤ xs a l l.length) : ∃ r, Sub a v l lo r ∧ Strict r ∧ r.length ≤ 64 ∧ xs lo r r.length = hi ∧ Evt (fun k => convexpl_cut.f k a v l lo hi) r := by
  have hl:=h.len
  obtain ⟨r, r1, r2⟩:=cut_l0 h h1 h2 h3 l.length 0 [] (by omega) ⟨by simp, by simp only [xs, List.length_nil]; unfold mx mn; repeat' split; all_goals omega, fun m hm => by simp at hm, fun m _ hm => by simp at hm⟩
  obtain ⟨c1, c2, c3, c4⟩:=r1
  refine ⟨r, ⟨h1, by omega, fun m hm => ?_⟩,⟨by omega, fun m hm => ?_, c4⟩, by omega, ?_, ?_⟩
  · exact c3 m hm
  · have:=(c3 m hm).1
    omega
  · rw [c2]
    unfold mx mn
    repeat' split
    all_goals omega
  · simp only [convexpl_cut.f]
    exact r2
theorem value_ev {a v : Int} {l : List Pc} (h : Cv a v l) {x : Int} (hx : a ≤ x) (hx2 : x ≤ 1000000) : Evt (fun k => convexpl_value.f k a v l x) (fv a v l x l.length) := by
  simp only [convexpl_value.f]
  have:=value_l0 h x hx hx2 0 (by omega)
  simp only [xs, fv] at this
  rw [mn_le (by omega)] at this
  exact this
section
variable {a v : Int} {l : List Pc} (h : Cv a v l) (N : Nat) (hN : xs a l l.length = a + N)
include h hN
end
theorem clone_eqM (l : List Pc) (hl : l.length ≤ 64) : api_ConvexPiece_89.f l = some l := by
  simp only [api_ConvexPiece_89.f, Option.bind_some, List.length_nil, List.nil_append]
  rw [if_pos (by omega)]
theorem Restrict_ev {a v : Int} {l : List Pc} (h : Cv a v l) (x y : Int) : ∃ R : Int × Int × List Pc × Int, Evt (fun k => convexpl_Restrict.f k a v l x y) R ∧
    (if mx x a > mn y (xs a l l.length) then R.2.2.2 = 8 else ∃ r, R = (mx x a, fv a v l (mx x a) l.length, r, 0) ∧ Sub a v l (mx x a) r ∧ Cv (mx x a) (fv a v l (mx x a) l.length) r ∧ xs (mx x a) r r.length = mn y (xs a l l.length)):=by
  have e0 : cvErr a v l = 0:=Cv_err h
  have hb:=(h.pre l.length (Nat.le_refl _)).1
  have hchk:=CCheck_ev a v l
  rw [e0] at hchk
  simp only [convexpl_Restrict.f]
  by_cases c : mx x a > mn y (xs a l l.length)
  · refine ⟨(0, 0, [], 8), Evt.bind hchk (Evt.ite_pos rfl (Evt.bind (high_ev h) (Evt.ite_pos c (Evt.pure _)))), ?_⟩
    rw [if_pos c]
  · have c1 : a ≤ mx x a:=by unfold mx; split <;> omega
    have c2 : mn y (xs a l l.length) ≤ xs a l l.length:=by unfold mn; split <;> omega
    obtain ⟨r, r1, r2, r3, r4, r5⟩:=cut_ev h c1 (by omega) c2
    have hc:=Sub.cv h r1 r3 r2.inc
    have m:=made_ev (mx x a) (fv a v l (mx x a) l.length) (St.refl (lt:=lts) r) r2
    unfold madeR at m
    rw [if_pos (Cv_err hc)] at m
    refine ⟨(mx x a, fv a v l (mx x a) l.length, r, 0), Evt.bind hchk (Evt.ite_pos rfl (Evt.bind (high_ev h) (Evt.ite_neg c (Evt.bind (value_ev h c1 (by omega)) (Evt.bind r5 (Evt.bind m (Evt.pure _))))))), ?_⟩
    rw [if_neg c]
    exact ⟨r, rfl, r1, hc, r4⟩
theorem cv_strict {a v : Int} {l : List Pc} (h : Cv a v l) : Strict l := ⟨by have := h.len; omega, fun n hn => by have := (h.rng n hn).1; omega, h.srt⟩
def moveR (a v : Int) (l : List Pc) (x y : Int) : Int × Int × List Pc × Int := if (-2000000 ≤ x ∧ x ≤ 2000000) ∧ okY y then (if cvErr (a + x) (v + y) l = 0 then (a + x, v + y, l, 0) else (0, 0, [], 2)) else (0, 0, [], 4)
theorem Move_ev {a v : Int} {l : List Pc} (h : Cv a v l) (x y : Int) : Evt (fun k => convexpl_Move.f k a v l x y) (moveR a v l x y) := by
  have e0 : cvErr a v l = 0:=Cv_err h
  have hb:=h.pre 0 (by omega)
  obtain ⟨hb1, hb2, hb3⟩:=hb
  simp only [xs, ys] at hb1 hb2 hb3
  have hchk:=CCheck_ev a v l
  rw [e0] at hchk
  have bad : ∀ b, b = true → Evt (fun k => convexpl_Move.j0 k x y b a v l) (0, 0, [], 4):=by
    intro b hb
    subst hb
    refine Evt.succ ?_
    simp only [convexpl_Move.j0]
    first
     |exact Evt.ite_pos (by simp) (Evt.pure _)
     |exact Evt.pure _
  simp only [convexpl_Move.f]
  unfold moveR
  by_cases c : (-2000000 ≤ x ∧ x ≤ 2000000) ∧ okY y
  · have c':=c
    obtain ⟨c1, c2, c3⟩:=c
    rw [if_pos c']
    refine Evt.bind hchk (Evt.ite_pos rfl (Evt.ite_neg (by omega) (Evt.ite_neg (by omega) (Evt.ite_neg (by omega) (Evt.succ ?_)))))
    simp only [convexpl_Move.j0]
    refine Evt.ite_neg (by simp; omega) ?_
    rw [wrap64_of (x:=a + x) (by omega) (by omega), wrap64_of (x:=v + y) (by omega) (by omega)]
    have m:=made_ev (a + x) (v + y) (St.refl (lt:=lts) l) (cv_strict h)
    unfold madeR at m
    refine Evt.bindo (clone_eqM l h.len) (Evt.bind m ?_)
    split <;> exact Evt.pure _
  · rw [if_neg c]
    refine Evt.bind hchk (Evt.ite_pos rfl (Evt.ite (fun _ => bad _ rfl) (fun c1 => Evt.ite (fun _ => bad _ rfl) (fun c2 => Evt.ite (fun _ => bad _ rfl) (fun c3 => bad _ (decide_eq_true ?_))))))
    apply Decidable.byContradiction
    intro c4
    exact c ⟨by omega, by unfold okY; omega⟩
def negs (l : List Pc) : List Pc := l.map (fun p => ⟨p.f0, -p.f1⟩)
theorem negs_len (l : List Pc) : (negs l).length = l.length := by simp [negs]
theorem negs_at (l : List Pc) (n : Nat) (hn : n < l.length) : ln (negs l) n = ln l n ∧ sl (negs l) n = -(sl l n) := by
  unfold ln sl negs
  simp [List.getD_eq_getElem?_getD, hn]
theorem rev_at (l : List Pc) (n : Nat) (hn : n < l.length) : ln l.reverse n = ln l (l.length - 1 - n) ∧ sl l.reverse n = sl l (l.length - 1 - n) := by
  unfold ln sl
  simp [List.getD_eq_getElem?_getD, List.getElem?_reverse hn]
theorem Turn_ev {a v : Int} {l : List Pc} (h : Cv a v l) : ∃ r : List Pc, r.length = l.length ∧ (∀ n, n < l.length → ln r n = ln l (l.length - 1 - n) ∧ sl r n = -(sl l (l.length - 1 - n))) ∧ Evt (fun k => convexpl_Turn.f k a v l) (-(xs a l l.length), ys v l l.length, r, 0) := by
  have e0 : cvErr a v l = 0:=Cv_err h
  have hl:=h.len
  have hb:=(h.pre l.length (Nat.le_refl _)).1
  have ha:=xs_mono h (i:=0) (j:=l.length) (by omega) (Nat.le_refl _)
  have hchk:=CCheck_ev a v l
  rw [e0] at hchk
  have hp : ∀ n, n < l.length → ln (negs l).reverse n = ln l (l.length - 1 - n) ∧ sl (negs l).reverse n = -(sl l (l.length - 1 - n)):=by
    intro n hn
    obtain ⟨p1, p2⟩:=rev_at (negs l) n (by rw [negs_len]; exact hn)
    rw [negs_len] at p1 p2
    obtain ⟨q1, q2⟩:=negs_at l (l.length - 1 - n) (by omega)
    rw [p1, p2, q1, q2]
    exact ⟨rfl, rfl⟩
  have hlen : (negs l).reverse.length = l.length:=by rw [List.length_reverse, negs_len]
  refine ⟨(negs l).reverse, hlen, hp, ?_⟩
  have hcv:=turned_cv h hlen hp
  have hst : Strict (negs l).reverse:=cv_strict hcv
  have hsort : St lts (negs l) (negs l).reverse:=by
    refine St.rev Wlts _ ?_
    rw [List.pairwise_iff_getElem]
    intro i j hi hj hij
    rw [getD_lnsl _ i hi, getD_lnsl _ j hj]
    rw [negs_len] at hi hj
    obtain ⟨_, q1⟩:=negs_at l i hi
    obtain ⟨_, q2⟩:=negs_at l j hj
    have:=sl_mono h hij hj
    rw [q1, q2]
    exact decide_eq_true (by show -sl l j < -sl l i; omega)
  have m:=made_ev (-(xs a l l.length)) (ys v l l.length) hsort hst
  unfold madeR at m
  rw [if_pos (Cv_err hcv)] at m
  have hv : fv a v l (xs a l l.length) l.length = ys v l l.length:=by
    have:=fv_xs h l.length (Nat.le_refl _) l.length (Nat.le_refl _)
    rw [Nat.min_self] at this
    exact this
  have loop : ∀ n, n ≤ l.length → Evt (fun k => convexpl_Turn.l0 k (xs a l l.length) ((negs l).take n) l (l.length : Int) (n : Int) a v l) (-(xs a l l.length), ys v l l.length, (negs l).reverse, 0):=by
    refine down ?_ ?_
    · refine Evt.succ ?_
      simp only [convexpl_Turn.l0]
      rw [← negs_len l, List.take_length, wrap64_of (x:=-(xs a l (negs l).length)) (by rw [negs_len]; omega) (by rw [negs_len]; omega), negs_len]
      have:=value_ev h (x:=xs a l l.length) ha (by omega)
      rw [hv] at this
      exact Evt.ite_neg (by omega) (Evt.bind this (Evt.bind m (Evt.pure _)))
    · intro n hn ih
      refine Evt.succ ?_
      simp only [convexpl_Turn.l0, rdc0, rdc1]
      have lt_ : ((negs l).take n).length = n:=by rw [List.length_take, negs_len]; omega
      obtain ⟨q1, q2⟩:=negs_at l n hn
      have hr:=(h.rng n hn).2.2
      have et:=tk (negs l) n (by rw [negs_len]; exact hn)
      rw [q1, q2] at et
      rw [wrap64_of (x:=-(sl l n)) (by omega) (by omega), et, wrap64_nat (n:=n) (by omega)]
      exact Evt.ite_pos (by omega) (Evt.ite_pos (by omega) (Evt.ite_pos (by omega) (Evt.ite_pos (by omega) ih)))
  simp only [convexpl_Turn.f]
  exact Evt.bind hchk (Evt.ite_pos rfl (Evt.bind (high_ev h) (loop 0 (by omega))))
def sm (l : List Int) (k : Nat) : Int := (l.take k).sum
def mrg (A B : List Int) : List Int := List.merge A B (fun x y => decide (x ≤ y))
abbrev Up (l : List Int) : Prop := l.Pairwise (fun x y => x ≤ y)
theorem sm_zero (l : List Int) : sm l 0 = 0 := by simp [sm]
theorem sm_cons (a : Int) (l : List Int) (k : Nat) : sm (a :: l) (k + 1) = a + sm l k := by simp [sm]
theorem sm_snoc (l : List Int) (k : Nat) (h : k < l.length) : sm l (k + 1) = sm l k + l[k] := by
  unfold sm
  rw [List.take_succ_eq_append_getElem h, List.sum_append]
  simp only [List.sum_cons, List.sum_nil]
  omega
theorem mrg_nil_l (B : List Int) : mrg [] B = B := by simp [mrg]
theorem mrg_nil_r (A : List Int) : mrg A [] = A := by simp [mrg]
theorem mrg_le {a b : Int} (A B : List Int) (h : a ≤ b) : mrg (a :: A) (b :: B) = a :: mrg A (b :: B) := List.cons_merge_cons_pos _ _ _ (by simpa using h)
theorem mrg_gt {a b : Int} (A B : List Int) (h : b < a) : mrg (a :: A) (b :: B) = b :: mrg (a :: A) B := List.cons_merge_cons_neg _ _ _ (by simp; omega)
theorem mrg_len (A B : List Int) : (mrg A B).length = A.length + B.length := by
  simp [mrg]
theorem Up.mrg {A B : List Int} (hA : Up A) (hB : Up B) : Up (mrg A B) := by
  have:=List.pairwise_merge (le:=fun x y : Int => decide (x ≤ y)) (by intro a b c; simp; omega) (by intro a b; simp; omega) A B (by simpa using hA) (by simpa using hB)
  simpa [Go.Proofs.Ytdphghdjljplpaa.ETopStorage.mrg] using this
theorem mrg_uniq {A B M : List Int} (hA : Up A) (hB : Up B) (hM : Up M) (h : List.Perm M (A ++ B)) : M = mrg A B := by
  refine List.Perm.eq_of_pairwise (le:=fun x y => x ≤ y) (fun a b _ _ h1 h2 => by omega) hM (Up.mrg hA hB) ?_
  exact h.trans (List.merge_perm_append _).symm
theorem up_ge {b : Int} {B : List Int} (h : Up (b :: B)) : ∀ (k : Nat) (hk : k < (b :: B).length), b ≤ (b :: B)[k] := by
  intro k hk
  cases k with
 |zero => exact Int.le_refl _
 |succ k =>
    have hk' : k < B.length:=by simpa using hk
    have:=(List.pairwise_cons.1 h).1 B[k] (List.getElem_mem hk')
    simpa using this
theorem mrg_least : ∀ (A B : List Int), Up A → Up B → ∀ k i j, i + j = k → i ≤ A.length → j ≤ B.length → sm (mrg A B) k ≤ sm A i + sm B j := by
  intro A B
  induction A, B using List.merge.induct (le:=fun x y : Int => decide (x ≤ y)) with
 |case1 B => intro _ _ k i j h hi hj; simp at hi; subst hi; rw [mrg_nil_l, sm_zero]; simp at h; subst h; omega
 |case2 A => intro _ _ k i j h hi hj; simp at hj; subst hj; rw [mrg_nil_r, sm_zero]; simp at h; subst h; omega
 |case3 a A b B h1 ih =>
    intro hA hB k i j h hi hj
    have h1 : a ≤ b:=by simpa using h1
    rw [mrg_le A B h1]
    cases k with
   |zero =>
      obtain rfl : i = 0:=by omega
      obtain rfl : j = 0:=by omega
      simp [sm_zero]
   |succ k =>
      rw [sm_cons]
      cases i with
     |succ i =>
        have:=ih (List.pairwise_cons.1 hA).2 hB k i j (by omega) (by simpa using hi) hj
        rw [sm_cons]
        omega
     |zero =>
        obtain rfl : j = k + 1:=by omega
        have h2:=ih (List.pairwise_cons.1 hA).2 hB k 0 k (by omega) (by omega) (by omega)
        have h3:=sm_snoc (b :: B) k (by omega)
        have h4:=up_ge hB k (by omega)
        rw [sm_zero] at h2 ⊢
        omega
 |case4 a A b B h1 ih =>
    intro hA hB k i j h hi hj
    have h1 : b < a:=by simpa using h1
    rw [mrg_gt A B h1]
    cases k with
   |zero =>
      obtain rfl : i = 0:=by omega
      obtain rfl : j = 0:=by omega
      simp [sm_zero]
   |succ k =>
      rw [sm_cons]
      cases j with
     |succ j =>
        have:=ih hA (List.pairwise_cons.1 hB).2 k i j (by omega) hi (by simpa using hj)
        rw [sm_cons]
        omega
     |zero =>
        obtain rfl : i = k + 1:=by omega
        have h2:=ih hA (List.pairwise_cons.1 hB).2 k k 0 (by omega) (by omega) (by omega)
        have h3:=sm_snoc (a :: A) k (by omega)
        have h4:=up_ge hA k (by omega)
        rw [sm_zero] at h2 ⊢
        omega
theorem mrg_some : ∀ (A B : List Int) k, k ≤ A.length + B.length → ∃ i j, i + j = k ∧ i ≤ A.length ∧ j ≤ B.length ∧ sm (mrg A B) k = sm A i + sm B j := by
  intro A B
  induction A, B using List.merge.induct (le:=fun x y : Int => decide (x ≤ y)) with
 |case1 B => intro k hk; exact ⟨0, k, by omega, by simp, by simpa using hk, by rw [mrg_nil_l, sm_zero]; omega⟩
 |case2 A => intro k hk; exact ⟨k, 0, by omega, by simpa using hk, by simp, by rw [mrg_nil_r, sm_zero]; omega⟩
 |case3 a A b B h1 ih =>
    intro k hk
    have h1 : a ≤ b:=by simpa using h1
    rw [mrg_le A B h1]
    cases k with
   |zero => exact ⟨0, 0, rfl, by omega, by omega, by simp [sm_zero]⟩
   |succ k =>
      obtain ⟨i, j, e, hi, hj, es⟩:=ih k (by simp at hk ⊢; omega)
      exact ⟨i + 1, j, by omega, by simp; omega, hj, by rw [sm_cons, sm_cons, es]; omega⟩
 |case4 a A b B h1 ih =>
    intro k hk
    have h1 : b < a:=by simpa using h1
    rw [mrg_gt A B h1]
    cases k with
   |zero => exact ⟨0, 0, rfl, by omega, by omega, by simp [sm_zero]⟩
   |succ k =>
      obtain ⟨i, j, e, hi, hj, es⟩:=ih k (by simp at hk ⊢; omega)
      exact ⟨i, j + 1, by omega, hi, by simp; omega, by rw [sm_cons, sm_cons, es]; omega⟩
def us (l : List Pc) : List Int := l.flatMap (fun p => List.replicate p.f0.toNat p.f1)
theorem us_app (l t : List Pc) : us (l ++ t) = us l ++ us t := by simp [us]
theorem us_cons (p : Pc) (l : List Pc) : us (p :: l) = List.replicate p.f0.toNat p.f1 ++ us l := by simp [us]
theorem us_nil : us [] = [] := rfl
theorem us_take (l : List Pc) (n : Nat) (h : n < l.length) : us (l.take (n + 1)) = us (l.take n) ++ List.replicate (ln l n).toNat (sl l n) := by
  rw [← tk l n h, us_app, us_cons, us_nil, List.append_nil]
theorem us_len {a : Int} {l : List Pc} (h : ∀ n, n < l.length → 0 ≤ ln l n) : ∀ n, n ≤ l.length → ((us (l.take n)).length : Int) = xs a l n - a := by
  intro n
  induction n with
 |zero => intro _; simp [us, xs]
 |succ n ih =>
    intro hn
    have h1:=ih (by omega)
    have h2:=h n (by omega)
    rw [us_take l n (by omega), List.length_append, List.length_replicate]
    have ex : xs a l (n + 1) = xs a l n + ln l n:=rfl
    omega
theorem us_at {a : Int} {l : List Pc} (h : ∀ n, n < l.length → 0 ≤ ln l n) {m i : Nat} (hm : m < l.length) (h1 : xs a l m ≤ a + i) (h2 : a + i < xs a l (m + 1)) : (us l)[i]? = some (sl l m) := by
  have e : us l = (us (l.take m) ++ List.replicate (ln l m).toNat (sl l m)) ++ us (l.drop (m + 1)):=by
    rw [← us_take l m hm, ← us_app, List.take_append_drop]
  have l1:=us_len (a:=a) h m (by omega)
  have ex : xs a l (m + 1) = xs a l m + ln l m:=rfl
  have h3:=h m hm
  rw [e, List.getElem?_append_left (by simp; omega), List.getElem?_append_right (by omega), List.getElem?_replicate]
  simp
  omega
theorem cv_pos {a v : Int} {l : List Pc} (h : Cv a v l) : ∀ n, n < l.length → 0 ≤ ln l n := fun n hn => by have := (h.rng n hn).1; omega
theorem us_length {a v : Int} {l : List Pc} (h : Cv a v l) : ((us l).length : Int) = xs a l l.length - a := by
  have:=us_len (a:=a) (cv_pos h) l.length (Nat.le_refl _)
  rwa [List.take_length] at this
theorem F_us {a v : Int} {l : List Pc} (h : Cv a v l) : ∀ i, i ≤ (us l).length → F a v l i = v + sm (us l) i := by
  have hL:=us_length h
  intro i
  induction i with
 |zero => intro _; rw [F_zero h, sm_zero]; omega
 |succ i ih =>
    intro hi
    obtain ⟨m, h1, h2, h3⟩:=piece_of h (a + i) (by omega) l.length (Nat.le_refl _) (by omega)
    have:=us_at (cv_pos h) h1 h2 h3
    rw [F_succ h i m h1 h2 h3, ih (by omega), sm_snoc _ _ (by omega)]
    rw [List.getElem?_eq_getElem (by omega)] at this
    have:=Option.some.inj this
    omega
theorem up_us : ∀ (l : List Pc), l.Pairwise (fun x y => x.f1 ≤ y.f1) → Up (us l) := by
  intro l
  induction l with
 |nil => intro _; exact List.Pairwise.nil
 |cons p l ih =>
    intro h
    obtain ⟨h1, h2⟩:=List.pairwise_cons.1 h
    rw [us_cons]
    refine List.pairwise_append.2 ⟨?_, ih h2, ?_⟩
    · rw [List.pairwise_replicate]
      exact Or.inr (Int.le_refl _)
    · intro x hx y hy
      have hx:=(List.mem_replicate.1 hx).2
      obtain ⟨q, hq, hy⟩:=List.mem_flatMap.1 hy
      have hy:=(List.mem_replicate.1 hy).2
      have:=h1 q hq
      omega
theorem us_count (z : Int) : ∀ (l : List Pc), (us l).count z = ((l.filter (eqv lts (⟨0, z⟩ : Pc))).map (fun p => p.f0.toNat)).sum := by
  intro l
  induction l with
 |nil => rfl
 |cons p l ih =>
    rw [us_cons, List.count_append, ih, List.count_replicate, List.filter_cons]
    have e : eqv lts (⟨0, z⟩ : Pc) p = decide (p.f1 = z):=by
      unfold eqv lts
      by_cases c : p.f1 = z
      · subst c; simp
      · rw [decide_eq_false c]
        by_cases c2 : z < p.f1
        · simp [c2]
        · simp; omega
    rw [e]
    by_cases c : p.f1 = z
    · simp [c]
    · have : ¬ (z = p.f1):=fun h => c h.symm
      simp [c]
theorem us_perm {l s : List Pc} (h : St lts l s) : List.Perm (us s) (us l) := by
  rw [List.perm_iff_count]
  intro z
  rw [us_count, us_count, h]
theorem srt_up {s : List Pc} (h : Srt lts s) : Up (us s) := by
  refine up_us s (h.imp ?_)
  intro x y hxy
  simp [lts] at hxy
  exact hxy
theorem cv_up {a v : Int} {l : List Pc} (h : Cv a v l) : Up (us l) := by
  refine up_us l ?_
  rw [List.pairwise_iff_getElem]
  intro i j hi hj hij
  rw [getD_lnsl l i hi, getD_lnsl l j hj]
  have:=sl_mono h hij hj
  show sl l i ≤ sl l j
  omega
structure Mad (s : List Pc) (n : Nat) (acc : List Pc) : Prop where
  un : us acc = us (s.take n)
  pos : ∀ m, m < acc.length → 1 ≤ ln acc m
  inc : ∀ m, 0 < m → m < acc.length → sl acc (m - 1) < sl acc m
  old : ∀ m, m < acc.length → ∃ j, j < n ∧ sl acc m = sl s j
  len : acc.length ≤ n
theorem Mad.nil (s : List Pc) : Mad s 0 [] := ⟨rfl, fun m h => by simp at h, fun m _ h => by simp at h, fun m h => by simp at h, by simp⟩
theorem ln_us {l : List Pc} (h : ∀ n, n < l.length → 0 ≤ ln l n) (k : Nat) (hk : k < l.length) : ln l k ≤ ((us l).length : Int) := by
  have h1:=us_len (a:=0) h k (by omega)
  have h2:=us_len (a:=0) h (k + 1) (by omega)
  have ex : xs 0 l (k + 1) = xs 0 l k + ln l k:=rfl
  have e : us l = us (l.take (k + 1)) ++ us (l.drop (k + 1)):=by rw [← us_app, List.take_append_drop]
  rw [e, List.length_append]
  omega
theorem Mad.lnb {s : List Pc} {n : Nat} {acc : List Pc} (h : Mad s n acc) (hn : n ≤ s.length) (hb : ∀ m, m < s.length → 0 ≤ ln s m ∧ ln s m ≤ 2000000) (k : Nat) (hk : k < acc.length) : ln acc k ≤ 2000000 * (n : Int) := by
  have h1:=ln_us (l:=acc) (fun m hm => by have:=h.pos m hm; omega) k hk
  rw [h.un, us_len (a:=0) (fun m hm => (hb m hm).1) n hn] at h1
  have : ∀ n, n ≤ s.length → xs 0 s n ≤ 2000000 * (n : Int):=by
    intro n
    induction n with
   |zero => intro _; simp [xs]
   |succ n ih =>
      intro hn
      have:=ih (by omega)
      have:=(hb n (by omega)).2
      simp only [xs]
      omega
  have:=this n hn
  omega
theorem Mad.skip {s : List Pc} {n : Nat} {acc : List Pc} (h : Mad s n acc) (hn : n < s.length) (hz : ln s n = 0) : Mad s (n + 1) acc := by
  refine ⟨?_, h.pos, h.inc, fun m hm => ?_, by have:=h.len; omega⟩
  · rw [us_take s n hn, hz, h.un]
    simp
  · obtain ⟨j, h1, h2⟩:=h.old m hm
    exact ⟨j, by omega, h2⟩
theorem Mad.push {s : List Pc} {n : Nat} {acc : List Pc} (h : Mad s n acc) (hn : n < s.length) (hz : 1 ≤ ln s n) (hl : ∀ k, acc.length = k + 1 → sl acc k < sl s n) : Mad s (n + 1) (acc ++ [(⟨ln s n, sl s n⟩ : Pc)]) := by
  refine ⟨?_, fun m hm => ?_, fun m h0 hm => ?_, fun m hm => ?_, by have:=h.len; simp; omega⟩
  · rw [us_take s n hn, us_app, us_cons, us_nil, List.append_nil, h.un]
  · simp only [List.length_append, List.length_cons, List.length_nil] at hm
    by_cases e : m = acc.length
    · subst e
      rw [ln_end]
      exact hz
    · rw [ln_app (by omega)]
      exact h.pos m (by omega)
  · simp only [List.length_append, List.length_cons, List.length_nil] at hm
    by_cases e : m = acc.length
    · subst e
      rw [sl_end, sl_app (by omega)]
      exact hl (acc.length - 1) (by omega)
    · rw [sl_app (by omega), sl_app (by omega)]
      exact h.inc m h0 (by omega)
  · simp only [List.length_append, List.length_cons, List.length_nil] at hm
    by_cases e : m = acc.length
    · subst e
      rw [sl_end]
      exact ⟨n, by omega, rfl⟩
    · rw [sl_app (by omega)]
      obtain ⟨j, h1, h2⟩:=h.old m (by omega)
      exact ⟨j, by omega, h2⟩
theorem set_last {acc : List Pc} {k : Nat} (hk : acc.length = k + 1) (p : Pc) : acc.set k p = acc.take k ++ [p] ∧ acc = acc.take k ++ [(⟨ln acc k, sl acc k⟩ : Pc)] := by
  constructor
  · rw [List.set_eq_take_append_cons_drop, if_pos (by omega), List.drop_eq_nil_of_le (by omega)]
  · rw [tk acc k (by omega), List.take_of_length_le (by omega)]
theorem ln_take (s : List Pc) (n i : Nat) (h : i < n) : ln (s.take n) i = ln s i := by
  unfold ln
  simp [List.getD_eq_getElem?_getD, List.getElem?_take, h]
theorem Mad.join {s : List Pc} {n : Nat} {acc : List Pc} (h : Mad s n acc) (hn : n < s.length) (hz : 0 ≤ ln s n) {k : Nat} (hk : acc.length = k + 1) (he : sl acc k = sl s n) : Mad s (n + 1) (acc.set k (⟨ln acc k + ln s n, sl acc k⟩ : Pc)) := by
  obtain ⟨e1, e2⟩:=set_last hk (⟨ln acc k + ln s n, sl acc k⟩ : Pc)
  have hp:=h.pos k (by omega)
  have lt_ : (acc.take k).length = k:=by rw [List.length_take]; omega
  have hs : ∀ m, m < k + 1 → sl (acc.set k (⟨ln acc k + ln s n, sl acc k⟩ : Pc)) m = sl acc m:=by
    intro m hm
    rw [e1]
    by_cases e : m = k
    · subst e
      have:=sl_end (acc.take m) (⟨ln acc m + ln s n, sl acc m⟩ : Pc)
      rw [lt_] at this
      exact this
    · rw [sl_app (by omega), sl_take acc k m (by omega)]
  have hln : ∀ m, m < k + 1 → 1 ≤ ln (acc.set k (⟨ln acc k + ln s n, sl acc k⟩ : Pc)) m:=by
    intro m hm
    rw [e1]
    by_cases e : m = k
    · subst e
      have:=ln_end (acc.take m) (⟨ln acc m + ln s n, sl acc m⟩ : Pc)
      rw [lt_] at this
      rw [this]
      show 1 ≤ ln acc m + ln s n
      omega
    · rw [ln_app (by omega), ln_take acc k m (by omega)]
      exact h.pos m (by omega)
  have hlen : (acc.set k (⟨ln acc k + ln s n, sl acc k⟩ : Pc)).length = k + 1:=by rw [List.length_set, hk]
  refine ⟨?_, fun m hm => hln m (by omega), fun m h0 hm => ?_, fun m hm => ?_, by have:=h.len; omega⟩
  · have h1:=h.un
    rw [e2, us_app, us_cons, us_nil, List.append_nil] at h1
    rw [us_take s n hn, ← h1, e1, us_app, us_cons, us_nil, List.append_nil, List.append_assoc]
    congr 1
    show List.replicate (ln acc k + ln s n).toNat (sl acc k) = List.replicate (ln acc k).toNat (sl acc k) ++ List.replicate (ln s n).toNat (sl s n)
    rw [← he, List.replicate_append_replicate]
    congr 1
    omega
  · rw [hs m (by omega), hs (m - 1) (by omega)]
    exact h.inc m h0 (by omega)
  · rw [hs m (by omega)]
    obtain ⟨j, h1, h2⟩:=h.old m (by omega)
    exact ⟨j, by omega, h2⟩
theorem srt_sl {s : List Pc} (h : Srt lts s) {i j : Nat} (hij : i < j) (hj : j < s.length) : sl s i ≤ sl s j := by
  have:=List.pairwise_iff_getElem.1 h i j (by omega) hj hij
  rw [getD_lnsl s i (by omega), getD_lnsl s j hj] at this
  simpa [lts] using this
theorem made_l0g (a v : Int) {s t : List Pc} (hs : Srt lts s) (hl : s.length ≤ 1000) (hb : ∀ m, m < s.length → 0 ≤ ln s m ∧ ln s m ≤ 2000000) : ∀ d n (acc : List Pc), n + d = s.length → Mad s n acc → ∃ r, Mad s s.length r ∧ Evt (fun k => convexpl_made.l0 k t s (s.length : Int) (n : Int) a v acc) (madeR a v r t) := by
  intro d
  induction d with
 |zero =>
    intro n acc hn hm
    obtain rfl : n = s.length:=by omega
    refine ⟨acc, hm, Evt.succ ?_⟩
    simp only [convexpl_made.l0]
    refine Evt.ite_neg (by omega) (Evt.bind (CCheck_ev a v acc) (Evt.ite (fun c => ?_) (fun c => ?_)))
    · unfold madeR
      rw [if_pos c]
      exact Evt.pure _
    · unfold madeR
      rw [if_neg c]
      exact Evt.pure _
 |succ d ih =>
    intro n acc hn hm
    have hb1:=hb n (by omega)
    have hacc:=hm.len
    by_cases hz : ln s n = 0
    · obtain ⟨r, r1, r2⟩:=ih (n + 1) acc (by omega) (hm.skip (by omega) hz)
      refine ⟨r, r1, Evt.succ ?_⟩
      simp only [convexpl_made.l0, rdc0, rdc1]
      rw [wrap64_nat (n:=n) (by omega)]
      exact Evt.ite_pos (by omega) (Evt.ite_pos (by omega) (Evt.ite_pos (by omega) (Evt.ite_pos hz r2)))
    · by_cases c : acc.length = 0
      · have e : acc = []:=List.length_eq_zero_iff.1 c
        obtain ⟨r, r1, r2⟩:=ih (n + 1) _ (by omega) (hm.push (by omega) (by omega) (fun k hk => by omega))
        refine ⟨r, r1, Evt.succ ?_⟩
        simp only [convexpl_made.l0, rdc0, rdc1]
        rw [wrap64_nat (n:=n) (by omega), c]
        exact Evt.ite_pos (by omega) (Evt.ite_pos (by omega) (Evt.ite_pos (by omega) (Evt.ite_neg hz (Evt.ite_neg (by unfold wrap64; omega) (Evt.ite_pos (by omega) r2)))))
      · obtain ⟨k, hk⟩ : ∃ k, acc.length = k + 1:=⟨acc.length - 1, by omega⟩
        obtain ⟨j, hj, ej⟩:=hm.old k (by omega)
        have hle:=srt_sl hs hj (show n < s.length by omega)
        have hbd:=hm.lnb (by omega) hb k (by omega)
        have hp:=hm.pos k (by omega)
        have ek : wrap64 ((acc.length : Int) - 1) = (k : Int):=by rw [hk]; unfold wrap64; omega
        by_cases q : sl acc k = sl s n
        · obtain ⟨r, r1, r2⟩:=ih (n + 1) _ (by omega) (hm.join (by omega) (by omega) hk q)
          refine ⟨r, r1, Evt.succ ?_⟩
          simp only [convexpl_made.l0]
          rw [ek]
          simp only [rdc0, rdc1]
          rw [wrap64_nat (n:=n) (by omega), wrap64_of (x:=ln acc k + ln s n) (by omega) (by omega)]
          exact Evt.ite_pos (by omega) (Evt.ite_pos (by omega) (Evt.ite_pos (by omega) (Evt.ite_neg hz (Evt.ite_pos (by omega) (Evt.ite_pos (by omega) (Evt.ite_pos (by omega) (Evt.ite_pos q r2)))))))
        · obtain ⟨r, r1, r2⟩:=ih (n + 1) _ (by omega) (hm.push (by omega) (by omega) (fun k' hk' => by
            obtain rfl : k' = k:=by omega
            omega))
          refine ⟨r, r1, Evt.succ ?_⟩
          simp only [convexpl_made.l0]
          rw [ek]
          simp only [rdc0, rdc1]
          rw [wrap64_nat (n:=n) (by omega)]
          exact Evt.ite_pos (by omega) (Evt.ite_pos (by omega) (Evt.ite_pos (by omega) (Evt.ite_neg hz (Evt.ite_pos (by omega) (Evt.ite_pos (by omega) (Evt.ite_pos (by omega) (Evt.ite_neg q (Evt.ite_pos (by omega) r2))))))))
def okL (l : List Pc) : Prop := ∀ m, m < l.length → 0 ≤ ln l m ∧ ln l m ≤ 2000000
theorem okL_mem {l : List Pc} : okL l ↔ ∀ p ∈ l, 0 ≤ p.f0 ∧ p.f0 ≤ 2000000 := by
  unfold okL
  constructor
  · intro h p hp
    obtain ⟨m, hm, e⟩:=List.getElem_of_mem hp
    have:=h m hm
    rw [getD_lnsl l m hm] at e
    rw [← e]
    exact this
  · intro h m hm
    have:=h _ (List.getElem_mem hm)
    rw [getD_lnsl l m hm] at this
    exact this
structure PGood (r : List Pc) : Prop where
  up : Up (us r)
  pos : ∀ m, m < r.length → 1 ≤ ln r m
  inc : ∀ m, 0 < m → m < r.length → sl r (m - 1) < sl r m
theorem made_gen (a v : Int) {l : List Pc} (hl : l.length ≤ 1000) (hb : okL l) : ∃ s r, List.Perm (us r) (us l) ∧ (PGood r ∧ r.length ≤ l.length) ∧ Evt (fun k => convexpl_made.f k a v l) (madeR a v r s) := by
  obtain ⟨s, s1, s2, s3⟩:=sorts Wlts cmps l (by omega)
  have ls:=St.length Wlts s2
  have hbs : okL s:=okL_mem.2 (fun p hp => okL_mem.1 hb p ((St.mem Wlts s2 p).1 hp))
  obtain ⟨r, r1, r2⟩:=made_l0g a v (t:=s) s1 (by omega) hbs s.length 0 [] (by omega) (Mad.nil s)
  have e : us r = us s:=by
    have:=r1.un
    rwa [List.take_length] at this
  refine ⟨s, r, e ▸ us_perm s2, ⟨⟨e ▸ srt_up s1, r1.pos, r1.inc⟩, by have:=r1.len; omega⟩, ?_⟩
  simp only [convexpl_made.f]
  refine Evt.bind s3 ?_
  rw [← ls]
  exact r2
theorem clone_eqL (l : List Pc) (hl : l.length ≤ 1000) : api_ConvexPiece_89.f l = some l := by
  simp only [api_ConvexPiece_89.f, Option.bind_some, List.length_nil, List.nil_append]
  rw [if_pos (by omega)]
def cutn (p : Pc) (t : List Pc) (n : Int) : List Pc := if p.f0 = n then t else (⟨p.f0 - n, p.f1⟩ : Pc) :: t
theorem shorter_eq (p : Pc) (t : List Pc) (n : Int) (hl : t.length ≤ 900) (h1 : 0 ≤ n) (h2 : n ≤ p.f0) (h3 : p.f0 ≤ 2000000) : convexpl_shorter.f (p :: t) n = some (cutn p t n) := by
  simp only [convexpl_shorter.f]
  rw [clone_eqL (p :: t) (by simp <;> omega)]
  simp only [Option.bind_some]
  rw [if_pos (by simp <;> omega)]
  have e : rd_T158 (p :: t) 0 = p:=rfl
  rw [e, wrap64_of (x:=p.f0 - n) (by omega) (by omega)]
  have e2 : ((p :: t).set (0 : Int).toNat (⟨p.f0 - n, p.f1⟩ : Pc)) = (⟨p.f0 - n, p.f1⟩ : Pc) :: t:=rfl
  rw [e2]
  have e3 : rd_T158 ((⟨p.f0 - n, p.f1⟩ : Pc) :: t) 0 = ⟨p.f0 - n, p.f1⟩:=rfl
  rw [e3]
  unfold cutn
  by_cases c : p.f0 = n
  · rw [if_pos c, if_pos (show p.f0 - n = 0 by omega), if_pos (by simp <;> omega)]
    rfl
  · rw [if_neg c, if_neg (show ¬ p.f0 - n = 0 by omega)]
theorem us_cutn (p : Pc) (t : List Pc) (n : Nat) (h2 : (n : Int) ≤ p.f0) : us (p :: t) = List.replicate n p.f1 ++ us (cutn p t n) := by
  unfold cutn
  by_cases c : p.f0 = n
  · rw [if_pos c, us_cons, c]
    simp
  · rw [if_neg c, us_cons, us_cons, ← List.append_assoc, List.replicate_append_replicate]
    congr 2
    show p.f0.toNat = n + (p.f0 - n).toNat
    omega
theorem zip_rep (n : Nat) (x y : Int) (A B : List Int) : List.zipWith (fun a b => a + b) (List.replicate n x ++ A) (List.replicate n y ++ B) = List.replicate n (x + y) ++ List.zipWith (fun a b => a + b) A B := by
  induction n with
 |zero => simp
 |succ n ih => simp only [List.replicate_succ, List.cons_append, List.zipWith_cons_cons, ih]
def okA (l : List Pc) : Prop := ∀ p ∈ l, (1 ≤ p.f0 ∧ p.f0 ≤ 2000000) ∧ -10000000 ≤ p.f1 ∧ p.f1 ≤ 10000000
theorem okA_cutn {p : Pc} {t : List Pc} {n : Int} (h : okA (p :: t)) (h1 : 0 ≤ n) (h2 : n ≤ p.f0) : okA (cutn p t n) := by
  unfold cutn
  split
  · exact fun q hq => h q (List.mem_cons_of_mem _ hq)
  · rename_i c
    intro q hq
    have hp:=h p (by simp)
    rcases List.mem_cons.1 hq with rfl|hq
    · refine ⟨⟨?_, ?_⟩, hp.2⟩
      · show 1 ≤ p.f0 - n
        omega
      · show p.f0 - n ≤ 2000000
        omega
    · exact h q (List.mem_cons_of_mem _ hq)
theorem cutn_len (p : Pc) (t : List Pc) (n : Int) : (cutn p t n).length = if p.f0 = n then t.length else t.length + 1 := by
  unfold cutn
  split <;> simp
def madeQ (a v : Int) (r : List Pc) : Int × Int × List Pc × Int := if cvErr a v r = 0 then (a, v, r, 0) else (0, 0, [], 2)
theorem madeQ_of (a v : Int) (r t : List Pc) : ((madeR a v r t).1, (madeR a v r t).2.1, (madeR a v r t).2.2.1, (madeR a v r t).2.2.2.1) = madeQ a v r := by
  unfold madeR madeQ
  split <;> rfl
section
variable (lo f0 f1 g0 g1 V1 V2 : Int) (f2 g2 : List Pc) (h1 : Evt (fun k => convexpl_value.f k f0 f1 f2 lo) V1) (h2 : Evt (fun k => convexpl_value.f k g0 g1 g2 lo) V2) (hV : -9223372036854775808 ≤ V1 + V2 ∧ V1 + V2 ≤ 9223372036854775807)
include h1 h2 hV
theorem Add_end (A B acc : List Pc) (hl : acc.length ≤ 1000) (hb : okL acc) (hz : List.zipWith (fun a b => a + b) (us A) (us B) = []) (b : Bool) (hb2 : b = false) :
    ∃ r, List.Perm (us r) (us acc ++ List.zipWith (fun a b => a + b) (us A) (us B)) ∧ PGood r ∧ Evt (fun k => convexpl_Add.j1 k lo A B acc b f0 f1 f2 g0 g1 g2) (madeQ lo (V1 + V2) r):=by
  obtain ⟨s, r, r1, r2, r3⟩:=made_gen lo (V1 + V2) hl hb
  refine ⟨r, by rw [hz, List.append_nil]; exact r1, r2.1, Evt.succ ?_⟩
  subst hb2
  simp only [convexpl_Add.j1]
  refine Evt.ite_neg (by simp) (Evt.bind h1 (Evt.bind h2 ?_))
  rw [wrap64_of hV.1 hV.2]
  exact Evt.bind r3 (Evt.of_eq (madeQ_of _ _ _ _))
theorem Add_l0 : ∀ d (A B acc : List Pc), A.length + B.length ≤ d → acc.length + d ≤ 500 → okA A → okA B → okL acc →
    ∃ r, List.Perm (us r) (us acc ++ List.zipWith (fun a b => a + b) (us A) (us B)) ∧ PGood r ∧ Evt (fun k => convexpl_Add.l0 k lo A B acc f0 f1 f2 g0 g1 g2) (madeQ lo (V1 + V2) r):=by
  intro d
  induction d with
 |zero =>
    intro A B acc hd ha oA oB oacc
    obtain rfl : A = []:=List.length_eq_zero_iff.1 (by omega)
    obtain ⟨r, r1, r2, r3⟩:=Add_end lo f0 f1 g0 g1 V1 V2 f2 g2 h1 h2 hV [] B acc (by omega) oacc (by simp [us_nil]) false rfl
    refine ⟨r, r1, r2, Evt.succ ?_⟩
    simp only [convexpl_Add.l0]
    exact Evt.ite_neg (by simp) r3
 |succ d ih =>
    intro A B acc hd ha oA oB oacc
    cases A with
   |nil =>
      obtain ⟨r, r1, r2, r3⟩:=Add_end lo f0 f1 g0 g1 V1 V2 f2 g2 h1 h2 hV [] B acc (by omega) oacc (by simp [us_nil]) false rfl
      refine ⟨r, r1, r2, Evt.succ ?_⟩
      simp only [convexpl_Add.l0]
      exact Evt.ite_neg (by simp) r3
   |cons p A =>
      cases B with
     |nil =>
        obtain ⟨r, r1, r2, r3⟩:=Add_end lo f0 f1 g0 g1 V1 V2 f2 g2 h1 h2 hV (p :: A) [] acc (by omega) oacc (by simp [us_nil]) _ (show decide ((([] : List Pc).length : Int) > 0) = false by simp)
        refine ⟨r, r1, r2, Evt.succ ?_⟩
        simp only [convexpl_Add.l0]
        exact Evt.ite_pos (by simp <;> omega) r3
     |cons q B =>
        have hp:=oA p (by simp)
        have hq:=oB q (by simp)
        obtain ⟨n, hn⟩ : ∃ n : Nat, mn p.f0 q.f0 = (n : Int):=⟨(mn p.f0 q.f0).toNat, by unfold mn; split <;> omega⟩
        have hn1 : (n : Int) ≤ p.f0 ∧ (n : Int) ≤ q.f0 ∧ 1 ≤ (n : Int) ∧ (p.f0 = n ∨ q.f0 = n):=by rw [← hn]; unfold mn; split <;> omega
        obtain ⟨n1, n2, n3, n4⟩:=hn1
        simp only [List.length_cons] at hd
        have l1:=cutn_len p A n
        have l2:=cutn_len q B n
        have hd' : (cutn p A n).length + (cutn q B n).length ≤ d:=by
          rw [l1, l2]
          split <;> split <;> omega
        have oacc' : okL (acc ++ [(⟨(n : Int), p.f1 + q.f1⟩ : Pc)]):=by
          rw [okL_mem] at oacc ⊢
          intro x hx
          rcases List.mem_append.1 hx with hx|hx
          · exact oacc x hx
          · simp at hx
            subst hx
            show 0 ≤ (n : Int) ∧ (n : Int) ≤ 2000000
            omega
        obtain ⟨r, r1, r2, r3⟩:=ih (cutn p A n) (cutn q B n) (acc ++ [(⟨(n : Int), p.f1 + q.f1⟩ : Pc)]) hd' (by simp <;> omega) (okA_cutn oA (by omega) n1) (okA_cutn oB (by omega) n2) oacc'
        refine ⟨r, ?_, r2, Evt.succ ?_⟩
        · rw [us_cutn p A n n1, us_cutn q B n n2, zip_rep]
          rw [us_app, us_cons, us_nil, List.append_nil, List.append_assoc] at r1
          have e : ((⟨(n : Int), p.f1 + q.f1⟩ : Pc)).f0.toNat = n:=by simp
          rw [e] at r1
          exact r1
        · simp only [convexpl_Add.l0]
          refine Evt.ite_pos (by simp <;> omega) (Evt.succ ?_)
          simp only [convexpl_Add.j1]
          have e1 : rd_T158 (p :: A) 0 = p:=rfl
          have e2 : rd_T158 (q :: B) 0 = q:=rfl
          rw [e1, e2, hn, shorter_eq p A n (by omega) (by omega) n1 (by omega), shorter_eq q B n (by omega) (by omega) n2 (by omega), wrap64_of (x:=p.f1 + q.f1) (by omega) (by omega)]
          exact Evt.ite_pos (by simp <;> omega) (Evt.ite_pos (by simp <;> omega) (Evt.ite_pos (by simp <;> omega) (Evt.ite_pos (by omega) r3)))
end
theorem both_ev (a v : Int) (l : List Pc) (a' v' : Int) (l' : List Pc) : Evt (fun k => convexpl_both.f k a v l a' v' l') (if cvErr a v l = 0 then cvErr a' v' l' else cvErr a v l) := by
  simp only [convexpl_both.f]
  refine Evt.bind (CCheck_ev a v l) ?_
  by_cases c : cvErr a v l = 0
  · rw [if_pos c]
    exact Evt.ite_pos c (Evt.bind (CCheck_ev a' v' l') (Evt.pure _))
  · rw [if_neg c]
    exact Evt.ite_neg c (Evt.pure _)
theorem up_zip : ∀ (A B : List Int), Up A → Up B → Up (List.zipWith (fun a b => a + b) A B) := by
  intro A
  induction A with
 |nil => intro B _ _; simp
 |cons a A ih =>
    intro B hA hB
    cases B with
   |nil => simp
   |cons b B =>
      obtain ⟨a1, a2⟩:=List.pairwise_cons.1 hA
      obtain ⟨b1, b2⟩:=List.pairwise_cons.1 hB
      rw [List.zipWith_cons_cons]
      refine List.pairwise_cons.2 ⟨fun x hx => ?_, ih B a2 b2⟩
      obtain ⟨i, hi, e⟩:=List.getElem_of_mem hx
      rw [List.getElem_zipWith] at e
      rw [List.length_zipWith] at hi
      have h1:=a1 _ (List.getElem_mem (show i < A.length by omega))
      have h2:=b1 _ (List.getElem_mem (show i < B.length by omega))
      omega
theorem sm_zip : ∀ (A B : List Int) (i : Nat), i ≤ A.length → i ≤ B.length → sm (List.zipWith (fun a b => a + b) A B) i = sm A i + sm B i := by
  intro A
  induction A with
 |nil =>
    intro B i h1 _
    obtain rfl : i = 0:=by simpa using h1
    simp [sm]
 |cons a A ih =>
    intro B i h1 h2
    cases B with
   |nil =>
      obtain rfl : i = 0:=by simpa using h2
      simp [sm]
   |cons b B =>
      cases i with
     |zero => simp [sm]
     |succ i =>
        rw [List.zipWith_cons_cons, sm_cons, sm_cons, sm_cons, ih B i (by simpa using h1) (by simpa using h2)]
        omega
theorem up_uniq {A B : List Int} (hA : Up A) (hB : Up B) (h : List.Perm A B) : A = B := List.Perm.eq_of_pairwise (le := fun x y => x ≤ y) (fun a b _ _ h1 h2 => by omega) hA hB h
theorem okA_cv {a v : Int} {l : List Pc} (h : Cv a v l) : okA l := by
  intro p hp
  obtain ⟨m, hm, e⟩:=List.getElem_of_mem hp
  rw [getD_lnsl l m hm] at e
  have:=h.rng m hm
  unfold okP at this
  rw [← e]
  exact ⟨⟨this.1, this.2.1⟩, this.2.2⟩
theorem Add_ev {a v : Int} {l : List Pc} {a' v' : Int} {l' : List Pc} (h : Cv a v l) (h' : Cv a' v' l') {lo hi : Int} (elo : lo = mx a a') (ehi : hi = mn (xs a l l.length) (xs a' l' l'.length)) :
    if lo > hi then Evt (fun k => convexpl_Add.f k a v l a' v' l') (0, 0, [], 8) else ∃ r, Evt (fun k => convexpl_Add.f k a v l a' v' l') (madeQ lo (fv a v l lo l.length + fv a' v' l' lo l'.length) r) ∧ PGood r ∧ ((us r).length : Int) = hi - lo ∧ (∀ s ∈ us r, ∃ x ∈ l, ∃ y ∈ l', s = x.f1 + y.f1) ∧ (cvErr lo (fv a v l lo l.length + fv a' v' l' lo l'.length) r = 0 → xs lo r r.length = hi ∧ ∀ (i D D' : Nat), lo + i ≤ hi → lo = a + D → lo = a' + D' → F lo (fv a v l lo l.length + fv a' v' l' lo l'.length) r i = F a v l (D + i) + F a' v' l' (D' + i)):=by
  have hb:=(h.pre l.length (Nat.le_refl _)).1
  have hb':=(h'.pre l'.length (Nat.le_refl _)).1
  have ha:=(h.pre 0 (by omega)).1
  have ha':=(h'.pre 0 (by omega)).1
  have ha0 : xs a l 0 = a:=rfl
  have ha0' : xs a' l' 0 = a':=rfl
  have hboth:=both_ev a v l a' v' l'
  rw [if_pos (Cv_err h), Cv_err h'] at hboth
  have m1 : a ≤ lo ∧ a' ≤ lo ∧ (lo = a ∨ lo = a'):=by rw [elo]; unfold mx; split <;> omega
  have m2 : hi ≤ xs a l l.length ∧ hi ≤ xs a' l' l'.length:=by rw [ehi]; unfold mn; split <;> omega
  by_cases c : lo > hi
  · rw [if_pos c]
    simp only [convexpl_Add.f]
    refine Evt.bind hboth (Evt.ite_pos rfl (Evt.bind (high_ev h) (Evt.bind (high_ev h') ?_)))
    rw [← elo, ← ehi]
    exact Evt.ite_pos c (Evt.pure _)
  · rw [if_neg c]
    obtain ⟨A, A1, A2, A3, A4, A5⟩:=cut_ev h m1.1 (by omega) m2.1
    obtain ⟨B, B1, B2, B3, B4, B5⟩:=cut_ev h' m1.2.1 (by omega) m2.2
    have cA:=Sub.cv h A1 A3 A2.inc
    have cB:=Sub.cv h' B1 B3 B2.inc
    have y1:=(cA.pre 0 (by omega)).2
    have y2:=(cB.pre 0 (by omega)).2
    simp only [ys] at y1 y2
    have lA:=us_length cA
    have lB:=us_length cB
    obtain ⟨r, r1, r2, r3⟩:=Add_l0 lo a v a' v' _ _ l l' (value_ev h m1.1 (by omega)) (value_ev h' m1.2.1 (by omega)) ⟨by have:=y1.1; have:=y2.1; omega, by have:=y1.2; have:=y2.2; omega⟩ (A.length + B.length) A B [] (Nat.le_refl _) (by simp; omega) (okA_cv cA) (okA_cv cB) (fun m hm => by simp at hm)
    have eu : us r = List.zipWith (fun a b => a + b) (us A) (us B):=up_uniq r2.up (up_zip _ _ (cv_up cA) (cv_up cB)) (by simpa [us_nil] using r1)
    have lz : (us r).length = (us A).length:=by
      rw [eu, List.length_zipWith]
      omega
    have sub : ∀ (a v : Int) (l : List Pc) (A : List Pc), Sub a v l lo A → ∀ z ∈ us A, ∃ x ∈ l, z = x.f1:=by
      intro a v l A hA z hz
      obtain ⟨p, hp, hz⟩:=List.mem_flatMap.1 hz
      have hz:=(List.mem_replicate.1 hz).2
      obtain ⟨m, hm, e⟩:=List.getElem_of_mem hp
      obtain ⟨_, j, hj, _, _, e2⟩:=hA.pc m hm
      refine ⟨l[j], List.getElem_mem hj, ?_⟩
      rw [getD_lnsl A m hm] at e
      rw [getD_lnsl l j hj, hz, ← e]
      exact e2
    refine ⟨r, ?_, r2, by omega, fun z hz => ?_, fun e => ?_⟩
    · simp only [convexpl_Add.f]
      refine Evt.bind hboth (Evt.ite_pos rfl (Evt.bind (high_ev h) (Evt.bind (high_ev h') ?_)))
      rw [← elo, ← ehi]
      exact Evt.ite_neg c (Evt.bind A5 (Evt.bind B5 r3))
    · rw [eu] at hz
      obtain ⟨m, hm, e⟩:=List.getElem_of_mem hz
      rw [List.getElem_zipWith] at e
      rw [List.length_zipWith] at hm
      obtain ⟨x, x1, x2⟩:=sub a v l A A1 _ (List.getElem_mem (l:=us A) (n:=m) (by omega))
      obtain ⟨y, y1, y2⟩:=sub a' v' l' B B1 _ (List.getElem_mem (l:=us B) (n:=m) (by omega))
      exact ⟨x, x1, y, y1, by rw [← x2, ← y2]; exact e.symm⟩
    · have hr:=cvErr_ok e
      have lr:=us_length hr
      refine ⟨by omega, fun i D D' hi1 hD hD' => ?_⟩
      have f1:=Sub.val h A1 cA (x:=lo + i) (by omega) (by omega)
      have f2:=Sub.val h' B1 cB (x:=lo + i) (by omega) (by omega)
      have g1:=F_us cA i (by omega)
      have g2:=F_us cB i (by omega)
      have e1 : F a v l (D + i) = F lo (fv a v l lo l.length) A i:=by
        unfold F
        rw [f1]
        congr 1
        omega
      have e2 : F a' v' l' (D' + i) = F lo (fv a' v' l' lo l'.length) B i:=by
        unfold F
        rw [f2]
        congr 1
        omega
      rw [F_us hr i (by omega), eu, sm_zip _ _ i (by omega) (by omega), e1, e2, g1, g2]
      omega
theorem grow_eq (n : Nat) (h : n ≤ 1000) : api_ConvexPiece_120.f ([] : List Pc) (n : Int) = some [] := by
  simp only [api_ConvexPiece_120.f]
  rw [if_neg (by omega)]
  by_cases c : (n : Int) > 0
  · rw [if_pos c, if_pos (by omega), if_pos (by simp; omega)]
    simp only [Option.bind_some]
    rw [if_pos (by omega)]
    simp
  · rw [if_neg c]
theorem concat_ev (l l' : List Pc) (hl : l.length ≤ 64) (hl' : l'.length ≤ 64) : Evt (fun k => api_ConvexPiece_109.f k [l, l']) (l ++ l') := by
  simp only [api_ConvexPiece_109.f]
  have e0 : rd_L2 [l, l'] 0 = l:=rfl
  have e1 : rd_L2 [l, l'] 1 = l':=rfl
  have w1 : wrap64 (0 + 1) = 1:=by unfold wrap64; omega
  have w2 : wrap64 (1 + 1) = 2:=by unfold wrap64; omega
  have w3 : wrap64 (0 + (l.length : Int)) = l.length:=by unfold wrap64; omega
  have w4 : wrap64 ((l.length : Int) + (l'.length : Int)) = ((l.length + l'.length : Nat) : Int):=by unfold wrap64; omega
  refine Evt.succ ?_
  simp only [api_ConvexPiece_109.l0]
  rw [e0, w1, w3]
  refine Evt.ite_pos (by simp) (Evt.ite_pos (by omega) (Evt.ite_pos (by simp) (Evt.ite_neg (by omega) (Evt.succ ?_))))
  simp only [api_ConvexPiece_109.l0]
  rw [e1, w2, w4]
  refine Evt.ite_pos (by simp) (Evt.ite_pos (by omega) (Evt.ite_pos (by simp) (Evt.ite_neg (by omega) (Evt.succ ?_))))
  simp only [api_ConvexPiece_109.l0]
  refine Evt.ite_neg (by simp) (Evt.bindo (grow_eq _ (by omega)) (Evt.succ ?_))
  simp only [api_ConvexPiece_109.l1]
  rw [e0, w1]
  refine Evt.ite_pos (by simp) (Evt.ite_pos (by omega) (Evt.ite_pos (by simp) (Evt.ite_pos (by simp; omega) (Evt.succ ?_))))
  simp only [api_ConvexPiece_109.l1]
  rw [e1, w2]
  refine Evt.ite_pos (by simp) (Evt.ite_pos (by omega) (Evt.ite_pos (by simp) (Evt.ite_pos (by simp; omega) (Evt.succ ?_))))
  simp only [api_ConvexPiece_109.l1]
  exact Evt.ite_neg (by simp) (Evt.of_eq (by simp))
theorem okL_cv {a v : Int} {l : List Pc} (h : Cv a v l) : okL l := fun m hm => by have := h.rng m hm; unfold okP at this; omega
structure Least2 (f g W : Nat → Int) (N M : Nat) : Prop where
  le : ∀ i j, i ≤ N → j ≤ M → W (i + j) ≤ f i + g j
  some : ∀ k, k ≤ N + M → ∃ i j, i + j = k ∧ i ≤ N ∧ j ≤ M ∧ W k = f i + g j
theorem Convolve_ev {a v : Int} {l : List Pc} {a' v' : Int} {l' : List Pc} (h : Cv a v l) (h' : Cv a' v' l') {N N' : Nat} (hN : xs a l l.length = a + N) (hN' : xs a' l' l'.length = a' + N') :
    ∃ r W, Evt (fun k => convexpl_Convolve.f k a v l a' v' l') (madeQ (a + a') (v + v') r) ∧ Least2 (F a v l) (F a' v' l') W N N' ∧ PGood r ∧ r.length ≤ l.length + l'.length ∧ List.Perm (us r) (us l ++ us l') ∧ (cvErr (a + a') (v + v') r = 0 → xs (a + a') r r.length = a + a' + ((N + N' : Nat) : Int) ∧ ∀ k, k ≤ N + N' → F (a + a') (v + v') r k = W k):=by
  have hl:=h.len
  have hl':=h'.len
  have ha:=h.pre 0 (by omega)
  have ha':=h'.pre 0 (by omega)
  obtain ⟨a1, a2, a3⟩:=ha
  obtain ⟨b1, b2, b3⟩:=ha'
  simp only [xs, ys] at a1 a2 a3 b1 b2 b3
  have hboth:=both_ev a v l a' v' l'
  rw [if_pos (Cv_err h), Cv_err h'] at hboth
  have ob : okL (l ++ l'):=okL_mem.2 (fun p hp => by
    rcases List.mem_append.1 hp with hp|hp
    · exact okL_mem.1 (okL_cv h) p hp
    · exact okL_mem.1 (okL_cv h') p hp)
  obtain ⟨s, r, r1, r2, r3⟩:=made_gen (a + a') (v + v') (l:=l ++ l') (by simp; omega) ob
  rw [us_app] at r1
  have eu:=mrg_uniq (cv_up h) (cv_up h') r2.1.up r1
  have lA:=us_length h
  have lB:=us_length h'
  refine ⟨r, fun k => v + v' + sm (mrg (us l) (us l')) k, ?_, ⟨fun i j hi hj => ?_, fun k hk => ?_⟩, r2.1, by have:=r2.2; rwa [List.length_append] at this, r1, fun e => ?_⟩
  · simp only [convexpl_Convolve.f]
    refine Evt.bind hboth (Evt.ite_pos rfl (Evt.bind (concat_ev l l' hl hl') ?_))
    rw [wrap64_of (x:=a + a') (by omega) (by omega), wrap64_of (x:=v + v') (by omega) (by omega)]
    exact Evt.bind r3 (Evt.of_eq (madeQ_of _ _ _ _))
  · rw [F_us h i (by omega), F_us h' j (by omega)]
    have:=mrg_least (us l) (us l') (cv_up h) (cv_up h') (i + j) i j rfl (by omega) (by omega)
    show v + v' + sm (mrg (us l) (us l')) (i + j) ≤ _
    omega
  · obtain ⟨i, j, e1, e2, e3, e4⟩:=mrg_some (us l) (us l') k (by omega)
    refine ⟨i, j, e1, by omega, by omega, ?_⟩
    show v + v' + sm (mrg (us l) (us l')) k = _
    rw [F_us h i (by omega), F_us h' j (by omega), e4]
    omega
  · have hr:=cvErr_ok e
    have lr:=us_length hr
    have lz : (us r).length = N + N':=by
      rw [eu, mrg_len]
      omega
    refine ⟨by omega, fun k hk => ?_⟩
    rw [F_us hr k (by omega), eu]
end Go.Proofs.Ytdphghdjljplpaa.ETopStorage
