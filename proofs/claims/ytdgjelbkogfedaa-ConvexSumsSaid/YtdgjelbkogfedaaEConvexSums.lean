import Derived.Test.YtdgjelbkogfedaaDConvexSums
import Derived.Test.YtdgjelbkogfedaaZConvexSums
import Derived.Test.YtdgjelbkogfedaaXConvexSums
namespace Go.Proofs.Ytdgjelbkogfedaa.EConvexSums
open Go.RowKit Go.Proofs.YtdgjelbkogfedaaW.PrintWords Go.Proofs.YtdgjelbkogfedaaW.PrintMore Go.Proofs.Ytdgjelbkogfedaa.Evs Go.Proofs.Ytdgjelbkogfedaa.PConvexSums Go.Proofs.Ytdgjelbkogfedaa.CConvexSums Go.Proofs.Ytdgjelbkogfedaa.DConvexSums Go.Proofs.Ytdgjelbkogfedaa.ZConvexSums Go.Proofs.Ytdgjelbkogfedaa.XConvexSums
set_option linter.unusedVariables false
set_option linter.unusedSimpArgs false
section
variable {E : Type} {lt : E → E → Bool}
theorem St.tail {x : E} {a b : List E} (h : St lt (x :: a) (x :: b)) : St lt a b := by
  intro z
  have:=h z
  rw [List.filter_cons, List.filter_cons] at this
  split at this
  · exact List.cons.inj this |>.2
  · exact this
theorem Srt.uniq (W : Weak lt) : ∀ (s r : List E), s.Pairwise (fun x y => lt x y = true) → Srt lt r → St lt s r → r = s := by
  intro s
  induction s with
 |nil =>
    intro r _ _ h
    have:=St.length W h
    exact List.eq_nil_of_length_eq_zero this
 |cons x s ih =>
    intro r hs hr h
    obtain ⟨hx, hs'⟩:=List.pairwise_cons.1 hs
    cases r with
   |nil =>
      have:=St.length W h
      simp at this
   |cons y r =>
      obtain ⟨hy, hr'⟩:=List.pairwise_cons.1 hr
      have e : y = x:=by
        have m1 : y ∈ x :: s:=(St.mem W h y).1 (by simp)
        have m2 : x ∈ y :: r:=(St.mem W h x).2 (by simp)
        rcases List.mem_cons.1 m1 with e|m1
        · exact e
        · rcases List.mem_cons.1 m2 with e|m2
          · exact e.symm
          · have h1:=hx y m1
            have h2:=hy x m2
            rw [h1] at h2
            cases h2
      subst e
      rw [ih r hs' hr' (St.tail h)]
theorem St.rev (W : Weak lt) : ∀ (l : List E), l.Pairwise (fun x y => lt y x = true) → St lt l l.reverse := by
  intro l
  induction l with
 |nil => intro _; exact St.refl _
 |cons x l ih =>
    intro h
    obtain ⟨hx, h'⟩:=List.pairwise_cons.1 h
    have c:=St.comm W (a:=[x]) (b:=l) (fun p hp y hy => by simp at hp; subst hp; exact hx y hy)
    have:=c.trans ((ih h').app (St.refl (lt:=lt) [x]))
    simpa using this
end
def lts (p q : Pc) : Bool := decide (p.f1 < q.f1)
theorem Wlts : Weak lts := ⟨fun x => by simp [lts], fun {x y z} h1 h2 => by simp [lts] at *; omega, fun {x y z} h1 h2 => by simp [lts] at *; omega⟩
theorem cmps (p q : Pc) : ∃ c : Int, Evt (fun _ => convexpl_made_1.f p.f0 p.f1 q.f0 q.f1) c ∧ (c < 0 ↔ lts p q = true) := by
  simp only [convexpl_made_1.f, cmp_Compare_int.f, cmp_isNaN_int.f, Option.bind_some, bne_self_eq_false, lts, decide_eq_true_eq]
  by_cases c1 : p.f1 < q.f1
  · exact ⟨-1, Evt.ofo (by simp [c1]), by omega⟩
  · by_cases c2 : p.f1 > q.f1
    · exact ⟨1, Evt.ofo (by simp [c1, c2]), by omega⟩
    · exact ⟨0, Evt.ofo (by simp [c1, c2]), by omega⟩
structure Strict (s : List Pc) : Prop where
  len : s.length ≤ 1000000
  pos : ∀ n, n < s.length → ln s n ≠ 0
  inc : ∀ n, 0 < n → n < s.length → sl s (n - 1) < sl s n
theorem getD_lnsl (s : List Pc) (n : Nat) (h : n < s.length) : s[n] = (⟨ln s n, sl s n⟩ : Pc) := by
  have : s.getD n zPc = s[n]:=by simp [List.getD_eq_getElem?_getD, h]
  unfold ln sl
  rw [this]
theorem tk (s : List Pc) (n : Nat) (h : n < s.length) : s.take n ++ [(⟨ln s n, sl s n⟩ : Pc)] = s.take (n + 1) := by
  rw [List.take_succ_eq_append_getElem h, getD_lnsl s n h]
theorem sl_take (s : List Pc) (n i : Nat) (h : i < n) : sl (s.take n) i = sl s i := by
  unfold sl
  simp [List.getD_eq_getElem?_getD, List.getElem?_take, h]
theorem Strict.pw {s : List Pc} (h : Strict s) : s.Pairwise (fun x y => lts x y = true) := by
  have mono : ∀ i j, i < j → j < s.length → sl s i < sl s j:=by
    intro i j
    induction j with
   |zero => omega
   |succ j ih =>
      intro h1 h2
      have:=h.inc (j + 1) (by omega) h2
      simp only [Nat.add_sub_cancel] at this
      by_cases e : i = j
      · rw [e]
        exact this
      · have:=ih (by omega) (by omega)
        omega
  rw [List.pairwise_iff_getElem]
  intro i j hi hj hij
  rw [getD_lnsl s i hi, getD_lnsl s j hj]
  exact decide_eq_true (mono i j hij hj)
def madeR (a v : Int) (s t : List Pc) : Int × Int × List Pc × Int × List Pc := if cvErr a v s = 0 then (a, v, s, 0, t) else (0, 0, [], 2, t)
theorem made_l0 (a v : Int) {s t : List Pc} (h : Strict s) : ∀ n, n ≤ s.length → Evt (fun k => convexpl_made.l0 k t s (s.length : Int) (n : Int) a v (s.take n)) (madeR a v s t) := by
  have hl:=h.len
  refine down ?_ ?_
  · refine Evt.succ ?_
    simp only [convexpl_made.l0]
    rw [List.take_length]
    refine Evt.ite_neg (by omega) (Evt.bind (CCheck_ev a v s) (Evt.ite (fun c => ?_) (fun c => ?_)))
    · unfold madeR
      rw [if_pos c]
      exact Evt.pure _
    · unfold madeR
      rw [if_neg c]
      exact Evt.pure _
  · intro n hn ih
    have hz:=h.pos n hn
    have lt_ : (s.take n).length = n:=by rw [List.length_take]; omega
    refine Evt.succ ?_
    simp only [convexpl_made.l0]
    simp only [rdc0, rdc1, lt_]
    rw [wrap64_nat (n:=n) (by omega), tk s n hn]
    refine Evt.ite_pos (by omega) (Evt.ite_pos (by omega) (Evt.ite_pos (by omega) (Evt.ite_neg hz ?_)))
    by_cases c : n = 0
    · subst c
      exact Evt.ite_neg (by unfold wrap64; omega) (Evt.ite_pos (by omega) ih)
    · rw [pred_castC (by omega) (by omega)]
      refine Evt.ite_pos (by omega) (Evt.ite_pos (by omega) (Evt.ite_pos (by omega) ?_))
      simp only [rdc0, rdc1]
      have:=h.inc n (by omega) hn
      rw [sl_take s n (n - 1) (by omega)]
      exact Evt.ite_neg (by omega) (Evt.ite_pos (by omega) ih)
theorem made_ev (a v : Int) {l s : List Pc} (hs : St lts l s) (h : Strict s) : Evt (fun k => convexpl_made.f k a v l) (madeR a v s s) := by
  have hl:=h.len
  have ls:=St.length Wlts hs
  obtain ⟨r, r1, r2, r3⟩:=sorts Wlts cmps l (by omega)
  obtain rfl : r = s:=Srt.uniq Wlts s r h.pw r1 (hs.symm.trans r2)
  simp only [convexpl_made.f]
  refine Evt.bind r3 ?_
  rw [← ls]
  have:=made_l0 a v (t:=r) h 0 (by omega)
  exact this
theorem ln_app {l t : List Pc} {n : Nat} (h : n < l.length) : ln (l ++ t) n = ln l n := by
  unfold ln
  simp [List.getD_eq_getElem?_getD, List.getElem?_append_left h]
theorem sl_app {l t : List Pc} {n : Nat} (h : n < l.length) : sl (l ++ t) n = sl l n := by
  unfold sl
  simp [List.getD_eq_getElem?_getD, List.getElem?_append_left h]
theorem ln_end (l : List Pc) (p : Pc) : ln (l ++ [p]) l.length = p.f0 := by
  unfold ln
  simp [List.getD_eq_getElem?_getD]
theorem sl_end (l : List Pc) (p : Pc) : sl (l ++ [p]) l.length = p.f1 := by
  unfold sl
  simp [List.getD_eq_getElem?_getD]
theorem xs_app (a : Int) {l t : List Pc} : ∀ n, n ≤ l.length → xs a (l ++ t) n = xs a l n := by
  intro n
  induction n with
 |zero => intro _; rfl
 |succ n ih =>
    intro hn
    simp only [xs]
    rw [ih (by omega), ln_app (by omega)]
structure Cut (a : Int) (l : List Pc) (lo hi : Int) (acc : List Pc) (n : Nat) : Prop where
  len : acc.length ≤ n
  fin : xs lo acc acc.length = mx lo (mn (xs a l n) hi)
  pc : ∀ m, m < acc.length → 1 ≤ ln acc m ∧ ∃ j, j < n ∧ xs a l j ≤ xs lo acc m ∧ xs lo acc (m + 1) ≤ xs a l (j + 1) ∧ sl acc m = sl l j
  inc : ∀ m, 0 < m → m < acc.length → sl acc (m - 1) < sl acc m
theorem cut_l0 {a v : Int} {l : List Pc} (h : Cv a v l) {lo hi : Int} (h1 : a ≤ lo) (h2 : lo ≤ hi) (h3 : hi ≤ xs a l l.length) : ∀ d n (acc : List Pc), n + d = l.length → Cut a l lo hi acc n → ∃ r, Cut a l lo hi r l.length ∧ Evt (fun k => convexpl_cut.l0 k lo hi acc (xs a l n) l (l.length : Int) (n : Int)) r := by
  have hl:=h.len
  have ha:=(h.pre 0 (by omega)).1
  have ha0 : xs a l 0 = a:=rfl
  have hb:=(h.pre l.length (Nat.le_refl _)).1
  intro d
  induction d with
 |zero =>
    intro n acc hn hc
    obtain rfl : n = l.length:=by omega
    refine ⟨acc, hc, Evt.succ ?_⟩
    simp only [convexpl_cut.l0]
    exact Evt.ite_neg (by omega) (Evt.pure _)
 |succ d ih =>
    intro n acc hn hc
    have hr:=(h.rng n (by omega)).1
    have hp:=(h.pre n (by omega)).1
    have hp1:=(h.pre (n + 1) (by omega)).1
    have ex : xs a l (n + 1) = xs a l n + ln l n:=rfl
    have ha':=xs_mono h (i:=0) (j:=n) (by omega) (by omega)
    obtain ⟨c1, c2, c3, c4⟩:=hc
    by_cases c : mx (xs a l n) lo < mn (xs a l (n + 1)) hi
    · obtain ⟨p, ep⟩ : ∃ p : Pc, p = ⟨mn (xs a l (n + 1)) hi - mx (xs a l n) lo, sl l n⟩:=⟨_, rfl⟩
      have e1 : xs lo acc acc.length = mx (xs a l n) lo:=by
        rw [c2]
        revert c
        unfold mx mn
        repeat' split
        all_goals omega
      have e2 : xs lo (acc ++ [p]) (acc.length + 1) = mn (xs a l (n + 1)) hi:=by
        simp only [xs]
        rw [xs_app _ _ (Nat.le_refl _), ln_end, e1, ep]
        show mx (xs a l n) lo + (mn (xs a l (n + 1)) hi - mx (xs a l n) lo) = mn (xs a l (n + 1)) hi
        omega
      have cut : Cut a l lo hi (acc ++ [p]) (n + 1):=by
        refine ⟨by simp; omega, ?_, fun m hm => ?_, fun m h0 hm => ?_⟩
        · rw [show (acc ++ [p]).length = acc.length + 1 by simp, e2]
          revert c
          unfold mx mn
          repeat' split
          all_goals omega
        · simp only [List.length_append, List.length_cons, List.length_nil] at hm
          by_cases e : m = acc.length
          · subst e
            rw [ln_end, sl_end, e2, xs_app _ _ (Nat.le_refl _), e1, ep]
            refine ⟨by show 1 ≤ mn (xs a l (n + 1)) hi - mx (xs a l n) lo; omega, n, by omega, ?_, ?_, rfl⟩
            · unfold mx
              split <;> omega
            · unfold mn
              split <;> omega
          · obtain ⟨q1, j, q2, q3, q4, q5⟩:=c3 m (by omega)
            rw [ln_app (by omega), sl_app (by omega), xs_app _ _ (by omega), xs_app _ _ (by omega)]
            exact ⟨q1, j, by omega, q3, q4, q5⟩
        · simp only [List.length_append, List.length_cons, List.length_nil] at hm
          by_cases e : m = acc.length
          · subst e
            obtain ⟨q1, j, q2, q3, q4, q5⟩:=c3 (acc.length - 1) (by omega)
            rw [sl_end, sl_app (by omega), q5, ep]
            exact sl_mono h q2 (by omega)
          · rw [sl_app (by omega), sl_app (by omega)]
            exact c4 m h0 (by omega)
      obtain ⟨r, r1, r2⟩:=ih (n + 1) (acc ++ [p]) (by omega) cut
      refine ⟨r, r1, Evt.succ ?_⟩
      simp only [convexpl_cut.l0, rdc0, rdc1]
      rw [← ex, wrap64_of (x:=xs a l (n + 1)) (by omega) (by omega), wrap64_of (x:=mn (xs a l (n + 1)) hi - mx (xs a l n) lo) (by omega) (by revert c; unfold mx mn; repeat' split; all_goals omega), wrap64_nat (by omega), ← ep]
      exact Evt.ite_pos (by omega) (Evt.ite_pos (by omega) (Evt.ite_pos (by omega) (Evt.ite_pos c (Evt.ite_pos (by omega) r2))))
    · have cut : Cut a l lo hi acc (n + 1):=by
        refine ⟨by omega, ?_, fun m hm => ?_, c4⟩
        · rw [c2]
          revert c
          unfold mx mn
          repeat' split
          all_goals omega
        · obtain ⟨q1, j, q2, q3, q4, q5⟩:=c3 m hm
          exact ⟨q1, j, by omega, q3, q4, q5⟩
      obtain ⟨r, r1, r2⟩:=ih (n + 1) acc (by omega) cut
      refine ⟨r, r1, Evt.succ ?_⟩
      simp only [convexpl_cut.l0, rdc0, rdc1]
      rw [← ex, wrap64_of (x:=xs a l (n + 1)) (by omega) (by omega), wrap64_nat (by omega)]
      exact Evt.ite_pos (by omega) (Evt.ite_pos (by omega) (Evt.ite_pos (by omega) (Evt.ite_neg c r2)))
theorem cut_ev {a v : Int} {l : List Pc} (h : Cv a v l) {lo hi : Int} (h1 : a ≤ lo) (h2 : lo ≤ hi) (h3 : hi ≤ xs a l l.length) : ∃ r, Sub a v l lo r ∧ Strict r ∧ r.length ≤ 64 ∧ xs lo r r.length = hi ∧ Evt (fun k => convexpl_cut.f k a v l lo hi) r := by
  have hl:=h.len
  obtain ⟨r, r1, r2⟩:=cut_l0 h h1 h2 h3 l.length 0 [] (by omega) ⟨by simp, by simp only [xs, List.length_nil]; unfold mx mn; repeat' split; all_goals omega, fun m hm => by simp at hm, fun m _ hm => by simp at hm⟩
  obtain ⟨c1, c2, c3, c4⟩:=r1
  refine ⟨r, ⟨h1, by omega, fun m hm => ?_⟩,⟨by omega, fun m hm => ?_, c4⟩, by omega, ?_, ?_⟩
  · exact c3 m hm
  · have:=(c3 m hm).1
    omega
  · rw [c2]
    unfold mx mn
    repeat' split
    all_goals omega
  · simp only [convexpl_cut.f]
    exact r2
end Go.Proofs.Ytdgjelbkogfedaa.EConvexSums
