import Derived.Test.YtpmaiofgnbgboaaEvs
import Derived.Test.YtpmaiofgnbgboaaHRampRangesy5
namespace Go.Proofs.Ytpmaiofgnbgboaa.BRampRanges
open Go.RowKit Go.Proofs.YtpmaiofgnbgboaaW.PrintWords Go.Proofs.YtpmaiofgnbgboaaW.PrintMore Go.Proofs.Ytpmaiofgnbgboaa.Evs Go.Proofs.Ytpmaiofgnbgboaa.PRampRanges
set_option linter.unusedVariables false
set_option linter.unusedSectionVars false
set_option linter.unusedSimpArgs false
theorem in_eq (a b c : Int) : gridhallref3_In.f a b c = some (decide (b ≤ a ∧ a ≤ c)) := by
  unfold gridhallref3_In.f
  by_cases h : a ≥ b
  · rw [if_pos h]
    congr 1
    exact decide_eq_decide.2 (by omega)
  · rw [if_neg h, decide_eq_false (by omega)]
def okR (x : S30) : Prop := 0 ≤ x.f0 ∧ x.f0 ≤ x.f1 ∧ x.f1 ≤ 100000
theorem rdx (l : List S30) (n : Nat) : rd_T30 l (n : Int) = l.getD n z30 := rfl
theorem wn (n : Nat) (h : n ≤ 1000) : wrap64 ((n : Int) + 1) = ((n + 1 : Nat) : Int) := wrap64_nat (by omega)
def okArg (b u d : Int) : Prop := (0 ≤ b ∧ b ≤ 100000) ∧ (0 ≤ u ∧ u ≤ 100000) ∧ (0 ≤ d ∧ d ≤ 100000)
theorem err_l0 (b u d : Int) (l : List S30) (hl : l.length ≤ 24) : ∀ n, n ≤ l.length → (∀ m, m < n → okR (l.getD m z30)) →
    ∃ e, Evt (fun k => ramp_Check.l0 k b u d l (l.length : Int) (n : Int)) e ∧ Evt (fun k => gridhalllaw3_rampError.l0 k b u d l (l.length : Int) (n : Int)) e ∧
      (e = 0 → (∀ m, m < l.length → okR (l.getD m z30)) ∧ okArg b u d):=by
  refine down ?_ ?_
  · intro hx
    by_cases c : okArg b u d
    · obtain ⟨⟨c1, c2⟩,⟨c3, c4⟩, c5, c6⟩:=c
      refine ⟨0, Evt.succ ?_, Evt.succ ?_, fun _ => ⟨hx, ⟨c1, c2⟩,⟨c3, c4⟩, c5, c6⟩⟩
      · simp only [ramp_Check.l0]
        exact Evt.ite_neg (by omega) (Evt.ite_neg (by omega) (Evt.ite_neg (by omega) (Evt.ite_neg (by omega) (Evt.ite_neg (by omega) (Evt.ite_neg (by omega) (Evt.ite_neg (by omega) (Evt.pure _)))))))
      · simp only [gridhalllaw3_rampError.l0, in_eq, Option.bind_some, decide_eq_true_eq]
        exact Evt.ite_neg (by omega) (Evt.ite_pos ⟨c1, c2⟩ (Evt.ite_pos ⟨c3, c4⟩ (Evt.ite_pos ⟨c5, c6⟩ (Evt.pure _))))
    · refine ⟨4, Evt.succ ?_, Evt.succ ?_, fun h => by omega⟩
      · simp only [ramp_Check.l0]
        refine Evt.ite_neg (by omega) (Evt.ite (fun _ => Evt.pure _) fun _ => Evt.ite (fun _ => Evt.pure _) fun _ => Evt.ite (fun _ => Evt.pure _) fun _ => Evt.ite (fun _ => Evt.pure _) fun _ => Evt.ite (fun _ => Evt.pure _) fun _ => Evt.ite_pos ?_ (Evt.pure _))
        unfold okArg at c
        omega
      · simp only [gridhalllaw3_rampError.l0, in_eq, Option.bind_some, decide_eq_true_eq]
        refine Evt.ite_neg (by omega) (Evt.ite (fun h1 => Evt.ite (fun h2 => Evt.ite (fun h3 => absurd ⟨h1, h2, h3⟩ c) fun _ => Evt.pure _) fun _ => Evt.pure _) fun _ => Evt.pure _)
  · intro n hn ih hx
    by_cases c : okR (l.getD n z30)
    · obtain ⟨e, e1, e2, e3⟩:=ih (fun m hm => by
        by_cases q : m = n
        · subst q; exact c
        · exact hx m (by omega))
      obtain ⟨c1, c2, c3⟩:=c
      refine ⟨e, Evt.succ ?_, Evt.succ ?_, e3⟩
      · simp only [ramp_Check.l0, rdx, wn n (by omega)]
        exact Evt.ite_pos (by omega) (Evt.ite_pos (by omega) (Evt.ite_pos (by omega) (Evt.ite_neg (by omega) (Evt.ite_neg (by omega) (Evt.ite_neg (by omega) e1)))))
      · simp only [gridhalllaw3_rampError.l0, in_eq, Option.bind_some, decide_eq_true_eq, rdx, wn n (by omega)]
        exact Evt.ite_pos (by omega) (Evt.ite_pos (by omega) (Evt.ite_pos (by omega) (Evt.ite_pos ⟨c1, c2⟩ (Evt.ite_neg (by omega) e2))))
    · unfold okR at c
      refine ⟨4, Evt.succ ?_, Evt.succ ?_, fun h => by omega⟩
      · simp only [ramp_Check.l0, rdx]
        refine Evt.ite_pos (by omega) (Evt.ite_pos (by omega) (Evt.ite_pos (by omega) (Evt.ite (fun _ => Evt.pure _) fun _ => Evt.ite (fun _ => Evt.pure _) fun _ => Evt.ite_pos ?_ (Evt.pure _))))
        omega
      · simp only [gridhalllaw3_rampError.l0, in_eq, Option.bind_some, decide_eq_true_eq, rdx]
        refine Evt.ite_pos (by omega) (Evt.ite_pos (by omega) (Evt.ite_pos (by omega) (Evt.ite (fun h => Evt.ite_pos ?_ (Evt.pure _)) fun _ => Evt.pure _)))
        omega
theorem err_ev (b u d : Int) (l : List S30) : ∃ e, Evt (fun k => ramp_Check.f k l b u d) e ∧ Evt (fun k => gridhalllaw3_rampError.f k l b u d) e ∧
    (e = 0 → l.length ≤ 24 ∧ (∀ m, m < l.length → okR (l.getD m z30)) ∧ okArg b u d):=by
  simp only [ramp_Check.f, gridhalllaw3_rampError.f]
  by_cases c : (l.length : Int) > 24
  · exact ⟨2, Evt.ite_pos c (Evt.pure _), Evt.ite_pos c (Evt.pure _), fun h => by omega⟩
  · obtain ⟨e, e1, e2, e3⟩:=err_l0 b u d l (by omega) 0 (by omega) (fun m hm => by omega)
    exact ⟨e, Evt.ite_neg c e1, Evt.ite_neg c e2, fun h => ⟨by omega, e3 h⟩⟩
def fwd (l : List S30) (a u d : Int) : Nat → Int × Int
 |0 => (a, a)
 |t + 1 => let p:=fwd l a u d t
    if p.1 ≤ p.2 then (mx (l.getD t z30).f0 (p.1 - d), mn (l.getD t z30).f1 (p.2 + u)) else p
def bwd (l : List S30) (a u d : Int) : Nat → Int × Int
 |0 => fwd l a u d l.length
 |e + 1 => let p:=bwd l a u d e; let q:=fwd l a u d (l.length - (e + 1))
    (mx q.1 (p.1 - u), mn q.2 (p.2 + d))
section
variable {l : List S30} {a u d : Int} (hl : l.length ≤ 24) (hx : ∀ n, n < l.length → okR (l.getD n z30)) (hA : okArg a u d)
include hl hx hA
theorem fwd_bd : ∀ t, t ≤ l.length → (0 ≤ (fwd l a u d t).1 ∧ (fwd l a u d t).1 ≤ 200000) ∧ (-200000 ≤ (fwd l a u d t).2 ∧ (fwd l a u d t).2 ≤ 100000) := by
  obtain ⟨hb, hu, hd⟩:=hA
  intro t
  induction t with
 |zero => intro _; simp only [fwd]; omega
 |succ t ih =>
    intro ht
    have ih:=ih (by omega)
    obtain ⟨x1, x2, x3⟩:=hx t (by omega)
    simp only [fwd]
    split
    · simp only [mn, mx]
      split <;> split <;> omega
    · exact ih
theorem fwd_in (t : Nat) (ht : t < l.length) (hp : (fwd l a u d t).1 ≤ (fwd l a u d t).2) : fwd l a u d (t + 1) = (mx (l.getD t z30).f0 ((fwd l a u d t).1 - d), mn (l.getD t z30).f1 ((fwd l a u d t).2 + u)) := by
  simp only [fwd]
  rw [if_pos hp]
omit hl hx hA in
theorem fwd_stay : ∀ t s, t ≤ s → ¬ (fwd l a u d t).1 ≤ (fwd l a u d t).2 → ¬ (fwd l a u d s).1 ≤ (fwd l a u d s).2 := by
  intro t s h
  obtain ⟨e, rfl⟩ : ∃ e, s = t + e:=⟨s - t, by omega⟩
  induction e with
 |zero => exact fun h => h
 |succ e ih =>
    intro hp
    have:=ih (by omega) hp
    show ¬ (fwd l a u d (t + e + 1)).1 ≤ (fwd l a u d (t + e + 1)).2
    simp only [fwd]
    rw [if_neg this]
    exact this
theorem bwd_bd (hne : (fwd l a u d l.length).1 ≤ (fwd l a u d l.length).2) : ∀ e, e ≤ l.length → (fwd l a u d (l.length - e)).1 ≤ (bwd l a u d e).1 ∧ (bwd l a u d e).1 ≤ (bwd l a u d e).2 ∧ (bwd l a u d e).2 ≤ (fwd l a u d (l.length - e)).2 := by
  intro e
  induction e with
 |zero => intro _; simp only [bwd, Nat.sub_zero]; omega
 |succ e ih =>
    intro he
    obtain ⟨i1, i2, i3⟩:=ih (by omega)
    have hq : (fwd l a u d (l.length - (e + 1))).1 ≤ (fwd l a u d (l.length - (e + 1))).2:=by
      by_cases c : (fwd l a u d (l.length - (e + 1))).1 ≤ (fwd l a u d (l.length - (e + 1))).2
      · exact c
      · exact absurd hne (fwd_stay _ _ (by omega) c)
    have hs:=fwd_in hl hx hA (l.length - (e + 1)) (by omega) hq
    rw [show l.length - (e + 1) + 1 = l.length - e by omega] at hs
    rw [hs] at i1 i3
    obtain ⟨_, hu, hd⟩:=hA
    revert i1 i3
    simp only [bwd, mx, mn]
    split <;> split <;> split <;> split <;> omega
theorem Range_l1 (hne : (fwd l a u d l.length).1 ≤ (fwd l a u d l.length).2) : ∀ e, e ≤ l.length → ∀ (x : List S30), x.length = l.length →
    (∀ j, j < l.length → x.getD j z30 = if j + e < l.length then ⟨(fwd l a u d (j + 1)).1, (fwd l a u d (j + 1)).2⟩ else ⟨(bwd l a u d (l.length - (j + 1))).1, (bwd l a u d (l.length - (j + 1))).2⟩) →
    1 ≤ e →
    ∃ y : List S30, Evt (fun k => ramp_Range.l1 k u d x ((l.length : Int) - 1 - e)) (y, 0) ∧ y.length = l.length ∧
      ∀ j, j < l.length → y.getD j z30 = ⟨(bwd l a u d (l.length - (j + 1))).1, (bwd l a u d (l.length - (j + 1))).2⟩:=by
  intro e he
  obtain ⟨c, hc⟩ : ∃ c, l.length = e + c:=⟨l.length - e, by omega⟩
  have hA':=hA
  obtain ⟨hb, hu, hd⟩:=hA'
  induction c generalizing e with
 |zero =>
    intro x hxl hxx h1
    refine ⟨x, Evt.succ ?_, hxl, fun j hj => ?_⟩
    · simp only [ramp_Range.l1]
      exact Evt.ite_neg (by omega) (Evt.pure _)
    · rw [hxx j hj, if_neg (by omega)]
 |succ c ih =>
    intro x hxl hxx h1
    have n0 : (l.length : Int) - 1 - e = ((c : Nat) : Int):=by omega
    have x0:=hxx c (by omega)
    rw [if_pos (by omega)] at x0
    have x1:=hxx (c + 1) (by omega)
    rw [if_neg (by omega), show l.length - (c + 1 + 1) = e - 1 by omega] at x1
    have b1:=bwd_bd hl hx hA hne (e - 1) (by omega)
    have f0:=fwd_bd hl hx hA (c + 1) (by omega)
    have f1:=fwd_bd hl hx hA (l.length - (e - 1)) (by omega)
    have eb : bwd l a u d e = (mx (fwd l a u d (c + 1)).1 ((bwd l a u d (e - 1)).1 - u), mn (fwd l a u d (c + 1)).2 ((bwd l a u d (e - 1)).2 + d)):=by
      obtain ⟨e', rfl⟩ : ∃ e', e = e' + 1:=⟨e - 1, by omega⟩
      simp only [bwd, Nat.add_sub_cancel, show l.length - (e' + 1) = c + 1 by omega]
    obtain ⟨y, hy, hyl, hyy⟩:=ih (e + 1) (by omega) (by omega) (x.set c ⟨(bwd l a u d e).1, (bwd l a u d e).2⟩) (by simp [hxl]) (by
      intro j hj
      rw [List.getD_eq_getElem?_getD, List.getElem?_set]
      by_cases cj : c = j
      · subst cj
        rw [if_pos rfl, if_pos (by omega), if_neg (by omega), show l.length - (c + 1) = e by omega]
        rfl
      · rw [if_neg cj, ← List.getD_eq_getElem?_getD, hxx j hj]
        by_cases c2 : j + (e + 1) < l.length
        · rw [if_pos c2, if_pos (by omega)]
        · rw [if_neg c2, if_neg (by omega)]) (by omega)
    refine ⟨y, Evt.succ ?_, hyl, hyy⟩
    rw [n0]
    have w1 : Unit → wrap64 ((c : Int) + 1) = ((c + 1 : Nat) : Int):=fun _ => wrap64_nat (by omega)
    have w2 : Unit → wrap64 ((bwd l a u d (e - 1)).1 - u) = (bwd l a u d (e - 1)).1 - u:=fun _ => wrap64_of (by omega) (by omega)
    have w3 : Unit → wrap64 ((bwd l a u d (e - 1)).2 + d) = (bwd l a u d (e - 1)).2 + d:=fun _ => wrap64_of (by omega) (by omega)
    have w4 : Unit → wrap64 ((c : Int) - 1) = (l.length : Int) - 1 - ((e + 1 : Nat) : Int):=fun _ => (wrap64_of (by omega) (by omega)).trans (by omega)
    simp only [ramp_Range.l1, rdx, w1 (), x0, x1, Int.toNat_natCast, Option.bind_some, w2 ()]
    refine Evt.ite_pos (by omega) (Evt.ite_pos (by omega) (Evt.ite_pos (by omega) (Evt.ite_pos (by omega) (Evt.ite_pos (by omega) ?_))))
    have s0 : (x.set c (⟨mx (fwd l a u d (c + 1)).1 ((bwd l a u d (e - 1)).1 - u),(fwd l a u d (c + 1)).2⟩ : S30)).getD c z30 = ⟨mx (fwd l a u d (c + 1)).1 ((bwd l a u d (e - 1)).1 - u),(fwd l a u d (c + 1)).2⟩:=by
      rw [List.getD_eq_getElem?_getD, List.getElem?_set_self (by omega)]
      rfl
    have s1 : (x.set c (⟨mx (fwd l a u d (c + 1)).1 ((bwd l a u d (e - 1)).1 - u),(fwd l a u d (c + 1)).2⟩ : S30)).getD (c + 1) z30 = ⟨(bwd l a u d (e - 1)).1, (bwd l a u d (e - 1)).2⟩:=by
      rw [List.getD_eq_getElem?_getD, List.getElem?_set_ne (by omega), ← List.getD_eq_getElem?_getD, x1]
    rw [s0, s1, List.set_set]
    simp only [w3 (), w4 ()]
    rw [eb] at hy
    exact hy
theorem Range_l0 : ∀ n, n ≤ l.length → ∀ (x : List S30), x.length = n → (∀ j, j < n → x.getD j z30 = ⟨(fwd l a u d (j + 1)).1, (fwd l a u d (j + 1)).2⟩) → (fwd l a u d n).1 ≤ (fwd l a u d n).2 →
    ∃ R : List S30 × Int, Evt (fun k => ramp_Range.l0 k u d x l (l.length : Int) (n : Int) (fwd l a u d n).1 (fwd l a u d n).2) R ∧
      (¬ (fwd l a u d l.length).1 ≤ (fwd l a u d l.length).2 → R = ([], 8)) ∧
      ((fwd l a u d l.length).1 ≤ (fwd l a u d l.length).2 → R.2 = 0 ∧ R.1.length = l.length ∧ ∀ j, j < l.length → R.1.getD j z30 = ⟨(bwd l a u d (l.length - (j + 1))).1, (bwd l a u d (l.length - (j + 1))).2⟩):=by
  refine down ?_ ?_
  · intro x hxl hxx hne
    have w0 : Unit → wrap64 ((x.length : Int) - 2) = (l.length : Int) - 1 - ((1 : Nat) : Int):=fun _ => (wrap64_of (by omega) (by omega)).trans (by omega)
    by_cases c : l.length = 0
    · refine ⟨(x, 0), Evt.succ ?_, fun h => absurd hne h, fun _ => ⟨rfl, by omega, fun j hj => by omega⟩⟩
      simp only [ramp_Range.l0, w0 ()]
      refine Evt.ite_neg (by omega) (Evt.succ ?_)
      simp only [ramp_Range.l1]
      exact Evt.ite_neg (by omega) (Evt.pure _)
    · obtain ⟨y, h1, h2, h3⟩:=Range_l1 hl hx hA hne 1 (by omega) x hxl (by
        intro j hj
        rw [hxx j hj]
        by_cases c2 : j + 1 < l.length
        · rw [if_pos c2]
        · rw [if_neg c2, show l.length - (j + 1) = 0 by omega, show j + 1 = l.length by omega]
          rfl) (by omega)
      refine ⟨(y, 0), Evt.succ ?_, fun h => absurd hne h, fun _ => ⟨rfl, h2, h3⟩⟩
      simp only [ramp_Range.l0, w0 ()]
      exact Evt.ite_neg (by omega) h1
  · intro n hn ih x hxl hxx hne
    have f0:=fwd_bd hl hx hA n (by omega)
    have hA':=hA
    obtain ⟨hb, hu, hd⟩:=hA'
    have es:=fwd_in hl hx hA n hn hne
    have w1 : Unit → wrap64 ((fwd l a u d n).1 - d) = (fwd l a u d n).1 - d:=fun _ => wrap64_of (by omega) (by omega)
    have w2 : Unit → wrap64 ((fwd l a u d n).2 + u) = (fwd l a u d n).2 + u:=fun _ => wrap64_of (by omega) (by omega)
    by_cases c : (fwd l a u d (n + 1)).1 ≤ (fwd l a u d (n + 1)).2
    · obtain ⟨R, h1, h2, h3⟩:=ih (x ++ [⟨(fwd l a u d (n + 1)).1, (fwd l a u d (n + 1)).2⟩]) (by simp [hxl]) (by
        intro j hj
        by_cases cj : j < n
        · rw [List.getD_eq_getElem?_getD, List.getElem?_append_left (by omega), ← List.getD_eq_getElem?_getD]
          exact hxx j cj
        · have : j = n:=by omega
          subst this
          rw [List.getD_eq_getElem?_getD, List.getElem?_append_right (by omega), hxl, Nat.sub_self]
          rfl) c
      refine ⟨R, Evt.succ ?_, h2, h3⟩
      rw [es] at h1 c
      simp only [ramp_Range.l0, rdx, w1 (), w2 (), wn n (by omega)]
      exact Evt.ite_pos (by omega) (Evt.ite_pos (by omega) (Evt.ite_pos (by omega) (Evt.ite_neg (by simp only at c; omega) (Evt.ite_pos (by omega) h1))))
    · refine ⟨([], 8), Evt.succ ?_, fun _ => rfl, fun h => absurd h (fwd_stay _ _ hn c)⟩
      rw [es] at c
      simp only [ramp_Range.l0, rdx, w1 (), w2 (), wn n (by omega)]
      exact Evt.ite_pos (by omega) (Evt.ite_pos (by omega) (Evt.ite_pos (by omega) (Evt.ite_pos (by simp only at c; omega) (Evt.pure _))))
end
theorem rdl (x : List (List Bool)) (n : Nat) : rd_L3 x (n : Int) = x.getD n [] := rfl
theorem rdb (x : List Bool) (n : Nat) : rdOf false x (n : Int) = x.getD n false := rfl
def In2 (p : Int × Int) (j : Nat) : Prop := p.1 ≤ (j : Int) ∧ (j : Int) ≤ p.2
def Seg (row : List Bool) (p : Int × Int) : Prop := row.length = 41 ∧ ∀ j : Nat, j < 41 → (row.getD j false = true ↔ In2 p j)
theorem set_at (x : List Bool) (k j : Nat) (v : Bool) (h : k < x.length) : (x.set k v).getD j false = if j = k then v else x.getD j false := by
  rw [List.getD_eq_getElem?_getD, List.getElem?_set]
  by_cases c : k = j
  · subst c
    rw [if_pos rfl, if_pos h, if_pos rfl]
    rfl
  · rw [if_neg c, if_neg (fun e => c e.symm), ← List.getD_eq_getElem?_getD]
theorem set_row (x : List (List Bool)) (k j : Nat) (v : List Bool) (h : k < x.length) : (x.set k v).getD j [] = if j = k then v else x.getD j [] := by
  rw [List.getD_eq_getElem?_getD, List.getElem?_set]
  by_cases c : k = j
  · subst c
    rw [if_pos rfl, if_pos h, if_pos rfl]
    rfl
  · rw [if_neg c, if_neg (fun e => c e.symm), ← List.getD_eq_getElem?_getD]
section
variable {l : List S30} {a u d : Int} (hl : l.length ≤ 24) (hx : ∀ n, n < l.length → okR (l.getD n z30)) (hA : okArg a u d) (h40 : ∀ n, n < l.length → (l.getD n z30).f1 ≤ 40) (ha : a ≤ 40)
variable {X : List S30} {E : Int} {r : Bool}
def hit (row : List Bool) (lo hi u d : Int) (k b : Nat) : Prop := (lo ≤ (k : Int) ∧ (k : Int) ≤ hi) ∧ ∃ c : Nat, b ≤ c ∧ c < 41 ∧ row.getD c false = true ∧ -d ≤ (k : Int) - c ∧ (k : Int) - c ≤ u
include hA in
theorem law_l3 (ah : List (List Bool)) (t : Nat) (row : List Bool) (hr : row.length = 41) (k : Nat) (hk : k < 41) (lo hi : Int) (L : List S30) (n : Int) : ∀ b, b ≤ 41 → ∀ next : List Bool, next.length = 41 →
    (∀ nx : List Bool, nx.length = 41 → (∀ j, j < 41 → j ≠ k → nx.getD j false = next.getD j false) → (nx.getD k false = true ↔ next.getD k false = true ∨ hit row lo hi u d k b) → Evt (fun q => gridhalllaw3_RampRanges.l2 q l u d X E ah (t : Int) nx L n (t : Int) (41 : Int) ((k + 1 : Nat) : Int) lo hi) r) →
    Evt (fun q => gridhalllaw3_RampRanges.l3 q l u d X E ah (t : Int) next (k : Int) L n (t : Int) (41 : Int) (k : Int) row (41 : Int) (b : Int) lo hi) r:=by
  obtain ⟨_, hu, hd⟩:=hA
  refine down ?_ ?_
  · intro next hn H
    refine Evt.succ ?_
    simp only [gridhalllaw3_RampRanges.l3, wn k (by omega)]
    refine Evt.ite_neg (by omega) (H next hn (fun _ _ _ => rfl) ⟨fun h => Or.inl h, fun h => ?_⟩)
    rcases h with h|⟨_, c, h1, h2, _⟩
    · exact h
    · omega
  · intro b hb ih next hn H
    have go : ∀ v : Bool, (v = true ↔ next.getD k false = true ∨ ((lo ≤ (k : Int) ∧ (k : Int) ≤ hi) ∧ row.getD b false = true ∧ -d ≤ (k : Int) - b ∧ (k : Int) - b ≤ u)) → Evt (fun q => gridhalllaw3_RampRanges.l3 q l u d X E ah (t : Int) (next.set k v) (k : Int) L n (t : Int) (41 : Int) (k : Int) row (41 : Int) ((b + 1 : Nat) : Int) lo hi) r:=by
      intro v hv
      refine ih (next.set k v) (by simp [hn]) fun nx h1 h2 h3 => H nx h1 (fun j hj hjk => ?_) ?_
      · rw [h2 j hj hjk, set_at _ _ _ _ (by omega), if_neg hjk]
      · rw [h3, set_at _ _ _ _ (by omega), if_pos rfl, hv]
        constructor
        · rintro ((h|⟨h, h4, h5, h6⟩)|⟨h, c, h4, h5, h6⟩)
          · exact Or.inl h
          · exact Or.inr ⟨h, b, Nat.le_refl _, hb, h4, h5, h6⟩
          · exact Or.inr ⟨h, c, by omega, h5, h6⟩
        · rintro (h|⟨h, c, h4, h5, h6, h7, h8⟩)
          · exact Or.inl (Or.inl h)
          · by_cases cb : c = b
            · subst cb
              exact Or.inl (Or.inr ⟨h, h6, h7, h8⟩)
            · exact Or.inr ⟨h, c, by omega, h5, h6, h7, h8⟩
    refine Evt.succ ?_
    have w1 : Unit → wrap64 ((k : Int) - b) = (k : Int) - b:=fun _ => wrap64_of (by omega) (by omega)
    have w2 : Unit → wrap64 (-d) = -d:=fun _ => wrap64_of (by omega) (by omega)
    simp only [gridhalllaw3_RampRanges.l3, wn b (by omega), in_eq, Option.bind_some, decide_eq_true_eq, rdb, w1 (), w2 (), Int.toNat_natCast]
    refine Evt.ite_pos (by omega) (Evt.ite_pos (by omega) (Evt.ite_pos (by omega) (Evt.ite_pos (by omega) (Evt.ite_pos (by omega) ?_))))
    refine Evt.ite (fun c1 => go true ⟨fun _ => Or.inl c1, fun _ => rfl⟩) fun c1 => ?_
    refine Evt.ite (fun c2 => Evt.ite (fun c3 => ?_) fun c3 => go false ⟨fun h => absurd h (by simp), fun h => ?_⟩) fun c2 => go false ⟨fun h => absurd h (by simp), fun h => ?_⟩
    · refine go _ ⟨fun h => Or.inr ⟨c3, c2, ?_⟩, fun h => ?_⟩
      · exact of_decide_eq_true h
      · rcases h with h|⟨_, _, h⟩
        · exact absurd h c1
        · exact decide_eq_true h
    · rcases h with h|⟨h, _⟩
      · exact absurd h c1
      · exact absurd h c3
    · rcases h with h|⟨_, h, _⟩
      · exact absurd h c1
      · exact absurd h c2
include hl hx hA h40 ha in
theorem fwd_40 : ∀ t, t ≤ l.length → (fwd l a u d t).2 ≤ 40 := by
  intro t
  induction t with
 |zero => intro _; exact ha
 |succ t ih =>
    intro ht
    have ih:=ih (by omega)
    have:=h40 t (by omega)
    simp only [fwd]
    split
    · simp only [mn]
      split <;> omega
    · exact ih
include hl hx hA h40 ha in
theorem hit_fwd (t : Nat) (ht : t < l.length) {row : List Bool} (hr : Seg row (fwd l a u d t)) (k : Nat) (hk : k < 41) : hit row (l.getD t z30).f0 (l.getD t z30).f1 u d k 0 ↔ In2 (fwd l a u d (t + 1)) k := by
  have b0:=fwd_bd hl hx hA t (by omega)
  have b1:=fwd_40 hl hx hA h40 ha t (by omega)
  obtain ⟨_, hu, hd⟩:=hA
  unfold hit In2
  simp only [fwd]
  constructor
  · rintro ⟨h1, c, _, h2, h3, h4, h5⟩
    have:=(hr.2 c h2).1 h3
    unfold In2 at this
    rw [if_pos (by omega)]
    simp only [mx, mn]
    split <;> split <;> omega
  · by_cases c : (fwd l a u d t).1 ≤ (fwd l a u d t).2
    · rw [if_pos c]
      simp only [mx, mn]
      intro h
      have h1 : (l.getD t z30).f0 ≤ (k : Int) ∧ (fwd l a u d t).1 - d ≤ k ∧ (k : Int) ≤ (l.getD t z30).f1 ∧ (k : Int) ≤ (fwd l a u d t).2 + u:=by
        revert h
        split <;> split <;> omega
      refine ⟨by omega, (max (fwd l a u d t).1 ((k : Int) - u)).toNat, by omega, by omega, (hr.2 _ (by omega)).2 ?_, by omega, by omega⟩
      unfold In2
      omega
    · rw [if_neg c]
      intro h
      omega
include hl hx hA h40 ha in
theorem law_l2 (ah : List (List Bool)) (t : Nat) (ht : t < l.length) (hah : ah.length = t + 1) (hrow : Seg (ah.getD t []) (fwd l a u d t)) (H : ∀ nx, Seg nx (fwd l a u d (t + 1)) → Evt (fun q => gridhalllaw3_RampRanges.l1 q l u d X E (ah ++ [nx]) l (l.length : Int) ((t + 1 : Nat) : Int)) r) : ∀ k, k ≤ 41 → ∀ next : List Bool, next.length = 41 →
    (∀ j, j < 41 → (next.getD j false = true ↔ j < k ∧ In2 (fwd l a u d (t + 1)) j)) →
    Evt (fun q => gridhalllaw3_RampRanges.l2 q l u d X E ah (t : Int) next l (l.length : Int) (t : Int) (41 : Int) (k : Int) (l.getD t z30).f0 (l.getD t z30).f1) r:=by
  refine down ?_ ?_
  · intro next hn h
    refine Evt.succ ?_
    simp only [gridhalllaw3_RampRanges.l2, wn t (by omega)]
    exact Evt.ite_neg (by omega) (Evt.ite_pos (by omega) (H next ⟨hn, fun j hj => (h j hj).trans ⟨fun h => h.2, fun h => ⟨hj, h⟩⟩⟩))
  · intro k hk ih next hn h
    refine Evt.succ ?_
    simp only [gridhalllaw3_RampRanges.l2, rdl, hrow.1]
    refine Evt.ite_pos (by omega) (Evt.ite_pos (by omega) (Evt.ite_pos (by omega) ?_))
    refine law_l3 hA ah t (ah.getD t []) hrow.1 k hk _ _ _ _ 0 (by omega) next hn fun nx h1 h2 h3 => ih nx h1 fun j hj => ?_
    by_cases c : j = k
    · subst c
      rw [h3, hit_fwd hl hx hA h40 ha t ht hrow j hj, h j hj]
      constructor
      · rintro (⟨h, _⟩|h)
        · omega
        · exact ⟨by omega, h⟩
      · exact fun h => Or.inr h.2
    · rw [h2 j hj c, h j hj]
      constructor
      · rintro ⟨h1, h2⟩; exact ⟨by omega, h2⟩
      · rintro ⟨h1, h2⟩; exact ⟨by omega, h2⟩
theorem rep_false (n j : Nat) : (List.replicate n false).getD j false = false := by
  rw [List.getD_eq_getElem?_getD, List.getElem?_replicate]
  split <;> rfl
include hl hx hA h40 ha in
theorem law_l1 (H : ∀ ah : List (List Bool), ah.length = l.length + 1 → (∀ j, j ≤ l.length → Seg (ah.getD j []) (fwd l a u d j)) → Evt (fun q => gridhalllaw3_RampRanges.l4 q l u d X E ah [] (l.length : Int)) r) : ∀ t, t ≤ l.length → ∀ ah : List (List Bool), ah.length = t + 1 → (∀ j, j ≤ t → Seg (ah.getD j []) (fwd l a u d j)) →
    Evt (fun q => gridhalllaw3_RampRanges.l1 q l u d X E ah l (l.length : Int) (t : Int)) r:=by
  refine down ?_ ?_
  · intro ah h1 h2
    refine Evt.succ ?_
    simp only [gridhalllaw3_RampRanges.l1]
    exact Evt.ite_neg (by omega) (H ah h1 h2)
  · intro t ht ih ah h1 h2
    refine Evt.succ ?_
    simp only [gridhalllaw3_RampRanges.l1, rdx, Option.bind_some, List.length_replicate]
    refine Evt.ite_pos (by omega) (Evt.ite_pos (by omega) (Evt.ite_pos (by omega) (Evt.ite_pos (by omega) ?_)))
    refine law_l2 hl hx hA h40 ha ah t ht h1 (h2 t (Nat.le_refl _)) (fun nx hnx => ih (ah ++ [nx]) (by simp [h1]) fun j hj => ?_) 0 (by omega) _ (by simp) fun j hj => ?_
    · by_cases c : j ≤ t
      · rw [List.getD_eq_getElem?_getD, List.getElem?_append_left (by omega), ← List.getD_eq_getElem?_getD]
        exact h2 j c
      · have : j = t + 1:=by omega
        subst this
        rw [List.getD_eq_getElem?_getD, List.getElem?_append_right (by omega), h1, Nat.sub_self]
        exact hnx
    · rw [rep_false]
      exact ⟨fun h => absurd h (by simp), fun h => by omega⟩
end
section
variable {l : List S30} {a u d : Int} (hl : l.length ≤ 24) (hx : ∀ n, n < l.length → okR (l.getD n z30)) (hA : okArg a u d) (h40 : ∀ n, n < l.length → (l.getD n z30).f1 ≤ 40) (ha : a ≤ 40)
variable {X : List S30} {E : Int} {r : Bool}
def back (row : List Bool) (u d : Int) (k b : Nat) : Prop := ∃ c : Nat, b ≤ c ∧ c < 41 ∧ row.getD c false = true ∧ -d ≤ (c : Int) - k ∧ (c : Int) - k ≤ u
include hA in
theorem law_l6 (want : List S30) (ah : List (List Bool)) (t : Nat) (ht : t < ah.length) (row : List Bool) (hr : row.length = 41) (hrt : (ah.getD t []).length = 41) (k : Nat) (hk : k < 41) (lo hi : Int) (is : Bool) : ∀ b, b ≤ 41 → ∀ sm : Bool,
    (∀ s : Bool, (s = true ↔ sm = true ∨ back row u d k b) → Evt (fun q => gridhalllaw3_RampRanges.j8 q l u d X E (ah.set t ((ah.getD t []).set k (is && s))) want (t : Int) lo hi (k : Int) (is && s) (41 : Int) (k : Int)) r) →
    Evt (fun q => gridhalllaw3_RampRanges.l6 q l u d X E ah want (t : Int) lo hi (k : Int) is sm (41 : Int) (k : Int) row (41 : Int) (b : Int)) r:=by
  obtain ⟨_, hu, hd⟩:=hA
  refine down ?_ ?_
  · intro sm H
    refine Evt.succ ?_
    simp only [gridhalllaw3_RampRanges.l6, rdl, hrt, Int.toNat_natCast]
    have H:=H sm ⟨fun h => Or.inl h, fun h => by
      rcases h with h|⟨c, h1, h2, _⟩
      · exact h
      · omega⟩
    refine Evt.ite_neg (by omega) (Evt.ite (fun c => ?_) fun c => ?_)
    · rw [c, Bool.true_and] at H
      exact Evt.ite_pos (by omega) (Evt.ite_pos (by omega) (Evt.ite_pos (by omega) (Evt.ite_pos (by omega) H)))
    · have c : is = false:=by simpa using c
      rw [c, Bool.false_and] at H
      exact Evt.ite_pos (by omega) (Evt.ite_pos (by omega) (Evt.ite_pos (by omega) (Evt.ite_pos (by omega) H)))
  · intro b hb ih sm H
    have go : ∀ v : Bool, (v = true ↔ sm = true ∨ (row.getD b false = true ∧ -d ≤ (b : Int) - k ∧ (b : Int) - k ≤ u)) → Evt (fun q => gridhalllaw3_RampRanges.l6 q l u d X E ah want (t : Int) lo hi (k : Int) is v (41 : Int) (k : Int) row (41 : Int) ((b + 1 : Nat) : Int)) r:=by
      intro v hv
      refine ih v fun s hs => H s ?_
      rw [hs, hv]
      constructor
      · rintro ((h|⟨h4, h5, h6⟩)|⟨c, h4, h5, h6⟩)
        · exact Or.inl h
        · exact Or.inr ⟨b, Nat.le_refl _, hb, h4, h5, h6⟩
        · exact Or.inr ⟨c, by omega, h5, h6⟩
      · rintro (h|⟨c, h4, h5, h6, h7, h8⟩)
        · exact Or.inl (Or.inl h)
        · by_cases cb : c = b
          · subst cb
            exact Or.inl (Or.inr ⟨h6, h7, h8⟩)
          · exact Or.inr ⟨c, by omega, h5, h6, h7, h8⟩
    refine Evt.succ ?_
    have w1 : Unit → wrap64 ((b : Int) - k) = (b : Int) - k:=fun _ => wrap64_of (by omega) (by omega)
    have w2 : Unit → wrap64 (-d) = -d:=fun _ => wrap64_of (by omega) (by omega)
    simp only [gridhalllaw3_RampRanges.l6, wn b (by omega), in_eq, Option.bind_some, decide_eq_true_eq, rdb, w1 (), w2 ()]
    refine Evt.ite_pos (by omega) (Evt.ite_pos (by omega) (Evt.ite_pos (by omega) ?_))
    refine Evt.ite (fun c1 => go true ⟨fun _ => Or.inl c1, fun _ => rfl⟩) fun c1 => ?_
    refine Evt.ite (fun c2 => ?_) fun c2 => go false ⟨fun h => absurd h (by simp), fun h => ?_⟩
    · refine go _ ⟨fun h => Or.inr ⟨c2, ?_⟩, fun h => ?_⟩
      · exact of_decide_eq_true h
      · rcases h with h|⟨_, h⟩
        · exact absurd h c1
        · exact decide_eq_true h
    · rcases h with h|⟨h, _⟩
      · exact absurd h c1
      · exact absurd h c2
def Lh (p : Int × Int) (k : Nat) (lo hi : Int) : Prop :=
  (lo = -1 ∧ hi = -1 ∧ ∀ j : Nat, j < k → ¬ In2 p j) ∨ (lo = p.1 ∧ 0 ≤ lo ∧ lo ≤ hi ∧ In2 p lo.toNat ∧ lo < k ∧ hi = (if p.2 < (k : Int) - 1 then p.2 else (k : Int) - 1))
theorem Lh_in {p : Int × Int} (hp : 0 ≤ p.1 ∧ p.2 ≤ 40) {k : Nat} {lo hi : Int} (h : Lh p k lo hi) (c : In2 p k) : (lo < 0 → Lh p (k + 1) k k) ∧ (¬ lo < 0 → Lh p (k + 1) lo k) := by
  unfold In2 at c
  rcases h with ⟨rfl, rfl, h⟩|⟨h1, h2, h3, h4, h5, h6⟩
  · refine ⟨fun _ => Or.inr ⟨?_, by omega, by omega, by unfold In2; omega, by omega, ?_⟩, fun h => absurd (by omega) h⟩
    · by_cases e : (k : Int) = p.1
      · exact e
      · exact absurd (show In2 p p.1.toNat from ⟨by omega, by omega⟩) (h p.1.toNat (by omega))
    · split <;> omega
  · refine ⟨fun h => by omega, fun _ => Or.inr ⟨h1, h2, by omega, h4, by omega, ?_⟩⟩
    split <;> omega
theorem Lh_out {p : Int × Int} {k : Nat} {lo hi : Int} (h : Lh p k lo hi) (c : ¬ In2 p k) : Lh p (k + 1) lo hi := by
  unfold In2 at c
  rcases h with ⟨rfl, rfl, h⟩|⟨h1, h2, h3, h4, h5, h6⟩
  · refine Or.inl ⟨rfl, rfl, fun j hj => ?_⟩
    by_cases e : j = k
    · subst e
      exact c
    · exact h j (by omega)
  · unfold In2 at h4
    refine Or.inr ⟨h1, h2, h3, by unfold In2; exact h4, by omega, ?_⟩
    rw [h6]
    split <;> split <;> omega
theorem Lh_end {p : Int × Int} (hp : 0 ≤ p.1 ∧ p.2 ≤ 40) {lo hi : Int} (h : Lh p 41 lo hi) : (lo < 0 ∧ ¬ p.1 ≤ p.2) ∨ (¬ lo < 0 ∧ p.1 ≤ p.2 ∧ lo = p.1 ∧ hi = p.2) := by
  rcases h with ⟨rfl, rfl, h⟩|⟨h1, h2, h3, h4, h5, h6⟩
  · refine Or.inl ⟨by omega, fun e => h p.1.toNat (by omega) ⟨by omega, by omega⟩⟩
  · unfold In2 at h4
    refine Or.inr ⟨by omega, by omega, h1, ?_⟩
    rw [h6]
    split <;> omega
theorem law_j8 {p : Int × Int} (hp : 0 ≤ p.1 ∧ p.2 ≤ 40) (want : List S30) (ah : List (List Bool)) (t : Nat) (k : Nat) (hk : k < 41) (lo hi : Int) (h : Lh p k lo hi) (is : Bool) (his : is = true ↔ In2 p k)
    (H : ∀ lo hi, Lh p (k + 1) lo hi → Evt (fun q => gridhalllaw3_RampRanges.l5 q l u d X E ah want (t : Int) lo hi (41 : Int) ((k + 1 : Nat) : Int)) r) :
    Evt (fun q => gridhalllaw3_RampRanges.j8 q l u d X E ah want (t : Int) lo hi (k : Int) is (41 : Int) (k : Int)) r:=by
  refine Evt.succ ?_
  simp only [gridhalllaw3_RampRanges.j8, wn k (by omega)]
  exact Evt.ite (fun c => Evt.ite (fun c2 => H _ _ ((Lh_in hp h (his.1 c)).1 c2)) fun c2 => H _ _ ((Lh_in hp h (his.1 c)).2 c2)) fun c => H _ _ (Lh_out h fun e => c (his.2 e))
theorem law_l5 (hA : okArg a u d) {p f : Int × Int} (hp : 0 ≤ p.1 ∧ p.2 ≤ 40) (want : List S30) (hw : want.length ≤ 24) (t : Nat) (ht : t ≤ l.length) (hl : l.length ≤ 24) (row : List Bool) (hrow : t < l.length → row.length = 41)
    (hpf : t < l.length → ∀ k, k < 41 → (In2 p k ↔ In2 f k ∧ back row u d k 0)) (hpe : t = l.length → p = f)
    (ah0 : List (List Bool)) (h0 : ah0.length = l.length + 1) (hn : t < l.length → ah0.getD (t + 1) [] = row)
    (H1 : p.1 ≤ p.2 → ∀ ah : List (List Bool), ah.length = l.length + 1 → Seg (ah.getD t []) p → (∀ j, j ≠ t → ah.getD j [] = ah0.getD j []) → Evt (fun q => gridhalllaw3_RampRanges.l4 q l u d X E ah (⟨p.1, p.2⟩ :: want) ((t : Int) - 1)) r)
    (H2 : ¬ p.1 ≤ p.2 → (if E = 8 then some ((X.length : Int) == 0) else some false) = some r) :
    ∀ k, k ≤ 41 → ∀ ah : List (List Bool), ah.length = l.length + 1 → (∀ j, j ≠ t → ah.getD j [] = ah0.getD j []) → (ah.getD t []).length = 41 → (∀ j, j < 41 → ((ah.getD t []).getD j false = true ↔ if j < k then In2 p j else In2 f j)) → ∀ lo hi, Lh p k lo hi →
    Evt (fun q => gridhalllaw3_RampRanges.l5 q l u d X E ah want (t : Int) lo hi (41 : Int) (k : Int)) r:=by
  refine down ?_ ?_
  · intro ah h1 h2 h3 h4 lo hi hLh
    refine Evt.succ ?_
    simp only [gridhalllaw3_RampRanges.l5, Option.bind_some]
    have w1 : wrap64 ((t : Int) - 1) = (t : Int) - 1:=wrap64_of (by omega) (by omega)
    rw [w1]
    refine Evt.ite_neg (by omega) ?_
    rcases Lh_end hp hLh with ⟨c1, c2⟩|⟨c1, c2, rfl, rfl⟩
    · exact Evt.ite_pos c1 (Evt.ofo (H2 c2))
    · refine Evt.ite_neg c1 (Evt.ite_pos (by simp; omega) (H1 c2 ah h1 ⟨h3, fun j hj => ?_⟩ h2))
      rw [h4 j hj, if_pos hj]
  · intro k hk ih ah h1 h2 h3 h4 lo hi hLh
    have wt : wrap64 ((t : Int) + 1) = ((t + 1 : Nat) : Int):=wrap64_nat (by omega)
    refine Evt.succ ?_
    simp only [gridhalllaw3_RampRanges.l5, rdl, rdb, h3, wt]
    refine Evt.ite_pos (by omega) (Evt.ite_pos (by omega) (Evt.ite_pos (by omega) (Evt.ite_pos (by omega) (Evt.ite_pos (by omega) ?_))))
    have e0:=h4 k hk
    rw [if_neg (by omega)] at e0
    by_cases c : t < l.length
    · have er : ah.getD (t + 1) [] = row:=(h2 (t + 1) (by omega)).trans (hn c)
      refine Evt.ite_pos (by omega) (Evt.ite_pos (by omega) (Evt.ite_pos (by omega) ?_))
      rw [er, hrow c]
      refine law_l6 hA want ah t (by omega) row (hrow c) h3 k hk lo hi _ 0 (by omega) false fun s hs => ?_
      have e1 : ((ah.getD t []).getD k false && s) = true ↔ In2 p k:=by
        rw [Bool.and_eq_true, e0, hs, hpf c k hk]
        simp
      refine law_j8 hp want _ t k hk lo hi hLh _ e1 fun lo hi hLh => ih _ (by simp [h1]) (fun j hj => ?_) ?_ (fun j hj => ?_) lo hi hLh
      · rw [set_row _ _ _ _ (by omega), if_neg hj]
        exact h2 j hj
      · rw [set_row _ _ _ _ (by omega), if_pos rfl, List.length_set]
        exact h3
      · rw [set_row _ _ _ _ (by omega), if_pos rfl, set_at _ _ _ _ (by omega)]
        by_cases cj : j = k
        · subst cj
          rw [if_pos rfl, if_pos (by omega), e1]
        · rw [if_neg cj, h4 j hj]
          by_cases cj2 : j < k
          · rw [if_pos cj2, if_pos (by omega)]
          · rw [if_neg cj2, if_neg (by omega)]
    · have et : t = l.length:=by omega
      have ep:=hpe et
      refine Evt.ite_neg (by omega) ?_
      refine law_j8 hp want ah t k hk lo hi hLh _ (by rw [e0, ep]) fun lo hi hLh => ih ah h1 h2 h3 (fun j hj => ?_) lo hi hLh
      rw [h4 j hj, ep]
      split <;> split <;> rfl
end
section
variable {l : List S30} {a u d : Int} (hl : l.length ≤ 24) (hx : ∀ n, n < l.length → okR (l.getD n z30)) (hA : okArg a u d) (h40 : ∀ n, n < l.length → (l.getD n z30).f1 ≤ 40) (ha : a ≤ 40)
variable {X : List S30} {E : Int}
theorem len_ne (x y : List S30) (h : x.length = y.length) : ((x.length : Int) != (y.length : Int)) = false := by
  rw [h]
  simp
theorem law_l7 {X W : List S30} (hXW : X.length = W.length) (hb : X.length ≤ 24) (h : ∀ j, j < X.length → X.getD j z30 = W.getD j z30) : ∀ n, n ≤ X.length → Evt (fun q => gridhalllaw3_RampRanges.l7 q X W (X.length : Int) (n : Int)) true := by
  refine down ?_ ?_
  · refine Evt.succ ?_
    simp only [gridhalllaw3_RampRanges.l7]
    exact Evt.ite_neg (by omega) (Evt.pure _)
  · intro n hn ih
    refine Evt.succ ?_
    simp only [gridhalllaw3_RampRanges.l7, rdx, h n hn, wn n (by omega)]
    exact Evt.ite_pos (by omega) (Evt.ite_pos (by omega) (Evt.ite_pos (by omega) (Evt.ite_pos (by omega) (Evt.ite_neg (by simp) ih))))
theorem law_j9 {X W : List S30} (hXW : X.length = W.length) (hb : X.length ≤ 24) (h : ∀ j, j < X.length → X.getD j z30 = W.getD j z30) : Evt (fun q => gridhalllaw3_RampRanges.j9 q X W ((X.length : Int) != (W.length : Int))) true := by
  refine Evt.succ ?_
  rw [len_ne X W hXW]
  simp only [gridhalllaw3_RampRanges.j9]
  exact Evt.ite_neg (by simp) (law_l7 hXW hb h 0 (by omega))
include hl hx hA h40 ha in
theorem back_step (hne : (fwd l a u d l.length).1 ≤ (fwd l a u d l.length).2) (t : Nat) (ht : t < l.length) {row : List Bool} (hr : Seg row (bwd l a u d (l.length - (t + 1)))) (k : Nat) (hk : k < 41) : In2 (bwd l a u d (l.length - t)) k ↔ In2 (fwd l a u d t) k ∧ back row u d k 0 := by
  have b1:=bwd_bd hl hx hA hne (l.length - (t + 1)) (by omega)
  rw [show l.length - (l.length - (t + 1)) = t + 1 by omega] at b1
  have f1:=fwd_bd hl hx hA (t + 1) (by omega)
  have f2:=fwd_40 hl hx hA h40 ha (t + 1) (by omega)
  obtain ⟨e, he⟩ : ∃ e, l.length - t = e + 1:=⟨l.length - t - 1, by omega⟩
  have he2 : l.length - (t + 1) = e:=by omega
  rw [he2] at b1 hr
  obtain ⟨_, hu, hd⟩:=hA
  rw [he]
  simp only [bwd, show l.length - (e + 1) = t by omega]
  unfold In2 back
  simp only [mx, mn]
  constructor
  · intro h
    have h1 : (fwd l a u d t).1 ≤ (k : Int) ∧ (bwd l a u d e).1 - u ≤ k ∧ (k : Int) ≤ (fwd l a u d t).2 ∧ (k : Int) ≤ (bwd l a u d e).2 + d:=by
      revert h
      split <;> split <;> omega
    refine ⟨by omega, (max (bwd l a u d e).1 ((k : Int) - d)).toNat, by omega, by omega, (hr.2 _ (by omega)).2 ?_, by omega, by omega⟩
    unfold In2
    omega
  · rintro ⟨h1, c, _, h2, h3, h4, h5⟩
    have:=(hr.2 c h2).1 h3
    unfold In2 at this
    split <;> split <;> omega
include hl hx hA h40 ha in
theorem law_l4 (hne : (fwd l a u d l.length).1 ≤ (fwd l a u d l.length).2) (hX : X.length = l.length) (hXX : ∀ j, j < l.length → X.getD j z30 = ⟨(bwd l a u d (l.length - (j + 1))).1, (bwd l a u d (l.length - (j + 1))).2⟩) :
    ∀ t, t ≤ l.length → ∀ (ah : List (List Bool)) (W : List S30), ah.length = l.length + 1 → (∀ j, j ≤ t → Seg (ah.getD j []) (fwd l a u d j)) → (t < l.length → Seg (ah.getD (t + 1) []) (bwd l a u d (l.length - (t + 1)))) → W.length = l.length - t →
    (∀ i, i < l.length - t → W.getD i z30 = ⟨(bwd l a u d (l.length - (t + i + 1))).1, (bwd l a u d (l.length - (t + i + 1))).2⟩) → Evt (fun q => gridhalllaw3_RampRanges.l4 q l u d X 0 ah W (t : Int)) true:=by
  intro t
  induction t with
 |zero =>
    intro _ ah W h1 _ _ h4 h5
    refine Evt.succ ?_
    simp only [gridhalllaw3_RampRanges.l4]
    refine Evt.ite_neg (by omega) (Evt.ite_pos trivial ?_)
    refine law_j9 (by omega) (by omega) fun j hj => ?_
    rw [hXX j (by omega), h5 j (by omega), Nat.zero_add]
 |succ t ih =>
    intro ht ah W h1 h2 h3 h4 h5
    have hs:=h2 (t + 1) (Nat.le_refl _)
    have b1:=bwd_bd hl hx hA hne (l.length - (t + 1)) (by omega)
    rw [show l.length - (l.length - (t + 1)) = t + 1 by omega] at b1
    have f1:=fwd_bd hl hx hA (t + 1) (by omega)
    have f2:=fwd_40 hl hx hA h40 ha (t + 1) (by omega)
    refine Evt.succ ?_
    simp only [gridhalllaw3_RampRanges.l4, rdl, hs.1]
    refine Evt.ite_pos (by omega) (Evt.ite_pos (by omega) (Evt.ite_pos (by omega) ?_))
    refine law_l5 (p:=bwd l a u d (l.length - (t + 1))) (f:=fwd l a u d (t + 1)) hA (by omega) W (by omega) (t + 1) ht hl (ah.getD (t + 1 + 1) []) (fun c => (h3 c).1) (fun c k hk => back_step hl hx hA h40 ha hne (t + 1) c (h3 c) k hk) (fun e => ?_) ah h1 (fun _ => rfl) (fun _ ah' g1 g2 g3 => ?_) (fun e => absurd b1.2.1 e) 0 (by omega) ah h1 (fun _ _ => rfl) hs.1 (fun j hj => ?_) (-1) (-1) (Or.inl ⟨rfl, rfl, fun j hj => by omega⟩)
    · rw [← e, show t + 1 - (t + 1) = 0 by omega]
      simp only [bwd]
      rw [e]
    · rw [show ((t + 1 : Nat) : Int) - 1 = (t : Int) by omega]
      refine ih (by omega) ah' _ g1 (fun j hj => ?_) (fun _ => g2) (by simp only [List.length_cons]; omega) fun i hi => ?_
      · rw [g3 j (by omega)]
        exact h2 j (by omega)
      · cases i with
       |zero => rfl
       |succ i =>
          show W.getD i z30 = _
          rw [h5 i (by omega), show t + 1 + i + 1 = t + (i + 1) + 1 by omega]
    · rw [if_neg (by omega)]
      exact hs.2 j hj
include hl hx hA h40 ha in
theorem law_l4e (hne : ¬ (fwd l a u d l.length).1 ≤ (fwd l a u d l.length).2) (ah : List (List Bool)) (h1 : ah.length = l.length + 1) (h2 : ∀ j, j ≤ l.length → Seg (ah.getD j []) (fwd l a u d j)) :
    Evt (fun q => gridhalllaw3_RampRanges.l4 q l u d [] 8 ah [] (l.length : Int)) true:=by
  have hpos : l.length ≠ 0:=by
    intro e
    rw [e] at hne
    exact hne (Int.le_refl _)
  have hs:=h2 l.length (Nat.le_refl _)
  have f1:=fwd_bd hl hx hA l.length (by omega)
  have f2:=fwd_40 hl hx hA h40 ha l.length (by omega)
  refine Evt.succ ?_
  simp only [gridhalllaw3_RampRanges.l4, rdl, hs.1]
  refine Evt.ite_pos (by omega) (Evt.ite_pos (by omega) (Evt.ite_pos (by omega) ?_))
  exact law_l5 (p:=fwd l a u d l.length) (f:=fwd l a u d l.length) hA (by omega) [] (by simp) l.length (Nat.le_refl _) hl [] (fun c => by omega) (fun c => by omega) (fun _ => rfl) ah h1 (fun c => by omega) (fun c => absurd c hne) (fun _ => rfl) 0 (by omega) ah h1 (fun _ _ => rfl) hs.1 (fun j hj => by
    rw [if_neg (by omega)]
    exact hs.2 j hj) (-1) (-1) (Or.inl ⟨rfl, rfl, fun j hj => by omega⟩)
end
section
variable {l : List S30} {a u d : Int}
theorem law_l0 (hl : l.length ≤ 24) (hx : ∀ n, n < l.length → okR (l.getD n z30)) (hA : okArg a u d) {R : List S30 × Int}
    (hR1 : ¬ (fwd l a u d l.length).1 ≤ (fwd l a u d l.length).2 → R = ([], 8))
    (hR2 : (fwd l a u d l.length).1 ≤ (fwd l a u d l.length).2 → R.2 = 0 ∧ R.1.length = l.length ∧ ∀ j, j < l.length → R.1.getD j z30 = ⟨(bwd l a u d (l.length - (j + 1))).1, (bwd l a u d (l.length - (j + 1))).2⟩) :
    ∀ n, n ≤ l.length → (∀ m, m < n → (l.getD m z30).f1 ≤ 40) → Evt (fun q => gridhalllaw3_RampRanges.l0 q l a u d R.1 R.2 l (l.length : Int) (n : Int)) true:=by
  refine down ?_ ?_
  · intro h40
    refine Evt.succ ?_
    simp only [gridhalllaw3_RampRanges.l0, Option.bind_some]
    refine Evt.ite_neg (by omega) (Evt.ite (fun _ => Evt.pure _) fun ha => Evt.ite_pos (by omega) (Evt.ite_pos (by simp) (Evt.ite_pos (by simp) (Evt.ite_pos hA.1.1 ?_))))
    have ha : a ≤ 40:=by omega
    obtain ⟨b, rfl⟩ : ∃ b : Nat, a = b:=⟨a.toNat, by have:=hA.1.1; omega⟩
    have e1 : (rd_L3 (([] : List (List Bool)) ++ [List.replicate 41 false]) 0) = List.replicate 41 false:=rfl
    rw [e1]
    refine Evt.ite_pos (by simp only [List.length_replicate]; omega) ?_
    have e2 : ((([] : List (List Bool)) ++ [List.replicate 41 false]).set (0 : Int).toNat ((List.replicate 41 false).set (b : Int).toNat true)) = [(List.replicate 41 false).set b true]:=rfl
    rw [e2]
    refine law_l1 hl hx hA h40 ha (fun ah h1 h2 => ?_) 0 (by omega) _ (by simp) fun j hj => ?_
    · by_cases c : (fwd l b u d l.length).1 ≤ (fwd l b u d l.length).2
      · obtain ⟨r1, r2, r3⟩:=hR2 c
        rw [r1]
        exact law_l4 hl hx hA h40 ha c r2 r3 l.length (Nat.le_refl _) ah [] h1 h2 (fun c => by omega) (by simp) (fun i hi => by omega)
      · rw [hR1 c]
        exact law_l4e hl hx hA h40 ha c ah h1 h2
    · have : j = 0:=by omega
      subst this
      refine ⟨by simp, fun j hj => ?_⟩
      show ((List.replicate 41 false).set b true).getD j false = true ↔ _
      rw [set_at _ _ _ _ (by simp only [List.length_replicate]; omega), rep_false]
      unfold In2
      simp only [fwd]
      by_cases c : j = b
      · rw [if_pos c]
        exact ⟨fun _ => by omega, fun _ => rfl⟩
      · rw [if_neg c]
        exact ⟨fun h => absurd h (by simp), fun h => by omega⟩
  · intro n hn ih h
    refine Evt.succ ?_
    simp only [gridhalllaw3_RampRanges.l0, rdx, wn n (by omega)]
    refine Evt.ite_pos (by omega) (Evt.ite_pos (by omega) (Evt.ite_pos (by omega) (Evt.ite (fun _ => Evt.pure _) fun c => ih fun m hm => ?_)))
    by_cases e : m = n
    · subst e
      omega
    · exact h m (by omega)
theorem Range_ev (hl : l.length ≤ 24) (hx : ∀ n, n < l.length → okR (l.getD n z30)) (hA : okArg a u d) (hc : Evt (fun k => ramp_Check.f k l a u d) 0) :
    ∃ R : List S30 × Int, Evt (fun k => ramp_Range.f k l a u d) R ∧
      (¬ (fwd l a u d l.length).1 ≤ (fwd l a u d l.length).2 → R = ([], 8)) ∧
      ((fwd l a u d l.length).1 ≤ (fwd l a u d l.length).2 → R.2 = 0 ∧ R.1.length = l.length ∧ ∀ j, j < l.length → R.1.getD j z30 = ⟨(bwd l a u d (l.length - (j + 1))).1, (bwd l a u d (l.length - (j + 1))).2⟩):=by
  obtain ⟨R, h1, h2, h3⟩:=Range_l0 hl hx hA 0 (by omega) [] rfl (fun j hj => by omega) (Int.le_refl _)
  refine ⟨R, ?_, h2, h3⟩
  simp only [ramp_Range.f]
  exact Evt.bind hc (Evt.ite_pos rfl h1)
theorem law_j0 (l : List S30) (a u d : Int) : Evt (fun q => gridhalllaw3_RampRanges.j0 q l a u d false) true := by
  obtain ⟨e, e1, e2, e3⟩:=err_ev a u d l
  by_cases c : e = 0
  · subst c
    obtain ⟨g1, g2, g3⟩:=e3 rfl
    obtain ⟨R, r1, r2, r3⟩:=Range_ev g1 g2 g3 e1
    refine Evt.succ ?_
    simp only [gridhalllaw3_RampRanges.j0]
    refine Evt.ite_neg (by simp) (Evt.bind r1 (Evt.bind e2 (Evt.ite_pos rfl ?_)))
    exact law_l0 g1 g2 g3 r2 r3 0 (by omega) (fun m hm => by omega)
  · have r1 : Evt (fun k => ramp_Range.f k l a u d) (([] : List S30), e):=by
      simp only [ramp_Range.f]
      exact Evt.bind e1 (Evt.ite_neg c (Evt.pure _))
    refine Evt.succ ?_
    simp only [gridhalllaw3_RampRanges.j0]
    exact Evt.ite_neg (by simp) (Evt.bind r1 (Evt.bind e2 (Evt.ite_neg c (Evt.ite_pos rfl (Evt.pure _)))))
theorem law_f (l : List S30) (a u d : Int) : Evt (fun q => gridhalllaw3_RampRanges.f q l a u d) true := by
  obtain ⟨e, e1, _, _⟩:=err_ev 0 10 10 [(⟨0, 40⟩ : S30), ⟨0, 40⟩]
  have hx : ∀ n, n < [(⟨0, 40⟩ : S30), ⟨0, 40⟩].length → okR ([(⟨0, 40⟩ : S30), ⟨0, 40⟩].getD n z30):=by
    intro n hn
    rcases n with _|_|n
    · exact ⟨by decide, by decide, by decide⟩
    · exact ⟨by decide, by decide, by decide⟩
    · simp at hn
      omega
  have hc : Evt (fun k => ramp_Check.f k [(⟨0, 40⟩ : S30), ⟨0, 40⟩] 0 10 10) 0:=⟨10, fun k hk => by
    obtain ⟨m, rfl⟩ : ∃ m, k = m + 1 + 1 + 1:=⟨k - 3, by omega⟩
    have w1 : wrap64 1 = 1:=wrap64_of (by omega) (by omega)
    have w2 : wrap64 2 = 2:=wrap64_of (by omega) (by omega)
    simp [ramp_Check.f, ramp_Check.l0, rd_T30, w1, w2]⟩
  obtain ⟨R, r1, r2, r3⟩:=Range_ev (l:=[(⟨0, 40⟩ : S30), ⟨0, 40⟩]) (a:=0) (u:=10) (d:=10) (by decide) hx ⟨by decide, by decide, by decide⟩ hc
  obtain ⟨q1, q2, q3⟩:=r3 (by decide)
  have q4:=q3 1 (by decide)
  have q5 : R.1.getD 1 z30 = ⟨0, 20⟩:=q4
  simp only [gridhalllaw3_RampRanges.f]
  refine Evt.bind r1 (Evt.ite_pos q1 (Evt.ite_pos (by rw [q2]; rfl) (Evt.ite_pos (by rw [q2]; decide) ?_)))
  have e5 : rd_T30 R.1 1 = ⟨0, 20⟩:=q5
  rw [e5]
  exact law_j0 l a u d
end
end Go.Proofs.Ytpmaiofgnbgboaa.BRampRanges
