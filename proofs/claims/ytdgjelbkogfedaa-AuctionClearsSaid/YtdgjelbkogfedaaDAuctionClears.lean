import Derived.Test.YtdgjelbkogfedaaCAuctionClears
import Derived.Test.YtdgjelbkogfedaaHAuctionClearsy8
import Derived.Test.YtdgjelbkogfedaaHAuctionClearsy9
import Derived.Test.YtdgjelbkogfedaaHAuctionClearsy12
import Derived.Test.YtdgjelbkogfedaaHAuctionClearsy13
namespace Go.Proofs.Ytdgjelbkogfedaa.DAuctionClears
open Go.RowKit Go.Proofs.YtdgjelbkogfedaaW.PrintWords Go.Proofs.YtdgjelbkogfedaaW.PrintMore Go.Proofs.Ytdgjelbkogfedaa.Evs Go.Proofs.Ytdgjelbkogfedaa.PAuctionClears Go.Proofs.Ytdgjelbkogfedaa.BAuctionClears Go.Proofs.Ytdgjelbkogfedaa.CAuctionClears Go.Proofs.Ytdgjelbkogfedaa.ZAuctionClears Go.Proofs.Ytdgjelbkogfedaa.XAuctionClears
set_option linter.unusedVariables false
set_option linter.unusedSectionVars false
set_option linter.unusedSimpArgs false
def LowC (l : List Or) (F : List Int) (x : Int) : Prop := (Br l x = true ∧ rd F x < Qr l x) ∨ (Br l x = false ∧ 0 < rd F x)
def HighC (l : List Or) (F : List Int) (x : Int) : Prop := (Br l x = true ∧ 0 < rd F x) ∨ (Br l x = false ∧ rd F x < Qr l x)
instance (l : List Or) (F : List Int) (x : Int) : Decidable (LowC l F x) := by unfold LowC; infer_instance
instance (l : List Or) (F : List Int) (x : Int) : Decidable (HighC l F x) := by unfold HighC; infer_instance
def IsLo (l : List Or) (F : List Int) (n : Nat) (v : Int) : Prop := (∀ x, 0 ≤ x → x < (n : Int) → LowC l F x → Pr l x ≤ v) ∧ (v = -2000000 ∨ ∃ x, 0 ≤ x ∧ x < (n : Int) ∧ LowC l F x ∧ Pr l x = v)
def IsHi (l : List Or) (F : List Int) (n : Nat) (v : Int) : Prop := (∀ x, 0 ≤ x → x < (n : Int) → HighC l F x → v ≤ Pr l x) ∧ (v = 2000000 ∨ ∃ x, 0 ≤ x ∧ x < (n : Int) ∧ HighC l F x ∧ Pr l x = v)
theorem lo_next {l : List Or} {F : List Int} {n : Nat} {v : Int} (hp : -1000000 ≤ Pr l (n : Int)) (h : IsLo l F n v) : IsLo l F (n + 1) (if LowC l F (n : Int) then mx v (Pr l (n : Int)) else v) := by
  by_cases c : LowC l F (n : Int)
  · rw [if_pos c, mx_eq]
    refine ⟨fun x h0 h1 h2 => ?_, ?_⟩
    · by_cases e : x = (n : Int)
      · rw [e]; omega
      · have:=h.1 x h0 (by omega) h2; omega
    · by_cases g : v ≤ Pr l (n : Int)
      · exact Or.inr ⟨(n : Int), by omega, by omega, c, by omega⟩
      · rcases h.2 with h|⟨x, h0, h1, h2, h3⟩
        · omega
        · exact Or.inr ⟨x, h0, by omega, h2, by omega⟩
  · rw [if_neg c]
    refine ⟨fun x h0 h1 h2 => ?_, ?_⟩
    · by_cases e : x = (n : Int)
      · rw [e] at h2; exact absurd h2 c
      · exact h.1 x h0 (by omega) h2
    · rcases h.2 with h|⟨x, h0, h1, h2, h3⟩
      · exact Or.inl h
      · exact Or.inr ⟨x, h0, by omega, h2, h3⟩
theorem hi_next {l : List Or} {F : List Int} {n : Nat} {v : Int} (hp : Pr l (n : Int) ≤ 1000000) (h : IsHi l F n v) : IsHi l F (n + 1) (if HighC l F (n : Int) then mn v (Pr l (n : Int)) else v) := by
  by_cases c : HighC l F (n : Int)
  · rw [if_pos c, mn_eq]
    refine ⟨fun x h0 h1 h2 => ?_, ?_⟩
    · by_cases e : x = (n : Int)
      · rw [e]; omega
      · have:=h.1 x h0 (by omega) h2; omega
    · by_cases g : Pr l (n : Int) ≤ v
      · exact Or.inr ⟨(n : Int), by omega, by omega, c, by omega⟩
      · rcases h.2 with h|⟨x, h0, h1, h2, h3⟩
        · omega
        · exact Or.inr ⟨x, h0, by omega, h2, by omega⟩
  · rw [if_neg c]
    refine ⟨fun x h0 h1 h2 => ?_, ?_⟩
    · by_cases e : x = (n : Int)
      · rw [e] at h2; exact absurd h2 c
      · exact h.1 x h0 (by omega) h2
    · rcases h.2 with h|⟨x, h0, h1, h2, h3⟩
      · exact Or.inl h
      · exact Or.inr ⟨x, h0, by omega, h2, h3⟩
theorem bounds_l0 (l : List Or) (hl : Fine l) (F : List Int) (hF : F.length = l.length) (p q : Int) : ∀ n, n ≤ l.length → ∀ lo hi, IsLo l F n lo → IsHi l F n hi →
    ∃ lo' hi', IsLo l F l.length lo' ∧ IsHi l F l.length hi' ∧ Evt (fun k => auction_bounds.l0 k lo hi l (l.length : Int) (n : Int) p q F) (lo', hi'):=by
  have hlen:=hl.len
  refine down ?_ ?_
  · intro lo hi h1 h2
    refine ⟨lo, hi, h1, h2, Evt.succ ?_⟩
    simp only [auction_bounds.l0]
    exact Evt.ite_neg (by omega) (Evt.pure _)
  · intro n hn ih lo hi h1 h2
    have eP : ((og l n)).f3 = Pr l (n : Int):=by unfold Pr; rw [rdOr]
    have eQ : ((og l n)).f2 = Qr l (n : Int):=by unfold Qr; rw [rdOr]
    have eB : ((og l n)).f1 = Br l (n : Int):=by unfold Br; rw [rdOr]
    have hr:=hl.rng n hn
    rw [eP] at hr
    obtain ⟨lo', hi', g1, g2, H⟩:=ih _ _ (lo_next hr.2.2.1 h1) (hi_next hr.2.2.2 h2)
    refine ⟨lo', hi', g1, g2, ?_⟩
    have J : ∀ nm, Evt (fun k => auction_bounds.j1 k lo hi (n : Int) l (l.length : Int) (n : Int) (decide (LowC l F (n : Int))) p q F nm (Br l (n : Int)) (Qr l (n : Int)) (Pr l (n : Int))) (lo', hi'):=by
      intro nm
      refine Evt.succ ?_
      simp only [auction_bounds.j1]
      rw [wrap64_nat (by omega)]
      have c0 : (0 : Int) ≤ (n : Int):=by omega
      have c1 : (n : Int) < (F.length : Int):=by omega
      by_cases hb : Br l (n : Int) = true
      · have e1 : (LowC l F (n : Int)) ↔ rd F (n : Int) < Qr l (n : Int):=by simp [LowC, hb]
        have e2 : (HighC l F (n : Int)) ↔ 0 < rd F (n : Int):=by simp [HighC, hb]
        by_cases q1 : LowC l F (n : Int) <;> by_cases q2 : HighC l F (n : Int) <;> simp only [q1, q2, ↓reduceIte] at H
        · exact Evt.ite_pos (decide_eq_true q1) (Evt.ite_pos hb (Evt.ite_pos c0 (Evt.ite_pos c1 (Evt.ite_pos (e2.1 q2) H))))
        · exact Evt.ite_pos (decide_eq_true q1) (Evt.ite_pos hb (Evt.ite_pos c0 (Evt.ite_pos c1 (Evt.ite_neg (fun h => q2 (e2.2 h)) H))))
        · exact Evt.ite_neg (by simp [q1]) (Evt.ite_pos hb (Evt.ite_pos c0 (Evt.ite_pos c1 (Evt.ite_pos (e2.1 q2) H))))
        · exact Evt.ite_neg (by simp [q1]) (Evt.ite_pos hb (Evt.ite_pos c0 (Evt.ite_pos c1 (Evt.ite_neg (fun h => q2 (e2.2 h)) H))))
      · have e1 : (LowC l F (n : Int)) ↔ 0 < rd F (n : Int):=by simp [LowC, hb]
        have e2 : (HighC l F (n : Int)) ↔ rd F (n : Int) < Qr l (n : Int):=by simp [HighC, hb]
        by_cases q1 : LowC l F (n : Int) <;> by_cases q2 : HighC l F (n : Int) <;> simp only [q1, q2, ↓reduceIte] at H
        · exact Evt.ite_pos (decide_eq_true q1) (Evt.ite_neg hb (Evt.ite_pos c0 (Evt.ite_pos c1 (Evt.ite_pos (e2.1 q2) H))))
        · exact Evt.ite_pos (decide_eq_true q1) (Evt.ite_neg hb (Evt.ite_pos c0 (Evt.ite_pos c1 (Evt.ite_neg (fun h => q2 (e2.2 h)) H))))
        · exact Evt.ite_neg (by simp [q1]) (Evt.ite_neg hb (Evt.ite_pos c0 (Evt.ite_pos c1 (Evt.ite_pos (e2.1 q2) H))))
        · exact Evt.ite_neg (by simp [q1]) (Evt.ite_neg hb (Evt.ite_pos c0 (Evt.ite_pos c1 (Evt.ite_neg (fun h => q2 (e2.2 h)) H))))
    refine Evt.succ ?_
    simp only [auction_bounds.l0, rdOr]
    rw [eB, eQ, eP]
    refine Evt.ite_pos (by omega) (Evt.ite_pos (by omega) (Evt.ite_pos (by omega) ?_))
    have J:=J (og l n).f0
    by_cases hb : Br l (n : Int) = true
    · refine Evt.ite_pos hb (Evt.ite_pos (by omega) ?_)
      by_cases q1 : rd F (n : Int) < Qr l (n : Int)
      · rw [decide_eq_true (show LowC l F (n : Int) from Or.inl ⟨hb, q1⟩)] at J
        exact Evt.ite_pos q1 J
      · rw [decide_eq_false (show ¬ LowC l F (n : Int) from fun h => by simp [LowC, hb] at h; exact q1 h)] at J
        exact Evt.ite_neg q1 (Evt.ite_pos hb J)
    · refine Evt.ite_neg hb (Evt.ite_neg hb (Evt.ite_pos (by omega) ?_))
      have e : decide (LowC l F (n : Int)) = decide (rd F (n : Int) > 0):=decide_eq_decide.2 (by simp [LowC, hb])
      rw [e] at J
      exact J
theorem bounds_ev (l : List Or) (hl : Fine l) (F : List Int) (hF : F.length = l.length) (p q : Int) : ∃ lo hi, IsLo l F l.length lo ∧ IsHi l F l.length hi ∧ Evt (fun k => auction_bounds.f k l p q F) (lo, hi) := by
  simp only [auction_bounds.f]
  exact bounds_l0 l hl F hF p q 0 (Nat.zero_le _) _ _ ⟨fun x h0 h1 => by omega, Or.inl rfl⟩ ⟨fun x h0 h1 => by omega, Or.inl rfl⟩
def fitsN (l : List Or) (F : List Int) (p : Int) : Nat → Nat → Bool
 |0, _ => true
 |d + 1, n => if (LowC l F (n : Int) → Pr l (n : Int) ≤ p) ∧ (HighC l F (n : Int) → p ≤ Pr l (n : Int)) then fitsN l F p d (n + 1) else false
theorem fitsN_iff (l : List Or) (F : List Int) (p : Int) : ∀ d n, fitsN l F p d n = true ↔ ∀ x : Int, (n : Int) ≤ x → x < ((n + d : Nat) : Int) → (LowC l F x → Pr l x ≤ p) ∧ (HighC l F x → p ≤ Pr l x) := by
  intro d
  induction d with
 |zero => intro n; simp only [fitsN, true_iff]; intro x h1 h2; omega
 |succ d ih =>
    intro n
    simp only [fitsN]
    split
    · rename_i h
      rw [ih]
      constructor
      · intro g x h1 h2
        by_cases e : x = (n : Int)
        · rw [e]; exact h
        · exact g x (by omega) (by omega)
      · intro g x h1 h2
        exact g x (by omega) (by omega)
    · rename_i h
      simp only [Bool.false_eq_true, false_iff]
      intro g
      exact h (g (n : Int) (by omega) (by omega))
theorem fits_l0 (l : List Or) (hl : l.length ≤ 32) (F : List Int) (hF : F.length = l.length) (p : Int) : ∀ n, n ≤ l.length → Evt (fun k => gridhallref3_FitsPrice.l0 k F p l (l.length : Int) (n : Int)) (fitsN l F p (l.length - n) n) := by
  refine down ?_ ?_
  · refine Evt.succ ?_
    simp only [gridhallref3_FitsPrice.l0, Nat.sub_self, fitsN]
    exact Evt.ite_neg (by omega) (Evt.pure _)
  · intro n hn ih
    obtain ⟨d, hd⟩ : ∃ d, l.length - n = d + 1:=⟨l.length - n - 1, by omega⟩
    rw [show l.length - (n + 1) = d by omega] at ih
    have eP : ((og l n)).f3 = Pr l (n : Int):=by unfold Pr; rw [rdOr]
    have eQ : ((og l n)).f2 = Qr l (n : Int):=by unfold Qr; rw [rdOr]
    have eB : ((og l n)).f1 = Br l (n : Int):=by unfold Br; rw [rdOr]
    rw [hd]
    refine Evt.succ ?_
    simp only [gridhallref3_FitsPrice.l0, rdOr, fitsN]
    rw [eB, eQ, eP, wrap64_nat (by omega)]
    refine Evt.ite_pos (by omega) (Evt.ite_pos (by omega) (Evt.ite_pos (by omega) (Evt.ite_pos (by omega) ?_)))
    have no : Evt (fun _ => some false) false:=Evt.pure _
    by_cases hb : Br l (n : Int) = true <;> by_cases h1 : 0 < rd F (n : Int) <;> by_cases h2 : rd F (n : Int) < Qr l (n : Int) <;> by_cases h3 : Pr l (n : Int) < p <;> by_cases h4 : p < Pr l (n : Int) <;>
      first
       |(exfalso; omega)
       |(simp [LowC, HighC, hb, h1, h2, h3, h4, Int.not_le.2, Int.not_lt.1, gt_iff_lt]; first|exact ih|exact no|(have e5:=Int.not_lt.1 h3; have e6:=Int.not_lt.1 h4; simp [e5, e6]; exact ih)|(have e5:=Int.le_of_lt h3; simp [e5]; exact ih)|(have e5:=Int.le_of_lt h4; simp [e5]; exact ih))
theorem fits_ev (l : List Or) (hl : l.length ≤ 32) (F : List Int) (hF : F.length = l.length) (p : Int) : Evt (fun k => gridhallref3_FitsPrice.f k l F p) (fitsN l F p l.length 0) := by
  simp only [gridhallref3_FitsPrice.f]
  exact fits_l0 l hl F hF p 0 (Nat.zero_le _)
theorem rd_set {F : List Int} {x y v : Int} (hx : 0 ≤ x) (hx2 : x < (F.length : Int)) (hy : 0 ≤ y) : rd (F.set x.toNat v) y = if y = x then v else rd F y := by
  unfold rd
  rw [List.getD_eq_getElem?_getD, List.getD_eq_getElem?_getD, List.getElem?_set]
  by_cases e : y = x
  · subst e
    rw [if_pos rfl, if_pos rfl, if_pos (by omega)]
    rfl
  · rw [if_neg (by omega), if_neg e]
theorem rd_ext {F G : List Int} (h : F.length = G.length) (he : ∀ x : Int, 0 ≤ x → x < (F.length : Int) → rd F x = rd G x) : F = G := by
  refine List.ext_getElem h fun i h1 h2 => ?_
  have:=he (i : Int) (by omega) (by omega)
  unfold rd at this
  simpa [List.getD_eq_getElem?_getD, h1, h2] using this
def bump (F : List Int) (b s j : Int) : List Int := (F.set b.toNat (rd F b + j)).set s.toNat (rd F s + j)
theorem bump_len (F : List Int) (b s j : Int) : (bump F b s j).length = F.length := by simp [bump]
theorem rd_bump {F : List Int} {b s j x : Int} (hb : 0 ≤ b) (hb2 : b < (F.length : Int)) (hs : 0 ≤ s) (hs2 : s < (F.length : Int)) (hx : 0 ≤ x) : rd (bump F b s j) x = if x = s then rd F s + j else if x = b then rd F b + j else rd F x := by
  unfold bump
  rw [rd_set hs (by rw [List.length_set]; exact hs2) hx, rd_set hb hb2 hx]
theorem bump_zero {F : List Int} {b s : Int} (hb : 0 ≤ b) (hb2 : b < (F.length : Int)) (hs : 0 ≤ s) (hs2 : s < (F.length : Int)) : bump F b s 0 = F := by
  refine rd_ext (bump_len F b s 0) fun x h0 _ => ?_
  rw [rd_bump hb hb2 hs hs2 h0]
  by_cases e : x = s
  · rw [if_pos e, e]; omega
  · rw [if_neg e]
    by_cases e : x = b
    · rw [if_pos e, e]; omega
    · rw [if_neg e]
theorem bump_bump {F : List Int} {b s i j : Int} (hb : 0 ≤ b) (hb2 : b < (F.length : Int)) (hs : 0 ≤ s) (hs2 : s < (F.length : Int)) (hne : b ≠ s) : bump (bump F b s i) b s j = bump F b s (i + j) := by
  have hl:=bump_len F b s i
  refine rd_ext (by rw [bump_len, bump_len, bump_len]) fun x h0 _ => ?_
  rw [rd_bump hb (by omega) hs (by omega) h0, rd_bump hb hb2 hs hs2 h0, rd_bump hb hb2 hs hs2 hs, rd_bump hb hb2 hs hs2 hb, if_pos rfl, if_neg hne, if_pos rfl]
  rw [rd_bump hb hb2 hs hs2 h0]
  by_cases e : x = s
  · simp [e]; omega
  · by_cases e2 : x = b
    · simp [e, e2, hne]; omega
    · simp [e, e2]
theorem fine_q {l : List Or} (h : Fine l) {x : Int} (hx : In l x) : 1 ≤ Qr l x ∧ Qr l x ≤ 100000 ∧ -1000000 ≤ Pr l x ∧ Pr l x ≤ 1000000 := by
  have e : x = (x.toNat : Int):=by have:=hx.1; omega
  have:=h.rng x.toNat (by have:=hx.2; omega)
  unfold Qr Pr
  rw [e, rdOr]
  exact this
theorem side_in {l : List Or} {b : Bool} {S : List Int} (h : Side l b S) {x : Int} (hx : x ∈ S) : In l x ∧ Br l x = b := (h.mem x).1 hx
theorem side_ne {l : List Or} {b : Bool} {D R : List Int} {y : Int} (h : Side l b (D ++ y :: R)) {x : Int} (hx : x ∈ D ∨ x ∈ R) : x ≠ y := by
  intro e
  subst e
  obtain ⟨p1, p2, p3⟩:=List.pairwise_append.1 h.pw
  rcases hx with hx|hx
  · have:=p3 x hx x (by simp)
    exact prec_asym this this
  · have:=(List.pairwise_cons.1 p2).1 x hx
    exact prec_asym this this
theorem cross_ne {l : List Or} {x y : Int} (hx : Br l x = true) (hy : Br l y = false) : x ≠ y := by
  intro e
  rw [e, hy] at hx
  cases hx
structure Two (l : List Or) (F : List Int) (D1 R1 D2 R2 : List Int) : Prop where
  len : F.length = l.length
  s1 : Side l true (D1 ++ R1)
  s2 : Side l false (D2 ++ R2)
  a1 : At l F D1 R1
  a2 : At l F D2 R2
theorem Two.bump {l : List Or} {F : List Int} {D1 R1 D2 R2 : List Int} {b s j : Int} (h : Two l F D1 (b :: R1) D2 (s :: R2)) (hj : 0 ≤ j) (h1 : rd F b + j < Qr l b) (h2 : rd F s + j < Qr l s) : Two l (bump F b s j) D1 (b :: R1) D2 (s :: R2) := by
  obtain ⟨ib, tb⟩:=side_in h.s1 (x:=b) (by simp)
  obtain ⟨is_, ts⟩:=side_in h.s2 (x:=s) (by simp)
  have hbs:=cross_ne tb ts
  have hl:=h.len
  have R:=fun {x : Int} (hx : 0 ≤ x) => rd_bump (F:=F) (j:=j) ib.1 (by rw [hl]; exact ib.2) is_.1 (by rw [hl]; exact is_.2) hx
  have n1:=fun {x} (hx : x ∈ D1 ∨ x ∈ R1) => side_ne h.s1 hx
  have n2:=fun {x} (hx : x ∈ D2 ∨ x ∈ R2) => side_ne h.s2 hx
  refine ⟨by rw [bump_len, hl], h.s1, h.s2, ⟨fun x hx => ?_, fun x hx => ?_, fun x hx => ?_⟩,⟨fun x hx => ?_, fun x hx => ?_, fun x hx => ?_⟩⟩
  · obtain ⟨i, t⟩:=side_in h.s1 (x:=x) (by simp [hx])
    rw [R i.1, if_neg (cross_ne t ts), if_neg (n1 (Or.inl hx))]
    exact h.a1.full x hx
  · obtain rfl : b = x:=by simpa using hx
    have:=h.a1.hd b rfl
    rw [R ib.1, if_neg hbs, if_pos rfl]
    omega
  · obtain ⟨i, t⟩:=side_in h.s1 (x:=x) (by simp at hx; simp [hx])
    rw [R i.1, if_neg (cross_ne t ts), if_neg (n1 (Or.inr hx))]
    exact h.a1.none x hx
  · obtain ⟨i, t⟩:=side_in h.s2 (x:=x) (by simp [hx])
    rw [R i.1, if_neg (n2 (Or.inl hx)), if_neg (cross_ne tb t).symm]
    exact h.a2.full x hx
  · obtain rfl : s = x:=by simpa using hx
    have:=h.a2.hd s rfl
    rw [R is_.1, if_pos rfl]
    omega
  · obtain ⟨i, t⟩:=side_in h.s2 (x:=x) (by simp at hx; simp [hx])
    rw [R i.1, if_neg (n2 (Or.inr hx)), if_neg (cross_ne tb t).symm]
    exact h.a2.none x hx
theorem ref_step {l : List Or} (hl : Fine l) {F : List Int} {D1 R1 D2 R2 : List Int} {b s : Int} (h : Two l F D1 (b :: R1) D2 (s :: R2)) (hP : Pr l s ≤ Pr l b) {pr pw : Int} (hp : 0 ≤ pw) (hp2 : pw ≤ 1000000000) {r : Int × Int × List Int}
    (H : Evt (fun k => gridhallref3_Cleared.l0 k l pr (pw + 1) (bump F b s 1)) r) : Evt (fun k => gridhallref3_Cleared.l0 k l pr pw F) r:=by
  obtain ⟨ib, tb⟩:=side_in h.s1 (x:=b) (by simp)
  obtain ⟨is_, ts⟩:=side_in h.s2 (x:=s) (by simp)
  have hbs:=cross_ne tb ts
  have hlen:=h.len
  have qb:=fine_q hl ib
  have qs:=fine_q hl is_
  have ub:=h.a1.hd b rfl
  have us:=h.a2.hd s rfl
  have ib1:=ib.1
  have ib2:=ib.2
  have is1:=is_.1
  have is2:=is_.2
  obtain ⟨r1, g1, e1⟩:=best_ev l hl.len F hlen true
  obtain ⟨r2, g2, e2⟩:=best_ev l hl.len F hlen false
  obtain rfl:=best_cons h.a1 h.s1 (fun x hx => (fine_q hl hx).1) g1
  obtain rfl:=best_cons h.a2 h.s2 (fun x hx => (fine_q hl hx).1) g2
  refine Evt.succ ?_
  simp only [gridhallref3_Cleared.l0]
  refine Evt.bind e1 (Evt.bind e2 (Evt.ite_neg (by omega) (Evt.ite_neg (by omega) (Evt.ite_pos (by omega) (Evt.ite_pos (by omega) (Evt.ite_pos (by omega) (Evt.ite_pos (by omega) (Evt.ite_neg ?_ (Evt.ite_pos (by omega) (Evt.bindo rfl (Evt.ite_pos (by omega) ?_)))))))))))
  · show ¬ Pr l r1 < Pr l r2
    omega
  · rw [rd_set ib1 (by omega) is1, if_neg hbs.symm, wrap64_of (by omega) (by omega), wrap64_of (by omega) (by omega), wrap64_of (by omega) (by omega)]
    exact H
theorem ref_chunk {l : List Or} (hl : Fine l) {D1 R1 D2 R2 : List Int} {b s : Int} (hP : Pr l s ≤ Pr l b) {pr : Int} {r : Int × Int × List Int} : ∀ (j : Nat) (F : List Int) (pw : Int), Two l F D1 (b :: R1) D2 (s :: R2) → rd F b + j ≤ Qr l b → rd F s + j ≤ Qr l s → 0 ≤ pw → pw + j ≤ 1000000000 →
    Evt (fun k => gridhallref3_Cleared.l0 k l pr (pw + j) (bump F b s j)) r → Evt (fun k => gridhallref3_Cleared.l0 k l pr pw F) r:=by
  intro j
  induction j with
 |zero =>
    intro F pw h _ _ _ _ H
    obtain ⟨ib, tb⟩:=side_in h.s1 (x:=b) (by simp)
    obtain ⟨is_, ts⟩:=side_in h.s2 (x:=s) (by simp)
    have hlen:=h.len
    have e : bump F b s ((0 : Nat) : Int) = F:=bump_zero ib.1 (by rw [hlen]; exact ib.2) is_.1 (by rw [hlen]; exact is_.2)
    rw [e] at H
    simpa using H
 |succ j ih =>
    intro F pw h h1 h2 h3 h4 H
    obtain ⟨ib, tb⟩:=side_in h.s1 (x:=b) (by simp)
    obtain ⟨is_, ts⟩:=side_in h.s2 (x:=s) (by simp)
    have hlen:=h.len
    have hbs:=cross_ne tb ts
    refine ref_step hl h hP h3 (by omega) ?_
    have B:=fun i j => bump_bump (F:=F) (i:=i) (j:=j) ib.1 (by rw [hlen]; exact ib.2) is_.1 (by rw [hlen]; exact is_.2) hbs
    by_cases c : j = 0
    · subst c
      simpa using H
    · have R:=fun {x : Int} (hx : 0 ≤ x) => rd_bump (F:=F) (j:=1) ib.1 (by rw [hlen]; exact ib.2) is_.1 (by rw [hlen]; exact is_.2) hx
      have rb : rd (bump F b s 1) b = rd F b + 1:=by rw [R ib.1, if_neg hbs, if_pos rfl]
      have rs : rd (bump F b s 1) s = rd F s + 1:=by rw [R is_.1, if_pos rfl]
      refine ih (bump F b s 1) (pw + 1) (h.bump (by omega) (by omega) (by omega)) (by rw [rb]; omega) (by rw [rs]; omega) (by omega) (by omega) ?_
      rw [B]
      have e1 : (1 : Int) + (j : Int) = ((j + 1 : Nat) : Int):=by omega
      have e2 : pw + 1 + (j : Int) = pw + ((j + 1 : Nat) : Int):=by omega
      rw [e1, e2]
      exact H
theorem ref_done {l : List Or} (hl : Fine l) {F : List Int} {D1 R1 D2 R2 : List Int} (h : Two l F D1 R1 D2 R2) (hd : R1 = [] ∨ R2 = [] ∨ ∀ b s, R1.head? = some b → R2.head? = some s → Pr l b < Pr l s) (pr pw : Int) : Evt (fun k => gridhallref3_Cleared.l0 k l pr pw F) (pr, pw, F) := by
  have hlen:=h.len
  obtain ⟨r1, g1, e1⟩:=best_ev l hl.len F hlen true
  obtain ⟨r2, g2, e2⟩:=best_ev l hl.len F hlen false
  have hq:=fun x hx => (fine_q hl (x:=x) hx).1
  refine Evt.succ ?_
  simp only [gridhallref3_Cleared.l0]
  refine Evt.bind e1 (Evt.bind e2 ?_)
  cases R1 with
 |nil =>
    have:=best_nil h.a1 h.s1 hq g1
    exact Evt.ite_pos (by omega) (Evt.pure _)
 |cons b R1 =>
    obtain rfl:=best_cons h.a1 h.s1 hq g1
    obtain ⟨ib, tb⟩:=side_in h.s1 (x:=r1) (by simp)
    have ib1:=ib.1
    have ib2:=ib.2
    refine Evt.ite_neg (by omega) ?_
    cases R2 with
   |nil =>
      have:=best_nil h.a2 h.s2 hq g2
      exact Evt.ite_pos (by omega) (Evt.pure _)
   |cons s R2 =>
      obtain rfl:=best_cons h.a2 h.s2 hq g2
      obtain ⟨is_, ts⟩:=side_in h.s2 (x:=r2) (by simp)
      have is1:=is_.1
      have is2:=is_.2
      refine Evt.ite_neg (by omega) (Evt.ite_pos (by omega) (Evt.ite_pos (by omega) (Evt.ite_pos (by omega) (Evt.ite_pos (by omega) (Evt.ite_pos ?_ (Evt.pure _))))))
      rcases hd with hd|hd|hd
      · cases hd
      · cases hd
      · exact hd r1 r2 rfl rfl
def Traded (l : List Or) (F : List Int) : Prop := ∀ x y, In l x → In l y → Br l x = true → Br l y = false → 0 < rd F x → 0 < rd F y → Pr l y ≤ Pr l x
def Pos (l : List Or) (F : List Int) (pw : Int) : Prop := 0 < pw → (∃ x, In l x ∧ Br l x = true ∧ 0 < rd F x) ∧ (∃ y, In l y ∧ Br l y = false ∧ 0 < rd F y)
structure Done (l : List Or) (F : List Int) (pw : Int) : Prop where
  len : F.length = l.length
  nn : 0 ≤ pw
  cross : ∀ x y, In l x → In l y → LowC l F x → HighC l F y → Pr l x ≤ Pr l y
  pos : 0 < pw → (∃ x, In l x ∧ LowC l F x) ∧ (∃ y, In l y ∧ HighC l F y)
theorem ord1 {l : List Or} {D R : List Int} (h : Side l true (D ++ R)) {x y : Int} (hy : y ∈ D ∨ R.head? = some y) (hx : x ∈ R) : Pr l x ≤ Pr l y := by
  obtain ⟨p1, p2, p3⟩:=List.pairwise_append.1 h.pw
  rcases hy with hy|hy
  · have:=prec_le (p3 y hy x hx)
    simp [btr] at this
    exact this
  · cases R with
   |nil => cases hx
   |cons z R =>
      obtain rfl : z = y:=by simpa using hy
      rcases List.mem_cons.1 hx with rfl|hx
      · exact Int.le_refl _
      · have:=prec_le ((List.pairwise_cons.1 p2).1 x hx)
        simp [btr] at this
        exact this
theorem ord2 {l : List Or} {D R : List Int} (h : Side l false (D ++ R)) {x y : Int} (hy : y ∈ D ∨ R.head? = some y) (hx : x ∈ R) : Pr l y ≤ Pr l x := by
  obtain ⟨p1, p2, p3⟩:=List.pairwise_append.1 h.pw
  rcases hy with hy|hy
  · have:=prec_le (p3 y hy x hx)
    simp [btr] at this
    exact this
  · cases R with
   |nil => cases hx
   |cons z R =>
      obtain rfl : z = y:=by simpa using hy
      rcases List.mem_cons.1 hx with rfl|hx
      · exact Int.le_refl _
      · have:=prec_le ((List.pairwise_cons.1 p2).1 x hx)
        simp [btr] at this
        exact this
theorem at_rest {l : List Or} {F : List Int} {b : Bool} {D R : List Int} (h : At l F D R) (hs : Side l b (D ++ R)) {x : Int} (hx : In l x) (hb : Br l x = b) (hq : rd F x < Qr l x) : x ∈ R := by
  rcases List.mem_append.1 ((hs.mem x).2 ⟨hx, hb⟩) with m|m
  · have:=h.full x m; omega
  · exact m
theorem at_some {l : List Or} {F : List Int} {b : Bool} {D R : List Int} (h : At l F D R) (hs : Side l b (D ++ R)) {x : Int} (hx : In l x) (hb : Br l x = b) (hq : 0 < rd F x) : x ∈ D ∨ R.head? = Option.some x := by
  rcases List.mem_append.1 ((hs.mem x).2 ⟨hx, hb⟩) with m|m
  · exact Or.inl m
  · cases R with
   |nil => cases m
   |cons y R =>
      rcases List.mem_cons.1 m with rfl|m
      · exact Or.inr rfl
      · have:=h.none x m; omega
theorem done_of {l : List Or} {F : List Int} {D1 R1 D2 R2 : List Int} (h : Two l F D1 R1 D2 R2) (hd : R1 = [] ∨ R2 = [] ∨ ∀ b s, R1.head? = some b → R2.head? = some s → Pr l b < Pr l s) {pw : Int} (hp : 0 ≤ pw) (ht : Traded l F) (hpos : Pos l F pw) : Done l F pw := by
  refine ⟨h.len, hp, fun x y hx hy lx hy2 => ?_, fun p => ?_⟩
  · rcases lx with ⟨bx, qx⟩|⟨bx, qx⟩ <;> rcases hy2 with ⟨by_, qy⟩|⟨by_, qy⟩
    · exact ord1 h.s1 (at_some h.a1 h.s1 hy by_ qy) (at_rest h.a1 h.s1 hx bx qx)
    · have mx:=at_rest h.a1 h.s1 hx bx qx
      have my:=at_rest h.a2 h.s2 hy by_ qy
      cases R1 with
     |nil => cases mx
     |cons b R1 =>
        cases R2 with
       |nil => cases my
       |cons s R2 =>
          have c1:=ord1 h.s1 (y:=b) (Or.inr rfl) mx
          have c2:=ord2 h.s2 (y:=s) (Or.inr rfl) my
          rcases hd with hd|hd|hd
          · cases hd
          · cases hd
          · have:=hd b s rfl rfl; omega
    · exact ht y x hy hx by_ bx qy qx
    · exact ord2 h.s2 (at_some h.a2 h.s2 hx bx qx) (at_rest h.a2 h.s2 hy by_ qy)
  · obtain ⟨⟨x, i, b, q⟩,⟨y, j, c, p⟩⟩:=hpos p
    exact ⟨⟨y, j, Or.inr ⟨c, p⟩⟩,⟨x, i, Or.inl ⟨b, q⟩⟩⟩
theorem at_next {l : List Or} {F G : List Int} {D R : List Int} {b v : Int} (h : At l F D (b :: R)) (hb : rd G b = v) (hs : ∀ x, x ∈ D ∨ x ∈ R → rd G x = rd F x) (hq : ∀ x ∈ R, 1 ≤ Qr l x) :
    (v = Qr l b → At l G (D ++ [b]) R) ∧ (0 ≤ v → v < Qr l b → At l G D (b :: R)):=by
  refine ⟨fun e => ⟨fun x hx => ?_, fun x hx => ?_, fun x hx => ?_⟩, fun h0 h1 => ⟨fun x hx => ?_, fun x hx => ?_, fun x hx => ?_⟩⟩
  · rcases List.mem_append.1 hx with m|m
    · rw [hs x (Or.inl m)]; exact h.full x m
    · obtain rfl : x = b:=by simpa using m
      omega
  · cases R with
   |nil => cases hx
   |cons y R =>
      obtain rfl : y = x:=by simpa using hx
      have e1:=hs y (Or.inr (by simp))
      have e2:=h.none y (by simp)
      have:=hq y (by simp)
      omega
  · cases R with
   |nil => cases hx
   |cons y R =>
      rw [hs x (Or.inr (by simp at hx; simp [hx]))]
      exact h.none x (by simp at hx; simp [hx])
  · rw [hs x (Or.inl hx)]; exact h.full x hx
  · obtain rfl : b = x:=by simpa using hx
    omega
  · rw [hs x (Or.inr (by simpa using hx))]
    exact h.none x hx
theorem rd_mid (D : List Int) (b : Int) (R : List Int) : rd (D ++ b :: R) (D.length : Int) = b := by
  unfold rd
  simp [List.getD_eq_getElem?_getD]
def Price (l : List Or) (F : List Int) (pw v : Int) : Prop := (0 < pw → ∃ lo hi, IsLo l F l.length lo ∧ IsHi l F l.length hi ∧ v = lo + (hi - lo) / 2) ∧ (¬ 0 < pw → v = 0)
theorem lohi {l : List Or} (hl : Fine l) {F : List Int} {pw : Int} (h : Done l F pw) (hp : 0 < pw) {lo hi : Int} (h1 : IsLo l F l.length lo) (h2 : IsHi l F l.length hi) : (∃ x, In l x ∧ LowC l F x ∧ Pr l x = lo) ∧ (∃ y, In l y ∧ HighC l F y ∧ Pr l y = hi) ∧ lo ≤ hi ∧ -1000000 ≤ lo ∧ hi ≤ 1000000 := by
  obtain ⟨⟨a, ia, la⟩,⟨c, ic, hc⟩⟩:=h.pos hp
  have xa:=h1.1 a ia.1 ia.2 la
  have qa:=fine_q hl ia
  have xc:=h2.1 c ic.1 ic.2 hc
  have qc:=fine_q hl ic
  obtain ⟨x, x0, x1, x2, x3⟩ : ∃ x, 0 ≤ x ∧ x < (l.length : Int) ∧ LowC l F x ∧ Pr l x = lo:=by
    rcases h1.2 with e|e
    · omega
    · exact e
  obtain ⟨y, y0, y1, y2, y3⟩ : ∃ y, 0 ≤ y ∧ y < (l.length : Int) ∧ HighC l F y ∧ Pr l y = hi:=by
    rcases h2.2 with e|e
    · omega
    · exact e
  have:=h.cross x y ⟨x0, x1⟩ ⟨y0, y1⟩ x2 y2
  exact ⟨⟨x, ⟨x0, x1⟩, x2, x3⟩,⟨y, ⟨y0, y1⟩, y2, y3⟩, by omega, by omega, by omega⟩
theorem clear_end {l : List Or} (hl : Fine l) {F : List Int} {pw : Int} (h : Done l F pw) (B S : List Int) (i j : Int) : ∃ v, Price l F pw v ∧ Evt (fun k => auction_Clear.j1 k l B S i j false 0 pw F) (v, pw, F, 0) := by
  by_cases c : 0 < pw
  · obtain ⟨lo, hi, h1, h2, H⟩:=bounds_ev l hl F h.len 0 pw
    obtain ⟨-, -, q1, q2, q3⟩:=lohi hl h c h1 h2
    refine ⟨lo + (hi - lo) / 2, ⟨fun _ => ⟨lo, hi, h1, h2, rfl⟩, fun n => absurd c n⟩, Evt.succ ?_⟩
    simp only [auction_Clear.j1]
    refine Evt.ite_neg (by simp) (Evt.ite_pos c (Evt.bind H (Evt.of_eq ?_)))
    have e : wrap64 (lo + wrap64 (Int.tdiv (wrap64 (hi - lo)) 2)) = lo + (hi - lo) / 2:=by
      rw [wrap64_of (x:=hi - lo) (by omega) (by omega), Int.tdiv_eq_ediv_of_nonneg (by omega), wrap64_of (x:=(hi - lo) / 2) (by omega) (by omega), wrap64_of (by omega) (by omega)]
    rw [e]
  · refine ⟨0, ⟨fun p => absurd p c, fun _ => rfl⟩, Evt.succ ?_⟩
    simp only [auction_Clear.j1]
    exact Evt.ite_neg (by simp) (Evt.ite_neg c (Evt.pure _))
theorem clear_l0 {l : List Or} (hl : Fine l) : ∀ n (D1 R1 D2 R2 F : List Int) (pw : Int), R1.length + R2.length ≤ n → Two l F D1 R1 D2 R2 → 0 ≤ pw → pw + 100000 * (((R1.length + R2.length : Nat)) : Int) ≤ 6400000 → Traded l F → Pos l F pw →
    ∃ F' pw' v, Done l F' pw' ∧ Price l F' pw' v ∧ (∀ pr, Evt (fun k => gridhallref3_Cleared.l0 k l pr pw F) (pr, pw', F')) ∧ Evt (fun k => auction_Clear.l0 k l (D1 ++ R1) (D2 ++ R2) (D1.length : Int) (D2.length : Int) 0 pw F) (v, pw', F', 0):=by
  intro n
  have fin : ∀ (D1 R1 D2 R2 F : List Int) (pw : Int), Two l F D1 R1 D2 R2 → (R1 = [] ∨ R2 = [] ∨ ∀ b s, R1.head? = some b → R2.head? = some s → Pr l b < Pr l s) → 0 ≤ pw → Traded l F → Pos l F pw →
      ∃ F' pw' v, Done l F' pw' ∧ Price l F' pw' v ∧ (∀ pr, Evt (fun k => gridhallref3_Cleared.l0 k l pr pw F) (pr, pw', F')) ∧ Evt (fun k => auction_Clear.j1 k l (D1 ++ R1) (D2 ++ R2) (D1.length : Int) (D2.length : Int) false 0 pw F) (v, pw', F', 0):=by
    intro D1 R1 D2 R2 F pw h hd hp ht hpos
    have dn:=done_of h hd hp ht hpos
    obtain ⟨v, h1, h2⟩:=clear_end hl dn (D1 ++ R1) (D2 ++ R2) (D1.length : Int) (D2.length : Int)
    exact ⟨F, pw, v, dn, h1, fun pr => ref_done hl h hd pr pw, h2⟩
  induction n with
 |zero =>
    intro D1 R1 D2 R2 F pw hn h hp hpb ht hpos
    obtain rfl : R1 = []:=List.eq_nil_of_length_eq_zero (by omega)
    obtain ⟨F', pw', v, a1, a2, a3, a4⟩:=fin D1 [] D2 R2 F pw h (Or.inl rfl) hp ht hpos
    refine ⟨F', pw', v, a1, a2, a3, Evt.succ ?_⟩
    simp only [auction_Clear.l0]
    exact Evt.ite_neg (by simp) a4
 |succ n ih =>
    intro D1 R1 D2 R2 F pw hn h hp hpb ht hpos
    cases R1 with
   |nil =>
      obtain ⟨F', pw', v, a1, a2, a3, a4⟩:=fin D1 [] D2 R2 F pw h (Or.inl rfl) hp ht hpos
      refine ⟨F', pw', v, a1, a2, a3, Evt.succ ?_⟩
      simp only [auction_Clear.l0]
      exact Evt.ite_neg (by simp) a4
   |cons b R1 =>
      cases R2 with
     |nil =>
        obtain ⟨F', pw', v, a1, a2, a3, a4⟩:=fin D1 (b :: R1) D2 [] F pw h (Or.inr (Or.inl rfl)) hp ht hpos
        refine ⟨F', pw', v, a1, a2, a3, Evt.succ ?_⟩
        simp only [auction_Clear.l0]
        exact Evt.ite_pos (by simp; omega) (Evt.ite_neg (by simp) a4)
     |cons s R2 =>
        obtain ⟨ib, tb⟩:=side_in h.s1 (x:=b) (by simp)
        obtain ⟨is_, ts⟩:=side_in h.s2 (x:=s) (by simp)
        have hbs:=cross_ne tb ts
        have hlen:=h.len
        have qb:=fine_q hl ib
        have qs:=fine_q hl is_
        have ub:=h.a1.hd b rfl
        have us:=h.a2.hd s rfl
        have ib1:=ib.1
        have ib2:=ib.2
        have is1:=is_.1
        have is2:=is_.2
        have lt1 : (D1.length : Int) < ((D1 ++ b :: R1).length : Int):=by simp; omega
        have lt2 : (D2.length : Int) < ((D2 ++ s :: R2).length : Int):=by simp; omega
        have z1 : (0 : Int) ≤ (D1.length : Int):=by omega
        have z2 : (0 : Int) ≤ (D2.length : Int):=by omega
        have top : ∀ r, Evt (fun k => auction_Clear.j1 k l (D1 ++ b :: R1) (D2 ++ s :: R2) (D1.length : Int) (D2.length : Int) (decide (Pr l b ≥ Pr l s)) 0 pw F) r → Evt (fun k => auction_Clear.l0 k l (D1 ++ b :: R1) (D2 ++ s :: R2) (D1.length : Int) (D2.length : Int) 0 pw F) r:=by
          intro r hr
          refine Evt.succ ?_
          simp only [auction_Clear.l0]
          rw [rd_mid, rd_mid]
          exact Evt.ite_pos lt1 (Evt.ite_pos lt2 (Evt.ite_pos z1 (Evt.ite_pos ib1 (Evt.ite_pos ib2 (Evt.ite_pos z2 (Evt.ite_pos is1 (Evt.ite_pos is2 hr)))))))
        by_cases hP : Pr l b ≥ Pr l s
        · obtain ⟨m, em⟩ : ∃ m : Nat, (m : Int) = mn (Qr l b - rd F b) (Qr l s - rd F s):=⟨(mn (Qr l b - rd F b) (Qr l s - rd F s)).toNat, by rw [mn_eq]; omega⟩
          have em':=em
          rw [mn_eq] at em'
          have R:=fun {x : Int} (hx : 0 ≤ x) => rd_bump (F:=F) (j:=(m : Int)) ib1 (by rw [hlen]; exact ib2) is1 (by rw [hlen]; exact is2) hx
          have rb : rd (bump F b s m) b = rd F b + m:=by rw [R ib1, if_neg hbs, if_pos rfl]
          have rs : rd (bump F b s m) s = rd F s + m:=by rw [R is1, if_pos rfl]
          have n1:=fun {x} (hx : x ∈ D1 ∨ x ∈ R1) => side_ne h.s1 hx
          have n2:=fun {x} (hx : x ∈ D2 ∨ x ∈ R2) => side_ne h.s2 hx
          have N1:=at_next h.a1 rb (fun x hx => by
            obtain ⟨i, t⟩:=side_in h.s1 (x:=x) (by rcases hx with hx|hx <;> simp [hx])
            rw [R i.1, if_neg (cross_ne t ts), if_neg (n1 hx)]) (fun x hx => (fine_q hl (side_in h.s1 (x:=x) (by simp [hx])).1).1)
          have N2:=at_next h.a2 rs (fun x hx => by
            obtain ⟨i, t⟩:=side_in h.s2 (x:=x) (by rcases hx with hx|hx <;> simp [hx])
            rw [R i.1, if_neg (n2 hx), if_neg (cross_ne tb t).symm]) (fun x hx => (fine_q hl (side_in h.s2 (x:=x) (by simp [hx])).1).1)
          have hln : (bump F b s m).length = l.length:=by rw [bump_len, hlen]
          have ht' : Traded l (bump F b s m):=by
            intro x y hx hy bx by_ px py
            rw [R hx.1, if_neg (cross_ne bx ts)] at px
            rw [R hy.1] at py
            have mx : x ∈ D1 ∨ (b :: R1).head? = some x:=by
              by_cases e : x = b
              · exact Or.inr (by rw [e]; rfl)
              · rw [if_neg e] at px
                exact at_some h.a1 h.s1 hx bx px
            have my : y ∈ D2 ∨ (s :: R2).head? = some y:=by
              by_cases e : y = s
              · exact Or.inr (by rw [e]; rfl)
              · rw [if_neg e, if_neg (cross_ne tb by_).symm] at py
                exact at_some h.a2 h.s2 hy by_ py
            have c1:=ord1 h.s1 mx (x:=b) (by simp)
            have c2:=ord2 h.s2 my (x:=s) (by simp)
            omega
          have hpos' : Pos l (bump F b s m) (pw + m):=fun _ => ⟨⟨b, ib, tb, by rw [rb]; omega⟩,⟨s, is_, ts, by rw [rs]; omega⟩⟩
          have ref : ∀ pr pw' F', Evt (fun k => gridhallref3_Cleared.l0 k l pr (pw + m) (bump F b s m)) (pr, pw', F') → Evt (fun k => gridhallref3_Cleared.l0 k l pr pw F) (pr, pw', F'):=fun pr pw' F' H =>
            ref_chunk hl hP m F pw h (by omega) (by omega) hp (by omega) H
          have body : ∀ r, Evt (fun k => if rd (bump F b s m) b = Qr l b then (if rd (bump F b s m) s = Qr l s then auction_Clear.l0 k l (D1 ++ b :: R1) (D2 ++ s :: R2) ((D1.length + 1 : Nat) : Int) ((D2.length + 1 : Nat) : Int) 0 (pw + m) (bump F b s m) else auction_Clear.l0 k l (D1 ++ b :: R1) (D2 ++ s :: R2) ((D1.length + 1 : Nat) : Int) (D2.length : Int) 0 (pw + m) (bump F b s m)) else (if rd (bump F b s m) s = Qr l s then auction_Clear.l0 k l (D1 ++ b :: R1) (D2 ++ s :: R2) (D1.length : Int) ((D2.length + 1 : Nat) : Int) 0 (pw + m) (bump F b s m) else auction_Clear.l0 k l (D1 ++ b :: R1) (D2 ++ s :: R2) (D1.length : Int) (D2.length : Int) 0 (pw + m) (bump F b s m))) r →
              Evt (fun k => auction_Clear.l0 k l (D1 ++ b :: R1) (D2 ++ s :: R2) (D1.length : Int) (D2.length : Int) 0 pw F) r:=by
            intro r hr
            refine top r ?_
            rw [decide_eq_true hP]
            have d1:=(h.s1.len)
            have d2:=(h.s2.len)
            have d3:=hl.len
            simp only [List.length_append, List.length_cons] at d1 d2
            refine Evt.succ ?_
            simp only [auction_Clear.j1]
            rw [rd_mid, rd_mid]
            have w1 : wrap64 ((rd_T71 l b).f2 - rd F b) = Qr l b - rd F b:=wrap64_of (x:=Qr l b - rd F b) (by omega) (by omega)
            have w2 : wrap64 ((rd_T71 l s).f2 - rd F s) = Qr l s - rd F s:=wrap64_of (x:=Qr l s - rd F s) (by omega) (by omega)
            rw [w1, w2, ← em, wrap64_of (x:=rd F b + m) (by omega) (by omega), wrap64_of (x:=rd F s + m) (by omega) (by omega), wrap64_of (x:=pw + m) (by omega) (by omega), wrap64_nat (by omega), wrap64_nat (by omega)]
            exact Evt.ite_pos trivial (Evt.ite_pos z1 (Evt.ite_pos lt1 (Evt.ite_pos z2 (Evt.ite_pos lt2 (Evt.ite_pos ib1 (Evt.ite_pos ib2 (Evt.ite_pos (by omega) (Evt.ite_pos is1 (Evt.ite_pos is2 (Evt.ite_pos (by omega) (Evt.bindo rfl hr)))))))))))
          have l1 : (D1 ++ [b]).length = D1.length + 1:=by simp
          have l2 : (D2 ++ [s]).length = D2.length + 1:=by simp
          have c1 : D1 ++ b :: R1 = (D1 ++ [b]) ++ R1:=by simp
          have c2 : D2 ++ s :: R2 = (D2 ++ [s]) ++ R2:=by simp
          simp only [List.length_cons] at hn hpb
          by_cases fb : rd F b + m = Qr l b
          · by_cases fs : rd F s + m = Qr l s
            · obtain ⟨F', pw', v, a1, a2, a3, a4⟩:=ih (D1 ++ [b]) R1 (D2 ++ [s]) R2 (bump F b s m) (pw + m) (by omega) ⟨hln, by rw [← c1]; exact h.s1, by rw [← c2]; exact h.s2, N1.1 fb, N2.1 fs⟩ (by omega) (by omega) ht' hpos'
              refine ⟨F', pw', v, a1, a2, fun pr => ref pr pw' F' (a3 pr), body _ (Evt.ite_pos (by rw [rb]; exact fb) (Evt.ite_pos (by rw [rs]; exact fs) ?_))⟩
              rw [l1, l2, ← c1, ← c2] at a4
              exact a4
            · obtain ⟨F', pw', v, a1, a2, a3, a4⟩:=ih (D1 ++ [b]) R1 D2 (s :: R2) (bump F b s m) (pw + m) (by simp; omega) ⟨hln, by rw [← c1]; exact h.s1, h.s2, N1.1 fb, N2.2 (by omega) (by omega)⟩ (by omega) (by simp; omega) ht' hpos'
              refine ⟨F', pw', v, a1, a2, fun pr => ref pr pw' F' (a3 pr), body _ (Evt.ite_pos (by rw [rb]; exact fb) (Evt.ite_neg (by rw [rs]; exact fs) ?_))⟩
              rw [l1, ← c1] at a4
              exact a4
          · have fs : rd F s + m = Qr l s:=by omega
            obtain ⟨F', pw', v, a1, a2, a3, a4⟩:=ih D1 (b :: R1) (D2 ++ [s]) R2 (bump F b s m) (pw + m) (by simp; omega) ⟨hln, h.s1, by rw [← c2]; exact h.s2, N1.2 (by omega) (by omega), N2.1 fs⟩ (by omega) (by simp; omega) ht' hpos'
            refine ⟨F', pw', v, a1, a2, fun pr => ref pr pw' F' (a3 pr), body _ (Evt.ite_neg (by rw [rb]; exact fb) (Evt.ite_pos (by rw [rs]; exact fs) ?_))⟩
            rw [l2, ← c2] at a4
            exact a4
        · obtain ⟨F', pw', v, a1, a2, a3, a4⟩:=fin D1 (b :: R1) D2 (s :: R2) F pw h (Or.inr (Or.inr (fun b' s' e1 e2 => by
            obtain rfl : b = b':=by simpa using e1
            obtain rfl : s = s':=by simpa using e2
            omega))) hp ht hpos
          refine ⟨F', pw', v, a1, a2, a3, top _ ?_⟩
          rw [decide_eq_false hP]
          exact a4
theorem clear_fine (l : List Or) (h0 : ordsErr l = 0) : ∃ F pw v, Done l F pw ∧ Price l F pw v ∧ Evt (fun k => gridhallref3_Cleared.f k l) (0, pw, F) ∧ Evt (fun k => auction_Clear.f k l) (v, pw, F, 0) := by
  have hl:=ordsErr_fine h0
  have hlen:=hl.len
  obtain ⟨B, sB, eB⟩:=side_ev l hlen true
  obtain ⟨S, sS, eS⟩:=side_ev l hlen false
  have b1:=sB.len
  have b2:=sS.len
  have hz : ∀ x, rd (List.replicate l.length 0) x = 0:=by
    intro x
    unfold rd
    rw [List.getD_eq_getElem?_getD, List.getElem?_replicate]
    split <;> rfl
  have A : ∀ {b} {S : List Int}, Side l b S → At l (List.replicate l.length 0) [] S:=fun {b S} hS => ⟨fun x hx => (by cases hx), fun x hx => (by
      have hm : x ∈ S:=by
        cases S with
       |nil => cases hx
       |cons y S =>
          obtain rfl : y = x:=by simpa using hx
          simp
      have:=fine_q hl ((hS.mem x).1 hm).1
      rw [hz]
      omega), fun x _ => hz x⟩
  obtain ⟨F, pw, v, a1, a2, a3, a4⟩:=clear_l0 hl (B.length + S.length) [] B [] S (List.replicate l.length 0) 0 (Nat.le_refl _) ⟨by simp, by simpa using sB, by simpa using sS, A sB, A sS⟩ (by omega) (by omega) (fun x y _ _ _ _ px => by rw [hz] at px; omega) (fun p => by omega)
  have e : ((l.length : Int)).toNat = l.length:=by omega
  refine ⟨F, pw, v, a1, a2, ?_, ?_⟩
  · simp only [gridhallref3_Cleared.f, e]
    exact Evt.ite_pos (by omega) (Evt.ite_pos (by omega) (a3 0))
  · simp only [auction_Clear.f, e]
    have c:=acheck_ev l
    rw [h0] at c
    exact Evt.bind c (Evt.ite_pos rfl (Evt.ite_pos (by omega) (Evt.ite_pos (by omega) (Evt.bind eB (Evt.bind eS (by simpa using a4))))))
theorem clear_err (l : List Or) (h0 : ordsErr l ≠ 0) : Evt (fun k => auction_Clear.f k l) (0, 0, ([] : List Int), ordsErr l) := by
  simp only [auction_Clear.f]
  exact Evt.bind (acheck_ev l) (Evt.ite_neg h0 (Evt.pure _))
end Go.Proofs.Ytdgjelbkogfedaa.DAuctionClears
