import Derived.Test.YtdgjelbkogfedaaDAuctionClears
import Derived.Test.YtdgjelbkogfedaaHAuctionClearsy14
namespace Go.Proofs.Ytdgjelbkogfedaa.EAuctionClears
open Go.RowKit Go.Proofs.YtdgjelbkogfedaaW.PrintWords Go.Proofs.YtdgjelbkogfedaaW.PrintMore Go.Proofs.Ytdgjelbkogfedaa.Evs Go.Proofs.Ytdgjelbkogfedaa.PAuctionClears Go.Proofs.Ytdgjelbkogfedaa.BAuctionClears Go.Proofs.Ytdgjelbkogfedaa.CAuctionClears Go.Proofs.Ytdgjelbkogfedaa.DAuctionClears Go.Proofs.Ytdgjelbkogfedaa.ZAuctionClears Go.Proofs.Ytdgjelbkogfedaa.XAuctionClears
set_option linter.unusedVariables false
set_option linter.unusedSectionVars false
set_option linter.unusedSimpArgs false
theorem same_l0 (F : List Int) (hF : F.length ≤ 32) : ∀ n, n ≤ F.length → Evt (fun k => gridhallref3_SameInts.l0 k F F (F.length : Int) (n : Int)) true := by
  refine down ?_ ?_
  · refine Evt.succ ?_
    simp only [gridhallref3_SameInts.l0]
    exact Evt.ite_neg (by omega) (Evt.pure _)
  · intro n hn ih
    refine Evt.succ ?_
    simp only [gridhallref3_SameInts.l0]
    rw [wrap64_nat (by omega)]
    exact Evt.ite_pos (by omega) (Evt.ite_pos (by omega) (Evt.ite_pos (by omega) (Evt.ite_pos (by omega) (Evt.ite_pos trivial ih))))
theorem same_ev (F : List Int) (hF : F.length ≤ 32) : Evt (fun k => gridhallref3_SameInts.f k F F) true := by
  simp only [gridhallref3_SameInts.f]
  exact Evt.ite_pos trivial (same_l0 F hF 0 (Nat.zero_le _))
theorem half_eq {s v : Int} (hs : -2000000 ≤ s) (hs2 : s ≤ 2000000) (hv : v = s / 2) : Evt (fun _ => if Int.tmod s 2 = 0 then some (v == wrap64 (Int.tdiv s 2)) else if s < 0 then some (v == wrap64 (wrap64 (Int.tdiv s 2) - 1)) else some (v == wrap64 (Int.tdiv s 2))) true := by
  by_cases c : 0 ≤ s
  · rw [Int.tdiv_eq_ediv_of_nonneg c, wrap64_of (x:=s / 2) (by omega) (by omega)]
    have e : (v == s / 2) = true:=beq_iff_eq.2 hv
    rw [e]
    exact Evt.ite (fun _ => Evt.pure _) (fun _ => Evt.ite_neg (by omega) (Evt.pure _))
  · obtain ⟨u, rfl⟩ : ∃ u, s = -u:=⟨-s, by omega⟩
    rw [Int.neg_tdiv, Int.neg_tmod, Int.tdiv_eq_ediv_of_nonneg (by omega), Int.tmod_eq_emod_of_nonneg (by omega)]
    rw [wrap64_of (x:=-(u / 2)) (by omega) (by omega), wrap64_of (x:=-(u / 2) - 1) (by omega) (by omega)]
    by_cases m : -(u % 2) = 0
    · have e : (v == -(u / 2)) = true:=beq_iff_eq.2 (by omega)
      rw [e]
      exact Evt.ite_pos m (Evt.pure _)
    · have e : (v == -(u / 2) - 1) = true:=beq_iff_eq.2 (by omega)
      rw [e]
      exact Evt.ite_neg m (Evt.ite_pos (by omega) (Evt.pure _))
def IsMin (l : List Or) (F : List Int) (n : Nat) (v : Int) : Prop := (∀ x, 0 ≤ x → x < (n : Int) → fitsN l F (Pr l x) l.length 0 = true → v ≤ Pr l x) ∧ (v = 1152921504606846976 ∨ ∃ x, 0 ≤ x ∧ x < (n : Int) ∧ fitsN l F (Pr l x) l.length 0 = true ∧ Pr l x = v)
def IsMax (l : List Or) (F : List Int) (n : Nat) (v : Int) : Prop := (∀ x, 0 ≤ x → x < (n : Int) → fitsN l F (Pr l x) l.length 0 = true → Pr l x ≤ v) ∧ (v = -1152921504606846976 ∨ ∃ x, 0 ≤ x ∧ x < (n : Int) ∧ fitsN l F (Pr l x) l.length 0 = true ∧ Pr l x = v)
theorem min_next {l : List Or} {F : List Int} {n : Nat} {v : Int} (hp : Pr l (n : Int) ≤ 1000000) (h : IsMin l F n v) : IsMin l F (n + 1) (if fitsN l F (Pr l (n : Int)) l.length 0 = true then mn v (Pr l (n : Int)) else v) := by
  by_cases c : fitsN l F (Pr l (n : Int)) l.length 0 = true
  · rw [if_pos c, mn_eq]
    refine ⟨fun x h0 h1 h2 => ?_, ?_⟩
    · by_cases e : x = (n : Int)
      · rw [e]; omega
      · have:=h.1 x h0 (by omega) h2; omega
    · by_cases g : Pr l (n : Int) ≤ v
      · exact Or.inr ⟨(n : Int), by omega, by omega, c, by omega⟩
      · rcases h.2 with h|⟨x, h0, h1, h2, h3⟩
        · omega
        · exact Or.inr ⟨x, h0, by omega, h2, by omega⟩
  · rw [if_neg c]
    refine ⟨fun x h0 h1 h2 => ?_, ?_⟩
    · by_cases e : x = (n : Int)
      · rw [e] at h2; exact absurd h2 c
      · exact h.1 x h0 (by omega) h2
    · rcases h.2 with h|⟨x, h0, h1, h2, h3⟩
      · exact Or.inl h
      · exact Or.inr ⟨x, h0, by omega, h2, h3⟩
theorem max_next {l : List Or} {F : List Int} {n : Nat} {v : Int} (hp : -1000000 ≤ Pr l (n : Int)) (h : IsMax l F n v) : IsMax l F (n + 1) (if fitsN l F (Pr l (n : Int)) l.length 0 = true then mx v (Pr l (n : Int)) else v) := by
  by_cases c : fitsN l F (Pr l (n : Int)) l.length 0 = true
  · rw [if_pos c, mx_eq]
    refine ⟨fun x h0 h1 h2 => ?_, ?_⟩
    · by_cases e : x = (n : Int)
      · rw [e]; omega
      · have:=h.1 x h0 (by omega) h2; omega
    · by_cases g : v ≤ Pr l (n : Int)
      · exact Or.inr ⟨(n : Int), by omega, by omega, c, by omega⟩
      · rcases h.2 with h|⟨x, h0, h1, h2, h3⟩
        · omega
        · exact Or.inr ⟨x, h0, by omega, h2, by omega⟩
  · rw [if_neg c]
    refine ⟨fun x h0 h1 h2 => ?_, ?_⟩
    · by_cases e : x = (n : Int)
      · rw [e] at h2; exact absurd h2 c
      · exact h.1 x h0 (by omega) h2
    · rcases h.2 with h|⟨x, h0, h1, h2, h3⟩
      · exact Or.inl h
      · exact Or.inr ⟨x, h0, by omega, h2, h3⟩
theorem fits_iff (l : List Or) (F : List Int) (p : Int) : fitsN l F p l.length 0 = true ↔ ∀ x, In l x → (LowC l F x → Pr l x ≤ p) ∧ (HighC l F x → p ≤ Pr l x) := by
  rw [fitsN_iff]
  constructor
  · intro h x hx; exact h x (by have:=hx.1; omega) (by have:=hx.2; omega)
  · intro h x h1 h2; exact h x ⟨by omega, by omega⟩
theorem law_l1 {l : List Or} (hl : Fine l) {F : List Int} {pw v : Int} (hd : Done l F pw) (hv : Price l F pw v) (hp : 0 < pw) : ∀ n, n ≤ l.length → ∀ a b, IsMin l F n a → IsMax l F n b → ∀ p1 p2, Evt (fun k => gridhalllaw3_AuctionClears.l1 k l a b l (l.length : Int) (n : Int) v p1 F p2 pw F) true := by
  have hlen:=hl.len
  refine down ?_ ?_
  · intro a b ha hb p1 p2
    obtain ⟨lo, hi, h1, h2, e⟩:=hv.1 hp
    obtain ⟨⟨x, ix, lx, ex⟩,⟨y, iy, hy, ey⟩, q1, q2, q3⟩:=lohi hl hd hp h1 h2
    have flo : fitsN l F (Pr l x) l.length 0 = true:=(fits_iff l F _).2 fun z iz => ⟨fun h => by rw [ex]; exact h1.1 z iz.1 iz.2 h, fun h => hd.cross x z ix iz lx h⟩
    have fhi : fitsN l F (Pr l y) l.length 0 = true:=(fits_iff l F _).2 fun z iz => ⟨fun h => hd.cross z y iz iy h hy, fun h => by rw [ey]; exact h2.1 z iz.1 iz.2 h⟩
    have a1:=ha.1 x ix.1 ix.2 flo
    have b1:=hb.1 y iy.1 iy.2 fhi
    have a2 : lo ≤ a:=by
      rcases ha.2 with g|⟨z, z0, z1, fz, ez⟩
      · omega
      · have:=((fits_iff l F _).1 fz x ix).1 lx
        omega
    have b2 : b ≤ hi:=by
      rcases hb.2 with g|⟨z, z0, z1, fz, ez⟩
      · omega
      · have:=((fits_iff l F _).1 fz y iy).2 hy
        omega
    obtain rfl : a = lo:=by omega
    obtain rfl : b = hi:=by omega
    refine Evt.succ ?_
    simp only [gridhalllaw3_AuctionClears.l1]
    refine Evt.ite_neg (by omega) ?_
    rw [wrap64_of (x:=a + b) (by omega) (by omega)]
    exact half_eq (by omega) (by omega) (by omega)
  · intro n hn ih a b ha hb p1 p2
    have eP : ((og l n)).f3 = Pr l (n : Int):=by unfold Pr; rw [rdOr]
    have hr:=hl.rng n hn
    rw [eP] at hr
    have H:=ih _ _ (min_next hr.2.2.2 ha) (max_next hr.2.2.1 hb) p1 p2
    refine Evt.succ ?_
    simp only [gridhalllaw3_AuctionClears.l1, rdOr]
    rw [wrap64_nat (by omega), eP]
    refine Evt.ite_pos (by omega) (Evt.ite_pos (by omega) (Evt.ite_pos (by omega) (Evt.bind (fits_ev l hlen F hd.len _) ?_)))
    by_cases c : fitsN l F (Pr l (n : Int)) l.length 0 = true
    · rw [if_pos c, if_pos c] at H
      exact Evt.ite_pos c H
    · rw [if_neg c, if_neg c] at H
      exact Evt.ite_neg c H
theorem law_l0 {l : List Or} (hl : Fine l) {F : List Int} {pw v : Int} (hd : Done l F pw) (hv : Price l F pw v) (href : Evt (fun k => gridhallref3_Cleared.f k l) (0, pw, F)) : ∀ n, n ≤ l.length → ∀ s, 0 ≤ s → s ≤ 100000 * (n : Int) → Evt (fun k => gridhalllaw3_AuctionClears.l0 k l 0 s l (l.length : Int) (n : Int) v pw F) true := by
  have hlen:=hl.len
  have hF:=hd.len
  refine down ?_ ?_
  · intro s h1 h2
    refine Evt.succ ?_
    simp only [gridhalllaw3_AuctionClears.l0]
    refine Evt.ite_neg (by omega) (Evt.ite (fun _ => Evt.pure _) (fun _ => Evt.bind href (Evt.ite_pos trivial (Evt.ite_pos rfl (Evt.bind (same_ev F (by omega)) ?_)))))
    refine Evt.succ ?_
    simp only [gridhalllaw3_AuctionClears.j2]
    refine Evt.ite_neg (by simp) ?_
    by_cases c : pw = 0
    · refine Evt.ite_pos c (Evt.of_eq ?_)
      exact beq_iff_eq.2 (hv.2 (by omega))
    · refine Evt.ite_neg c ?_
      have:=hd.nn
      exact law_l1 hl hd hv (by omega) 0 (Nat.zero_le _) _ _ ⟨fun x h0 h1 => by omega, Or.inl rfl⟩ ⟨fun x h0 h1 => by omega, Or.inl rfl⟩ pw 0
  · intro n hn ih s h1 h2
    have hr:=hl.rng n hn
    refine Evt.succ ?_
    simp only [gridhalllaw3_AuctionClears.l0, rdOr]
    rw [wrap64_nat (by omega), wrap64_of (x:=s + (og l n).f2) (by omega) (by omega)]
    exact Evt.ite_pos (by omega) (Evt.ite_pos (by omega) (Evt.ite_pos (by omega) (ih _ (by omega) (by omega))))
def oneO : List Or := [(⟨(⟨#[65]⟩ : ByteArray), true, 10, 8⟩ : Or), (⟨(⟨#[66]⟩ : ByteArray), false, 10, 5⟩ : Or)]
theorem Evt.of_mono {α : Type} {g : Nat → Option α} (hm : ∀ k r, g k = some r → g (k + 1) = some r) {K : Nat} {r : α} (h : g K = some r) : Evt g r := by
  refine ⟨K, fun k hk => ?_⟩
  obtain ⟨d, rfl⟩ : ∃ d, k = K + d:=⟨k - K, by omega⟩
  induction d with
 |zero => exact h
 |succ d ih => exact hm _ _ (ih (by omega))
theorem one_clear : Evt (fun k => auction_Clear.f k oneO) (6, 10, [10, 10], 0) := Evt.of_mono (fun k r h => auction_Clear.mono oneO k r h) (K := 60) (by decide +kernel)
theorem law_ev (l : List Or) : Evt (fun k => gridhalllaw3_AuctionClears.f k l) true := by
  simp only [gridhalllaw3_AuctionClears.f]
  refine Evt.bind one_clear (Evt.ite_pos rfl (Evt.ite_pos rfl (Evt.succ ?_)))
  simp only [gridhalllaw3_AuctionClears.j0]
  refine Evt.ite_neg (by decide) ?_
  by_cases h : ordsErr l = 0
  · obtain ⟨F, pw, v, hd, hv, h1, h2⟩:=clear_fine l h
    refine Evt.bind h2 (Evt.bind (ref_ev l) (Evt.ite_pos h ?_))
    exact law_l0 (ordsErr_fine h) hd hv h1 0 (Nat.zero_le _) 0 (by omega) (by omega)
  · refine Evt.bind (clear_err l h) (Evt.bind (ref_ev l) (Evt.ite_neg h (Evt.ite_pos rfl (Evt.bind (acheck_ev l) (Evt.ite_pos rfl (Evt.ite_pos rfl (Evt.ite_pos rfl (Evt.of_eq (by simp)))))))))
end Go.Proofs.Ytdgjelbkogfedaa.EAuctionClears
