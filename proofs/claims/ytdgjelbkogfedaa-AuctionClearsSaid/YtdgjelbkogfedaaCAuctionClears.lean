import Derived.Test.YtdgjelbkogfedaaBAuctionClears
import Derived.Test.YtdgjelbkogfedaaXAuctionClears
import Derived.Test.YtdgjelbkogfedaaHAuctionClearsy7
import Derived.Test.YtdgjelbkogfedaaHAuctionClearsy11
namespace Go.Proofs.Ytdgjelbkogfedaa.CAuctionClears
open Go.RowKit Go.Proofs.YtdgjelbkogfedaaW.PrintWords Go.Proofs.YtdgjelbkogfedaaW.PrintMore Go.Proofs.Ytdgjelbkogfedaa.Evs Go.Proofs.Ytdgjelbkogfedaa.PAuctionClears Go.Proofs.Ytdgjelbkogfedaa.BAuctionClears Go.Proofs.Ytdgjelbkogfedaa.ZAuctionClears Go.Proofs.Ytdgjelbkogfedaa.XAuctionClears
set_option linter.unusedVariables false
set_option linter.unusedSectionVars false
set_option linter.unusedSimpArgs false
def Pr (l : List Or) (x : Int) : Int := (rd_T71 l x).f3
def Qr (l : List Or) (x : Int) : Int := (rd_T71 l x).f2
def Br (l : List Or) (x : Int) : Bool := (rd_T71 l x).f1
def In (l : List Or) (x : Int) : Prop := 0 ≤ x ∧ x < (l.length : Int)
def btr (l : List Or) (b : Bool) (x y : Int) : Bool := if b = true then decide (Pr l y < Pr l x) else decide (Pr l x < Pr l y)
def prec (l : List Or) (b : Bool) (x y : Int) : Prop := btr l b x y = true ∨ (btr l b y x = false ∧ x < y)
theorem btr_weak (l : List Or) (b : Bool) : Weak (btr l b) := by
  cases b
  · refine ⟨fun x => ?_, fun {x y z} h1 h2 => ?_, fun {x y z} h1 h2 => ?_⟩ <;> simp [btr] at * <;> omega
  · refine ⟨fun x => ?_, fun {x y z} h1 h2 => ?_, fun {x y z} h1 h2 => ?_⟩ <;> simp [btr] at * <;> omega
theorem prec_asym {l : List Or} {b : Bool} {x y : Int} (h1 : prec l b x y) (h2 : prec l b y x) : False := by
  have W:=btr_weak l b
  rcases h1 with h1|⟨h1, g1⟩ <;> rcases h2 with h2|⟨h2, g2⟩
  · rw [W.asym h1] at h2; cases h2
  · rw [h1] at h2; cases h2
  · rw [h2] at h1; cases h1
  · omega
theorem prec_le {l : List Or} {b : Bool} {x y : Int} (h : prec l b x y) : btr l b y x = false := by
  rcases h with h|⟨h, _⟩
  · exact (btr_weak l b).asym h
  · exact h
theorem cmpc_ev (a b : Int) : cmp_Compare_int.f a b = some (if a < b then -1 else if a > b then 1 else 0) := by
  simp only [cmp_Compare_int.f, cmp_isNaN_int.f]
  simp
  split
  · rfl
  · split <;> rfl
theorem side1_ev (l : List Or) (b : Bool) (p q : Int) (hp : In l p) (hq : In l q) : ∃ c : Int, Evt (fun _ => auction_side_1.f p q [b] [l]) c ∧ (c < 0 ↔ btr l b p q = true) := by
  have rl : rd_L5 [l] 0 = l:=rfl
  cases b
  · refine ⟨if Pr l p < Pr l q then -1 else if Pr l p > Pr l q then 1 else 0, Evt.ofo ?_, ?_⟩
    · simp only [auction_side_1.f, rl]
      rw [if_pos (by simp), if_neg (by simp [rdOf]), if_pos (by simp), if_pos hp.1, if_pos hp.2, if_pos hq.1, if_pos hq.2, cmpc_ev]
      rfl
    · simp only [btr]
      split
      · simp_all
      · split <;> simp_all
  · refine ⟨if Pr l q < Pr l p then -1 else if Pr l q > Pr l p then 1 else 0, Evt.ofo ?_, ?_⟩
    · simp only [auction_side_1.f, rl]
      rw [if_pos (by simp), if_pos (by simp [rdOf]), if_pos (by simp), if_pos hq.1, if_pos hq.2, if_pos hp.1, if_pos hp.2, cmpc_ev]
      rfl
    · simp only [btr]
      split
      · simp_all
      · split <;> simp_all
def idxs (l : List Or) (b : Bool) : Nat → Nat → List Int
 |0, _ => []
 |d + 1, n => if ((og l n).f1 == b) = true then (n : Int) :: idxs l b d (n + 1) else idxs l b d (n + 1)
theorem idxs_mem (l : List Or) (b : Bool) (x : Int) : ∀ d n, x ∈ idxs l b d n ↔ (n : Int) ≤ x ∧ x < ((n + d : Nat) : Int) ∧ Br l x = b := by
  intro d
  induction d with
 |zero => intro n; simp only [idxs, List.not_mem_nil, false_iff]; omega
 |succ d ih =>
    intro n
    have e : Br l (n : Int) = (og l n).f1:=by unfold Br; rw [rdOr]
    simp only [idxs]
    split
    · rename_i h
      rw [List.mem_cons, ih]
      constructor
      · rintro (rfl|⟨h1, h2, h3⟩)
        · exact ⟨by omega, by omega, by rw [e]; exact beq_iff_eq.1 h⟩
        · exact ⟨by omega, by omega, h3⟩
      · rintro ⟨h1, h2, h3⟩
        by_cases g : x = (n : Int)
        · exact Or.inl g
        · exact Or.inr ⟨by omega, by omega, h3⟩
    · rename_i h
      rw [ih]
      constructor
      · rintro ⟨h1, h2, h3⟩; exact ⟨by omega, by omega, h3⟩
      · rintro ⟨h1, h2, h3⟩
        refine ⟨?_, by omega, h3⟩
        by_cases g : x = (n : Int)
        · exfalso
          subst g
          rw [e] at h3
          exact h (beq_iff_eq.2 h3)
        · omega
theorem idxs_lt (l : List Or) (b : Bool) : ∀ d n, (idxs l b d n).Pairwise (· < ·) := by
  intro d
  induction d with
 |zero => intro n; exact List.Pairwise.nil
 |succ d ih =>
    intro n
    simp only [idxs]
    split
    · refine List.Pairwise.cons (fun x hx => ?_) (ih (n + 1))
      have:=((idxs_mem l b x d (n + 1)).1 hx).1
      omega
    · exact ih (n + 1)
theorem idxs_len (l : List Or) (b : Bool) : ∀ d n, (idxs l b d n).length ≤ d := by
  intro d
  induction d with
 |zero => intro n; simp [idxs]
 |succ d ih =>
    intro n
    have:=ih (n + 1)
    simp only [idxs]
    split
    · simp; omega
    · omega
structure Side (l : List Or) (b : Bool) (S : List Int) : Prop where
  mem : ∀ x, x ∈ S ↔ In l x ∧ Br l x = b
  pw : S.Pairwise (prec l b)
  len : S.length ≤ l.length
theorem side_l0 (l : List Or) (hl : l.length ≤ 32) (b : Bool) (r : List Int) (hr : Evt (fun k => slices_SortStableFunc_of_side_1.f k (idxs l b l.length 0) [b] [l]) r) :
    ∀ n, n ≤ l.length → ∀ A, A ++ idxs l b (l.length - n) n = idxs l b l.length 0 → A.length ≤ n → Evt (fun k => auction_side.l0 k A l (l.length : Int) (n : Int) l b) r:=by
  refine down ?_ ?_
  · intro A hA _
    rw [Nat.sub_self] at hA
    simp only [idxs, List.append_nil] at hA
    subst hA
    refine Evt.succ ?_
    simp only [auction_side.l0]
    exact Evt.ite_neg (by omega) (Evt.bind hr (Evt.pure _))
  · intro n hn ih A hA hlA
    obtain ⟨d, hd⟩ : ∃ d, l.length - n = d + 1:=⟨l.length - n - 1, by omega⟩
    rw [show l.length - (n + 1) = d by omega] at ih
    rw [hd] at hA
    refine Evt.succ ?_
    simp only [auction_side.l0, rdOr]
    rw [wrap64_nat (by omega)]
    refine Evt.ite_pos (by omega) (Evt.ite_pos (by omega) (Evt.ite_pos (by omega) ?_))
    by_cases h : ((og l n).f1 == b) = true
    · refine Evt.ite_pos h (Evt.ite_pos (by omega) (ih _ ?_ (by simp; omega)))
      rw [← hA]
      simp only [idxs, if_pos h, List.append_assoc, List.cons_append, List.nil_append]
    · refine Evt.ite_neg h (ih _ ?_ (by omega))
      rw [← hA]
      simp only [idxs, if_neg h]
theorem side_ev (l : List Or) (hl : l.length ≤ 32) (b : Bool) : ∃ S, Side l b S ∧ Evt (fun k => auction_side.f k l b) S := by
  have W:=btr_weak l b
  have hm:=fun x => idxs_mem l b x l.length 0
  have hlen:=idxs_len l b l.length 0
  obtain ⟨r, s1, s2, H⟩:=sorts (cbu:=[b]) (cor:=[l]) (Ok:=In l) W (fun p q hp hq => side1_ev l b p q hp hq) (idxs l b l.length 0) (fun x hx => by
    have:=(hm x).1 hx
    exact ⟨by omega, by omega⟩) (by omega)
  refine ⟨r, ⟨fun x => ?_, ?_, ?_⟩, ?_⟩
  · rw [St.mem W s2 x, hm]
    unfold In
    constructor
    · rintro ⟨h1, h2, h3⟩; exact ⟨⟨by omega, by omega⟩, h3⟩
    · rintro ⟨⟨h1, h2⟩, h3⟩; exact ⟨by omega, by omega, h3⟩
  · refine List.pairwise_iff_forall_sublist.2 fun {x y} hxy => ?_
    have h1 : btr l b y x = false:=List.pairwise_iff_forall_sublist.1 s1 hxy
    by_cases h2 : btr l b x y = true
    · exact Or.inl h2
    · have h2' : btr l b x y = false:=by simpa using h2
      refine Or.inr ⟨h1, ?_⟩
      have f1:=hxy.filter (eqv (btr l b) x)
      have e1 : eqv (btr l b) x x = true:=by simp [eqv, W.irr]
      have e2 : eqv (btr l b) x y = true:=by simp [eqv, h1, h2']
      rw [s2 x, List.filter_cons, if_pos e1, List.filter_cons, if_pos e2, List.filter_nil] at f1
      exact List.pairwise_iff_forall_sublist.1 (idxs_lt l b l.length 0) (f1.trans List.filter_sublist)
  · rw [St.length W s2]; omega
  · simp only [auction_side.f]
    exact side_l0 l hl b r H 0 (Nat.zero_le _) [] (by simp) (by simp)
def El (l : List Or) (F : List Int) (b : Bool) (x : Int) : Prop := In l x ∧ Br l x = b ∧ rd F x ≠ Qr l x
instance (l : List Or) (F : List Int) (b : Bool) (x : Int) : Decidable (El l F b x) := by
  unfold El In
  infer_instance
def Best (l : List Or) (F : List Int) (b : Bool) (n : Nat) (r : Int) : Prop :=
  (r = -1 ∧ ∀ x, x < (n : Int) → ¬ El l F b x) ∨ (0 ≤ r ∧ r < (n : Int) ∧ El l F b r ∧ ∀ x, x < (n : Int) → El l F b x → x ≠ r → prec l b r x)
theorem best_keep {l : List Or} {F : List Int} {b : Bool} {n : Nat} {r : Int} (h : Best l F b n r) (hn : ¬ El l F b (n : Int)) : Best l F b (n + 1) r := by
  rcases h with ⟨h1, h2⟩|⟨h1, h2, h3, h4⟩
  · refine Or.inl ⟨h1, fun x hx => ?_⟩
    by_cases e : x = (n : Int)
    · rw [e]; exact hn
    · exact h2 x (by omega)
  · refine Or.inr ⟨h1, by omega, h3, fun x hx he hne => ?_⟩
    by_cases e : x = (n : Int)
    · rw [e] at he; exact absurd he hn
    · exact h4 x (by omega) he hne
theorem best_first {l : List Or} {F : List Int} {b : Bool} {n : Nat} {r : Int} (h : Best l F b n r) (hr : r < 0) (hn : El l F b (n : Int)) : Best l F b (n + 1) (n : Int) := by
  rcases h with ⟨h1, h2⟩|⟨h1, h2, h3, h4⟩
  · refine Or.inr ⟨by omega, by omega, hn, fun x hx he hne => ?_⟩
    exact absurd he (h2 x (by omega))
  · omega
theorem best_new {l : List Or} {F : List Int} {b : Bool} {n : Nat} {r : Int} (h : Best l F b n r) (hr : 0 ≤ r) (hn : El l F b (n : Int)) (hb : btr l b (n : Int) r = true) : Best l F b (n + 1) (n : Int) := by
  rcases h with ⟨h1, h2⟩|⟨h1, h2, h3, h4⟩
  · omega
  · refine Or.inr ⟨by omega, by omega, hn, fun x hx he hne => Or.inl ?_⟩
    by_cases e : x = r
    · rw [e]; exact hb
    · exact (btr_weak l b).lt_le hb (prec_le (h4 x (by omega) he e))
theorem best_old {l : List Or} {F : List Int} {b : Bool} {n : Nat} {r : Int} (h : Best l F b n r) (hr : 0 ≤ r) (hb : ¬ btr l b (n : Int) r = true) : Best l F b (n + 1) r := by
  rcases h with ⟨h1, h2⟩|⟨h1, h2, h3, h4⟩
  · omega
  · refine Or.inr ⟨h1, by omega, h3, fun x hx he hne => ?_⟩
    by_cases e : x = (n : Int)
    · rw [e]; exact Or.inr ⟨by simpa using hb, h2⟩
    · exact h4 x (by omega) he hne
theorem best_l0 (l : List Or) (hl : l.length ≤ 32) (F : List Int) (hF : F.length = l.length) (b : Bool) : ∀ n, n ≤ l.length → ∀ at_, Best l F b n at_ → ∃ r, Best l F b l.length r ∧ Evt (fun k => gridhallref3_best.l0 k l F b at_ l (l.length : Int) (n : Int)) r := by
  refine down ?_ ?_
  · intro at_ h
    refine ⟨at_, h, Evt.succ ?_⟩
    simp only [gridhallref3_best.l0]
    exact Evt.ite_neg (by omega) (Evt.pure _)
  · intro n hn ih at_ h
    have eP : ((og l n)).f3 = Pr l (n : Int):=by unfold Pr; rw [rdOr]
    have eQ : ((og l n)).f2 = Qr l (n : Int):=by unfold Qr; rw [rdOr]
    have eB : ((og l n)).f1 = Br l (n : Int):=by unfold Br; rw [rdOr]
    have step : ∀ (c : Bool) (r : Int),(c = true → Evt (fun k => gridhallref3_best.l0 k l F b at_ l (l.length : Int) ((n + 1 : Nat) : Int)) r) → (c = false → Evt (fun k => if at_ < 0 then gridhallref3_best.l0 k l F b (n : Int) l (l.length : Int) ((n + 1 : Nat) : Int) else if b = true then (if 0 ≤ at_ then (if at_ < (l.length : Int) then (if Pr l (n : Int) > Pr l at_ then gridhallref3_best.l0 k l F b (n : Int) l (l.length : Int) ((n + 1 : Nat) : Int) else gridhallref3_best.l0 k l F b at_ l (l.length : Int) ((n + 1 : Nat) : Int)) else none) else none) else (if 0 ≤ at_ then (if at_ < (l.length : Int) then (if Pr l (n : Int) < Pr l at_ then gridhallref3_best.l0 k l F b (n : Int) l (l.length : Int) ((n + 1 : Nat) : Int) else gridhallref3_best.l0 k l F b at_ l (l.length : Int) ((n + 1 : Nat) : Int)) else none) else none)) r) →
        Evt (fun k => gridhallref3_best.j1 k l F b at_ (n : Int) l (l.length : Int) (n : Int) c (og l n).f0 (og l n).f1 (og l n).f2 (og l n).f3) r:=by
      intro c r h1 h2
      refine Evt.succ ?_
      simp only [gridhallref3_best.j1]
      rw [wrap64_nat (by omega), eP]
      cases c with
     |true => exact Evt.ite_pos rfl (h1 rfl)
     |false => exact Evt.ite_neg (by simp) (h2 rfl)
    have top : ∀ r, Evt (fun k => gridhallref3_best.j1 k l F b at_ (n : Int) l (l.length : Int) (n : Int) (!decide (El l F b (n : Int))) (og l n).f0 (og l n).f1 (og l n).f2 (og l n).f3) r → Evt (fun k => gridhallref3_best.l0 k l F b at_ l (l.length : Int) (n : Int)) r:=by
      intro r hr
      refine Evt.succ ?_
      simp only [gridhallref3_best.l0, rdOr]
      refine Evt.ite_pos (by omega) (Evt.ite_pos (by omega) (Evt.ite_pos (by omega) ?_))
      have hin : In l (n : Int):=⟨by omega, by omega⟩
      by_cases g : Br l (n : Int) = b
      · refine Evt.ite_neg (by rw [eB]; simp [g]) (Evt.ite_pos (by omega) ?_)
        have e : (rd F (n : Int) == (og l n).f2) = !decide (El l F b (n : Int)):=by
          rw [eQ]
          by_cases q : rd F (n : Int) = Qr l (n : Int)
          · rw [beq_iff_eq.2 q, decide_eq_false (fun h => h.2.2 q)]; rfl
          · rw [beq_eq_false_iff_ne.2 q, decide_eq_true ⟨hin, g, q⟩]; rfl
        rw [e]
        exact hr
      · refine Evt.ite_pos (by rw [eB]; simp [g]) ?_
        rw [decide_eq_false (fun h => g h.2.1)] at hr
        exact hr
    by_cases he : El l F b (n : Int)
    · by_cases ha : at_ < 0
      · obtain ⟨r, h1, h2⟩:=ih (n : Int) (best_first h ha he)
        exact ⟨r, h1, top r (step _ r (fun q => by simp [he] at q) (fun _ => Evt.ite_pos ha h2))⟩
      · have hlt : at_ < (n : Int):=by rcases h with ⟨h, _⟩|⟨_, h, _⟩ <;> omega
        by_cases hb : btr l b (n : Int) at_ = true
        · obtain ⟨r, h1, h2⟩:=ih (n : Int) (best_new h (by omega) he hb)
          refine ⟨r, h1, top r (step _ r (fun q => by simp [he] at q) (fun _ => Evt.ite_neg ha ?_))⟩
          cases b with
         |true => exact Evt.ite_pos rfl (Evt.ite_pos (by omega) (Evt.ite_pos (by omega) (Evt.ite_pos (by simpa [btr] using hb) h2)))
         |false => exact Evt.ite_neg (by simp) (Evt.ite_pos (by omega) (Evt.ite_pos (by omega) (Evt.ite_pos (by simpa [btr] using hb) h2)))
        · obtain ⟨r, h1, h2⟩:=ih at_ (best_old h (by omega) hb)
          refine ⟨r, h1, top r (step _ r (fun q => by simp [he] at q) (fun _ => Evt.ite_neg ha ?_))⟩
          cases b with
         |true => exact Evt.ite_pos rfl (Evt.ite_pos (by omega) (Evt.ite_pos (by omega) (Evt.ite_neg (by simpa [btr] using hb) h2)))
         |false => exact Evt.ite_neg (by simp) (Evt.ite_pos (by omega) (Evt.ite_pos (by omega) (Evt.ite_neg (by simpa [btr] using hb) h2)))
    · obtain ⟨r, h1, h2⟩:=ih at_ (best_keep h he)
      exact ⟨r, h1, top r (step _ r (fun _ => h2) (fun q => by simp [he] at q))⟩
theorem best_ev (l : List Or) (hl : l.length ≤ 32) (F : List Int) (hF : F.length = l.length) (b : Bool) : ∃ r, Best l F b l.length r ∧ Evt (fun k => gridhallref3_best.f k l F b) r := by
  simp only [gridhallref3_best.f]
  exact best_l0 l hl F hF b 0 (Nat.zero_le _) (-1) (Or.inl ⟨rfl, fun x hx he => by have:=he.1.1; omega⟩)
structure At (l : List Or) (F : List Int) (D R : List Int) : Prop where
  full : ∀ x ∈ D, rd F x = Qr l x
  hd : ∀ x, R.head? = some x → 0 ≤ rd F x ∧ rd F x < Qr l x
  none : ∀ x ∈ R.tail, rd F x = 0
theorem At.el {l : List Or} {F : List Int} {b : Bool} {D R : List Int} (h : At l F D R) (hs : Side l b (D ++ R)) (hq : ∀ x, In l x → 1 ≤ Qr l x) (x : Int) : El l F b x ↔ x ∈ R := by
  constructor
  · intro he
    have:=(hs.mem x).2 ⟨he.1, he.2.1⟩
    rcases List.mem_append.1 this with m|m
    · exact absurd (h.full x m) he.2.2
    · exact m
  · intro m
    have hx:=(hs.mem x).1 (List.mem_append_right D m)
    refine ⟨hx.1, hx.2, ?_⟩
    cases R with
   |nil => cases m
   |cons y R =>
      rcases List.mem_cons.1 m with rfl|m
      · have:=h.hd x rfl; omega
      · have:=h.none x m; have:=hq x hx.1; omega
theorem best_nil {l : List Or} {F : List Int} {b : Bool} {D : List Int} {r : Int} (h : At l F D []) (hs : Side l b (D ++ [])) (hq : ∀ x, In l x → 1 ≤ Qr l x) (hb : Best l F b l.length r) : r = -1 := by
  rcases hb with ⟨h1, _⟩|⟨_, _, h3, _⟩
  · exact h1
  · exact absurd ((h.el hs hq r).1 h3) (by simp)
theorem best_cons {l : List Or} {F : List Int} {b : Bool} {D R : List Int} {y r : Int} (h : At l F D (y :: R)) (hs : Side l b (D ++ y :: R)) (hq : ∀ x, In l x → 1 ≤ Qr l x) (hb : Best l F b l.length r) : r = y := by
  have hy : El l F b y:=(h.el hs hq y).2 (by simp)
  rcases hb with ⟨_, h2⟩|⟨_, _, h3, h4⟩
  · exact absurd hy (h2 y hy.1.2)
  · by_cases e : r = y
    · exact e
    · exfalso
      have m:=(h.el hs hq r).1 h3
      rcases List.mem_cons.1 m with q|m
      · exact e q
      · have pw:=(List.pairwise_append.1 hs.pw).2.1
        exact prec_asym ((List.pairwise_cons.1 pw).1 r m) (h4 y hy.1.2 hy (fun q => e q.symm))
end Go.Proofs.Ytdgjelbkogfedaa.CAuctionClears
