/- Contracts of functions that CommitServes reaches, a text of this session's own. -/
import Derived.Test.YtefkdkppipdceaaBox2
import Derived.Test.YtefkdkppipdceaaHCommitServesy0
import Derived.Test.YtefkdkppipdceaaHCommitServesy4
namespace Go.Proofs.Ytefkdkppipdceaa.PCommitServes
open Go.RowKit Go.Proofs.YtefkdkppipdceaaW.PrintWords Go.Proofs.YtefkdkppipdceaaW.PrintLast Go.Proofs.YtefkdkppipdceaaW.PrintMore
attribute [local go_sem] max2_int min2_int max_two min_two max_three min_three max_four min_four   -- for this text's walks alone
set_option linter.unusedVariables false
set_option linter.unusedSimpArgs false

/-! ### offer_Cost: function 72 -/
mutual
def offer_Cost.j0 : Nat → Int → Bool → ByteArray → List (S132) → Option (Int × Int)
 | 0, _, _, _, _ => none
 | k + 1, x1, x23, x129000, x129001 => if x23 = true then (some (0, 4)) else (offer_Cost.l0 k x1 0 x129001 (x129001.length : Int) 0)
def offer_Cost.l0 : Nat → Int → Int → List (S132) → Int → Int → Option (Int × Int)
 | 0, _, _, _, _, _ => none
 | k + 1, x1, x7, x25, x26, x27 => if x27 < x26 then (if 0 ≤ x27 then (if x27 < (x25.length : Int) then (offer_Cost.l0 k (wrap64 (x1 - (mn x1 ((rd_T132 x25 x27).f0)))) (wrap64 (x7 + (wrap64 ((mn x1 ((rd_T132 x25 x27).f0)) * ((rd_T132 x25 x27).f1))))) x25 x26 (wrap64 (x27 + 1))) else (none)) else (none)) else (some (x7, 0))
end
def offer_Cost.f (k : Nat) (a0_0 : ByteArray) (l0_1 : List (S132)) (a1 : Int) : Option (Int × Int) := (offer_Check.f k a0_0 l0_1).bind fun t129 => (if t129 = 0 then (if a1 < 0 then (offer_Cost.j0 k a1 true a0_0 l0_1) else ((offer_Most.f k a0_0 l0_1).bind fun t130 => (offer_Cost.j0 k a1 (decide (a1 > t130)) a0_0 l0_1))) else (some (0, t129)))
theorem offer_Cost.mono_l : ∀ k, (∀ y0 y1 y2 y3, LeO (offer_Cost.j0 k y0 y1 y2 y3) (offer_Cost.j0 (k + 1) y0 y1 y2 y3)) ∧ (∀ y0 y1 y2 y3 y4, LeO (offer_Cost.l0 k y0 y1 y2 y3 y4) (offer_Cost.l0 (k + 1) y0 y1 y2 y3 y4))
 | 0 => ⟨fun _ _ _ _ r h => by simp [offer_Cost.j0] at h, fun _ _ _ _ _ r h => by simp [offer_Cost.l0] at h⟩
 | k + 1 => by
  obtain ⟨ih0, ih1⟩:=offer_Cost.mono_l k
  refine ⟨?_, ?_⟩
  ·intro y0 y1 y2 y3
   unfold offer_Cost.j0
   repeat' first|(with_reducible first|exact ih0 _ _ _ _|exact ih1 _ _ _ _ _|exact offer_Check.mono _ _ _|exact offer_Most.mono _ _ _|exact LeO.refl _|exact LeO.none _|refine LeO.ite ?_ ?_|refine LeO.bind ?_ (fun _=>?_))|exact ih0 _ _ _ _|exact ih1 _ _ _ _ _|exact offer_Check.mono _ _ _|exact offer_Most.mono _ _ _|exact LeO.none _|refine LeO.ite ?_ ?_|refine LeO.bind ?_ (fun _=>?_)
  ·intro y0 y1 y2 y3 y4
   unfold offer_Cost.l0
   repeat' first|(with_reducible first|exact ih0 _ _ _ _|exact ih1 _ _ _ _ _|exact offer_Check.mono _ _ _|exact offer_Most.mono _ _ _|exact LeO.refl _|exact LeO.none _|refine LeO.ite ?_ ?_|refine LeO.bind ?_ (fun _=>?_))|exact ih0 _ _ _ _|exact ih1 _ _ _ _ _|exact offer_Check.mono _ _ _|exact offer_Most.mono _ _ _|exact LeO.none _|refine LeO.ite ?_ ?_|refine LeO.bind ?_ (fun _=>?_)
theorem offer_Cost.mono : ∀ a0 a1 a2 k, LeO (offer_Cost.f k a0 a1 a2) (offer_Cost.f (k + 1) a0 a1 a2) := by
 intro a0 a1 a2 k
 obtain ⟨ih0, ih1⟩:=offer_Cost.mono_l k
 unfold offer_Cost.f
 repeat' first|(with_reducible first|exact ih0 _ _ _ _|exact ih1 _ _ _ _ _|exact offer_Check.mono _ _ _|exact offer_Most.mono _ _ _|exact LeO.refl _|exact LeO.none _|refine LeO.ite ?_ ?_|refine LeO.bind ?_ (fun _=>?_))|exact ih0 _ _ _ _|exact ih1 _ _ _ _ _|exact offer_Check.mono _ _ _|exact offer_Most.mono _ _ _|exact LeO.none _|refine LeO.ite ?_ ?_|refine LeO.bind ?_ (fun _=>?_)
set_option maxHeartbeats 8000000 in
set_option maxRecDepth 100000 in
theorem offer_Cost.calls (k : Nat) (a0_0 : ByteArray) (A0_1 : Option Addr) (c0_1 : Nat) (l0_1 : List (S132)) (a1 : Int) (r1 : Int) (r2 : Int) (w : World) (hr0_1 : Kd.C k132 w A0_1 l0_1.length l0_1) (hc0_1 : l0_1.length ≤ c0_1) (h : offer_Cost.f k a0_0 l0_1 a1 = some (r1, r2)) :
  Calls Try.prog 72 #[.agg #[.string a0_0, .slice A0_1 l0_1.length c0_1], .int .i64 a1] w fun e w' => e = .returned (.tuple #[.int .i64 r1, .int .i64 r2]) ∧ Below w.heap.size w w' := by
 have hu57:=Try.underlying57;have hu132:=Try.underlying132;have HR0_1:=k0_ hr0_1;have HC0_1:=k0_ hc0_1;clear hr0_1 hc0_1;have HB:=k0_ (Below.refl w.heap.size w);have H : ((offer_Check.f k a0_0 l0_1).bind fun t129=>(if t129 = 0 then (if a1 < 0 then (offer_Cost.j0 k a1 true a0_0 l0_1) else ((offer_Most.f k a0_0 l0_1).bind fun t130=>(offer_Cost.j0 k a1 (decide (a1 > t130)) a0_0 l0_1))) else (some (0, t129)))) = some (r1, r2):=h;clear h;replace H:=Option.bind_eq_some_iff.mp H;obtain ⟨t129, A30, H⟩:=H;replace H : (if t129 = 0 then (if a1 < 0 then (offer_Cost.j0 k a1 true a0_0 l0_1) else ((offer_Most.f k a0_0 l0_1).bind fun t130=>(offer_Cost.j0 k a1 (decide (a1 > t130)) a0_0 l0_1))) else (some (0, t129))) = some (r1, r2):=H;have A3:=k0_ A30;clear A30
 by_cases c4 : t129 = 0
 ·rw [if_pos c4] at H
  have c4b0:=beq_iff_eq.mpr c4;have c4b1:=bne_eq_false_iff_eq.mpr c4;clear c4;have HC5:=k0_ H;clear H
  go_enter Try.func72, Try.ntmps72
  go_upto_region 4 with (first|((with_reducible refine gate_dst (N:=2) rfl ?_);refine box_event ?hg (N:=2) ?hd (cs:=#[.string a0_0, .slice A0_1 l0_1.length c0_1]) (t:=57) ?hr ?_;(case hd=>rfl);(case hg=>rfl);(case hr=>first|(go_simp;done)|(go_simp;rfl));intro gb128 hg w6 hbox hb;have BK128:=k0_ (hbox);have GW128:=k0_ ((by rw [hg];exact (below_size (hb0_ HB.out)) : w.heap.size ≤ gb128));have GE128:=k0_ ((by rw [hg];exact (below_size (hb0_ HB.out)) : w.heap.size ≤ gb128));replace HB:=k0_ (below_step (hb0_ HB.out) hb);clear hb hbox hg;obtain ⟨hcz7_0,hcz7_1⟩:=bc2_ BK128.out;obtain ⟨hfz7_0,hfz7_1⟩:=bf2_ BK128.out)|((with_reducible refine gate_callee (f:=103) rfl ?_);refine goesL_ (some 12) rfl rfl Try.func103 (by kernel_rfl) rfl #[.agg #[.string a0_0, .slice A0_1 l0_1.length c0_1]] rfl mt_ ?_;(with_reducible refine (offer_Check.calls k a0_0 _ _ l0_1 t129 _ ?side1 ?side2 A3.out).mono ?_);(case side1=>repeat (first|exact (Kd.C_below HR0_1.out HB.out)|(with_reducible refine Kd.C_alloc ?_ _)|(with_reducible refine Kd.C_drewN ?_ _)|(with_reducible refine Kd.C_drew ?_)));(case side2=>exact HC0_1.out);rintro e w8 ⟨rfl, hb⟩;refine ⟨_, rfl, ?_⟩;replace BK128:=k0_ (blk_below (g:=gb128) (o:=.cells #[.string a0_0, .slice A0_1 l0_1.length c0_1] 57 (0, 0)) (bq_ BK128.out) hb);replace HB:=k0_ (below_step (hb1_ HB.out GE128.out) hb);clear hb))
  (try simp only [Act.put, q1_,q2_,q3_])
  go_cut [23] (fun v23 wc=>∃ (kq : Nat) (x23_4 : Bool), v23 = .bool x23_4∧Aside0 (offer_Cost.j0 kq a1 x23_4 a0_0 l0_1 = some (r1, r2))∧Aside0 (kq ≤ k)∧Aside0 (wc.heap[gb128]? = some (.cells #[.string a0_0, (.slice A0_1 l0_1.length c0_1)] 57 (0, 0)))∧Aside0 (Below w.heap.size w wc))
  case first =>
   have H:=HC5.out;clear HC5
   by_cases c9 : a1 < 0
   ·rw [if_pos c9] at H
    have c9b0:=decide_eq_true c9;clear c9;(first|rw [c9b0]|(simp only [i64_w, i32_w];rw [c9b0])|skip);have H':=k0_ H;clear H;go_wp2
    go_meet
    case rel=>exact ⟨_, (true),rs_, H', ⟨by first|omega|exact Nat.le_refl _⟩,⟨bq_ BK128.out⟩,⟨hb1_ HB.out GE128.out⟩⟩
   ·rw [if_neg c9] at H
    have c9b0:=decide_eq_false c9;clear c9;(first|rw [c9b0]|(simp only [i64_w, i32_w];rw [c9b0])|skip);replace H:=Option.bind_eq_some_iff.mp H;obtain ⟨t130, A100, H⟩:=H;replace H : (offer_Cost.j0 k a1 (decide (a1 > t130)) a0_0 l0_1) = some (r1, r2):=H;have A10:=k0_ A100;clear A100;have H':=k0_ H;clear H;obtain ⟨hcz11_0,hcz11_1⟩:=bc2_ BK128.out;obtain ⟨hfz11_0,hfz11_1⟩:=bf2_ BK128.out
    go_wp2_with (first|(go_at_call 104;(with_reducible refine (offer_Most.calls k a0_0 _ _ l0_1 t130 _ ?side1 ?side2 A10.out).mono ?_);(case side1=>repeat (first|exact (Kd.C_below HR0_1.out HB.out)|(with_reducible refine Kd.C_alloc ?_ _)|(with_reducible refine Kd.C_drewN ?_ _)|(with_reducible refine Kd.C_drew ?_)));(case side2=>exact HC0_1.out);rintro e w12 ⟨rfl, hb⟩;replace BK128:=k0_ (blk_below (g:=gb128) (o:=.cells #[.string a0_0, .slice A0_1 l0_1.length c0_1] 57 (0, 0)) (bq_ BK128.out) hb);replace HB:=k0_ (below_step (hb1_ HB.out GE128.out) hb);clear hb))
    go_meet
    case rel=>exact ⟨_, (decide (a1 > t130)),rs_, H', ⟨by first|omega|exact Nat.le_refl _⟩,⟨bq_ BK128.out⟩,⟨hb1_ HB.out GE128.out⟩⟩
  clear HC5;clear c4b0 c4b1 hcz7_0 hcz7_1 hfz7_0 hfz7_1;obtain ⟨kq, x23_4, rfl, HA, HJ4, BK128, HB⟩:=hcut;obtain _|kj4:=kq
  ·exact absurd HA.out (by simp [offer_Cost.j0])
  have H:=HA.out;clear HA;simp only [offer_Cost.j0] at H
  by_cases c13 : x23_4 = true
  ·subst c13
   have H1 : (some (0, 4)) = some (r1, r2):=by rw [if_pos rfl] at H;exact H
   clear H;have H:=H1;clear H1;simp only [Option.some.injEq, Prod.mk.injEq] at H;obtain ⟨rfl, rfl⟩:=H;go_wp2
   go_ret2
   exact ⟨er_, hb1_ HB.out GE128.out⟩
  ·replace c13:=Bool.eq_false_iff.mpr c13
   subst c13;have H1 : (offer_Cost.l0 kj4 a1 0 l0_1 (l0_1.length : Int) 0) = some (r1, r2):=by rw [if_neg (show ¬ (false = true) by decide)] at H;exact H
   clear H;have H:=H1;clear H1;have H':=k0_ H;clear H;obtain ⟨hcz14_0,hcz14_1⟩:=bc2_ BK128.out;obtain ⟨hfz14_0,hfz14_1⟩:=bf2_ BK128.out;go_wp2;(try simp only [Act.put, q1_,q3_,q2_])
   go_loopg [1, 7, 27] kj4 (fun kq v1 v7 v27 w'=>∃ (x1_2 : Int) (x7_2 : Int) (x27_2 : Int), v1 = .int .i64 x1_2∧v7 = .int .i64 x7_2∧v27 = .int .i64 x27_2∧Aside0 (offer_Cost.l0 kq x1_2 x7_2 l0_1 (l0_1.length : Int) x27_2 = some (r1, r2))∧Aside0 (kq ≤ kj4)∧Aside0 (w'.heap[gb128]? = some (.cells #[.string a0_0, (.slice A0_1 l0_1.length c0_1)] 57 (0, 0)))∧Aside0 (Below w.heap.size w w'))
   case atStart=>exact ⟨(a1),(0),(0),rs_,rs_,rs_, H', ⟨Nat.le_refl _⟩,⟨bq_ BK128.out⟩,⟨hb1_ HB.out GE128.out⟩⟩
   clear H' hcz14_0 hcz14_1 hfz14_0 hfz14_1;obtain ⟨x1_2, x7_2, x27_2, rfl, rfl, rfl, HA, HK2, BK128, HB⟩:=hrel;obtain _|k2:=gk
   ·exact absurd HA.out (by simp [offer_Cost.l0])
   have H:=HA.out;clear HA;simp only [offer_Cost.l0] at H
   by_cases c15 : x27_2 < (l0_1.length : Int)
   ·rw [if_pos c15] at H
    have c15b0:=decide_eq_true c15;clear c15
    obtain ⟨c16,H⟩:=gi_ H;have c16b0:=decide_eq_true c16;clear c16
    obtain ⟨c17,H⟩:=gi_ H;have c17b0:=decide_eq_true c17;clear c17;obtain ⟨ji18, hji18⟩ : ∃ j_ : Int, (mn x1_2 ((rd_T132 l0_1 x27_2).f0)) = j_:=⟨_, rfl⟩;replace H : (offer_Cost.l0 k2 (wrap64 (x1_2 - (ji18))) (wrap64 (x7_2 + (wrap64 ((ji18) * ((rd_T132 l0_1 x27_2).f1))))) l0_1 (l0_1.length : Int) (wrap64 (x27_2 + 1))) = some (r1, r2):=by first|(rw [hji18] at H;exact H)|(simp only [hji18] at H ⊢;exact H)
    have hji18_ : (if ((rd_T132 l0_1 x27_2).f0) < x1_2 then ((rd_T132 l0_1 x27_2).f0) else x1_2) = ji18:=hji18;have H':=k0_ H;clear H;have p131 : 0 ≤ (x27_2 : Int):=of_decide_eq_true as_;have q131 : x27_2 < (l0_1.length : Int):=of_decide_eq_true as_;obtain ⟨ad131, e131, hx131_0, hx131_1⟩:=at_T132 HR0_1.out x27_2 p131 q131;cases e131;replace hx131_0:=bt_ HB.out hx131_0;replace hx131_1:=bt_ HB.out hx131_1;replace p131:=eq_true p131;replace q131:=eq_true q131
    go_wp2_with (first|((with_reducible refine gate_dst (N:=9) rfl ?_);refine box_event ?hg (N:=9) ?hd (cs:=#[.int .i64 0, .int .i64 0]) (t:=132) ?hr ?_;(case hd=>rfl);(case hg=>rfl);(case hr=>first|(go_simp;done)|(go_simp;rfl));intro gb132 hg w19 hbox hb;have BK132:=k0_ (hbox);have GW132:=k0_ ((by rw [hg];exact (below_size (hb1_ HB.out GE128.out)) : w.heap.size ≤ gb132));have GE132:=k0_ ((by rw [hg];exact (below_size (hb1_ HB.out GE128.out)) : w.heap.size ≤ gb132));replace HB:=k0_ (below_step (hb1_ HB.out GE128.out) hb);have NB128_132:=k0_ ((by rw [hg];exact Nat.ne_of_lt (blk_lt (g:=gb128) (o:=.cells #[.string a0_0, .slice (some ad131) l0_1.length c0_1] 57 (0, 0)) (bq_ BK128.out)) : gb128 ≠ gb132));have NB132_128:=k0_ ((by rw [hg];exact Nat.ne_of_gt (blk_lt (g:=gb128) (o:=.cells #[.string a0_0, .slice (some ad131) l0_1.length c0_1] 57 (0, 0)) (bq_ BK128.out)) : gb132 ≠ gb128));replace BK128:=k0_ (blk_below (g:=gb128) (o:=.cells #[.string a0_0, .slice (some ad131) l0_1.length c0_1] 57 (0, 0)) (bq_ BK128.out) hb);clear hb hbox hg;have hnb20:=NB132_128.out;have hnc20:=NB128_132.out;obtain ⟨hcz21_0,hcz21_1⟩:=bc2_ BK132.out;obtain ⟨hfz21_0,hfz21_1⟩:=bf2_ BK132.out))
    go_roundg k2
    case measure=>have:=HJ4.out;have:=HK2.out;omega
    case rel=>exact ⟨(wrap64 (x1_2 - (ji18))),(wrap64 (x7_2 + (wrap64 ((ji18) * ((rd_T132 l0_1 x27_2).f1))))),(wrap64 (x27_2 + 1)),(by first|rfl|(simp;done)|(simp only [← hji18] <;> (first|rfl|simp))|(simp [*];done)),(by first|rfl|(simp;done)|(simp only [← hji18] <;> (first|rfl|simp))|(simp [*];done)),rs_, H', ⟨by have:=HJ4.out;have:=HK2.out;omega⟩,⟨by (with_reducible repeat (first|refine blk_drewN ?_ _|refine blk_drew ?_|refine blk_alloc ?_ _));refine blk_far ?_ NB128_132.out _;(with_reducible repeat (first|refine blk_drewN ?_ _|refine blk_drew ?_|refine blk_alloc ?_ _));refine blk_far ?_ NB128_132.out _;(with_reducible repeat (first|refine blk_drewN ?_ _|refine blk_drew ?_|refine blk_alloc ?_ _));exact BK128.out⟩,⟨hb2_ HB.out GE128.out GE132.out⟩⟩
   ·rw [if_neg c15] at H
    have c15b0:=decide_eq_false c15;clear c15;simp only [Option.some.injEq, Prod.mk.injEq] at H;obtain ⟨rfl, rfl⟩:=H;go_wp2
    go_ret2
    exact ⟨er_, hb1_ HB.out GE128.out⟩
 ·rw [if_neg c4] at H
  have c4b0:=beq_eq_false_iff_ne.mpr c4;have c4b1:=bne_iff_ne.mpr c4;simp only [Option.some.injEq, Prod.mk.injEq] at H;obtain ⟨rfl, rfl⟩:=H
  go_enter Try.func72, Try.ntmps72
  go_wp2_with (first|((with_reducible refine gate_dst (N:=2) rfl ?_);refine box_event ?hg (N:=2) ?hd (cs:=#[.string a0_0, .slice A0_1 l0_1.length c0_1]) (t:=57) ?hr ?_;(case hd=>rfl);(case hg=>rfl);(case hr=>first|(go_simp;done)|(go_simp;rfl));intro gb128 hg w22 hbox hb;have BK128:=k0_ (hbox);have GW128:=k0_ ((by rw [hg];exact (below_size (hb0_ HB.out)) : w.heap.size ≤ gb128));have GE128:=k0_ ((by rw [hg];exact (below_size (hb0_ HB.out)) : w.heap.size ≤ gb128));replace HB:=k0_ (below_step (hb0_ HB.out) hb);clear hb hbox hg;obtain ⟨hcz23_0,hcz23_1⟩:=bc2_ BK128.out;obtain ⟨hfz23_0,hfz23_1⟩:=bf2_ BK128.out)|((with_reducible refine gate_callee (f:=103) rfl ?_);refine goesL_ (some 12) rfl rfl Try.func103 (by kernel_rfl) rfl #[.agg #[.string a0_0, .slice A0_1 l0_1.length c0_1]] rfl mt_ ?_;(with_reducible refine (offer_Check.calls k a0_0 _ _ l0_1 t129 _ ?side1 ?side2 A3.out).mono ?_);(case side1=>repeat (first|exact (Kd.C_below HR0_1.out HB.out)|(with_reducible refine Kd.C_alloc ?_ _)|(with_reducible refine Kd.C_drewN ?_ _)|(with_reducible refine Kd.C_drew ?_)));(case side2=>exact HC0_1.out);rintro e w24 ⟨rfl, hb⟩;refine ⟨_, rfl, ?_⟩;replace BK128:=k0_ (blk_below (g:=gb128) (o:=.cells #[.string a0_0, .slice A0_1 l0_1.length c0_1] 57 (0, 0)) (bq_ BK128.out) hb);replace HB:=k0_ (below_step (hb1_ HB.out GE128.out) hb);clear hb))
  go_ret2
  exact ⟨er_, hb1_ HB.out GE128.out⟩

-- NOT PRINTED: function 130 (commit_piece_130)

-- NOT PRINTED: function 141 (commit_piece_141)

-- NOT PRINTED: function 139 (commit_piece_139)

-- NOT PRINTED: function 131 (commit_piece_131)

-- NOT PRINTED: function 112 (commit_piece_112)

-- NOT PRINTED: function 92 (commit_piece_92)

/-! ### cmp_isNaN_int: function 113 -/
def cmp_isNaN_int.f (a0 : Int) : Option (Bool) := some (a0 != a0)
set_option maxHeartbeats 8000000 in
set_option maxRecDepth 100000 in
theorem cmp_isNaN_int.calls (a0 : Int) (r : Bool) (w : World) (h : cmp_isNaN_int.f a0 = some r) :
  Calls Try.prog 113 #[.int .i64 a0] w fun e w' => e = .returned (.bool r) ∧ Drawn0 w w' := by
 have H : (some (a0 != a0)) = some r:=h;clear h;obtain rfl:=Option.some.inj H
 go_enter Try.func113, Try.ntmps113
 go_wp2
 go_ret
 exact ⟨by first|rfl|(simp;done)|(simp [*];done), by repeat (first|exact Drawn0.refl _|apply Drawn0.step)⟩

/-! ### cmp_Compare_int: function 95 -/
def cmp_Compare_int.f (a0 : Int) (a1 : Int) : Option (Int) := (cmp_isNaN_int.f a0).bind fun t133 => ((cmp_isNaN_int.f a1).bind fun t134 => (if t133 = true then (if t134 = true then (some 0) else (some (-1))) else (if t134 = true then (some 1) else (if a0 < a1 then (some (-1)) else (if a0 > a1 then (some 1) else (some 0))))))
set_option maxHeartbeats 8000000 in
set_option maxRecDepth 100000 in
theorem cmp_Compare_int.calls (a0 : Int) (a1 : Int) (r : Int) (w : World) (h : cmp_Compare_int.f a0 a1 = some r) :
  Calls Try.prog 95 #[.int .i64 a0, .int .i64 a1] w fun e w' => e = .returned (.int .i64 r) ∧ Drawn0 w w' := by
 have H : ((cmp_isNaN_int.f a0).bind fun t133=>((cmp_isNaN_int.f a1).bind fun t134=>(if t133 = true then (if t134 = true then (some 0) else (some (-1))) else (if t134 = true then (some 1) else (if a0 < a1 then (some (-1)) else (if a0 > a1 then (some 1) else (some 0))))))) = some r:=h;clear h;replace H:=Option.bind_eq_some_iff.mp H;obtain ⟨t133, A30, H⟩:=H;replace H : ((cmp_isNaN_int.f a1).bind fun t134=>(if t133 = true then (if t134 = true then (some 0) else (some (-1))) else (if t134 = true then (some 1) else (if a0 < a1 then (some (-1)) else (if a0 > a1 then (some 1) else (some 0)))))) = some r:=H;have A3:=k0_ A30;clear A30;replace H:=Option.bind_eq_some_iff.mp H;obtain ⟨t134, A40, H⟩:=H;replace H : (if t133 = true then (if t134 = true then (some 0) else (some (-1))) else (if t134 = true then (some 1) else (if a0 < a1 then (some (-1)) else (if a0 > a1 then (some 1) else (some 0))))) = some r:=H;have A4:=k0_ A40;clear A40
 by_cases c5 : t133 = true
 ·subst c5
  have H1 : (if t134 = true then (some 0) else (some (-1))) = some r:=by rw [if_pos rfl] at H;exact H
  clear H;have H:=H1;clear H1
  by_cases c6 : t134 = true
  ·subst c6
   have H1 : (some 0) = some r:=by rw [if_pos rfl] at H;exact H
   clear H;have H:=H1;clear H1;obtain rfl:=Option.some.inj H
   go_enter Try.func95, Try.ntmps95
   go_wp2_with (first|((with_reducible refine gate_callee (f:=113) rfl ?_);refine goesL_ (some 8) rfl rfl Try.func113 (by kernel_rfl) rfl #[.int .i64 a0] rfl mt_ ?_;(with_reducible refine (cmp_isNaN_int.calls a0 true _ A3.out).mono ?_);rintro e w' ⟨rfl, ⟨nd, rfl⟩⟩;refine ⟨_, rfl, ?_⟩)|((with_reducible refine gate_callee (f:=113) rfl ?_);refine goesL_ (some 10) rfl rfl Try.func113 (by kernel_rfl) rfl #[.int .i64 a1] rfl mt_ ?_;(with_reducible refine (cmp_isNaN_int.calls a1 true _ A4.out).mono ?_);rintro e w' ⟨rfl, ⟨nd, rfl⟩⟩;refine ⟨_, rfl, ?_⟩))
   go_ret
   exact ⟨by first|rfl|(simp;done)|(simp [*];done), by repeat (first|exact Drawn0.refl _|apply Drawn0.step)⟩
  ·replace c6:=Bool.eq_false_iff.mpr c6
   subst c6;have H1 : (some (-1)) = some r:=by rw [if_neg (show ¬ (false = true) by decide)] at H;exact H
   clear H;have H:=H1;clear H1;obtain rfl:=Option.some.inj H
   go_enter Try.func95, Try.ntmps95
   go_wp2_with (first|((with_reducible refine gate_callee (f:=113) rfl ?_);refine goesL_ (some 8) rfl rfl Try.func113 (by kernel_rfl) rfl #[.int .i64 a0] rfl mt_ ?_;(with_reducible refine (cmp_isNaN_int.calls a0 true _ A3.out).mono ?_);rintro e w' ⟨rfl, ⟨nd, rfl⟩⟩;refine ⟨_, rfl, ?_⟩)|((with_reducible refine gate_callee (f:=113) rfl ?_);refine goesL_ (some 10) rfl rfl Try.func113 (by kernel_rfl) rfl #[.int .i64 a1] rfl mt_ ?_;(with_reducible refine (cmp_isNaN_int.calls a1 false _ A4.out).mono ?_);rintro e w' ⟨rfl, ⟨nd, rfl⟩⟩;refine ⟨_, rfl, ?_⟩))
   go_ret
   exact ⟨by first|rfl|(simp;done)|(simp [*];done), by repeat (first|exact Drawn0.refl _|apply Drawn0.step)⟩
 ·replace c5:=Bool.eq_false_iff.mpr c5
  subst c5;have H1 : (if t134 = true then (some 1) else (if a0 < a1 then (some (-1)) else (if a0 > a1 then (some 1) else (some 0)))) = some r:=by rw [if_neg (show ¬ (false = true) by decide)] at H;exact H
  clear H;have H:=H1;clear H1
  by_cases c7 : t134 = true
  ·subst c7
   have H1 : (some 1) = some r:=by rw [if_pos rfl] at H;exact H
   clear H;have H:=H1;clear H1;obtain rfl:=Option.some.inj H
   go_enter Try.func95, Try.ntmps95
   go_wp2_with (first|((with_reducible refine gate_callee (f:=113) rfl ?_);refine goesL_ (some 8) rfl rfl Try.func113 (by kernel_rfl) rfl #[.int .i64 a0] rfl mt_ ?_;(with_reducible refine (cmp_isNaN_int.calls a0 false _ A3.out).mono ?_);rintro e w' ⟨rfl, ⟨nd, rfl⟩⟩;refine ⟨_, rfl, ?_⟩)|((with_reducible refine gate_callee (f:=113) rfl ?_);refine goesL_ (some 10) rfl rfl Try.func113 (by kernel_rfl) rfl #[.int .i64 a1] rfl mt_ ?_;(with_reducible refine (cmp_isNaN_int.calls a1 true _ A4.out).mono ?_);rintro e w' ⟨rfl, ⟨nd, rfl⟩⟩;refine ⟨_, rfl, ?_⟩))
   go_ret
   exact ⟨by first|rfl|(simp;done)|(simp [*];done), by repeat (first|exact Drawn0.refl _|apply Drawn0.step)⟩
  ·replace c7:=Bool.eq_false_iff.mpr c7
   subst c7;have H1 : (if a0 < a1 then (some (-1)) else (if a0 > a1 then (some 1) else (some 0))) = some r:=by rw [if_neg (show ¬ (false = true) by decide)] at H;exact H
   clear H;have H:=H1;clear H1
   by_cases c8 : a0 < a1
   rw [if_pos c8] at H;have c8b0:=decide_eq_true c8;clear c8;obtain rfl:=Option.some.inj H;rotate_left;rw [if_neg c8] at H;have c8b0:=decide_eq_false c8;clear c8
   focus
    by_cases c9 : a0 > a1
    rw [if_pos c9] at H;have c9b0:=decide_eq_true c9;clear c9;obtain rfl:=Option.some.inj H;rotate_left;rw [if_neg c9] at H;have c9b0:=decide_eq_false c9;clear c9;obtain rfl:=Option.some.inj H;rotate_left
   rotate_left 2
   all_goals
    go_enter Try.func95, Try.ntmps95
    go_wp2_with (first|((with_reducible refine gate_callee (f:=113) rfl ?_);refine goesL_ (some 8) rfl rfl Try.func113 (by kernel_rfl) rfl #[.int .i64 a0] rfl mt_ ?_;(with_reducible refine (cmp_isNaN_int.calls a0 false _ A3.out).mono ?_);rintro e w' ⟨rfl, ⟨nd, rfl⟩⟩;refine ⟨_, rfl, ?_⟩)|((with_reducible refine gate_callee (f:=113) rfl ?_);refine goesL_ (some 10) rfl rfl Try.func113 (by kernel_rfl) rfl #[.int .i64 a1] rfl mt_ ?_;(with_reducible refine (cmp_isNaN_int.calls a1 false _ A4.out).mono ?_);rintro e w' ⟨rfl, ⟨nd, rfl⟩⟩;refine ⟨_, rfl, ?_⟩))
    go_ret
   ·exact ⟨by first|rfl|(simp;done)|(simp [*];done), by repeat (first|exact Drawn0.refl _|apply Drawn0.step)⟩
   ·exact ⟨by first|rfl|(simp;done)|(simp [*];done), by repeat (first|exact Drawn0.refl _|apply Drawn0.step)⟩
   ·exact ⟨by first|rfl|(simp;done)|(simp [*];done), by repeat (first|exact Drawn0.refl _|apply Drawn0.step)⟩

/-! ### cmp_Or_int: function 94 -/
def cmp_Or_int.l0 : Nat → Int → List Int → Int → Int → Option (Int)
 | 0, _, _, _, _ => none
 | k + 1, x3, x6, x7, x8 => if x8 < x7 then (if 0 ≤ x8 then (if x8 < (x6.length : Int) then (if (rd x6 x8) = x3 then (cmp_Or_int.l0 k x3 x6 x7 (wrap64 (x8 + 1))) else (some (rd x6 x8))) else (none)) else (none)) else (some x3)
def cmp_Or_int.f (k : Nat) (l0 : List Int) : Option (Int) := cmp_Or_int.l0 k 0 l0 (l0.length : Int) 0
theorem cmp_Or_int.mono_l : ∀ k, (∀ y0 y1 y2 y3, LeO (cmp_Or_int.l0 k y0 y1 y2 y3) (cmp_Or_int.l0 (k + 1) y0 y1 y2 y3))
 | 0 => fun _ _ _ _ r h => by simp [cmp_Or_int.l0] at h
 | k + 1 => by
  have ih0:=cmp_Or_int.mono_l k
  ·intro y0 y1 y2 y3
   unfold cmp_Or_int.l0
   repeat' first|(with_reducible first|exact ih0 _ _ _ _|exact LeO.refl _|exact LeO.none _|refine LeO.ite ?_ ?_|refine LeO.bind ?_ (fun _=>?_))|exact ih0 _ _ _ _|exact LeO.none _|refine LeO.ite ?_ ?_|refine LeO.bind ?_ (fun _=>?_)
theorem cmp_Or_int.mono : ∀ a0 k, LeO (cmp_Or_int.f k a0) (cmp_Or_int.f (k + 1) a0) := by
 intro a0 k
 have ih0:=cmp_Or_int.mono_l k
 unfold cmp_Or_int.f
 repeat' first|(with_reducible first|exact ih0 _ _ _ _|exact LeO.refl _|exact LeO.none _|refine LeO.ite ?_ ?_|refine LeO.bind ?_ (fun _=>?_))|exact ih0 _ _ _ _|exact LeO.none _|refine LeO.ite ?_ ?_|refine LeO.bind ?_ (fun _=>?_)
set_option maxHeartbeats 8000000 in
set_option maxRecDepth 100000 in
theorem cmp_Or_int.calls (k : Nat) (A0 : Option Addr) (c0 : Nat) (l0 : List Int) (r : Int) (w : World) (hr0 : Kd.C (Kd.int .i64) w A0 l0.length l0) (hc0 : l0.length ≤ c0) (h : cmp_Or_int.f k l0 = some r) :
  Calls Try.prog 94 #[.slice A0 l0.length c0] w fun e w' => e = .returned (.int .i64 r) ∧ Drawn0 w w' := by
 have HR0:=k0_ hr0;have HC0:=k0_ hc0;clear hr0 hc0;have H : (cmp_Or_int.l0 k 0 l0 (l0.length : Int) 0) = some r:=h;clear h;have H':=k0_ H;clear H
 go_enter Try.func94, Try.ntmps94
 go_wp2;(try simp only [Act.put, q1_,q3_,q2_])
 go_loopg [8] k (fun kq v8 w'=>∃ (x8_1 : Int), v8 = .int .i64 x8_1∧Aside0 (cmp_Or_int.l0 kq 0 l0 (l0.length : Int) x8_1 = some r)∧Aside0 (kq ≤ k)∧Drawn0 w w')
 case atStart=>exact ⟨(0),rs_, H', ⟨Nat.le_refl _⟩, by repeat (first|exact Drawn0.refl _|apply Drawn0.step)⟩
 clear H';obtain ⟨x8_1, rfl, HA, HK1, ⟨m1, rfl⟩⟩:=hrel;obtain _|k1:=gk
 ·exact absurd HA.out (by simp [cmp_Or_int.l0])
 have H:=HA.out;clear HA;simp only [cmp_Or_int.l0] at H
 by_cases c2 : x8_1 < (l0.length : Int)
 ·rw [if_pos c2] at H
  have c2b0:=decide_eq_true c2;clear c2
  by_cases c3 : 0 ≤ x8_1
  rw [if_pos c3] at H;have c3b0:=decide_eq_true c3;clear c3
  focus
   by_cases c4 : x8_1 < (l0.length : Int)
   rw [if_pos c4] at H;have c4b0:=decide_eq_true c4;clear c4
   focus
    by_cases c5 : (rd l0 x8_1) = 0
    rw [if_pos c5] at H;have c5b0:=beq_iff_eq.mpr c5;have c5b1:=bne_eq_false_iff_eq.mpr c5;clear c5;have H':=k0_ H;clear H;rotate_left;rw [if_neg c5] at H;have c5b0:=beq_eq_false_iff_ne.mpr c5;have c5b1:=bne_iff_ne.mpr c5;obtain rfl:=Option.some.inj H;rotate_left
   rotate_left 2;rw [if_neg c4] at H
   exact absurd H (by simp)
  rotate_left 2;rw [if_neg c3] at H
  exact absurd H (by simp)
  all_goals
   have p133 : 0 ≤ (x8_1 : Int):=of_decide_eq_true as_;have q133 : x8_1 < (l0.length : Int):=of_decide_eq_true as_;obtain ⟨ad133, e133, hx133_0⟩:=Kd.at_int HR0.out x8_1 p133 q133;cases e133;replace p133:=eq_true p133;replace q133:=eq_true q133;go_wp2
  ·go_roundg k1
   case measure=>have:=HK1.out;omega
   case rel=>exact ⟨(wrap64 (x8_1 + 1)),rs_, H', ⟨by have:=HK1.out;omega⟩, by repeat (first|exact Drawn0.refl _|apply Drawn0.step)⟩
  ·go_ret
   exact ⟨by first|rfl|(simp;done)|(simp [*];done), by repeat (first|exact Drawn0.refl _|apply Drawn0.step)⟩
 ·rw [if_neg c2] at H
  have c2b0:=decide_eq_false c2;clear c2;obtain rfl:=Option.some.inj H;go_wp2
  go_ret
  exact ⟨by first|rfl|(simp;done)|(simp [*];done), by repeat (first|exact Drawn0.refl _|apply Drawn0.step)⟩

/-! ### commit_serve_1: function 93 -/
def commit_serve_1.f (k : Nat) (a0_0 : Int) (a0_1 : Int) (a0_2 : Int) (a1_0 : Int) (a1_1 : Int) (a1_2 : Int) : Option (Int) := (cmp_Compare_int.f a0_2 a1_2).bind fun t136 => ((cmp_Compare_int.f a0_0 a1_0).bind fun t137 => ((cmp_Or_int.f k (([t136, t137] : List Int))).bind fun t141 => (some t141)))
theorem commit_serve_1.mono : ∀ a0 a1 a2 a3 a4 a5 k, LeO (commit_serve_1.f k a0 a1 a2 a3 a4 a5) (commit_serve_1.f (k + 1) a0 a1 a2 a3 a4 a5) := by
 intro a0 a1 a2 a3 a4 a5 k
 unfold commit_serve_1.f
 repeat' first|(with_reducible first|exact cmp_Or_int.mono _ _|exact LeO.refl _|exact LeO.none _|refine LeO.ite ?_ ?_|refine LeO.bind ?_ (fun _=>?_))|exact cmp_Or_int.mono _ _|exact LeO.none _|refine LeO.ite ?_ ?_|refine LeO.bind ?_ (fun _=>?_)
def commit_serve_1.T1 : Bool × List (List Nat × List Nat) := (true, [([], []), ([0], [0]), ([], []), ([2], [2]), ([1, 3], [1, 3]), ([], []), ([5], [5]), ([], []), ([7], [7]), ([6, 8, 4], [6, 8]), ([4, 9], [4, 9]), ([10, 9], [10]), ([11, 11, 0, 1, 2, 3, 4, 5, 6, 7, 8, 9, 10, 11], [11])])
def commit_serve_1.B1 : List Nat := [0, 1, 0, 4, 15, 0, 32, 0, 128, 511, 1023, 2047, 4095]
theorem commit_serve_1.tab1 : rtab .any (opsOf Try.f93 1) = commit_serve_1.T1 := by kernel_rfl
theorem commit_serve_1.bits1 : waitsOk commit_serve_1.T1.2 commit_serve_1.B1 = true := by kernel_rfl
set_option maxHeartbeats 8000000 in
set_option maxRecDepth 100000 in
theorem commit_serve_1.calls (k : Nat) (a0_0 : Int) (a0_1 : Int) (a0_2 : Int) (a1_0 : Int) (a1_1 : Int) (a1_2 : Int) (r : Int) (w : World) (h : commit_serve_1.f k a0_0 a0_1 a0_2 a1_0 a1_1 a1_2 = some r) :
  Calls Try.prog 93 #[.agg #[.int .i64 a0_0, .int .i64 a0_1, .int .i64 a0_2], .agg #[.int .i64 a1_0, .int .i64 a1_1, .int .i64 a1_2]] w fun e w' => e = .returned (.int .i64 r) ∧ Below w.heap.size w w' := by
 have hu166:=Try.underlying166;have HB:=k0_ (Below.refl w.heap.size w);have H : ((cmp_Compare_int.f a0_2 a1_2).bind fun t136=>((cmp_Compare_int.f a0_0 a1_0).bind fun t137=>((cmp_Or_int.f k (([t136, t137] : List Int))).bind fun t141=>(some t141)))) = some r:=h;clear h;replace H:=Option.bind_eq_some_iff.mp H;obtain ⟨t136, A30, H⟩:=H;replace H : ((cmp_Compare_int.f a0_0 a1_0).bind fun t137=>((cmp_Or_int.f k (([t136, t137] : List Int))).bind fun t141=>(some t141))) = some r:=H;have A3:=k0_ A30;clear A30;replace H:=Option.bind_eq_some_iff.mp H;obtain ⟨t137, A40, H⟩:=H;replace H : ((cmp_Or_int.f k (([t136, t137] : List Int))).bind fun t141=>(some t141)) = some r:=H;have A4:=k0_ A40;clear A40;obtain ⟨y138, hy138⟩ : ∃ y_ : List Int, y_ = (([t136, t137] : List Int)):=⟨_, rfl⟩;replace H : ((cmp_Or_int.f k y138).bind fun t141=>(some t141)) = some r:=by first|(rw [hy138];with_reducible exact H)|(have H2_:=(Option.bind_some _ _).symm.trans H;rw [hy138];with_reducible exact H2_)|(have H2_:=(Option.bind_some _ _).symm.trans H;with_reducible exact H2_)|with_reducible exact H|(rw [hy138];exact H)|exact H
 have Ny138:=k0_ hy138;clear hy138;replace H:=Option.bind_eq_some_iff.mp H;obtain ⟨t141, A50, H⟩:=H;replace H : (some t141) = some r:=H;have A5:=k0_ A50;clear A50;obtain rfl:=Option.some.inj H
 go_enter Try.func93, Try.ntmps93
 try go_wp2_with (first|((with_reducible refine gate_dst (N:=2) rfl ?_);refine box_event ?hg (N:=2) ?hd (cs:=#[.int .i64 a0_0, .int .i64 a0_1, .int .i64 a0_2]) (t:=166) ?hr ?_;(case hd=>rfl);(case hg=>rfl);(case hr=>first|(go_simp;done)|(go_simp;rfl));intro gb134 hg w6 hbox hb;have BK134:=k0_ (hbox);have GW134:=k0_ ((by rw [hg];exact (below_size (hb0_ HB.out)) : w.heap.size ≤ gb134));have GE134:=k0_ ((by rw [hg];exact (below_size (hb0_ HB.out)) : w.heap.size ≤ gb134));replace HB:=k0_ (below_step (hb0_ HB.out) hb);clear hb hbox hg)|((with_reducible refine gate_dst (N:=3) rfl ?_);refine box_event ?hg (N:=3) ?hd (cs:=#[.int .i64 a1_0, .int .i64 a1_1, .int .i64 a1_2]) (t:=166) ?hr ?_;(case hd=>rfl);(case hg=>rfl);(case hr=>first|(go_simp;done)|(go_simp;rfl));intro gb135 hg w7 hbox hb;have BK135:=k0_ (hbox);have GW135:=k0_ ((by rw [hg];exact (below_size (hb1_ HB.out GE134.out)) : w.heap.size ≤ gb135));have GE135:=k0_ ((by rw [hg];exact (below_size (hb1_ HB.out GE134.out)) : w.heap.size ≤ gb135));replace HB:=k0_ (below_step (hb1_ HB.out GE134.out) hb);have NB134_135:=k0_ ((by rw [hg];exact Nat.ne_of_lt (blk_lt (g:=gb134) (o:=.cells #[.int .i64 a0_0, .int .i64 a0_1, .int .i64 a0_2] 166 (0, 0)) (bq_ BK134.out)) : gb134 ≠ gb135));have NB135_134:=k0_ ((by rw [hg];exact Nat.ne_of_gt (blk_lt (g:=gb134) (o:=.cells #[.int .i64 a0_0, .int .i64 a0_1, .int .i64 a0_2] 166 (0, 0)) (bq_ BK134.out)) : gb135 ≠ gb134));replace BK134:=k0_ (blk_below (g:=gb134) (o:=.cells #[.int .i64 a0_0, .int .i64 a0_1, .int .i64 a0_2] 166 (0, 0)) (bq_ BK134.out) hb);clear hb hbox hg))
 replace BK134:=k0_ (blk_drew BK134.out);replace BK135:=k0_ (blk_drew BK135.out);replace HB:=k0_ (below_drew1 HB.out);refine start_ (n:=13) (S:=fun w'=>w'.cell? ⟨gb134, 0, none⟩ = some (.int .i64 a0_0)∧w'.cell? ⟨gb134, 1, none⟩ = some (.int .i64 a0_1)∧w'.cell? ⟨gb134, 2, none⟩ = some (.int .i64 a0_2)∧w'.cell? ⟨gb135, 0, none⟩ = some (.int .i64 a1_0)∧w'.cell? ⟨gb135, 1, none⟩ = some (.int .i64 a1_1)∧w'.cell? ⟨gb135, 2, none⟩ = some (.int .i64 a1_2)) (ds:=[]) (mb_ 13 0) (by kernel_rfl) rfl rfl ⟨(blk_cell BK134.out 0).trans rfl, (blk_cell BK134.out 1).trans rfl, (blk_cell BK134.out 2).trans rfl, (blk_cell BK135.out 0).trans rfl, (blk_cell BK135.out 1).trans rfl, (blk_cell BK135.out 2).trans rfl⟩ (fun hHeld=>?_);refine with_tabW commit_serve_1.tab1 commit_serve_1.bits1 (fun HT_ HW_=>?_);generalize w7.drew = w8 at BK134 BK135 HB hHeld ⊢;refine pu_ 0 5 HT_.out (h:=?_);refine pu_ 2 7 HT_.out (h:=?_);refine pu_ 5 10 HT_.out (h:=?_);refine pu_ 7 12 HT_.out (h:=?_);refine tk_ 1 6 HT_.out HW_.out hHeld (h:=?_);refine tk_ 3 8 HT_.out HW_.out hHeld (h:=?_);refine tk_ 6 11 HT_.out HW_.out hHeld (h:=?_);refine tk_ 8 13 HT_.out HW_.out hHeld (h:=?_);refine on_ 4 (some 9) HT_.out (h:=fun K hK=>?_);refine goes_ Try.func95 (by kernel_rfl) rfl #[.int .i64 a0_2, .int .i64 a1_2] (by rfl) rfl rfl mt_ ?_
 with_reducible refine (cmp_Compare_int.calls a0_2 a1_2 t136 _ A3.out).mono ?_
 rintro e w' ⟨rfl, ⟨nd, rfl⟩⟩;refine ⟨_, rfl, ?_⟩;refine hK.out _ _ ⟨(blk_cell BK134.out 0).trans rfl, (blk_cell BK134.out 1).trans rfl, (blk_cell BK134.out 2).trans rfl, (blk_cell BK135.out 0).trans rfl, (blk_cell BK135.out 1).trans rfl, (blk_cell BK135.out 2).trans rfl⟩ (fun hHeld=>?_);clear hK K;refine norm_ (a':=?_) ?_ ?_;rotate_left
 ·show Act.put _ (some 9) _ = _
  simp only [Act.put, q1_,q2_,q3_,i64_w,i32_w];rfl
 refine on_ 9 (some 14) HT_.out (h:=fun K hK=>?_);refine goes_ Try.func95 (by kernel_rfl) rfl #[.int .i64 a0_0, .int .i64 a1_0] (by rfl) rfl rfl mt_ ?_
 with_reducible refine (cmp_Compare_int.calls a0_0 a1_0 t137 _ A4.out).mono ?_
 rintro e w' ⟨rfl, ⟨nd, rfl⟩⟩;refine ⟨_, rfl, ?_⟩;refine hK.out _ _ ⟨(blk_cell BK134.out 0).trans rfl, (blk_cell BK134.out 1).trans rfl, (blk_cell BK134.out 2).trans rfl, (blk_cell BK135.out 0).trans rfl, (blk_cell BK135.out 1).trans rfl, (blk_cell BK135.out 2).trans rfl⟩ (fun hHeld=>?_);clear hK K;refine norm_ (a':=?_) ?_ ?_;rotate_left
 ·show Act.put _ (some 14) _ = _
  simp only [Act.put, q1_,q2_,q3_,i64_w,i32_w];rfl
 refine on_ 10 (some 15) HT_.out (h:=fun K hK=>?_);refine Kd.R_lit_step (Kd.int .i64) _ 3 ?hg (N:=15) ?hd (xs:=([t136, t137] : List Int)) (inner:=[.int .i64 t136, .int .i64 t137]) (ok:=fun _=>True) (okp:=fun _=>True) ?hr ?hp (fun _ hk=>hk) trivial (Below.refl _ _) (Nat.le_refl _) (by simp) ?_;(case hd=>rfl);(case hg=>rfl);(case hr=>first|(go_simp;done)|(go_simp;rfl));(case hp=>exact (Reps.one (show Kd.M (Kd.int .i64) _ _ _ t136 [.int .i64 t136] from rfl) (Reps.one (show Kd.M (Kd.int .i64) _ _ _ t137 [.int .i64 t137] from rfl) (Reps.none _ _))));intro v139 w9 ho10 hb hg_ hnew_;clear hg_ hnew_;(first|rw [← Ny138.out] at ho10|(simp only [Int.reduceToNat] at ho10;rw [← Ny138.out] at ho10));have HO140:=k0_ (Kd.R_lower ho10 (below_size (hb2_ HB.out GE134.out GE135.out)));replace BK134:=k0_ (blk_below (g:=gb134) (o:=.cells #[.int .i64 a0_0, .int .i64 a0_1, .int .i64 a0_2] 166 (0, 0)) (bq_ BK134.out) hb);replace BK135:=k0_ (blk_below (g:=gb135) (o:=.cells #[.int .i64 a1_0, .int .i64 a1_1, .int .i64 a1_2] 166 (0, 0)) (bq_ BK135.out) hb);replace HB:=k0_ (below_step (hb2_ HB.out GE134.out GE135.out) hb);clear hb ho10;obtain ⟨Ao11, co11, eo11⟩:=Kd.R_slice HO140.out;(first|subst eo11|(injection eo11 with f1_ f2_ f3_;have f4_:=f1_.symm;have f5_:=f3_.symm;clear f1_ f2_ f3_;subst f4_;subst f5_));refine hK.out _ _ ⟨(blk_cell BK134.out 0).trans rfl, (blk_cell BK134.out 1).trans rfl, (blk_cell BK134.out 2).trans rfl, (blk_cell BK135.out 0).trans rfl, (blk_cell BK135.out 1).trans rfl, (blk_cell BK135.out 2).trans rfl⟩ (fun hHeld=>?_);clear hK K;refine norm_ (a':=?_) ?_ ?_;rotate_left
 ·show Act.put _ (some 15) _ = _
  simp only [Act.put, q1_,q2_,q3_,i64_w,i32_w];rfl
 refine on_ 11 (some 16) HT_.out (h:=fun K hK=>?_);refine goes_ Try.func94 (by kernel_rfl) rfl #[.slice Ao11 y138.length co11] (by rfl) rfl rfl mt_ ?_
 with_reducible refine (cmp_Or_int.calls k _ _ y138 t141 _ ?side1 ?side2 A5.out).mono ?_
 (case side1=>repeat (first|exact (Kd.R_reads' HO140.out).2.2|(with_reducible refine Kd.C_alloc ?_ _)|(with_reducible refine Kd.C_drewN ?_ _)|(with_reducible refine Kd.C_drew ?_)))
 (case side2=>exact (Kd.R_reads' HO140.out).2.1)
 rintro e w' ⟨rfl, ⟨nd, rfl⟩⟩;refine ⟨_, rfl, ?_⟩;refine hK.out _ _ ⟨(blk_cell BK134.out 0).trans rfl, (blk_cell BK134.out 1).trans rfl, (blk_cell BK134.out 2).trans rfl, (blk_cell BK135.out 0).trans rfl, (blk_cell BK135.out 1).trans rfl, (blk_cell BK135.out 2).trans rfl⟩ (fun hHeld=>?_);clear hK K;refine norm_ (a':=?_) ?_ ?_;rotate_left
 ·show Act.put _ (some 16) _ = _
  simp only [Act.put, q1_,q2_,q3_,i64_w,i32_w];rfl
 refine pu_ 12 4 HT_.out (h:=?_);refine done_ (done_of HT_.out (by kernel_rfl)) ?_
 try go_wp2
 go_ret
 exact ⟨er_, hb2_ HB.out GE134.out GE135.out⟩

end Go.Proofs.Ytefkdkppipdceaa.PCommitServes
