/- Contracts of functions that AuctionClears reaches, a text of this session's own. -/
import Derived.Test.YtdgjelbkogfedaaBox2
import Derived.Test.YtdgjelbkogfedaaHAuctionClearsy0
namespace Go.Proofs.Ytdgjelbkogfedaa.PAuctionClears
open Go.RowKit Go.Proofs.YtdgjelbkogfedaaW.PrintWords Go.Proofs.YtdgjelbkogfedaaW.PrintLast Go.Proofs.YtdgjelbkogfedaaW.PrintMore
attribute [local go_sem] max2_int min2_int max_two min_two max_three min_three max_four min_four   -- for this text's walks alone
set_option linter.unusedVariables false
set_option linter.unusedSimpArgs false

/-! ### gridhallref3_best: function 68 -/
mutual
def gridhallref3_best.l0 : Nat → List (S71) → List Int → Bool → Int → List (S71) → Int → Int → Option (Int)
 | 0, _, _, _, _, _, _, _ => none
 | k + 1, x0, x1, x2, x7, x10, x11, x12 => if x12 < x11 then (if 0 ≤ x12 then (if x12 < (x10.length : Int) then (if (((rd_T71 x10 x12).f1) != x2) = true then (gridhallref3_best.j1 k x0 x1 x2 x7 x12 x10 x11 x12 true ((rd_T71 x10 x12).f0) ((rd_T71 x10 x12).f1) ((rd_T71 x10 x12).f2) ((rd_T71 x10 x12).f3)) else (if x12 < (x1.length : Int) then (gridhallref3_best.j1 k x0 x1 x2 x7 x12 x10 x11 x12 ((rd x1 x12) == ((rd_T71 x10 x12).f2)) ((rd_T71 x10 x12).f0) ((rd_T71 x10 x12).f1) ((rd_T71 x10 x12).f2) ((rd_T71 x10 x12).f3)) else (none))) else (none)) else (none)) else (some x7)
def gridhallref3_best.j1 : Nat → List (S71) → List Int → Bool → Int → Int → List (S71) → Int → Int → Bool → ByteArray → Bool → Int → Int → Option (Int)
 | 0, _, _, _, _, _, _, _, _, _, _, _, _, _ => none
 | k + 1, x0, x1, x2, x7, x8, x10, x11, x12, x29, x206000, x206001, x206002, x206003 => if x29 = true then (gridhallref3_best.l0 k x0 x1 x2 x7 x10 x11 (wrap64 (x12 + 1))) else (if x7 < 0 then (gridhallref3_best.l0 k x0 x1 x2 x8 x10 x11 (wrap64 (x12 + 1))) else (if x2 = true then (if 0 ≤ x7 then (if x7 < (x0.length : Int) then (if x206003 > ((rd_T71 x0 x7).f3) then (gridhallref3_best.l0 k x0 x1 x2 x8 x10 x11 (wrap64 (x12 + 1))) else (gridhallref3_best.l0 k x0 x1 x2 x7 x10 x11 (wrap64 (x12 + 1)))) else (none)) else (none)) else (if 0 ≤ x7 then (if x7 < (x0.length : Int) then (if x206003 < ((rd_T71 x0 x7).f3) then (gridhallref3_best.l0 k x0 x1 x2 x8 x10 x11 (wrap64 (x12 + 1))) else (gridhallref3_best.l0 k x0 x1 x2 x7 x10 x11 (wrap64 (x12 + 1)))) else (none)) else (none))))
end
def gridhallref3_best.f (k : Nat) (l0 : List (S71)) (l1 : List Int) (a2 : Bool) : Option (Int) := gridhallref3_best.l0 k l0 l1 a2 (-1) l0 (l0.length : Int) 0
theorem gridhallref3_best.mono_l : ∀ k, (∀ y0 y1 y2 y3 y4 y5 y6, LeO (gridhallref3_best.l0 k y0 y1 y2 y3 y4 y5 y6) (gridhallref3_best.l0 (k + 1) y0 y1 y2 y3 y4 y5 y6)) ∧ (∀ y0 y1 y2 y3 y4 y5 y6 y7 y8 y9 y10 y11 y12, LeO (gridhallref3_best.j1 k y0 y1 y2 y3 y4 y5 y6 y7 y8 y9 y10 y11 y12) (gridhallref3_best.j1 (k + 1) y0 y1 y2 y3 y4 y5 y6 y7 y8 y9 y10 y11 y12))
 | 0 => ⟨fun _ _ _ _ _ _ _ r h => by simp [gridhallref3_best.l0] at h, fun _ _ _ _ _ _ _ _ _ _ _ _ _ r h => by simp [gridhallref3_best.j1] at h⟩
 | k + 1 => by
  obtain ⟨ih0, ih1⟩:=gridhallref3_best.mono_l k
  refine ⟨?_, ?_⟩
  ·intro y0 y1 y2 y3 y4 y5 y6
   unfold gridhallref3_best.l0
   repeat' first|(with_reducible first|exact ih0 _ _ _ _ _ _ _|exact ih1 _ _ _ _ _ _ _ _ _ _ _ _ _|exact LeO.refl _|exact LeO.none _|refine LeO.ite ?_ ?_|refine LeO.bind ?_ (fun _=>?_))|exact ih0 _ _ _ _ _ _ _|exact ih1 _ _ _ _ _ _ _ _ _ _ _ _ _|exact LeO.none _|refine LeO.ite ?_ ?_|refine LeO.bind ?_ (fun _=>?_)
  ·intro y0 y1 y2 y3 y4 y5 y6 y7 y8 y9 y10 y11 y12
   unfold gridhallref3_best.j1
   repeat' first|(with_reducible first|exact ih0 _ _ _ _ _ _ _|exact ih1 _ _ _ _ _ _ _ _ _ _ _ _ _|exact LeO.refl _|exact LeO.none _|refine LeO.ite ?_ ?_|refine LeO.bind ?_ (fun _=>?_))|exact ih0 _ _ _ _ _ _ _|exact ih1 _ _ _ _ _ _ _ _ _ _ _ _ _|exact LeO.none _|refine LeO.ite ?_ ?_|refine LeO.bind ?_ (fun _=>?_)
theorem gridhallref3_best.mono : ∀ a0 a1 a2 k, LeO (gridhallref3_best.f k a0 a1 a2) (gridhallref3_best.f (k + 1) a0 a1 a2) := by
 intro a0 a1 a2 k
 obtain ⟨ih0, ih1⟩:=gridhallref3_best.mono_l k
 unfold gridhallref3_best.f
 repeat' first|(with_reducible first|exact ih0 _ _ _ _ _ _ _|exact ih1 _ _ _ _ _ _ _ _ _ _ _ _ _|exact LeO.refl _|exact LeO.none _|refine LeO.ite ?_ ?_|refine LeO.bind ?_ (fun _=>?_))|exact ih0 _ _ _ _ _ _ _|exact ih1 _ _ _ _ _ _ _ _ _ _ _ _ _|exact LeO.none _|refine LeO.ite ?_ ?_|refine LeO.bind ?_ (fun _=>?_)
set_option maxHeartbeats 8000000 in
set_option maxRecDepth 100000 in
theorem gridhallref3_best.calls (k : Nat) (A0 : Option Addr) (c0 : Nat) (l0 : List (S71)) (A1 : Option Addr) (c1 : Nat) (l1 : List Int) (a2 : Bool) (r : Int) (w : World) (hr0 : Kd.C k71 w A0 l0.length l0) (hc0 : l0.length ≤ c0) (hr1 : Kd.C (Kd.int .i64) w A1 l1.length l1) (hc1 : l1.length ≤ c1) (h : gridhallref3_best.f k l0 l1 a2 = some r) :
  Calls Try.prog 68 #[.slice A0 l0.length c0, .slice A1 l1.length c1, .bool a2] w fun e w' => e = .returned (.int .i64 r) ∧ Below w.heap.size w w' := by
 have hu71:=Try.underlying71;have HR0:=k0_ hr0;have HC0:=k0_ hc0;clear hr0 hc0;have HR1:=k0_ hr1;have HC1:=k0_ hc1;clear hr1 hc1;have HB:=k0_ (Below.refl w.heap.size w);have H : (gridhallref3_best.l0 k l0 l1 a2 (-1) l0 (l0.length : Int) 0) = some r:=h;clear h;have H':=k0_ H;clear H
 go_enter Try.func68, Try.ntmps68
 go_wp2
 repeat (go_quiet (fail);try go_wp2)
 (try simp only [Act.put, q1_,q3_,q2_])
 go_loopg [7, 12] k (fun kq v7 v12 w'=>∃ (x7_1 : Int) (x12_1 : Int), v7 = .int .i64 x7_1∧v12 = .int .i64 x12_1∧Aside0 (gridhallref3_best.l0 kq l0 l1 a2 x7_1 l0 (l0.length : Int) x12_1 = some r)∧Aside0 (kq ≤ k)∧Aside0 (Below w.heap.size w w'))
 case atStart=>exact ⟨((-1)),(0),rs_,rs_, H', ⟨Nat.le_refl _⟩,⟨hb0_ HB.out⟩⟩
 clear H';(try clear c1);(try clear p2);obtain ⟨x7_1, x12_1, rfl, rfl, HA, HK1, HB⟩:=hrel;obtain _|k1:=gk
 ·exact absurd HA.out (by simp [gridhallref3_best.l0])
 have H:=HA.out;clear HA;simp only [gridhallref3_best.l0] at H
 by_cases c4 : x12_1 < (l0.length : Int)
 ·rw [if_pos c4] at H
  have c4b0:=decide_eq_true c4;clear c4
  obtain ⟨c5,H⟩:=gi_ H;have c5b0:=decide_eq_true c5;clear c5
  obtain ⟨c6,H⟩:=gi_ H;have c6b0:=decide_eq_true c6;clear c6;have HC7:=k0_ H;clear H;have p204 : 0 ≤ (x12_1 : Int):=of_decide_eq_true as_;have q204 : x12_1 < (l0.length : Int):=of_decide_eq_true as_;obtain ⟨ad204, e204, hx204_0, hx204_1, hx204_2, hx204_3⟩:=at_T71 HR0.out x12_1 p204 q204;cases e204;replace hx204_0:=bt_ HB.out hx204_0;replace hx204_1:=bt_ HB.out hx204_1;replace hx204_2:=bt_ HB.out hx204_2;replace hx204_3:=bt_ HB.out hx204_3;replace p204:=eq_true p204;replace q204:=eq_true q204
  go_upto_region 5 with (first|((with_reducible refine gate_dst (N:=9) rfl ?_);refine box_event ?hg (N:=9) ?hd (cs:=#[.string (⟨#[]⟩ : ByteArray), .bool false, .int .i64 0, .int .i64 0]) (t:=71) ?hr ?_;(case hd=>rfl);(case hg=>rfl);(case hr=>first|(go_simp;done)|(go_simp;rfl));intro gb205 hg w8 hbox hb;have BK205:=k0_ (hbox);have GW205:=k0_ ((by rw [hg];exact (below_size (hb0_ HB.out)) : w.heap.size ≤ gb205));have GE205:=k0_ ((by rw [hg];exact (below_size (hb0_ HB.out)) : w.heap.size ≤ gb205));replace HB:=k0_ (below_step (hb0_ HB.out) hb);clear hb hbox hg;obtain ⟨hcz9_0,hcz9_1,hcz9_2,hcz9_3⟩:=bc4_ BK205.out;obtain ⟨hfz9_0,hfz9_1,hfz9_2,hfz9_3⟩:=bf4_ BK205.out))
  repeat (go_quiet (first|((with_reducible refine gate_dst (N:=9) rfl ?_);refine box_event ?hg (N:=9) ?hd (cs:=#[.string (⟨#[]⟩ : ByteArray), .bool false, .int .i64 0, .int .i64 0]) (t:=71) ?hr ?_;(case hd=>rfl);(case hg=>rfl);(case hr=>first|(go_simp;done)|(go_simp;rfl));intro gb205 hg w8 hbox hb;have BK205:=k0_ (hbox);have GW205:=k0_ ((by rw [hg];exact (below_size (hb0_ HB.out)) : w.heap.size ≤ gb205));have GE205:=k0_ ((by rw [hg];exact (below_size (hb0_ HB.out)) : w.heap.size ≤ gb205));replace HB:=k0_ (below_step (hb0_ HB.out) hb);clear hb hbox hg;obtain ⟨hcz9_0,hcz9_1,hcz9_2,hcz9_3⟩:=bc4_ BK205.out;obtain ⟨hfz9_0,hfz9_1,hfz9_2,hfz9_3⟩:=bf4_ BK205.out));go_upto_region 5 with (first|((with_reducible refine gate_dst (N:=9) rfl ?_);refine box_event ?hg (N:=9) ?hd (cs:=#[.string (⟨#[]⟩ : ByteArray), .bool false, .int .i64 0, .int .i64 0]) (t:=71) ?hr ?_;(case hd=>rfl);(case hg=>rfl);(case hr=>first|(go_simp;done)|(go_simp;rfl));intro gb205 hg w8 hbox hb;have BK205:=k0_ (hbox);have GW205:=k0_ ((by rw [hg];exact (below_size (hb0_ HB.out)) : w.heap.size ≤ gb205));have GE205:=k0_ ((by rw [hg];exact (below_size (hb0_ HB.out)) : w.heap.size ≤ gb205));replace HB:=k0_ (below_step (hb0_ HB.out) hb);clear hb hbox hg;obtain ⟨hcz9_0,hcz9_1,hcz9_2,hcz9_3⟩:=bc4_ BK205.out;obtain ⟨hfz9_0,hfz9_1,hfz9_2,hfz9_3⟩:=bf4_ BK205.out)))
  (try simp only [Act.put, q1_,q2_,q3_])
  go_cut [29] (fun v29 wc=>∃ (kq : Nat) (x29_6 : Bool), v29 = .bool x29_6∧Aside0 (gridhallref3_best.j1 kq l0 l1 a2 x7_1 x12_1 l0 (l0.length : Int) x12_1 x29_6 ((rd_T71 l0 x12_1).f0) ((rd_T71 l0 x12_1).f1) ((rd_T71 l0 x12_1).f2) ((rd_T71 l0 x12_1).f3) = some r)∧Aside0 (kq ≤ k1)∧Aside0 (wc.heap[gb205]? = some (.cells #[.string ((rd_T71 l0 x12_1).f0), .bool ((rd_T71 l0 x12_1).f1), .int .i64 ((rd_T71 l0 x12_1).f2), .int .i64 ((rd_T71 l0 x12_1).f3)] 71 (0, 0)))∧Aside0 (Below w.heap.size w wc))
  case first =>
   have H:=HC7.out;clear HC7
   by_cases c10 : (((rd_T71 l0 x12_1).f1) != a2) = true
   rw [if_pos c10] at H;have c10b0 : (((rd_T71 l0 x12_1).f1) != a2) = true:=c10;(try (have c10b1 : decide (((rd_T71 l0 x12_1).f1) = a2) = false:=by simpa using c10));(try (have c10b2 : (((rd_T71 l0 x12_1).f1) == a2) = false:=by simpa using c10));(try (have c10b3 : ¬ (((rd_T71 l0 x12_1).f1) = a2):=by simpa using c10));clear c10;(first|rw [c10b0]|(simp only [i64_w, i32_w];rw [c10b0])|skip);have H':=k0_ H;clear H;rotate_left;rw [if_neg c10] at H;have c10b0 : (((rd_T71 l0 x12_1).f1) != a2) = false:=by simpa using c10
   (try (have c10b1 : decide (((rd_T71 l0 x12_1).f1) = a2) = true:=by simpa using c10));(try (have c10b2 : (((rd_T71 l0 x12_1).f1) == a2) = true:=by simpa using c10));clear c10;(first|rw [c10b0]|(simp only [i64_w, i32_w];rw [c10b0])|skip)
   focus
    by_cases c12 : x12_1 < (l1.length : Int)
    rw [if_pos c12] at H;have c12b0:=decide_eq_true c12;clear c12;have H':=k0_ H;clear H;rotate_left;rw [if_neg c12] at H
    exact absurd H (by simp)
   rotate_left
   all_goals
    obtain ⟨hcz11_0,hcz11_1,hcz11_2,hcz11_3⟩:=bc4_ BK205.out;obtain ⟨hfz11_0,hfz11_1,hfz11_2,hfz11_3⟩:=bf4_ BK205.out
   ·go_wp2
    repeat (go_quiet (fail);try go_wp2)
    go_meet
    case rel=>exact ⟨_, (true),rs_, H', ⟨by have:=HK1.out;first|omega|exact Nat.le_refl _⟩,⟨by (with_reducible repeat (first|refine blk_drewN ?_ _|refine blk_drew ?_|refine blk_alloc ?_ _));refine blk_put (cs:=#[.string ((rd_T71 l0 x12_1).f0), .bool ((rd_T71 l0 x12_1).f1), .int .i64 ((rd_T71 l0 x12_1).f2), .int .i64 0]) ?_ 3 _ rfl;(with_reducible repeat (first|refine blk_drewN ?_ _|refine blk_drew ?_|refine blk_alloc ?_ _));refine blk_put (cs:=#[.string ((rd_T71 l0 x12_1).f0), .bool ((rd_T71 l0 x12_1).f1), .int .i64 0, .int .i64 0]) ?_ 2 _ rfl;(with_reducible repeat (first|refine blk_drewN ?_ _|refine blk_drew ?_|refine blk_alloc ?_ _));refine blk_put (cs:=#[.string ((rd_T71 l0 x12_1).f0), .bool false, .int .i64 0, .int .i64 0]) ?_ 1 _ rfl;(with_reducible repeat (first|refine blk_drewN ?_ _|refine blk_drew ?_|refine blk_alloc ?_ _));refine blk_put (cs:=#[.string (⟨#[]⟩ : ByteArray), .bool false, .int .i64 0, .int .i64 0]) ?_ 0 _ rfl;(with_reducible repeat (first|refine blk_drewN ?_ _|refine blk_drew ?_|refine blk_alloc ?_ _));exact BK205.out⟩,⟨hb1_ HB.out GE205.out⟩⟩
   ·have p206 : 0 ≤ (x12_1 : Int):=of_decide_eq_true as_
    have q206 : x12_1 < (l1.length : Int):=of_decide_eq_true as_;obtain ⟨ad206, e206, hx206_0⟩:=Kd.at_int HR1.out x12_1 p206 q206;cases e206;have hn206_0 : ad206.block ≠ gb205:=Nat.ne_of_lt (Nat.lt_of_lt_of_le (by have:=World.block_lt_of_cell? _ _ hx206_0;first|rwa [add_block] at this|exact this) GW205.out);have hn206_1 : ad206.block ≠ gb205:=Nat.ne_of_lt (Nat.lt_of_lt_of_le (by have:=World.block_lt_of_cell? _ _ hx206_0;first|rwa [add_block] at this|exact this) GW205.out);have hn206_2 : ad206.block ≠ gb205:=Nat.ne_of_lt (Nat.lt_of_lt_of_le (by have:=World.block_lt_of_cell? _ _ hx206_0;first|rwa [add_block] at this|exact this) GW205.out);have hn206_3 : ad206.block ≠ gb205:=Nat.ne_of_lt (Nat.lt_of_lt_of_le (by have:=World.block_lt_of_cell? _ _ hx206_0;first|rwa [add_block] at this|exact this) GW205.out);replace hx206_0:=bt_ HB.out hx206_0;replace hx206_0:=(cell_far (p:=⟨gb205, 0, none⟩) (by first|(rw [add_block];exact hn206_0)|(show (Addr.add _ _).block ≠ _;rw [add_block];exact hn206_0)|exact hn206_0) (.string ((rd_T71 l0 x12_1).f0))).trans hx206_0;replace hx206_0:=(cell_far (p:=⟨gb205, 1, none⟩) (by first|(rw [add_block];exact hn206_1)|(show (Addr.add _ _).block ≠ _;rw [add_block];exact hn206_1)|exact hn206_1) (.bool ((rd_T71 l0 x12_1).f1))).trans hx206_0;replace hx206_0:=(cell_far (p:=⟨gb205, 2, none⟩) (by first|(rw [add_block];exact hn206_2)|(show (Addr.add _ _).block ≠ _;rw [add_block];exact hn206_2)|exact hn206_2) (.int .i64 ((rd_T71 l0 x12_1).f2))).trans hx206_0;replace hx206_0:=(cell_far (p:=⟨gb205, 3, none⟩) (by first|(rw [add_block];exact hn206_3)|(show (Addr.add _ _).block ≠ _;rw [add_block];exact hn206_3)|exact hn206_3) (.int .i64 ((rd_T71 l0 x12_1).f3))).trans hx206_0;(try have hy206_0:=fun (n_ : Nat)=>(show ((((((w8.drewN n_).setCell ⟨gb205, 0, none⟩ (.string ((rd_T71 l0 x12_1).f0))).setCell ⟨gb205, 1, none⟩ (.bool ((rd_T71 l0 x12_1).f1))).setCell ⟨gb205, 2, none⟩ (.int .i64 ((rd_T71 l0 x12_1).f2))).setCell ⟨gb205, 3, none⟩ (.int .i64 ((rd_T71 l0 x12_1).f3)))).cell? _ = some _ from hx206_0));clear hn206_0;clear hn206_1;clear hn206_2;clear hn206_3;replace p206:=eq_true p206;replace q206:=eq_true q206;go_wp2
    repeat (go_quiet (fail);try go_wp2)
    go_meet
    case rel=>exact ⟨_, (((rd l1 x12_1) == ((rd_T71 l0 x12_1).f2))),rs_, H', ⟨by have:=HK1.out;first|omega|exact Nat.le_refl _⟩,⟨by (with_reducible repeat (first|refine blk_drewN ?_ _|refine blk_drew ?_|refine blk_alloc ?_ _));refine blk_put (cs:=#[.string ((rd_T71 l0 x12_1).f0), .bool ((rd_T71 l0 x12_1).f1), .int .i64 ((rd_T71 l0 x12_1).f2), .int .i64 0]) ?_ 3 _ rfl;(with_reducible repeat (first|refine blk_drewN ?_ _|refine blk_drew ?_|refine blk_alloc ?_ _));refine blk_put (cs:=#[.string ((rd_T71 l0 x12_1).f0), .bool ((rd_T71 l0 x12_1).f1), .int .i64 0, .int .i64 0]) ?_ 2 _ rfl;(with_reducible repeat (first|refine blk_drewN ?_ _|refine blk_drew ?_|refine blk_alloc ?_ _));refine blk_put (cs:=#[.string ((rd_T71 l0 x12_1).f0), .bool false, .int .i64 0, .int .i64 0]) ?_ 1 _ rfl;(with_reducible repeat (first|refine blk_drewN ?_ _|refine blk_drew ?_|refine blk_alloc ?_ _));refine blk_put (cs:=#[.string (⟨#[]⟩ : ByteArray), .bool false, .int .i64 0, .int .i64 0]) ?_ 0 _ rfl;(with_reducible repeat (first|refine blk_drewN ?_ _|refine blk_drew ?_|refine blk_alloc ?_ _));exact BK205.out⟩,⟨hb1_ HB.out GE205.out⟩⟩
  clear HC7;(try clear c1);(try clear p2);(try clear q2);(try clear hx2);(try clear c4);(try clear c4b0);(try clear c5);(try clear c5b0);(try clear c6);(try clear c6b0);(try clear c10);(try clear c10b0);(try clear c10b1);(try clear c10b2);(try clear c12);(try clear c12b0);(try clear hcz11_0);(try clear hcz11_1);(try clear hcz11_2);(try clear hcz11_3);(try clear hcz13_0);(try clear hcz13_1);(try clear hcz13_2);(try clear hcz13_3);(try clear hcz9_0);(try clear hcz9_1);(try clear hcz9_2);(try clear hcz9_3);(try clear hfz11_0);(try clear hfz11_1);(try clear hfz11_2);(try clear hfz11_3);(try clear hfz13_0);(try clear hfz13_1);(try clear hfz13_2);(try clear hfz13_3);(try clear hfz9_0);(try clear hfz9_1);(try clear hfz9_2);(try clear hfz9_3);(try clear hx204_0);(try clear hx204_1);(try clear hx204_2);(try clear hx204_3);(try clear hx206_0);(try clear p2);(try clear p204);(try clear p206);(try clear q204);(try clear q206);obtain ⟨kq, x29_6, rfl, HA, HJ6, BK205, HB⟩:=hcut;obtain _|kj6:=kq
  ·exact absurd HA.out (by simp [gridhallref3_best.j1])
  have H:=HA.out;clear HA;simp only [gridhallref3_best.j1] at H
  by_cases c14 : x29_6 = true
  ·subst c14
   have H1 : (gridhallref3_best.l0 kj6 l0 l1 a2 x7_1 l0 (l0.length : Int) (wrap64 (x12_1 + 1))) = some r:=by rw [if_pos rfl] at H;exact H
   clear H;have H:=H1;clear H1;have H':=k0_ H;clear H;go_wp2
   repeat (go_quiet (fail);try go_wp2)
   go_roundg kj6
   case measure=>have:=HK1.out;have:=HJ6.out;omega
   case rel=>exact ⟨(x7_1),(wrap64 (x12_1 + 1)),rs_,rs_, H', ⟨by have:=HK1.out;have:=HJ6.out;omega⟩,⟨hb1_ HB.out GE205.out⟩⟩
  ·replace c14:=Bool.eq_false_iff.mpr c14
   subst c14;have H1 : (if x7_1 < 0 then (gridhallref3_best.l0 kj6 l0 l1 a2 x12_1 l0 (l0.length : Int) (wrap64 (x12_1 + 1))) else (if a2 = true then (if 0 ≤ x7_1 then (if x7_1 < (l0.length : Int) then (if ((rd_T71 l0 x12_1).f3) > ((rd_T71 l0 x7_1).f3) then (gridhallref3_best.l0 kj6 l0 l1 a2 x12_1 l0 (l0.length : Int) (wrap64 (x12_1 + 1))) else (gridhallref3_best.l0 kj6 l0 l1 a2 x7_1 l0 (l0.length : Int) (wrap64 (x12_1 + 1)))) else (none)) else (none)) else (if 0 ≤ x7_1 then (if x7_1 < (l0.length : Int) then (if ((rd_T71 l0 x12_1).f3) < ((rd_T71 l0 x7_1).f3) then (gridhallref3_best.l0 kj6 l0 l1 a2 x12_1 l0 (l0.length : Int) (wrap64 (x12_1 + 1))) else (gridhallref3_best.l0 kj6 l0 l1 a2 x7_1 l0 (l0.length : Int) (wrap64 (x12_1 + 1)))) else (none)) else (none)))) = some r:=by rw [if_neg (show ¬ (false = true) by decide)] at H;exact H
   clear H;have H:=H1;clear H1
   by_cases c15 : x7_1 < 0
   ·rw [if_pos c15] at H
    have c15b0:=decide_eq_true c15;clear c15;have H':=k0_ H;clear H;go_wp2
    repeat (go_quiet (fail);try go_wp2)
    go_roundg kj6
    case measure=>have:=HK1.out;have:=HJ6.out;omega
    case rel=>exact ⟨(x12_1),(wrap64 (x12_1 + 1)),rs_,rs_, H', ⟨by have:=HK1.out;have:=HJ6.out;omega⟩,⟨hb1_ HB.out GE205.out⟩⟩
   ·rw [if_neg c15] at H
    have c15b0:=decide_eq_false c15;clear c15
    by_cases c16 : a2 = true
    ·subst c16
     have H1 : (if 0 ≤ x7_1 then (if x7_1 < (l0.length : Int) then (if ((rd_T71 l0 x12_1).f3) > ((rd_T71 l0 x7_1).f3) then (gridhallref3_best.l0 kj6 l0 l1 true x12_1 l0 (l0.length : Int) (wrap64 (x12_1 + 1))) else (gridhallref3_best.l0 kj6 l0 l1 true x7_1 l0 (l0.length : Int) (wrap64 (x12_1 + 1)))) else (none)) else (none)) = some r:=by rw [if_pos rfl] at H;exact H
     clear H;have H:=H1;clear H1
     by_cases c17 : 0 ≤ x7_1
     rw [if_pos c17] at H;have c17b0:=decide_eq_true c17;clear c17
     focus
      by_cases c18 : x7_1 < (l0.length : Int)
      rw [if_pos c18] at H;have c18b0:=decide_eq_true c18;clear c18
      focus
       by_cases c19 : ((rd_T71 l0 x12_1).f3) > ((rd_T71 l0 x7_1).f3)
       rw [if_pos c19] at H;have c19b0:=decide_eq_true c19;clear c19;have H':=k0_ H;clear H;rotate_left;rw [if_neg c19] at H;have c19b0:=decide_eq_false c19;clear c19;have H':=k0_ H;clear H;rotate_left
      rotate_left 2;rw [if_neg c18] at H
      exact absurd H (by simp)
     rotate_left 2;rw [if_neg c17] at H
     exact absurd H (by simp)
     all_goals
      obtain ⟨hcz20_0,hcz20_1,hcz20_2,hcz20_3⟩:=bc4_ BK205.out;obtain ⟨hfz20_0,hfz20_1,hfz20_2,hfz20_3⟩:=bf4_ BK205.out;have p207 : 0 ≤ (x7_1 : Int):=of_decide_eq_true as_;have q207 : x7_1 < (l0.length : Int):=of_decide_eq_true as_;obtain ⟨ad207, e207, hx207_0, hx207_1, hx207_2, hx207_3⟩:=at_T71 HR0.out x7_1 p207 q207;obtain rfl : ad204 = ad207:=(by injection e207);replace hx207_0:=bt_ HB.out hx207_0;replace hx207_1:=bt_ HB.out hx207_1;replace hx207_2:=bt_ HB.out hx207_2;replace hx207_3:=bt_ HB.out hx207_3;replace p207:=eq_true p207;replace q207:=eq_true q207;go_wp2
      repeat (go_quiet (fail);try go_wp2)
     ·go_roundg kj6
      case measure=>have:=HK1.out;have:=HJ6.out;omega
      case rel=>exact ⟨(x12_1),(wrap64 (x12_1 + 1)),rs_,rs_, H', ⟨by have:=HK1.out;have:=HJ6.out;omega⟩,⟨hb1_ HB.out GE205.out⟩⟩
     ·go_roundg kj6
      case measure=>have:=HK1.out;have:=HJ6.out;omega
      case rel=>exact ⟨(x7_1),(wrap64 (x12_1 + 1)),rs_,rs_, H', ⟨by have:=HK1.out;have:=HJ6.out;omega⟩,⟨hb1_ HB.out GE205.out⟩⟩
    ·replace c16:=Bool.eq_false_iff.mpr c16
     subst c16;have H1 : (if 0 ≤ x7_1 then (if x7_1 < (l0.length : Int) then (if ((rd_T71 l0 x12_1).f3) < ((rd_T71 l0 x7_1).f3) then (gridhallref3_best.l0 kj6 l0 l1 false x12_1 l0 (l0.length : Int) (wrap64 (x12_1 + 1))) else (gridhallref3_best.l0 kj6 l0 l1 false x7_1 l0 (l0.length : Int) (wrap64 (x12_1 + 1)))) else (none)) else (none)) = some r:=by rw [if_neg (show ¬ (false = true) by decide)] at H;exact H
     clear H;have H:=H1;clear H1
     by_cases c22 : 0 ≤ x7_1
     rw [if_pos c22] at H;have c22b0:=decide_eq_true c22;clear c22
     focus
      by_cases c23 : x7_1 < (l0.length : Int)
      rw [if_pos c23] at H;have c23b0:=decide_eq_true c23;clear c23
      focus
       by_cases c24 : ((rd_T71 l0 x12_1).f3) < ((rd_T71 l0 x7_1).f3)
       rw [if_pos c24] at H;have c24b0:=decide_eq_true c24;clear c24;have H':=k0_ H;clear H;rotate_left;rw [if_neg c24] at H;have c24b0:=decide_eq_false c24;clear c24;have H':=k0_ H;clear H;rotate_left
      rotate_left 2;rw [if_neg c23] at H
      exact absurd H (by simp)
     rotate_left 2;rw [if_neg c22] at H
     exact absurd H (by simp)
     all_goals
      obtain ⟨hcz25_0,hcz25_1,hcz25_2,hcz25_3⟩:=bc4_ BK205.out;obtain ⟨hfz25_0,hfz25_1,hfz25_2,hfz25_3⟩:=bf4_ BK205.out;have p208 : 0 ≤ (x7_1 : Int):=of_decide_eq_true as_;have q208 : x7_1 < (l0.length : Int):=of_decide_eq_true as_;obtain ⟨ad208, e208, hx208_0, hx208_1, hx208_2, hx208_3⟩:=at_T71 HR0.out x7_1 p208 q208;obtain rfl : ad204 = ad208:=(by injection e208);replace hx208_0:=bt_ HB.out hx208_0;replace hx208_1:=bt_ HB.out hx208_1;replace hx208_2:=bt_ HB.out hx208_2;replace hx208_3:=bt_ HB.out hx208_3;replace p208:=eq_true p208;replace q208:=eq_true q208;go_wp2
      repeat (go_quiet (fail);try go_wp2)
     ·go_roundg kj6
      case measure=>have:=HK1.out;have:=HJ6.out;omega
      case rel=>exact ⟨(x12_1),(wrap64 (x12_1 + 1)),rs_,rs_, H', ⟨by have:=HK1.out;have:=HJ6.out;omega⟩,⟨hb1_ HB.out GE205.out⟩⟩
     ·go_roundg kj6
      case measure=>have:=HK1.out;have:=HJ6.out;omega
      case rel=>exact ⟨(x7_1),(wrap64 (x12_1 + 1)),rs_,rs_, H', ⟨by have:=HK1.out;have:=HJ6.out;omega⟩,⟨hb1_ HB.out GE205.out⟩⟩
 ·rw [if_neg c4] at H
  have c4b0:=decide_eq_false c4;clear c4;obtain rfl:=Option.some.inj H;go_wp2
  repeat (go_quiet (fail);try go_wp2)
  go_ret
  exact ⟨er_, hb0_ HB.out⟩

end Go.Proofs.Ytdgjelbkogfedaa.PAuctionClears
