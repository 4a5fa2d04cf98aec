import Derived.Test.YtdgjelbkogfedaaHConvexMovesy0
import Derived.Test.YtdgjelbkogfedaaHConvexMovesy2
import Derived.Test.YtdgjelbkogfedaaHConvexMovesy3
import Derived.Test.YtdgjelbkogfedaaHConvexMovesy8
import Derived.Test.YtdgjelbkogfedaaHConvexMovesy9
namespace Go.Proofs.Ytdgjelbkogfedaa.PConvexMoves
open Go.RowKit Go.Proofs.YtdgjelbkogfedaaW.PrintWords Go.Proofs.YtdgjelbkogfedaaW.PrintLast Go.Proofs.YtdgjelbkogfedaaW.PrintMore
attribute [local go_sem] max2_int min2_int max_two min_two max_three min_three max_four min_four
set_option linter.unusedVariables false
set_option linter.unusedSimpArgs false
def convexpl_Move.j0 : Nat → Int → Int → Bool → Int → Int → List (S88) → Option (Int × Int × (List (S88)) × Int)
|0, _, _, _, _, _, _ => none
|k + 1, x1, x2, x28, x169000, x169001, x169002 => if x28 = true then (some (0, 0, ([] : List (S88)), 4)) else ((api_ConvexPiece_76.f x169002).bind fun t171 => ((convexpl_made.f k (wrap64 (x169000 + x1)) (wrap64 (x169001 + x2)) t171).bind fun bt174 => (some (bt174.1, bt174.2.1, bt174.2.2.1, bt174.2.2.2.1))))
def convexpl_Move.f (k : Nat) (a0_0 : Int) (a0_1 : Int) (l0_2 : List (S88)) (a1 : Int) (a2 : Int) : Option (Int × Int × (List (S88)) × Int) := (convexpl_Check.f k a0_0 a0_1 l0_2).bind fun t170 => (if t170 = 0 then (if a1 < (-2000000) then (convexpl_Move.j0 k a1 a2 true a0_0 a0_1 l0_2) else (if a1 > 2000000 then (convexpl_Move.j0 k a1 a2 true a0_0 a0_1 l0_2) else (if a2 < (-1000000000000000) then (convexpl_Move.j0 k a1 a2 true a0_0 a0_1 l0_2) else (convexpl_Move.j0 k a1 a2 (decide (a2 > 1000000000000000)) a0_0 a0_1 l0_2)))) else (some (0, 0, ([] : List (S88)), t170)))
theorem convexpl_Move.mono_l : ∀ k, (∀ y0 y1 y2 y3 y4 y5, LeO (convexpl_Move.j0 k y0 y1 y2 y3 y4 y5) (convexpl_Move.j0 (k + 1) y0 y1 y2 y3 y4 y5))
|0 => fun _ _ _ _ _ _ r h => by simp [convexpl_Move.j0] at h
|k + 1 => by
  have ih0:=convexpl_Move.mono_l k
  ·intro y0 y1 y2 y3 y4 y5
   unfold convexpl_Move.j0
   repeat' first
  |(with_reducible exact ih0 _ _ _ _ _ _)
  |(with_reducible exact convexpl_Check.mono _ _ _ _)
  |(with_reducible exact convexpl_made.mono _ _ _ _)
  |(with_reducible exact LeO.refl _)
  |(with_reducible exact LeO.none _)
  |(with_reducible refine LeO.ite ?_ ?_)
  |(with_reducible refine LeO.bind ?_ (fun _ => ?_))
  |exact ih0 _ _ _ _ _ _
  |exact convexpl_Check.mono _ _ _ _
  |exact convexpl_made.mono _ _ _ _
  |exact LeO.none _
  |refine LeO.ite ?_ ?_
  |refine LeO.bind ?_ (fun _ => ?_)
theorem convexpl_Move.mono : ∀ a0 a1 a2 a3 a4 k, LeO (convexpl_Move.f k a0 a1 a2 a3 a4) (convexpl_Move.f (k + 1) a0 a1 a2 a3 a4) := by
 intro a0 a1 a2 a3 a4 k
 have ih0:=convexpl_Move.mono_l k
 unfold convexpl_Move.f
 repeat' first
  |(with_reducible exact ih0 _ _ _ _ _ _)
  |(with_reducible exact convexpl_Check.mono _ _ _ _)
  |(with_reducible exact convexpl_made.mono _ _ _ _)
  |(with_reducible exact LeO.refl _)
  |(with_reducible exact LeO.none _)
  |(with_reducible refine LeO.ite ?_ ?_)
  |(with_reducible refine LeO.bind ?_ (fun _ => ?_))
  |exact ih0 _ _ _ _ _ _
  |exact convexpl_Check.mono _ _ _ _
  |exact convexpl_made.mono _ _ _ _
  |exact LeO.none _
  |refine LeO.ite ?_ ?_
  |refine LeO.bind ?_ (fun _ => ?_)
def convexpl_Move.T6 : Bool × List (List Nat × List Nat) := (true, [([], []), ([0], [0]), ([], []), ([1, 2], [1, 2]), ([], []), ([4], [4]), ([], []), ([5, 6], [5, 6]), ([], []), ([8], [8]), ([9], [9]), ([3, 7, 10, 10], [3, 7, 10]), ([11], [11]), ([11], [11]), ([12, 11, 0, 1, 2, 3, 4, 5, 6, 7, 8, 9, 10, 11, 12, 13], [12]), ([13, 14, 0, 1, 2, 3, 4, 5, 6, 7, 8, 9, 10, 11, 12, 13, 14], [13])])
def convexpl_Move.B6 : List Nat := [0, 1, 0, 7, 0, 16, 0, 112, 0, 256, 768, 2047, 4095, 4095, 16383, 32767]
theorem convexpl_Move.tab6 : rtab .any (opsOf Try.f33 6) = convexpl_Move.T6 := by kernel_rfl
theorem convexpl_Move.bits6 : waitsOk convexpl_Move.T6.2 convexpl_Move.B6 = true := by kernel_rfl
set_option maxHeartbeats 8000000 in
set_option maxRecDepth 100000 in
theorem convexpl_Move.calls (k : Nat) (a0_0 : Int) (a0_1 : Int) (A0_2 : Option Addr) (c0_2 : Nat) (l0_2 : List (S88)) (a1 : Int) (a2 : Int) (r1 : Int) (r2 : Int) (r3 : List (S88)) (r4 : Int) (w : World) (hr0_2 : Kd.C k88 w A0_2 l0_2.length l0_2) (hc0_2 : l0_2.length ≤ c0_2) (h : convexpl_Move.f k a0_0 a0_1 l0_2 a1 a2 = some (r1, r2, r3, r4)) :
  Calls Try.prog 33 #[.agg #[.int .i64 a0_0, .int .i64 a0_1, .slice A0_2 l0_2.length c0_2], .int .i64 a1, .int .i64 a2] w fun e w' => ∃ v2_ : Value, e = .returned (.tuple #[.agg #[.int .i64 r1, .int .i64 r2, v2_], .int .i64 r4]) ∧ Kd.R k88 88 w' w.heap.size (fun _ => True) v2_ r3 ∧ Below w.heap.size w w' := by
 have hu82:=Try.underlying82
 have HR0_2:=Aside0.mk hr0_2
 have HC0_2:=Aside0.mk hc0_2
 clear hr0_2 hc0_2
 have HB:=Aside0.mk (Below.refl w.heap.size w)
 have H : ((convexpl_Check.f k a0_0 a0_1 l0_2).bind fun t170=>(if t170 = 0 then (if a1 < (-2000000) then (convexpl_Move.j0 k a1 a2 true a0_0 a0_1 l0_2) else (if a1 > 2000000 then (convexpl_Move.j0 k a1 a2 true a0_0 a0_1 l0_2) else (if a2 < (-1000000000000000) then (convexpl_Move.j0 k a1 a2 true a0_0 a0_1 l0_2) else (convexpl_Move.j0 k a1 a2 (decide (a2 > 1000000000000000)) a0_0 a0_1 l0_2)))) else (some (0, 0, ([] : List (S88)), t170)))) = some (r1, r2, r3, r4):=h
 clear h
 replace H:=Option.bind_eq_some_iff.mp H
 obtain ⟨t170, A40, H⟩:=H
 replace H : (if t170 = 0 then (if a1 < (-2000000) then (convexpl_Move.j0 k a1 a2 true a0_0 a0_1 l0_2) else (if a1 > 2000000 then (convexpl_Move.j0 k a1 a2 true a0_0 a0_1 l0_2) else (if a2 < (-1000000000000000) then (convexpl_Move.j0 k a1 a2 true a0_0 a0_1 l0_2) else (convexpl_Move.j0 k a1 a2 (decide (a2 > 1000000000000000)) a0_0 a0_1 l0_2)))) else (some (0, 0, ([] : List (S88)), t170))) = some (r1, r2, r3, r4):=H
 have A4:=Aside0.mk A40
 clear A40
 by_cases c5 : t170 = 0
 ·rw [if_pos c5] at H
  have c5b0 : (t170 == 0) = true:=beq_iff_eq.mpr c5
  have c5b1 : (t170 != 0) = false:=bne_eq_false_iff_eq.mpr c5
  clear c5
  have HC6:=Aside0.mk H
  clear H
  go_enter Try.func33, Try.ntmps33
  go_upto_region 4 with (first|((with_reducible refine gate_dst (N:=3) rfl ?_);refine box_event ?hg (N:=3) ?hd (cs:=#[.int .i64 a0_0, .int .i64 a0_1, .slice A0_2 l0_2.length c0_2]) (t:=82) ?hr ?_;(case hd=>rfl);(case hg=>rfl);(case hr=>first|(go_simp;done)|(go_simp;rfl));intro gb168 hg w7 hbox hb;have n0_:=Aside0.mk (below_step (by repeat (first|(with_reducible first|exact HB.out|apply below_alloc|apply pw_below_drewN|apply below_drew1)|exact HB.out)) hb);have n1_:=Aside0.mk (hbox);have n2_:=Aside0.mk ((by rw [hg];exact (below_size (by repeat (first|(with_reducible first|exact HB.out|apply below_alloc|apply pw_below_drewN|apply below_drew1)|exact HB.out))) : w.heap.size ≤ gb168));have n3_:=Aside0.mk ((by rw [hg];exact (below_size (by repeat (first|(with_reducible first|exact HB.out|apply below_alloc|apply pw_below_drewN|apply below_drew1)|exact HB.out))) : w.heap.size ≤ gb168));clear HB;have HB:=n0_;have BK168:=n1_;have GW168:=n2_;have GE168:=n3_;clear n0_ n1_ n2_ n3_;clear hb hbox hg)|((with_reducible refine gate_dst (N:=6) rfl ?_);refine box_event ?hg (N:=6) ?hd (cs:=#[.int .i64 0, .int .i64 0, .slice none 0 0]) (t:=82) ?hr ?_;(case hd=>rfl);(case hg=>rfl);(case hr=>first|(go_simp;done)|(go_simp;rfl));intro gb169 hg w8 hbox hb;have n0_:=Aside0.mk (blk_below (g:=gb168) (o:=.cells #[.int .i64 a0_0, .int .i64 a0_1, .slice A0_2 l0_2.length c0_2] 82 (0, 0)) (by (with_reducible repeat (first|refine blk_drewN ?_ _|refine blk_drew ?_|refine blk_alloc ?_ _));exact BK168.out) hb);have n1_:=Aside0.mk (below_step (by repeat (first|(with_reducible first|exact HB.out|apply below_alloc|apply pw_below_drewN|apply below_drew1|refine below_set ?_ GE168.out)|exact HB.out)) hb);have n2_:=Aside0.mk (hbox);have n3_:=Aside0.mk ((by rw [hg];exact (below_size (by repeat (first|(with_reducible first|exact HB.out|apply below_alloc|apply pw_below_drewN|apply below_drew1|refine below_set ?_ GE168.out)|exact HB.out))) : w.heap.size ≤ gb169));have n4_:=Aside0.mk ((by rw [hg];exact (below_size (by repeat (first|(with_reducible first|exact HB.out|apply below_alloc|apply pw_below_drewN|apply below_drew1|refine below_set ?_ GE168.out)|exact HB.out))) : w.heap.size ≤ gb169));have n5_:=Aside0.mk ((by rw [hg];exact Nat.ne_of_lt (blk_lt (g:=gb168) (o:=.cells #[.int .i64 a0_0, .int .i64 a0_1, .slice A0_2 l0_2.length c0_2] 82 (0, 0)) (by (with_reducible repeat (first|refine blk_drewN ?_ _|refine blk_drew ?_|refine blk_alloc ?_ _));exact BK168.out)) : gb168 ≠ gb169));have n6_:=Aside0.mk ((by rw [hg];exact Nat.ne_of_gt (blk_lt (g:=gb168) (o:=.cells #[.int .i64 a0_0, .int .i64 a0_1, .slice A0_2 l0_2.length c0_2] 82 (0, 0)) (by (with_reducible repeat (first|refine blk_drewN ?_ _|refine blk_drew ?_|refine blk_alloc ?_ _));exact BK168.out)) : gb169 ≠ gb168));clear BK168;clear HB;have BK168:=n0_;have HB:=n1_;have BK169:=n2_;have GW169:=n3_;have GE169:=n4_;have NB168_169:=n5_;have NB169_168:=n6_;clear n0_ n1_ n2_ n3_ n4_ n5_ n6_;clear hb hbox hg;have hnb9:=NB168_169.out;have hnc9:=NB169_168.out;have hcz10_0 : w8.cell? ⟨gb168, 0, none⟩ = some (.int .i64 a0_0):=(blk_cell BK168.out 0).trans rfl;have hcz10_1 : w8.cell? ⟨gb168, 1, none⟩ = some (.int .i64 a0_1):=(blk_cell BK168.out 1).trans rfl;have hcz10_2 : w8.cell? ⟨gb168, 2, none⟩ = some (.slice A0_2 l0_2.length c0_2):=(blk_cell BK168.out 2).trans rfl;have hfz10_0:=blk_frozen BK168.out 0;have hfz10_1:=blk_frozen BK168.out 1;have hfz10_2:=blk_frozen BK168.out 2)|((with_reducible refine gate_callee (f:=71) rfl ?_);refine goesL_ (some 10) rfl rfl Try.func71 (by kernel_rfl) rfl #[.agg #[.int .i64 a0_0, .int .i64 a0_1, .slice A0_2 l0_2.length c0_2]] rfl (by (try simp only [List.map_toArray, List.map_cons, List.map_nil]);first|done|rfl|(simp only [List.length_drop, List.length_take];rfl)) ?_;(with_reducible refine (convexpl_Check.calls k a0_0 a0_1 _ _ l0_2 t170 _ ?side1 ?side2 A4.out).mono ?_);(case side1=>repeat (first|exact (Kd.C_below HR0_2.out HB.out)|(with_reducible refine Kd.C_alloc ?_ _)|(with_reducible refine Kd.C_drewN ?_ _)|(with_reducible refine Kd.C_drew ?_)));(case side2=>exact HC0_2.out);rintro e w11 ⟨rfl, hb⟩;refine ⟨_, rfl, ?_⟩;have n0_:=Aside0.mk (blk_below (g:=gb168) (o:=.cells #[.int .i64 a0_0, .int .i64 a0_1, .slice A0_2 l0_2.length c0_2] 82 (0, 0)) (by (with_reducible repeat (first|refine blk_drewN ?_ _|refine blk_drew ?_|refine blk_alloc ?_ _));exact BK168.out) hb);have n1_:=Aside0.mk (blk_below (g:=gb169) (o:=.cells #[.int .i64 0, .int .i64 0, .slice none 0 0] 82 (0, 0)) (by (with_reducible repeat (first|refine blk_drewN ?_ _|refine blk_drew ?_|refine blk_alloc ?_ _));exact BK169.out) hb);have n2_:=Aside0.mk (below_step (by repeat (first|(with_reducible first|exact HB.out|apply below_alloc|apply pw_below_drewN|apply below_drew1|refine below_set ?_ GE168.out|refine below_set ?_ GE169.out)|exact HB.out)) hb);clear BK168;clear BK169;clear HB;have BK168:=n0_;have BK169:=n1_;have HB:=n2_;clear n0_ n1_ n2_;(try clear hb);(try clear hb2);(try clear hk);(try clear hi)))
  (try simp only [Act.put, List.setIfInBounds_toArray, List.set_cons_zero, List.set_cons_succ])
  go_cut [28] (fun v28 wc=>∃ (kq : Nat) (x28_5 : Bool), v28 = .bool x28_5∧Aside0 (convexpl_Move.j0 kq a1 a2 x28_5 a0_0 a0_1 l0_2 = some (r1, r2, r3, r4))∧Aside0 (kq ≤ k)∧Aside0 (wc.heap[gb168]? = some (.cells #[.int .i64 a0_0, .int .i64 a0_1, (.slice A0_2 l0_2.length c0_2)] 82 (0, 0)))∧Aside0 (wc.heap[gb169]? = some (.cells #[.int .i64 0, .int .i64 0, (.slice none 0 0)] 82 (0, 0)))∧Aside0 (Below w.heap.size w wc))
  case first =>
   have H:=HC6.out
   clear HC6
   by_cases c12 : a1 < (-2000000)
   ·rw [if_pos c12] at H
    have c12b0 : decide (a1 < (-2000000)) = true:=decide_eq_true c12
    clear c12
    (first|rw [c12b0]|(simp only [i64_w, i32_w];rw [c12b0])|skip)
    have H':=Aside0.mk H
    clear H
    go_wp2
    go_meet
    case rel=>exact ⟨_, (true),(by first|rfl|(simp;done)|(simp [*];done)), H', ⟨by first|omega|exact Nat.le_refl _⟩,⟨by (with_reducible repeat (first|refine blk_drewN ?_ _|refine blk_drew ?_|refine blk_alloc ?_ _));exact BK168.out⟩,⟨by (with_reducible repeat (first|refine blk_drewN ?_ _|refine blk_drew ?_|refine blk_alloc ?_ _));exact BK169.out⟩,⟨by repeat (first|(with_reducible first|exact HB.out|apply below_alloc|apply pw_below_drewN|apply below_drew1|refine below_set ?_ GE168.out|refine below_set ?_ GE169.out)|exact HB.out)⟩⟩
   ·rw [if_neg c12] at H
    have c12b0 : decide (a1 < (-2000000)) = false:=decide_eq_false c12
    clear c12
    (first|rw [c12b0]|(simp only [i64_w, i32_w];rw [c12b0])|skip)
    by_cases c13 : a1 > 2000000
    ·rw [if_pos c13] at H
     have c13b0 : decide (2000000 < a1) = true:=decide_eq_true c13
     clear c13
     have H':=Aside0.mk H
     clear H
     go_wp2
     go_meet
     case rel=>exact ⟨_, (true),(by first|rfl|(simp;done)|(simp [*];done)), H', ⟨by first|omega|exact Nat.le_refl _⟩,⟨by (with_reducible repeat (first|refine blk_drewN ?_ _|refine blk_drew ?_|refine blk_alloc ?_ _));exact BK168.out⟩,⟨by (with_reducible repeat (first|refine blk_drewN ?_ _|refine blk_drew ?_|refine blk_alloc ?_ _));exact BK169.out⟩,⟨by repeat (first|(with_reducible first|exact HB.out|apply below_alloc|apply pw_below_drewN|apply below_drew1|refine below_set ?_ GE168.out|refine below_set ?_ GE169.out)|exact HB.out)⟩⟩
    ·rw [if_neg c13] at H
     have c13b0 : decide (2000000 < a1) = false:=decide_eq_false c13
     clear c13
     by_cases c14 : a2 < (-1000000000000000)
     ·rw [if_pos c14] at H
      have c14b0 : decide (a2 < (-1000000000000000)) = true:=decide_eq_true c14
      clear c14
      have H':=Aside0.mk H
      clear H
      go_wp2
      go_meet
      case rel=>exact ⟨_, (true),(by first|rfl|(simp;done)|(simp [*];done)), H', ⟨by first|omega|exact Nat.le_refl _⟩,⟨by (with_reducible repeat (first|refine blk_drewN ?_ _|refine blk_drew ?_|refine blk_alloc ?_ _));exact BK168.out⟩,⟨by (with_reducible repeat (first|refine blk_drewN ?_ _|refine blk_drew ?_|refine blk_alloc ?_ _));exact BK169.out⟩,⟨by repeat (first|(with_reducible first|exact HB.out|apply below_alloc|apply pw_below_drewN|apply below_drew1|refine below_set ?_ GE168.out|refine below_set ?_ GE169.out)|exact HB.out)⟩⟩
     ·rw [if_neg c14] at H
      have c14b0 : decide (a2 < (-1000000000000000)) = false:=decide_eq_false c14
      clear c14
      have H':=Aside0.mk H
      clear H
      go_wp2
      go_meet
      case rel=>exact ⟨_, (decide (a2 > 1000000000000000)),(by first|rfl|(simp;done)|(simp [*];done)), H', ⟨by first|omega|exact Nat.le_refl _⟩,⟨by (with_reducible repeat (first|refine blk_drewN ?_ _|refine blk_drew ?_|refine blk_alloc ?_ _));exact BK168.out⟩,⟨by (with_reducible repeat (first|refine blk_drewN ?_ _|refine blk_drew ?_|refine blk_alloc ?_ _));exact BK169.out⟩,⟨by repeat (first|(with_reducible first|exact HB.out|apply below_alloc|apply pw_below_drewN|apply below_drew1|refine below_set ?_ GE168.out|refine below_set ?_ GE169.out)|exact HB.out)⟩⟩
  case rest =>
   clear HC6
   try clear c1
   try clear p2
   try clear c3
   try clear c5
   try clear c5b0
   try clear c5b1
   try clear c7
   try clear c9
   try clear c12
   try clear c12b0
   try clear c13
   try clear c13b0
   try clear c14
   try clear c14b0
   try clear hcz10_0
   try clear hcz10_1
   try clear hcz10_2
   try clear hfz10_0
   try clear hfz10_1
   try clear hfz10_2
   obtain ⟨kq, x28_5, rfl, HA, HJ5, BK168, BK169, HB⟩:=hcut
   cases kq with
  |zero => exact absurd HA.out (by simp [convexpl_Move.j0])
  |succ kj5 =>
    have H:=HA.out
    clear HA
    simp only [convexpl_Move.j0] at H
    by_cases c15 : x28_5 = true
    ·subst c15
     have H1 : (some (0, 0, ([] : List (S88)), 4)) = some (r1, r2, r3, r4):=by rw [if_pos rfl] at H;exact H
     clear H
     have H:=H1
     clear H1
     simp only [Option.some.injEq, Prod.mk.injEq] at H
     obtain ⟨rfl, rfl, rfl, rfl⟩:=H
     have hnb16:=NB169_168.out
     have hnc16:=NB168_169.out
     have hcz17_0 : wc.cell? ⟨gb169, 0, none⟩ = some (.int .i64 0):=(blk_cell BK169.out 0).trans rfl
     have hcz17_1 : wc.cell? ⟨gb169, 1, none⟩ = some (.int .i64 0):=(blk_cell BK169.out 1).trans rfl
     have hcz17_2 : wc.cell? ⟨gb169, 2, none⟩ = some (.slice none 0 0):=(blk_cell BK169.out 2).trans rfl
     have hfz17_0:=blk_frozen BK169.out 0
     have hfz17_1:=blk_frozen BK169.out 1
     have hfz17_2:=blk_frozen BK169.out 2
     go_wp2
     refine bodyPost_ret (results_ct rfl _ _ gb169 82 #[.int .i64 0, .int .i64 0, .slice none 0 0] (0, 0) _ rfl (by (with_reducible repeat (first|refine blk_drewN ?_ _|refine blk_drew ?_|refine blk_alloc ?_ _));refine blk_put (cs:=#[.int .i64 0, .int .i64 0, .slice none 0 0]) ?_ 2 _ rfl;(with_reducible repeat (first|refine blk_drewN ?_ _|refine blk_drew ?_|refine blk_alloc ?_ _));refine blk_put (cs:=#[.int .i64 0, .int .i64 0, .slice none 0 0]) ?_ 1 _ rfl;(with_reducible repeat (first|refine blk_drewN ?_ _|refine blk_drew ?_|refine blk_alloc ?_ _));refine blk_put (cs:=#[.int .i64 0, .int .i64 0, .slice none 0 0]) ?_ 0 _ rfl;(with_reducible repeat (first|refine blk_drewN ?_ _|refine blk_drew ?_|refine blk_alloc ?_ _));exact BK169.out) Try.underlying82 rfl (by kernel_rfl)) rfl ?_
     exact ⟨_, by first|rfl|(simp [errW_none, errW_some] <;> rfl)|(simp [*, errW_none, errW_some] <;> rfl), by first|exact Kd.R_nil _ _ _ _ _|exact Kd.N_nil _ _ _ _ _|exact Kd.V_nil _ _ _ _ _|exact Kd.Q_nil _ _ _ _ _|exact Kd.S_nil _ _ _ _ _, by repeat (first|(with_reducible first|exact HB.out|apply below_alloc|apply pw_below_drewN|apply below_drew1|refine below_set ?_ GE168.out|refine below_set ?_ GE169.out)|exact HB.out)⟩
    ·replace c15:=Bool.eq_false_iff.mpr c15
     subst c15
     have H1 : ((api_ConvexPiece_76.f l0_2).bind fun t171=>((convexpl_made.f kj5 (wrap64 (a0_0 + a1)) (wrap64 (a0_1 + a2)) t171).bind fun bt174=>(some (bt174.1, bt174.2.1, bt174.2.2.1, bt174.2.2.2.1)))) = some (r1, r2, r3, r4):=by rw [if_neg (show ¬ (false = true) by decide)] at H;exact H
     clear H
     have H:=H1
     clear H1
     replace H:=Option.bind_eq_some_iff.mp H
     obtain ⟨t171, A180, H⟩:=H
     replace H : ((convexpl_made.f kj5 (wrap64 (a0_0 + a1)) (wrap64 (a0_1 + a2)) t171).bind fun bt174=>(some (bt174.1, bt174.2.1, bt174.2.2.1, bt174.2.2.2.1))) = some (r1, r2, r3, r4):=H
     have A18:=Aside0.mk A180
     clear A180
     replace H:=Option.bind_eq_some_iff.mp H
     obtain ⟨⟨t174, t175, t176, t179, t180⟩, A190, H⟩:=H
     replace H : (some (t174, t175, t176, t179)) = some (r1, r2, r3, r4):=H
     have A19:=Aside0.mk A190
     clear A190
     simp only [Option.some.injEq, Prod.mk.injEq] at H
     obtain ⟨rfl, rfl, rfl, rfl⟩:=H
     try go_wp2
     have n0_:=Aside0.mk (blk_drew BK168.out)
     have n1_:=Aside0.mk (blk_drew BK169.out)
     have n2_:=Aside0.mk (below_drew1 HB.out)
     clear BK168
     clear BK169
     clear HB
     have BK168:=n0_
     have BK169:=n1_
     have HB:=n2_
     clear n0_ n1_ n2_
     refine start_ (n:=16) (S:=fun w'=>w'.cell? ⟨gb168, 0, none⟩ = some (.int .i64 a0_0)∧w'.cell? ⟨gb168, 1, none⟩ = some (.int .i64 a0_1)∧w'.cell? ⟨gb168, 2, none⟩ = some (.slice A0_2 l0_2.length c0_2)) (ds:=[]) #[false, false, false, false, false, false, false, false, false, false, false, false, false, false, false, false] (by kernel_rfl) rfl rfl ⟨(blk_cell BK168.out 0).trans rfl, (blk_cell BK168.out 1).trans rfl, (blk_cell BK168.out 2).trans rfl⟩ (fun hHeld=>?_);refine with_tabW convexpl_Move.tab6 convexpl_Move.bits6 (fun HT_ HW_=>?_)
     generalize wc.drew = w20 at BK168 BK169 HB hHeld ⊢
     refine pure_ (i:=0) (N:=some 30) (v:=?_) (a':=?_) #[true, false, false, false, false, false, false, false, false, false, false, false, false, false, false, false] rfl rfl (any_of HT_.out (by kernel_rfl)) (fun _ _ _ h=>h) (Or.inl ⟨by rfl, ?_⟩) ?_ ?_
     rotate_left
     ·intro w'
      go_simp
      with_reducible rfl
     rotate_left
     ·simp only [Act.put, List.setIfInBounds_toArray, List.set_cons_zero, List.set_cons_succ, i64_w, i32_w]
      rfl
     refine pure_ (i:=2) (N:=some 32) (v:=?_) (a':=?_) #[true, false, true, false, false, false, false, false, false, false, false, false, false, false, false, false] rfl rfl (any_of HT_.out (by kernel_rfl)) (fun _ _ _ h=>h) (Or.inl ⟨by rfl, ?_⟩) ?_ ?_
     rotate_left
     ·intro w'
      go_simp
      with_reducible rfl
     rotate_left
     ·simp only [Act.put, List.setIfInBounds_toArray, List.set_cons_zero, List.set_cons_succ, i64_w, i32_w]
      rfl
     refine pure_ (i:=4) (N:=some 34) (v:=?_) (a':=?_) #[true, false, true, false, true, false, false, false, false, false, false, false, false, false, false, false] rfl rfl (any_of HT_.out (by kernel_rfl)) (fun _ _ _ h=>h) (Or.inl ⟨by rfl, ?_⟩) ?_ ?_
     rotate_left
     ·intro w'
      go_simp
      with_reducible rfl
     rotate_left
     ·simp only [Act.put, List.setIfInBounds_toArray, List.set_cons_zero, List.set_cons_succ, i64_w, i32_w]
      rfl
     refine pure_ (i:=6) (N:=some 36) (v:=?_) (a':=?_) #[true, false, true, false, true, false, true, false, false, false, false, false, false, false, false, false] rfl rfl (any_of HT_.out (by kernel_rfl)) (fun _ _ _ h=>h) (Or.inl ⟨by rfl, ?_⟩) ?_ ?_
     rotate_left
     ·intro w'
      go_simp
      with_reducible rfl
     rotate_left
     ·simp only [Act.put, List.setIfInBounds_toArray, List.set_cons_zero, List.set_cons_succ, i64_w, i32_w]
      rfl
     refine pure_ (i:=8) (N:=some 38) (v:=?_) (a':=?_) #[true, false, true, false, true, false, true, false, true, false, false, false, false, false, false, false] rfl rfl (any_of HT_.out (by kernel_rfl)) (fun _ _ _ h=>h) (Or.inl ⟨by rfl, ?_⟩) ?_ ?_
     rotate_left
     ·intro w'
      go_simp
      with_reducible rfl
     rotate_left
     ·simp only [Act.put, List.setIfInBounds_toArray, List.set_cons_zero, List.set_cons_succ, i64_w, i32_w]
      rfl
     refine take_ (i:=1) (N:=some 31) (v:=?_) (a':=?_) #[true, true, true, false, true, false, true, false, true, false, false, false, false, false, false, false] rfl rfl (take_ofW HT_.out HW_.out (by kernel_rfl)) (fun _ _ _ h=>h) (Or.inl ⟨by rfl, ?_⟩) hHeld ?_ ?_
     rotate_left
     ·rintro w' ⟨s0, s1, s2⟩
      go_simp
      with_reducible rfl
     rotate_left
     ·simp only [Act.put, List.setIfInBounds_toArray, List.set_cons_zero, List.set_cons_succ, i64_w, i32_w]
      rfl
     refine pure_ (i:=3) (N:=some 33) (v:=?_) (a':=?_) #[true, true, true, true, true, false, true, false, true, false, false, false, false, false, false, false] rfl rfl (any_of HT_.out (by kernel_rfl)) (fun _ _ _ h=>h) (Or.inl ⟨by rfl, ?_⟩) ?_ ?_
     rotate_left
     ·intro w'
      go_simp
      with_reducible rfl
     rotate_left
     ·simp only [Act.put, List.setIfInBounds_toArray, List.set_cons_zero, List.set_cons_succ, i64_w, i32_w]
      rfl
     refine take_ (i:=5) (N:=some 35) (v:=?_) (a':=?_) #[true, true, true, true, true, true, true, false, true, false, false, false, false, false, false, false] rfl rfl (take_ofW HT_.out HW_.out (by kernel_rfl)) (fun _ _ _ h=>h) (Or.inl ⟨by rfl, ?_⟩) hHeld ?_ ?_
     rotate_left
     ·rintro w' ⟨s0, s1, s2⟩
      go_simp
      with_reducible rfl
     rotate_left
     ·simp only [Act.put, List.setIfInBounds_toArray, List.set_cons_zero, List.set_cons_succ, i64_w, i32_w]
      rfl
     refine pure_ (i:=7) (N:=some 37) (v:=?_) (a':=?_) #[true, true, true, true, true, true, true, true, true, false, false, false, false, false, false, false] rfl rfl (any_of HT_.out (by kernel_rfl)) (fun _ _ _ h=>h) (Or.inl ⟨by rfl, ?_⟩) ?_ ?_
     rotate_left
     ·intro w'
      go_simp
      with_reducible rfl
     rotate_left
     ·simp only [Act.put, List.setIfInBounds_toArray, List.set_cons_zero, List.set_cons_succ, i64_w, i32_w]
      rfl
     refine take_ (i:=9) (N:=some 39) (v:=?_) (a':=?_) #[true, true, true, true, true, true, true, true, true, true, false, false, false, false, false, false] rfl rfl (take_ofW HT_.out HW_.out (by kernel_rfl)) (fun _ _ _ h=>h) (Or.inl ⟨by rfl, ?_⟩) hHeld ?_ ?_
     rotate_left
     ·rintro w' ⟨s0, s1, s2⟩
      go_simp
      with_reducible rfl
     rotate_left
     ·simp only [Act.put, List.setIfInBounds_toArray, List.set_cons_zero, List.set_cons_succ, i64_w, i32_w]
      rfl
     refine one_ (i:=10) (N:=some 40) #[true, true, true, true, true, true, true, true, true, true, true, false, false, false, false, false] rfl rfl (one_of HT_.out (by kernel_rfl)) (by decide) (fun K hK=>?_)
     refine goes_ Try.func76 (by kernel_rfl) rfl #[.slice A0_2 l0_2.length c0_2] (by rfl) rfl rfl (by (try simp only [List.map_toArray, List.map_cons, List.map_nil]);first|done|rfl|(simp only [List.length_drop, List.length_take];rfl)) ?_
     with_reducible refine (api_ConvexPiece_76.calls _ _ l0_2 t171 _ ?side1 ?side2 A18.out).mono ?_
     (case side1=>repeat (first|exact (Kd.C_below HR0_2.out HB.out)|(with_reducible refine Kd.C_alloc ?_ _)|(with_reducible refine Kd.C_drewN ?_ _)|(with_reducible refine Kd.C_drew ?_)))
     (case side2=>exact HC0_2.out)
     rintro e w21 ⟨v172, rfl, ho0, hb⟩
     refine ⟨_, rfl, ?_⟩
     have n0_:=Aside0.mk (Kd.R_lower ho0 (below_size (by repeat (first|(with_reducible first|exact HB.out|apply below_alloc|apply pw_below_drewN|apply below_drew1|refine below_set ?_ GE168.out|refine below_set ?_ GE169.out)|exact HB.out))))
     have n1_:=Aside0.mk (blk_below (g:=gb168) (o:=.cells #[.int .i64 a0_0, .int .i64 a0_1, .slice A0_2 l0_2.length c0_2] 82 (0, 0)) (by (with_reducible repeat (first|refine blk_drewN ?_ _|refine blk_drew ?_|refine blk_alloc ?_ _));exact BK168.out) hb)
     have n2_:=Aside0.mk (blk_below (g:=gb169) (o:=.cells #[.int .i64 0, .int .i64 0, .slice none 0 0] 82 (0, 0)) (by (with_reducible repeat (first|refine blk_drewN ?_ _|refine blk_drew ?_|refine blk_alloc ?_ _));exact BK169.out) hb)
     have n3_:=Aside0.mk (below_step (by repeat (first|(with_reducible first|exact HB.out|apply below_alloc|apply pw_below_drewN|apply below_drew1|refine below_set ?_ GE168.out|refine below_set ?_ GE169.out)|exact HB.out)) hb)
     clear BK168
     clear BK169
     clear HB
     have HO173:=n0_
     have BK168:=n1_
     have BK169:=n2_
     have HB:=n3_
     clear n0_ n1_ n2_ n3_
     (try clear hb)
     (try clear hb2)
     (try clear hk)
     (try clear hi)
     (try clear ho0)
     obtain ⟨Ao22, co22, eo22⟩:=Kd.R_slice HO173.out
     (first|subst eo22|(injection eo22 with f1_ f2_ f3_;have f4_:=f1_.symm;have f5_:=f3_.symm;clear f1_ f2_ f3_;subst f4_;subst f5_))
     refine hK.out _ _ ⟨(blk_cell BK168.out 0).trans rfl, (blk_cell BK168.out 1).trans rfl, (blk_cell BK168.out 2).trans rfl⟩ (fun hHeld=>?_)
     clear hK K
     refine norm_ (a':=?_) ?_ ?_
     rotate_left
     ·show Act.put _ (some 40) _ = _
      simp only [Act.put, List.setIfInBounds_toArray, List.set_cons_zero, List.set_cons_succ, i64_w, i32_w]
      rfl
     refine one_ (i:=11) (N:=some 41) #[true, true, true, true, true, true, true, true, true, true, true, true, false, false, false, false] rfl rfl (one_of HT_.out (by kernel_rfl)) (by decide) (fun K hK=>?_)
     refine goes_ Try.func73 (by kernel_rfl) rfl #[.int .i64 (wrap64 (a0_0 + a1)), .int .i64 (wrap64 (a0_1 + a2)), .slice Ao22 t171.length co22] (by rfl) rfl rfl (by (try simp only [List.map_toArray, List.map_cons, List.map_nil]);first|done|rfl|(simp only [List.length_drop, List.length_take];rfl)) ?_
     with_reducible refine (convexpl_made.calls kj5 (wrap64 (a0_0 + a1)) (wrap64 (a0_1 + a2)) (fun k_=>some k_ = (.slice Ao22 t171.length co22 : Value).ownBlock) (.slice Ao22 t171.length co22) t171 t174 t175 t176 t179 t180 w _ ?side1 ?side2 A19.out).mono ?_
     (case side1=>repeat (first|(with_reducible first|exact HB.out|apply below_alloc|apply pw_below_drewN|apply below_drew1|refine below_set ?_ GE168.out|refine below_set ?_ GE169.out)|exact HB.out))
     (case side2=>exact Kd.R_tight rfl HO173.out)
     rintro e w23 ⟨v177, rfl, ho0, hy0, hb, hkp⟩
     refine ⟨_, rfl, ?_⟩
     have n0_:=Aside0.mk (blk_kept (by (with_reducible repeat (first|refine blk_drewN ?_ _|refine blk_drew ?_|refine blk_alloc ?_ _));exact BK168.out) hkp (fun hs_=>(fun e_=>(Kd.R_ne HO173.out BK168.out (by decide)) e_) hs_))
     have n1_:=Aside0.mk (blk_kept (by (with_reducible repeat (first|refine blk_drewN ?_ _|refine blk_drew ?_|refine blk_alloc ?_ _));exact BK169.out) hkp (fun hs_=>(fun e_=>(Kd.R_ne HO173.out BK169.out (by decide)) e_) hs_))
     have n2_:=Aside0.mk (Kd.R_reok rfl hy0 (fun k_ e_=>HO173.out.1 k_ e_))
     have n3_:=Aside0.mk (Kd.R_mono (ok':=fun k_=>some k_ ≠ (.slice Ao22 t171.length co22 : Value).ownBlock) ho0 (fun k_ hk_=>hk_.2))
     have n4_:=Aside0.mk (hb)
     clear BK168
     clear BK169
     clear HO173
     clear HB
     have BK168:=n0_
     have BK169:=n1_
     have HO173:=n2_
     have HO178:=n3_
     have HB:=n4_
     clear n0_ n1_ n2_ n3_ n4_
     (try clear hb)
     (try clear hkp)
     (try clear ho0)
     (try clear hy0)
     obtain ⟨Ao26, co26, eo26⟩:=Kd.R_slice HO178.out
     (first|subst eo26|(injection eo26 with f1_ f2_ f3_;have f4_:=f1_.symm;have f5_:=f3_.symm;clear f1_ f2_ f3_;subst f4_;subst f5_))
     refine hK.out _ _ ⟨(blk_cell BK168.out 0).trans rfl, (blk_cell BK168.out 1).trans rfl, (blk_cell BK168.out 2).trans rfl⟩ (fun hHeld=>?_)
     clear hK K
     refine norm_ (a':=?_) ?_ ?_
     rotate_left
     ·show Act.put _ (some 41) _ = _
      simp only [Act.put, List.setIfInBounds_toArray, List.set_cons_zero, List.set_cons_succ, i64_w, i32_w]
      rfl
     refine pure_ (i:=12) (N:=some 42) (v:=?_) (a':=?_) #[true, true, true, true, true, true, true, true, true, true, true, true, true, false, false, false] rfl rfl (any_of HT_.out (by kernel_rfl)) (fun _ _ _ h=>h) (Or.inl ⟨by rfl, ?_⟩) ?_ ?_
     rotate_left
     ·intro w'
      go_simp
      with_reducible rfl
     rotate_left
     ·simp only [Act.put, List.setIfInBounds_toArray, List.set_cons_zero, List.set_cons_succ, i64_w, i32_w]
      rfl
     refine pure_ (i:=13) (N:=some 43) (v:=?_) (a':=?_) #[true, true, true, true, true, true, true, true, true, true, true, true, true, true, false, false] rfl rfl (any_of HT_.out (by kernel_rfl)) (fun _ _ _ h=>h) (Or.inl ⟨by rfl, ?_⟩) ?_ ?_
     rotate_left
     ·intro w'
      go_simp
      with_reducible rfl
     rotate_left
     ·simp only [Act.put, List.setIfInBounds_toArray, List.set_cons_zero, List.set_cons_succ, i64_w, i32_w]
      rfl
     refine one_ (i:=14) (N:=none) #[true, true, true, true, true, true, true, true, true, true, true, true, true, true, true, false] rfl rfl (one_of HT_.out (by kernel_rfl)) (by decide) (fun K hK=>?_)
     have hs24 : w23.cell? ⟨gb169, 0, none⟩ = some (.int .i64 0):=(blk_cell BK169.out 0).trans rfl
     have hfs24:=blk_frozen BK169.out 0
     have hns24_0:=NB168_169.out
     have hms24_0:=NB169_168.out
     have hs25 : w23.cell? ⟨gb169, 1, none⟩ = some (.int .i64 0):=(blk_cell BK169.out 1).trans rfl
     have hfs25:=blk_frozen BK169.out 1
     have hns25_0:=NB168_169.out
     have hms25_0:=NB169_168.out
     have hs27 : w23.cell? ⟨gb169, 2, none⟩ = some (.slice none 0 0):=(blk_cell BK169.out 2).trans rfl
     have hfs27:=blk_frozen BK169.out 2
     have hns27_0:=NB168_169.out
     have hms27_0:=NB169_168.out
     refine skip_ (w1:=?_) (by rfl) rfl ?_ ?_
     rotate_left
     ·go_simp
      rfl
     refine hK.out _ _ ⟨((cell_far (p:=⟨gb169, _, none⟩) NB168_169.out _).trans (((cell_far (p:=⟨gb169, _, none⟩) NB168_169.out _).trans (((cell_far (p:=⟨gb169, _, none⟩) NB168_169.out _).trans (hHeld.1)))))),((cell_far (p:=⟨gb169, _, none⟩) NB168_169.out _).trans (((cell_far (p:=⟨gb169, _, none⟩) NB168_169.out _).trans (((cell_far (p:=⟨gb169, _, none⟩) NB168_169.out _).trans (hHeld.2.1)))))),((cell_far (p:=⟨gb169, _, none⟩) NB168_169.out _).trans (((cell_far (p:=⟨gb169, _, none⟩) NB168_169.out _).trans (((cell_far (p:=⟨gb169, _, none⟩) NB168_169.out _).trans (hHeld.2.2))))))⟩ (fun hHeld=>?_)
     clear hK K
     refine pure_ (i:=15) (N:=some 7) (v:=?_) (a':=?_) #[true, true, true, true, true, true, true, true, true, true, true, true, true, true, true, true] rfl rfl (any_of HT_.out (by kernel_rfl)) (fun _ _ _ h=>h) (Or.inl ⟨by rfl, ?_⟩) ?_ ?_
     rotate_left
     ·intro w'
      go_simp
      with_reducible rfl
     rotate_left
     ·simp only [Act.put, List.setIfInBounds_toArray, List.set_cons_zero, List.set_cons_succ, i64_w, i32_w]
      rfl
     refine done_ (done_of HT_.out (by kernel_rfl)) ?_
     try go_wp2
     refine bodyPost_ret (results_ct rfl _ _ gb169 82 #[.int .i64 t174, .int .i64 t175, .slice Ao26 t176.length co26] (0, 0) _ rfl (by (with_reducible repeat (first|refine blk_drewN ?_ _|refine blk_drew ?_|refine blk_alloc ?_ _));refine blk_put (cs:=#[.int .i64 t174, .int .i64 t175, .slice none 0 0]) ?_ 2 _ rfl;(with_reducible repeat (first|refine blk_drewN ?_ _|refine blk_drew ?_|refine blk_alloc ?_ _));refine blk_put (cs:=#[.int .i64 t174, .int .i64 0, .slice none 0 0]) ?_ 1 _ rfl;(with_reducible repeat (first|refine blk_drewN ?_ _|refine blk_drew ?_|refine blk_alloc ?_ _));refine blk_put (cs:=#[.int .i64 0, .int .i64 0, .slice none 0 0]) ?_ 0 _ rfl;(with_reducible repeat (first|refine blk_drewN ?_ _|refine blk_drew ?_|refine blk_alloc ?_ _));exact BK169.out) Try.underlying82 rfl (by kernel_rfl)) rfl ?_
     exact ⟨_, by first|rfl|(simp [errW_none, errW_some] <;> rfl)|(simp [*, errW_none, errW_some] <;> rfl), by (with_reducible repeat (first|apply Kd.R_alloc|apply Kd.R_drewN|apply Kd.R_drew));exact Kd.R_mono (Kd.R_far (p:=⟨gb169, 2, none⟩) (Kd.R_far (p:=⟨gb169, 1, none⟩) (Kd.R_far (p:=⟨gb169, 0, none⟩) (Kd.R_types HO178.out BK169.out (by decide)) (fun _ hk=>hk.2) (.int .i64 t174)) (fun _ hk=>hk.2) (.int .i64 t175)) (fun _ hk=>hk.2) (.slice Ao26 t176.length co26)) (fun _ hk=>trivial), by repeat (first|(with_reducible first|exact HB.out|apply below_alloc|apply pw_below_drewN|apply below_drew1|refine below_set ?_ GE168.out|refine below_set ?_ GE169.out)|exact HB.out)⟩
 ·rw [if_neg c5] at H
  have c5b0 : (t170 == 0) = false:=beq_eq_false_iff_ne.mpr c5
  have c5b1 : (t170 != 0) = true:=bne_iff_ne.mpr c5
  simp only [Option.some.injEq, Prod.mk.injEq] at H
  obtain ⟨rfl, rfl, rfl, rfl⟩:=H
  go_enter Try.func33, Try.ntmps33
  go_wp2_with (first|((with_reducible refine gate_dst (N:=3) rfl ?_);refine box_event ?hg (N:=3) ?hd (cs:=#[.int .i64 a0_0, .int .i64 a0_1, .slice A0_2 l0_2.length c0_2]) (t:=82) ?hr ?_;(case hd=>rfl);(case hg=>rfl);(case hr=>first|(go_simp;done)|(go_simp;rfl));intro gb168 hg w28 hbox hb;have n0_:=Aside0.mk (below_step (by repeat (first|(with_reducible first|exact HB.out|apply below_alloc|apply pw_below_drewN|apply below_drew1)|exact HB.out)) hb);have n1_:=Aside0.mk (hbox);have n2_:=Aside0.mk ((by rw [hg];exact (below_size (by repeat (first|(with_reducible first|exact HB.out|apply below_alloc|apply pw_below_drewN|apply below_drew1)|exact HB.out))) : w.heap.size ≤ gb168));have n3_:=Aside0.mk ((by rw [hg];exact (below_size (by repeat (first|(with_reducible first|exact HB.out|apply below_alloc|apply pw_below_drewN|apply below_drew1)|exact HB.out))) : w.heap.size ≤ gb168));clear HB;have HB:=n0_;have BK168:=n1_;have GW168:=n2_;have GE168:=n3_;clear n0_ n1_ n2_ n3_;clear hb hbox hg)|((with_reducible refine gate_dst (N:=6) rfl ?_);refine box_event ?hg (N:=6) ?hd (cs:=#[.int .i64 0, .int .i64 0, .slice none 0 0]) (t:=82) ?hr ?_;(case hd=>rfl);(case hg=>rfl);(case hr=>first|(go_simp;done)|(go_simp;rfl));intro gb169 hg w29 hbox hb;have n0_:=Aside0.mk (blk_below (g:=gb168) (o:=.cells #[.int .i64 a0_0, .int .i64 a0_1, .slice A0_2 l0_2.length c0_2] 82 (0, 0)) (by (with_reducible repeat (first|refine blk_drewN ?_ _|refine blk_drew ?_|refine blk_alloc ?_ _));exact BK168.out) hb);have n1_:=Aside0.mk (below_step (by repeat (first|(with_reducible first|exact HB.out|apply below_alloc|apply pw_below_drewN|apply below_drew1|refine below_set ?_ GE168.out)|exact HB.out)) hb);have n2_:=Aside0.mk (hbox);have n3_:=Aside0.mk ((by rw [hg];exact (below_size (by repeat (first|(with_reducible first|exact HB.out|apply below_alloc|apply pw_below_drewN|apply below_drew1|refine below_set ?_ GE168.out)|exact HB.out))) : w.heap.size ≤ gb169));have n4_:=Aside0.mk ((by rw [hg];exact (below_size (by repeat (first|(with_reducible first|exact HB.out|apply below_alloc|apply pw_below_drewN|apply below_drew1|refine below_set ?_ GE168.out)|exact HB.out))) : w.heap.size ≤ gb169));have n5_:=Aside0.mk ((by rw [hg];exact Nat.ne_of_lt (blk_lt (g:=gb168) (o:=.cells #[.int .i64 a0_0, .int .i64 a0_1, .slice A0_2 l0_2.length c0_2] 82 (0, 0)) (by (with_reducible repeat (first|refine blk_drewN ?_ _|refine blk_drew ?_|refine blk_alloc ?_ _));exact BK168.out)) : gb168 ≠ gb169));have n6_:=Aside0.mk ((by rw [hg];exact Nat.ne_of_gt (blk_lt (g:=gb168) (o:=.cells #[.int .i64 a0_0, .int .i64 a0_1, .slice A0_2 l0_2.length c0_2] 82 (0, 0)) (by (with_reducible repeat (first|refine blk_drewN ?_ _|refine blk_drew ?_|refine blk_alloc ?_ _));exact BK168.out)) : gb169 ≠ gb168));clear BK168;clear HB;have BK168:=n0_;have HB:=n1_;have BK169:=n2_;have GW169:=n3_;have GE169:=n4_;have NB168_169:=n5_;have NB169_168:=n6_;clear n0_ n1_ n2_ n3_ n4_ n5_ n6_;clear hb hbox hg;have hnb30:=NB168_169.out;have hnc30:=NB169_168.out;have hcz31_0 : w29.cell? ⟨gb168, 0, none⟩ = some (.int .i64 a0_0):=(blk_cell BK168.out 0).trans rfl;have hcz31_1 : w29.cell? ⟨gb168, 1, none⟩ = some (.int .i64 a0_1):=(blk_cell BK168.out 1).trans rfl;have hcz31_2 : w29.cell? ⟨gb168, 2, none⟩ = some (.slice A0_2 l0_2.length c0_2):=(blk_cell BK168.out 2).trans rfl;have hfz31_0:=blk_frozen BK168.out 0;have hfz31_1:=blk_frozen BK168.out 1;have hfz31_2:=blk_frozen BK168.out 2)|((with_reducible refine gate_callee (f:=71) rfl ?_);refine goesL_ (some 10) rfl rfl Try.func71 (by kernel_rfl) rfl #[.agg #[.int .i64 a0_0, .int .i64 a0_1, .slice A0_2 l0_2.length c0_2]] rfl (by (try simp only [List.map_toArray, List.map_cons, List.map_nil]);first|done|rfl|(simp only [List.length_drop, List.length_take];rfl)) ?_;(with_reducible refine (convexpl_Check.calls k a0_0 a0_1 _ _ l0_2 t170 _ ?side1 ?side2 A4.out).mono ?_);(case side1=>repeat (first|exact (Kd.C_below HR0_2.out HB.out)|(with_reducible refine Kd.C_alloc ?_ _)|(with_reducible refine Kd.C_drewN ?_ _)|(with_reducible refine Kd.C_drew ?_)));(case side2=>exact HC0_2.out);rintro e w32 ⟨rfl, hb⟩;refine ⟨_, rfl, ?_⟩;have n0_:=Aside0.mk (blk_below (g:=gb168) (o:=.cells #[.int .i64 a0_0, .int .i64 a0_1, .slice A0_2 l0_2.length c0_2] 82 (0, 0)) (by (with_reducible repeat (first|refine blk_drewN ?_ _|refine blk_drew ?_|refine blk_alloc ?_ _));exact BK168.out) hb);have n1_:=Aside0.mk (blk_below (g:=gb169) (o:=.cells #[.int .i64 0, .int .i64 0, .slice none 0 0] 82 (0, 0)) (by (with_reducible repeat (first|refine blk_drewN ?_ _|refine blk_drew ?_|refine blk_alloc ?_ _));exact BK169.out) hb);have n2_:=Aside0.mk (below_step (by repeat (first|(with_reducible first|exact HB.out|apply below_alloc|apply pw_below_drewN|apply below_drew1|refine below_set ?_ GE168.out|refine below_set ?_ GE169.out)|exact HB.out)) hb);clear BK168;clear BK169;clear HB;have BK168:=n0_;have BK169:=n1_;have HB:=n2_;clear n0_ n1_ n2_;(try clear hb);(try clear hb2);(try clear hk);(try clear hi);have hcz33_0 : w32.cell? ⟨gb169, 0, none⟩ = some (.int .i64 0):=(blk_cell BK169.out 0).trans rfl;have hcz33_1 : w32.cell? ⟨gb169, 1, none⟩ = some (.int .i64 0):=(blk_cell BK169.out 1).trans rfl;have hcz33_2 : w32.cell? ⟨gb169, 2, none⟩ = some (.slice none 0 0):=(blk_cell BK169.out 2).trans rfl;have hfz33_0:=blk_frozen BK169.out 0;have hfz33_1:=blk_frozen BK169.out 1;have hfz33_2:=blk_frozen BK169.out 2))
  refine bodyPost_ret (results_ct rfl _ _ gb169 82 #[.int .i64 0, .int .i64 0, .slice none 0 0] (0, 0) _ rfl (by (with_reducible repeat (first|refine blk_drewN ?_ _|refine blk_drew ?_|refine blk_alloc ?_ _));refine blk_put (cs:=#[.int .i64 0, .int .i64 0, .slice none 0 0]) ?_ 2 _ rfl;(with_reducible repeat (first|refine blk_drewN ?_ _|refine blk_drew ?_|refine blk_alloc ?_ _));refine blk_put (cs:=#[.int .i64 0, .int .i64 0, .slice none 0 0]) ?_ 1 _ rfl;(with_reducible repeat (first|refine blk_drewN ?_ _|refine blk_drew ?_|refine blk_alloc ?_ _));refine blk_put (cs:=#[.int .i64 0, .int .i64 0, .slice none 0 0]) ?_ 0 _ rfl;(with_reducible repeat (first|refine blk_drewN ?_ _|refine blk_drew ?_|refine blk_alloc ?_ _));exact BK169.out) Try.underlying82 rfl (by kernel_rfl)) rfl ?_
  exact ⟨_, by first|rfl|(simp [errW_none, errW_some] <;> rfl)|(simp [*, errW_none, errW_some] <;> rfl), by first|exact Kd.R_nil _ _ _ _ _|exact Kd.N_nil _ _ _ _ _|exact Kd.V_nil _ _ _ _ _|exact Kd.Q_nil _ _ _ _ _|exact Kd.S_nil _ _ _ _ _, by repeat (first|(with_reducible first|exact HB.out|apply below_alloc|apply pw_below_drewN|apply below_drew1|refine below_set ?_ GE168.out|refine below_set ?_ GE169.out)|exact HB.out)⟩
def convexpl_Turn.l0 : Nat → Int → List (S88) → List (S88) → Int → Int → Int → Int → List (S88) → Option (Int × Int × (List (S88)) × Int)
|0, _, _, _, _, _, _, _, _ => none
|k + 1, x5, x6, x18, x19, x20, x182000, x182001, x182002 => if x20 < x19 then (if 0 ≤ x20 then (if x20 < (x18.length : Int) then (if x6.length < 8796093022208 then (convexpl_Turn.l0 k x5 (x6 ++ [(⟨(rd_T88 x18 x20).f0, wrap64 (-((rd_T88 x18 x20).f1))⟩ : S88)]) x18 x19 (wrap64 (x20 + 1)) x182000 x182001 x182002) else (none)) else (none)) else (none)) else ((convexpl_value.f k x182000 x182001 x182002 x5).bind fun t190 => ((convexpl_made.f k (wrap64 (-x5)) t190 x6).bind fun bt191 => (some (bt191.1, bt191.2.1, bt191.2.2.1, bt191.2.2.2.1))))
def convexpl_Turn.f (k : Nat) (a0_0 : Int) (a0_1 : Int) (l0_2 : List (S88)) : Option (Int × Int × (List (S88)) × Int) := (convexpl_Check.f k a0_0 a0_1 l0_2).bind fun t183 => (if t183 = 0 then ((convexpl_high.f k a0_0 a0_1 l0_2).bind fun t184 => (convexpl_Turn.l0 k t184 ([] : List (S88)) l0_2 (l0_2.length : Int) 0 a0_0 a0_1 l0_2)) else (some (0, 0, ([] : List (S88)), t183)))
theorem convexpl_Turn.mono_l : ∀ k, (∀ y0 y1 y2 y3 y4 y5 y6 y7, LeO (convexpl_Turn.l0 k y0 y1 y2 y3 y4 y5 y6 y7) (convexpl_Turn.l0 (k + 1) y0 y1 y2 y3 y4 y5 y6 y7))
|0 => fun _ _ _ _ _ _ _ _ r h => by simp [convexpl_Turn.l0] at h
|k + 1 => by
  have ih0:=convexpl_Turn.mono_l k
  ·intro y0 y1 y2 y3 y4 y5 y6 y7
   unfold convexpl_Turn.l0
   repeat' first
  |(with_reducible exact ih0 _ _ _ _ _ _ _ _)
  |(with_reducible exact convexpl_Check.mono _ _ _ _)
  |(with_reducible exact convexpl_high.mono _ _ _ _)
  |(with_reducible exact convexpl_made.mono _ _ _ _)
  |(with_reducible exact convexpl_value.mono _ _ _ _ _)
  |(with_reducible exact LeO.refl _)
  |(with_reducible exact LeO.none _)
  |(with_reducible refine LeO.ite ?_ ?_)
  |(with_reducible refine LeO.bind ?_ (fun _ => ?_))
  |exact ih0 _ _ _ _ _ _ _ _
  |exact convexpl_Check.mono _ _ _ _
  |exact convexpl_high.mono _ _ _ _
  |exact convexpl_made.mono _ _ _ _
  |exact convexpl_value.mono _ _ _ _ _
  |exact LeO.none _
  |refine LeO.ite ?_ ?_
  |refine LeO.bind ?_ (fun _ => ?_)
theorem convexpl_Turn.mono : ∀ a0 a1 a2 k, LeO (convexpl_Turn.f k a0 a1 a2) (convexpl_Turn.f (k + 1) a0 a1 a2) := by
 intro a0 a1 a2 k
 have ih0:=convexpl_Turn.mono_l k
 unfold convexpl_Turn.f
 repeat' first
  |(with_reducible exact ih0 _ _ _ _ _ _ _ _)
  |(with_reducible exact convexpl_Check.mono _ _ _ _)
  |(with_reducible exact convexpl_high.mono _ _ _ _)
  |(with_reducible exact convexpl_made.mono _ _ _ _)
  |(with_reducible exact convexpl_value.mono _ _ _ _ _)
  |(with_reducible exact LeO.refl _)
  |(with_reducible exact LeO.none _)
  |(with_reducible refine LeO.ite ?_ ?_)
  |(with_reducible refine LeO.bind ?_ (fun _ => ?_))
  |exact ih0 _ _ _ _ _ _ _ _
  |exact convexpl_Check.mono _ _ _ _
  |exact convexpl_high.mono _ _ _ _
  |exact convexpl_made.mono _ _ _ _
  |exact convexpl_value.mono _ _ _ _ _
  |exact LeO.none _
  |refine LeO.ite ?_ ?_
  |refine LeO.bind ?_ (fun _ => ?_)
set_option maxHeartbeats 8000000 in
set_option maxRecDepth 100000 in
theorem convexpl_Turn.calls (k : Nat) (a0_0 : Int) (a0_1 : Int) (A0_2 : Option Addr) (c0_2 : Nat) (l0_2 : List (S88)) (r1 : Int) (r2 : Int) (r3 : List (S88)) (r4 : Int) (w : World) (hr0_2 : Kd.C k88 w A0_2 l0_2.length l0_2) (hc0_2 : l0_2.length ≤ c0_2) (h : convexpl_Turn.f k a0_0 a0_1 l0_2 = some (r1, r2, r3, r4)) :
  Calls Try.prog 34 #[.agg #[.int .i64 a0_0, .int .i64 a0_1, .slice A0_2 l0_2.length c0_2]] w fun e w' => ∃ v2_ : Value, e = .returned (.tuple #[.agg #[.int .i64 r1, .int .i64 r2, v2_], .int .i64 r4]) ∧ Kd.R k88 88 w' w.heap.size (fun _ => True) v2_ r3 ∧ Below w.heap.size w w' := by
 have hu82:=Try.underlying82
 have hu88:=Try.underlying88
 have HR0_2:=Aside0.mk hr0_2
 have HC0_2:=Aside0.mk hc0_2
 clear hr0_2 hc0_2
 have HB:=Aside0.mk (Below.refl w.heap.size w)
 have H : ((convexpl_Check.f k a0_0 a0_1 l0_2).bind fun t183=>(if t183 = 0 then ((convexpl_high.f k a0_0 a0_1 l0_2).bind fun t184=>(convexpl_Turn.l0 k t184 ([] : List (S88)) l0_2 (l0_2.length : Int) 0 a0_0 a0_1 l0_2)) else (some (0, 0, ([] : List (S88)), t183)))) = some (r1, r2, r3, r4):=h
 clear h
 replace H:=Option.bind_eq_some_iff.mp H
 obtain ⟨t183, A20, H⟩:=H
 replace H : (if t183 = 0 then ((convexpl_high.f k a0_0 a0_1 l0_2).bind fun t184=>(convexpl_Turn.l0 k t184 ([] : List (S88)) l0_2 (l0_2.length : Int) 0 a0_0 a0_1 l0_2)) else (some (0, 0, ([] : List (S88)), t183))) = some (r1, r2, r3, r4):=H
 have A2:=Aside0.mk A20
 clear A20
 by_cases c3 : t183 = 0
 ·rw [if_pos c3] at H
  have c3b0 : (t183 == 0) = true:=beq_iff_eq.mpr c3
  have c3b1 : (t183 != 0) = false:=bne_eq_false_iff_eq.mpr c3
  clear c3
  replace H:=Option.bind_eq_some_iff.mp H
  obtain ⟨t184, A40, H⟩:=H
  replace H : (convexpl_Turn.l0 k t184 ([] : List (S88)) l0_2 (l0_2.length : Int) 0 a0_0 a0_1 l0_2) = some (r1, r2, r3, r4):=H
  have A4:=Aside0.mk A40
  clear A40
  have H':=Aside0.mk H
  clear H
  go_enter Try.func34, Try.ntmps34
  go_wp2_with (first|((with_reducible refine gate_dst (N:=1) rfl ?_);refine box_event ?hg (N:=1) ?hd (cs:=#[.int .i64 a0_0, .int .i64 a0_1, .slice A0_2 l0_2.length c0_2]) (t:=82) ?hr ?_;(case hd=>rfl);(case hg=>rfl);(case hr=>first|(go_simp;done)|(go_simp;rfl));intro gb181 hg w5 hbox hb;have n0_:=Aside0.mk (below_step (by repeat (first|(with_reducible first|exact HB.out|apply below_alloc|apply pw_below_drewN|apply below_drew1)|exact HB.out)) hb);have n1_:=Aside0.mk (hbox);have n2_:=Aside0.mk ((by rw [hg];exact (below_size (by repeat (first|(with_reducible first|exact HB.out|apply below_alloc|apply pw_below_drewN|apply below_drew1)|exact HB.out))) : w.heap.size ≤ gb181));have n3_:=Aside0.mk ((by rw [hg];exact (below_size (by repeat (first|(with_reducible first|exact HB.out|apply below_alloc|apply pw_below_drewN|apply below_drew1)|exact HB.out))) : w.heap.size ≤ gb181));clear HB;have HB:=n0_;have BK181:=n1_;have GW181:=n2_;have GE181:=n3_;clear n0_ n1_ n2_ n3_;clear hb hbox hg)|((with_reducible refine gate_dst (N:=2) rfl ?_);refine box_event ?hg (N:=2) ?hd (cs:=#[.int .i64 0, .int .i64 0, .slice none 0 0]) (t:=82) ?hr ?_;(case hd=>rfl);(case hg=>rfl);(case hr=>first|(go_simp;done)|(go_simp;rfl));intro gb182 hg w6 hbox hb;have n0_:=Aside0.mk (blk_below (g:=gb181) (o:=.cells #[.int .i64 a0_0, .int .i64 a0_1, .slice A0_2 l0_2.length c0_2] 82 (0, 0)) (by (with_reducible repeat (first|refine blk_drewN ?_ _|refine blk_drew ?_|refine blk_alloc ?_ _));exact BK181.out) hb);have n1_:=Aside0.mk (below_step (by repeat (first|(with_reducible first|exact HB.out|apply below_alloc|apply pw_below_drewN|apply below_drew1|refine below_set ?_ GE181.out)|exact HB.out)) hb);have n2_:=Aside0.mk (hbox);have n3_:=Aside0.mk ((by rw [hg];exact (below_size (by repeat (first|(with_reducible first|exact HB.out|apply below_alloc|apply pw_below_drewN|apply below_drew1|refine below_set ?_ GE181.out)|exact HB.out))) : w.heap.size ≤ gb182));have n4_:=Aside0.mk ((by rw [hg];exact (below_size (by repeat (first|(with_reducible first|exact HB.out|apply below_alloc|apply pw_below_drewN|apply below_drew1|refine below_set ?_ GE181.out)|exact HB.out))) : w.heap.size ≤ gb182));have n5_:=Aside0.mk ((by rw [hg];exact Nat.ne_of_lt (blk_lt (g:=gb181) (o:=.cells #[.int .i64 a0_0, .int .i64 a0_1, .slice A0_2 l0_2.length c0_2] 82 (0, 0)) (by (with_reducible repeat (first|refine blk_drewN ?_ _|refine blk_drew ?_|refine blk_alloc ?_ _));exact BK181.out)) : gb181 ≠ gb182));have n6_:=Aside0.mk ((by rw [hg];exact Nat.ne_of_gt (blk_lt (g:=gb181) (o:=.cells #[.int .i64 a0_0, .int .i64 a0_1, .slice A0_2 l0_2.length c0_2] 82 (0, 0)) (by (with_reducible repeat (first|refine blk_drewN ?_ _|refine blk_drew ?_|refine blk_alloc ?_ _));exact BK181.out)) : gb182 ≠ gb181));clear BK181;clear HB;have BK181:=n0_;have HB:=n1_;have BK182:=n2_;have GW182:=n3_;have GE182:=n4_;have NB181_182:=n5_;have NB182_181:=n6_;clear n0_ n1_ n2_ n3_ n4_ n5_ n6_;clear hb hbox hg;have hnb7:=NB181_182.out;have hnc7:=NB182_181.out;have hcz8_0 : w6.cell? ⟨gb181, 0, none⟩ = some (.int .i64 a0_0):=(blk_cell BK181.out 0).trans rfl;have hcz8_1 : w6.cell? ⟨gb181, 1, none⟩ = some (.int .i64 a0_1):=(blk_cell BK181.out 1).trans rfl;have hcz8_2 : w6.cell? ⟨gb181, 2, none⟩ = some (.slice A0_2 l0_2.length c0_2):=(blk_cell BK181.out 2).trans rfl;have hfz8_0:=blk_frozen BK181.out 0;have hfz8_1:=blk_frozen BK181.out 1;have hfz8_2:=blk_frozen BK181.out 2)|((with_reducible refine gate_callee (f:=71) rfl ?_);refine goesL_ (some 10) rfl rfl Try.func71 (by kernel_rfl) rfl #[.agg #[.int .i64 a0_0, .int .i64 a0_1, .slice A0_2 l0_2.length c0_2]] rfl (by (try simp only [List.map_toArray, List.map_cons, List.map_nil]);first|done|rfl|(simp only [List.length_drop, List.length_take];rfl)) ?_;(with_reducible refine (convexpl_Check.calls k a0_0 a0_1 _ _ l0_2 t183 _ ?side1 ?side2 A2.out).mono ?_);(case side1=>repeat (first|exact (Kd.C_below HR0_2.out HB.out)|(with_reducible refine Kd.C_alloc ?_ _)|(with_reducible refine Kd.C_drewN ?_ _)|(with_reducible refine Kd.C_drew ?_)));(case side2=>exact HC0_2.out);rintro e w9 ⟨rfl, hb⟩;refine ⟨_, rfl, ?_⟩;have n0_:=Aside0.mk (blk_below (g:=gb181) (o:=.cells #[.int .i64 a0_0, .int .i64 a0_1, .slice A0_2 l0_2.length c0_2] 82 (0, 0)) (by (with_reducible repeat (first|refine blk_drewN ?_ _|refine blk_drew ?_|refine blk_alloc ?_ _));exact BK181.out) hb);have n1_:=Aside0.mk (blk_below (g:=gb182) (o:=.cells #[.int .i64 0, .int .i64 0, .slice none 0 0] 82 (0, 0)) (by (with_reducible repeat (first|refine blk_drewN ?_ _|refine blk_drew ?_|refine blk_alloc ?_ _));exact BK182.out) hb);have n2_:=Aside0.mk (below_step (by repeat (first|(with_reducible first|exact HB.out|apply below_alloc|apply pw_below_drewN|apply below_drew1|refine below_set ?_ GE181.out|refine below_set ?_ GE182.out)|exact HB.out)) hb);clear BK181;clear BK182;clear HB;have BK181:=n0_;have BK182:=n1_;have HB:=n2_;clear n0_ n1_ n2_;(try clear hb);(try clear hb2);(try clear hk);(try clear hi);have hcz10_0 : w9.cell? ⟨gb181, 0, none⟩ = some (.int .i64 a0_0):=(blk_cell BK181.out 0).trans rfl;have hcz10_1 : w9.cell? ⟨gb181, 1, none⟩ = some (.int .i64 a0_1):=(blk_cell BK181.out 1).trans rfl;have hcz10_2 : w9.cell? ⟨gb181, 2, none⟩ = some (.slice A0_2 l0_2.length c0_2):=(blk_cell BK181.out 2).trans rfl;have hfz10_0:=blk_frozen BK181.out 0;have hfz10_1:=blk_frozen BK181.out 1;have hfz10_2:=blk_frozen BK181.out 2)|((with_reducible refine gate_callee (f:=72) rfl ?_);refine goesL_ (some 16) rfl rfl Try.func72 (by kernel_rfl) rfl #[.agg #[.int .i64 a0_0, .int .i64 a0_1, .slice A0_2 l0_2.length c0_2]] rfl (by (try simp only [List.map_toArray, List.map_cons, List.map_nil]);first|done|rfl|(simp only [List.length_drop, List.length_take];rfl)) ?_;(with_reducible refine (convexpl_high.calls k a0_0 a0_1 _ _ l0_2 t184 _ ?side1 ?side2 A4.out).mono ?_);(case side1=>repeat (first|exact (Kd.C_below HR0_2.out HB.out)|(with_reducible refine Kd.C_alloc ?_ _)|(with_reducible refine Kd.C_drewN ?_ _)|(with_reducible refine Kd.C_drew ?_)));(case side2=>exact HC0_2.out);rintro e w11 ⟨rfl, hb⟩;refine ⟨_, rfl, ?_⟩;have n0_:=Aside0.mk (blk_below (g:=gb181) (o:=.cells #[.int .i64 a0_0, .int .i64 a0_1, .slice A0_2 l0_2.length c0_2] 82 (0, 0)) (by (with_reducible repeat (first|refine blk_drewN ?_ _|refine blk_drew ?_|refine blk_alloc ?_ _));exact BK181.out) hb);have n1_:=Aside0.mk (blk_below (g:=gb182) (o:=.cells #[.int .i64 0, .int .i64 0, .slice none 0 0] 82 (0, 0)) (by (with_reducible repeat (first|refine blk_drewN ?_ _|refine blk_drew ?_|refine blk_alloc ?_ _));exact BK182.out) hb);have n2_:=Aside0.mk (below_step (by repeat (first|(with_reducible first|exact HB.out|apply below_alloc|apply pw_below_drewN|apply below_drew1|refine below_set ?_ GE181.out|refine below_set ?_ GE182.out)|exact HB.out)) hb);clear BK181;clear BK182;clear HB;have BK181:=n0_;have BK182:=n1_;have HB:=n2_;clear n0_ n1_ n2_;(try clear hb);(try clear hb2);(try clear hk);(try clear hi);have hcz12_0 : w11.cell? ⟨gb181, 0, none⟩ = some (.int .i64 a0_0):=(blk_cell BK181.out 0).trans rfl;have hcz12_1 : w11.cell? ⟨gb181, 1, none⟩ = some (.int .i64 a0_1):=(blk_cell BK181.out 1).trans rfl;have hcz12_2 : w11.cell? ⟨gb181, 2, none⟩ = some (.slice A0_2 l0_2.length c0_2):=(blk_cell BK181.out 2).trans rfl;have hfz12_0:=blk_frozen BK181.out 0;have hfz12_1:=blk_frozen BK181.out 1;have hfz12_2:=blk_frozen BK181.out 2))
  try simp only [Act.put, List.setIfInBounds_toArray, List.set_cons_succ, List.set_cons_zero]
  go_loopg [6, 20] k (fun kq v6 v20 w'=>∃ (x6_1 : List (S88)) (x20_1 : Int), v20 = .int .i64 x20_1∧Aside0 (convexpl_Turn.l0 kq t184 x6_1 l0_2 (l0_2.length : Int) x20_1 a0_0 a0_1 l0_2 = some (r1, r2, r3, r4))∧Aside0 (kq ≤ k)∧Aside0 (Kd.R k88 88 w' w.heap.size (fun _=>True) v6 x6_1)∧Aside0 (w'.heap[gb181]? = some (.cells #[.int .i64 a0_0, .int .i64 a0_1, (.slice A0_2 l0_2.length c0_2)] 82 (0, 0)))∧Aside0 (w'.heap[gb182]? = some (.cells #[.int .i64 0, .int .i64 0, (.slice none 0 0)] 82 (0, 0)))∧Aside0 (Below w.heap.size w w'))
  case atStart=>exact ⟨(([] : List (S88))),(0),(by first|rfl|(simp;done)|(simp [*];done)), H', ⟨Nat.le_refl _⟩,⟨by first|exact Kd.R_nil _ _ _ _ _|exact Kd.N_nil _ _ _ _ _|exact Kd.V_nil _ _ _ _ _|exact Kd.Q_nil _ _ _ _ _|exact Kd.S_nil _ _ _ _ _⟩,⟨by (with_reducible repeat (first|refine blk_drewN ?_ _|refine blk_drew ?_|refine blk_alloc ?_ _));exact BK181.out⟩,⟨by (with_reducible repeat (first|refine blk_drewN ?_ _|refine blk_drew ?_|refine blk_alloc ?_ _));exact BK182.out⟩,⟨by repeat (first|(with_reducible first|exact HB.out|apply below_alloc|apply pw_below_drewN|apply below_drew1|refine below_set ?_ GE181.out|refine below_set ?_ GE182.out)|exact HB.out)⟩⟩
  case round =>
   clear H'
   try clear p2
   try clear c3
   try clear c3b0
   try clear c3b1
   try clear c7
   try clear hcz10_0
   try clear hcz10_1
   try clear hcz10_2
   try clear hcz12_0
   try clear hcz12_1
   try clear hcz12_2
   try clear hcz8_0
   try clear hcz8_1
   try clear hcz8_2
   try clear hfz10_0
   try clear hfz10_1
   try clear hfz10_2
   try clear hfz12_0
   try clear hfz12_1
   try clear hfz12_2
   try clear hfz8_0
   try clear hfz8_1
   try clear hfz8_2
   obtain ⟨x6_1, x20_1, rfl, HA, HK1, HO_6, BK181, BK182, HB⟩:=hrel
   cases gk with
  |zero => exact absurd HA.out (by simp [convexpl_Turn.l0])
  |succ k1 =>
    have H:=HA.out
    clear HA
    simp only [convexpl_Turn.l0] at H
    by_cases c13 : x20_1 < (l0_2.length : Int)
    ·rw [if_pos c13] at H
     have c13b0 : decide (x20_1 < (l0_2.length : Int)) = true:=decide_eq_true c13
     clear c13
     by_cases c14 : 0 ≤ x20_1
     ·rw [if_pos c14] at H
      have c14b0 : decide (0 ≤ x20_1) = true:=decide_eq_true c14
      clear c14
      by_cases c15 : x20_1 < (l0_2.length : Int)
      ·rw [if_pos c15] at H
       have c15b0 : decide (x20_1 < (l0_2.length : Int)) = true:=decide_eq_true c15
       clear c15
       by_cases c16 : x6_1.length < 8796093022208
       ·rw [if_pos c16] at H
        have LMc16:=Aside0.mk c16
        clear c16
        obtain ⟨y187, hy187⟩ : ∃ y_ : List (S88), y_ = (x6_1 ++ [(⟨(rd_T88 l0_2 x20_1).f0, wrap64 (-((rd_T88 l0_2 x20_1).f1))⟩ : S88)]):=⟨_, rfl⟩
        replace H : (convexpl_Turn.l0 k1 t184 y187 l0_2 (l0_2.length : Int) (wrap64 (x20_1 + 1)) a0_0 a0_1 l0_2) = some (r1, r2, r3, r4):=by first|(rw [hy187];with_reducible exact H)|(have H2_:=(Option.bind_some _ _).symm.trans H;rw [hy187];with_reducible exact H2_)|(have H2_:=(Option.bind_some _ _).symm.trans H;with_reducible exact H2_)|with_reducible exact H|(rw [hy187];exact H)|exact H
        have Ny187:=Aside0.mk hy187
        clear hy187
        have H':=Aside0.mk H
        clear H
        have p185 : 0 ≤ (x20_1 : Int):=of_decide_eq_true (by first|(with_reducible assumption)|assumption)
        have q185 : x20_1 < (l0_2.length : Int):=of_decide_eq_true (by first|(with_reducible assumption)|assumption)
        obtain ⟨ad185, e185, hx185_0, hx185_1⟩:=at_T88 HR0_2.out x20_1 p185 q185
        cases e185
        replace hx185_0:=(HB.out.cell (World.block_lt_of_cell? w _ hx185_0)).trans hx185_0
        replace hx185_1:=(HB.out.cell (World.block_lt_of_cell? w _ hx185_1)).trans hx185_1
        replace p185:=eq_true p185
        replace q185:=eq_true q185
        go_wp2_with (first|((with_reducible refine gate_dst (N:=8) rfl ?_);refine box_event ?hg (N:=8) ?hd (cs:=#[.int .i64 0, .int .i64 0]) (t:=88) ?hr ?_;(case hd=>rfl);(case hg=>rfl);(case hr=>first|(go_simp;done)|(go_simp;rfl));intro gb186 hg w17 hbox hb;have n0_:=Aside0.mk (Kd.R_below (Kd.R_elderB (by (with_reducible repeat (first|apply Kd.R_alloc|apply Kd.R_drewN|apply Kd.R_drew));exact HO_6.out) gb186 (Nat.le_of_eq hg.symm)) hb);have n1_:=Aside0.mk (blk_below (g:=gb181) (o:=.cells #[.int .i64 a0_0, .int .i64 a0_1, .slice (some ad185) l0_2.length c0_2] 82 (0, 0)) (by (with_reducible repeat (first|refine blk_drewN ?_ _|refine blk_drew ?_|refine blk_alloc ?_ _));exact BK181.out) hb);have n2_:=Aside0.mk (blk_below (g:=gb182) (o:=.cells #[.int .i64 0, .int .i64 0, .slice none 0 0] 82 (0, 0)) (by (with_reducible repeat (first|refine blk_drewN ?_ _|refine blk_drew ?_|refine blk_alloc ?_ _));exact BK182.out) hb);have n3_:=Aside0.mk (below_step (by repeat (first|(with_reducible first|exact HB.out|apply below_alloc|apply pw_below_drewN|apply below_drew1|refine below_set ?_ GE181.out|refine below_set ?_ GE182.out)|exact HB.out)) hb);have n4_:=Aside0.mk (hbox);have n5_:=Aside0.mk ((by rw [hg];exact (below_size (by repeat (first|(with_reducible first|exact HB.out|apply below_alloc|apply pw_below_drewN|apply below_drew1|refine below_set ?_ GE181.out|refine below_set ?_ GE182.out)|exact HB.out))) : w.heap.size ≤ gb186));have n6_:=Aside0.mk ((by rw [hg];exact (below_size (by repeat (first|(with_reducible first|exact HB.out|apply below_alloc|apply pw_below_drewN|apply below_drew1|refine below_set ?_ GE181.out|refine below_set ?_ GE182.out)|exact HB.out))) : w.heap.size ≤ gb186));have n7_:=Aside0.mk ((by rw [hg];exact Nat.ne_of_lt (blk_lt (g:=gb181) (o:=.cells #[.int .i64 a0_0, .int .i64 a0_1, .slice (some ad185) l0_2.length c0_2] 82 (0, 0)) (by (with_reducible repeat (first|refine blk_drewN ?_ _|refine blk_drew ?_|refine blk_alloc ?_ _));exact BK181.out)) : gb181 ≠ gb186));have n8_:=Aside0.mk ((by rw [hg];exact Nat.ne_of_gt (blk_lt (g:=gb181) (o:=.cells #[.int .i64 a0_0, .int .i64 a0_1, .slice (some ad185) l0_2.length c0_2] 82 (0, 0)) (by (with_reducible repeat (first|refine blk_drewN ?_ _|refine blk_drew ?_|refine blk_alloc ?_ _));exact BK181.out)) : gb186 ≠ gb181));have n9_:=Aside0.mk ((by rw [hg];exact Nat.ne_of_lt (blk_lt (g:=gb182) (o:=.cells #[.int .i64 0, .int .i64 0, .slice none 0 0] 82 (0, 0)) (by (with_reducible repeat (first|refine blk_drewN ?_ _|refine blk_drew ?_|refine blk_alloc ?_ _));exact BK182.out)) : gb182 ≠ gb186));have n10_:=Aside0.mk ((by rw [hg];exact Nat.ne_of_gt (blk_lt (g:=gb182) (o:=.cells #[.int .i64 0, .int .i64 0, .slice none 0 0] 82 (0, 0)) (by (with_reducible repeat (first|refine blk_drewN ?_ _|refine blk_drew ?_|refine blk_alloc ?_ _));exact BK182.out)) : gb186 ≠ gb182));clear HO_6;clear BK181;clear BK182;clear HB;have HO_6:=n0_;have BK181:=n1_;have BK182:=n2_;have HB:=n3_;have BK186:=n4_;have GW186:=n5_;have GE186:=n6_;have NB181_186:=n7_;have NB186_181:=n8_;have NB182_186:=n9_;have NB186_182:=n10_;clear n0_ n1_ n2_ n3_ n4_ n5_ n6_ n7_ n8_ n9_ n10_;clear hb hbox hg;have hnb18:=NB186_181.out;have hnc18:=NB181_186.out;have hnb19:=NB186_182.out;have hnc19:=NB182_186.out;have hcz20_0 : w17.cell? ⟨gb186, 0, none⟩ = some (.int .i64 0):=(blk_cell BK186.out 0).trans rfl;have hcz20_1 : w17.cell? ⟨gb186, 1, none⟩ = some (.int .i64 0):=(blk_cell BK186.out 1).trans rfl;have hfz20_0:=blk_frozen BK186.out 0;have hfz20_1:=blk_frozen BK186.out 1)|((with_reducible refine gate_builtin (b:=.append) (xs:=#[.tmp 24, .tmp 31]) rfl ?_);at_builtin;refine Kd.R_append k88 (w0:=w) w.heap.size rfl (.tmp 24) (.tmp 31) 80 88 (.agg #[(.int .i64 0),(.int .i64 0)]) 16 rfl Try.underlying80 info88 rfl (by decide) (by omega) u6 x6_1 (⟨(rd_T88 l0_2 x20_1).f0, wrap64 (-((rd_T88 l0_2 x20_1).f1))⟩ : S88) [.int .i64 ((rd_T88 l0_2 x20_1).f0), .int .i64 (wrap64 (-((rd_T88 l0_2 x20_1).f1)))] (fun k_=>k_ ≠ gb186) (fun _=>False) rfl (by first|(go_simp;done)|(go_simp;rfl)) ?aP (fun _ hk=>hk.elim) ?aF ?aO ?aB ?aS ?aL ?_;(case aP=>exact k88_mkM _ _ _ (⟨(rd_T88 l0_2 x20_1).f0, wrap64 (-((rd_T88 l0_2 x20_1).f1))⟩ : S88));(case aB=>exact (by repeat (first|(with_reducible first|exact HB.out|apply below_alloc|apply pw_below_drewN|apply below_drew1|refine below_set ?_ GE181.out|refine below_set ?_ GE182.out|refine below_set ?_ GE186.out)|exact HB.out)));(case aF=>exact (fun k_ hk=>Kd.freshB (g:=gb186) (o:=.cells #[.int .i64 ((rd_T88 l0_2 x20_1).f0), .int .i64 ((rd_T88 l0_2 x20_1).f1)] 88 (0, 0)) (by (with_reducible repeat (first|refine blk_drewN ?_ _|refine blk_drew ?_|refine blk_alloc ?_ _));refine blk_put (cs:=#[.int .i64 ((rd_T88 l0_2 x20_1).f0), .int .i64 0]) ?_ 1 _ rfl;(with_reducible repeat (first|refine blk_drewN ?_ _|refine blk_drew ?_|refine blk_alloc ?_ _));refine blk_put (cs:=#[.int .i64 0, .int .i64 0]) ?_ 0 _ rfl;(with_reducible repeat (first|refine blk_drewN ?_ _|refine blk_drew ?_|refine blk_alloc ?_ _));exact BK186.out) k_ hk));(case aO=>exact (by (with_reducible repeat (first|apply Kd.R_alloc|apply Kd.R_drewN|apply Kd.R_drew));exact Kd.R_mono (Kd.R_far (p:=⟨gb186, 1, none⟩) (Kd.R_far (p:=⟨gb186, 0, none⟩) (Kd.R_mono HO_6.out (fun k_ hk=>(⟨hk, hk.2⟩ : _∧k_ ≠ gb186))) (fun _ hk=>hk.2) (.int .i64 ((rd_T88 l0_2 x20_1).f0))) (fun _ hk=>hk.2) (.int .i64 ((rd_T88 l0_2 x20_1).f1))) (fun _ hk=>hk.1.2)));(case aS=>exact (below_size (by repeat (first|(with_reducible first|exact HB.out|apply below_alloc|apply pw_below_drewN|apply below_drew1|refine below_set ?_ GE181.out|refine below_set ?_ GE182.out|refine below_set ?_ GE186.out)|exact HB.out))));(case aL=>have:=LMc16.out;omega);intro v188 w21 ho hb hg hat;rw [← Ny187.out] at ho;have n0_:=Aside0.mk (blk_grown (g:=gb181) (o:=.cells #[.int .i64 a0_0, .int .i64 a0_1, .slice (some ad185) l0_2.length c0_2] 82 (0, 0)) (by (with_reducible repeat (first|refine blk_drewN ?_ _|refine blk_drew ?_|refine blk_alloc ?_ _));refine blk_far ?_ NB181_186.out _;(with_reducible repeat (first|refine blk_drewN ?_ _|refine blk_drew ?_|refine blk_alloc ?_ _));refine blk_far ?_ NB181_186.out _;(with_reducible repeat (first|refine blk_drewN ?_ _|refine blk_drew ?_|refine blk_alloc ?_ _));exact BK181.out) hg (Kd.R_ne HO_6.out BK181.out (by decide)));have n1_:=Aside0.mk (blk_grown (g:=gb182) (o:=.cells #[.int .i64 0, .int .i64 0, .slice none 0 0] 82 (0, 0)) (by (with_reducible repeat (first|refine blk_drewN ?_ _|refine blk_drew ?_|refine blk_alloc ?_ _));refine blk_far ?_ NB182_186.out _;(with_reducible repeat (first|refine blk_drewN ?_ _|refine blk_drew ?_|refine blk_alloc ?_ _));refine blk_far ?_ NB182_186.out _;(with_reducible repeat (first|refine blk_drewN ?_ _|refine blk_drew ?_|refine blk_alloc ?_ _));exact BK182.out) hg (Kd.R_ne HO_6.out BK182.out (by decide)));have n2_:=Aside0.mk (blk_grown (g:=gb186) (o:=.cells #[.int .i64 ((rd_T88 l0_2 x20_1).f0), .int .i64 ((rd_T88 l0_2 x20_1).f1)] 88 (0, 0)) (by (with_reducible repeat (first|refine blk_drewN ?_ _|refine blk_drew ?_|refine blk_alloc ?_ _));refine blk_put (cs:=#[.int .i64 ((rd_T88 l0_2 x20_1).f0), .int .i64 0]) ?_ 1 _ rfl;(with_reducible repeat (first|refine blk_drewN ?_ _|refine blk_drew ?_|refine blk_alloc ?_ _));refine blk_put (cs:=#[.int .i64 0, .int .i64 0]) ?_ 0 _ rfl;(with_reducible repeat (first|refine blk_drewN ?_ _|refine blk_drew ?_|refine blk_alloc ?_ _));exact BK186.out) hg (Kd.R_away HO_6.out (fun _ hk=>hk.2)));have n3_:=Aside0.mk (hb);have n4_:=Aside0.mk (ho);clear BK181;clear BK182;clear BK186;clear HB;clear HO_6;have BK181:=n0_;have BK182:=n1_;have BK186:=n2_;have HB:=n3_;have HO189:=n4_;clear n0_ n1_ n2_ n3_ n4_;clear ho hb hg hat))
        go_roundg k1
        case measure=>have:=HK1.out;omega
        case rel=>exact ⟨(y187),(wrap64 (x20_1 + 1)),(by first|rfl|(simp;done)|(simp [*];done)), H', ⟨by have:=HK1.out;omega⟩,⟨by (with_reducible repeat (first|apply Kd.R_alloc|apply Kd.R_drewN|apply Kd.R_drew));exact Kd.R_mono HO189.out (fun _ hk=>trivial)⟩,⟨by (with_reducible repeat (first|refine blk_drewN ?_ _|refine blk_drew ?_|refine blk_alloc ?_ _));exact BK181.out⟩,⟨by (with_reducible repeat (first|refine blk_drewN ?_ _|refine blk_drew ?_|refine blk_alloc ?_ _));exact BK182.out⟩,⟨by repeat (first|(with_reducible first|exact HB.out|apply below_alloc|apply pw_below_drewN|apply below_drew1|refine below_set ?_ GE181.out|refine below_set ?_ GE182.out|refine below_set ?_ GE186.out)|exact HB.out)⟩⟩
       ·rw [if_neg c16] at H
        exact absurd H (by simp)
      ·rw [if_neg c15] at H
       exact absurd H (by simp)
     ·rw [if_neg c14] at H
      exact absurd H (by simp)
    ·rw [if_neg c13] at H
     have c13b0 : decide (x20_1 < (l0_2.length : Int)) = false:=decide_eq_false c13
     clear c13
     replace H:=Option.bind_eq_some_iff.mp H
     obtain ⟨t190, A220, H⟩:=H
     replace H : ((convexpl_made.f k1 (wrap64 (-t184)) t190 x6_1).bind fun bt191=>(some (bt191.1, bt191.2.1, bt191.2.2.1, bt191.2.2.2.1))) = some (r1, r2, r3, r4):=H
     have A22:=Aside0.mk A220
     clear A220
     replace H:=Option.bind_eq_some_iff.mp H
     obtain ⟨⟨t191, t192, t193, t196, t197⟩, A230, H⟩:=H
     replace H : (some (t191, t192, t193, t196)) = some (r1, r2, r3, r4):=H
     have A23:=Aside0.mk A230
     clear A230
     simp only [Option.some.injEq, Prod.mk.injEq] at H
     obtain ⟨rfl, rfl, rfl, rfl⟩:=H
     have hnb24:=NB181_182.out
     have hnc24:=NB182_181.out
     have hcz25_0 : wr.cell? ⟨gb181, 0, none⟩ = some (.int .i64 a0_0):=(blk_cell BK181.out 0).trans rfl
     have hcz25_1 : wr.cell? ⟨gb181, 1, none⟩ = some (.int .i64 a0_1):=(blk_cell BK181.out 1).trans rfl
     have hcz25_2 : wr.cell? ⟨gb181, 2, none⟩ = some (.slice A0_2 l0_2.length c0_2):=(blk_cell BK181.out 2).trans rfl
     have hfz25_0:=blk_frozen BK181.out 0
     have hfz25_1:=blk_frozen BK181.out 1
     have hfz25_2:=blk_frozen BK181.out 2
     go_wp2_with (first|((with_reducible refine gate_callee (f:=74) rfl ?_);refine goesL_ (some 38) rfl rfl Try.func74 (by kernel_rfl) rfl #[.agg #[.int .i64 a0_0, .int .i64 a0_1, .slice A0_2 l0_2.length c0_2], .int .i64 t184] rfl (by (try simp only [List.map_toArray, List.map_cons, List.map_nil]);first|done|rfl|(simp only [List.length_drop, List.length_take];rfl)) ?_;(with_reducible refine (convexpl_value.calls k1 a0_0 a0_1 _ _ l0_2 t184 t190 _ ?side1 ?side2 A22.out).mono ?_);(case side1=>repeat (first|exact (Kd.C_below HR0_2.out HB.out)|(with_reducible refine Kd.C_alloc ?_ _)|(with_reducible refine Kd.C_drewN ?_ _)|(with_reducible refine Kd.C_drew ?_)));(case side2=>exact HC0_2.out);rintro e w26 ⟨rfl, hb⟩;refine ⟨_, rfl, ?_⟩;have n0_:=Aside0.mk (Kd.R_below (by (with_reducible repeat (first|apply Kd.R_alloc|apply Kd.R_drewN|apply Kd.R_drew));exact HO_6.out) hb);have n1_:=Aside0.mk (blk_below (g:=gb181) (o:=.cells #[.int .i64 a0_0, .int .i64 a0_1, .slice A0_2 l0_2.length c0_2] 82 (0, 0)) (by (with_reducible repeat (first|refine blk_drewN ?_ _|refine blk_drew ?_|refine blk_alloc ?_ _));exact BK181.out) hb);have n2_:=Aside0.mk (blk_below (g:=gb182) (o:=.cells #[.int .i64 0, .int .i64 0, .slice none 0 0] 82 (0, 0)) (by (with_reducible repeat (first|refine blk_drewN ?_ _|refine blk_drew ?_|refine blk_alloc ?_ _));exact BK182.out) hb);have n3_:=Aside0.mk (below_step (by repeat (first|(with_reducible first|exact HB.out|apply below_alloc|apply pw_below_drewN|apply below_drew1|refine below_set ?_ GE181.out|refine below_set ?_ GE182.out)|exact HB.out)) hb);clear HO_6;clear BK181;clear BK182;clear HB;have HO_6:=n0_;have BK181:=n1_;have BK182:=n2_;have HB:=n3_;clear n0_ n1_ n2_ n3_;(try clear hb);(try clear hb2);(try clear hk);(try clear hi);obtain ⟨Ao27, co27, eo27⟩:=Kd.R_slice HO_6.out;subst eo27)|((with_reducible refine gate_callee (f:=73) rfl ?_);refine goesL_ (some 40) rfl rfl Try.func73 (by kernel_rfl) rfl #[.int .i64 (wrap64 (-t184)), .int .i64 t190, .slice Ao27 x6_1.length co27] rfl (by (try simp only [List.map_toArray, List.map_cons, List.map_nil]);first|done|rfl|(simp only [List.length_drop, List.length_take];rfl)) ?_;(with_reducible refine (convexpl_made.calls k1 (wrap64 (-t184)) t190 (fun k_=>some k_ = (.slice Ao27 x6_1.length co27 : Value).ownBlock) (.slice Ao27 x6_1.length co27) x6_1 t191 t192 t193 t196 t197 w _ ?side1 ?side2 A23.out).mono ?_);(case side1=>repeat (first|(with_reducible first|exact HB.out|apply below_alloc|apply pw_below_drewN|apply below_drew1|refine below_set ?_ GE181.out|refine below_set ?_ GE182.out)|exact HB.out));(case side2=>exact Kd.R_tight rfl HO_6.out);rintro e w28 ⟨v194, rfl, ho0, hy0, hb, hkp⟩;refine ⟨_, rfl, ?_⟩;have n0_:=Aside0.mk (Kd.R_reok rfl hy0 (fun k_ e_=>HO_6.out.1 k_ e_));have n1_:=Aside0.mk (blk_kept (by (with_reducible repeat (first|refine blk_drewN ?_ _|refine blk_drew ?_|refine blk_alloc ?_ _));exact BK181.out) hkp (fun hs_=>(fun e_=>(Kd.R_ne HO_6.out BK181.out (by decide)) e_) hs_));have n2_:=Aside0.mk (blk_kept (by (with_reducible repeat (first|refine blk_drewN ?_ _|refine blk_drew ?_|refine blk_alloc ?_ _));exact BK182.out) hkp (fun hs_=>(fun e_=>(Kd.R_ne HO_6.out BK182.out (by decide)) e_) hs_));have n3_:=Aside0.mk (Kd.R_mono (ok':=fun k_=>some k_ ≠ (.slice Ao27 x6_1.length co27 : Value).ownBlock) ho0 (fun k_ hk_=>hk_.2));have n4_:=Aside0.mk (hb);clear HO_6;clear BK181;clear BK182;clear HB;have HO_6:=n0_;have BK181:=n1_;have BK182:=n2_;have HO195:=n3_;have HB:=n4_;clear n0_ n1_ n2_ n3_ n4_;(try clear hb);(try clear hkp);(try clear ho0);(try clear hy0);have hcz29_0 : w28.cell? ⟨gb182, 0, none⟩ = some (.int .i64 0):=(blk_cell BK182.out 0).trans rfl;have hcz29_1 : w28.cell? ⟨gb182, 1, none⟩ = some (.int .i64 0):=(blk_cell BK182.out 1).trans rfl;have hcz29_2 : w28.cell? ⟨gb182, 2, none⟩ = some (.slice none 0 0):=(blk_cell BK182.out 2).trans rfl;have hfz29_0:=blk_frozen BK182.out 0;have hfz29_1:=blk_frozen BK182.out 1;have hfz29_2:=blk_frozen BK182.out 2;obtain ⟨Ao30, co30, eo30⟩:=Kd.R_slice HO195.out;subst eo30))
     refine bodyPost_ret (results_ct rfl _ _ gb182 82 #[.int .i64 t191, .int .i64 t192, .slice Ao30 t193.length co30] (0, 0) _ rfl (by (with_reducible repeat (first|refine blk_drewN ?_ _|refine blk_drew ?_|refine blk_alloc ?_ _));refine blk_put (cs:=#[.int .i64 t191, .int .i64 t192, .slice none 0 0]) ?_ 2 _ rfl;(with_reducible repeat (first|refine blk_drewN ?_ _|refine blk_drew ?_|refine blk_alloc ?_ _));refine blk_put (cs:=#[.int .i64 t191, .int .i64 0, .slice none 0 0]) ?_ 1 _ rfl;(with_reducible repeat (first|refine blk_drewN ?_ _|refine blk_drew ?_|refine blk_alloc ?_ _));refine blk_put (cs:=#[.int .i64 0, .int .i64 0, .slice none 0 0]) ?_ 0 _ rfl;(with_reducible repeat (first|refine blk_drewN ?_ _|refine blk_drew ?_|refine blk_alloc ?_ _));exact BK182.out) Try.underlying82 rfl (by kernel_rfl)) rfl ?_
     exact ⟨_, by first|rfl|(simp [errW_none, errW_some] <;> rfl)|(simp [*, errW_none, errW_some] <;> rfl), by (with_reducible repeat (first|apply Kd.R_alloc|apply Kd.R_drewN|apply Kd.R_drew));exact Kd.R_mono (Kd.R_far (p:=⟨gb182, 2, none⟩) (Kd.R_far (p:=⟨gb182, 1, none⟩) (Kd.R_far (p:=⟨gb182, 0, none⟩) (Kd.R_types HO195.out BK182.out (by decide)) (fun _ hk=>hk.2) (.int .i64 t191)) (fun _ hk=>hk.2) (.int .i64 t192)) (fun _ hk=>hk.2) (.slice Ao30 t193.length co30)) (fun _ hk=>trivial), by repeat (first|(with_reducible first|exact HB.out|apply below_alloc|apply pw_below_drewN|apply below_drew1|refine below_set ?_ GE181.out|refine below_set ?_ GE182.out)|exact HB.out)⟩
 ·rw [if_neg c3] at H
  have c3b0 : (t183 == 0) = false:=beq_eq_false_iff_ne.mpr c3
  have c3b1 : (t183 != 0) = true:=bne_iff_ne.mpr c3
  simp only [Option.some.injEq, Prod.mk.injEq] at H
  obtain ⟨rfl, rfl, rfl, rfl⟩:=H
  go_enter Try.func34, Try.ntmps34
  go_wp2_with (first|((with_reducible refine gate_dst (N:=1) rfl ?_);refine box_event ?hg (N:=1) ?hd (cs:=#[.int .i64 a0_0, .int .i64 a0_1, .slice A0_2 l0_2.length c0_2]) (t:=82) ?hr ?_;(case hd=>rfl);(case hg=>rfl);(case hr=>first|(go_simp;done)|(go_simp;rfl));intro gb181 hg w31 hbox hb;have n0_:=Aside0.mk (below_step (by repeat (first|(with_reducible first|exact HB.out|apply below_alloc|apply pw_below_drewN|apply below_drew1)|exact HB.out)) hb);have n1_:=Aside0.mk (hbox);have n2_:=Aside0.mk ((by rw [hg];exact (below_size (by repeat (first|(with_reducible first|exact HB.out|apply below_alloc|apply pw_below_drewN|apply below_drew1)|exact HB.out))) : w.heap.size ≤ gb181));have n3_:=Aside0.mk ((by rw [hg];exact (below_size (by repeat (first|(with_reducible first|exact HB.out|apply below_alloc|apply pw_below_drewN|apply below_drew1)|exact HB.out))) : w.heap.size ≤ gb181));clear HB;have HB:=n0_;have BK181:=n1_;have GW181:=n2_;have GE181:=n3_;clear n0_ n1_ n2_ n3_;clear hb hbox hg)|((with_reducible refine gate_dst (N:=2) rfl ?_);refine box_event ?hg (N:=2) ?hd (cs:=#[.int .i64 0, .int .i64 0, .slice none 0 0]) (t:=82) ?hr ?_;(case hd=>rfl);(case hg=>rfl);(case hr=>first|(go_simp;done)|(go_simp;rfl));intro gb182 hg w32 hbox hb;have n0_:=Aside0.mk (blk_below (g:=gb181) (o:=.cells #[.int .i64 a0_0, .int .i64 a0_1, .slice A0_2 l0_2.length c0_2] 82 (0, 0)) (by (with_reducible repeat (first|refine blk_drewN ?_ _|refine blk_drew ?_|refine blk_alloc ?_ _));exact BK181.out) hb);have n1_:=Aside0.mk (below_step (by repeat (first|(with_reducible first|exact HB.out|apply below_alloc|apply pw_below_drewN|apply below_drew1|refine below_set ?_ GE181.out)|exact HB.out)) hb);have n2_:=Aside0.mk (hbox);have n3_:=Aside0.mk ((by rw [hg];exact (below_size (by repeat (first|(with_reducible first|exact HB.out|apply below_alloc|apply pw_below_drewN|apply below_drew1|refine below_set ?_ GE181.out)|exact HB.out))) : w.heap.size ≤ gb182));have n4_:=Aside0.mk ((by rw [hg];exact (below_size (by repeat (first|(with_reducible first|exact HB.out|apply below_alloc|apply pw_below_drewN|apply below_drew1|refine below_set ?_ GE181.out)|exact HB.out))) : w.heap.size ≤ gb182));have n5_:=Aside0.mk ((by rw [hg];exact Nat.ne_of_lt (blk_lt (g:=gb181) (o:=.cells #[.int .i64 a0_0, .int .i64 a0_1, .slice A0_2 l0_2.length c0_2] 82 (0, 0)) (by (with_reducible repeat (first|refine blk_drewN ?_ _|refine blk_drew ?_|refine blk_alloc ?_ _));exact BK181.out)) : gb181 ≠ gb182));have n6_:=Aside0.mk ((by rw [hg];exact Nat.ne_of_gt (blk_lt (g:=gb181) (o:=.cells #[.int .i64 a0_0, .int .i64 a0_1, .slice A0_2 l0_2.length c0_2] 82 (0, 0)) (by (with_reducible repeat (first|refine blk_drewN ?_ _|refine blk_drew ?_|refine blk_alloc ?_ _));exact BK181.out)) : gb182 ≠ gb181));clear BK181;clear HB;have BK181:=n0_;have HB:=n1_;have BK182:=n2_;have GW182:=n3_;have GE182:=n4_;have NB181_182:=n5_;have NB182_181:=n6_;clear n0_ n1_ n2_ n3_ n4_ n5_ n6_;clear hb hbox hg;have hnb33:=NB181_182.out;have hnc33:=NB182_181.out;have hcz34_0 : w32.cell? ⟨gb181, 0, none⟩ = some (.int .i64 a0_0):=(blk_cell BK181.out 0).trans rfl;have hcz34_1 : w32.cell? ⟨gb181, 1, none⟩ = some (.int .i64 a0_1):=(blk_cell BK181.out 1).trans rfl;have hcz34_2 : w32.cell? ⟨gb181, 2, none⟩ = some (.slice A0_2 l0_2.length c0_2):=(blk_cell BK181.out 2).trans rfl;have hfz34_0:=blk_frozen BK181.out 0;have hfz34_1:=blk_frozen BK181.out 1;have hfz34_2:=blk_frozen BK181.out 2)|((with_reducible refine gate_callee (f:=71) rfl ?_);refine goesL_ (some 10) rfl rfl Try.func71 (by kernel_rfl) rfl #[.agg #[.int .i64 a0_0, .int .i64 a0_1, .slice A0_2 l0_2.length c0_2]] rfl (by (try simp only [List.map_toArray, List.map_cons, List.map_nil]);first|done|rfl|(simp only [List.length_drop, List.length_take];rfl)) ?_;(with_reducible refine (convexpl_Check.calls k a0_0 a0_1 _ _ l0_2 t183 _ ?side1 ?side2 A2.out).mono ?_);(case side1=>repeat (first|exact (Kd.C_below HR0_2.out HB.out)|(with_reducible refine Kd.C_alloc ?_ _)|(with_reducible refine Kd.C_drewN ?_ _)|(with_reducible refine Kd.C_drew ?_)));(case side2=>exact HC0_2.out);rintro e w35 ⟨rfl, hb⟩;refine ⟨_, rfl, ?_⟩;have n0_:=Aside0.mk (blk_below (g:=gb181) (o:=.cells #[.int .i64 a0_0, .int .i64 a0_1, .slice A0_2 l0_2.length c0_2] 82 (0, 0)) (by (with_reducible repeat (first|refine blk_drewN ?_ _|refine blk_drew ?_|refine blk_alloc ?_ _));exact BK181.out) hb);have n1_:=Aside0.mk (blk_below (g:=gb182) (o:=.cells #[.int .i64 0, .int .i64 0, .slice none 0 0] 82 (0, 0)) (by (with_reducible repeat (first|refine blk_drewN ?_ _|refine blk_drew ?_|refine blk_alloc ?_ _));exact BK182.out) hb);have n2_:=Aside0.mk (below_step (by repeat (first|(with_reducible first|exact HB.out|apply below_alloc|apply pw_below_drewN|apply below_drew1|refine below_set ?_ GE181.out|refine below_set ?_ GE182.out)|exact HB.out)) hb);clear BK181;clear BK182;clear HB;have BK181:=n0_;have BK182:=n1_;have HB:=n2_;clear n0_ n1_ n2_;(try clear hb);(try clear hb2);(try clear hk);(try clear hi);have hcz36_0 : w35.cell? ⟨gb182, 0, none⟩ = some (.int .i64 0):=(blk_cell BK182.out 0).trans rfl;have hcz36_1 : w35.cell? ⟨gb182, 1, none⟩ = some (.int .i64 0):=(blk_cell BK182.out 1).trans rfl;have hcz36_2 : w35.cell? ⟨gb182, 2, none⟩ = some (.slice none 0 0):=(blk_cell BK182.out 2).trans rfl;have hfz36_0:=blk_frozen BK182.out 0;have hfz36_1:=blk_frozen BK182.out 1;have hfz36_2:=blk_frozen BK182.out 2))
  refine bodyPost_ret (results_ct rfl _ _ gb182 82 #[.int .i64 0, .int .i64 0, .slice none 0 0] (0, 0) _ rfl (by (with_reducible repeat (first|refine blk_drewN ?_ _|refine blk_drew ?_|refine blk_alloc ?_ _));refine blk_put (cs:=#[.int .i64 0, .int .i64 0, .slice none 0 0]) ?_ 2 _ rfl;(with_reducible repeat (first|refine blk_drewN ?_ _|refine blk_drew ?_|refine blk_alloc ?_ _));refine blk_put (cs:=#[.int .i64 0, .int .i64 0, .slice none 0 0]) ?_ 1 _ rfl;(with_reducible repeat (first|refine blk_drewN ?_ _|refine blk_drew ?_|refine blk_alloc ?_ _));refine blk_put (cs:=#[.int .i64 0, .int .i64 0, .slice none 0 0]) ?_ 0 _ rfl;(with_reducible repeat (first|refine blk_drewN ?_ _|refine blk_drew ?_|refine blk_alloc ?_ _));exact BK182.out) Try.underlying82 rfl (by kernel_rfl)) rfl ?_
  exact ⟨_, by first|rfl|(simp [errW_none, errW_some] <;> rfl)|(simp [*, errW_none, errW_some] <;> rfl), by first|exact Kd.R_nil _ _ _ _ _|exact Kd.N_nil _ _ _ _ _|exact Kd.V_nil _ _ _ _ _|exact Kd.Q_nil _ _ _ _ _|exact Kd.S_nil _ _ _ _ _, by repeat (first|(with_reducible first|exact HB.out|apply below_alloc|apply pw_below_drewN|apply below_drew1|refine below_set ?_ GE181.out|refine below_set ?_ GE182.out)|exact HB.out)⟩
end Go.Proofs.Ytdgjelbkogfedaa.PConvexMoves
