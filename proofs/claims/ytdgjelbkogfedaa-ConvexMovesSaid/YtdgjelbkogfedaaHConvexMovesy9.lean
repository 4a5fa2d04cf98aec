import Derived.Lib.SliceRun
import Derived.Test.YtdgjelbkogfedaaHConvexMovesy0
import Derived.Test.YtdgjelbkogfedaaHConvexMovesy2
import Derived.Test.YtdgjelbkogfedaaHConvexMovesy3
import Derived.Test.YtdgjelbkogfedaaHConvexMovesy8
namespace Go.Proofs.Ytdgjelbkogfedaa.PConvexMoves
open Go.RowKit Go.Proofs.YtdgjelbkogfedaaW.PrintWords Go.Proofs.YtdgjelbkogfedaaW.PrintLast Go.Proofs.YtdgjelbkogfedaaW.PrintMore
attribute [local go_sem] max2_int min2_int max_two min_two max_three min_three max_four min_four
set_option linter.unusedVariables false
set_option linter.unusedSimpArgs false
def convexpl_cut.l0 : Nat → Int → Int → List (S88) → Int → List (S88) → Int → Int → Option ((List (S88)))
|0, _, _, _, _, _, _, _ => none
|k + 1, x1, x2, x7, x8, x16, x17, x18 => if x18 < x17 then (if 0 ≤ x18 then (if x18 < (x16.length : Int) then (if (mx x8 x1) < (mn (wrap64 (x8 + ((rd_T88 x16 x18).f0))) x2) then (if x7.length < 8796093022208 then (convexpl_cut.l0 k x1 x2 (x7 ++ [(⟨wrap64 ((mn (wrap64 (x8 + ((rd_T88 x16 x18).f0))) x2) - (mx x8 x1)),(rd_T88 x16 x18).f1⟩ : S88)]) (wrap64 (x8 + ((rd_T88 x16 x18).f0))) x16 x17 (wrap64 (x18 + 1))) else (none)) else (convexpl_cut.l0 k x1 x2 x7 (wrap64 (x8 + ((rd_T88 x16 x18).f0))) x16 x17 (wrap64 (x18 + 1)))) else (none)) else (none)) else (some x7)
def convexpl_cut.f (k : Nat) (a0_0 : Int) (a0_1 : Int) (l0_2 : List (S88)) (a1 : Int) (a2 : Int) : Option ((List (S88))) := convexpl_cut.l0 k a1 a2 ([] : List (S88)) a0_0 l0_2 (l0_2.length : Int) 0
theorem convexpl_cut.mono_l : ∀ k, (∀ y0 y1 y2 y3 y4 y5 y6, LeO (convexpl_cut.l0 k y0 y1 y2 y3 y4 y5 y6) (convexpl_cut.l0 (k + 1) y0 y1 y2 y3 y4 y5 y6))
|0 => fun _ _ _ _ _ _ _ r h => by simp [convexpl_cut.l0] at h
|k + 1 => by
  have ih0:=convexpl_cut.mono_l k
  ·intro y0 y1 y2 y3 y4 y5 y6
   unfold convexpl_cut.l0
   repeat' first
  |(with_reducible exact ih0 _ _ _ _ _ _ _)
  |(with_reducible exact LeO.refl _)
  |(with_reducible exact LeO.none _)
  |(with_reducible refine LeO.ite ?_ ?_)
  |(with_reducible refine LeO.bind ?_ (fun _ => ?_))
  |exact ih0 _ _ _ _ _ _ _
  |exact LeO.none _
  |refine LeO.ite ?_ ?_
  |refine LeO.bind ?_ (fun _ => ?_)
theorem convexpl_cut.mono : ∀ a0 a1 a2 a3 a4 k, LeO (convexpl_cut.f k a0 a1 a2 a3 a4) (convexpl_cut.f (k + 1) a0 a1 a2 a3 a4) := by
 intro a0 a1 a2 a3 a4 k
 have ih0:=convexpl_cut.mono_l k
 unfold convexpl_cut.f
 repeat' first
  |(with_reducible exact ih0 _ _ _ _ _ _ _)
  |(with_reducible exact LeO.refl _)
  |(with_reducible exact LeO.none _)
  |(with_reducible refine LeO.ite ?_ ?_)
  |(with_reducible refine LeO.bind ?_ (fun _ => ?_))
  |exact ih0 _ _ _ _ _ _ _
  |exact LeO.none _
  |refine LeO.ite ?_ ?_
  |refine LeO.bind ?_ (fun _ => ?_)
set_option maxHeartbeats 8000000 in
set_option maxRecDepth 100000 in
theorem convexpl_cut.calls (k : Nat) (a0_0 : Int) (a0_1 : Int) (A0_2 : Option Addr) (c0_2 : Nat) (l0_2 : List (S88)) (a1 : Int) (a2 : Int) (r : List (S88)) (w : World) (hr0_2 : Kd.C k88 w A0_2 l0_2.length l0_2) (hc0_2 : l0_2.length ≤ c0_2) (h : convexpl_cut.f k a0_0 a0_1 l0_2 a1 a2 = some r) :
  Calls Try.prog 75 #[.agg #[.int .i64 a0_0, .int .i64 a0_1, .slice A0_2 l0_2.length c0_2], .int .i64 a1, .int .i64 a2] w fun e w' => ∃ v0_ : Value, e = .returned (v0_) ∧ Kd.R k88 88 w' w.heap.size (fun _ => True) v0_ r ∧ Below w.heap.size w w' := by
 have hu82:=Try.underlying82
 have hu88:=Try.underlying88
 have HR0_2:=Aside0.mk hr0_2
 have HC0_2:=Aside0.mk hc0_2
 clear hr0_2 hc0_2
 have HB:=Aside0.mk (Below.refl w.heap.size w)
 have H : (convexpl_cut.l0 k a1 a2 ([] : List (S88)) a0_0 l0_2 (l0_2.length : Int) 0) = some r:=h
 clear h
 have H':=Aside0.mk H
 clear H
 go_enter Try.func75, Try.ntmps75
 go_wp2_with (first|((with_reducible refine gate_dst (N:=3) rfl ?_);refine box_event ?hg (N:=3) ?hd (cs:=#[.int .i64 a0_0, .int .i64 a0_1, .slice A0_2 l0_2.length c0_2]) (t:=82) ?hr ?_;(case hd=>rfl);(case hg=>rfl);(case hr=>first|(go_simp;done)|(go_simp;rfl));intro gb141 hg w4 hbox hb;have n0_:=Aside0.mk (below_step (by repeat (first|(with_reducible first|exact HB.out|apply below_alloc|apply pw_below_drewN|apply below_drew1)|exact HB.out)) hb);have n1_:=Aside0.mk (hbox);have n2_:=Aside0.mk ((by rw [hg];exact (below_size (by repeat (first|(with_reducible first|exact HB.out|apply below_alloc|apply pw_below_drewN|apply below_drew1)|exact HB.out))) : w.heap.size ≤ gb141));have n3_:=Aside0.mk ((by rw [hg];exact (below_size (by repeat (first|(with_reducible first|exact HB.out|apply below_alloc|apply pw_below_drewN|apply below_drew1)|exact HB.out))) : w.heap.size ≤ gb141));clear HB;have HB:=n0_;have BK141:=n1_;have GW141:=n2_;have GE141:=n3_;clear n0_ n1_ n2_ n3_;clear hb hbox hg;have hcz5_0 : w4.cell? ⟨gb141, 0, none⟩ = some (.int .i64 a0_0):=(blk_cell BK141.out 0).trans rfl;have hcz5_1 : w4.cell? ⟨gb141, 1, none⟩ = some (.int .i64 a0_1):=(blk_cell BK141.out 1).trans rfl;have hcz5_2 : w4.cell? ⟨gb141, 2, none⟩ = some (.slice A0_2 l0_2.length c0_2):=(blk_cell BK141.out 2).trans rfl;have hfz5_0:=blk_frozen BK141.out 0;have hfz5_1:=blk_frozen BK141.out 1;have hfz5_2:=blk_frozen BK141.out 2))
 repeat (go_quiet (first|((with_reducible refine gate_dst (N:=3) rfl ?_);refine box_event ?hg (N:=3) ?hd (cs:=#[.int .i64 a0_0, .int .i64 a0_1, .slice A0_2 l0_2.length c0_2]) (t:=82) ?hr ?_;(case hd=>rfl);(case hg=>rfl);(case hr=>first|(go_simp;done)|(go_simp;rfl));intro gb141 hg w4 hbox hb;have n0_:=Aside0.mk (below_step (by repeat (first|(with_reducible first|exact HB.out|apply below_alloc|apply pw_below_drewN|apply below_drew1)|exact HB.out)) hb);have n1_:=Aside0.mk (hbox);have n2_:=Aside0.mk ((by rw [hg];exact (below_size (by repeat (first|(with_reducible first|exact HB.out|apply below_alloc|apply pw_below_drewN|apply below_drew1)|exact HB.out))) : w.heap.size ≤ gb141));have n3_:=Aside0.mk ((by rw [hg];exact (below_size (by repeat (first|(with_reducible first|exact HB.out|apply below_alloc|apply pw_below_drewN|apply below_drew1)|exact HB.out))) : w.heap.size ≤ gb141));clear HB;have HB:=n0_;have BK141:=n1_;have GW141:=n2_;have GE141:=n3_;clear n0_ n1_ n2_ n3_;clear hb hbox hg;have hcz5_0 : w4.cell? ⟨gb141, 0, none⟩ = some (.int .i64 a0_0):=(blk_cell BK141.out 0).trans rfl;have hcz5_1 : w4.cell? ⟨gb141, 1, none⟩ = some (.int .i64 a0_1):=(blk_cell BK141.out 1).trans rfl;have hcz5_2 : w4.cell? ⟨gb141, 2, none⟩ = some (.slice A0_2 l0_2.length c0_2):=(blk_cell BK141.out 2).trans rfl;have hfz5_0:=blk_frozen BK141.out 0;have hfz5_1:=blk_frozen BK141.out 1;have hfz5_2:=blk_frozen BK141.out 2));try go_wp2_with (first|((with_reducible refine gate_dst (N:=3) rfl ?_);refine box_event ?hg (N:=3) ?hd (cs:=#[.int .i64 a0_0, .int .i64 a0_1, .slice A0_2 l0_2.length c0_2]) (t:=82) ?hr ?_;(case hd=>rfl);(case hg=>rfl);(case hr=>first|(go_simp;done)|(go_simp;rfl));intro gb141 hg w4 hbox hb;have n0_:=Aside0.mk (below_step (by repeat (first|(with_reducible first|exact HB.out|apply below_alloc|apply pw_below_drewN|apply below_drew1)|exact HB.out)) hb);have n1_:=Aside0.mk (hbox);have n2_:=Aside0.mk ((by rw [hg];exact (below_size (by repeat (first|(with_reducible first|exact HB.out|apply below_alloc|apply pw_below_drewN|apply below_drew1)|exact HB.out))) : w.heap.size ≤ gb141));have n3_:=Aside0.mk ((by rw [hg];exact (below_size (by repeat (first|(with_reducible first|exact HB.out|apply below_alloc|apply pw_below_drewN|apply below_drew1)|exact HB.out))) : w.heap.size ≤ gb141));clear HB;have HB:=n0_;have BK141:=n1_;have GW141:=n2_;have GE141:=n3_;clear n0_ n1_ n2_ n3_;clear hb hbox hg;have hcz5_0 : w4.cell? ⟨gb141, 0, none⟩ = some (.int .i64 a0_0):=(blk_cell BK141.out 0).trans rfl;have hcz5_1 : w4.cell? ⟨gb141, 1, none⟩ = some (.int .i64 a0_1):=(blk_cell BK141.out 1).trans rfl;have hcz5_2 : w4.cell? ⟨gb141, 2, none⟩ = some (.slice A0_2 l0_2.length c0_2):=(blk_cell BK141.out 2).trans rfl;have hfz5_0:=blk_frozen BK141.out 0;have hfz5_1:=blk_frozen BK141.out 1;have hfz5_2:=blk_frozen BK141.out 2)))
 try simp only [Act.put, List.setIfInBounds_toArray, List.set_cons_succ, List.set_cons_zero]
 go_loopg [7, 8, 18] k (fun kq v7 v8 v18 w'=>∃ (x7_1 : List (S88)) (x8_1 : Int) (x18_1 : Int), v8 = .int .i64 x8_1∧v18 = .int .i64 x18_1∧Aside0 (convexpl_cut.l0 kq a1 a2 x7_1 x8_1 l0_2 (l0_2.length : Int) x18_1 = some r)∧Aside0 (kq ≤ k)∧Aside0 (Kd.R k88 88 w' w.heap.size (fun _=>True) v7 x7_1)∧Aside0 (w'.heap[gb141]? = some (.cells #[.int .i64 a0_0, .int .i64 a0_1, (.slice A0_2 l0_2.length c0_2)] 82 (0, 0)))∧Aside0 (Below w.heap.size w w'))
 case atStart=>exact ⟨(([] : List (S88))),(a0_0),(0),(by first|rfl|(simp;done)|(simp [*];done)),(by first|rfl|(simp;done)|(simp [*];done)), H', ⟨Nat.le_refl _⟩,⟨by first|exact Kd.R_nil _ _ _ _ _|exact Kd.N_nil _ _ _ _ _|exact Kd.V_nil _ _ _ _ _|exact Kd.Q_nil _ _ _ _ _|exact Kd.S_nil _ _ _ _ _⟩,⟨by (with_reducible repeat (first|refine blk_drewN ?_ _|refine blk_drew ?_|refine blk_alloc ?_ _));exact BK141.out⟩,⟨by repeat (first|(with_reducible first|exact HB.out|apply below_alloc|apply pw_below_drewN|apply below_drew1|refine below_set ?_ GE141.out)|exact HB.out)⟩⟩
 case round =>
  clear H'
  try clear p2
  try clear hcz5_0
  try clear hcz5_1
  try clear hcz5_2
  try clear hfz5_0
  try clear hfz5_1
  try clear hfz5_2
  obtain ⟨x7_1, x8_1, x18_1, rfl, rfl, HA, HK1, HO_7, BK141, HB⟩:=hrel
  cases gk with
 |zero => exact absurd HA.out (by simp [convexpl_cut.l0])
 |succ k1 =>
   have H:=HA.out
   clear HA
   simp only [convexpl_cut.l0] at H
   by_cases c6 : x18_1 < (l0_2.length : Int)
   ·rw [if_pos c6] at H
    have c6b0 : decide (x18_1 < (l0_2.length : Int)) = true:=decide_eq_true c6
    clear c6
    by_cases c7 : 0 ≤ x18_1
    rw [if_pos c7] at H
    have c7b0 : decide (0 ≤ x18_1) = true:=decide_eq_true c7
    clear c7
    focus
     by_cases c8 : x18_1 < (l0_2.length : Int)
     rw [if_pos c8] at H
     have c8b0 : decide (x18_1 < (l0_2.length : Int)) = true:=decide_eq_true c8
     clear c8
     obtain ⟨ji9, hji9⟩ : ∃ j_ : Int, (mx x8_1 a1) = j_:=⟨_, rfl⟩
     replace H : (if (ji9) < (mn (wrap64 (x8_1 + ((rd_T88 l0_2 x18_1).f0))) a2) then (if x7_1.length < 8796093022208 then (convexpl_cut.l0 k1 a1 a2 (x7_1 ++ [(⟨wrap64 ((mn (wrap64 (x8_1 + ((rd_T88 l0_2 x18_1).f0))) a2) - (ji9)),(rd_T88 l0_2 x18_1).f1⟩ : S88)]) (wrap64 (x8_1 + ((rd_T88 l0_2 x18_1).f0))) l0_2 (l0_2.length : Int) (wrap64 (x18_1 + 1))) else (none)) else (convexpl_cut.l0 k1 a1 a2 x7_1 (wrap64 (x8_1 + ((rd_T88 l0_2 x18_1).f0))) l0_2 (l0_2.length : Int) (wrap64 (x18_1 + 1)))) = some r:=by first|(rw [hji9] at H;exact H)|(simp only [hji9] at H ⊢;exact H)
     have hji9_ : (if x8_1 < a1 then a1 else x8_1) = ji9:=hji9
     obtain ⟨ji10, hji10⟩ : ∃ j_ : Int, (mn (wrap64 (x8_1 + ((rd_T88 l0_2 x18_1).f0))) a2) = j_:=⟨_, rfl⟩
     replace H : (if (ji9) < (ji10) then (if x7_1.length < 8796093022208 then (convexpl_cut.l0 k1 a1 a2 (x7_1 ++ [(⟨wrap64 ((ji10) - (ji9)),(rd_T88 l0_2 x18_1).f1⟩ : S88)]) (wrap64 (x8_1 + ((rd_T88 l0_2 x18_1).f0))) l0_2 (l0_2.length : Int) (wrap64 (x18_1 + 1))) else (none)) else (convexpl_cut.l0 k1 a1 a2 x7_1 (wrap64 (x8_1 + ((rd_T88 l0_2 x18_1).f0))) l0_2 (l0_2.length : Int) (wrap64 (x18_1 + 1)))) = some r:=by first|(rw [hji10] at H;exact H)|(simp only [hji10] at H ⊢;exact H)
     have hji10_ : (if a2 < (wrap64 (x8_1 + ((rd_T88 l0_2 x18_1).f0))) then a2 else (wrap64 (x8_1 + ((rd_T88 l0_2 x18_1).f0)))) = ji10:=hji10
     focus
      by_cases c11 : (ji9) < (ji10)
      rw [if_pos c11] at H
      have c11b0 : decide ((ji9) < (ji10)) = true:=decide_eq_true c11
      clear c11
      focus
       by_cases c12 : x7_1.length < 8796093022208
       rw [if_pos c12] at H
       have LMc12:=Aside0.mk c12
       clear c12
       obtain ⟨y144, hy144⟩ : ∃ y_ : List (S88), y_ = (x7_1 ++ [(⟨wrap64 ((ji10) - (ji9)),(rd_T88 l0_2 x18_1).f1⟩ : S88)]):=⟨_, rfl⟩
       replace H : (convexpl_cut.l0 k1 a1 a2 y144 (wrap64 (x8_1 + ((rd_T88 l0_2 x18_1).f0))) l0_2 (l0_2.length : Int) (wrap64 (x18_1 + 1))) = some r:=by first|(rw [hy144];with_reducible exact H)|(have H2_:=(Option.bind_some _ _).symm.trans H;rw [hy144];with_reducible exact H2_)|(have H2_:=(Option.bind_some _ _).symm.trans H;with_reducible exact H2_)|with_reducible exact H|(rw [hy144];exact H)|exact H
       have Ny144:=Aside0.mk hy144
       clear hy144
       have H':=Aside0.mk H
       clear H
       rotate_left
       rw [if_neg c12] at H
       exact absurd H (by simp)
      rotate_left
      rw [if_neg c11] at H
      have c11b0 : decide ((ji9) < (ji10)) = false:=decide_eq_false c11
      clear c11
      have H':=Aside0.mk H
      clear H
      rotate_left
     rotate_left 2
     rw [if_neg c8] at H
     exact absurd H (by simp)
    rotate_left 2
    rw [if_neg c7] at H
    exact absurd H (by simp)
    all_goals
     have p142 : 0 ≤ (x18_1 : Int):=of_decide_eq_true (by first|(with_reducible assumption)|assumption)
     have q142 : x18_1 < (l0_2.length : Int):=of_decide_eq_true (by first|(with_reducible assumption)|assumption)
     obtain ⟨ad142, e142, hx142_0, hx142_1⟩:=at_T88 HR0_2.out x18_1 p142 q142
     cases e142
     replace hx142_0:=(HB.out.cell (World.block_lt_of_cell? w _ hx142_0)).trans hx142_0
     replace hx142_1:=(HB.out.cell (World.block_lt_of_cell? w _ hx142_1)).trans hx142_1
     replace p142:=eq_true p142
     replace q142:=eq_true q142
    ·go_wp2_with (first|((with_reducible refine gate_dst (N:=10) rfl ?_);refine box_event ?hg (N:=10) ?hd (cs:=#[.int .i64 0, .int .i64 0]) (t:=88) ?hr ?_;(case hd=>rfl);(case hg=>rfl);(case hr=>first|(go_simp;done)|(go_simp;rfl));intro gb143 hg w13 hbox hb;have n0_:=Aside0.mk (Kd.R_below (Kd.R_elderB (by (with_reducible repeat (first|apply Kd.R_alloc|apply Kd.R_drewN|apply Kd.R_drew));exact HO_7.out) gb143 (Nat.le_of_eq hg.symm)) hb);have n1_:=Aside0.mk (blk_below (g:=gb141) (o:=.cells #[.int .i64 a0_0, .int .i64 a0_1, .slice (some ad142) l0_2.length c0_2] 82 (0, 0)) (by (with_reducible repeat (first|refine blk_drewN ?_ _|refine blk_drew ?_|refine blk_alloc ?_ _));exact BK141.out) hb);have n2_:=Aside0.mk (below_step (by repeat (first|(with_reducible first|exact HB.out|apply below_alloc|apply pw_below_drewN|apply below_drew1|refine below_set ?_ GE141.out)|exact HB.out)) hb);have n3_:=Aside0.mk (hbox);have n4_:=Aside0.mk ((by rw [hg];exact (below_size (by repeat (first|(with_reducible first|exact HB.out|apply below_alloc|apply pw_below_drewN|apply below_drew1|refine below_set ?_ GE141.out)|exact HB.out))) : w.heap.size ≤ gb143));have n5_:=Aside0.mk ((by rw [hg];exact (below_size (by repeat (first|(with_reducible first|exact HB.out|apply below_alloc|apply pw_below_drewN|apply below_drew1|refine below_set ?_ GE141.out)|exact HB.out))) : w.heap.size ≤ gb143));have n6_:=Aside0.mk ((by rw [hg];exact Nat.ne_of_lt (blk_lt (g:=gb141) (o:=.cells #[.int .i64 a0_0, .int .i64 a0_1, .slice (some ad142) l0_2.length c0_2] 82 (0, 0)) (by (with_reducible repeat (first|refine blk_drewN ?_ _|refine blk_drew ?_|refine blk_alloc ?_ _));exact BK141.out)) : gb141 ≠ gb143));have n7_:=Aside0.mk ((by rw [hg];exact Nat.ne_of_gt (blk_lt (g:=gb141) (o:=.cells #[.int .i64 a0_0, .int .i64 a0_1, .slice (some ad142) l0_2.length c0_2] 82 (0, 0)) (by (with_reducible repeat (first|refine blk_drewN ?_ _|refine blk_drew ?_|refine blk_alloc ?_ _));exact BK141.out)) : gb143 ≠ gb141));clear HO_7;clear BK141;clear HB;have HO_7:=n0_;have BK141:=n1_;have HB:=n2_;have BK143:=n3_;have GW143:=n4_;have GE143:=n5_;have NB141_143:=n6_;have NB143_141:=n7_;clear n0_ n1_ n2_ n3_ n4_ n5_ n6_ n7_;clear hb hbox hg;have hnb14:=NB143_141.out;have hnc14:=NB141_143.out;have hcz15_0 : w13.cell? ⟨gb143, 0, none⟩ = some (.int .i64 0):=(blk_cell BK143.out 0).trans rfl;have hcz15_1 : w13.cell? ⟨gb143, 1, none⟩ = some (.int .i64 0):=(blk_cell BK143.out 1).trans rfl;have hfz15_0:=blk_frozen BK143.out 0;have hfz15_1:=blk_frozen BK143.out 1)|((with_reducible refine gate_builtin (b:=.append) (xs:=#[.tmp 34, .tmp 41]) rfl ?_);at_builtin;refine Kd.R_append k88 (w0:=w) w.heap.size rfl (.tmp 34) (.tmp 41) 80 88 (.agg #[(.int .i64 0),(.int .i64 0)]) 16 rfl Try.underlying80 info88 rfl (by decide) (by omega) u7 x7_1 (⟨wrap64 ((ji10) - (ji9)),(rd_T88 l0_2 x18_1).f1⟩ : S88) [.int .i64 (wrap64 ((ji10) - (ji9))), .int .i64 ((rd_T88 l0_2 x18_1).f1)] (fun k_=>k_ ≠ gb143) (fun _=>False) rfl (by first|(go_simp;done)|(go_simp;rfl)) ?aP (fun _ hk=>hk.elim) ?aF ?aO ?aB ?aS ?aL ?_;(case aP=>exact k88_mkM _ _ _ (⟨wrap64 ((ji10) - (ji9)),(rd_T88 l0_2 x18_1).f1⟩ : S88));(case aB=>exact (by repeat (first|(with_reducible first|exact HB.out|apply below_alloc|apply pw_below_drewN|apply below_drew1|refine below_set ?_ GE141.out|refine below_set ?_ GE143.out)|exact HB.out)));(case aF=>exact (fun k_ hk=>Kd.freshB (g:=gb143) (o:=.cells #[.int .i64 ((rd_T88 l0_2 x18_1).f0), .int .i64 ((rd_T88 l0_2 x18_1).f1)] 88 (0, 0)) (by (with_reducible repeat (first|refine blk_drewN ?_ _|refine blk_drew ?_|refine blk_alloc ?_ _));refine blk_put (cs:=#[.int .i64 ((rd_T88 l0_2 x18_1).f0), .int .i64 0]) ?_ 1 _ rfl;(with_reducible repeat (first|refine blk_drewN ?_ _|refine blk_drew ?_|refine blk_alloc ?_ _));refine blk_put (cs:=#[.int .i64 0, .int .i64 0]) ?_ 0 _ rfl;(with_reducible repeat (first|refine blk_drewN ?_ _|refine blk_drew ?_|refine blk_alloc ?_ _));exact BK143.out) k_ hk));(case aO=>exact (by (with_reducible repeat (first|apply Kd.R_alloc|apply Kd.R_drewN|apply Kd.R_drew));exact Kd.R_mono (Kd.R_far (p:=⟨gb143, 1, none⟩) (Kd.R_far (p:=⟨gb143, 0, none⟩) (Kd.R_mono HO_7.out (fun k_ hk=>(⟨hk, hk.2⟩ : _∧k_ ≠ gb143))) (fun _ hk=>hk.2) (.int .i64 ((rd_T88 l0_2 x18_1).f0))) (fun _ hk=>hk.2) (.int .i64 ((rd_T88 l0_2 x18_1).f1))) (fun _ hk=>hk.1.2)));(case aS=>exact (below_size (by repeat (first|(with_reducible first|exact HB.out|apply below_alloc|apply pw_below_drewN|apply below_drew1|refine below_set ?_ GE141.out|refine below_set ?_ GE143.out)|exact HB.out))));(case aL=>have:=LMc12.out;omega);intro v145 w16 ho hb hg hat;rw [← Ny144.out] at ho;have n0_:=Aside0.mk (blk_grown (g:=gb141) (o:=.cells #[.int .i64 a0_0, .int .i64 a0_1, .slice (some ad142) l0_2.length c0_2] 82 (0, 0)) (by (with_reducible repeat (first|refine blk_drewN ?_ _|refine blk_drew ?_|refine blk_alloc ?_ _));refine blk_far ?_ NB141_143.out _;(with_reducible repeat (first|refine blk_drewN ?_ _|refine blk_drew ?_|refine blk_alloc ?_ _));refine blk_far ?_ NB141_143.out _;(with_reducible repeat (first|refine blk_drewN ?_ _|refine blk_drew ?_|refine blk_alloc ?_ _));exact BK141.out) hg (Kd.R_ne HO_7.out BK141.out (by decide)));have n1_:=Aside0.mk (blk_grown (g:=gb143) (o:=.cells #[.int .i64 ((rd_T88 l0_2 x18_1).f0), .int .i64 ((rd_T88 l0_2 x18_1).f1)] 88 (0, 0)) (by (with_reducible repeat (first|refine blk_drewN ?_ _|refine blk_drew ?_|refine blk_alloc ?_ _));refine blk_put (cs:=#[.int .i64 ((rd_T88 l0_2 x18_1).f0), .int .i64 0]) ?_ 1 _ rfl;(with_reducible repeat (first|refine blk_drewN ?_ _|refine blk_drew ?_|refine blk_alloc ?_ _));refine blk_put (cs:=#[.int .i64 0, .int .i64 0]) ?_ 0 _ rfl;(with_reducible repeat (first|refine blk_drewN ?_ _|refine blk_drew ?_|refine blk_alloc ?_ _));exact BK143.out) hg (Kd.R_away HO_7.out (fun _ hk=>hk.2)));have n2_:=Aside0.mk (hb);have n3_:=Aside0.mk (ho);clear BK141;clear BK143;clear HB;clear HO_7;have BK141:=n0_;have BK143:=n1_;have HB:=n2_;have HO146:=n3_;clear n0_ n1_ n2_ n3_;clear ho hb hg hat;have hcz17_0 : w16.cell? ⟨gb143, 0, none⟩ = some (.int .i64 ((rd_T88 l0_2 x18_1).f0)):=(blk_cell BK143.out 0).trans rfl;have hcz17_1 : w16.cell? ⟨gb143, 1, none⟩ = some (.int .i64 ((rd_T88 l0_2 x18_1).f1)):=(blk_cell BK143.out 1).trans rfl;have hfz17_0:=blk_frozen BK143.out 0;have hfz17_1:=blk_frozen BK143.out 1))
     repeat (go_quiet (first|((with_reducible refine gate_dst (N:=10) rfl ?_);refine box_event ?hg (N:=10) ?hd (cs:=#[.int .i64 0, .int .i64 0]) (t:=88) ?hr ?_;(case hd=>rfl);(case hg=>rfl);(case hr=>first|(go_simp;done)|(go_simp;rfl));intro gb143 hg w13 hbox hb;have n0_:=Aside0.mk (Kd.R_below (Kd.R_elderB (by (with_reducible repeat (first|apply Kd.R_alloc|apply Kd.R_drewN|apply Kd.R_drew));exact HO_7.out) gb143 (Nat.le_of_eq hg.symm)) hb);have n1_:=Aside0.mk (blk_below (g:=gb141) (o:=.cells #[.int .i64 a0_0, .int .i64 a0_1, .slice (some ad142) l0_2.length c0_2] 82 (0, 0)) (by (with_reducible repeat (first|refine blk_drewN ?_ _|refine blk_drew ?_|refine blk_alloc ?_ _));exact BK141.out) hb);have n2_:=Aside0.mk (below_step (by repeat (first|(with_reducible first|exact HB.out|apply below_alloc|apply pw_below_drewN|apply below_drew1|refine below_set ?_ GE141.out)|exact HB.out)) hb);have n3_:=Aside0.mk (hbox);have n4_:=Aside0.mk ((by rw [hg];exact (below_size (by repeat (first|(with_reducible first|exact HB.out|apply below_alloc|apply pw_below_drewN|apply below_drew1|refine below_set ?_ GE141.out)|exact HB.out))) : w.heap.size ≤ gb143));have n5_:=Aside0.mk ((by rw [hg];exact (below_size (by repeat (first|(with_reducible first|exact HB.out|apply below_alloc|apply pw_below_drewN|apply below_drew1|refine below_set ?_ GE141.out)|exact HB.out))) : w.heap.size ≤ gb143));have n6_:=Aside0.mk ((by rw [hg];exact Nat.ne_of_lt (blk_lt (g:=gb141) (o:=.cells #[.int .i64 a0_0, .int .i64 a0_1, .slice (some ad142) l0_2.length c0_2] 82 (0, 0)) (by (with_reducible repeat (first|refine blk_drewN ?_ _|refine blk_drew ?_|refine blk_alloc ?_ _));exact BK141.out)) : gb141 ≠ gb143));have n7_:=Aside0.mk ((by rw [hg];exact Nat.ne_of_gt (blk_lt (g:=gb141) (o:=.cells #[.int .i64 a0_0, .int .i64 a0_1, .slice (some ad142) l0_2.length c0_2] 82 (0, 0)) (by (with_reducible repeat (first|refine blk_drewN ?_ _|refine blk_drew ?_|refine blk_alloc ?_ _));exact BK141.out)) : gb143 ≠ gb141));clear HO_7;clear BK141;clear HB;have HO_7:=n0_;have BK141:=n1_;have HB:=n2_;have BK143:=n3_;have GW143:=n4_;have GE143:=n5_;have NB141_143:=n6_;have NB143_141:=n7_;clear n0_ n1_ n2_ n3_ n4_ n5_ n6_ n7_;clear hb hbox hg;have hnb14:=NB143_141.out;have hnc14:=NB141_143.out;have hcz15_0 : w13.cell? ⟨gb143, 0, none⟩ = some (.int .i64 0):=(blk_cell BK143.out 0).trans rfl;have hcz15_1 : w13.cell? ⟨gb143, 1, none⟩ = some (.int .i64 0):=(blk_cell BK143.out 1).trans rfl;have hfz15_0:=blk_frozen BK143.out 0;have hfz15_1:=blk_frozen BK143.out 1)|((with_reducible refine gate_builtin (b:=.append) (xs:=#[.tmp 34, .tmp 41]) rfl ?_);at_builtin;refine Kd.R_append k88 (w0:=w) w.heap.size rfl (.tmp 34) (.tmp 41) 80 88 (.agg #[(.int .i64 0),(.int .i64 0)]) 16 rfl Try.underlying80 info88 rfl (by decide) (by omega) u7 x7_1 (⟨wrap64 ((ji10) - (ji9)),(rd_T88 l0_2 x18_1).f1⟩ : S88) [.int .i64 (wrap64 ((ji10) - (ji9))), .int .i64 ((rd_T88 l0_2 x18_1).f1)] (fun k_=>k_ ≠ gb143) (fun _=>False) rfl (by first|(go_simp;done)|(go_simp;rfl)) ?aP (fun _ hk=>hk.elim) ?aF ?aO ?aB ?aS ?aL ?_;(case aP=>exact k88_mkM _ _ _ (⟨wrap64 ((ji10) - (ji9)),(rd_T88 l0_2 x18_1).f1⟩ : S88));(case aB=>exact (by repeat (first|(with_reducible first|exact HB.out|apply below_alloc|apply pw_below_drewN|apply below_drew1|refine below_set ?_ GE141.out|refine below_set ?_ GE143.out)|exact HB.out)));(case aF=>exact (fun k_ hk=>Kd.freshB (g:=gb143) (o:=.cells #[.int .i64 ((rd_T88 l0_2 x18_1).f0), .int .i64 ((rd_T88 l0_2 x18_1).f1)] 88 (0, 0)) (by (with_reducible repeat (first|refine blk_drewN ?_ _|refine blk_drew ?_|refine blk_alloc ?_ _));refine blk_put (cs:=#[.int .i64 ((rd_T88 l0_2 x18_1).f0), .int .i64 0]) ?_ 1 _ rfl;(with_reducible repeat (first|refine blk_drewN ?_ _|refine blk_drew ?_|refine blk_alloc ?_ _));refine blk_put (cs:=#[.int .i64 0, .int .i64 0]) ?_ 0 _ rfl;(with_reducible repeat (first|refine blk_drewN ?_ _|refine blk_drew ?_|refine blk_alloc ?_ _));exact BK143.out) k_ hk));(case aO=>exact (by (with_reducible repeat (first|apply Kd.R_alloc|apply Kd.R_drewN|apply Kd.R_drew));exact Kd.R_mono (Kd.R_far (p:=⟨gb143, 1, none⟩) (Kd.R_far (p:=⟨gb143, 0, none⟩) (Kd.R_mono HO_7.out (fun k_ hk=>(⟨hk, hk.2⟩ : _∧k_ ≠ gb143))) (fun _ hk=>hk.2) (.int .i64 ((rd_T88 l0_2 x18_1).f0))) (fun _ hk=>hk.2) (.int .i64 ((rd_T88 l0_2 x18_1).f1))) (fun _ hk=>hk.1.2)));(case aS=>exact (below_size (by repeat (first|(with_reducible first|exact HB.out|apply below_alloc|apply pw_below_drewN|apply below_drew1|refine below_set ?_ GE141.out|refine below_set ?_ GE143.out)|exact HB.out))));(case aL=>have:=LMc12.out;omega);intro v145 w16 ho hb hg hat;rw [← Ny144.out] at ho;have n0_:=Aside0.mk (blk_grown (g:=gb141) (o:=.cells #[.int .i64 a0_0, .int .i64 a0_1, .slice (some ad142) l0_2.length c0_2] 82 (0, 0)) (by (with_reducible repeat (first|refine blk_drewN ?_ _|refine blk_drew ?_|refine blk_alloc ?_ _));refine blk_far ?_ NB141_143.out _;(with_reducible repeat (first|refine blk_drewN ?_ _|refine blk_drew ?_|refine blk_alloc ?_ _));refine blk_far ?_ NB141_143.out _;(with_reducible repeat (first|refine blk_drewN ?_ _|refine blk_drew ?_|refine blk_alloc ?_ _));exact BK141.out) hg (Kd.R_ne HO_7.out BK141.out (by decide)));have n1_:=Aside0.mk (blk_grown (g:=gb143) (o:=.cells #[.int .i64 ((rd_T88 l0_2 x18_1).f0), .int .i64 ((rd_T88 l0_2 x18_1).f1)] 88 (0, 0)) (by (with_reducible repeat (first|refine blk_drewN ?_ _|refine blk_drew ?_|refine blk_alloc ?_ _));refine blk_put (cs:=#[.int .i64 ((rd_T88 l0_2 x18_1).f0), .int .i64 0]) ?_ 1 _ rfl;(with_reducible repeat (first|refine blk_drewN ?_ _|refine blk_drew ?_|refine blk_alloc ?_ _));refine blk_put (cs:=#[.int .i64 0, .int .i64 0]) ?_ 0 _ rfl;(with_reducible repeat (first|refine blk_drewN ?_ _|refine blk_drew ?_|refine blk_alloc ?_ _));exact BK143.out) hg (Kd.R_away HO_7.out (fun _ hk=>hk.2)));have n2_:=Aside0.mk (hb);have n3_:=Aside0.mk (ho);clear BK141;clear BK143;clear HB;clear HO_7;have BK141:=n0_;have BK143:=n1_;have HB:=n2_;have HO146:=n3_;clear n0_ n1_ n2_ n3_;clear ho hb hg hat;have hcz17_0 : w16.cell? ⟨gb143, 0, none⟩ = some (.int .i64 ((rd_T88 l0_2 x18_1).f0)):=(blk_cell BK143.out 0).trans rfl;have hcz17_1 : w16.cell? ⟨gb143, 1, none⟩ = some (.int .i64 ((rd_T88 l0_2 x18_1).f1)):=(blk_cell BK143.out 1).trans rfl;have hfz17_0:=blk_frozen BK143.out 0;have hfz17_1:=blk_frozen BK143.out 1));try go_wp2_with (first|((with_reducible refine gate_dst (N:=10) rfl ?_);refine box_event ?hg (N:=10) ?hd (cs:=#[.int .i64 0, .int .i64 0]) (t:=88) ?hr ?_;(case hd=>rfl);(case hg=>rfl);(case hr=>first|(go_simp;done)|(go_simp;rfl));intro gb143 hg w13 hbox hb;have n0_:=Aside0.mk (Kd.R_below (Kd.R_elderB (by (with_reducible repeat (first|apply Kd.R_alloc|apply Kd.R_drewN|apply Kd.R_drew));exact HO_7.out) gb143 (Nat.le_of_eq hg.symm)) hb);have n1_:=Aside0.mk (blk_below (g:=gb141) (o:=.cells #[.int .i64 a0_0, .int .i64 a0_1, .slice (some ad142) l0_2.length c0_2] 82 (0, 0)) (by (with_reducible repeat (first|refine blk_drewN ?_ _|refine blk_drew ?_|refine blk_alloc ?_ _));exact BK141.out) hb);have n2_:=Aside0.mk (below_step (by repeat (first|(with_reducible first|exact HB.out|apply below_alloc|apply pw_below_drewN|apply below_drew1|refine below_set ?_ GE141.out)|exact HB.out)) hb);have n3_:=Aside0.mk (hbox);have n4_:=Aside0.mk ((by rw [hg];exact (below_size (by repeat (first|(with_reducible first|exact HB.out|apply below_alloc|apply pw_below_drewN|apply below_drew1|refine below_set ?_ GE141.out)|exact HB.out))) : w.heap.size ≤ gb143));have n5_:=Aside0.mk ((by rw [hg];exact (below_size (by repeat (first|(with_reducible first|exact HB.out|apply below_alloc|apply pw_below_drewN|apply below_drew1|refine below_set ?_ GE141.out)|exact HB.out))) : w.heap.size ≤ gb143));have n6_:=Aside0.mk ((by rw [hg];exact Nat.ne_of_lt (blk_lt (g:=gb141) (o:=.cells #[.int .i64 a0_0, .int .i64 a0_1, .slice (some ad142) l0_2.length c0_2] 82 (0, 0)) (by (with_reducible repeat (first|refine blk_drewN ?_ _|refine blk_drew ?_|refine blk_alloc ?_ _));exact BK141.out)) : gb141 ≠ gb143));have n7_:=Aside0.mk ((by rw [hg];exact Nat.ne_of_gt (blk_lt (g:=gb141) (o:=.cells #[.int .i64 a0_0, .int .i64 a0_1, .slice (some ad142) l0_2.length c0_2] 82 (0, 0)) (by (with_reducible repeat (first|refine blk_drewN ?_ _|refine blk_drew ?_|refine blk_alloc ?_ _));exact BK141.out)) : gb143 ≠ gb141));clear HO_7;clear BK141;clear HB;have HO_7:=n0_;have BK141:=n1_;have HB:=n2_;have BK143:=n3_;have GW143:=n4_;have GE143:=n5_;have NB141_143:=n6_;have NB143_141:=n7_;clear n0_ n1_ n2_ n3_ n4_ n5_ n6_ n7_;clear hb hbox hg;have hnb14:=NB143_141.out;have hnc14:=NB141_143.out;have hcz15_0 : w13.cell? ⟨gb143, 0, none⟩ = some (.int .i64 0):=(blk_cell BK143.out 0).trans rfl;have hcz15_1 : w13.cell? ⟨gb143, 1, none⟩ = some (.int .i64 0):=(blk_cell BK143.out 1).trans rfl;have hfz15_0:=blk_frozen BK143.out 0;have hfz15_1:=blk_frozen BK143.out 1)|((with_reducible refine gate_builtin (b:=.append) (xs:=#[.tmp 34, .tmp 41]) rfl ?_);at_builtin;refine Kd.R_append k88 (w0:=w) w.heap.size rfl (.tmp 34) (.tmp 41) 80 88 (.agg #[(.int .i64 0),(.int .i64 0)]) 16 rfl Try.underlying80 info88 rfl (by decide) (by omega) u7 x7_1 (⟨wrap64 ((ji10) - (ji9)),(rd_T88 l0_2 x18_1).f1⟩ : S88) [.int .i64 (wrap64 ((ji10) - (ji9))), .int .i64 ((rd_T88 l0_2 x18_1).f1)] (fun k_=>k_ ≠ gb143) (fun _=>False) rfl (by first|(go_simp;done)|(go_simp;rfl)) ?aP (fun _ hk=>hk.elim) ?aF ?aO ?aB ?aS ?aL ?_;(case aP=>exact k88_mkM _ _ _ (⟨wrap64 ((ji10) - (ji9)),(rd_T88 l0_2 x18_1).f1⟩ : S88));(case aB=>exact (by repeat (first|(with_reducible first|exact HB.out|apply below_alloc|apply pw_below_drewN|apply below_drew1|refine below_set ?_ GE141.out|refine below_set ?_ GE143.out)|exact HB.out)));(case aF=>exact (fun k_ hk=>Kd.freshB (g:=gb143) (o:=.cells #[.int .i64 ((rd_T88 l0_2 x18_1).f0), .int .i64 ((rd_T88 l0_2 x18_1).f1)] 88 (0, 0)) (by (with_reducible repeat (first|refine blk_drewN ?_ _|refine blk_drew ?_|refine blk_alloc ?_ _));refine blk_put (cs:=#[.int .i64 ((rd_T88 l0_2 x18_1).f0), .int .i64 0]) ?_ 1 _ rfl;(with_reducible repeat (first|refine blk_drewN ?_ _|refine blk_drew ?_|refine blk_alloc ?_ _));refine blk_put (cs:=#[.int .i64 0, .int .i64 0]) ?_ 0 _ rfl;(with_reducible repeat (first|refine blk_drewN ?_ _|refine blk_drew ?_|refine blk_alloc ?_ _));exact BK143.out) k_ hk));(case aO=>exact (by (with_reducible repeat (first|apply Kd.R_alloc|apply Kd.R_drewN|apply Kd.R_drew));exact Kd.R_mono (Kd.R_far (p:=⟨gb143, 1, none⟩) (Kd.R_far (p:=⟨gb143, 0, none⟩) (Kd.R_mono HO_7.out (fun k_ hk=>(⟨hk, hk.2⟩ : _∧k_ ≠ gb143))) (fun _ hk=>hk.2) (.int .i64 ((rd_T88 l0_2 x18_1).f0))) (fun _ hk=>hk.2) (.int .i64 ((rd_T88 l0_2 x18_1).f1))) (fun _ hk=>hk.1.2)));(case aS=>exact (below_size (by repeat (first|(with_reducible first|exact HB.out|apply below_alloc|apply pw_below_drewN|apply below_drew1|refine below_set ?_ GE141.out|refine below_set ?_ GE143.out)|exact HB.out))));(case aL=>have:=LMc12.out;omega);intro v145 w16 ho hb hg hat;rw [← Ny144.out] at ho;have n0_:=Aside0.mk (blk_grown (g:=gb141) (o:=.cells #[.int .i64 a0_0, .int .i64 a0_1, .slice (some ad142) l0_2.length c0_2] 82 (0, 0)) (by (with_reducible repeat (first|refine blk_drewN ?_ _|refine blk_drew ?_|refine blk_alloc ?_ _));refine blk_far ?_ NB141_143.out _;(with_reducible repeat (first|refine blk_drewN ?_ _|refine blk_drew ?_|refine blk_alloc ?_ _));refine blk_far ?_ NB141_143.out _;(with_reducible repeat (first|refine blk_drewN ?_ _|refine blk_drew ?_|refine blk_alloc ?_ _));exact BK141.out) hg (Kd.R_ne HO_7.out BK141.out (by decide)));have n1_:=Aside0.mk (blk_grown (g:=gb143) (o:=.cells #[.int .i64 ((rd_T88 l0_2 x18_1).f0), .int .i64 ((rd_T88 l0_2 x18_1).f1)] 88 (0, 0)) (by (with_reducible repeat (first|refine blk_drewN ?_ _|refine blk_drew ?_|refine blk_alloc ?_ _));refine blk_put (cs:=#[.int .i64 ((rd_T88 l0_2 x18_1).f0), .int .i64 0]) ?_ 1 _ rfl;(with_reducible repeat (first|refine blk_drewN ?_ _|refine blk_drew ?_|refine blk_alloc ?_ _));refine blk_put (cs:=#[.int .i64 0, .int .i64 0]) ?_ 0 _ rfl;(with_reducible repeat (first|refine blk_drewN ?_ _|refine blk_drew ?_|refine blk_alloc ?_ _));exact BK143.out) hg (Kd.R_away HO_7.out (fun _ hk=>hk.2)));have n2_:=Aside0.mk (hb);have n3_:=Aside0.mk (ho);clear BK141;clear BK143;clear HB;clear HO_7;have BK141:=n0_;have BK143:=n1_;have HB:=n2_;have HO146:=n3_;clear n0_ n1_ n2_ n3_;clear ho hb hg hat;have hcz17_0 : w16.cell? ⟨gb143, 0, none⟩ = some (.int .i64 ((rd_T88 l0_2 x18_1).f0)):=(blk_cell BK143.out 0).trans rfl;have hcz17_1 : w16.cell? ⟨gb143, 1, none⟩ = some (.int .i64 ((rd_T88 l0_2 x18_1).f1)):=(blk_cell BK143.out 1).trans rfl;have hfz17_0:=blk_frozen BK143.out 0;have hfz17_1:=blk_frozen BK143.out 1)))
     go_roundg k1
     case measure=>have:=HK1.out;omega
     case rel=>exact ⟨(y144),(wrap64 (x8_1 + ((rd_T88 l0_2 x18_1).f0))),(wrap64 (x18_1 + 1)),(by first|rfl|(simp;done)|(simp [*];done)),(by first|rfl|(simp;done)|(simp [*];done)), H', ⟨by have:=HK1.out;omega⟩,⟨by (with_reducible repeat (first|apply Kd.R_alloc|apply Kd.R_drewN|apply Kd.R_drew));exact Kd.R_mono HO146.out (fun _ hk=>trivial)⟩,⟨by (with_reducible repeat (first|refine blk_drewN ?_ _|refine blk_drew ?_|refine blk_alloc ?_ _));exact BK141.out⟩,⟨by repeat (first|(with_reducible first|exact HB.out|apply below_alloc|apply pw_below_drewN|apply below_drew1|refine below_set ?_ GE141.out|refine below_set ?_ GE143.out)|exact HB.out)⟩⟩
    ·go_wp2_with (first|((with_reducible refine gate_dst (N:=10) rfl ?_);refine box_event ?hg (N:=10) ?hd (cs:=#[.int .i64 0, .int .i64 0]) (t:=88) ?hr ?_;(case hd=>rfl);(case hg=>rfl);(case hr=>first|(go_simp;done)|(go_simp;rfl));intro gb143 hg w18 hbox hb;have n0_:=Aside0.mk (Kd.R_below (Kd.R_elderB (by (with_reducible repeat (first|apply Kd.R_alloc|apply Kd.R_drewN|apply Kd.R_drew));exact HO_7.out) gb143 (Nat.le_of_eq hg.symm)) hb);have n1_:=Aside0.mk (blk_below (g:=gb141) (o:=.cells #[.int .i64 a0_0, .int .i64 a0_1, .slice (some ad142) l0_2.length c0_2] 82 (0, 0)) (by (with_reducible repeat (first|refine blk_drewN ?_ _|refine blk_drew ?_|refine blk_alloc ?_ _));exact BK141.out) hb);have n2_:=Aside0.mk (below_step (by repeat (first|(with_reducible first|exact HB.out|apply below_alloc|apply pw_below_drewN|apply below_drew1|refine below_set ?_ GE141.out)|exact HB.out)) hb);have n3_:=Aside0.mk (hbox);have n4_:=Aside0.mk ((by rw [hg];exact (below_size (by repeat (first|(with_reducible first|exact HB.out|apply below_alloc|apply pw_below_drewN|apply below_drew1|refine below_set ?_ GE141.out)|exact HB.out))) : w.heap.size ≤ gb143));have n5_:=Aside0.mk ((by rw [hg];exact (below_size (by repeat (first|(with_reducible first|exact HB.out|apply below_alloc|apply pw_below_drewN|apply below_drew1|refine below_set ?_ GE141.out)|exact HB.out))) : w.heap.size ≤ gb143));have n6_:=Aside0.mk ((by rw [hg];exact Nat.ne_of_lt (blk_lt (g:=gb141) (o:=.cells #[.int .i64 a0_0, .int .i64 a0_1, .slice (some ad142) l0_2.length c0_2] 82 (0, 0)) (by (with_reducible repeat (first|refine blk_drewN ?_ _|refine blk_drew ?_|refine blk_alloc ?_ _));exact BK141.out)) : gb141 ≠ gb143));have n7_:=Aside0.mk ((by rw [hg];exact Nat.ne_of_gt (blk_lt (g:=gb141) (o:=.cells #[.int .i64 a0_0, .int .i64 a0_1, .slice (some ad142) l0_2.length c0_2] 82 (0, 0)) (by (with_reducible repeat (first|refine blk_drewN ?_ _|refine blk_drew ?_|refine blk_alloc ?_ _));exact BK141.out)) : gb143 ≠ gb141));clear HO_7;clear BK141;clear HB;have HO_7:=n0_;have BK141:=n1_;have HB:=n2_;have BK143:=n3_;have GW143:=n4_;have GE143:=n5_;have NB141_143:=n6_;have NB143_141:=n7_;clear n0_ n1_ n2_ n3_ n4_ n5_ n6_ n7_;clear hb hbox hg;have hnb19:=NB143_141.out;have hnc19:=NB141_143.out;have hcz20_0 : w18.cell? ⟨gb143, 0, none⟩ = some (.int .i64 0):=(blk_cell BK143.out 0).trans rfl;have hcz20_1 : w18.cell? ⟨gb143, 1, none⟩ = some (.int .i64 0):=(blk_cell BK143.out 1).trans rfl;have hfz20_0:=blk_frozen BK143.out 0;have hfz20_1:=blk_frozen BK143.out 1))
     repeat (go_quiet (first|((with_reducible refine gate_dst (N:=10) rfl ?_);refine box_event ?hg (N:=10) ?hd (cs:=#[.int .i64 0, .int .i64 0]) (t:=88) ?hr ?_;(case hd=>rfl);(case hg=>rfl);(case hr=>first|(go_simp;done)|(go_simp;rfl));intro gb143 hg w18 hbox hb;have n0_:=Aside0.mk (Kd.R_below (Kd.R_elderB (by (with_reducible repeat (first|apply Kd.R_alloc|apply Kd.R_drewN|apply Kd.R_drew));exact HO_7.out) gb143 (Nat.le_of_eq hg.symm)) hb);have n1_:=Aside0.mk (blk_below (g:=gb141) (o:=.cells #[.int .i64 a0_0, .int .i64 a0_1, .slice (some ad142) l0_2.length c0_2] 82 (0, 0)) (by (with_reducible repeat (first|refine blk_drewN ?_ _|refine blk_drew ?_|refine blk_alloc ?_ _));exact BK141.out) hb);have n2_:=Aside0.mk (below_step (by repeat (first|(with_reducible first|exact HB.out|apply below_alloc|apply pw_below_drewN|apply below_drew1|refine below_set ?_ GE141.out)|exact HB.out)) hb);have n3_:=Aside0.mk (hbox);have n4_:=Aside0.mk ((by rw [hg];exact (below_size (by repeat (first|(with_reducible first|exact HB.out|apply below_alloc|apply pw_below_drewN|apply below_drew1|refine below_set ?_ GE141.out)|exact HB.out))) : w.heap.size ≤ gb143));have n5_:=Aside0.mk ((by rw [hg];exact (below_size (by repeat (first|(with_reducible first|exact HB.out|apply below_alloc|apply pw_below_drewN|apply below_drew1|refine below_set ?_ GE141.out)|exact HB.out))) : w.heap.size ≤ gb143));have n6_:=Aside0.mk ((by rw [hg];exact Nat.ne_of_lt (blk_lt (g:=gb141) (o:=.cells #[.int .i64 a0_0, .int .i64 a0_1, .slice (some ad142) l0_2.length c0_2] 82 (0, 0)) (by (with_reducible repeat (first|refine blk_drewN ?_ _|refine blk_drew ?_|refine blk_alloc ?_ _));exact BK141.out)) : gb141 ≠ gb143));have n7_:=Aside0.mk ((by rw [hg];exact Nat.ne_of_gt (blk_lt (g:=gb141) (o:=.cells #[.int .i64 a0_0, .int .i64 a0_1, .slice (some ad142) l0_2.length c0_2] 82 (0, 0)) (by (with_reducible repeat (first|refine blk_drewN ?_ _|refine blk_drew ?_|refine blk_alloc ?_ _));exact BK141.out)) : gb143 ≠ gb141));clear HO_7;clear BK141;clear HB;have HO_7:=n0_;have BK141:=n1_;have HB:=n2_;have BK143:=n3_;have GW143:=n4_;have GE143:=n5_;have NB141_143:=n6_;have NB143_141:=n7_;clear n0_ n1_ n2_ n3_ n4_ n5_ n6_ n7_;clear hb hbox hg;have hnb19:=NB143_141.out;have hnc19:=NB141_143.out;have hcz20_0 : w18.cell? ⟨gb143, 0, none⟩ = some (.int .i64 0):=(blk_cell BK143.out 0).trans rfl;have hcz20_1 : w18.cell? ⟨gb143, 1, none⟩ = some (.int .i64 0):=(blk_cell BK143.out 1).trans rfl;have hfz20_0:=blk_frozen BK143.out 0;have hfz20_1:=blk_frozen BK143.out 1));try go_wp2_with (first|((with_reducible refine gate_dst (N:=10) rfl ?_);refine box_event ?hg (N:=10) ?hd (cs:=#[.int .i64 0, .int .i64 0]) (t:=88) ?hr ?_;(case hd=>rfl);(case hg=>rfl);(case hr=>first|(go_simp;done)|(go_simp;rfl));intro gb143 hg w18 hbox hb;have n0_:=Aside0.mk (Kd.R_below (Kd.R_elderB (by (with_reducible repeat (first|apply Kd.R_alloc|apply Kd.R_drewN|apply Kd.R_drew));exact HO_7.out) gb143 (Nat.le_of_eq hg.symm)) hb);have n1_:=Aside0.mk (blk_below (g:=gb141) (o:=.cells #[.int .i64 a0_0, .int .i64 a0_1, .slice (some ad142) l0_2.length c0_2] 82 (0, 0)) (by (with_reducible repeat (first|refine blk_drewN ?_ _|refine blk_drew ?_|refine blk_alloc ?_ _));exact BK141.out) hb);have n2_:=Aside0.mk (below_step (by repeat (first|(with_reducible first|exact HB.out|apply below_alloc|apply pw_below_drewN|apply below_drew1|refine below_set ?_ GE141.out)|exact HB.out)) hb);have n3_:=Aside0.mk (hbox);have n4_:=Aside0.mk ((by rw [hg];exact (below_size (by repeat (first|(with_reducible first|exact HB.out|apply below_alloc|apply pw_below_drewN|apply below_drew1|refine below_set ?_ GE141.out)|exact HB.out))) : w.heap.size ≤ gb143));have n5_:=Aside0.mk ((by rw [hg];exact (below_size (by repeat (first|(with_reducible first|exact HB.out|apply below_alloc|apply pw_below_drewN|apply below_drew1|refine below_set ?_ GE141.out)|exact HB.out))) : w.heap.size ≤ gb143));have n6_:=Aside0.mk ((by rw [hg];exact Nat.ne_of_lt (blk_lt (g:=gb141) (o:=.cells #[.int .i64 a0_0, .int .i64 a0_1, .slice (some ad142) l0_2.length c0_2] 82 (0, 0)) (by (with_reducible repeat (first|refine blk_drewN ?_ _|refine blk_drew ?_|refine blk_alloc ?_ _));exact BK141.out)) : gb141 ≠ gb143));have n7_:=Aside0.mk ((by rw [hg];exact Nat.ne_of_gt (blk_lt (g:=gb141) (o:=.cells #[.int .i64 a0_0, .int .i64 a0_1, .slice (some ad142) l0_2.length c0_2] 82 (0, 0)) (by (with_reducible repeat (first|refine blk_drewN ?_ _|refine blk_drew ?_|refine blk_alloc ?_ _));exact BK141.out)) : gb143 ≠ gb141));clear HO_7;clear BK141;clear HB;have HO_7:=n0_;have BK141:=n1_;have HB:=n2_;have BK143:=n3_;have GW143:=n4_;have GE143:=n5_;have NB141_143:=n6_;have NB143_141:=n7_;clear n0_ n1_ n2_ n3_ n4_ n5_ n6_ n7_;clear hb hbox hg;have hnb19:=NB143_141.out;have hnc19:=NB141_143.out;have hcz20_0 : w18.cell? ⟨gb143, 0, none⟩ = some (.int .i64 0):=(blk_cell BK143.out 0).trans rfl;have hcz20_1 : w18.cell? ⟨gb143, 1, none⟩ = some (.int .i64 0):=(blk_cell BK143.out 1).trans rfl;have hfz20_0:=blk_frozen BK143.out 0;have hfz20_1:=blk_frozen BK143.out 1)))
     go_roundg k1
     case measure=>have:=HK1.out;omega
     case rel=>exact ⟨(x7_1),(wrap64 (x8_1 + ((rd_T88 l0_2 x18_1).f0))),(wrap64 (x18_1 + 1)),(by first|rfl|(simp;done)|(simp [*];done)),(by first|rfl|(simp;done)|(simp [*];done)), H', ⟨by have:=HK1.out;omega⟩,⟨by (with_reducible repeat (first|apply Kd.R_alloc|apply Kd.R_drewN|apply Kd.R_drew));exact Kd.R_mono (Kd.R_far (p:=⟨gb143, 1, none⟩) (Kd.R_far (p:=⟨gb143, 0, none⟩) (Kd.R_mono HO_7.out (fun k_ hk=>(⟨hk, hk.2⟩ : _∧k_ ≠ gb143))) (fun _ hk=>hk.2) (.int .i64 ((rd_T88 l0_2 x18_1).f0))) (fun _ hk=>hk.2) (.int .i64 ((rd_T88 l0_2 x18_1).f1))) (fun _ hk=>trivial)⟩,⟨by (with_reducible repeat (first|refine blk_drewN ?_ _|refine blk_drew ?_|refine blk_alloc ?_ _));refine blk_far ?_ NB141_143.out _;(with_reducible repeat (first|refine blk_drewN ?_ _|refine blk_drew ?_|refine blk_alloc ?_ _));refine blk_far ?_ NB141_143.out _;(with_reducible repeat (first|refine blk_drewN ?_ _|refine blk_drew ?_|refine blk_alloc ?_ _));exact BK141.out⟩,⟨by repeat (first|(with_reducible first|exact HB.out|apply below_alloc|apply pw_below_drewN|apply below_drew1|refine below_set ?_ GE141.out|refine below_set ?_ GE143.out)|exact HB.out)⟩⟩
   ·rw [if_neg c6] at H
    have c6b0 : decide (x18_1 < (l0_2.length : Int)) = false:=decide_eq_false c6
    clear c6
    obtain rfl:=Option.some.inj H
    go_wp2
    repeat (go_quiet (fail);try go_wp2)
    go_ret
    exact ⟨_, by first|rfl|(simp [errW_none, errW_some] <;> rfl)|(simp [*, errW_none, errW_some] <;> rfl), by (with_reducible repeat (first|apply Kd.R_alloc|apply Kd.R_drewN|apply Kd.R_drew));exact HO_7.out, by repeat (first|(with_reducible first|exact HB.out|apply below_alloc|apply pw_below_drewN|apply below_drew1|refine below_set ?_ GE141.out)|exact HB.out)⟩
def convexpl_Restrict.f (k : Nat) (a0_0 : Int) (a0_1 : Int) (l0_2 : List (S88)) (a1 : Int) (a2 : Int) : Option (Int × Int × (List (S88)) × Int) := (convexpl_Check.f k a0_0 a0_1 l0_2).bind fun t149 => (if t149 = 0 then ((convexpl_high.f k a0_0 a0_1 l0_2).bind fun t150 => (if (mx a1 a0_0) > (mn a2 t150) then (some (0, 0, ([] : List (S88)), 8)) else ((convexpl_value.f k a0_0 a0_1 l0_2 (mx a1 a0_0)).bind fun t151 => ((convexpl_cut.f k a0_0 a0_1 l0_2 (mx a1 a0_0) (mn a2 t150)).bind fun t152 => ((convexpl_made.f k (mx a1 a0_0) t151 t152).bind fun bt155 => (some (bt155.1, bt155.2.1, bt155.2.2.1, bt155.2.2.2.1))))))) else (some (0, 0, ([] : List (S88)), t149)))
theorem convexpl_Restrict.mono : ∀ a0 a1 a2 a3 a4 k, LeO (convexpl_Restrict.f k a0 a1 a2 a3 a4) (convexpl_Restrict.f (k + 1) a0 a1 a2 a3 a4) := by
 intro a0 a1 a2 a3 a4 k
 unfold convexpl_Restrict.f
 repeat' first
  |(with_reducible exact convexpl_Check.mono _ _ _ _)
  |(with_reducible exact convexpl_cut.mono _ _ _ _ _ _)
  |(with_reducible exact convexpl_high.mono _ _ _ _)
  |(with_reducible exact convexpl_made.mono _ _ _ _)
  |(with_reducible exact convexpl_value.mono _ _ _ _ _)
  |(with_reducible exact LeO.refl _)
  |(with_reducible exact LeO.none _)
  |(with_reducible refine LeO.ite ?_ ?_)
  |(with_reducible refine LeO.bind ?_ (fun _ => ?_))
  |exact convexpl_Check.mono _ _ _ _
  |exact convexpl_cut.mono _ _ _ _ _ _
  |exact convexpl_high.mono _ _ _ _
  |exact convexpl_made.mono _ _ _ _
  |exact convexpl_value.mono _ _ _ _ _
  |exact LeO.none _
  |refine LeO.ite ?_ ?_
  |refine LeO.bind ?_ (fun _ => ?_)
def convexpl_Restrict.T4 : Bool × List (List Nat × List Nat) := (true, [([], []), ([], []), ([1], [1]), ([0, 2], [0, 2]), ([], []), ([], []), ([5], [5]), ([4, 6], [4, 6]), ([3, 6, 0, 1, 2, 3], [0, 3]), ([7, 8, 0, 1, 2, 3, 4, 5, 6, 7, 8], [4, 7])])
def convexpl_Restrict.B4 : List Nat := [0, 0, 2, 7, 0, 0, 32, 112, 111, 511]
theorem convexpl_Restrict.tab4 : rtab .any (opsOf Try.f32 4) = convexpl_Restrict.T4 := by kernel_rfl
theorem convexpl_Restrict.bits4 : waitsOk convexpl_Restrict.T4.2 convexpl_Restrict.B4 = true := by kernel_rfl
def convexpl_Restrict.T7 : Bool × List (List Nat × List Nat) := (true, [([], []), ([], []), ([], []), ([1, 2], [1, 2]), ([], []), ([], []), ([], []), ([4, 5, 6, 3], [4, 5, 6]), ([0, 3, 7, 7], [0, 3, 7]), ([8], [8]), ([8], [8]), ([9, 8, 0, 1, 2, 3, 4, 5, 6, 7, 8, 9, 10], [9]), ([10, 11, 0, 1, 2, 3, 4, 5, 6, 7, 8, 9, 10, 11], [10])])
def convexpl_Restrict.B7 : List Nat := [0, 0, 0, 6, 0, 0, 0, 126, 255, 511, 511, 2047, 4095]
theorem convexpl_Restrict.tab7 : rtab .any (opsOf Try.f32 7) = convexpl_Restrict.T7 := by kernel_rfl
theorem convexpl_Restrict.bits7 : waitsOk convexpl_Restrict.T7.2 convexpl_Restrict.B7 = true := by kernel_rfl
set_option maxHeartbeats 8000000 in
set_option maxRecDepth 100000 in
theorem convexpl_Restrict.calls (k : Nat) (a0_0 : Int) (a0_1 : Int) (A0_2 : Option Addr) (c0_2 : Nat) (l0_2 : List (S88)) (a1 : Int) (a2 : Int) (r1 : Int) (r2 : Int) (r3 : List (S88)) (r4 : Int) (w : World) (hr0_2 : Kd.C k88 w A0_2 l0_2.length l0_2) (hc0_2 : l0_2.length ≤ c0_2) (h : convexpl_Restrict.f k a0_0 a0_1 l0_2 a1 a2 = some (r1, r2, r3, r4)) :
  Calls Try.prog 32 #[.agg #[.int .i64 a0_0, .int .i64 a0_1, .slice A0_2 l0_2.length c0_2], .int .i64 a1, .int .i64 a2] w fun e w' => ∃ v2_ : Value, e = .returned (.tuple #[.agg #[.int .i64 r1, .int .i64 r2, v2_], .int .i64 r4]) ∧ Kd.R k88 88 w' w.heap.size (fun _ => True) v2_ r3 ∧ Below w.heap.size w w' := by
 have hu82:=Try.underlying82
 have HR0_2:=Aside0.mk hr0_2
 have HC0_2:=Aside0.mk hc0_2
 clear hr0_2 hc0_2
 have HB:=Aside0.mk (Below.refl w.heap.size w)
 have H : ((convexpl_Check.f k a0_0 a0_1 l0_2).bind fun t149=>(if t149 = 0 then ((convexpl_high.f k a0_0 a0_1 l0_2).bind fun t150=>(if (mx a1 a0_0) > (mn a2 t150) then (some (0, 0, ([] : List (S88)), 8)) else ((convexpl_value.f k a0_0 a0_1 l0_2 (mx a1 a0_0)).bind fun t151=>((convexpl_cut.f k a0_0 a0_1 l0_2 (mx a1 a0_0) (mn a2 t150)).bind fun t152=>((convexpl_made.f k (mx a1 a0_0) t151 t152).bind fun bt155=>(some (bt155.1, bt155.2.1, bt155.2.2.1, bt155.2.2.2.1))))))) else (some (0, 0, ([] : List (S88)), t149)))) = some (r1, r2, r3, r4):=h
 clear h
 replace H:=Option.bind_eq_some_iff.mp H
 obtain ⟨t149, A40, H⟩:=H
 replace H : (if t149 = 0 then ((convexpl_high.f k a0_0 a0_1 l0_2).bind fun t150=>(if (mx a1 a0_0) > (mn a2 t150) then (some (0, 0, ([] : List (S88)), 8)) else ((convexpl_value.f k a0_0 a0_1 l0_2 (mx a1 a0_0)).bind fun t151=>((convexpl_cut.f k a0_0 a0_1 l0_2 (mx a1 a0_0) (mn a2 t150)).bind fun t152=>((convexpl_made.f k (mx a1 a0_0) t151 t152).bind fun bt155=>(some (bt155.1, bt155.2.1, bt155.2.2.1, bt155.2.2.2.1))))))) else (some (0, 0, ([] : List (S88)), t149))) = some (r1, r2, r3, r4):=H
 have A4:=Aside0.mk A40
 clear A40
 by_cases c5 : t149 = 0
 ·rw [if_pos c5] at H
  have c5b0 : (t149 == 0) = true:=beq_iff_eq.mpr c5
  have c5b1 : (t149 != 0) = false:=bne_eq_false_iff_eq.mpr c5
  clear c5
  obtain ⟨ji6, hji6⟩ : ∃ j_ : Int, (mx a1 a0_0) = j_:=⟨_, rfl⟩
  replace H : ((convexpl_high.f k a0_0 a0_1 l0_2).bind fun t150=>(if (ji6) > (mn a2 t150) then (some (0, 0, ([] : List (S88)), 8)) else ((convexpl_value.f k a0_0 a0_1 l0_2 (ji6)).bind fun t151=>((convexpl_cut.f k a0_0 a0_1 l0_2 (ji6) (mn a2 t150)).bind fun t152=>((convexpl_made.f k (ji6) t151 t152).bind fun bt155=>(some (bt155.1, bt155.2.1, bt155.2.2.1, bt155.2.2.2.1))))))) = some (r1, r2, r3, r4):=by first|(rw [hji6] at H;exact H)|(simp only [hji6] at H ⊢;exact H)
  (try rw [hji6] at A4)
  have hji6_ : (if a1 < a0_0 then a0_0 else a1) = ji6:=hji6
  replace H:=Option.bind_eq_some_iff.mp H
  obtain ⟨t150, A70, H⟩:=H
  replace H : (if (ji6) > (mn a2 t150) then (some (0, 0, ([] : List (S88)), 8)) else ((convexpl_value.f k a0_0 a0_1 l0_2 (ji6)).bind fun t151=>((convexpl_cut.f k a0_0 a0_1 l0_2 (ji6) (mn a2 t150)).bind fun t152=>((convexpl_made.f k (ji6) t151 t152).bind fun bt155=>(some (bt155.1, bt155.2.1, bt155.2.2.1, bt155.2.2.2.1)))))) = some (r1, r2, r3, r4):=H
  have A7:=Aside0.mk A70
  clear A70
  obtain ⟨ji8, hji8⟩ : ∃ j_ : Int, (mn a2 t150) = j_:=⟨_, rfl⟩
  replace H : (if (ji6) > (ji8) then (some (0, 0, ([] : List (S88)), 8)) else ((convexpl_value.f k a0_0 a0_1 l0_2 (ji6)).bind fun t151=>((convexpl_cut.f k a0_0 a0_1 l0_2 (ji6) (ji8)).bind fun t152=>((convexpl_made.f k (ji6) t151 t152).bind fun bt155=>(some (bt155.1, bt155.2.1, bt155.2.2.1, bt155.2.2.2.1)))))) = some (r1, r2, r3, r4):=by first|(rw [hji8] at H;exact H)|(simp only [hji8] at H ⊢;exact H)
  (try rw [hji8] at A4)
  (try rw [hji8] at A7)
  have hji8_ : (if t150 < a2 then t150 else a2) = ji8:=hji8
  by_cases c9 : (ji6) > (ji8)
  ·rw [if_pos c9] at H
   have c9b0 : decide ((ji8) < (ji6)) = true:=decide_eq_true c9
   clear c9
   simp only [Option.some.injEq, Prod.mk.injEq] at H
   obtain ⟨rfl, rfl, rfl, rfl⟩:=H
   go_enter Try.func32, Try.ntmps32
   try go_wp2_with (first|((with_reducible refine gate_dst (N:=3) rfl ?_);refine box_event ?hg (N:=3) ?hd (cs:=#[.int .i64 a0_0, .int .i64 a0_1, .slice A0_2 l0_2.length c0_2]) (t:=82) ?hr ?_;(case hd=>rfl);(case hg=>rfl);(case hr=>first|(go_simp;done)|(go_simp;rfl));intro gb147 hg w10 hbox hb;have n0_:=Aside0.mk (below_step (by repeat (first|(with_reducible first|exact HB.out|apply below_alloc|apply pw_below_drewN|apply below_drew1)|exact HB.out)) hb);have n1_:=Aside0.mk (hbox);have n2_:=Aside0.mk ((by rw [hg];exact (below_size (by repeat (first|(with_reducible first|exact HB.out|apply below_alloc|apply pw_below_drewN|apply below_drew1)|exact HB.out))) : w.heap.size ≤ gb147));have n3_:=Aside0.mk ((by rw [hg];exact (below_size (by repeat (first|(with_reducible first|exact HB.out|apply below_alloc|apply pw_below_drewN|apply below_drew1)|exact HB.out))) : w.heap.size ≤ gb147));clear HB;have HB:=n0_;have BK147:=n1_;have GW147:=n2_;have GE147:=n3_;clear n0_ n1_ n2_ n3_;clear hb hbox hg)|((with_reducible refine gate_dst (N:=6) rfl ?_);refine box_event ?hg (N:=6) ?hd (cs:=#[.int .i64 0, .int .i64 0, .slice none 0 0]) (t:=82) ?hr ?_;(case hd=>rfl);(case hg=>rfl);(case hr=>first|(go_simp;done)|(go_simp;rfl));intro gb148 hg w11 hbox hb;have n0_:=Aside0.mk (blk_below (g:=gb147) (o:=.cells #[.int .i64 a0_0, .int .i64 a0_1, .slice A0_2 l0_2.length c0_2] 82 (0, 0)) (by (with_reducible repeat (first|refine blk_drewN ?_ _|refine blk_drew ?_|refine blk_alloc ?_ _));exact BK147.out) hb);have n1_:=Aside0.mk (below_step (by repeat (first|(with_reducible first|exact HB.out|apply below_alloc|apply pw_below_drewN|apply below_drew1|refine below_set ?_ GE147.out)|exact HB.out)) hb);have n2_:=Aside0.mk (hbox);have n3_:=Aside0.mk ((by rw [hg];exact (below_size (by repeat (first|(with_reducible first|exact HB.out|apply below_alloc|apply pw_below_drewN|apply below_drew1|refine below_set ?_ GE147.out)|exact HB.out))) : w.heap.size ≤ gb148));have n4_:=Aside0.mk ((by rw [hg];exact (below_size (by repeat (first|(with_reducible first|exact HB.out|apply below_alloc|apply pw_below_drewN|apply below_drew1|refine below_set ?_ GE147.out)|exact HB.out))) : w.heap.size ≤ gb148));have n5_:=Aside0.mk ((by rw [hg];exact Nat.ne_of_lt (blk_lt (g:=gb147) (o:=.cells #[.int .i64 a0_0, .int .i64 a0_1, .slice A0_2 l0_2.length c0_2] 82 (0, 0)) (by (with_reducible repeat (first|refine blk_drewN ?_ _|refine blk_drew ?_|refine blk_alloc ?_ _));exact BK147.out)) : gb147 ≠ gb148));have n6_:=Aside0.mk ((by rw [hg];exact Nat.ne_of_gt (blk_lt (g:=gb147) (o:=.cells #[.int .i64 a0_0, .int .i64 a0_1, .slice A0_2 l0_2.length c0_2] 82 (0, 0)) (by (with_reducible repeat (first|refine blk_drewN ?_ _|refine blk_drew ?_|refine blk_alloc ?_ _));exact BK147.out)) : gb148 ≠ gb147));clear BK147;clear HB;have BK147:=n0_;have HB:=n1_;have BK148:=n2_;have GW148:=n3_;have GE148:=n4_;have NB147_148:=n5_;have NB148_147:=n6_;clear n0_ n1_ n2_ n3_ n4_ n5_ n6_;clear hb hbox hg;have hnb12:=NB147_148.out;have hnc12:=NB148_147.out;have hcz13_0 : w11.cell? ⟨gb147, 0, none⟩ = some (.int .i64 a0_0):=(blk_cell BK147.out 0).trans rfl;have hcz13_1 : w11.cell? ⟨gb147, 1, none⟩ = some (.int .i64 a0_1):=(blk_cell BK147.out 1).trans rfl;have hcz13_2 : w11.cell? ⟨gb147, 2, none⟩ = some (.slice A0_2 l0_2.length c0_2):=(blk_cell BK147.out 2).trans rfl;have hfz13_0:=blk_frozen BK147.out 0;have hfz13_1:=blk_frozen BK147.out 1;have hfz13_2:=blk_frozen BK147.out 2)|((with_reducible refine gate_callee (f:=71) rfl ?_);refine goesL_ (some 10) rfl rfl Try.func71 (by kernel_rfl) rfl #[.agg #[.int .i64 a0_0, .int .i64 a0_1, .slice A0_2 l0_2.length c0_2]] rfl (by (try simp only [List.map_toArray, List.map_cons, List.map_nil]);first|done|rfl|(simp only [List.length_drop, List.length_take];rfl)) ?_;(with_reducible refine (convexpl_Check.calls k a0_0 a0_1 _ _ l0_2 t149 _ ?side1 ?side2 A4.out).mono ?_);(case side1=>repeat (first|exact (Kd.C_below HR0_2.out HB.out)|(with_reducible refine Kd.C_alloc ?_ _)|(with_reducible refine Kd.C_drewN ?_ _)|(with_reducible refine Kd.C_drew ?_)));(case side2=>exact HC0_2.out);rintro e w14 ⟨rfl, hb⟩;refine ⟨_, rfl, ?_⟩;have n0_:=Aside0.mk (blk_below (g:=gb147) (o:=.cells #[.int .i64 a0_0, .int .i64 a0_1, .slice A0_2 l0_2.length c0_2] 82 (0, 0)) (by (with_reducible repeat (first|refine blk_drewN ?_ _|refine blk_drew ?_|refine blk_alloc ?_ _));exact BK147.out) hb);have n1_:=Aside0.mk (blk_below (g:=gb148) (o:=.cells #[.int .i64 0, .int .i64 0, .slice none 0 0] 82 (0, 0)) (by (with_reducible repeat (first|refine blk_drewN ?_ _|refine blk_drew ?_|refine blk_alloc ?_ _));exact BK148.out) hb);have n2_:=Aside0.mk (below_step (by repeat (first|(with_reducible first|exact HB.out|apply below_alloc|apply pw_below_drewN|apply below_drew1|refine below_set ?_ GE147.out|refine below_set ?_ GE148.out)|exact HB.out)) hb);clear BK147;clear BK148;clear HB;have BK147:=n0_;have BK148:=n1_;have HB:=n2_;clear n0_ n1_ n2_;(try clear hb);(try clear hb2);(try clear hk);(try clear hi)))
   have n0_:=Aside0.mk (blk_drew BK147.out)
   have n1_:=Aside0.mk (blk_drew BK148.out)
   have n2_:=Aside0.mk (below_drew1 HB.out)
   clear BK147
   clear BK148
   clear HB
   have BK147:=n0_
   have BK148:=n1_
   have HB:=n2_
   clear n0_ n1_ n2_
   refine start_ (n:=10) (S:=fun w'=>w'.cell? ⟨gb147, 0, none⟩ = some (.int .i64 a0_0)∧w'.cell? ⟨gb147, 1, none⟩ = some (.int .i64 a0_1)∧w'.cell? ⟨gb147, 2, none⟩ = some (.slice A0_2 l0_2.length c0_2)) (ds:=[]) #[false, false, false, false, false, false, false, false, false, false] (by kernel_rfl) rfl rfl ⟨(blk_cell BK147.out 0).trans rfl, (blk_cell BK147.out 1).trans rfl, (blk_cell BK147.out 2).trans rfl⟩ (fun hHeld=>?_);refine with_tabW convexpl_Restrict.tab4 convexpl_Restrict.bits4 (fun HT_ HW_=>?_)
   generalize w14.drew = w15 at BK147 BK148 HB hHeld ⊢
   refine pure_ (i:=0) (N:=some 15) (v:=?_) (a':=?_) #[true, false, false, false, false, false, false, false, false, false] rfl rfl (any_of HT_.out (by kernel_rfl)) (fun _ _ _ h=>h) (Or.inl ⟨by rfl, ?_⟩) ?_ ?_
   rotate_left
   ·intro w'
    go_simp
    with_reducible rfl
   rotate_left
   ·simp only [Act.put, List.setIfInBounds_toArray, List.set_cons_zero, List.set_cons_succ, i64_w, i32_w]
    rfl
   refine pure_ (i:=1) (N:=some 16) (v:=?_) (a':=?_) #[true, true, false, false, false, false, false, false, false, false] rfl rfl (any_of HT_.out (by kernel_rfl)) (fun _ _ _ h=>h) (Or.inl ⟨by rfl, ?_⟩) ?_ ?_
   rotate_left
   ·intro w'
    go_simp
    with_reducible rfl
   rotate_left
   ·simp only [Act.put, List.setIfInBounds_toArray, List.set_cons_zero, List.set_cons_succ, i64_w, i32_w]
    rfl
   refine pure_ (i:=4) (N:=some 19) (v:=?_) (a':=?_) #[true, true, false, false, true, false, false, false, false, false] rfl rfl (any_of HT_.out (by kernel_rfl)) (fun _ _ _ h=>h) (Or.inl ⟨by rfl, ?_⟩) ?_ ?_
   rotate_left
   ·intro w'
    go_simp
    with_reducible rfl
   rotate_left
   ·simp only [Act.put, List.setIfInBounds_toArray, List.set_cons_zero, List.set_cons_succ, i64_w, i32_w]
    rfl
   refine take_ (i:=2) (N:=some 17) (v:=?_) (a':=?_) #[true, true, true, false, true, false, false, false, false, false] rfl rfl (take_ofW HT_.out HW_.out (by kernel_rfl)) (fun _ _ _ h=>h) (Or.inl ⟨by rfl, ?_⟩) hHeld ?_ ?_
   rotate_left
   ·rintro w' ⟨s0, s1, s2⟩
    go_simp
    with_reducible rfl
   rotate_left
   ·simp only [Act.put, List.setIfInBounds_toArray, List.set_cons_zero, List.set_cons_succ, i64_w, i32_w]
    rfl
   refine pure_ (i:=3) (N:=some 18) (v:=?_) (a':=?_) #[true, true, true, true, true, false, false, false, false, false] rfl rfl (any_of HT_.out (by kernel_rfl)) (fun _ _ _ h=>h) (Or.inl ⟨by rfl, ?_⟩) ?_ ?_
   rotate_left
   ·intro w'
    go_simp
    with_reducible rfl
   rotate_left
   ·simp only [Act.put, List.setIfInBounds_toArray, List.set_cons_zero, List.set_cons_succ, i64_w, i32_w]
    rfl
   refine take_ (i:=5) (N:=some 20) (v:=?_) (a':=?_) #[true, true, true, true, true, true, false, false, false, false] rfl rfl (take_ofW HT_.out HW_.out (by kernel_rfl)) (fun _ _ _ h=>h) (Or.inl ⟨by rfl, ?_⟩) hHeld ?_ ?_
   rotate_left
   ·rintro w' ⟨s0, s1, s2⟩
    go_simp
    with_reducible rfl
   rotate_left
   ·simp only [Act.put, List.setIfInBounds_toArray, List.set_cons_zero, List.set_cons_succ, i64_w, i32_w]
    rfl
   refine one_ (i:=6) (N:=some 21) #[true, true, true, true, true, true, true, false, false, false] rfl rfl (one_of HT_.out (by kernel_rfl)) (by decide) (fun K hK=>?_)
   refine goes_ Try.func72 (by kernel_rfl) rfl #[.agg #[.int .i64 a0_0, .int .i64 a0_1, .slice A0_2 l0_2.length c0_2]] (by rfl) rfl rfl (by (try simp only [List.map_toArray, List.map_cons, List.map_nil]);first|done|rfl|(simp only [List.length_drop, List.length_take];rfl)) ?_
   with_reducible refine (convexpl_high.calls k a0_0 a0_1 _ _ l0_2 t150 _ ?side1 ?side2 A7.out).mono ?_
   (case side1=>repeat (first|exact (Kd.C_below HR0_2.out HB.out)|(with_reducible refine Kd.C_alloc ?_ _)|(with_reducible refine Kd.C_drewN ?_ _)|(with_reducible refine Kd.C_drew ?_)))
   (case side2=>exact HC0_2.out)
   rintro e w16 ⟨rfl, hb⟩
   refine ⟨_, rfl, ?_⟩
   have n0_:=Aside0.mk (blk_below (g:=gb147) (o:=.cells #[.int .i64 a0_0, .int .i64 a0_1, .slice A0_2 l0_2.length c0_2] 82 (0, 0)) (by (with_reducible repeat (first|refine blk_drewN ?_ _|refine blk_drew ?_|refine blk_alloc ?_ _));exact BK147.out) hb)
   have n1_:=Aside0.mk (blk_below (g:=gb148) (o:=.cells #[.int .i64 0, .int .i64 0, .slice none 0 0] 82 (0, 0)) (by (with_reducible repeat (first|refine blk_drewN ?_ _|refine blk_drew ?_|refine blk_alloc ?_ _));exact BK148.out) hb)
   have n2_:=Aside0.mk (below_step (by repeat (first|(with_reducible first|exact HB.out|apply below_alloc|apply pw_below_drewN|apply below_drew1|refine below_set ?_ GE147.out|refine below_set ?_ GE148.out)|exact HB.out)) hb)
   clear BK147
   clear BK148
   clear HB
   have BK147:=n0_
   have BK148:=n1_
   have HB:=n2_
   clear n0_ n1_ n2_
   (try clear hb)
   (try clear hb2)
   (try clear hk)
   (try clear hi)
   refine hK.out _ _ ⟨(blk_cell BK147.out 0).trans rfl, (blk_cell BK147.out 1).trans rfl, (blk_cell BK147.out 2).trans rfl⟩ (fun hHeld=>?_)
   clear hK K
   refine norm_ (a':=?_) ?_ ?_
   rotate_left
   ·show Act.put _ (some 21) _ = _
    simp only [Act.put, List.setIfInBounds_toArray, List.set_cons_zero, List.set_cons_succ, i64_w, i32_w]
    rfl
   refine pure_ (i:=7) (N:=some 22) (v:=?_) (a':=?_) #[true, true, true, true, true, true, true, true, false, false] rfl rfl (any_of HT_.out (by kernel_rfl)) (fun _ _ _ h=>h) (Or.inl ⟨by rfl, ?_⟩) ?_ ?_
   rotate_left
   ·intro w'
    go_simp
    with_reducible rfl
   rotate_left
   ·simp only [Act.put, List.setIfInBounds_toArray, List.set_cons_zero, List.set_cons_succ, i64_w, i32_w]
    rfl
   refine pure_ (i:=8) (N:=some 1) (v:=?_) (a':=?_) #[true, true, true, true, true, true, true, true, true, false] rfl rfl (any_of HT_.out (by kernel_rfl)) (fun _ _ _ h=>h) (Or.inl ⟨by rfl, ?_⟩) ?_ ?_
   rotate_left
   ·intro w'
    go_simp
    with_reducible rfl
   rotate_left
   ·simp only [Act.put, List.setIfInBounds_toArray, List.set_cons_zero, List.set_cons_succ, i64_w, i32_w]
    rfl
   refine pure_ (i:=9) (N:=some 2) (v:=?_) (a':=?_) #[true, true, true, true, true, true, true, true, true, true] rfl rfl (any_of HT_.out (by kernel_rfl)) (fun _ _ _ h=>h) (Or.inl ⟨by rfl, ?_⟩) ?_ ?_
   rotate_left
   ·intro w'
    go_simp
    with_reducible rfl
   rotate_left
   ·simp only [Act.put, List.setIfInBounds_toArray, List.set_cons_zero, List.set_cons_succ, i64_w, i32_w]
    rfl
   refine done_ (done_of HT_.out (by kernel_rfl)) ?_
   have hcz17_0 : w16.cell? ⟨gb148, 0, none⟩ = some (.int .i64 0):=(blk_cell BK148.out 0).trans rfl
   have hcz17_1 : w16.cell? ⟨gb148, 1, none⟩ = some (.int .i64 0):=(blk_cell BK148.out 1).trans rfl
   have hcz17_2 : w16.cell? ⟨gb148, 2, none⟩ = some (.slice none 0 0):=(blk_cell BK148.out 2).trans rfl
   have hfz17_0:=blk_frozen BK148.out 0
   have hfz17_1:=blk_frozen BK148.out 1
   have hfz17_2:=blk_frozen BK148.out 2
   try go_wp2
   refine bodyPost_ret (results_ct rfl _ _ gb148 82 #[.int .i64 0, .int .i64 0, .slice none 0 0] (0, 0) _ rfl (by (with_reducible repeat (first|refine blk_drewN ?_ _|refine blk_drew ?_|refine blk_alloc ?_ _));refine blk_put (cs:=#[.int .i64 0, .int .i64 0, .slice none 0 0]) ?_ 2 _ rfl;(with_reducible repeat (first|refine blk_drewN ?_ _|refine blk_drew ?_|refine blk_alloc ?_ _));refine blk_put (cs:=#[.int .i64 0, .int .i64 0, .slice none 0 0]) ?_ 1 _ rfl;(with_reducible repeat (first|refine blk_drewN ?_ _|refine blk_drew ?_|refine blk_alloc ?_ _));refine blk_put (cs:=#[.int .i64 0, .int .i64 0, .slice none 0 0]) ?_ 0 _ rfl;(with_reducible repeat (first|refine blk_drewN ?_ _|refine blk_drew ?_|refine blk_alloc ?_ _));exact BK148.out) Try.underlying82 rfl (by kernel_rfl)) rfl ?_
   exact ⟨_, by first|rfl|(simp [errW_none, errW_some] <;> rfl)|(simp only [← hji6, ← hji8];first|rfl|(simp [errW_none, errW_some] <;> rfl))|(simp [*, errW_none, errW_some] <;> rfl), by first|exact Kd.R_nil _ _ _ _ _|exact Kd.N_nil _ _ _ _ _|exact Kd.V_nil _ _ _ _ _|exact Kd.Q_nil _ _ _ _ _|exact Kd.S_nil _ _ _ _ _, by repeat (first|(with_reducible first|exact HB.out|apply below_alloc|apply pw_below_drewN|apply below_drew1|refine below_set ?_ GE147.out|refine below_set ?_ GE148.out)|exact HB.out)⟩
  ·rw [if_neg c9] at H
   have c9b0 : decide ((ji8) < (ji6)) = false:=decide_eq_false c9
   clear c9
   replace H:=Option.bind_eq_some_iff.mp H
   obtain ⟨t151, A180, H⟩:=H
   replace H : ((convexpl_cut.f k a0_0 a0_1 l0_2 (ji6) (ji8)).bind fun t152=>((convexpl_made.f k (ji6) t151 t152).bind fun bt155=>(some (bt155.1, bt155.2.1, bt155.2.2.1, bt155.2.2.2.1)))) = some (r1, r2, r3, r4):=H
   have A18:=Aside0.mk A180
   clear A180
   replace H:=Option.bind_eq_some_iff.mp H
   obtain ⟨t152, A190, H⟩:=H
   replace H : ((convexpl_made.f k (ji6) t151 t152).bind fun bt155=>(some (bt155.1, bt155.2.1, bt155.2.2.1, bt155.2.2.2.1))) = some (r1, r2, r3, r4):=H
   have A19:=Aside0.mk A190
   clear A190
   replace H:=Option.bind_eq_some_iff.mp H
   obtain ⟨⟨t155, t156, t157, t160, t161⟩, A200, H⟩:=H
   replace H : (some (t155, t156, t157, t160)) = some (r1, r2, r3, r4):=H
   have A20:=Aside0.mk A200
   clear A200
   simp only [Option.some.injEq, Prod.mk.injEq] at H
   obtain ⟨rfl, rfl, rfl, rfl⟩:=H
   go_enter Try.func32, Try.ntmps32
   try go_wp2_with (first|((with_reducible refine gate_dst (N:=3) rfl ?_);refine box_event ?hg (N:=3) ?hd (cs:=#[.int .i64 a0_0, .int .i64 a0_1, .slice A0_2 l0_2.length c0_2]) (t:=82) ?hr ?_;(case hd=>rfl);(case hg=>rfl);(case hr=>first|(go_simp;done)|(go_simp;rfl));intro gb147 hg w21 hbox hb;have n0_:=Aside0.mk (below_step (by repeat (first|(with_reducible first|exact HB.out|apply below_alloc|apply pw_below_drewN|apply below_drew1)|exact HB.out)) hb);have n1_:=Aside0.mk (hbox);have n2_:=Aside0.mk ((by rw [hg];exact (below_size (by repeat (first|(with_reducible first|exact HB.out|apply below_alloc|apply pw_below_drewN|apply below_drew1)|exact HB.out))) : w.heap.size ≤ gb147));have n3_:=Aside0.mk ((by rw [hg];exact (below_size (by repeat (first|(with_reducible first|exact HB.out|apply below_alloc|apply pw_below_drewN|apply below_drew1)|exact HB.out))) : w.heap.size ≤ gb147));clear HB;have HB:=n0_;have BK147:=n1_;have GW147:=n2_;have GE147:=n3_;clear n0_ n1_ n2_ n3_;clear hb hbox hg)|((with_reducible refine gate_dst (N:=6) rfl ?_);refine box_event ?hg (N:=6) ?hd (cs:=#[.int .i64 0, .int .i64 0, .slice none 0 0]) (t:=82) ?hr ?_;(case hd=>rfl);(case hg=>rfl);(case hr=>first|(go_simp;done)|(go_simp;rfl));intro gb148 hg w22 hbox hb;have n0_:=Aside0.mk (blk_below (g:=gb147) (o:=.cells #[.int .i64 a0_0, .int .i64 a0_1, .slice A0_2 l0_2.length c0_2] 82 (0, 0)) (by (with_reducible repeat (first|refine blk_drewN ?_ _|refine blk_drew ?_|refine blk_alloc ?_ _));exact BK147.out) hb);have n1_:=Aside0.mk (below_step (by repeat (first|(with_reducible first|exact HB.out|apply below_alloc|apply pw_below_drewN|apply below_drew1|refine below_set ?_ GE147.out)|exact HB.out)) hb);have n2_:=Aside0.mk (hbox);have n3_:=Aside0.mk ((by rw [hg];exact (below_size (by repeat (first|(with_reducible first|exact HB.out|apply below_alloc|apply pw_below_drewN|apply below_drew1|refine below_set ?_ GE147.out)|exact HB.out))) : w.heap.size ≤ gb148));have n4_:=Aside0.mk ((by rw [hg];exact (below_size (by repeat (first|(with_reducible first|exact HB.out|apply below_alloc|apply pw_below_drewN|apply below_drew1|refine below_set ?_ GE147.out)|exact HB.out))) : w.heap.size ≤ gb148));have n5_:=Aside0.mk ((by rw [hg];exact Nat.ne_of_lt (blk_lt (g:=gb147) (o:=.cells #[.int .i64 a0_0, .int .i64 a0_1, .slice A0_2 l0_2.length c0_2] 82 (0, 0)) (by (with_reducible repeat (first|refine blk_drewN ?_ _|refine blk_drew ?_|refine blk_alloc ?_ _));exact BK147.out)) : gb147 ≠ gb148));have n6_:=Aside0.mk ((by rw [hg];exact Nat.ne_of_gt (blk_lt (g:=gb147) (o:=.cells #[.int .i64 a0_0, .int .i64 a0_1, .slice A0_2 l0_2.length c0_2] 82 (0, 0)) (by (with_reducible repeat (first|refine blk_drewN ?_ _|refine blk_drew ?_|refine blk_alloc ?_ _));exact BK147.out)) : gb148 ≠ gb147));clear BK147;clear HB;have BK147:=n0_;have HB:=n1_;have BK148:=n2_;have GW148:=n3_;have GE148:=n4_;have NB147_148:=n5_;have NB148_147:=n6_;clear n0_ n1_ n2_ n3_ n4_ n5_ n6_;clear hb hbox hg;have hnb23:=NB147_148.out;have hnc23:=NB148_147.out;have hcz24_0 : w22.cell? ⟨gb147, 0, none⟩ = some (.int .i64 a0_0):=(blk_cell BK147.out 0).trans rfl;have hcz24_1 : w22.cell? ⟨gb147, 1, none⟩ = some (.int .i64 a0_1):=(blk_cell BK147.out 1).trans rfl;have hcz24_2 : w22.cell? ⟨gb147, 2, none⟩ = some (.slice A0_2 l0_2.length c0_2):=(blk_cell BK147.out 2).trans rfl;have hfz24_0:=blk_frozen BK147.out 0;have hfz24_1:=blk_frozen BK147.out 1;have hfz24_2:=blk_frozen BK147.out 2)|((with_reducible refine gate_callee (f:=71) rfl ?_);refine goesL_ (some 10) rfl rfl Try.func71 (by kernel_rfl) rfl #[.agg #[.int .i64 a0_0, .int .i64 a0_1, .slice A0_2 l0_2.length c0_2]] rfl (by (try simp only [List.map_toArray, List.map_cons, List.map_nil]);first|done|rfl|(simp only [List.length_drop, List.length_take];rfl)) ?_;(with_reducible refine (convexpl_Check.calls k a0_0 a0_1 _ _ l0_2 t149 _ ?side1 ?side2 A4.out).mono ?_);(case side1=>repeat (first|exact (Kd.C_below HR0_2.out HB.out)|(with_reducible refine Kd.C_alloc ?_ _)|(with_reducible refine Kd.C_drewN ?_ _)|(with_reducible refine Kd.C_drew ?_)));(case side2=>exact HC0_2.out);rintro e w25 ⟨rfl, hb⟩;refine ⟨_, rfl, ?_⟩;have n0_:=Aside0.mk (blk_below (g:=gb147) (o:=.cells #[.int .i64 a0_0, .int .i64 a0_1, .slice A0_2 l0_2.length c0_2] 82 (0, 0)) (by (with_reducible repeat (first|refine blk_drewN ?_ _|refine blk_drew ?_|refine blk_alloc ?_ _));exact BK147.out) hb);have n1_:=Aside0.mk (blk_below (g:=gb148) (o:=.cells #[.int .i64 0, .int .i64 0, .slice none 0 0] 82 (0, 0)) (by (with_reducible repeat (first|refine blk_drewN ?_ _|refine blk_drew ?_|refine blk_alloc ?_ _));exact BK148.out) hb);have n2_:=Aside0.mk (below_step (by repeat (first|(with_reducible first|exact HB.out|apply below_alloc|apply pw_below_drewN|apply below_drew1|refine below_set ?_ GE147.out|refine below_set ?_ GE148.out)|exact HB.out)) hb);clear BK147;clear BK148;clear HB;have BK147:=n0_;have BK148:=n1_;have HB:=n2_;clear n0_ n1_ n2_;(try clear hb);(try clear hb2);(try clear hk);(try clear hi)))
   have n0_:=Aside0.mk (blk_drew BK147.out)
   have n1_:=Aside0.mk (blk_drew BK148.out)
   have n2_:=Aside0.mk (below_drew1 HB.out)
   clear BK147
   clear BK148
   clear HB
   have BK147:=n0_
   have BK148:=n1_
   have HB:=n2_
   clear n0_ n1_ n2_
   refine start_ (n:=10) (S:=fun w'=>w'.cell? ⟨gb147, 0, none⟩ = some (.int .i64 a0_0)∧w'.cell? ⟨gb147, 1, none⟩ = some (.int .i64 a0_1)∧w'.cell? ⟨gb147, 2, none⟩ = some (.slice A0_2 l0_2.length c0_2)) (ds:=[]) #[false, false, false, false, false, false, false, false, false, false] (by kernel_rfl) rfl rfl ⟨(blk_cell BK147.out 0).trans rfl, (blk_cell BK147.out 1).trans rfl, (blk_cell BK147.out 2).trans rfl⟩ (fun hHeld=>?_);refine with_tabW convexpl_Restrict.tab4 convexpl_Restrict.bits4 (fun HT_ HW_=>?_)
   generalize w25.drew = w26 at BK147 BK148 HB hHeld ⊢
   refine pure_ (i:=0) (N:=some 15) (v:=?_) (a':=?_) #[true, false, false, false, false, false, false, false, false, false] rfl rfl (any_of HT_.out (by kernel_rfl)) (fun _ _ _ h=>h) (Or.inl ⟨by rfl, ?_⟩) ?_ ?_
   rotate_left
   ·intro w'
    go_simp
    with_reducible rfl
   rotate_left
   ·simp only [Act.put, List.setIfInBounds_toArray, List.set_cons_zero, List.set_cons_succ, i64_w, i32_w]
    rfl
   refine pure_ (i:=1) (N:=some 16) (v:=?_) (a':=?_) #[true, true, false, false, false, false, false, false, false, false] rfl rfl (any_of HT_.out (by kernel_rfl)) (fun _ _ _ h=>h) (Or.inl ⟨by rfl, ?_⟩) ?_ ?_
   rotate_left
   ·intro w'
    go_simp
    with_reducible rfl
   rotate_left
   ·simp only [Act.put, List.setIfInBounds_toArray, List.set_cons_zero, List.set_cons_succ, i64_w, i32_w]
    rfl
   refine pure_ (i:=4) (N:=some 19) (v:=?_) (a':=?_) #[true, true, false, false, true, false, false, false, false, false] rfl rfl (any_of HT_.out (by kernel_rfl)) (fun _ _ _ h=>h) (Or.inl ⟨by rfl, ?_⟩) ?_ ?_
   rotate_left
   ·intro w'
    go_simp
    with_reducible rfl
   rotate_left
   ·simp only [Act.put, List.setIfInBounds_toArray, List.set_cons_zero, List.set_cons_succ, i64_w, i32_w]
    rfl
   refine take_ (i:=2) (N:=some 17) (v:=?_) (a':=?_) #[true, true, true, false, true, false, false, false, false, false] rfl rfl (take_ofW HT_.out HW_.out (by kernel_rfl)) (fun _ _ _ h=>h) (Or.inl ⟨by rfl, ?_⟩) hHeld ?_ ?_
   rotate_left
   ·rintro w' ⟨s0, s1, s2⟩
    go_simp
    with_reducible rfl
   rotate_left
   ·simp only [Act.put, List.setIfInBounds_toArray, List.set_cons_zero, List.set_cons_succ, i64_w, i32_w]
    rfl
   refine pure_ (i:=3) (N:=some 18) (v:=?_) (a':=?_) #[true, true, true, true, true, false, false, false, false, false] rfl rfl (any_of HT_.out (by kernel_rfl)) (fun _ _ _ h=>h) (Or.inl ⟨by rfl, ?_⟩) ?_ ?_
   rotate_left
   ·intro w'
    go_simp
    with_reducible rfl
   rotate_left
   ·simp only [Act.put, List.setIfInBounds_toArray, List.set_cons_zero, List.set_cons_succ, i64_w, i32_w]
    rfl
   refine take_ (i:=5) (N:=some 20) (v:=?_) (a':=?_) #[true, true, true, true, true, true, false, false, false, false] rfl rfl (take_ofW HT_.out HW_.out (by kernel_rfl)) (fun _ _ _ h=>h) (Or.inl ⟨by rfl, ?_⟩) hHeld ?_ ?_
   rotate_left
   ·rintro w' ⟨s0, s1, s2⟩
    go_simp
    with_reducible rfl
   rotate_left
   ·simp only [Act.put, List.setIfInBounds_toArray, List.set_cons_zero, List.set_cons_succ, i64_w, i32_w]
    rfl
   refine one_ (i:=6) (N:=some 21) #[true, true, true, true, true, true, true, false, false, false] rfl rfl (one_of HT_.out (by kernel_rfl)) (by decide) (fun K hK=>?_)
   refine goes_ Try.func72 (by kernel_rfl) rfl #[.agg #[.int .i64 a0_0, .int .i64 a0_1, .slice A0_2 l0_2.length c0_2]] (by rfl) rfl rfl (by (try simp only [List.map_toArray, List.map_cons, List.map_nil]);first|done|rfl|(simp only [List.length_drop, List.length_take];rfl)) ?_
   with_reducible refine (convexpl_high.calls k a0_0 a0_1 _ _ l0_2 t150 _ ?side1 ?side2 A7.out).mono ?_
   (case side1=>repeat (first|exact (Kd.C_below HR0_2.out HB.out)|(with_reducible refine Kd.C_alloc ?_ _)|(with_reducible refine Kd.C_drewN ?_ _)|(with_reducible refine Kd.C_drew ?_)))
   (case side2=>exact HC0_2.out)
   rintro e w27 ⟨rfl, hb⟩
   refine ⟨_, rfl, ?_⟩
   have n0_:=Aside0.mk (blk_below (g:=gb147) (o:=.cells #[.int .i64 a0_0, .int .i64 a0_1, .slice A0_2 l0_2.length c0_2] 82 (0, 0)) (by (with_reducible repeat (first|refine blk_drewN ?_ _|refine blk_drew ?_|refine blk_alloc ?_ _));exact BK147.out) hb)
   have n1_:=Aside0.mk (blk_below (g:=gb148) (o:=.cells #[.int .i64 0, .int .i64 0, .slice none 0 0] 82 (0, 0)) (by (with_reducible repeat (first|refine blk_drewN ?_ _|refine blk_drew ?_|refine blk_alloc ?_ _));exact BK148.out) hb)
   have n2_:=Aside0.mk (below_step (by repeat (first|(with_reducible first|exact HB.out|apply below_alloc|apply pw_below_drewN|apply below_drew1|refine below_set ?_ GE147.out|refine below_set ?_ GE148.out)|exact HB.out)) hb)
   clear BK147
   clear BK148
   clear HB
   have BK147:=n0_
   have BK148:=n1_
   have HB:=n2_
   clear n0_ n1_ n2_
   (try clear hb)
   (try clear hb2)
   (try clear hk)
   (try clear hi)
   refine hK.out _ _ ⟨(blk_cell BK147.out 0).trans rfl, (blk_cell BK147.out 1).trans rfl, (blk_cell BK147.out 2).trans rfl⟩ (fun hHeld=>?_)
   clear hK K
   refine norm_ (a':=?_) ?_ ?_
   rotate_left
   ·show Act.put _ (some 21) _ = _
    simp only [Act.put, List.setIfInBounds_toArray, List.set_cons_zero, List.set_cons_succ, i64_w, i32_w]
    rfl
   refine pure_ (i:=7) (N:=some 22) (v:=?_) (a':=?_) #[true, true, true, true, true, true, true, true, false, false] rfl rfl (any_of HT_.out (by kernel_rfl)) (fun _ _ _ h=>h) (Or.inl ⟨by rfl, ?_⟩) ?_ ?_
   rotate_left
   ·intro w'
    go_simp
    with_reducible rfl
   rotate_left
   ·simp only [Act.put, List.setIfInBounds_toArray, List.set_cons_zero, List.set_cons_succ, i64_w, i32_w]
    rfl
   refine pure_ (i:=8) (N:=some 1) (v:=?_) (a':=?_) #[true, true, true, true, true, true, true, true, true, false] rfl rfl (any_of HT_.out (by kernel_rfl)) (fun _ _ _ h=>h) (Or.inl ⟨by rfl, ?_⟩) ?_ ?_
   rotate_left
   ·intro w'
    go_simp
    with_reducible rfl
   rotate_left
   ·simp only [Act.put, List.setIfInBounds_toArray, List.set_cons_zero, List.set_cons_succ, i64_w, i32_w]
    rfl
   refine pure_ (i:=9) (N:=some 2) (v:=?_) (a':=?_) #[true, true, true, true, true, true, true, true, true, true] rfl rfl (any_of HT_.out (by kernel_rfl)) (fun _ _ _ h=>h) (Or.inl ⟨by rfl, ?_⟩) ?_ ?_
   rotate_left
   ·intro w'
    go_simp
    with_reducible rfl
   rotate_left
   ·simp only [Act.put, List.setIfInBounds_toArray, List.set_cons_zero, List.set_cons_succ, i64_w, i32_w]
    rfl
   refine done_ (done_of HT_.out (by kernel_rfl)) ?_
   try go_wp2
   have n0_:=Aside0.mk (blk_drew BK147.out)
   have n1_:=Aside0.mk (blk_drew BK148.out)
   have n2_:=Aside0.mk (below_drew1 HB.out)
   clear BK147
   clear BK148
   clear HB
   have BK147:=n0_
   have BK148:=n1_
   have HB:=n2_
   clear n0_ n1_ n2_
   refine start_ (n:=13) (S:=fun w'=>w'.cell? ⟨gb147, 0, none⟩ = some (.int .i64 a0_0)∧w'.cell? ⟨gb147, 1, none⟩ = some (.int .i64 a0_1)∧w'.cell? ⟨gb147, 2, none⟩ = some (.slice A0_2 l0_2.length c0_2)) (ds:=[]) #[false, false, false, false, false, false, false, false, false, false, false, false, false] (by kernel_rfl) rfl rfl ⟨(blk_cell BK147.out 0).trans rfl, (blk_cell BK147.out 1).trans rfl, (blk_cell BK147.out 2).trans rfl⟩ (fun hHeld=>?_);refine with_tabW convexpl_Restrict.tab7 convexpl_Restrict.bits7 (fun HT_ HW_=>?_)
   generalize w27.drew = w28 at BK147 BK148 HB hHeld ⊢
   refine pure_ (i:=0) (N:=some 27) (v:=?_) (a':=?_) #[true, false, false, false, false, false, false, false, false, false, false, false, false] rfl rfl (any_of HT_.out (by kernel_rfl)) (fun _ _ _ h=>h) (Or.inl ⟨by rfl, ?_⟩) ?_ ?_
   rotate_left
   ·intro w'
    go_simp
    with_reducible rfl
   rotate_left
   ·simp only [Act.put, List.setIfInBounds_toArray, List.set_cons_zero, List.set_cons_succ, i64_w, i32_w]
    rfl
   refine pure_ (i:=2) (N:=some 29) (v:=?_) (a':=?_) #[true, false, true, false, false, false, false, false, false, false, false, false, false] rfl rfl (any_of HT_.out (by kernel_rfl)) (fun _ _ _ h=>h) (Or.inl ⟨by rfl, ?_⟩) ?_ ?_
   rotate_left
   ·intro w'
    go_simp
    with_reducible rfl
   rotate_left
   ·simp only [Act.put, List.setIfInBounds_toArray, List.set_cons_zero, List.set_cons_succ, i64_w, i32_w]
    rfl
   refine pure_ (i:=5) (N:=some 32) (v:=?_) (a':=?_) #[true, false, true, false, false, true, false, false, false, false, false, false, false] rfl rfl (any_of HT_.out (by kernel_rfl)) (fun _ _ _ h=>h) (Or.inl ⟨by rfl, ?_⟩) ?_ ?_
   rotate_left
   ·intro w'
    go_simp
    with_reducible rfl
   rotate_left
   ·simp only [Act.put, List.setIfInBounds_toArray, List.set_cons_zero, List.set_cons_succ, i64_w, i32_w]
    rfl
   refine pure_ (i:=6) (N:=some 33) (v:=?_) (a':=?_) #[true, false, true, false, false, true, true, false, false, false, false, false, false] rfl rfl (any_of HT_.out (by kernel_rfl)) (fun _ _ _ h=>h) (Or.inl ⟨by rfl, ?_⟩) ?_ ?_
   rotate_left
   ·intro w'
    go_simp
    with_reducible rfl
   rotate_left
   ·simp only [Act.put, List.setIfInBounds_toArray, List.set_cons_zero, List.set_cons_succ, i64_w, i32_w]
    rfl
   refine take_ (i:=1) (N:=some 28) (v:=?_) (a':=?_) #[true, true, true, false, false, true, true, false, false, false, false, false, false] rfl rfl (take_ofW HT_.out HW_.out (by kernel_rfl)) (fun _ _ _ h=>h) (Or.inl ⟨by rfl, ?_⟩) hHeld ?_ ?_
   rotate_left
   ·rintro w' ⟨s0, s1, s2⟩
    go_simp
    with_reducible rfl
   rotate_left
   ·simp only [Act.put, List.setIfInBounds_toArray, List.set_cons_zero, List.set_cons_succ, i64_w, i32_w]
    rfl
   refine take_ (i:=4) (N:=some 31) (v:=?_) (a':=?_) #[true, true, true, false, true, true, true, false, false, false, false, false, false] rfl rfl (take_ofW HT_.out HW_.out (by kernel_rfl)) (fun _ _ _ h=>h) (Or.inl ⟨by rfl, ?_⟩) hHeld ?_ ?_
   rotate_left
   ·rintro w' ⟨s0, s1, s2⟩
    go_simp
    with_reducible rfl
   rotate_left
   ·simp only [Act.put, List.setIfInBounds_toArray, List.set_cons_zero, List.set_cons_succ, i64_w, i32_w]
    rfl
   refine one_ (i:=3) (N:=some 30) #[true, true, true, true, true, true, true, false, false, false, false, false, false] rfl rfl (one_of HT_.out (by kernel_rfl)) (by decide) (fun K hK=>?_)
   refine goes_ Try.func74 (by kernel_rfl) rfl #[.agg #[.int .i64 a0_0, .int .i64 a0_1, .slice A0_2 l0_2.length c0_2], .int .i64 ji6] (by rfl) rfl rfl (by (try simp only [List.map_toArray, List.map_cons, List.map_nil]);first|done|(simp only [hji6];rfl)|rfl|(simp only [List.length_drop, List.length_take];rfl)) ?_
   with_reducible refine (convexpl_value.calls k a0_0 a0_1 _ _ l0_2 ji6 t151 _ ?side1 ?side2 A18.out).mono ?_
   (case side1=>repeat (first|exact (Kd.C_below HR0_2.out HB.out)|(with_reducible refine Kd.C_alloc ?_ _)|(with_reducible refine Kd.C_drewN ?_ _)|(with_reducible refine Kd.C_drew ?_)))
   (case side2=>exact HC0_2.out)
   rintro e w29 ⟨rfl, hb⟩
   refine ⟨_, rfl, ?_⟩
   have n0_:=Aside0.mk (blk_below (g:=gb147) (o:=.cells #[.int .i64 a0_0, .int .i64 a0_1, .slice A0_2 l0_2.length c0_2] 82 (0, 0)) (by (with_reducible repeat (first|refine blk_drewN ?_ _|refine blk_drew ?_|refine blk_alloc ?_ _));exact BK147.out) hb)
   have n1_:=Aside0.mk (blk_below (g:=gb148) (o:=.cells #[.int .i64 0, .int .i64 0, .slice none 0 0] 82 (0, 0)) (by (with_reducible repeat (first|refine blk_drewN ?_ _|refine blk_drew ?_|refine blk_alloc ?_ _));exact BK148.out) hb)
   have n2_:=Aside0.mk (below_step (by repeat (first|(with_reducible first|exact HB.out|apply below_alloc|apply pw_below_drewN|apply below_drew1|refine below_set ?_ GE147.out|refine below_set ?_ GE148.out)|exact HB.out)) hb)
   clear BK147
   clear BK148
   clear HB
   have BK147:=n0_
   have BK148:=n1_
   have HB:=n2_
   clear n0_ n1_ n2_
   (try clear hb)
   (try clear hb2)
   (try clear hk)
   (try clear hi)
   refine hK.out _ _ ⟨(blk_cell BK147.out 0).trans rfl, (blk_cell BK147.out 1).trans rfl, (blk_cell BK147.out 2).trans rfl⟩ (fun hHeld=>?_)
   clear hK K
   refine norm_ (a':=?_) ?_ ?_
   rotate_left
   ·show Act.put _ (some 30) _ = _
    simp only [Act.put, List.setIfInBounds_toArray, List.set_cons_zero, List.set_cons_succ, i64_w, i32_w]
    rfl
   refine one_ (i:=7) (N:=some 34) #[true, true, true, true, true, true, true, true, false, false, false, false, false] rfl rfl (one_of HT_.out (by kernel_rfl)) (by decide) (fun K hK=>?_)
   refine goes_ Try.func75 (by kernel_rfl) rfl #[.agg #[.int .i64 a0_0, .int .i64 a0_1, .slice A0_2 l0_2.length c0_2], .int .i64 ji6, .int .i64 ji8] (by rfl) rfl rfl (by (try simp only [List.map_toArray, List.map_cons, List.map_nil]);first|done|(simp only [hji6, hji8];rfl)|rfl|(simp only [List.length_drop, List.length_take];rfl)) ?_
   with_reducible refine (convexpl_cut.calls k a0_0 a0_1 _ _ l0_2 ji6 ji8 t152 _ ?side1 ?side2 A19.out).mono ?_
   (case side1=>repeat (first|exact (Kd.C_below HR0_2.out HB.out)|(with_reducible refine Kd.C_alloc ?_ _)|(with_reducible refine Kd.C_drewN ?_ _)|(with_reducible refine Kd.C_drew ?_)))
   (case side2=>exact HC0_2.out)
   rintro e w30 ⟨v153, rfl, ho0, hb⟩
   refine ⟨_, rfl, ?_⟩
   have n0_:=Aside0.mk (Kd.R_lower ho0 (below_size (by repeat (first|(with_reducible first|exact HB.out|apply below_alloc|apply pw_below_drewN|apply below_drew1|refine below_set ?_ GE147.out|refine below_set ?_ GE148.out)|exact HB.out))))
   have n1_:=Aside0.mk (blk_below (g:=gb147) (o:=.cells #[.int .i64 a0_0, .int .i64 a0_1, .slice A0_2 l0_2.length c0_2] 82 (0, 0)) (by (with_reducible repeat (first|refine blk_drewN ?_ _|refine blk_drew ?_|refine blk_alloc ?_ _));exact BK147.out) hb)
   have n2_:=Aside0.mk (blk_below (g:=gb148) (o:=.cells #[.int .i64 0, .int .i64 0, .slice none 0 0] 82 (0, 0)) (by (with_reducible repeat (first|refine blk_drewN ?_ _|refine blk_drew ?_|refine blk_alloc ?_ _));exact BK148.out) hb)
   have n3_:=Aside0.mk (below_step (by repeat (first|(with_reducible first|exact HB.out|apply below_alloc|apply pw_below_drewN|apply below_drew1|refine below_set ?_ GE147.out|refine below_set ?_ GE148.out)|exact HB.out)) hb)
   clear BK147
   clear BK148
   clear HB
   have HO154:=n0_
   have BK147:=n1_
   have BK148:=n2_
   have HB:=n3_
   clear n0_ n1_ n2_ n3_
   (try clear hb)
   (try clear hb2)
   (try clear hk)
   (try clear hi)
   (try clear ho0)
   obtain ⟨Ao31, co31, eo31⟩:=Kd.R_slice HO154.out
   (first|subst eo31|(injection eo31 with f1_ f2_ f3_;have f4_:=f1_.symm;have f5_:=f3_.symm;clear f1_ f2_ f3_;subst f4_;subst f5_))
   refine hK.out _ _ ⟨(blk_cell BK147.out 0).trans rfl, (blk_cell BK147.out 1).trans rfl, (blk_cell BK147.out 2).trans rfl⟩ (fun hHeld=>?_)
   clear hK K
   refine norm_ (a':=?_) ?_ ?_
   rotate_left
   ·show Act.put _ (some 34) _ = _
    simp only [Act.put, List.setIfInBounds_toArray, List.set_cons_zero, List.set_cons_succ, i64_w, i32_w]
    rfl
   refine one_ (i:=8) (N:=some 35) #[true, true, true, true, true, true, true, true, true, false, false, false, false] rfl rfl (one_of HT_.out (by kernel_rfl)) (by decide) (fun K hK=>?_)
   refine goes_ Try.func73 (by kernel_rfl) rfl #[.int .i64 ji6, .int .i64 t151, .slice Ao31 t152.length co31] (by rfl) rfl rfl (by (try simp only [List.map_toArray, List.map_cons, List.map_nil]);first|done|(simp only [hji6];rfl)|rfl|(simp only [List.length_drop, List.length_take];rfl)) ?_
   with_reducible refine (convexpl_made.calls k ji6 t151 (fun k_=>some k_ = (.slice Ao31 t152.length co31 : Value).ownBlock) (.slice Ao31 t152.length co31) t152 t155 t156 t157 t160 t161 w _ ?side1 ?side2 A20.out).mono ?_
   (case side1=>repeat (first|(with_reducible first|exact HB.out|apply below_alloc|apply pw_below_drewN|apply below_drew1|refine below_set ?_ GE147.out|refine below_set ?_ GE148.out)|exact HB.out))
   (case side2=>exact Kd.R_tight rfl HO154.out)
   rintro e w32 ⟨v158, rfl, ho0, hy0, hb, hkp⟩
   refine ⟨_, rfl, ?_⟩
   have n0_:=Aside0.mk (blk_kept (by (with_reducible repeat (first|refine blk_drewN ?_ _|refine blk_drew ?_|refine blk_alloc ?_ _));exact BK147.out) hkp (fun hs_=>(fun e_=>(Kd.R_ne HO154.out BK147.out (by decide)) e_) hs_))
   have n1_:=Aside0.mk (blk_kept (by (with_reducible repeat (first|refine blk_drewN ?_ _|refine blk_drew ?_|refine blk_alloc ?_ _));exact BK148.out) hkp (fun hs_=>(fun e_=>(Kd.R_ne HO154.out BK148.out (by decide)) e_) hs_))
   have n2_:=Aside0.mk (Kd.R_reok rfl hy0 (fun k_ e_=>HO154.out.1 k_ e_))
   have n3_:=Aside0.mk (Kd.R_mono (ok':=fun k_=>some k_ ≠ (.slice Ao31 t152.length co31 : Value).ownBlock) ho0 (fun k_ hk_=>hk_.2))
   have n4_:=Aside0.mk (hb)
   clear BK147
   clear BK148
   clear HO154
   clear HB
   have BK147:=n0_
   have BK148:=n1_
   have HO154:=n2_
   have HO159:=n3_
   have HB:=n4_
   clear n0_ n1_ n2_ n3_ n4_
   (try clear hb)
   (try clear hkp)
   (try clear ho0)
   (try clear hy0)
   obtain ⟨Ao35, co35, eo35⟩:=Kd.R_slice HO159.out
   (first|subst eo35|(injection eo35 with f1_ f2_ f3_;have f4_:=f1_.symm;have f5_:=f3_.symm;clear f1_ f2_ f3_;subst f4_;subst f5_))
   refine hK.out _ _ ⟨(blk_cell BK147.out 0).trans rfl, (blk_cell BK147.out 1).trans rfl, (blk_cell BK147.out 2).trans rfl⟩ (fun hHeld=>?_)
   clear hK K
   refine norm_ (a':=?_) ?_ ?_
   rotate_left
   ·show Act.put _ (some 35) _ = _
    simp only [Act.put, List.setIfInBounds_toArray, List.set_cons_zero, List.set_cons_succ, i64_w, i32_w]
    rfl
   refine pure_ (i:=9) (N:=some 36) (v:=?_) (a':=?_) #[true, true, true, true, true, true, true, true, true, true, false, false, false] rfl rfl (any_of HT_.out (by kernel_rfl)) (fun _ _ _ h=>h) (Or.inl ⟨by rfl, ?_⟩) ?_ ?_
   rotate_left
   ·intro w'
    go_simp
    with_reducible rfl
   rotate_left
   ·simp only [Act.put, List.setIfInBounds_toArray, List.set_cons_zero, List.set_cons_succ, i64_w, i32_w]
    rfl
   refine pure_ (i:=10) (N:=some 37) (v:=?_) (a':=?_) #[true, true, true, true, true, true, true, true, true, true, true, false, false] rfl rfl (any_of HT_.out (by kernel_rfl)) (fun _ _ _ h=>h) (Or.inl ⟨by rfl, ?_⟩) ?_ ?_
   rotate_left
   ·intro w'
    go_simp
    with_reducible rfl
   rotate_left
   ·simp only [Act.put, List.setIfInBounds_toArray, List.set_cons_zero, List.set_cons_succ, i64_w, i32_w]
    rfl
   refine one_ (i:=11) (N:=none) #[true, true, true, true, true, true, true, true, true, true, true, true, false] rfl rfl (one_of HT_.out (by kernel_rfl)) (by decide) (fun K hK=>?_)
   have hs33 : w32.cell? ⟨gb148, 0, none⟩ = some (.int .i64 0):=(blk_cell BK148.out 0).trans rfl
   have hfs33:=blk_frozen BK148.out 0
   have hns33_0:=NB147_148.out
   have hms33_0:=NB148_147.out
   have hs34 : w32.cell? ⟨gb148, 1, none⟩ = some (.int .i64 0):=(blk_cell BK148.out 1).trans rfl
   have hfs34:=blk_frozen BK148.out 1
   have hns34_0:=NB147_148.out
   have hms34_0:=NB148_147.out
   have hs36 : w32.cell? ⟨gb148, 2, none⟩ = some (.slice none 0 0):=(blk_cell BK148.out 2).trans rfl
   have hfs36:=blk_frozen BK148.out 2
   have hns36_0:=NB147_148.out
   have hms36_0:=NB148_147.out
   refine skip_ (w1:=?_) (by rfl) rfl ?_ ?_
   rotate_left
   ·go_simp
    rfl
   refine hK.out _ _ ⟨((cell_far (p:=⟨gb148, _, none⟩) NB147_148.out _).trans (((cell_far (p:=⟨gb148, _, none⟩) NB147_148.out _).trans (((cell_far (p:=⟨gb148, _, none⟩) NB147_148.out _).trans (hHeld.1)))))),((cell_far (p:=⟨gb148, _, none⟩) NB147_148.out _).trans (((cell_far (p:=⟨gb148, _, none⟩) NB147_148.out _).trans (((cell_far (p:=⟨gb148, _, none⟩) NB147_148.out _).trans (hHeld.2.1)))))),((cell_far (p:=⟨gb148, _, none⟩) NB147_148.out _).trans (((cell_far (p:=⟨gb148, _, none⟩) NB147_148.out _).trans (((cell_far (p:=⟨gb148, _, none⟩) NB147_148.out _).trans (hHeld.2.2))))))⟩ (fun hHeld=>?_)
   clear hK K
   refine pure_ (i:=12) (N:=some 7) (v:=?_) (a':=?_) #[true, true, true, true, true, true, true, true, true, true, true, true, true] rfl rfl (any_of HT_.out (by kernel_rfl)) (fun _ _ _ h=>h) (Or.inl ⟨by rfl, ?_⟩) ?_ ?_
   rotate_left
   ·intro w'
    go_simp
    with_reducible rfl
   rotate_left
   ·simp only [Act.put, List.setIfInBounds_toArray, List.set_cons_zero, List.set_cons_succ, i64_w, i32_w]
    rfl
   refine done_ (done_of HT_.out (by kernel_rfl)) ?_
   try go_wp2
   refine bodyPost_ret (results_ct rfl _ _ gb148 82 #[.int .i64 t155, .int .i64 t156, .slice Ao35 t157.length co35] (0, 0) _ rfl (by (with_reducible repeat (first|refine blk_drewN ?_ _|refine blk_drew ?_|refine blk_alloc ?_ _));refine blk_put (cs:=#[.int .i64 t155, .int .i64 t156, .slice none 0 0]) ?_ 2 _ rfl;(with_reducible repeat (first|refine blk_drewN ?_ _|refine blk_drew ?_|refine blk_alloc ?_ _));refine blk_put (cs:=#[.int .i64 t155, .int .i64 0, .slice none 0 0]) ?_ 1 _ rfl;(with_reducible repeat (first|refine blk_drewN ?_ _|refine blk_drew ?_|refine blk_alloc ?_ _));refine blk_put (cs:=#[.int .i64 0, .int .i64 0, .slice none 0 0]) ?_ 0 _ rfl;(with_reducible repeat (first|refine blk_drewN ?_ _|refine blk_drew ?_|refine blk_alloc ?_ _));exact BK148.out) Try.underlying82 rfl (by kernel_rfl)) rfl ?_
   exact ⟨_, by first|rfl|(simp [errW_none, errW_some] <;> rfl)|(simp only [← hji6, ← hji8];first|rfl|(simp [errW_none, errW_some] <;> rfl))|(simp [*, errW_none, errW_some] <;> rfl), by (with_reducible repeat (first|apply Kd.R_alloc|apply Kd.R_drewN|apply Kd.R_drew));exact Kd.R_mono (Kd.R_far (p:=⟨gb148, 2, none⟩) (Kd.R_far (p:=⟨gb148, 1, none⟩) (Kd.R_far (p:=⟨gb148, 0, none⟩) (Kd.R_types HO159.out BK148.out (by decide)) (fun _ hk=>hk.2) (.int .i64 t155)) (fun _ hk=>hk.2) (.int .i64 t156)) (fun _ hk=>hk.2) (.slice Ao35 t157.length co35)) (fun _ hk=>trivial), by repeat (first|(with_reducible first|exact HB.out|apply below_alloc|apply pw_below_drewN|apply below_drew1|refine below_set ?_ GE147.out|refine below_set ?_ GE148.out)|exact HB.out)⟩
 ·rw [if_neg c5] at H
  have c5b0 : (t149 == 0) = false:=beq_eq_false_iff_ne.mpr c5
  have c5b1 : (t149 != 0) = true:=bne_iff_ne.mpr c5
  simp only [Option.some.injEq, Prod.mk.injEq] at H
  obtain ⟨rfl, rfl, rfl, rfl⟩:=H
  go_enter Try.func32, Try.ntmps32
  go_wp2_with (first|((with_reducible refine gate_dst (N:=3) rfl ?_);refine box_event ?hg (N:=3) ?hd (cs:=#[.int .i64 a0_0, .int .i64 a0_1, .slice A0_2 l0_2.length c0_2]) (t:=82) ?hr ?_;(case hd=>rfl);(case hg=>rfl);(case hr=>first|(go_simp;done)|(go_simp;rfl));intro gb147 hg w37 hbox hb;have n0_:=Aside0.mk (below_step (by repeat (first|(with_reducible first|exact HB.out|apply below_alloc|apply pw_below_drewN|apply below_drew1)|exact HB.out)) hb);have n1_:=Aside0.mk (hbox);have n2_:=Aside0.mk ((by rw [hg];exact (below_size (by repeat (first|(with_reducible first|exact HB.out|apply below_alloc|apply pw_below_drewN|apply below_drew1)|exact HB.out))) : w.heap.size ≤ gb147));have n3_:=Aside0.mk ((by rw [hg];exact (below_size (by repeat (first|(with_reducible first|exact HB.out|apply below_alloc|apply pw_below_drewN|apply below_drew1)|exact HB.out))) : w.heap.size ≤ gb147));clear HB;have HB:=n0_;have BK147:=n1_;have GW147:=n2_;have GE147:=n3_;clear n0_ n1_ n2_ n3_;clear hb hbox hg)|((with_reducible refine gate_dst (N:=6) rfl ?_);refine box_event ?hg (N:=6) ?hd (cs:=#[.int .i64 0, .int .i64 0, .slice none 0 0]) (t:=82) ?hr ?_;(case hd=>rfl);(case hg=>rfl);(case hr=>first|(go_simp;done)|(go_simp;rfl));intro gb148 hg w38 hbox hb;have n0_:=Aside0.mk (blk_below (g:=gb147) (o:=.cells #[.int .i64 a0_0, .int .i64 a0_1, .slice A0_2 l0_2.length c0_2] 82 (0, 0)) (by (with_reducible repeat (first|refine blk_drewN ?_ _|refine blk_drew ?_|refine blk_alloc ?_ _));exact BK147.out) hb);have n1_:=Aside0.mk (below_step (by repeat (first|(with_reducible first|exact HB.out|apply below_alloc|apply pw_below_drewN|apply below_drew1|refine below_set ?_ GE147.out)|exact HB.out)) hb);have n2_:=Aside0.mk (hbox);have n3_:=Aside0.mk ((by rw [hg];exact (below_size (by repeat (first|(with_reducible first|exact HB.out|apply below_alloc|apply pw_below_drewN|apply below_drew1|refine below_set ?_ GE147.out)|exact HB.out))) : w.heap.size ≤ gb148));have n4_:=Aside0.mk ((by rw [hg];exact (below_size (by repeat (first|(with_reducible first|exact HB.out|apply below_alloc|apply pw_below_drewN|apply below_drew1|refine below_set ?_ GE147.out)|exact HB.out))) : w.heap.size ≤ gb148));have n5_:=Aside0.mk ((by rw [hg];exact Nat.ne_of_lt (blk_lt (g:=gb147) (o:=.cells #[.int .i64 a0_0, .int .i64 a0_1, .slice A0_2 l0_2.length c0_2] 82 (0, 0)) (by (with_reducible repeat (first|refine blk_drewN ?_ _|refine blk_drew ?_|refine blk_alloc ?_ _));exact BK147.out)) : gb147 ≠ gb148));have n6_:=Aside0.mk ((by rw [hg];exact Nat.ne_of_gt (blk_lt (g:=gb147) (o:=.cells #[.int .i64 a0_0, .int .i64 a0_1, .slice A0_2 l0_2.length c0_2] 82 (0, 0)) (by (with_reducible repeat (first|refine blk_drewN ?_ _|refine blk_drew ?_|refine blk_alloc ?_ _));exact BK147.out)) : gb148 ≠ gb147));clear BK147;clear HB;have BK147:=n0_;have HB:=n1_;have BK148:=n2_;have GW148:=n3_;have GE148:=n4_;have NB147_148:=n5_;have NB148_147:=n6_;clear n0_ n1_ n2_ n3_ n4_ n5_ n6_;clear hb hbox hg;have hnb39:=NB147_148.out;have hnc39:=NB148_147.out;have hcz40_0 : w38.cell? ⟨gb147, 0, none⟩ = some (.int .i64 a0_0):=(blk_cell BK147.out 0).trans rfl;have hcz40_1 : w38.cell? ⟨gb147, 1, none⟩ = some (.int .i64 a0_1):=(blk_cell BK147.out 1).trans rfl;have hcz40_2 : w38.cell? ⟨gb147, 2, none⟩ = some (.slice A0_2 l0_2.length c0_2):=(blk_cell BK147.out 2).trans rfl;have hfz40_0:=blk_frozen BK147.out 0;have hfz40_1:=blk_frozen BK147.out 1;have hfz40_2:=blk_frozen BK147.out 2)|((with_reducible refine gate_callee (f:=71) rfl ?_);refine goesL_ (some 10) rfl rfl Try.func71 (by kernel_rfl) rfl #[.agg #[.int .i64 a0_0, .int .i64 a0_1, .slice A0_2 l0_2.length c0_2]] rfl (by (try simp only [List.map_toArray, List.map_cons, List.map_nil]);first|done|rfl|(simp only [List.length_drop, List.length_take];rfl)) ?_;(with_reducible refine (convexpl_Check.calls k a0_0 a0_1 _ _ l0_2 t149 _ ?side1 ?side2 A4.out).mono ?_);(case side1=>repeat (first|exact (Kd.C_below HR0_2.out HB.out)|(with_reducible refine Kd.C_alloc ?_ _)|(with_reducible refine Kd.C_drewN ?_ _)|(with_reducible refine Kd.C_drew ?_)));(case side2=>exact HC0_2.out);rintro e w41 ⟨rfl, hb⟩;refine ⟨_, rfl, ?_⟩;have n0_:=Aside0.mk (blk_below (g:=gb147) (o:=.cells #[.int .i64 a0_0, .int .i64 a0_1, .slice A0_2 l0_2.length c0_2] 82 (0, 0)) (by (with_reducible repeat (first|refine blk_drewN ?_ _|refine blk_drew ?_|refine blk_alloc ?_ _));exact BK147.out) hb);have n1_:=Aside0.mk (blk_below (g:=gb148) (o:=.cells #[.int .i64 0, .int .i64 0, .slice none 0 0] 82 (0, 0)) (by (with_reducible repeat (first|refine blk_drewN ?_ _|refine blk_drew ?_|refine blk_alloc ?_ _));exact BK148.out) hb);have n2_:=Aside0.mk (below_step (by repeat (first|(with_reducible first|exact HB.out|apply below_alloc|apply pw_below_drewN|apply below_drew1|refine below_set ?_ GE147.out|refine below_set ?_ GE148.out)|exact HB.out)) hb);clear BK147;clear BK148;clear HB;have BK147:=n0_;have BK148:=n1_;have HB:=n2_;clear n0_ n1_ n2_;(try clear hb);(try clear hb2);(try clear hk);(try clear hi);have hcz42_0 : w41.cell? ⟨gb148, 0, none⟩ = some (.int .i64 0):=(blk_cell BK148.out 0).trans rfl;have hcz42_1 : w41.cell? ⟨gb148, 1, none⟩ = some (.int .i64 0):=(blk_cell BK148.out 1).trans rfl;have hcz42_2 : w41.cell? ⟨gb148, 2, none⟩ = some (.slice none 0 0):=(blk_cell BK148.out 2).trans rfl;have hfz42_0:=blk_frozen BK148.out 0;have hfz42_1:=blk_frozen BK148.out 1;have hfz42_2:=blk_frozen BK148.out 2))
  refine bodyPost_ret (results_ct rfl _ _ gb148 82 #[.int .i64 0, .int .i64 0, .slice none 0 0] (0, 0) _ rfl (by (with_reducible repeat (first|refine blk_drewN ?_ _|refine blk_drew ?_|refine blk_alloc ?_ _));refine blk_put (cs:=#[.int .i64 0, .int .i64 0, .slice none 0 0]) ?_ 2 _ rfl;(with_reducible repeat (first|refine blk_drewN ?_ _|refine blk_drew ?_|refine blk_alloc ?_ _));refine blk_put (cs:=#[.int .i64 0, .int .i64 0, .slice none 0 0]) ?_ 1 _ rfl;(with_reducible repeat (first|refine blk_drewN ?_ _|refine blk_drew ?_|refine blk_alloc ?_ _));refine blk_put (cs:=#[.int .i64 0, .int .i64 0, .slice none 0 0]) ?_ 0 _ rfl;(with_reducible repeat (first|refine blk_drewN ?_ _|refine blk_drew ?_|refine blk_alloc ?_ _));exact BK148.out) Try.underlying82 rfl (by kernel_rfl)) rfl ?_
  exact ⟨_, by first|rfl|(simp [errW_none, errW_some] <;> rfl)|(simp [*, errW_none, errW_some] <;> rfl), by first|exact Kd.R_nil _ _ _ _ _|exact Kd.N_nil _ _ _ _ _|exact Kd.V_nil _ _ _ _ _|exact Kd.Q_nil _ _ _ _ _|exact Kd.S_nil _ _ _ _ _, by repeat (first|(with_reducible first|exact HB.out|apply below_alloc|apply pw_below_drewN|apply below_drew1|refine below_set ?_ GE147.out|refine below_set ?_ GE148.out)|exact HB.out)⟩
theorem api_ConvexPiece_76.none_nil {w : World} {l0 : List (S88)} (h : Kd.C k88 w none l0.length l0) : l0 = [] := by
 have h2:=(show ReadsRow _ _ _ _ _ _ from h).2.2
 refine List.eq_nil_of_length_eq_zero (Decidable.byContradiction fun hh=>?_)
 obtain ⟨ad, e, _⟩:=h2 (by omega)
 cases e
def api_ConvexPiece_76.f (l0 : List (S88)) : Option ((List (S88))) := (some (([] : List (S88)) : List (S88))).bind fun y162 => (if y162.length + l0.length < 8796093022208 then (some (y162 ++ l0)) else (none))
set_option maxHeartbeats 8000000 in
set_option maxRecDepth 100000 in
theorem api_ConvexPiece_76.calls (A0 : Option Addr) (c0 : Nat) (l0 : List (S88)) (r : List (S88)) (w : World) (hr0 : Kd.C k88 w A0 l0.length l0) (hc0 : l0.length ≤ c0) (h : api_ConvexPiece_76.f l0 = some r) :
  Calls Try.prog 76 #[.slice A0 l0.length c0] w fun e w' => ∃ v0_ : Value, e = .returned (v0_) ∧ Kd.R k88 88 w' w.heap.size (fun _ => True) v0_ r ∧ Below w.heap.size w w' := by
 have HR0:=Aside0.mk hr0
 have HC0:=Aside0.mk hc0
 clear hr0 hc0
 have HB:=Aside0.mk (Below.refl w.heap.size w)
 have H : ((some (([] : List (S88)) : List (S88))).bind fun y162=>(if y162.length + l0.length < 8796093022208 then (some (y162 ++ l0)) else (none))) = some r:=h
 clear h
 obtain ⟨y162, hy162⟩ : ∃ y_ : List (S88), y_ = (([] : List (S88))):=⟨_, rfl⟩
 replace H : (if y162.length + l0.length < 8796093022208 then (some (y162 ++ l0)) else (none)) = some r:=by first|(rw [hy162];with_reducible exact H)|(have H2_:=(Option.bind_some _ _).symm.trans H;rw [hy162];with_reducible exact H2_)|(have H2_:=(Option.bind_some _ _).symm.trans H;with_reducible exact H2_)|with_reducible exact H|(rw [hy162];exact H)|exact H
 have Ny162:=Aside0.mk hy162
 clear hy162
 by_cases c2 : y162.length + l0.length < 8796093022208
 ·rw [if_pos c2] at H
  have LMc2:=Aside0.mk c2
  clear c2
  obtain ⟨y165, hy165⟩ : ∃ y_ : List (S88), y_ = (y162 ++ l0):=⟨_, rfl⟩
  replace H : (some y165) = some r:=by first|(rw [hy165];with_reducible exact H)|(have H2_:=(Option.bind_some _ _).symm.trans H;rw [hy165];with_reducible exact H2_)|(have H2_:=(Option.bind_some _ _).symm.trans H;with_reducible exact H2_)|with_reducible exact H|(rw [hy165];exact H)|exact H
  have Ny165:=Aside0.mk hy165
  clear hy165
  obtain rfl:=Option.some.inj H
  cases A0 with
 |none =>
   have hl : l0 = []:=api_ConvexPiece_76.none_nil HR0.out
   subst hl
   go_enter Try.func76, Try.ntmps76
   have q_:=fun (w : World) (a : Option Addr) (n c n' c' : Nat)=>Lib.run_eql_slice_nil (P:=Try.prog) w 80 88 a n c n' c' Try.underlying80
   go_wp2
   go_ret
   exact ⟨_, rfl, by rw [Ny165.out, Ny162.out];exact Kd.R_nil _ _ _ _ _, HB.out⟩
 |some ad0 =>
   go_enter Try.func76, Try.ntmps76
   have q_:=fun (w : World) (a : Option Addr) (n c n' c' : Nat)=>Lib.run_eql_slice_nil (P:=Try.prog) w 80 88 a n c n' c' Try.underlying80
   go_wp2_with (first|((with_reducible refine gate_dst (N:=5) rfl ?_);refine Kd.R_lit k88 _ 88 ?hg (N:=5) ?hd (xs:=([] : List (S88))) (inner:=[]) (ok:=fun _=>True) (okp:=fun _=>True) ?hr ?hp (fun _ hk=>hk) trivial (Below.refl _ _) (Nat.le_refl _) (by simp) ?_;(case hd=>rfl);(case hg=>rfl);(case hr=>first|(go_simp;done)|(go_simp;rfl));(case hp=>exact (Reps.none _ _));intro v163 w3 ho4 hb hg_ hnew_;clear hg_ hnew_;(first|rw [← Ny162.out] at ho4|(simp only [Int.reduceToNat] at ho4;rw [← Ny162.out] at ho4));have n0_:=Aside0.mk (Kd.R_lower ho4 (below_size (by repeat (first|(with_reducible first|exact HB.out|apply below_alloc|apply pw_below_drewN|apply below_drew1)|exact HB.out))));have n1_:=Aside0.mk (below_step (by repeat (first|(with_reducible first|exact HB.out|apply below_alloc|apply pw_below_drewN|apply below_drew1)|exact HB.out)) hb);clear HB;have HO164:=n0_;have HB:=n1_;clear n0_ n1_;clear hb ho4)|((with_reducible refine gate_builtin (b:=.append) (xs:=#[.tmp 5, .tmp 6]) rfl ?_);at_builtin;refine Kd.R_append_rows k88 (w0:=w) w.heap.size rfl (.tmp 5) (.tmp 6) 80 88 (.agg #[(.int .i64 0),(.int .i64 0)]) 16 rfl Try.underlying80 info88 rfl (by decide) (by omega) v163 y162 l0 _ _ _ (fun _=>True) (fun _=>False) rfl rfl ?aO ?aR (fun _ _ h=>h) (fun _ h=>h.elim) ?aF ?aB ?aS ?aL ?_;(case aR=>repeat (first|exact (Kd.C_below HR0.out HB.out)|(with_reducible refine Kd.C_alloc ?_ _)|(with_reducible refine Kd.C_drewN ?_ _)|(with_reducible refine Kd.C_drew ?_)));(case aB=>exact (by repeat (first|(with_reducible first|exact HB.out|apply below_alloc|apply pw_below_drewN|apply below_drew1)|exact HB.out)));(case aF=>exact (fun _ _=>trivial));(case aO=>exact (by (with_reducible repeat (first|apply Kd.R_alloc|apply Kd.R_drewN|apply Kd.R_drew));exact HO164.out));(case aS=>exact (below_size (by repeat (first|(with_reducible first|exact HB.out|apply below_alloc|apply pw_below_drewN|apply below_drew1)|exact HB.out))));(case aL=>have:=LMc2.out;omega);intro v166 w5 ho hb hg hat;rw [← Ny165.out] at ho;have n0_:=Aside0.mk (hb);have n1_:=Aside0.mk (ho);clear HB;clear HO164;have HB:=n0_;have HO167:=n1_;clear n0_ n1_;clear ho hb hg hat))
   go_ret
   exact ⟨_, by first|rfl|(simp [errW_none, errW_some] <;> rfl)|(simp [*, errW_none, errW_some] <;> rfl), by (with_reducible repeat (first|apply Kd.R_alloc|apply Kd.R_drewN|apply Kd.R_drew));exact HO167.out, by repeat (first|(with_reducible first|exact HB.out|apply below_alloc|apply pw_below_drewN|apply below_drew1)|exact HB.out)⟩
 ·rw [if_neg c2] at H
  exact absurd H (by simp)
end Go.Proofs.Ytdgjelbkogfedaa.PConvexMoves
