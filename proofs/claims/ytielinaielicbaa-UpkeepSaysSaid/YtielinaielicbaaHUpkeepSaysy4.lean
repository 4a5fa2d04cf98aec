/- Contracts of functions that UpkeepSays reaches, a text of this session's own. -/
import Derived.Test.YtielinaielicbaaHUpkeepSaysy0
import Derived.Test.YtielinaielicbaaHUpkeepSaysy2
import Derived.Test.YtielinaielicbaaHUpkeepSaysy3
namespace Go.Proofs.Ytielinaielicbaa.PUpkeepSays
open Go.RowKit Go.Proofs.YtielinaielicbaaW.PrintWords Go.Proofs.YtielinaielicbaaW.PrintLast Go.Proofs.YtielinaielicbaaW.PrintMore
attribute [local go_sem] max2_int min2_int max_two min_two max_three min_three max_four min_four   -- for this text's walks alone
set_option linter.unusedVariables false
set_option linter.unusedSimpArgs false

/-! ### upkeep_Verify: function 9 -/
mutual
def upkeep_Verify.l0 : Nat → List Int → List Int → Int → Int → List (S28) → List (S29) → Int → Option (Int × Int)
 | 0, _, _, _, _, _, _, _ => none
 | k + 1, x1, x22, x23, x24, x140000, x140001, x140002 => if x24 < x23 then (if 0 ≤ x24 then (if x24 < (x22.length : Int) then (if x24 < (x140000.length : Int) then (if (rd x22 x24) < ((rd_T28 x140000 x24).f2) then (some (0, 12)) else (if (rd x22 x24) > ((rd_T28 x140000 x24).f3) then (some (0, 12)) else (upkeep_Verify.l0 k x1 x22 x23 (wrap64 (x24 + 1)) x140000 x140001 x140002))) else (none)) else (none)) else (none)) else (upkeep_Verify.l1 k x1 (x1.length : Int) 0 x140000 x140001 x140002)
def upkeep_Verify.l1 : Nat → List Int → Int → Int → List (S28) → List (S29) → Int → Option (Int × Int)
 | 0, _, _, _, _, _, _ => none
 | k + 1, x1, x49, x50, x140000, x140001, x140002 => if x50 < x49 then (if 0 ≤ (wrap64 (x50 + 1)) then (if (wrap64 (x50 + 1)) ≤ (x1.length : Int) then ((upkeep_allowed.f k x140000 x140001 x140002 (x1.take ((wrap64 (x50 + 1)) : Int).toNat)).bind fun t145 => (if t145 = 0 then (upkeep_Verify.l1 k x1 x49 (wrap64 (x50 + 1)) x140000 x140001 x140002) else (some (0, t145)))) else (none)) else (none)) else ((upkeep_cost.f k x140000 x140001 x140002 x1).bind fun t146 => (some (t146, 0)))
end
def upkeep_Verify.f (k : Nat) (l0_0 : List (S28)) (l0_1 : List (S29)) (a0_2 : Int) (l1 : List Int) : Option (Int × Int) := (upkeep_Check.f k l0_0 l0_1 a0_2).bind fun t140 => (if t140 = 0 then (if (l1.length : Int) = (l0_0.length : Int) then (upkeep_Verify.l0 k l1 l1 (l1.length : Int) 0 l0_0 l0_1 a0_2) else (some (0, 3))) else (some (0, t140)))
theorem upkeep_Verify.mono_l : ∀ k, (∀ y0 y1 y2 y3 y4 y5 y6, LeO (upkeep_Verify.l0 k y0 y1 y2 y3 y4 y5 y6) (upkeep_Verify.l0 (k + 1) y0 y1 y2 y3 y4 y5 y6)) ∧ (∀ y0 y1 y2 y3 y4 y5, LeO (upkeep_Verify.l1 k y0 y1 y2 y3 y4 y5) (upkeep_Verify.l1 (k + 1) y0 y1 y2 y3 y4 y5))
 | 0 => ⟨fun _ _ _ _ _ _ _ r h => by simp [upkeep_Verify.l0] at h, fun _ _ _ _ _ _ r h => by simp [upkeep_Verify.l1] at h⟩
 | k + 1 => by
  obtain ⟨ih0, ih1⟩:=upkeep_Verify.mono_l k
  refine ⟨?_, ?_⟩
  ·intro y0 y1 y2 y3 y4 y5 y6
   unfold upkeep_Verify.l0
   repeat' first
   | (with_reducible exact ih0 _ _ _ _ _ _ _)
   | (with_reducible exact ih1 _ _ _ _ _ _)
   | (with_reducible exact upkeep_Check.mono _ _ _ _)
   | (with_reducible exact upkeep_allowed.mono _ _ _ _ _)
   | (with_reducible exact upkeep_cost.mono _ _ _ _ _)
   | (with_reducible exact LeO.refl _)
   | (with_reducible exact LeO.none _)
   | (with_reducible refine LeO.ite ?_ ?_)
   | (with_reducible refine LeO.bind ?_ (fun _ => ?_))
   | exact ih0 _ _ _ _ _ _ _
   | exact ih1 _ _ _ _ _ _
   | exact upkeep_Check.mono _ _ _ _
   | exact upkeep_allowed.mono _ _ _ _ _
   | exact upkeep_cost.mono _ _ _ _ _
   | exact LeO.none _
   | refine LeO.ite ?_ ?_
   | refine LeO.bind ?_ (fun _ => ?_)
  ·intro y0 y1 y2 y3 y4 y5
   unfold upkeep_Verify.l1
   repeat' first
   | (with_reducible exact ih0 _ _ _ _ _ _ _)
   | (with_reducible exact ih1 _ _ _ _ _ _)
   | (with_reducible exact upkeep_Check.mono _ _ _ _)
   | (with_reducible exact upkeep_allowed.mono _ _ _ _ _)
   | (with_reducible exact upkeep_cost.mono _ _ _ _ _)
   | (with_reducible exact LeO.refl _)
   | (with_reducible exact LeO.none _)
   | (with_reducible refine LeO.ite ?_ ?_)
   | (with_reducible refine LeO.bind ?_ (fun _ => ?_))
   | exact ih0 _ _ _ _ _ _ _
   | exact ih1 _ _ _ _ _ _
   | exact upkeep_Check.mono _ _ _ _
   | exact upkeep_allowed.mono _ _ _ _ _
   | exact upkeep_cost.mono _ _ _ _ _
   | exact LeO.none _
   | refine LeO.ite ?_ ?_
   | refine LeO.bind ?_ (fun _ => ?_)
theorem upkeep_Verify.mono : ∀ a0 a1 a2 a3 k, LeO (upkeep_Verify.f k a0 a1 a2 a3) (upkeep_Verify.f (k + 1) a0 a1 a2 a3) := by
 intro a0 a1 a2 a3 k
 obtain ⟨ih0, ih1⟩:=upkeep_Verify.mono_l k
 unfold upkeep_Verify.f
 repeat' first
   | (with_reducible exact ih0 _ _ _ _ _ _ _)
   | (with_reducible exact ih1 _ _ _ _ _ _)
   | (with_reducible exact upkeep_Check.mono _ _ _ _)
   | (with_reducible exact upkeep_allowed.mono _ _ _ _ _)
   | (with_reducible exact upkeep_cost.mono _ _ _ _ _)
   | (with_reducible exact LeO.refl _)
   | (with_reducible exact LeO.none _)
   | (with_reducible refine LeO.ite ?_ ?_)
   | (with_reducible refine LeO.bind ?_ (fun _ => ?_))
   | exact ih0 _ _ _ _ _ _ _
   | exact ih1 _ _ _ _ _ _
   | exact upkeep_Check.mono _ _ _ _
   | exact upkeep_allowed.mono _ _ _ _ _
   | exact upkeep_cost.mono _ _ _ _ _
   | exact LeO.none _
   | refine LeO.ite ?_ ?_
   | refine LeO.bind ?_ (fun _ => ?_)
set_option maxHeartbeats 8000000 in
set_option maxRecDepth 100000 in
theorem upkeep_Verify.calls (k : Nat) (A0_0 : Option Addr) (c0_0 : Nat) (l0_0 : List (S28)) (A0_1 : Option Addr) (c0_1 : Nat) (l0_1 : List (S29)) (a0_2 : Int) (A1 : Option Addr) (c1 : Nat) (l1 : List Int) (r1 : Int) (r2 : Int) (w : World) (hr0_0 : Kd.C k28 w A0_0 l0_0.length l0_0) (hc0_0 : l0_0.length ≤ c0_0) (hr0_1 : Kd.C k29 w A0_1 l0_1.length l0_1) (hc0_1 : l0_1.length ≤ c0_1) (hr1 : Kd.C (Kd.int .i64) w A1 l1.length l1) (hc1 : l1.length ≤ c1) (h : upkeep_Verify.f k l0_0 l0_1 a0_2 l1 = some (r1, r2)) :
  Calls Try.prog 9 #[.agg #[.slice A0_0 l0_0.length c0_0, .slice A0_1 l0_1.length c0_1, .int .i64 a0_2], .slice A1 l1.length c1] w fun e w' => e = .returned (.tuple #[.int .i64 r1, .int .i64 r2]) ∧ Below w.heap.size w w' := by
 have hu25:=Try.underlying25;have HR0_0:=k0_ hr0_0;have HC0_0:=k0_ hc0_0;clear hr0_0 hc0_0;have HR0_1:=k0_ hr0_1;have HC0_1:=k0_ hc0_1;clear hr0_1 hc0_1;have HR1:=k0_ hr1;have HC1:=k0_ hc1;clear hr1 hc1;have HB:=k0_ (Below.refl w.heap.size w);have H : ((upkeep_Check.f k l0_0 l0_1 a0_2).bind fun t140=>(if t140 = 0 then (if (l1.length : Int) = (l0_0.length : Int) then (upkeep_Verify.l0 k l1 l1 (l1.length : Int) 0 l0_0 l0_1 a0_2) else (some (0, 3))) else (some (0, t140)))) = some (r1, r2):=h;clear h;replace H:=Option.bind_eq_some_iff.mp H;obtain ⟨t140, A30, H⟩:=H;replace H : (if t140 = 0 then (if (l1.length : Int) = (l0_0.length : Int) then (upkeep_Verify.l0 k l1 l1 (l1.length : Int) 0 l0_0 l0_1 a0_2) else (some (0, 3))) else (some (0, t140))) = some (r1, r2):=H;have A3:=k0_ A30;clear A30
 by_cases c4 : t140 = 0
 ·rw [if_pos c4] at H
  have c4b0 : (t140 == 0) = true:=beq_iff_eq.mpr c4;have c4b1 : (t140 != 0) = false:=bne_eq_false_iff_eq.mpr c4;clear c4
  by_cases c5 : (l1.length : Int) = (l0_0.length : Int)
  ·rw [if_pos c5] at H
   have c5b0 : ((l1.length : Int) == (l0_0.length : Int)) = true:=beq_iff_eq.mpr c5;have c5b1 : ((l1.length : Int) != (l0_0.length : Int)) = false:=bne_eq_false_iff_eq.mpr c5;have c5b2 : (l1.length == l0_0.length) = true:=by first|simpa using c5|(simp at c5 ⊢;omega)
   clear c5;have H':=k0_ H;clear H
   go_enter Try.func9, Try.ntmps9
   go_wp2_with (first|((with_reducible refine gate_dst (N:=2) rfl ?_);refine box_event ?hg (N:=2) ?hd (cs:=#[.slice A0_0 l0_0.length c0_0, .slice A0_1 l0_1.length c0_1, .int .i64 a0_2]) (t:=25) ?hr ?_;(case hd=>rfl);(case hg=>rfl);(case hr=>first|(go_simp;done)|(go_simp;rfl));intro gb139 hg w6 hbox hb;have n0_:=k0_ (below_step (by repeat (first|(with_reducible first|exact HB.out|apply below_alloc|apply pw_below_drewN|apply below_drew1)|exact HB.out)) hb);have n1_:=k0_ (hbox);have n2_:=k0_ ((by rw [hg];exact (below_size (by repeat (first|(with_reducible first|exact HB.out|apply below_alloc|apply pw_below_drewN|apply below_drew1)|exact HB.out))) : w.heap.size ≤ gb139));have n3_:=k0_ ((by rw [hg];exact (below_size (by repeat (first|(with_reducible first|exact HB.out|apply below_alloc|apply pw_below_drewN|apply below_drew1)|exact HB.out))) : w.heap.size ≤ gb139));clear HB;have HB:=n0_;have BK139:=n1_;have GW139:=n2_;have GE139:=n3_;clear n0_ n1_ n2_ n3_;clear hb hbox hg;have hcz7_0 : w6.cell? ⟨gb139, 0, none⟩ = some (.slice A0_0 l0_0.length c0_0):=(blk_cell BK139.out 0).trans rfl;have hcz7_1 : w6.cell? ⟨gb139, 1, none⟩ = some (.slice A0_1 l0_1.length c0_1):=(blk_cell BK139.out 1).trans rfl;have hcz7_2 : w6.cell? ⟨gb139, 2, none⟩ = some (.int .i64 a0_2):=(blk_cell BK139.out 2).trans rfl;have hfz7_0:=blk_frozen BK139.out 0;have hfz7_1:=blk_frozen BK139.out 1;have hfz7_2:=blk_frozen BK139.out 2)|((with_reducible refine gate_callee (f:=11) rfl ?_);refine goesL_ (some 12) rfl rfl Try.func11 (by kernel_rfl) rfl #[.agg #[.slice A0_0 l0_0.length c0_0, .slice A0_1 l0_1.length c0_1, .int .i64 a0_2]] rfl (by (try simp only [List.map_toArray, List.map_cons, List.map_nil]);first|done|rfl|(simp only [List.length_drop, List.length_take];rfl)) ?_;(with_reducible refine (upkeep_Check.calls k _ _ l0_0 _ _ l0_1 a0_2 t140 _ ?side1 ?side2 ?side3 ?side4 A3.out).mono ?_);(case side1=>repeat (first|exact (Kd.C_below HR0_0.out HB.out)|(with_reducible refine Kd.C_alloc ?_ _)|(with_reducible refine Kd.C_drewN ?_ _)|(with_reducible refine Kd.C_drew ?_)));(case side2=>exact HC0_0.out);(case side3=>repeat (first|exact (Kd.C_below HR0_1.out HB.out)|(with_reducible refine Kd.C_alloc ?_ _)|(with_reducible refine Kd.C_drewN ?_ _)|(with_reducible refine Kd.C_drew ?_)));(case side4=>exact HC0_1.out);rintro e w8 ⟨rfl, hb⟩;refine ⟨_, rfl, ?_⟩;have n0_:=k0_ (blk_below (g:=gb139) (o:=.cells #[.slice A0_0 l0_0.length c0_0, .slice A0_1 l0_1.length c0_1, .int .i64 a0_2] 25 (0, 0)) (by (with_reducible repeat (first|refine blk_drewN ?_ _|refine blk_drew ?_|refine blk_alloc ?_ _));exact BK139.out) hb);have n1_:=k0_ (below_step (by repeat (first|(with_reducible first|exact HB.out|apply below_alloc|apply pw_below_drewN|apply below_drew1|refine below_set ?_ GE139.out)|exact HB.out)) hb);clear BK139;clear HB;have BK139:=n0_;have HB:=n1_;clear n0_ n1_;(try clear hb);(try clear hb2);(try clear hk);(try clear hi);have hcz9_0 : w8.cell? ⟨gb139, 0, none⟩ = some (.slice A0_0 l0_0.length c0_0):=(blk_cell BK139.out 0).trans rfl;have hcz9_1 : w8.cell? ⟨gb139, 1, none⟩ = some (.slice A0_1 l0_1.length c0_1):=(blk_cell BK139.out 1).trans rfl;have hcz9_2 : w8.cell? ⟨gb139, 2, none⟩ = some (.int .i64 a0_2):=(blk_cell BK139.out 2).trans rfl;have hfz9_0:=blk_frozen BK139.out 0;have hfz9_1:=blk_frozen BK139.out 1;have hfz9_2:=blk_frozen BK139.out 2))
   (try simp only [Act.put, q1_,q3_,q2_])
   go_loopg [24] k (fun kq v24 w'=>∃ (x24_1 : Int), v24 = .int .i64 x24_1∧Aside0 (upkeep_Verify.l0 kq l1 l1 (l1.length : Int) x24_1 l0_0 l0_1 a0_2 = some (r1, r2))∧Aside0 (kq ≤ k)∧Aside0 (w'.heap[gb139]? = some (.cells #[(.slice A0_0 l0_0.length c0_0),(.slice A0_1 l0_1.length c0_1), .int .i64 a0_2] 25 (0, 0)))∧Aside0 (Below w.heap.size w w'))
   case atStart=>exact ⟨(0),(by first|rfl|(simp;done)|(simp [*];done)), H', ⟨Nat.le_refl _⟩,⟨by (with_reducible repeat (first|refine blk_drewN ?_ _|refine blk_drew ?_|refine blk_alloc ?_ _));exact BK139.out⟩,⟨by repeat (first|(with_reducible first|exact HB.out|apply below_alloc|apply pw_below_drewN|apply below_drew1|refine below_set ?_ GE139.out)|exact HB.out)⟩⟩
   clear H';(try clear c1);(try clear p2);(try clear c4);(try clear c4b0);(try clear c4b1);(try clear c5);(try clear c5b0);(try clear c5b1);(try clear c5b2);(try clear c9);(try clear hcz7_0);(try clear hcz7_1);(try clear hcz7_2);(try clear hcz9_0);(try clear hcz9_1);(try clear hcz9_2);(try clear hfz7_0);(try clear hfz7_1);(try clear hfz7_2);(try clear hfz9_0);(try clear hfz9_1);(try clear hfz9_2);obtain ⟨x24_1, rfl, HA, HK1, BK139, HB⟩:=hrel;obtain _|k1:=gk
   ·exact absurd HA.out (by simp [upkeep_Verify.l0])
   have H:=HA.out;clear HA;simp only [upkeep_Verify.l0] at H
   by_cases c10 : x24_1 < (l1.length : Int)
   ·rw [if_pos c10] at H
    have c10b0 : decide (x24_1 < (l1.length : Int)) = true:=decide_eq_true c10;clear c10
    by_cases c11 : 0 ≤ x24_1
    rotate_left
    ·rw [if_neg c11] at H
     exact absurd H (by simp)
    rw [if_pos c11] at H;have c11b0 : decide (0 ≤ x24_1) = true:=decide_eq_true c11;clear c11
    by_cases c12 : x24_1 < (l1.length : Int)
    rotate_left
    ·rw [if_neg c12] at H
     exact absurd H (by simp)
    rw [if_pos c12] at H;have c12b0 : decide (x24_1 < (l1.length : Int)) = true:=decide_eq_true c12;clear c12
    by_cases c13 : x24_1 < (l0_0.length : Int)
    rotate_left
    ·rw [if_neg c13] at H
     exact absurd H (by simp)
    rw [if_pos c13] at H;have c13b0 : decide (x24_1 < (l0_0.length : Int)) = true:=decide_eq_true c13;clear c13
    by_cases c14 : (rd l1 x24_1) < ((rd_T28 l0_0 x24_1).f2)
    ·rw [if_pos c14] at H
     have c14b0 : decide ((rd l1 x24_1) < ((rd_T28 l0_0 x24_1).f2)) = true:=decide_eq_true c14;clear c14;simp only [Option.some.injEq, Prod.mk.injEq] at H;obtain ⟨rfl, rfl⟩:=H;have p141 : 0 ≤ (x24_1 : Int):=of_decide_eq_true (by first|(with_reducible assumption)|assumption);have q141 : x24_1 < (l1.length : Int):=of_decide_eq_true (by first|(with_reducible assumption)|assumption);obtain ⟨ad141, e141, hx141_0⟩:=Kd.at_int HR1.out x24_1 p141 q141;cases e141;replace hx141_0:=(HB.out.cell (World.block_lt_of_cell? w _ hx141_0)).trans hx141_0;replace p141:=eq_true p141;replace q141:=eq_true q141;have hcz15_0 : wr.cell? ⟨gb139, 0, none⟩ = some (.slice A0_0 l0_0.length c0_0):=(blk_cell BK139.out 0).trans rfl;have hcz15_1 : wr.cell? ⟨gb139, 1, none⟩ = some (.slice A0_1 l0_1.length c0_1):=(blk_cell BK139.out 1).trans rfl;have hcz15_2 : wr.cell? ⟨gb139, 2, none⟩ = some (.int .i64 a0_2):=(blk_cell BK139.out 2).trans rfl;have hfz15_0:=blk_frozen BK139.out 0;have hfz15_1:=blk_frozen BK139.out 1;have hfz15_2:=blk_frozen BK139.out 2;have p142 : 0 ≤ (x24_1 : Int):=of_decide_eq_true (by first|(with_reducible assumption)|assumption);have q142 : x24_1 < (l0_0.length : Int):=of_decide_eq_true (by first|(with_reducible assumption)|assumption);obtain ⟨ad142, e142, hx142_0, hx142_1, hx142_2, hx142_3, hx142_4⟩:=at_T28 HR0_0.out x24_1 p142 q142;cases e142;replace hx142_0:=(HB.out.cell (World.block_lt_of_cell? w _ hx142_0)).trans hx142_0;replace hx142_1:=(HB.out.cell (World.block_lt_of_cell? w _ hx142_1)).trans hx142_1;replace hx142_2:=(HB.out.cell (World.block_lt_of_cell? w _ hx142_2)).trans hx142_2;replace hx142_3:=(HB.out.cell (World.block_lt_of_cell? w _ hx142_3)).trans hx142_3;replace hx142_4:=(HB.out.cell (World.block_lt_of_cell? w _ hx142_4)).trans hx142_4;replace p142:=eq_true p142;replace q142:=eq_true q142;go_wp2
     go_ret2
     exact ⟨by first|rfl|(simp [errW_none, errW_some] <;> rfl)|(simp [*, errW_none, errW_some] <;> rfl), by repeat (first|(with_reducible first|exact HB.out|apply below_alloc|apply pw_below_drewN|apply below_drew1|refine below_set ?_ GE139.out)|exact HB.out)⟩
    ·rw [if_neg c14] at H
     have c14b0 : decide ((rd l1 x24_1) < ((rd_T28 l0_0 x24_1).f2)) = false:=decide_eq_false c14;clear c14
     by_cases c16 : (rd l1 x24_1) > ((rd_T28 l0_0 x24_1).f3)
     ·rw [if_pos c16] at H
      have c16b0 : decide (((rd_T28 l0_0 x24_1).f3) < (rd l1 x24_1)) = true:=decide_eq_true c16;clear c16;simp only [Option.some.injEq, Prod.mk.injEq] at H;obtain ⟨rfl, rfl⟩:=H;have p141 : 0 ≤ (x24_1 : Int):=of_decide_eq_true (by first|(with_reducible assumption)|assumption);have q141 : x24_1 < (l1.length : Int):=of_decide_eq_true (by first|(with_reducible assumption)|assumption);obtain ⟨ad141, e141, hx141_0⟩:=Kd.at_int HR1.out x24_1 p141 q141;cases e141;replace hx141_0:=(HB.out.cell (World.block_lt_of_cell? w _ hx141_0)).trans hx141_0;replace p141:=eq_true p141;replace q141:=eq_true q141;have hcz17_0 : wr.cell? ⟨gb139, 0, none⟩ = some (.slice A0_0 l0_0.length c0_0):=(blk_cell BK139.out 0).trans rfl;have hcz17_1 : wr.cell? ⟨gb139, 1, none⟩ = some (.slice A0_1 l0_1.length c0_1):=(blk_cell BK139.out 1).trans rfl;have hcz17_2 : wr.cell? ⟨gb139, 2, none⟩ = some (.int .i64 a0_2):=(blk_cell BK139.out 2).trans rfl;have hfz17_0:=blk_frozen BK139.out 0;have hfz17_1:=blk_frozen BK139.out 1;have hfz17_2:=blk_frozen BK139.out 2;have p142 : 0 ≤ (x24_1 : Int):=of_decide_eq_true (by first|(with_reducible assumption)|assumption);have q142 : x24_1 < (l0_0.length : Int):=of_decide_eq_true (by first|(with_reducible assumption)|assumption);obtain ⟨ad142, e142, hx142_0, hx142_1, hx142_2, hx142_3, hx142_4⟩:=at_T28 HR0_0.out x24_1 p142 q142;cases e142;replace hx142_0:=(HB.out.cell (World.block_lt_of_cell? w _ hx142_0)).trans hx142_0;replace hx142_1:=(HB.out.cell (World.block_lt_of_cell? w _ hx142_1)).trans hx142_1;replace hx142_2:=(HB.out.cell (World.block_lt_of_cell? w _ hx142_2)).trans hx142_2;replace hx142_3:=(HB.out.cell (World.block_lt_of_cell? w _ hx142_3)).trans hx142_3;replace hx142_4:=(HB.out.cell (World.block_lt_of_cell? w _ hx142_4)).trans hx142_4;replace p142:=eq_true p142;replace q142:=eq_true q142;have p143 : 0 ≤ (x24_1 : Int):=of_decide_eq_true (by first|(with_reducible assumption)|assumption);have q143 : x24_1 < (l0_0.length : Int):=of_decide_eq_true (by first|(with_reducible assumption)|assumption);obtain ⟨ad143, e143, hx143_0, hx143_1, hx143_2, hx143_3, hx143_4⟩:=at_T28 HR0_0.out x24_1 p143 q143;obtain rfl : ad142 = ad143:=(by injection e143);replace hx143_0:=(HB.out.cell (World.block_lt_of_cell? w _ hx143_0)).trans hx143_0;replace hx143_1:=(HB.out.cell (World.block_lt_of_cell? w _ hx143_1)).trans hx143_1;replace hx143_2:=(HB.out.cell (World.block_lt_of_cell? w _ hx143_2)).trans hx143_2;replace hx143_3:=(HB.out.cell (World.block_lt_of_cell? w _ hx143_3)).trans hx143_3;replace hx143_4:=(HB.out.cell (World.block_lt_of_cell? w _ hx143_4)).trans hx143_4;replace p143:=eq_true p143;replace q143:=eq_true q143;go_wp2
      go_ret2
      exact ⟨by first|rfl|(simp [errW_none, errW_some] <;> rfl)|(simp [*, errW_none, errW_some] <;> rfl), by repeat (first|(with_reducible first|exact HB.out|apply below_alloc|apply pw_below_drewN|apply below_drew1|refine below_set ?_ GE139.out)|exact HB.out)⟩
     ·rw [if_neg c16] at H
      have c16b0 : decide (((rd_T28 l0_0 x24_1).f3) < (rd l1 x24_1)) = false:=decide_eq_false c16;clear c16;have H':=k0_ H;clear H;have p141 : 0 ≤ (x24_1 : Int):=of_decide_eq_true (by first|(with_reducible assumption)|assumption);have q141 : x24_1 < (l1.length : Int):=of_decide_eq_true (by first|(with_reducible assumption)|assumption);obtain ⟨ad141, e141, hx141_0⟩:=Kd.at_int HR1.out x24_1 p141 q141;cases e141;replace hx141_0:=(HB.out.cell (World.block_lt_of_cell? w _ hx141_0)).trans hx141_0;replace p141:=eq_true p141;replace q141:=eq_true q141;have hcz18_0 : wr.cell? ⟨gb139, 0, none⟩ = some (.slice A0_0 l0_0.length c0_0):=(blk_cell BK139.out 0).trans rfl;have hcz18_1 : wr.cell? ⟨gb139, 1, none⟩ = some (.slice A0_1 l0_1.length c0_1):=(blk_cell BK139.out 1).trans rfl;have hcz18_2 : wr.cell? ⟨gb139, 2, none⟩ = some (.int .i64 a0_2):=(blk_cell BK139.out 2).trans rfl;have hfz18_0:=blk_frozen BK139.out 0;have hfz18_1:=blk_frozen BK139.out 1;have hfz18_2:=blk_frozen BK139.out 2;have p142 : 0 ≤ (x24_1 : Int):=of_decide_eq_true (by first|(with_reducible assumption)|assumption);have q142 : x24_1 < (l0_0.length : Int):=of_decide_eq_true (by first|(with_reducible assumption)|assumption);obtain ⟨ad142, e142, hx142_0, hx142_1, hx142_2, hx142_3, hx142_4⟩:=at_T28 HR0_0.out x24_1 p142 q142;cases e142;replace hx142_0:=(HB.out.cell (World.block_lt_of_cell? w _ hx142_0)).trans hx142_0;replace hx142_1:=(HB.out.cell (World.block_lt_of_cell? w _ hx142_1)).trans hx142_1;replace hx142_2:=(HB.out.cell (World.block_lt_of_cell? w _ hx142_2)).trans hx142_2;replace hx142_3:=(HB.out.cell (World.block_lt_of_cell? w _ hx142_3)).trans hx142_3;replace hx142_4:=(HB.out.cell (World.block_lt_of_cell? w _ hx142_4)).trans hx142_4;replace p142:=eq_true p142;replace q142:=eq_true q142;have p143 : 0 ≤ (x24_1 : Int):=of_decide_eq_true (by first|(with_reducible assumption)|assumption);have q143 : x24_1 < (l0_0.length : Int):=of_decide_eq_true (by first|(with_reducible assumption)|assumption);obtain ⟨ad143, e143, hx143_0, hx143_1, hx143_2, hx143_3, hx143_4⟩:=at_T28 HR0_0.out x24_1 p143 q143;obtain rfl : ad142 = ad143:=(by injection e143);replace hx143_0:=(HB.out.cell (World.block_lt_of_cell? w _ hx143_0)).trans hx143_0;replace hx143_1:=(HB.out.cell (World.block_lt_of_cell? w _ hx143_1)).trans hx143_1;replace hx143_2:=(HB.out.cell (World.block_lt_of_cell? w _ hx143_2)).trans hx143_2;replace hx143_3:=(HB.out.cell (World.block_lt_of_cell? w _ hx143_3)).trans hx143_3;replace hx143_4:=(HB.out.cell (World.block_lt_of_cell? w _ hx143_4)).trans hx143_4;replace p143:=eq_true p143;replace q143:=eq_true q143;go_wp2
      go_roundg k1
      case measure=>have:=HK1.out;omega
      case rel=>exact ⟨(wrap64 (x24_1 + 1)),(by first|rfl|(simp;done)|(simp [*];done)), H', ⟨by have:=HK1.out;omega⟩,⟨by (with_reducible repeat (first|refine blk_drewN ?_ _|refine blk_drew ?_|refine blk_alloc ?_ _));exact BK139.out⟩,⟨by repeat (first|(with_reducible first|exact HB.out|apply below_alloc|apply pw_below_drewN|apply below_drew1|refine below_set ?_ GE139.out)|exact HB.out)⟩⟩
   ·rw [if_neg c10] at H
    have c10b0 : decide (x24_1 < (l1.length : Int)) = false:=decide_eq_false c10;clear c10;have H':=k0_ H;clear H;go_wp2;(try simp only [Act.put, q1_,q3_,q2_])
    go_loopg [50] k1 (fun kq v50 w'=>∃ (x50_2 : Int), v50 = .int .i64 x50_2∧Aside0 (upkeep_Verify.l1 kq l1 (l1.length : Int) x50_2 l0_0 l0_1 a0_2 = some (r1, r2))∧Aside0 (kq ≤ k1)∧Aside0 (w'.heap[gb139]? = some (.cells #[(.slice A0_0 l0_0.length c0_0),(.slice A0_1 l0_1.length c0_1), .int .i64 a0_2] 25 (0, 0)))∧Aside0 (Below w.heap.size w w'))
    case atStart=>exact ⟨(0),(by first|rfl|(simp;done)|(simp [*];done)), H', ⟨Nat.le_refl _⟩,⟨by (with_reducible repeat (first|refine blk_drewN ?_ _|refine blk_drew ?_|refine blk_alloc ?_ _));exact BK139.out⟩,⟨by repeat (first|(with_reducible first|exact HB.out|apply below_alloc|apply pw_below_drewN|apply below_drew1|refine below_set ?_ GE139.out)|exact HB.out)⟩⟩
    clear H';(try clear c1);(try clear p1);(try clear q1);(try clear hx1);(try clear p2);(try clear c4);(try clear c4b0);(try clear c4b1);(try clear c5);(try clear c5b0);(try clear c5b1);(try clear c5b2);(try clear p6);(try clear c9);(try clear c10);(try clear c10b0);(try clear c11);(try clear c11b0);(try clear c12);(try clear c12b0);(try clear c13);(try clear c13b0);(try clear c14);(try clear c14b0);(try clear p14);(try clear q14);(try clear hx14);(try clear c16);(try clear c16b0);(try clear hcz15_0);(try clear hcz15_1);(try clear hcz15_2);(try clear hcz17_0);(try clear hcz17_1);(try clear hcz17_2);(try clear hcz18_0);(try clear hcz18_1);(try clear hcz18_2);(try clear hcz7_0);(try clear hcz7_1);(try clear hcz7_2);(try clear hcz9_0);(try clear hcz9_1);(try clear hcz9_2);(try clear hfz15_0);(try clear hfz15_1);(try clear hfz15_2);(try clear hfz17_0);(try clear hfz17_1);(try clear hfz17_2);(try clear hfz18_0);(try clear hfz18_1);(try clear hfz18_2);(try clear hfz7_0);(try clear hfz7_1);(try clear hfz7_2);(try clear hfz9_0);(try clear hfz9_1);(try clear hfz9_2);(try clear hx141_0);(try clear hx142_0);(try clear hx142_1);(try clear hx142_2);(try clear hx142_3);(try clear hx142_4);(try clear hx143_0);(try clear hx143_1);(try clear hx143_2);(try clear hx143_3);(try clear hx143_4);(try clear p141);(try clear p142);(try clear p143);(try clear p2);(try clear q141);(try clear q142);(try clear q143);obtain ⟨x50_2, rfl, HA, HK2, BK139, HB⟩:=hrel;obtain _|k2:=gk
    ·exact absurd HA.out (by simp [upkeep_Verify.l1])
    have H:=HA.out;clear HA;simp only [upkeep_Verify.l1] at H
    by_cases c19 : x50_2 < (l1.length : Int)
    ·rw [if_pos c19] at H
     have c19b0 : decide (x50_2 < (l1.length : Int)) = true:=decide_eq_true c19;clear c19;obtain ⟨ji20, hji20⟩ : ∃ j_ : Int, (wrap64 (x50_2 + 1)) = j_:=⟨_, rfl⟩;replace H : (if 0 ≤ (ji20) then (if (ji20) ≤ (l1.length : Int) then ((upkeep_allowed.f k2 l0_0 l0_1 a0_2 (l1.take ((ji20) : Int).toNat)).bind fun t145=>(if t145 = 0 then (upkeep_Verify.l1 k2 l1 (l1.length : Int) ji20 l0_0 l0_1 a0_2) else (some (0, t145)))) else (none)) else (none)) = some (r1, r2):=by first|(rw [hji20] at H;exact H)|(simp only [hji20] at H ⊢;exact H)
     have hji20w : (IntKind.i64.wrap (x50_2 + 1)) = ji20:=(i64_w _).trans hji20
     by_cases c21 : 0 ≤ (ji20)
     rotate_left
     ·rw [if_neg c21] at H
      exact absurd H (by simp)
     rw [if_pos c21] at H;have c21b0:=eq_true c21;have c21b1 : decide (0 ≤ (ji20)) = true:=decide_eq_true c21;clear c21
     by_cases c22 : (ji20) ≤ (l1.length : Int)
     rotate_left
     ·rw [if_neg c22] at H
      exact absurd H (by simp)
     rw [if_pos c22] at H;have c22b0:=eq_true c22;have c22b1 : decide ((ji20) ≤ (l1.length : Int)) = true:=decide_eq_true c22;clear c22;replace H:=Option.bind_eq_some_iff.mp H;obtain ⟨t145, A230, H⟩:=H;replace H : (if t145 = 0 then (upkeep_Verify.l1 k2 l1 (l1.length : Int) ji20 l0_0 l0_1 a0_2) else (some (0, t145))) = some (r1, r2):=H;have A23:=k0_ A230;clear A230
     by_cases c24 : t145 = 0
     ·rw [if_pos c24] at H
      have c24b0 : (t145 == 0) = true:=beq_iff_eq.mpr c24;have c24b1 : (t145 != 0) = false:=bne_eq_false_iff_eq.mpr c24;clear c24;have H':=k0_ H;clear H
      try go_wp2
      have n0_:=k0_ (blk_drew BK139.out);have n1_:=k0_ (below_drew1 HB.out);clear BK139;clear HB;have BK139:=n0_;have HB:=n1_;clear n0_ n1_;obtain ⟨i026, hi026, _, hsz26, _⟩:=info_parts info3;obtain ⟨hcut26, hA26, hC26⟩:=print_take_of (P:=Try.prog) (Value.int .i64) 0 26 3 .i64 Try.underlying26 hi026 hsz26 A1 c1 l1 (ji20) (of_decide_eq_true (by first|(with_reducible assumption)|assumption)) (of_decide_eq_true (by first|(with_reducible assumption)|assumption)) HC1.out;have HR144:=k0_ (Kd.C_of_reads (h1:=fun _=>rfl) (hA26 _ (Kd.reads_of_C HR1.out)));have HC144:=k0_ hC26;clear hA26 hC26 hi026 hsz26;refine start_ (n:=7) (S:=fun w'=>w'.cell? ⟨gb139, 0, none⟩ = some (.slice A0_0 l0_0.length c0_0)∧w'.cell? ⟨gb139, 1, none⟩ = some (.slice A0_1 l0_1.length c0_1)∧w'.cell? ⟨gb139, 2, none⟩ = some (.int .i64 a0_2)) (ds:=[]) #[false, false, false, false, false, false, false] (by kernel_rfl) rfl rfl ⟨(blk_cell BK139.out 0).trans rfl, (blk_cell BK139.out 1).trans rfl, (blk_cell BK139.out 2).trans rfl⟩ (fun hHeld=>?_);generalize wr.drew = w25 at BK139 HB HR144 hHeld ⊢;refine pure_ (i:=1) (N:=some 54) (v:=?_) (a':=?_) #[false, true, false, false, false, false, false] rfl rfl (by kernel_rfl) (fun _ _ _ h=>h) (Or.inl ⟨by rfl, ?_⟩) ?_ ?_;rotate_left;(intro w';go_simp;with_reducible rfl);rotate_left;(simp only [Act.put, q1_,q2_,q3_,i64_w,i32_w];rfl);refine pure_ (i:=2) (N:=some 55) (v:=?_) (a':=?_) #[false, true, true, false, false, false, false] rfl rfl (by kernel_rfl) (fun _ _ _ h=>h) (Or.inl ⟨by rfl, ?_⟩) ?_ ?_;rotate_left;(intro w';go_simp;with_reducible rfl);rotate_left;(simp only [Act.put, q1_,q2_,q3_,i64_w,i32_w];rfl);refine pure_ (i:=3) (N:=some 56) (v:=?_) (a':=?_) #[false, true, true, true, false, false, false] rfl rfl (by kernel_rfl) (fun _ _ _ h=>h) (Or.inl ⟨by rfl, ?_⟩) ?_ ?_;rotate_left;(intro w';go_simp;with_reducible rfl);rotate_left;(simp only [Act.put, q1_,q2_,q3_,i64_w,i32_w];rfl);refine pure_ (i:=4) (N:=some 57) (v:=?_) (a':=?_) #[false, true, true, true, true, false, false] rfl rfl (by kernel_rfl) (fun _ _ _ h=>h) (Or.inl ⟨by rfl, ?_⟩) ?_ ?_;rotate_left;(intro w';go_simp;with_reducible rfl);rotate_left;(simp only [Act.put, q1_,q2_,q3_,i64_w,i32_w];rfl);refine take_ (i:=0) (N:=some 53) (v:=?_) (a':=?_) #[true, true, true, true, true, false, false] rfl rfl (by kernel_rfl) (fun _ _ _ h=>h) (Or.inl ⟨by rfl, ?_⟩) hHeld ?_ ?_;rotate_left
      (rintro w' ⟨s0, s1, s2⟩;go_simp;with_reducible rfl)
      rotate_left;(simp only [Act.put, q1_,q2_,q3_,i64_w,i32_w];rfl);refine one_ (i:=5) (N:=some 58) #[true, true, true, true, true, true, false] rfl rfl (by kernel_rfl) (by decide) (fun K hK=>?_);refine goes_ Try.func60 (by kernel_rfl) rfl #[.agg #[.slice A0_0 l0_0.length c0_0, .slice A0_1 l0_1.length c0_1, .int .i64 a0_2], .slice A1 (l1.take ((ji20) : Int).toNat).length c1] (by rfl) rfl rfl (by (try simp only [List.map_toArray, List.map_cons, List.map_nil]);first|done|(rw [show (l1.take ((ji20) : Int).toNat).length = (ji20).toNat from (by rw [List.length_take];have h_ : ((ji20) : Int) ≤ (l1.length : Int):=of_decide_eq_true (by first|(with_reducible assumption)|assumption);omega)] <;> rfl)|(simp only [hji20];rfl)|rfl|(simp only [List.length_drop, List.length_take];rfl)) ?_
      with_reducible refine (upkeep_allowed.calls k2 _ _ l0_0 _ _ l0_1 a0_2 _ _ (l1.take ((ji20) : Int).toNat) t145 _ ?side1 ?side2 ?side3 ?side4 ?side5 ?side6 A23.out).mono ?_
      (case side1=>repeat (first|exact (Kd.C_below HR0_0.out HB.out)|(with_reducible refine Kd.C_alloc ?_ _)|(with_reducible refine Kd.C_drewN ?_ _)|(with_reducible refine Kd.C_drew ?_)))
      (case side2=>exact HC0_0.out)
      (case side3=>repeat (first|exact (Kd.C_below HR0_1.out HB.out)|(with_reducible refine Kd.C_alloc ?_ _)|(with_reducible refine Kd.C_drewN ?_ _)|(with_reducible refine Kd.C_drew ?_)))
      (case side4=>exact HC0_1.out)
      (case side5=>repeat (first|exact (Kd.C_below HR144.out HB.out)|(with_reducible refine Kd.C_alloc ?_ _)|(with_reducible refine Kd.C_drewN ?_ _)|(with_reducible refine Kd.C_drew ?_)))
      (case side6=>exact HC144.out)
      rintro e w27 ⟨rfl, hb⟩;refine ⟨_, rfl, ?_⟩;have n0_:=k0_ (blk_below (g:=gb139) (o:=.cells #[.slice A0_0 l0_0.length c0_0, .slice A0_1 l0_1.length c0_1, .int .i64 a0_2] 25 (0, 0)) (by (with_reducible repeat (first|refine blk_drewN ?_ _|refine blk_drew ?_|refine blk_alloc ?_ _));exact BK139.out) hb);have n1_:=k0_ (below_step (by repeat (first|(with_reducible first|exact HB.out|apply below_alloc|apply pw_below_drewN|apply below_drew1|refine below_set ?_ GE139.out)|exact HB.out)) hb);clear BK139;clear HB;have BK139:=n0_;have HB:=n1_;clear n0_ n1_;(try clear hb);(try clear hb2);(try clear hk);(try clear hi);refine hK.out _ _ ⟨(blk_cell BK139.out 0).trans rfl, (blk_cell BK139.out 1).trans rfl, (blk_cell BK139.out 2).trans rfl⟩ (fun hHeld=>?_);clear hK K;refine norm_ (a':=?_) ?_ ?_;rotate_left
      ·show Act.put _ (some 58) _ = _
       simp only [Act.put, q1_,q2_,q3_,i64_w,i32_w];rfl
      refine pure_ (i:=6) (N:=some 10) (v:=?_) (a':=?_) #[true, true, true, true, true, true, true] rfl rfl (by kernel_rfl) (fun _ _ _ h=>h) (Or.inl ⟨by rfl, ?_⟩) ?_ ?_;rotate_left;(intro w';go_simp;with_reducible rfl);rotate_left;(simp only [Act.put, q1_,q2_,q3_,i64_w,i32_w];rfl);refine done_ (by kernel_rfl) ?_
      try go_wp2
      go_roundg k2
      case measure=>have:=HK1.out;have:=HK2.out;omega
      case rel=>exact ⟨(ji20),(by first|rfl|(simp;done)|(simp only [← hji20] <;> (first|rfl|simp))|(simp [*];done)), H', ⟨by have:=HK1.out;have:=HK2.out;omega⟩,⟨by (with_reducible repeat (first|refine blk_drewN ?_ _|refine blk_drew ?_|refine blk_alloc ?_ _));exact BK139.out⟩,⟨by repeat (first|(with_reducible first|exact HB.out|apply below_alloc|apply pw_below_drewN|apply below_drew1|refine below_set ?_ GE139.out)|exact HB.out)⟩⟩
     ·rw [if_neg c24] at H
      have c24b0 : (t145 == 0) = false:=beq_eq_false_iff_ne.mpr c24;have c24b1 : (t145 != 0) = true:=bne_iff_ne.mpr c24;simp only [Option.some.injEq, Prod.mk.injEq] at H;obtain ⟨rfl, rfl⟩:=H
      try go_wp2
      have n0_:=k0_ (blk_drew BK139.out);have n1_:=k0_ (below_drew1 HB.out);clear BK139;clear HB;have BK139:=n0_;have HB:=n1_;clear n0_ n1_;obtain ⟨i029, hi029, _, hsz29, _⟩:=info_parts info3;obtain ⟨hcut29, hA29, hC29⟩:=print_take_of (P:=Try.prog) (Value.int .i64) 0 26 3 .i64 Try.underlying26 hi029 hsz29 A1 c1 l1 (ji20) (of_decide_eq_true (by first|(with_reducible assumption)|assumption)) (of_decide_eq_true (by first|(with_reducible assumption)|assumption)) HC1.out;have HR144:=k0_ (Kd.C_of_reads (h1:=fun _=>rfl) (hA29 _ (Kd.reads_of_C HR1.out)));have HC144:=k0_ hC29;clear hA29 hC29 hi029 hsz29;refine start_ (n:=7) (S:=fun w'=>w'.cell? ⟨gb139, 0, none⟩ = some (.slice A0_0 l0_0.length c0_0)∧w'.cell? ⟨gb139, 1, none⟩ = some (.slice A0_1 l0_1.length c0_1)∧w'.cell? ⟨gb139, 2, none⟩ = some (.int .i64 a0_2)) (ds:=[]) #[false, false, false, false, false, false, false] (by kernel_rfl) rfl rfl ⟨(blk_cell BK139.out 0).trans rfl, (blk_cell BK139.out 1).trans rfl, (blk_cell BK139.out 2).trans rfl⟩ (fun hHeld=>?_);generalize wr.drew = w28 at BK139 HB HR144 hHeld ⊢;refine pure_ (i:=1) (N:=some 54) (v:=?_) (a':=?_) #[false, true, false, false, false, false, false] rfl rfl (by kernel_rfl) (fun _ _ _ h=>h) (Or.inl ⟨by rfl, ?_⟩) ?_ ?_;rotate_left;(intro w';go_simp;with_reducible rfl);rotate_left;(simp only [Act.put, q1_,q2_,q3_,i64_w,i32_w];rfl);refine pure_ (i:=2) (N:=some 55) (v:=?_) (a':=?_) #[false, true, true, false, false, false, false] rfl rfl (by kernel_rfl) (fun _ _ _ h=>h) (Or.inl ⟨by rfl, ?_⟩) ?_ ?_;rotate_left;(intro w';go_simp;with_reducible rfl);rotate_left;(simp only [Act.put, q1_,q2_,q3_,i64_w,i32_w];rfl);refine pure_ (i:=3) (N:=some 56) (v:=?_) (a':=?_) #[false, true, true, true, false, false, false] rfl rfl (by kernel_rfl) (fun _ _ _ h=>h) (Or.inl ⟨by rfl, ?_⟩) ?_ ?_;rotate_left;(intro w';go_simp;with_reducible rfl);rotate_left;(simp only [Act.put, q1_,q2_,q3_,i64_w,i32_w];rfl);refine pure_ (i:=4) (N:=some 57) (v:=?_) (a':=?_) #[false, true, true, true, true, false, false] rfl rfl (by kernel_rfl) (fun _ _ _ h=>h) (Or.inl ⟨by rfl, ?_⟩) ?_ ?_;rotate_left;(intro w';go_simp;with_reducible rfl);rotate_left;(simp only [Act.put, q1_,q2_,q3_,i64_w,i32_w];rfl);refine take_ (i:=0) (N:=some 53) (v:=?_) (a':=?_) #[true, true, true, true, true, false, false] rfl rfl (by kernel_rfl) (fun _ _ _ h=>h) (Or.inl ⟨by rfl, ?_⟩) hHeld ?_ ?_;rotate_left
      (rintro w' ⟨s0, s1, s2⟩;go_simp;with_reducible rfl)
      rotate_left;(simp only [Act.put, q1_,q2_,q3_,i64_w,i32_w];rfl);refine one_ (i:=5) (N:=some 58) #[true, true, true, true, true, true, false] rfl rfl (by kernel_rfl) (by decide) (fun K hK=>?_);refine goes_ Try.func60 (by kernel_rfl) rfl #[.agg #[.slice A0_0 l0_0.length c0_0, .slice A0_1 l0_1.length c0_1, .int .i64 a0_2], .slice A1 (l1.take ((ji20) : Int).toNat).length c1] (by rfl) rfl rfl (by (try simp only [List.map_toArray, List.map_cons, List.map_nil]);first|done|(rw [show (l1.take ((ji20) : Int).toNat).length = (ji20).toNat from (by rw [List.length_take];have h_ : ((ji20) : Int) ≤ (l1.length : Int):=of_decide_eq_true (by first|(with_reducible assumption)|assumption);omega)] <;> rfl)|(simp only [hji20];rfl)|rfl|(simp only [List.length_drop, List.length_take];rfl)) ?_
      with_reducible refine (upkeep_allowed.calls k2 _ _ l0_0 _ _ l0_1 a0_2 _ _ (l1.take ((ji20) : Int).toNat) t145 _ ?side1 ?side2 ?side3 ?side4 ?side5 ?side6 A23.out).mono ?_
      (case side1=>repeat (first|exact (Kd.C_below HR0_0.out HB.out)|(with_reducible refine Kd.C_alloc ?_ _)|(with_reducible refine Kd.C_drewN ?_ _)|(with_reducible refine Kd.C_drew ?_)))
      (case side2=>exact HC0_0.out)
      (case side3=>repeat (first|exact (Kd.C_below HR0_1.out HB.out)|(with_reducible refine Kd.C_alloc ?_ _)|(with_reducible refine Kd.C_drewN ?_ _)|(with_reducible refine Kd.C_drew ?_)))
      (case side4=>exact HC0_1.out)
      (case side5=>repeat (first|exact (Kd.C_below HR144.out HB.out)|(with_reducible refine Kd.C_alloc ?_ _)|(with_reducible refine Kd.C_drewN ?_ _)|(with_reducible refine Kd.C_drew ?_)))
      (case side6=>exact HC144.out)
      rintro e w30 ⟨rfl, hb⟩;refine ⟨_, rfl, ?_⟩;have n0_:=k0_ (blk_below (g:=gb139) (o:=.cells #[.slice A0_0 l0_0.length c0_0, .slice A0_1 l0_1.length c0_1, .int .i64 a0_2] 25 (0, 0)) (by (with_reducible repeat (first|refine blk_drewN ?_ _|refine blk_drew ?_|refine blk_alloc ?_ _));exact BK139.out) hb);have n1_:=k0_ (below_step (by repeat (first|(with_reducible first|exact HB.out|apply below_alloc|apply pw_below_drewN|apply below_drew1|refine below_set ?_ GE139.out)|exact HB.out)) hb);clear BK139;clear HB;have BK139:=n0_;have HB:=n1_;clear n0_ n1_;(try clear hb);(try clear hb2);(try clear hk);(try clear hi);refine hK.out _ _ ⟨(blk_cell BK139.out 0).trans rfl, (blk_cell BK139.out 1).trans rfl, (blk_cell BK139.out 2).trans rfl⟩ (fun hHeld=>?_);clear hK K;refine norm_ (a':=?_) ?_ ?_;rotate_left
      ·show Act.put _ (some 58) _ = _
       simp only [Act.put, q1_,q2_,q3_,i64_w,i32_w];rfl
      refine pure_ (i:=6) (N:=some 10) (v:=?_) (a':=?_) #[true, true, true, true, true, true, true] rfl rfl (by kernel_rfl) (fun _ _ _ h=>h) (Or.inl ⟨by rfl, ?_⟩) ?_ ?_;rotate_left;(intro w';go_simp;with_reducible rfl);rotate_left;(simp only [Act.put, q1_,q2_,q3_,i64_w,i32_w];rfl);refine done_ (by kernel_rfl) ?_
      try go_wp2
      go_ret2
      exact ⟨by first|rfl|(simp [errW_none, errW_some] <;> rfl)|(simp only [← hji20];first|rfl|(simp [errW_none, errW_some] <;> rfl))|(simp [*, errW_none, errW_some] <;> rfl), by repeat (first|(with_reducible first|exact HB.out|apply below_alloc|apply pw_below_drewN|apply below_drew1|refine below_set ?_ GE139.out)|exact HB.out)⟩
    ·rw [if_neg c19] at H
     have c19b0 : decide (x50_2 < (l1.length : Int)) = false:=decide_eq_false c19;clear c19;replace H:=Option.bind_eq_some_iff.mp H;obtain ⟨t146, A310, H⟩:=H;replace H : (some (t146, 0)) = some (r1, r2):=H;have A31:=k0_ A310;clear A310;simp only [Option.some.injEq, Prod.mk.injEq] at H;obtain ⟨rfl, rfl⟩:=H;have hcz32_0 : wr.cell? ⟨gb139, 0, none⟩ = some (.slice A0_0 l0_0.length c0_0):=(blk_cell BK139.out 0).trans rfl;have hcz32_1 : wr.cell? ⟨gb139, 1, none⟩ = some (.slice A0_1 l0_1.length c0_1):=(blk_cell BK139.out 1).trans rfl;have hcz32_2 : wr.cell? ⟨gb139, 2, none⟩ = some (.int .i64 a0_2):=(blk_cell BK139.out 2).trans rfl;have hfz32_0:=blk_frozen BK139.out 0;have hfz32_1:=blk_frozen BK139.out 1;have hfz32_2:=blk_frozen BK139.out 2
     go_wp2_with (first|((with_reducible refine gate_callee (f:=61) rfl ?_);refine goesL_ (some 65) rfl rfl Try.func61 (by kernel_rfl) rfl #[.agg #[.slice A0_0 l0_0.length c0_0, .slice A0_1 l0_1.length c0_1, .int .i64 a0_2], .slice A1 l1.length c1] rfl (by (try simp only [List.map_toArray, List.map_cons, List.map_nil]);first|done|rfl|(simp only [List.length_drop, List.length_take];rfl)) ?_;(with_reducible refine (upkeep_cost.calls k2 _ _ l0_0 _ _ l0_1 a0_2 _ _ l1 t146 _ ?side1 ?side2 ?side3 ?side4 ?side5 ?side6 A31.out).mono ?_);(case side1=>repeat (first|exact (Kd.C_below HR0_0.out HB.out)|(with_reducible refine Kd.C_alloc ?_ _)|(with_reducible refine Kd.C_drewN ?_ _)|(with_reducible refine Kd.C_drew ?_)));(case side2=>exact HC0_0.out);(case side3=>repeat (first|exact (Kd.C_below HR0_1.out HB.out)|(with_reducible refine Kd.C_alloc ?_ _)|(with_reducible refine Kd.C_drewN ?_ _)|(with_reducible refine Kd.C_drew ?_)));(case side4=>exact HC0_1.out);(case side5=>repeat (first|exact (Kd.C_below HR1.out HB.out)|(with_reducible refine Kd.C_alloc ?_ _)|(with_reducible refine Kd.C_drewN ?_ _)|(with_reducible refine Kd.C_drew ?_)));(case side6=>exact HC1.out);rintro e w33 ⟨rfl, hb⟩;refine ⟨_, rfl, ?_⟩;have n0_:=k0_ (blk_below (g:=gb139) (o:=.cells #[.slice A0_0 l0_0.length c0_0, .slice A0_1 l0_1.length c0_1, .int .i64 a0_2] 25 (0, 0)) (by (with_reducible repeat (first|refine blk_drewN ?_ _|refine blk_drew ?_|refine blk_alloc ?_ _));exact BK139.out) hb);have n1_:=k0_ (below_step (by repeat (first|(with_reducible first|exact HB.out|apply below_alloc|apply pw_below_drewN|apply below_drew1|refine below_set ?_ GE139.out)|exact HB.out)) hb);clear BK139;clear HB;have BK139:=n0_;have HB:=n1_;clear n0_ n1_;(try clear hb);(try clear hb2);(try clear hk);(try clear hi)))
     go_ret2
     exact ⟨by first|rfl|(simp [errW_none, errW_some] <;> rfl)|(simp [*, errW_none, errW_some] <;> rfl), by repeat (first|(with_reducible first|exact HB.out|apply below_alloc|apply pw_below_drewN|apply below_drew1|refine below_set ?_ GE139.out)|exact HB.out)⟩
  ·rw [if_neg c5] at H
   have c5b0 : ((l1.length : Int) == (l0_0.length : Int)) = false:=beq_eq_false_iff_ne.mpr c5;have c5b1 : ((l1.length : Int) != (l0_0.length : Int)) = true:=bne_iff_ne.mpr c5;have c5b2 : (l1.length == l0_0.length) = false:=by first|simpa using c5|(simp at c5 ⊢;omega)
   simp only [Option.some.injEq, Prod.mk.injEq] at H;obtain ⟨rfl, rfl⟩:=H
   go_enter Try.func9, Try.ntmps9
   go_wp2_with (first|((with_reducible refine gate_dst (N:=2) rfl ?_);refine box_event ?hg (N:=2) ?hd (cs:=#[.slice A0_0 l0_0.length c0_0, .slice A0_1 l0_1.length c0_1, .int .i64 a0_2]) (t:=25) ?hr ?_;(case hd=>rfl);(case hg=>rfl);(case hr=>first|(go_simp;done)|(go_simp;rfl));intro gb139 hg w34 hbox hb;have n0_:=k0_ (below_step (by repeat (first|(with_reducible first|exact HB.out|apply below_alloc|apply pw_below_drewN|apply below_drew1)|exact HB.out)) hb);have n1_:=k0_ (hbox);have n2_:=k0_ ((by rw [hg];exact (below_size (by repeat (first|(with_reducible first|exact HB.out|apply below_alloc|apply pw_below_drewN|apply below_drew1)|exact HB.out))) : w.heap.size ≤ gb139));have n3_:=k0_ ((by rw [hg];exact (below_size (by repeat (first|(with_reducible first|exact HB.out|apply below_alloc|apply pw_below_drewN|apply below_drew1)|exact HB.out))) : w.heap.size ≤ gb139));clear HB;have HB:=n0_;have BK139:=n1_;have GW139:=n2_;have GE139:=n3_;clear n0_ n1_ n2_ n3_;clear hb hbox hg;have hcz35_0 : w34.cell? ⟨gb139, 0, none⟩ = some (.slice A0_0 l0_0.length c0_0):=(blk_cell BK139.out 0).trans rfl;have hcz35_1 : w34.cell? ⟨gb139, 1, none⟩ = some (.slice A0_1 l0_1.length c0_1):=(blk_cell BK139.out 1).trans rfl;have hcz35_2 : w34.cell? ⟨gb139, 2, none⟩ = some (.int .i64 a0_2):=(blk_cell BK139.out 2).trans rfl;have hfz35_0:=blk_frozen BK139.out 0;have hfz35_1:=blk_frozen BK139.out 1;have hfz35_2:=blk_frozen BK139.out 2)|((with_reducible refine gate_callee (f:=11) rfl ?_);refine goesL_ (some 12) rfl rfl Try.func11 (by kernel_rfl) rfl #[.agg #[.slice A0_0 l0_0.length c0_0, .slice A0_1 l0_1.length c0_1, .int .i64 a0_2]] rfl (by (try simp only [List.map_toArray, List.map_cons, List.map_nil]);first|done|rfl|(simp only [List.length_drop, List.length_take];rfl)) ?_;(with_reducible refine (upkeep_Check.calls k _ _ l0_0 _ _ l0_1 a0_2 t140 _ ?side1 ?side2 ?side3 ?side4 A3.out).mono ?_);(case side1=>repeat (first|exact (Kd.C_below HR0_0.out HB.out)|(with_reducible refine Kd.C_alloc ?_ _)|(with_reducible refine Kd.C_drewN ?_ _)|(with_reducible refine Kd.C_drew ?_)));(case side2=>exact HC0_0.out);(case side3=>repeat (first|exact (Kd.C_below HR0_1.out HB.out)|(with_reducible refine Kd.C_alloc ?_ _)|(with_reducible refine Kd.C_drewN ?_ _)|(with_reducible refine Kd.C_drew ?_)));(case side4=>exact HC0_1.out);rintro e w36 ⟨rfl, hb⟩;refine ⟨_, rfl, ?_⟩;have n0_:=k0_ (blk_below (g:=gb139) (o:=.cells #[.slice A0_0 l0_0.length c0_0, .slice A0_1 l0_1.length c0_1, .int .i64 a0_2] 25 (0, 0)) (by (with_reducible repeat (first|refine blk_drewN ?_ _|refine blk_drew ?_|refine blk_alloc ?_ _));exact BK139.out) hb);have n1_:=k0_ (below_step (by repeat (first|(with_reducible first|exact HB.out|apply below_alloc|apply pw_below_drewN|apply below_drew1|refine below_set ?_ GE139.out)|exact HB.out)) hb);clear BK139;clear HB;have BK139:=n0_;have HB:=n1_;clear n0_ n1_;(try clear hb);(try clear hb2);(try clear hk);(try clear hi);have hcz37_0 : w36.cell? ⟨gb139, 0, none⟩ = some (.slice A0_0 l0_0.length c0_0):=(blk_cell BK139.out 0).trans rfl;have hcz37_1 : w36.cell? ⟨gb139, 1, none⟩ = some (.slice A0_1 l0_1.length c0_1):=(blk_cell BK139.out 1).trans rfl;have hcz37_2 : w36.cell? ⟨gb139, 2, none⟩ = some (.int .i64 a0_2):=(blk_cell BK139.out 2).trans rfl;have hfz37_0:=blk_frozen BK139.out 0;have hfz37_1:=blk_frozen BK139.out 1;have hfz37_2:=blk_frozen BK139.out 2))
   go_ret2
   exact ⟨by first|rfl|(simp [errW_none, errW_some] <;> rfl)|(simp [*, errW_none, errW_some] <;> rfl), by repeat (first|(with_reducible first|exact HB.out|apply below_alloc|apply pw_below_drewN|apply below_drew1|refine below_set ?_ GE139.out)|exact HB.out)⟩
 ·rw [if_neg c4] at H
  have c4b0 : (t140 == 0) = false:=beq_eq_false_iff_ne.mpr c4;have c4b1 : (t140 != 0) = true:=bne_iff_ne.mpr c4;simp only [Option.some.injEq, Prod.mk.injEq] at H;obtain ⟨rfl, rfl⟩:=H
  go_enter Try.func9, Try.ntmps9
  go_wp2_with (first|((with_reducible refine gate_dst (N:=2) rfl ?_);refine box_event ?hg (N:=2) ?hd (cs:=#[.slice A0_0 l0_0.length c0_0, .slice A0_1 l0_1.length c0_1, .int .i64 a0_2]) (t:=25) ?hr ?_;(case hd=>rfl);(case hg=>rfl);(case hr=>first|(go_simp;done)|(go_simp;rfl));intro gb139 hg w38 hbox hb;have n0_:=k0_ (below_step (by repeat (first|(with_reducible first|exact HB.out|apply below_alloc|apply pw_below_drewN|apply below_drew1)|exact HB.out)) hb);have n1_:=k0_ (hbox);have n2_:=k0_ ((by rw [hg];exact (below_size (by repeat (first|(with_reducible first|exact HB.out|apply below_alloc|apply pw_below_drewN|apply below_drew1)|exact HB.out))) : w.heap.size ≤ gb139));have n3_:=k0_ ((by rw [hg];exact (below_size (by repeat (first|(with_reducible first|exact HB.out|apply below_alloc|apply pw_below_drewN|apply below_drew1)|exact HB.out))) : w.heap.size ≤ gb139));clear HB;have HB:=n0_;have BK139:=n1_;have GW139:=n2_;have GE139:=n3_;clear n0_ n1_ n2_ n3_;clear hb hbox hg;have hcz39_0 : w38.cell? ⟨gb139, 0, none⟩ = some (.slice A0_0 l0_0.length c0_0):=(blk_cell BK139.out 0).trans rfl;have hcz39_1 : w38.cell? ⟨gb139, 1, none⟩ = some (.slice A0_1 l0_1.length c0_1):=(blk_cell BK139.out 1).trans rfl;have hcz39_2 : w38.cell? ⟨gb139, 2, none⟩ = some (.int .i64 a0_2):=(blk_cell BK139.out 2).trans rfl;have hfz39_0:=blk_frozen BK139.out 0;have hfz39_1:=blk_frozen BK139.out 1;have hfz39_2:=blk_frozen BK139.out 2)|((with_reducible refine gate_callee (f:=11) rfl ?_);refine goesL_ (some 12) rfl rfl Try.func11 (by kernel_rfl) rfl #[.agg #[.slice A0_0 l0_0.length c0_0, .slice A0_1 l0_1.length c0_1, .int .i64 a0_2]] rfl (by (try simp only [List.map_toArray, List.map_cons, List.map_nil]);first|done|rfl|(simp only [List.length_drop, List.length_take];rfl)) ?_;(with_reducible refine (upkeep_Check.calls k _ _ l0_0 _ _ l0_1 a0_2 t140 _ ?side1 ?side2 ?side3 ?side4 A3.out).mono ?_);(case side1=>repeat (first|exact (Kd.C_below HR0_0.out HB.out)|(with_reducible refine Kd.C_alloc ?_ _)|(with_reducible refine Kd.C_drewN ?_ _)|(with_reducible refine Kd.C_drew ?_)));(case side2=>exact HC0_0.out);(case side3=>repeat (first|exact (Kd.C_below HR0_1.out HB.out)|(with_reducible refine Kd.C_alloc ?_ _)|(with_reducible refine Kd.C_drewN ?_ _)|(with_reducible refine Kd.C_drew ?_)));(case side4=>exact HC0_1.out);rintro e w40 ⟨rfl, hb⟩;refine ⟨_, rfl, ?_⟩;have n0_:=k0_ (blk_below (g:=gb139) (o:=.cells #[.slice A0_0 l0_0.length c0_0, .slice A0_1 l0_1.length c0_1, .int .i64 a0_2] 25 (0, 0)) (by (with_reducible repeat (first|refine blk_drewN ?_ _|refine blk_drew ?_|refine blk_alloc ?_ _));exact BK139.out) hb);have n1_:=k0_ (below_step (by repeat (first|(with_reducible first|exact HB.out|apply below_alloc|apply pw_below_drewN|apply below_drew1|refine below_set ?_ GE139.out)|exact HB.out)) hb);clear BK139;clear HB;have BK139:=n0_;have HB:=n1_;clear n0_ n1_;(try clear hb);(try clear hb2);(try clear hk);(try clear hi)))
  go_ret2
  exact ⟨by first|rfl|(simp [errW_none, errW_some] <;> rfl)|(simp [*, errW_none, errW_some] <;> rfl), by repeat (first|(with_reducible first|exact HB.out|apply below_alloc|apply pw_below_drewN|apply below_drew1|refine below_set ?_ GE139.out)|exact HB.out)⟩

/-! ### gridhallref4_In: function 23 -/
def gridhallref4_In.f (a0 : Int) (a1 : Int) (a2 : Int) : Option (Bool) := if a0 ≥ a1 then (some (decide (a0 ≤ a2))) else (some false)
set_option maxHeartbeats 8000000 in
set_option maxRecDepth 100000 in
theorem gridhallref4_In.calls (a0 : Int) (a1 : Int) (a2 : Int) (r : Bool) (w : World) (h : gridhallref4_In.f a0 a1 a2 = some r) :
  Calls Try.prog 23 #[.int .i64 a0, .int .i64 a1, .int .i64 a2] w fun e w' => e = .returned (.bool r) ∧ Drawn0 w w' := by
 have H : (if a0 ≥ a1 then (some (decide (a0 ≤ a2))) else (some false)) = some r:=h;clear h
 by_cases c4 : a0 ≥ a1
 ·rw [if_pos c4] at H
  have c4b0 : decide (a1 ≤ a0) = true:=decide_eq_true c4;clear c4;obtain rfl:=Option.some.inj H
  go_enter Try.func23, Try.ntmps23
  go_wp2
  go_ret
  exact ⟨by first|rfl|(simp;done)|(simp [*];done), by repeat (first|exact Drawn0.refl _|apply Drawn0.step)⟩
 ·rw [if_neg c4] at H
  have c4b0 : decide (a1 ≤ a0) = false:=decide_eq_false c4;clear c4;obtain rfl:=Option.some.inj H
  go_enter Try.func23, Try.ntmps23
  go_wp2
  go_ret
  exact ⟨by first|rfl|(simp;done)|(simp [*];done), by repeat (first|exact Drawn0.refl _|apply Drawn0.step)⟩

end Go.Proofs.Ytielinaielicbaa.PUpkeepSays
