/- Contracts of functions that ConvexSums reaches, a text of this session's own. -/
import Derived.Test.YtdgjelbkogfedaaHConvexSumsy0
import Derived.Test.YtdgjelbkogfedaaHConvexSumsy3
namespace Go.Proofs.Ytdgjelbkogfedaa.PConvexSums
open Go.RowKit Go.Proofs.YtdgjelbkogfedaaW.PrintWords Go.Proofs.YtdgjelbkogfedaaW.PrintLast Go.Proofs.YtdgjelbkogfedaaW.PrintMore
attribute [local go_sem] max2_int min2_int max_two min_two max_three min_three max_four min_four   -- for this text's walks alone
set_option linter.unusedVariables false
set_option linter.unusedSimpArgs false

/-! ### gridhallref3_Values: function 36 -/
mutual
def gridhallref3_Values.l0 : Nat → List Int → List (S88) → Int → Int → Option (List Int)
 | 0, _, _, _, _ => none
 | k + 1, x3, x10, x11, x12 => if x12 < x11 then (if 0 ≤ x12 then (if x12 < (x10.length : Int) then (gridhallref3_Values.l1 k x3 x10 x11 x12 ((rd_T88 x10 x12).f0) 0 ((rd_T88 x10 x12).f0) ((rd_T88 x10 x12).f1)) else (none)) else (none)) else (some x3)
def gridhallref3_Values.l1 : Nat → List Int → List (S88) → Int → Int → Int → Int → Int → Int → Option (List Int)
 | 0, _, _, _, _, _, _, _, _ => none
 | k + 1, x3, x10, x11, x12, x17, x18, x141000, x141001 => if x18 < x17 then (if 0 ≤ (wrap64 ((x3.length : Int) - 1)) then (if (wrap64 ((x3.length : Int) - 1)) < (x3.length : Int) then (if x3.length < 17592186044416 then (gridhallref3_Values.l1 k (x3 ++ [wrap64 ((rd x3 (wrap64 ((x3.length : Int) - 1))) + x141001)]) x10 x11 x12 x17 (wrap64 (x18 + 1)) x141000 x141001) else (none)) else (none)) else (none)) else (gridhallref3_Values.l0 k x3 x10 x11 (wrap64 (x12 + 1)))
end
def gridhallref3_Values.f (k : Nat) (a0_0 : Int) (a0_1 : Int) (l0_2 : List (S88)) : Option (List Int) := gridhallref3_Values.l0 k (([a0_1] : List Int)) l0_2 (l0_2.length : Int) 0
theorem gridhallref3_Values.mono_l : ∀ k, (∀ y0 y1 y2 y3, LeO (gridhallref3_Values.l0 k y0 y1 y2 y3) (gridhallref3_Values.l0 (k + 1) y0 y1 y2 y3)) ∧ (∀ y0 y1 y2 y3 y4 y5 y6 y7, LeO (gridhallref3_Values.l1 k y0 y1 y2 y3 y4 y5 y6 y7) (gridhallref3_Values.l1 (k + 1) y0 y1 y2 y3 y4 y5 y6 y7))
 | 0 => ⟨fun _ _ _ _ r h => by simp [gridhallref3_Values.l0] at h, fun _ _ _ _ _ _ _ _ r h => by simp [gridhallref3_Values.l1] at h⟩
 | k + 1 => by
  obtain ⟨ih0, ih1⟩:=gridhallref3_Values.mono_l k
  refine ⟨?_, ?_⟩
  ·intro y0 y1 y2 y3
   unfold gridhallref3_Values.l0
   repeat' first
   | (with_reducible exact ih0 _ _ _ _)
   | (with_reducible exact ih1 _ _ _ _ _ _ _ _)
   | (with_reducible exact LeO.refl _)
   | (with_reducible exact LeO.none _)
   | (with_reducible refine LeO.ite ?_ ?_)
   | (with_reducible refine LeO.bind ?_ (fun _ => ?_))
   | exact ih0 _ _ _ _
   | exact ih1 _ _ _ _ _ _ _ _
   | exact LeO.none _
   | refine LeO.ite ?_ ?_
   | refine LeO.bind ?_ (fun _ => ?_)
  ·intro y0 y1 y2 y3 y4 y5 y6 y7
   unfold gridhallref3_Values.l1
   repeat' first
   | (with_reducible exact ih0 _ _ _ _)
   | (with_reducible exact ih1 _ _ _ _ _ _ _ _)
   | (with_reducible exact LeO.refl _)
   | (with_reducible exact LeO.none _)
   | (with_reducible refine LeO.ite ?_ ?_)
   | (with_reducible refine LeO.bind ?_ (fun _ => ?_))
   | exact ih0 _ _ _ _
   | exact ih1 _ _ _ _ _ _ _ _
   | exact LeO.none _
   | refine LeO.ite ?_ ?_
   | refine LeO.bind ?_ (fun _ => ?_)
theorem gridhallref3_Values.mono : ∀ a0 a1 a2 k, LeO (gridhallref3_Values.f k a0 a1 a2) (gridhallref3_Values.f (k + 1) a0 a1 a2) := by
 intro a0 a1 a2 k
 obtain ⟨ih0, ih1⟩:=gridhallref3_Values.mono_l k
 unfold gridhallref3_Values.f
 repeat' first
   | (with_reducible exact ih0 _ _ _ _)
   | (with_reducible exact ih1 _ _ _ _ _ _ _ _)
   | (with_reducible exact LeO.refl _)
   | (with_reducible exact LeO.none _)
   | (with_reducible refine LeO.ite ?_ ?_)
   | (with_reducible refine LeO.bind ?_ (fun _ => ?_))
   | exact ih0 _ _ _ _
   | exact ih1 _ _ _ _ _ _ _ _
   | exact LeO.none _
   | refine LeO.ite ?_ ?_
   | refine LeO.bind ?_ (fun _ => ?_)
def gridhallref3_Values.T7 : Bool × List (List Nat × List Nat) := (true, [([], []), ([], []), ([], []), ([2], [2]), ([3], [3]), ([1, 4], [1, 4]), ([5], [5]), ([], []), ([7], [7]), ([6, 8], [6, 8]), ([9], [9]), ([0, 10], [0, 10]), ([11, 11, 0, 1, 2, 3, 4, 5, 6, 7, 8, 9, 10, 11], [0, 1, 2, 11])])
def gridhallref3_Values.B7 : List Nat := [0, 0, 0, 4, 12, 30, 62, 0, 128, 510, 1022, 2047, 4095]
theorem gridhallref3_Values.tab7 : rtab .any (opsOf Try.f36 7) = gridhallref3_Values.T7 := by kernel_rfl
theorem gridhallref3_Values.bits7 : waitsOk gridhallref3_Values.T7.2 gridhallref3_Values.B7 = true := by kernel_rfl
set_option maxHeartbeats 8000000 in
set_option maxRecDepth 100000 in
theorem gridhallref3_Values.calls (k : Nat) (a0_0 : Int) (a0_1 : Int) (A0_2 : Option Addr) (c0_2 : Nat) (l0_2 : List (S88)) (r : List Int) (w : World) (hr0_2 : Kd.C k88 w A0_2 l0_2.length l0_2) (hc0_2 : l0_2.length ≤ c0_2) (h : gridhallref3_Values.f k a0_0 a0_1 l0_2 = some r) :
  Calls Try.prog 36 #[.agg #[.int .i64 a0_0, .int .i64 a0_1, .slice A0_2 l0_2.length c0_2]] w fun e w' => ∃ v0_ : Value, e = .returned (v0_) ∧ Kd.R (Kd.int .i64) 3 w' w.heap.size (fun _ => True) v0_ r ∧ Below w.heap.size w w' := by
 have hu82:=Try.underlying82;have hu88:=Try.underlying88;have HR0_2:=k0_ hr0_2;have HC0_2:=k0_ hc0_2;clear hr0_2 hc0_2;have HB:=k0_ (Below.refl w.heap.size w);have H : (gridhallref3_Values.l0 k (([a0_1] : List Int)) l0_2 (l0_2.length : Int) 0) = some r:=h;clear h;obtain ⟨y136, hy136⟩ : ∃ y_ : List Int, y_ = (([a0_1] : List Int)):=⟨_, rfl⟩;replace H : (gridhallref3_Values.l0 k y136 l0_2 (l0_2.length : Int) 0) = some r:=by first|(rw [hy136];with_reducible exact H)|(have H2_:=(Option.bind_some _ _).symm.trans H;rw [hy136];with_reducible exact H2_)|(have H2_:=(Option.bind_some _ _).symm.trans H;with_reducible exact H2_)|with_reducible exact H|(rw [hy136];exact H)|exact H
 have Ny136:=k0_ hy136;clear hy136;have H':=k0_ H;clear H
 go_enter Try.func36, Try.ntmps36
 go_wp2_with (first|((with_reducible refine gate_dst (N:=1) rfl ?_);refine box_event ?hg (N:=1) ?hd (cs:=#[.int .i64 a0_0, .int .i64 a0_1, .slice A0_2 l0_2.length c0_2]) (t:=82) ?hr ?_;(case hd=>rfl);(case hg=>rfl);(case hr=>first|(go_simp;done)|(go_simp;rfl));intro gb135 hg w2 hbox hb;have n0_:=k0_ (below_step (by repeat (first|(with_reducible first|exact HB.out|apply below_alloc|apply pw_below_drewN|apply below_drew1)|exact HB.out)) hb);have n1_:=k0_ (hbox);have n2_:=k0_ ((by rw [hg];exact (below_size (by repeat (first|(with_reducible first|exact HB.out|apply below_alloc|apply pw_below_drewN|apply below_drew1)|exact HB.out))) : w.heap.size ≤ gb135));have n3_:=k0_ ((by rw [hg];exact (below_size (by repeat (first|(with_reducible first|exact HB.out|apply below_alloc|apply pw_below_drewN|apply below_drew1)|exact HB.out))) : w.heap.size ≤ gb135));clear HB;have HB:=n0_;have BK135:=n1_;have GW135:=n2_;have GE135:=n3_;clear n0_ n1_ n2_ n3_;clear hb hbox hg;have hcz3_0 : w2.cell? ⟨gb135, 0, none⟩ = some (.int .i64 a0_0):=(blk_cell BK135.out 0).trans rfl;have hcz3_1 : w2.cell? ⟨gb135, 1, none⟩ = some (.int .i64 a0_1):=(blk_cell BK135.out 1).trans rfl;have hcz3_2 : w2.cell? ⟨gb135, 2, none⟩ = some (.slice A0_2 l0_2.length c0_2):=(blk_cell BK135.out 2).trans rfl;have hfz3_0:=blk_frozen BK135.out 0;have hfz3_1:=blk_frozen BK135.out 1;have hfz3_2:=blk_frozen BK135.out 2)|((with_reducible refine gate_dst (N:=8) rfl ?_);refine Kd.R_lit (Kd.int .i64) _ 3 ?hg (N:=8) ?hd (xs:=([a0_1] : List Int)) (inner:=[.int .i64 a0_1]) (ok:=fun _=>True) (okp:=fun _=>True) ?hr ?hp (fun _ hk=>hk) trivial (Below.refl _ _) (Nat.le_refl _) (by simp) ?_;(case hd=>rfl);(case hg=>rfl);(case hr=>first|(go_simp;done)|(go_simp;rfl));(case hp=>exact (Reps.one (show Kd.M (Kd.int .i64) _ _ _ a0_1 [.int .i64 a0_1] from rfl) (Reps.none _ _)));intro v137 w4 ho5 hb hg_ hnew_;clear hg_ hnew_;(first|rw [← Ny136.out] at ho5|(simp only [Int.reduceToNat] at ho5;rw [← Ny136.out] at ho5));have n0_:=k0_ (Kd.R_lower ho5 (below_size (by repeat (first|(with_reducible first|exact HB.out|apply below_alloc|apply pw_below_drewN|apply below_drew1|refine below_set ?_ GE135.out)|exact HB.out))));have n1_:=k0_ (blk_below (g:=gb135) (o:=.cells #[.int .i64 a0_0, .int .i64 a0_1, .slice A0_2 l0_2.length c0_2] 82 (0, 0)) (by (with_reducible repeat (first|refine blk_drewN ?_ _|refine blk_drew ?_|refine blk_alloc ?_ _));exact BK135.out) hb);have n2_:=k0_ (below_step (by repeat (first|(with_reducible first|exact HB.out|apply below_alloc|apply pw_below_drewN|apply below_drew1|refine below_set ?_ GE135.out)|exact HB.out)) hb);clear BK135;clear HB;have HO138:=n0_;have BK135:=n1_;have HB:=n2_;clear n0_ n1_ n2_;clear hb ho5;have hcz6_0 : w4.cell? ⟨gb135, 0, none⟩ = some (.int .i64 a0_0):=(blk_cell BK135.out 0).trans rfl;have hcz6_1 : w4.cell? ⟨gb135, 1, none⟩ = some (.int .i64 a0_1):=(blk_cell BK135.out 1).trans rfl;have hcz6_2 : w4.cell? ⟨gb135, 2, none⟩ = some (.slice A0_2 l0_2.length c0_2):=(blk_cell BK135.out 2).trans rfl;have hfz6_0:=blk_frozen BK135.out 0;have hfz6_1:=blk_frozen BK135.out 1;have hfz6_2:=blk_frozen BK135.out 2))
 (try simp only [Act.put, q1_,q3_,q2_])
 go_loopg [3, 12] k (fun kq v3 v12 w'=>∃ (x3_1 : List Int) (x12_1 : Int), v12 = .int .i64 x12_1∧Aside0 (gridhallref3_Values.l0 kq x3_1 l0_2 (l0_2.length : Int) x12_1 = some r)∧Aside0 (kq ≤ k)∧Aside0 (Kd.R (Kd.int .i64) 3 w' w.heap.size (fun _=>True) v3 x3_1)∧Aside0 (w'.heap[gb135]? = some (.cells #[.int .i64 a0_0, .int .i64 a0_1, (.slice A0_2 l0_2.length c0_2)] 82 (0, 0)))∧Aside0 (Below w.heap.size w w'))
 case atStart=>exact ⟨(y136),(0),(by first|rfl|(simp;done)|(simp [*];done)), H', ⟨Nat.le_refl _⟩,⟨by (with_reducible repeat (first|apply Kd.R_alloc|apply Kd.R_drewN|apply Kd.R_drew));exact HO138.out⟩,⟨by (with_reducible repeat (first|refine blk_drewN ?_ _|refine blk_drew ?_|refine blk_alloc ?_ _));exact BK135.out⟩,⟨by repeat (first|(with_reducible first|exact HB.out|apply below_alloc|apply pw_below_drewN|apply below_drew1|refine below_set ?_ GE135.out)|exact HB.out)⟩⟩
 clear H';(try clear p2);(try clear c3);(try clear hcz3_0);(try clear hcz3_1);(try clear hcz3_2);(try clear hcz6_0);(try clear hcz6_1);(try clear hcz6_2);(try clear hfz3_0);(try clear hfz3_1);(try clear hfz3_2);(try clear hfz6_0);(try clear hfz6_1);(try clear hfz6_2);obtain ⟨x3_1, x12_1, rfl, HA, HK1, HO_3, BK135, HB⟩:=hrel;obtain _|k1:=gk
 ·exact absurd HA.out (by simp [gridhallref3_Values.l0])
 have H:=HA.out;clear HA;simp only [gridhallref3_Values.l0] at H
 by_cases c7 : x12_1 < (l0_2.length : Int)
 ·rw [if_pos c7] at H
  have c7b0 : decide (x12_1 < (l0_2.length : Int)) = true:=decide_eq_true c7;clear c7
  by_cases c8 : 0 ≤ x12_1
  rotate_left
  ·rw [if_neg c8] at H
   exact absurd H (by simp)
  rw [if_pos c8] at H;have c8b0 : decide (0 ≤ x12_1) = true:=decide_eq_true c8;clear c8
  by_cases c9 : x12_1 < (l0_2.length : Int)
  rotate_left
  ·rw [if_neg c9] at H
   exact absurd H (by simp)
  rw [if_pos c9] at H;have c9b0 : decide (x12_1 < (l0_2.length : Int)) = true:=decide_eq_true c9;clear c9;have H':=k0_ H;clear H;have p139 : 0 ≤ (x12_1 : Int):=of_decide_eq_true (by first|(with_reducible assumption)|assumption);have q139 : x12_1 < (l0_2.length : Int):=of_decide_eq_true (by first|(with_reducible assumption)|assumption);obtain ⟨ad139, e139, hx139_0, hx139_1⟩:=at_T88 HR0_2.out x12_1 p139 q139;cases e139;replace hx139_0:=(HB.out.cell (World.block_lt_of_cell? w _ hx139_0)).trans hx139_0;replace hx139_1:=(HB.out.cell (World.block_lt_of_cell? w _ hx139_1)).trans hx139_1;replace p139:=eq_true p139;replace q139:=eq_true q139
  go_wp2_with (first|((with_reducible refine gate_dst (N:=5) rfl ?_);refine box_event ?hg (N:=5) ?hd (cs:=#[.int .i64 0, .int .i64 0]) (t:=88) ?hr ?_;(case hd=>rfl);(case hg=>rfl);(case hr=>first|(go_simp;done)|(go_simp;rfl));intro gb140 hg w10 hbox hb;have n0_:=k0_ (Kd.R_below (by (with_reducible repeat (first|apply Kd.R_alloc|apply Kd.R_drewN|apply Kd.R_drew));exact HO_3.out) hb);have n1_:=k0_ (blk_below (g:=gb135) (o:=.cells #[.int .i64 a0_0, .int .i64 a0_1, .slice (some ad139) l0_2.length c0_2] 82 (0, 0)) (by (with_reducible repeat (first|refine blk_drewN ?_ _|refine blk_drew ?_|refine blk_alloc ?_ _));exact BK135.out) hb);have n2_:=k0_ (below_step (by repeat (first|(with_reducible first|exact HB.out|apply below_alloc|apply pw_below_drewN|apply below_drew1|refine below_set ?_ GE135.out)|exact HB.out)) hb);have n3_:=k0_ (hbox);have n4_:=k0_ ((by rw [hg];exact (below_size (by repeat (first|(with_reducible first|exact HB.out|apply below_alloc|apply pw_below_drewN|apply below_drew1|refine below_set ?_ GE135.out)|exact HB.out))) : w.heap.size ≤ gb140));have n5_:=k0_ ((by rw [hg];exact (below_size (by repeat (first|(with_reducible first|exact HB.out|apply below_alloc|apply pw_below_drewN|apply below_drew1|refine below_set ?_ GE135.out)|exact HB.out))) : w.heap.size ≤ gb140));have n6_:=k0_ ((by rw [hg];exact Nat.ne_of_lt (blk_lt (g:=gb135) (o:=.cells #[.int .i64 a0_0, .int .i64 a0_1, .slice (some ad139) l0_2.length c0_2] 82 (0, 0)) (by (with_reducible repeat (first|refine blk_drewN ?_ _|refine blk_drew ?_|refine blk_alloc ?_ _));exact BK135.out)) : gb135 ≠ gb140));have n7_:=k0_ ((by rw [hg];exact Nat.ne_of_gt (blk_lt (g:=gb135) (o:=.cells #[.int .i64 a0_0, .int .i64 a0_1, .slice (some ad139) l0_2.length c0_2] 82 (0, 0)) (by (with_reducible repeat (first|refine blk_drewN ?_ _|refine blk_drew ?_|refine blk_alloc ?_ _));exact BK135.out)) : gb140 ≠ gb135));clear HO_3;clear BK135;clear HB;have HO_3:=n0_;have BK135:=n1_;have HB:=n2_;have BK140:=n3_;have GW140:=n4_;have GE140:=n5_;have NB135_140:=n6_;have NB140_135:=n7_;clear n0_ n1_ n2_ n3_ n4_ n5_ n6_ n7_;clear hb hbox hg;have hnb11:=NB140_135.out;have hnc11:=NB135_140.out;have hcz12_0 : w10.cell? ⟨gb140, 0, none⟩ = some (.int .i64 0):=(blk_cell BK140.out 0).trans rfl;have hcz12_1 : w10.cell? ⟨gb140, 1, none⟩ = some (.int .i64 0):=(blk_cell BK140.out 1).trans rfl;have hfz12_0:=blk_frozen BK140.out 0;have hfz12_1:=blk_frozen BK140.out 1))
  (try simp only [Act.put, q1_,q3_,q2_])
  go_loopg [3, 18] k1 (fun kq v3 v18 w'=>∃ (x3_2 : List Int) (x18_2 : Int), v18 = .int .i64 x18_2∧Aside0 (gridhallref3_Values.l1 kq x3_2 l0_2 (l0_2.length : Int) x12_1 ((rd_T88 l0_2 x12_1).f0) x18_2 ((rd_T88 l0_2 x12_1).f0) ((rd_T88 l0_2 x12_1).f1) = some r)∧Aside0 (kq ≤ k1)∧Aside0 (Kd.R (Kd.int .i64) 3 w' w.heap.size (fun _=>True) v3 x3_2)∧Aside0 (w'.heap[gb135]? = some (.cells #[.int .i64 a0_0, .int .i64 a0_1, (.slice (some ad139) l0_2.length c0_2)] 82 (0, 0)))∧Aside0 (w'.heap[gb140]? = some (.cells #[.int .i64 ((rd_T88 l0_2 x12_1).f0), .int .i64 ((rd_T88 l0_2 x12_1).f1)] 88 (0, 0)))∧Aside0 (Below w.heap.size w w'))
  case atStart=>exact ⟨(x3_1),(0),(by first|rfl|(simp;done)|(simp [*];done)), H', ⟨Nat.le_refl _⟩,⟨by (with_reducible repeat (first|apply Kd.R_alloc|apply Kd.R_drewN|apply Kd.R_drew));exact Kd.R_mono (Kd.R_far (p:=⟨gb140, 1, none⟩) (Kd.R_far (p:=⟨gb140, 0, none⟩) (Kd.R_types HO_3.out BK140.out (by decide)) (fun _ hk=>hk.2) (.int .i64 ((rd_T88 l0_2 x12_1).f0))) (fun _ hk=>hk.2) (.int .i64 ((rd_T88 l0_2 x12_1).f1))) (fun _ hk=>trivial)⟩,⟨by (with_reducible repeat (first|refine blk_drewN ?_ _|refine blk_drew ?_|refine blk_alloc ?_ _));refine blk_far ?_ NB135_140.out _;(with_reducible repeat (first|refine blk_drewN ?_ _|refine blk_drew ?_|refine blk_alloc ?_ _));refine blk_far ?_ NB135_140.out _;(with_reducible repeat (first|refine blk_drewN ?_ _|refine blk_drew ?_|refine blk_alloc ?_ _));exact BK135.out⟩,⟨by (with_reducible repeat (first|refine blk_drewN ?_ _|refine blk_drew ?_|refine blk_alloc ?_ _));refine blk_put (cs:=#[.int .i64 ((rd_T88 l0_2 x12_1).f0), .int .i64 0]) ?_ 1 _ rfl;(with_reducible repeat (first|refine blk_drewN ?_ _|refine blk_drew ?_|refine blk_alloc ?_ _));refine blk_put (cs:=#[.int .i64 0, .int .i64 0]) ?_ 0 _ rfl;(with_reducible repeat (first|refine blk_drewN ?_ _|refine blk_drew ?_|refine blk_alloc ?_ _));exact BK140.out⟩,⟨by repeat (first|(with_reducible first|exact HB.out|apply below_alloc|apply pw_below_drewN|apply below_drew1|refine below_set ?_ GE135.out|refine below_set ?_ GE140.out)|exact HB.out)⟩⟩
  clear H';(try clear c1);(try clear p1);(try clear q1);(try clear hx1);(try clear p2);(try clear c3);(try clear c7);(try clear c7b0);(try clear c8);(try clear c8b0);(try clear c9);(try clear c9b0);(try clear c11);(try clear hcz12_0);(try clear hcz12_1);(try clear hcz3_0);(try clear hcz3_1);(try clear hcz3_2);(try clear hcz6_0);(try clear hcz6_1);(try clear hcz6_2);(try clear hfz12_0);(try clear hfz12_1);(try clear hfz3_0);(try clear hfz3_1);(try clear hfz3_2);(try clear hfz6_0);(try clear hfz6_1);(try clear hfz6_2);(try clear hx139_0);(try clear hx139_1);(try clear p139);(try clear p2);(try clear q139);obtain ⟨x3_2, x18_2, rfl, HA, HK2, HO_3, BK135, BK140, HB⟩:=hrel;obtain _|k2:=gk
  ·exact absurd HA.out (by simp [gridhallref3_Values.l1])
  have H:=HA.out;clear HA;simp only [gridhallref3_Values.l1] at H
  by_cases c13 : x18_2 < ((rd_T88 l0_2 x12_1).f0)
  ·rw [if_pos c13] at H
   have c13b0 : decide (x18_2 < ((rd_T88 l0_2 x12_1).f0)) = true:=decide_eq_true c13;clear c13;obtain ⟨ji14, hji14⟩ : ∃ j_ : Int, (wrap64 ((x3_2.length : Int) - 1)) = j_:=⟨_, rfl⟩;replace H : (if 0 ≤ (ji14) then (if (ji14) < (x3_2.length : Int) then (if x3_2.length < 17592186044416 then (gridhallref3_Values.l1 k2 (x3_2 ++ [wrap64 ((rd x3_2 (ji14)) + ((rd_T88 l0_2 x12_1).f1))]) l0_2 (l0_2.length : Int) x12_1 ((rd_T88 l0_2 x12_1).f0) (wrap64 (x18_2 + 1)) ((rd_T88 l0_2 x12_1).f0) ((rd_T88 l0_2 x12_1).f1)) else (none)) else (none)) else (none)) = some r:=by first|(rw [hji14] at H;exact H)|(simp only [hji14] at H ⊢;exact H)
   have hji14w : (IntKind.i64.wrap ((x3_2.length : Int) - 1)) = ji14:=(i64_w _).trans hji14
   by_cases c15 : 0 ≤ (ji14)
   rotate_left
   ·rw [if_neg c15] at H
    exact absurd H (by simp)
   rw [if_pos c15] at H;have c15b0 : decide (0 ≤ (ji14)) = true:=decide_eq_true c15;clear c15
   by_cases c16 : (ji14) < (x3_2.length : Int)
   rotate_left
   ·rw [if_neg c16] at H
    exact absurd H (by simp)
   rw [if_pos c16] at H;have c16b0 : decide ((ji14) < (x3_2.length : Int)) = true:=decide_eq_true c16;clear c16
   by_cases c17 : x3_2.length < 17592186044416
   rotate_left
   ·rw [if_neg c17] at H
    exact absurd H (by simp)
   rw [if_pos c17] at H;have LMc17:=k0_ c17;clear c17;obtain ⟨y142, hy142⟩ : ∃ y_ : List Int, y_ = (x3_2 ++ [wrap64 ((rd x3_2 (ji14)) + ((rd_T88 l0_2 x12_1).f1))]):=⟨_, rfl⟩;replace H : (gridhallref3_Values.l1 k2 y142 l0_2 (l0_2.length : Int) x12_1 ((rd_T88 l0_2 x12_1).f0) (wrap64 (x18_2 + 1)) ((rd_T88 l0_2 x12_1).f0) ((rd_T88 l0_2 x12_1).f1)) = some r:=by first|(rw [hy142];with_reducible exact H)|(have H2_:=(Option.bind_some _ _).symm.trans H;rw [hy142];with_reducible exact H2_)|(have H2_:=(Option.bind_some _ _).symm.trans H;with_reducible exact H2_)|with_reducible exact H|(rw [hy142];exact H)|exact H
   have Ny142:=k0_ hy142;clear hy142;have H':=k0_ H;clear H
   try go_wp2
   have n0_:=k0_ (Kd.R_drew HO_3.out);have n1_:=k0_ (blk_drew BK135.out);have n2_:=k0_ (blk_drew BK140.out);have n3_:=k0_ (below_drew1 HB.out);clear HO_3;clear BK135;clear BK140;clear HB;have HO_3:=n0_;have BK135:=n1_;have BK140:=n2_;have HB:=n3_;clear n0_ n1_ n2_ n3_;obtain ⟨Ao19, co19, eo19⟩:=Kd.R_slice HO_3.out;(first|subst eo19|(injection eo19 with f1_ f2_ f3_;have f4_:=f1_.symm;have f5_:=f3_.symm;clear f1_ f2_ f3_;subst f4_;subst f5_));have p141 : 0 ≤ ((ji14) : Int):=of_decide_eq_true (by first|(with_reducible assumption)|assumption);have q141 : (ji14) < (x3_2.length : Int):=of_decide_eq_true (by first|(with_reducible assumption)|assumption);obtain ⟨ad141, e141, hx141_0⟩:=Kd.at_int (Kd.R_reads' HO_3.out).2.2 (ji14) p141 q141;cases e141;replace p141:=eq_true p141;replace q141:=eq_true q141;refine start_ (n:=13) (S:=fun w'=>w'.cell? ⟨gb140, 0, none⟩ = some (.int .i64 ((rd_T88 l0_2 x12_1).f0))∧w'.cell? ⟨gb140, 1, none⟩ = some (.int .i64 ((rd_T88 l0_2 x12_1).f1))∧w'.cell? (ad141.add ((ji14)).toNat) = some (.int .i64 (rd x3_2 (ji14)))) (ds:=[10, 11]) #[false, false, false, false, false, false, false, false, false, false, false, false, false] (by kernel_rfl) rfl rfl ⟨(blk_cell BK140.out 0).trans rfl, (blk_cell BK140.out 1).trans rfl, hx141_0⟩ (fun hHeld=>?_);refine with_tabW gridhallref3_Values.tab7 gridhallref3_Values.bits7 (fun HT_ HW_=>?_);generalize wr.drew = w18 at HO_3 BK135 BK140 HB hx141_0 hHeld ⊢;refine pure_ (i:=0) (N:=some 20) (v:=?_) (a':=?_) #[true, false, false, false, false, false, false, false, false, false, false, false, false] rfl rfl (any_of HT_.out (by kernel_rfl)) (fun _ _ _ h=>h) (Or.inl ⟨by rfl, ?_⟩) ?_ ?_;rotate_left;(intro w';go_simp;with_reducible rfl);rotate_left;(simp only [Act.put, q1_,q2_,q3_,i64_w,i32_w];rfl);refine pure_ (i:=1) (N:=some 21) (v:=?_) (a':=?_) #[true, true, false, false, false, false, false, false, false, false, false, false, false] rfl rfl (any_of HT_.out (by kernel_rfl)) (fun _ _ _ h=>h) (Or.inl ⟨by rfl, ?_⟩) ?_ ?_;rotate_left;(intro w';go_simp;with_reducible rfl);rotate_left;(simp only [Act.put, q1_,q2_,q3_,i64_w,i32_w];rfl);refine pure_ (i:=2) (N:=some 22) (v:=?_) (a':=?_) #[true, true, true, false, false, false, false, false, false, false, false, false, false] rfl rfl (any_of HT_.out (by kernel_rfl)) (fun _ _ _ h=>h) (Or.inl ⟨by rfl, ?_⟩) ?_ ?_;rotate_left;(intro w';go_simp;with_reducible rfl);rotate_left;(simp only [Act.put, q1_,q2_,q3_,i64_w,i32_w];rfl);refine pure_ (i:=3) (N:=some 23) (v:=?_) (a':=?_) #[true, true, true, true, false, false, false, false, false, false, false, false, false] rfl rfl (any_of HT_.out (by kernel_rfl)) (fun _ _ _ h=>h) (Or.inl ⟨by rfl, ?_⟩) ?_ ?_;rotate_left;(intro w';go_simp;with_reducible rfl);rotate_left;(simp only [Act.put, q1_,q2_,q3_,i64_w,i32_w];rfl);refine pure_ (i:=4) (N:=some 24) (v:=?_) (a':=?_) #[true, true, true, true, true, false, false, false, false, false, false, false, false] rfl rfl (any_of HT_.out (by kernel_rfl)) (fun _ _ _ h=>h) (Or.inl ⟨by rfl, ?_⟩) ?_ ?_;rotate_left;(intro w';go_simp;with_reducible rfl);rotate_left;(simp only [Act.put, q1_,q2_,q3_,i64_w,i32_w];rfl);refine pure_ (i:=5) (N:=some 25) (v:=?_) (a':=?_) #[true, true, true, true, true, true, false, false, false, false, false, false, false] rfl rfl (any_of HT_.out (by kernel_rfl)) (fun _ _ _ h=>h) (Or.inl ⟨by rfl, ?_⟩) ?_ ?_;rotate_left;(intro w';go_simp;with_reducible rfl);rotate_left;(simp only [Act.put, q1_,q2_,q3_,i64_w,i32_w];rfl);refine pure_ (i:=7) (N:=some 27) (v:=?_) (a':=?_) #[true, true, true, true, true, true, false, true, false, false, false, false, false] rfl rfl (any_of HT_.out (by kernel_rfl)) (fun _ _ _ h=>h) (Or.inl ⟨by rfl, ?_⟩) ?_ ?_;rotate_left;(intro w';go_simp;with_reducible rfl);rotate_left;(simp only [Act.put, q1_,q2_,q3_,i64_w,i32_w];rfl);refine take_ (i:=6) (N:=some 26) (v:=?_) (a':=?_) #[true, true, true, true, true, true, true, true, false, false, false, false, false] rfl rfl (take_ofW HT_.out HW_.out (by kernel_rfl)) (fun _ _ _ h=>h) (Or.inl ⟨by rfl, ?_⟩) hHeld ?_ ?_;rotate_left
   (rintro w' ⟨s0, s1, s2⟩;go_simp;with_reducible rfl)
   rotate_left;(simp only [Act.put, q1_,q2_,q3_,i64_w,i32_w];rfl);refine take_ (i:=8) (N:=some 28) (v:=?_) (a':=?_) #[true, true, true, true, true, true, true, true, true, false, false, false, false] rfl rfl (take_ofW HT_.out HW_.out (by kernel_rfl)) (fun _ _ _ h=>h) (Or.inl ⟨by rfl, ?_⟩) hHeld ?_ ?_;rotate_left
   (rintro w' ⟨s0, s1, s2⟩;go_simp;with_reducible rfl)
   rotate_left;(simp only [Act.put, q1_,q2_,q3_,i64_w,i32_w];rfl);refine pure_ (i:=9) (N:=some 29) (v:=?_) (a':=?_) #[true, true, true, true, true, true, true, true, true, true, false, false, false] rfl rfl (any_of HT_.out (by kernel_rfl)) (fun _ _ _ h=>h) (Or.inl ⟨by rfl, ?_⟩) ?_ ?_;rotate_left;(intro w';go_simp;with_reducible rfl);rotate_left;(simp only [Act.put, q1_,q2_,q3_,i64_w,i32_w];rfl);refine last_ (i:=10) (N:=some 30) #[true, true, true, true, true, true, true, true, true, true, true, false, false] rfl rfl (one_of HT_.out (by kernel_rfl)) (by decide) (fun K hK=>?_);refine value_ (w1:=?_) (v:=?_) (by rfl) rfl ?_ ?_;rotate_left 2
   ·go_simp
    constructor
    ·rfl
    ·rfl
   refine hK.out _ _ ?_;clear hK K;refine norm_ (a':=?_) ?_ ?_;rotate_left
   ·show Act.put _ (some 30) _ = _
    simp only [Act.put, q1_,q2_,q3_,i64_w,i32_w];rfl
   refine last_ (i:=11) (N:=some 31) #[true, true, true, true, true, true, true, true, true, true, true, true, false] rfl rfl (one_of HT_.out (by kernel_rfl)) (by decide) (fun K hK=>?_);refine Kd.R_append_step (Kd.int .i64) (w0:=w) w.heap.size (by rfl) (.tmp 20) (.tmp 30) 31 3 (.int .i64 0) 8 rfl Try.underlying31 info3 rfl (by decide) (by omega) (.slice (some ad141) x3_2.length co19) x3_2 (wrap64 ((rd x3_2 (ji14)) + ((rd_T88 l0_2 x12_1).f1))) [.int .i64 (wrap64 ((rd x3_2 (ji14)) + ((rd_T88 l0_2 x12_1).f1)))] (fun _=>True) (fun _=>False) rfl rfl ?aP (fun _ hk=>hk.elim) ?aF ?aO ?aB ?aS ?aL ?_
   (case aP=>exact rfl)
   (case aB=>exact HB.out)
   (case aF=>exact (fun _ _=>trivial))
   (case aO=>exact HO_3.out)
   (case aS=>exact (below_size HB.out))
   (case aL=>have:=LMc17.out;omega)
   intro v143 w20 ho hb hg hat;rw [← Ny142.out] at ho;have n0_:=k0_ (blk_grown BK135.out hg (Kd.R_ne HO_3.out BK135.out (by decide)));have n1_:=k0_ (blk_grown BK140.out hg (Kd.R_ne HO_3.out BK140.out (by decide)));have n2_:=k0_ (hb);have n3_:=k0_ (ho);clear BK135;clear BK140;clear HB;clear HO_3;have BK135:=n0_;have BK140:=n1_;have HB:=n2_;have HO144:=n3_;clear n0_ n1_ n2_ n3_;clear ho hb hg hat;refine hK.out _ _ ?_;clear hK K;refine norm_ (a':=?_) ?_ ?_;rotate_left
   ·show Act.put _ (some 31) _ = _
    simp only [Act.put, q1_,q2_,q3_,i64_w,i32_w];rfl
   refine pure_ (i:=12) (N:=some 3) (v:=?_) (a':=?_) #[true, true, true, true, true, true, true, true, true, true, true, true, true] rfl rfl (any_of HT_.out (by kernel_rfl)) (fun _ _ _ h=>h) (Or.inl ⟨by rfl, ?_⟩) ?_ ?_;rotate_left;(intro w';go_simp;with_reducible rfl);rotate_left;(simp only [Act.put, q1_,q2_,q3_,i64_w,i32_w];rfl);refine done_ (done_of HT_.out (by kernel_rfl)) ?_
   try go_wp2
   go_roundg k2
   case measure=>have:=HK1.out;have:=HK2.out;omega
   case rel=>exact ⟨(y142),(wrap64 (x18_2 + 1)),(by first|rfl|(simp;done)|(simp [*];done)), H', ⟨by have:=HK1.out;have:=HK2.out;omega⟩,HO144,BK135,BK140,HB⟩
  ·rw [if_neg c13] at H
   have c13b0 : decide (x18_2 < ((rd_T88 l0_2 x12_1).f0)) = false:=decide_eq_false c13;clear c13;have H':=k0_ H;clear H;go_wp2
   go_roundg k2
   case measure=>have:=HK1.out;have:=HK2.out;omega
   case rel=>exact ⟨(x3_2),(wrap64 (x12_1 + 1)),(by first|rfl|(simp;done)|(simp [*];done)), H', ⟨by have:=HK1.out;have:=HK2.out;omega⟩,HO_3,BK135,HB⟩
 ·rw [if_neg c7] at H
  have c7b0 : decide (x12_1 < (l0_2.length : Int)) = false:=decide_eq_false c7;clear c7;obtain rfl:=Option.some.inj H;go_wp2
  go_ret
  exact ⟨_, by first|rfl|(simp [errW_none, errW_some] <;> rfl)|(simp [*, errW_none, errW_some] <;> rfl), HO_3.out, HB.out⟩

/-! ### gridhallref3_SameInts: function 11 -/
def gridhallref3_SameInts.l0 : Nat → List Int → List Int → Int → Int → Option (Bool)
 | 0, _, _, _, _ => none
 | k + 1, x0, x1, x12, x13 => if x13 < x12 then (if 0 ≤ x13 then (if x13 < (x0.length : Int) then (if x13 < (x1.length : Int) then (if (rd x0 x13) = (rd x1 x13) then (gridhallref3_SameInts.l0 k x0 x1 x12 (wrap64 (x13 + 1))) else (some false)) else (none)) else (none)) else (none)) else (some true)
def gridhallref3_SameInts.f (k : Nat) (l0 : List Int) (l1 : List Int) : Option (Bool) := if (l0.length : Int) = (l1.length : Int) then (gridhallref3_SameInts.l0 k l0 l1 (l0.length : Int) 0) else (some false)
theorem gridhallref3_SameInts.mono_l : ∀ k, (∀ y0 y1 y2 y3, LeO (gridhallref3_SameInts.l0 k y0 y1 y2 y3) (gridhallref3_SameInts.l0 (k + 1) y0 y1 y2 y3))
 | 0 => fun _ _ _ _ r h => by simp [gridhallref3_SameInts.l0] at h
 | k + 1 => by
  have ih0:=gridhallref3_SameInts.mono_l k
  ·intro y0 y1 y2 y3
   unfold gridhallref3_SameInts.l0
   repeat' first
   | (with_reducible exact ih0 _ _ _ _)
   | (with_reducible exact LeO.refl _)
   | (with_reducible exact LeO.none _)
   | (with_reducible refine LeO.ite ?_ ?_)
   | (with_reducible refine LeO.bind ?_ (fun _ => ?_))
   | exact ih0 _ _ _ _
   | exact LeO.none _
   | refine LeO.ite ?_ ?_
   | refine LeO.bind ?_ (fun _ => ?_)
theorem gridhallref3_SameInts.mono : ∀ a0 a1 k, LeO (gridhallref3_SameInts.f k a0 a1) (gridhallref3_SameInts.f (k + 1) a0 a1) := by
 intro a0 a1 k
 have ih0:=gridhallref3_SameInts.mono_l k
 unfold gridhallref3_SameInts.f
 repeat' first
   | (with_reducible exact ih0 _ _ _ _)
   | (with_reducible exact LeO.refl _)
   | (with_reducible exact LeO.none _)
   | (with_reducible refine LeO.ite ?_ ?_)
   | (with_reducible refine LeO.bind ?_ (fun _ => ?_))
   | exact ih0 _ _ _ _
   | exact LeO.none _
   | refine LeO.ite ?_ ?_
   | refine LeO.bind ?_ (fun _ => ?_)
set_option maxHeartbeats 8000000 in
set_option maxRecDepth 100000 in
theorem gridhallref3_SameInts.calls (k : Nat) (A0 : Option Addr) (c0 : Nat) (l0 : List Int) (A1 : Option Addr) (c1 : Nat) (l1 : List Int) (r : Bool) (w : World) (hr0 : Kd.C (Kd.int .i64) w A0 l0.length l0) (hc0 : l0.length ≤ c0) (hr1 : Kd.C (Kd.int .i64) w A1 l1.length l1) (hc1 : l1.length ≤ c1) (h : gridhallref3_SameInts.f k l0 l1 = some r) :
  Calls Try.prog 11 #[.slice A0 l0.length c0, .slice A1 l1.length c1] w fun e w' => e = .returned (.bool r) ∧ Drawn0 w w' := by
 have HR0:=k0_ hr0;have HC0:=k0_ hc0;clear hr0 hc0;have HR1:=k0_ hr1;have HC1:=k0_ hc1;clear hr1 hc1;have H : (if (l0.length : Int) = (l1.length : Int) then (gridhallref3_SameInts.l0 k l0 l1 (l0.length : Int) 0) else (some false)) = some r:=h;clear h
 by_cases c3 : (l0.length : Int) = (l1.length : Int)
 ·rw [if_pos c3] at H
  have c3b0 : ((l0.length : Int) == (l1.length : Int)) = true:=beq_iff_eq.mpr c3;have c3b1 : ((l0.length : Int) != (l1.length : Int)) = false:=bne_eq_false_iff_eq.mpr c3;have c3b2 : (l0.length == l1.length) = true:=by first|simpa using c3|(simp at c3 ⊢;omega)
  clear c3;have H':=k0_ H;clear H
  go_enter Try.func11, Try.ntmps11
  go_wp2
  repeat (go_quiet (fail);try go_wp2)
  (try simp only [Act.put, q1_,q3_,q2_])
  go_loopg [13] k (fun kq v13 w'=>∃ (x13_1 : Int), v13 = .int .i64 x13_1∧Aside0 (gridhallref3_SameInts.l0 kq l0 l1 (l0.length : Int) x13_1 = some r)∧Aside0 (kq ≤ k)∧Drawn0 w w')
  case atStart=>exact ⟨(0),(by first|rfl|(simp;done)|(simp [*];done)), H', ⟨Nat.le_refl _⟩, by repeat (first|exact Drawn0.refl _|apply Drawn0.step)⟩
  clear H';(try clear c1);(try clear p2);(try clear c3);(try clear c3b0);(try clear c3b1);(try clear c3b2);obtain ⟨x13_1, rfl, HA, HK1, ⟨m1, rfl⟩⟩:=hrel;obtain _|k1:=gk
  ·exact absurd HA.out (by simp [gridhallref3_SameInts.l0])
  have H:=HA.out;clear HA;simp only [gridhallref3_SameInts.l0] at H
  by_cases c4 : x13_1 < (l0.length : Int)
  ·rw [if_pos c4] at H
   have c4b0 : decide (x13_1 < (l0.length : Int)) = true:=decide_eq_true c4;clear c4
   by_cases c5 : 0 ≤ x13_1
   rw [if_pos c5] at H;have c5b0 : decide (0 ≤ x13_1) = true:=decide_eq_true c5;clear c5
   focus
    by_cases c6 : x13_1 < (l0.length : Int)
    rw [if_pos c6] at H;have c6b0 : decide (x13_1 < (l0.length : Int)) = true:=decide_eq_true c6;clear c6
    focus
     by_cases c7 : x13_1 < (l1.length : Int)
     rw [if_pos c7] at H;have c7b0 : decide (x13_1 < (l1.length : Int)) = true:=decide_eq_true c7;clear c7
     focus
      by_cases c8 : (rd l0 x13_1) = (rd l1 x13_1)
      rw [if_pos c8] at H;have c8b0 : ((rd l0 x13_1) == (rd l1 x13_1)) = true:=beq_iff_eq.mpr c8;have c8b1 : ((rd l0 x13_1) != (rd l1 x13_1)) = false:=bne_eq_false_iff_eq.mpr c8;clear c8;have H':=k0_ H;clear H;rotate_left;rw [if_neg c8] at H;have c8b0 : ((rd l0 x13_1) == (rd l1 x13_1)) = false:=beq_eq_false_iff_ne.mpr c8;have c8b1 : ((rd l0 x13_1) != (rd l1 x13_1)) = true:=bne_iff_ne.mpr c8;obtain rfl:=Option.some.inj H;rotate_left
     rotate_left 2;rw [if_neg c7] at H
     exact absurd H (by simp)
    rotate_left 2;rw [if_neg c6] at H
    exact absurd H (by simp)
   rotate_left 2;rw [if_neg c5] at H
   exact absurd H (by simp)
   all_goals
    have p145 : 0 ≤ (x13_1 : Int):=of_decide_eq_true (by first|(with_reducible assumption)|assumption);have q145 : x13_1 < (l0.length : Int):=of_decide_eq_true (by first|(with_reducible assumption)|assumption);obtain ⟨ad145, e145, hx145_0⟩:=Kd.at_int HR0.out x13_1 p145 q145;cases e145;replace p145:=eq_true p145;replace q145:=eq_true q145;have p146 : 0 ≤ (x13_1 : Int):=of_decide_eq_true (by first|(with_reducible assumption)|assumption);have q146 : x13_1 < (l1.length : Int):=of_decide_eq_true (by first|(with_reducible assumption)|assumption);obtain ⟨ad146, e146, hx146_0⟩:=Kd.at_int HR1.out x13_1 p146 q146;cases e146;replace p146:=eq_true p146;replace q146:=eq_true q146;go_wp2
    repeat (go_quiet (fail);try go_wp2)
   ·go_roundg k1
    case measure=>have:=HK1.out;omega
    case rel=>exact ⟨(wrap64 (x13_1 + 1)),(by first|rfl|(simp;done)|(simp [*];done)), H', ⟨by have:=HK1.out;omega⟩, by repeat (first|exact Drawn0.refl _|apply Drawn0.step)⟩
   ·go_ret
    exact ⟨by first|rfl|(simp;done)|(simp [*];done), by repeat (first|exact Drawn0.refl _|apply Drawn0.step)⟩
  ·rw [if_neg c4] at H
   have c4b0 : decide (x13_1 < (l0.length : Int)) = false:=decide_eq_false c4;clear c4;obtain rfl:=Option.some.inj H;go_wp2
   repeat (go_quiet (fail);try go_wp2)
   go_ret
   exact ⟨by first|rfl|(simp;done)|(simp [*];done), by repeat (first|exact Drawn0.refl _|apply Drawn0.step)⟩
 ·rw [if_neg c3] at H
  have c3b0 : ((l0.length : Int) == (l1.length : Int)) = false:=beq_eq_false_iff_ne.mpr c3;have c3b1 : ((l0.length : Int) != (l1.length : Int)) = true:=bne_iff_ne.mpr c3;have c3b2 : (l0.length == l1.length) = false:=by first|simpa using c3|(simp at c3 ⊢;omega)
  obtain rfl:=Option.some.inj H
  go_enter Try.func11, Try.ntmps11
  go_wp2
  repeat (go_quiet (fail);try go_wp2)
  go_ret
  exact ⟨by first|rfl|(simp;done)|(simp [*];done), by repeat (first|exact Drawn0.refl _|apply Drawn0.step)⟩

/-! ### gridhalllaw3_sameValues: function 37 -/
def gridhalllaw3_sameValues.f (k : Nat) (a0_0 : Int) (a0_1 : Int) (l0_2 : List (S88)) (a1 : Int) (l2 : List Int) : Option (Bool) := (gridhallref3_ConvexError.f k a0_0 a0_1 l0_2).bind fun t148 => (if t148 = 0 then (if a0_0 = a1 then ((gridhallref3_Values.f k a0_0 a0_1 l0_2).bind fun t149 => ((gridhallref3_SameInts.f k t149 l2).bind fun t152 => (some t152))) else (some false)) else (some false))
theorem gridhalllaw3_sameValues.mono : ∀ a0 a1 a2 a3 a4 k, LeO (gridhalllaw3_sameValues.f k a0 a1 a2 a3 a4) (gridhalllaw3_sameValues.f (k + 1) a0 a1 a2 a3 a4) := by
 intro a0 a1 a2 a3 a4 k
 unfold gridhalllaw3_sameValues.f
 repeat' first
   | (with_reducible exact gridhallref3_ConvexError.mono _ _ _ _)
   | (with_reducible exact gridhallref3_SameInts.mono _ _ _)
   | (with_reducible exact gridhallref3_Values.mono _ _ _ _)
   | (with_reducible exact LeO.refl _)
   | (with_reducible exact LeO.none _)
   | (with_reducible refine LeO.ite ?_ ?_)
   | (with_reducible refine LeO.bind ?_ (fun _ => ?_))
   | exact gridhallref3_ConvexError.mono _ _ _ _
   | exact gridhallref3_SameInts.mono _ _ _
   | exact gridhallref3_Values.mono _ _ _ _
   | exact LeO.none _
   | refine LeO.ite ?_ ?_
   | refine LeO.bind ?_ (fun _ => ?_)
set_option maxHeartbeats 8000000 in
set_option maxRecDepth 100000 in
theorem gridhalllaw3_sameValues.calls (k : Nat) (a0_0 : Int) (a0_1 : Int) (A0_2 : Option Addr) (c0_2 : Nat) (l0_2 : List (S88)) (a1 : Int) (A2 : Option Addr) (c2 : Nat) (l2 : List Int) (r : Bool) (w : World) (hr0_2 : Kd.C k88 w A0_2 l0_2.length l0_2) (hc0_2 : l0_2.length ≤ c0_2) (hr2 : Kd.C (Kd.int .i64) w A2 l2.length l2) (hc2 : l2.length ≤ c2) (h : gridhalllaw3_sameValues.f k a0_0 a0_1 l0_2 a1 l2 = some r) :
  Calls Try.prog 37 #[.agg #[.int .i64 a0_0, .int .i64 a0_1, .slice A0_2 l0_2.length c0_2], .int .i64 a1, .slice A2 l2.length c2] w fun e w' => e = .returned (.bool r) ∧ Below w.heap.size w w' := by
 have hu82:=Try.underlying82;have HR0_2:=k0_ hr0_2;have HC0_2:=k0_ hc0_2;clear hr0_2 hc0_2;have HR2:=k0_ hr2;have HC2:=k0_ hc2;clear hr2 hc2;have HB:=k0_ (Below.refl w.heap.size w);have H : ((gridhallref3_ConvexError.f k a0_0 a0_1 l0_2).bind fun t148=>(if t148 = 0 then (if a0_0 = a1 then ((gridhallref3_Values.f k a0_0 a0_1 l0_2).bind fun t149=>((gridhallref3_SameInts.f k t149 l2).bind fun t152=>(some t152))) else (some false)) else (some false))) = some r:=h;clear h;replace H:=Option.bind_eq_some_iff.mp H;obtain ⟨t148, A40, H⟩:=H;replace H : (if t148 = 0 then (if a0_0 = a1 then ((gridhallref3_Values.f k a0_0 a0_1 l0_2).bind fun t149=>((gridhallref3_SameInts.f k t149 l2).bind fun t152=>(some t152))) else (some false)) else (some false)) = some r:=H;have A4:=k0_ A40;clear A40
 by_cases c5 : t148 = 0
 ·rw [if_pos c5] at H
  have c5b0 : (t148 == 0) = true:=beq_iff_eq.mpr c5;have c5b1 : (t148 != 0) = false:=bne_eq_false_iff_eq.mpr c5;clear c5
  by_cases c6 : a0_0 = a1
  ·rw [if_pos c6] at H
   have c6b0 : (a0_0 == a1) = true:=beq_iff_eq.mpr c6;have c6b1 : (a0_0 != a1) = false:=bne_eq_false_iff_eq.mpr c6;clear c6;replace H:=Option.bind_eq_some_iff.mp H;obtain ⟨t149, A70, H⟩:=H;replace H : ((gridhallref3_SameInts.f k t149 l2).bind fun t152=>(some t152)) = some r:=H;have A7:=k0_ A70;clear A70;replace H:=Option.bind_eq_some_iff.mp H;obtain ⟨t152, A80, H⟩:=H;replace H : (some t152) = some r:=H;have A8:=k0_ A80;clear A80;obtain rfl:=Option.some.inj H
   go_enter Try.func37, Try.ntmps37
   go_wp2_with (first|((with_reducible refine gate_dst (N:=3) rfl ?_);refine box_event ?hg (N:=3) ?hd (cs:=#[.int .i64 a0_0, .int .i64 a0_1, .slice A0_2 l0_2.length c0_2]) (t:=82) ?hr ?_;(case hd=>rfl);(case hg=>rfl);(case hr=>first|(go_simp;done)|(go_simp;rfl));intro gb147 hg w9 hbox hb;have n0_:=k0_ (below_step (by repeat (first|(with_reducible first|exact HB.out|apply below_alloc|apply pw_below_drewN|apply below_drew1)|exact HB.out)) hb);have n1_:=k0_ (hbox);have n2_:=k0_ ((by rw [hg];exact (below_size (by repeat (first|(with_reducible first|exact HB.out|apply below_alloc|apply pw_below_drewN|apply below_drew1)|exact HB.out))) : w.heap.size ≤ gb147));have n3_:=k0_ ((by rw [hg];exact (below_size (by repeat (first|(with_reducible first|exact HB.out|apply below_alloc|apply pw_below_drewN|apply below_drew1)|exact HB.out))) : w.heap.size ≤ gb147));clear HB;have HB:=n0_;have BK147:=n1_;have GW147:=n2_;have GE147:=n3_;clear n0_ n1_ n2_ n3_;clear hb hbox hg;have hcz10_0 : w9.cell? ⟨gb147, 0, none⟩ = some (.int .i64 a0_0):=(blk_cell BK147.out 0).trans rfl;have hcz10_1 : w9.cell? ⟨gb147, 1, none⟩ = some (.int .i64 a0_1):=(blk_cell BK147.out 1).trans rfl;have hcz10_2 : w9.cell? ⟨gb147, 2, none⟩ = some (.slice A0_2 l0_2.length c0_2):=(blk_cell BK147.out 2).trans rfl;have hfz10_0:=blk_frozen BK147.out 0;have hfz10_1:=blk_frozen BK147.out 1;have hfz10_2:=blk_frozen BK147.out 2)|((with_reducible refine gate_callee (f:=35) rfl ?_);refine goesL_ (some 8) rfl rfl Try.func35 (by kernel_rfl) rfl #[.agg #[.int .i64 a0_0, .int .i64 a0_1, .slice A0_2 l0_2.length c0_2]] rfl (by (try simp only [List.map_toArray, List.map_cons, List.map_nil]);first|done|rfl|(simp only [List.length_drop, List.length_take];rfl)) ?_;(with_reducible refine (gridhallref3_ConvexError.calls k a0_0 a0_1 _ _ l0_2 t148 _ ?side1 ?side2 A4.out).mono ?_);(case side1=>repeat (first|exact (Kd.C_below HR0_2.out HB.out)|(with_reducible refine Kd.C_alloc ?_ _)|(with_reducible refine Kd.C_drewN ?_ _)|(with_reducible refine Kd.C_drew ?_)));(case side2=>exact HC0_2.out);rintro e w11 ⟨rfl, hb⟩;refine ⟨_, rfl, ?_⟩;have n0_:=k0_ (blk_below (g:=gb147) (o:=.cells #[.int .i64 a0_0, .int .i64 a0_1, .slice A0_2 l0_2.length c0_2] 82 (0, 0)) (by (with_reducible repeat (first|refine blk_drewN ?_ _|refine blk_drew ?_|refine blk_alloc ?_ _));exact BK147.out) hb);have n1_:=k0_ (below_step (by repeat (first|(with_reducible first|exact HB.out|apply below_alloc|apply pw_below_drewN|apply below_drew1|refine below_set ?_ GE147.out)|exact HB.out)) hb);clear BK147;clear HB;have BK147:=n0_;have HB:=n1_;clear n0_ n1_;(try clear hb);(try clear hb2);(try clear hk);(try clear hi);have hcz12_0 : w11.cell? ⟨gb147, 0, none⟩ = some (.int .i64 a0_0):=(blk_cell BK147.out 0).trans rfl;have hcz12_1 : w11.cell? ⟨gb147, 1, none⟩ = some (.int .i64 a0_1):=(blk_cell BK147.out 1).trans rfl;have hcz12_2 : w11.cell? ⟨gb147, 2, none⟩ = some (.slice A0_2 l0_2.length c0_2):=(blk_cell BK147.out 2).trans rfl;have hfz12_0:=blk_frozen BK147.out 0;have hfz12_1:=blk_frozen BK147.out 1;have hfz12_2:=blk_frozen BK147.out 2)|(go_at_call 36;(with_reducible refine (gridhallref3_Values.calls k a0_0 a0_1 _ _ l0_2 t149 _ ?side1 ?side2 A7.out).mono ?_);(case side1=>repeat (first|exact (Kd.C_below HR0_2.out HB.out)|(with_reducible refine Kd.C_alloc ?_ _)|(with_reducible refine Kd.C_drewN ?_ _)|(with_reducible refine Kd.C_drew ?_)));(case side2=>exact HC0_2.out);rintro e w13 ⟨v150, rfl, ho0, hb⟩;have n0_:=k0_ (Kd.R_lower ho0 (below_size (by repeat (first|(with_reducible first|exact HB.out|apply below_alloc|apply pw_below_drewN|apply below_drew1|refine below_set ?_ GE147.out)|exact HB.out))));have n1_:=k0_ (blk_below (g:=gb147) (o:=.cells #[.int .i64 a0_0, .int .i64 a0_1, .slice A0_2 l0_2.length c0_2] 82 (0, 0)) (by (with_reducible repeat (first|refine blk_drewN ?_ _|refine blk_drew ?_|refine blk_alloc ?_ _));exact BK147.out) hb);have n2_:=k0_ (below_step (by repeat (first|(with_reducible first|exact HB.out|apply below_alloc|apply pw_below_drewN|apply below_drew1|refine below_set ?_ GE147.out)|exact HB.out)) hb);clear BK147;clear HB;have HO151:=n0_;have BK147:=n1_;have HB:=n2_;clear n0_ n1_ n2_;(try clear hb);(try clear hb2);(try clear hk);(try clear hi);(try clear ho0);obtain ⟨Ao14, co14, eo14⟩:=Kd.R_slice HO151.out;subst eo14)|(go_at_call 11;(with_reducible refine (gridhallref3_SameInts.calls k _ _ t149 _ _ l2 t152 _ ?side1 ?side2 ?side3 ?side4 A8.out).mono ?_);(case side1=>repeat (first|exact (Kd.R_reads' HO151.out).2.2|(with_reducible refine Kd.C_alloc ?_ _)|(with_reducible refine Kd.C_drewN ?_ _)|(with_reducible refine Kd.C_drew ?_)));(case side2=>exact (Kd.R_reads' HO151.out).2.1);(case side3=>repeat (first|exact (Kd.C_below HR2.out HB.out)|(with_reducible refine Kd.C_alloc ?_ _)|(with_reducible refine Kd.C_drewN ?_ _)|(with_reducible refine Kd.C_drew ?_)));(case side4=>exact HC2.out);rintro e w' ⟨rfl, ⟨nd, rfl⟩⟩))
   go_ret
   exact ⟨by first|rfl|(simp [errW_none, errW_some] <;> rfl)|(simp [*, errW_none, errW_some] <;> rfl), by repeat (first|(with_reducible first|exact HB.out|apply below_alloc|apply pw_below_drewN|apply below_drew1|refine below_set ?_ GE147.out)|exact HB.out)⟩
  ·rw [if_neg c6] at H
   have c6b0 : (a0_0 == a1) = false:=beq_eq_false_iff_ne.mpr c6;have c6b1 : (a0_0 != a1) = true:=bne_iff_ne.mpr c6;obtain rfl:=Option.some.inj H
   go_enter Try.func37, Try.ntmps37
   go_wp2_with (first|((with_reducible refine gate_dst (N:=3) rfl ?_);refine box_event ?hg (N:=3) ?hd (cs:=#[.int .i64 a0_0, .int .i64 a0_1, .slice A0_2 l0_2.length c0_2]) (t:=82) ?hr ?_;(case hd=>rfl);(case hg=>rfl);(case hr=>first|(go_simp;done)|(go_simp;rfl));intro gb147 hg w15 hbox hb;have n0_:=k0_ (below_step HB.out hb);have n1_:=k0_ (hbox);have n2_:=k0_ ((by rw [hg];exact (below_size HB.out) : w.heap.size ≤ gb147));have n3_:=k0_ ((by rw [hg];exact (below_size HB.out) : w.heap.size ≤ gb147));clear HB;have HB:=n0_;have BK147:=n1_;have GW147:=n2_;have GE147:=n3_;clear n0_ n1_ n2_ n3_;clear hb hbox hg;have hcz16_0 : w15.cell? ⟨gb147, 0, none⟩ = some (.int .i64 a0_0):=(blk_cell BK147.out 0).trans rfl;have hcz16_1 : w15.cell? ⟨gb147, 1, none⟩ = some (.int .i64 a0_1):=(blk_cell BK147.out 1).trans rfl;have hcz16_2 : w15.cell? ⟨gb147, 2, none⟩ = some (.slice A0_2 l0_2.length c0_2):=(blk_cell BK147.out 2).trans rfl;have hfz16_0:=blk_frozen BK147.out 0;have hfz16_1:=blk_frozen BK147.out 1;have hfz16_2:=blk_frozen BK147.out 2)|((with_reducible refine gate_callee (f:=35) rfl ?_);refine goesL_ (some 8) rfl rfl Try.func35 (by kernel_rfl) rfl #[.agg #[.int .i64 a0_0, .int .i64 a0_1, .slice A0_2 l0_2.length c0_2]] rfl (by (try simp only [List.map_toArray, List.map_cons, List.map_nil]);first|done|rfl|(simp only [List.length_drop, List.length_take];rfl)) ?_;(with_reducible refine (gridhallref3_ConvexError.calls k a0_0 a0_1 _ _ l0_2 t148 _ ?side1 ?side2 A4.out).mono ?_);(case side1=>repeat (first|exact (Kd.C_below HR0_2.out HB.out)|(with_reducible refine Kd.C_alloc ?_ _)|(with_reducible refine Kd.C_drewN ?_ _)|(with_reducible refine Kd.C_drew ?_)));(case side2=>exact HC0_2.out);rintro e w17 ⟨rfl, hb⟩;refine ⟨_, rfl, ?_⟩;have n0_:=k0_ (blk_below BK147.out hb);have n1_:=k0_ (below_step HB.out hb);clear BK147;clear HB;have BK147:=n0_;have HB:=n1_;clear n0_ n1_;(try clear hb);(try clear hb2);(try clear hk);(try clear hi);have hcz18_0 : w17.cell? ⟨gb147, 0, none⟩ = some (.int .i64 a0_0):=(blk_cell BK147.out 0).trans rfl;have hcz18_1 : w17.cell? ⟨gb147, 1, none⟩ = some (.int .i64 a0_1):=(blk_cell BK147.out 1).trans rfl;have hcz18_2 : w17.cell? ⟨gb147, 2, none⟩ = some (.slice A0_2 l0_2.length c0_2):=(blk_cell BK147.out 2).trans rfl;have hfz18_0:=blk_frozen BK147.out 0;have hfz18_1:=blk_frozen BK147.out 1;have hfz18_2:=blk_frozen BK147.out 2))
   go_ret
   exact ⟨by first|rfl|(simp [errW_none, errW_some] <;> rfl)|(simp [*, errW_none, errW_some] <;> rfl), HB.out⟩
 ·rw [if_neg c5] at H
  have c5b0 : (t148 == 0) = false:=beq_eq_false_iff_ne.mpr c5;have c5b1 : (t148 != 0) = true:=bne_iff_ne.mpr c5;obtain rfl:=Option.some.inj H
  go_enter Try.func37, Try.ntmps37
  go_wp2_with (first|((with_reducible refine gate_dst (N:=3) rfl ?_);refine box_event ?hg (N:=3) ?hd (cs:=#[.int .i64 a0_0, .int .i64 a0_1, .slice A0_2 l0_2.length c0_2]) (t:=82) ?hr ?_;(case hd=>rfl);(case hg=>rfl);(case hr=>first|(go_simp;done)|(go_simp;rfl));intro gb147 hg w19 hbox hb;have n0_:=k0_ (below_step HB.out hb);have n1_:=k0_ (hbox);have n2_:=k0_ ((by rw [hg];exact (below_size HB.out) : w.heap.size ≤ gb147));have n3_:=k0_ ((by rw [hg];exact (below_size HB.out) : w.heap.size ≤ gb147));clear HB;have HB:=n0_;have BK147:=n1_;have GW147:=n2_;have GE147:=n3_;clear n0_ n1_ n2_ n3_;clear hb hbox hg;have hcz20_0 : w19.cell? ⟨gb147, 0, none⟩ = some (.int .i64 a0_0):=(blk_cell BK147.out 0).trans rfl;have hcz20_1 : w19.cell? ⟨gb147, 1, none⟩ = some (.int .i64 a0_1):=(blk_cell BK147.out 1).trans rfl;have hcz20_2 : w19.cell? ⟨gb147, 2, none⟩ = some (.slice A0_2 l0_2.length c0_2):=(blk_cell BK147.out 2).trans rfl;have hfz20_0:=blk_frozen BK147.out 0;have hfz20_1:=blk_frozen BK147.out 1;have hfz20_2:=blk_frozen BK147.out 2)|((with_reducible refine gate_callee (f:=35) rfl ?_);refine goesL_ (some 8) rfl rfl Try.func35 (by kernel_rfl) rfl #[.agg #[.int .i64 a0_0, .int .i64 a0_1, .slice A0_2 l0_2.length c0_2]] rfl (by (try simp only [List.map_toArray, List.map_cons, List.map_nil]);first|done|rfl|(simp only [List.length_drop, List.length_take];rfl)) ?_;(with_reducible refine (gridhallref3_ConvexError.calls k a0_0 a0_1 _ _ l0_2 t148 _ ?side1 ?side2 A4.out).mono ?_);(case side1=>repeat (first|exact (Kd.C_below HR0_2.out HB.out)|(with_reducible refine Kd.C_alloc ?_ _)|(with_reducible refine Kd.C_drewN ?_ _)|(with_reducible refine Kd.C_drew ?_)));(case side2=>exact HC0_2.out);rintro e w21 ⟨rfl, hb⟩;refine ⟨_, rfl, ?_⟩;have n0_:=k0_ (blk_below BK147.out hb);have n1_:=k0_ (below_step HB.out hb);clear BK147;clear HB;have BK147:=n0_;have HB:=n1_;clear n0_ n1_;(try clear hb);(try clear hb2);(try clear hk);(try clear hi)))
  go_ret
  exact ⟨by first|rfl|(simp [errW_none, errW_some] <;> rfl)|(simp [*, errW_none, errW_some] <;> rfl), HB.out⟩

-- NOT PRINTED: function 119 (api_ConvexPiece_119)

-- NOT PRINTED: function 124 (api_ConvexPiece_124)

-- NOT PRINTED: function 122 (api_ConvexPiece_122)

-- NOT PRINTED: function 120 (api_ConvexPiece_120)

-- NOT PRINTED: function 115 (api_ConvexPiece_115)

-- NOT PRINTED: function 101 (api_ConvexPiece_101)

/-! ### cmp_isNaN_int: function 114 -/
def cmp_isNaN_int.f (a0 : Int) : Option (Bool) := some (a0 != a0)
set_option maxHeartbeats 8000000 in
set_option maxRecDepth 100000 in
theorem cmp_isNaN_int.calls (a0 : Int) (r : Bool) (w : World) (h : cmp_isNaN_int.f a0 = some r) :
  Calls Try.prog 114 #[.int .i64 a0] w fun e w' => e = .returned (.bool r) ∧ Drawn0 w w' := by
 have H : (some (a0 != a0)) = some r:=h;clear h;obtain rfl:=Option.some.inj H
 go_enter Try.func114, Try.ntmps114
 go_wp2
 go_ret
 exact ⟨by first|rfl|(simp;done)|(simp [*];done), by repeat (first|exact Drawn0.refl _|apply Drawn0.step)⟩

/-! ### cmp_Compare_int: function 99 -/
def cmp_Compare_int.f (a0 : Int) (a1 : Int) : Option (Int) := (cmp_isNaN_int.f a0).bind fun t153 => ((cmp_isNaN_int.f a1).bind fun t154 => (if t153 = true then (if t154 = true then (some 0) else (some (-1))) else (if t154 = true then (some 1) else (if a0 < a1 then (some (-1)) else (if a0 > a1 then (some 1) else (some 0))))))
set_option maxHeartbeats 8000000 in
set_option maxRecDepth 100000 in
theorem cmp_Compare_int.calls (a0 : Int) (a1 : Int) (r : Int) (w : World) (h : cmp_Compare_int.f a0 a1 = some r) :
  Calls Try.prog 99 #[.int .i64 a0, .int .i64 a1] w fun e w' => e = .returned (.int .i64 r) ∧ Drawn0 w w' := by
 have H : ((cmp_isNaN_int.f a0).bind fun t153=>((cmp_isNaN_int.f a1).bind fun t154=>(if t153 = true then (if t154 = true then (some 0) else (some (-1))) else (if t154 = true then (some 1) else (if a0 < a1 then (some (-1)) else (if a0 > a1 then (some 1) else (some 0))))))) = some r:=h;clear h;replace H:=Option.bind_eq_some_iff.mp H;obtain ⟨t153, A30, H⟩:=H;replace H : ((cmp_isNaN_int.f a1).bind fun t154=>(if t153 = true then (if t154 = true then (some 0) else (some (-1))) else (if t154 = true then (some 1) else (if a0 < a1 then (some (-1)) else (if a0 > a1 then (some 1) else (some 0)))))) = some r:=H;have A3:=k0_ A30;clear A30;replace H:=Option.bind_eq_some_iff.mp H;obtain ⟨t154, A40, H⟩:=H;replace H : (if t153 = true then (if t154 = true then (some 0) else (some (-1))) else (if t154 = true then (some 1) else (if a0 < a1 then (some (-1)) else (if a0 > a1 then (some 1) else (some 0))))) = some r:=H;have A4:=k0_ A40;clear A40
 by_cases c5 : t153 = true
 ·subst c5
  have H1 : (if t154 = true then (some 0) else (some (-1))) = some r:=by rw [if_pos rfl] at H;exact H
  clear H;have H:=H1;clear H1
  by_cases c6 : t154 = true
  ·subst c6
   have H1 : (some 0) = some r:=by rw [if_pos rfl] at H;exact H
   clear H;have H:=H1;clear H1;obtain rfl:=Option.some.inj H
   go_enter Try.func99, Try.ntmps99
   go_wp2_with (first|((with_reducible refine gate_callee (f:=114) rfl ?_);refine goesL_ (some 8) rfl rfl Try.func114 (by kernel_rfl) rfl #[.int .i64 a0] rfl (by (try simp only [List.map_toArray, List.map_cons, List.map_nil]);first|done|rfl|(simp only [List.length_drop, List.length_take];rfl)) ?_;(with_reducible refine (cmp_isNaN_int.calls a0 true _ A3.out).mono ?_);rintro e w' ⟨rfl, ⟨nd, rfl⟩⟩;refine ⟨_, rfl, ?_⟩)|((with_reducible refine gate_callee (f:=114) rfl ?_);refine goesL_ (some 10) rfl rfl Try.func114 (by kernel_rfl) rfl #[.int .i64 a1] rfl (by (try simp only [List.map_toArray, List.map_cons, List.map_nil]);first|done|rfl|(simp only [List.length_drop, List.length_take];rfl)) ?_;(with_reducible refine (cmp_isNaN_int.calls a1 true _ A4.out).mono ?_);rintro e w' ⟨rfl, ⟨nd, rfl⟩⟩;refine ⟨_, rfl, ?_⟩))
   go_ret
   exact ⟨by first|rfl|(simp;done)|(simp [*];done), by repeat (first|exact Drawn0.refl _|apply Drawn0.step)⟩
  ·replace c6:=Bool.eq_false_iff.mpr c6
   subst c6;have H1 : (some (-1)) = some r:=by rw [if_neg (show ¬ (false = true) by decide)] at H;exact H
   clear H;have H:=H1;clear H1;obtain rfl:=Option.some.inj H
   go_enter Try.func99, Try.ntmps99
   go_wp2_with (first|((with_reducible refine gate_callee (f:=114) rfl ?_);refine goesL_ (some 8) rfl rfl Try.func114 (by kernel_rfl) rfl #[.int .i64 a0] rfl (by (try simp only [List.map_toArray, List.map_cons, List.map_nil]);first|done|rfl|(simp only [List.length_drop, List.length_take];rfl)) ?_;(with_reducible refine (cmp_isNaN_int.calls a0 true _ A3.out).mono ?_);rintro e w' ⟨rfl, ⟨nd, rfl⟩⟩;refine ⟨_, rfl, ?_⟩)|((with_reducible refine gate_callee (f:=114) rfl ?_);refine goesL_ (some 10) rfl rfl Try.func114 (by kernel_rfl) rfl #[.int .i64 a1] rfl (by (try simp only [List.map_toArray, List.map_cons, List.map_nil]);first|done|rfl|(simp only [List.length_drop, List.length_take];rfl)) ?_;(with_reducible refine (cmp_isNaN_int.calls a1 false _ A4.out).mono ?_);rintro e w' ⟨rfl, ⟨nd, rfl⟩⟩;refine ⟨_, rfl, ?_⟩))
   go_ret
   exact ⟨by first|rfl|(simp;done)|(simp [*];done), by repeat (first|exact Drawn0.refl _|apply Drawn0.step)⟩
 ·replace c5:=Bool.eq_false_iff.mpr c5
  subst c5;have H1 : (if t154 = true then (some 1) else (if a0 < a1 then (some (-1)) else (if a0 > a1 then (some 1) else (some 0)))) = some r:=by rw [if_neg (show ¬ (false = true) by decide)] at H;exact H
  clear H;have H:=H1;clear H1
  by_cases c7 : t154 = true
  ·subst c7
   have H1 : (some 1) = some r:=by rw [if_pos rfl] at H;exact H
   clear H;have H:=H1;clear H1;obtain rfl:=Option.some.inj H
   go_enter Try.func99, Try.ntmps99
   go_wp2_with (first|((with_reducible refine gate_callee (f:=114) rfl ?_);refine goesL_ (some 8) rfl rfl Try.func114 (by kernel_rfl) rfl #[.int .i64 a0] rfl (by (try simp only [List.map_toArray, List.map_cons, List.map_nil]);first|done|rfl|(simp only [List.length_drop, List.length_take];rfl)) ?_;(with_reducible refine (cmp_isNaN_int.calls a0 false _ A3.out).mono ?_);rintro e w' ⟨rfl, ⟨nd, rfl⟩⟩;refine ⟨_, rfl, ?_⟩)|((with_reducible refine gate_callee (f:=114) rfl ?_);refine goesL_ (some 10) rfl rfl Try.func114 (by kernel_rfl) rfl #[.int .i64 a1] rfl (by (try simp only [List.map_toArray, List.map_cons, List.map_nil]);first|done|rfl|(simp only [List.length_drop, List.length_take];rfl)) ?_;(with_reducible refine (cmp_isNaN_int.calls a1 true _ A4.out).mono ?_);rintro e w' ⟨rfl, ⟨nd, rfl⟩⟩;refine ⟨_, rfl, ?_⟩))
   go_ret
   exact ⟨by first|rfl|(simp;done)|(simp [*];done), by repeat (first|exact Drawn0.refl _|apply Drawn0.step)⟩
  ·replace c7:=Bool.eq_false_iff.mpr c7
   subst c7;have H1 : (if a0 < a1 then (some (-1)) else (if a0 > a1 then (some 1) else (some 0))) = some r:=by rw [if_neg (show ¬ (false = true) by decide)] at H;exact H
   clear H;have H:=H1;clear H1
   by_cases c8 : a0 < a1
   rw [if_pos c8] at H;have c8b0 : decide (a0 < a1) = true:=decide_eq_true c8;clear c8;obtain rfl:=Option.some.inj H;rotate_left;rw [if_neg c8] at H;have c8b0 : decide (a0 < a1) = false:=decide_eq_false c8;clear c8
   focus
    by_cases c9 : a0 > a1
    rw [if_pos c9] at H;have c9b0 : decide (a1 < a0) = true:=decide_eq_true c9;clear c9;obtain rfl:=Option.some.inj H;rotate_left;rw [if_neg c9] at H;have c9b0 : decide (a1 < a0) = false:=decide_eq_false c9;clear c9;obtain rfl:=Option.some.inj H;rotate_left
   rotate_left 2
   all_goals
    go_enter Try.func99, Try.ntmps99
    go_wp2_with (first|((with_reducible refine gate_callee (f:=114) rfl ?_);refine goesL_ (some 8) rfl rfl Try.func114 (by kernel_rfl) rfl #[.int .i64 a0] rfl (by (try simp only [List.map_toArray, List.map_cons, List.map_nil]);first|done|rfl|(simp only [List.length_drop, List.length_take];rfl)) ?_;(with_reducible refine (cmp_isNaN_int.calls a0 false _ A3.out).mono ?_);rintro e w' ⟨rfl, ⟨nd, rfl⟩⟩;refine ⟨_, rfl, ?_⟩)|((with_reducible refine gate_callee (f:=114) rfl ?_);refine goesL_ (some 10) rfl rfl Try.func114 (by kernel_rfl) rfl #[.int .i64 a1] rfl (by (try simp only [List.map_toArray, List.map_cons, List.map_nil]);first|done|rfl|(simp only [List.length_drop, List.length_take];rfl)) ?_;(with_reducible refine (cmp_isNaN_int.calls a1 false _ A4.out).mono ?_);rintro e w' ⟨rfl, ⟨nd, rfl⟩⟩;refine ⟨_, rfl, ?_⟩))
    go_ret
   ·exact ⟨by first|rfl|(simp;done)|(simp [*];done), by repeat (first|exact Drawn0.refl _|apply Drawn0.step)⟩
   ·exact ⟨by first|rfl|(simp;done)|(simp [*];done), by repeat (first|exact Drawn0.refl _|apply Drawn0.step)⟩
   ·exact ⟨by first|rfl|(simp;done)|(simp [*];done), by repeat (first|exact Drawn0.refl _|apply Drawn0.step)⟩

/-! ### convexpl_made_1: function 102 -/
def convexpl_made_1.f (a0_0 : Int) (a0_1 : Int) (a1_0 : Int) (a1_1 : Int) : Option (Int) := (cmp_Compare_int.f a0_1 a1_1).bind fun t157 => (some t157)
set_option maxHeartbeats 8000000 in
set_option maxRecDepth 100000 in
theorem convexpl_made_1.calls (a0_0 : Int) (a0_1 : Int) (a1_0 : Int) (a1_1 : Int) (r : Int) (w : World) (h : convexpl_made_1.f a0_0 a0_1 a1_0 a1_1 = some r) :
  Calls Try.prog 102 #[.agg #[.int .i64 a0_0, .int .i64 a0_1], .agg #[.int .i64 a1_0, .int .i64 a1_1]] w fun e w' => e = .returned (.int .i64 r) ∧ Below w.heap.size w w' := by
 have hu88:=Try.underlying88;have HB:=k0_ (Below.refl w.heap.size w);have H : ((cmp_Compare_int.f a0_1 a1_1).bind fun t157=>(some t157)) = some r:=h;clear h;replace H:=Option.bind_eq_some_iff.mp H;obtain ⟨t157, A30, H⟩:=H;replace H : (some t157) = some r:=H;have A3:=k0_ A30;clear A30;obtain rfl:=Option.some.inj H
 go_enter Try.func102, Try.ntmps102
 go_wp2_with (first|((with_reducible refine gate_dst (N:=2) rfl ?_);refine box_event ?hg (N:=2) ?hd (cs:=#[.int .i64 a0_0, .int .i64 a0_1]) (t:=88) ?hr ?_;(case hd=>rfl);(case hg=>rfl);(case hr=>first|(go_simp;done)|(go_simp;rfl));intro gb155 hg w4 hbox hb;have n0_:=k0_ (below_step (by repeat (first|(with_reducible first|exact HB.out|apply below_alloc|apply pw_below_drewN|apply below_drew1)|exact HB.out)) hb);have n1_:=k0_ (hbox);have n2_:=k0_ ((by rw [hg];exact (below_size (by repeat (first|(with_reducible first|exact HB.out|apply below_alloc|apply pw_below_drewN|apply below_drew1)|exact HB.out))) : w.heap.size ≤ gb155));have n3_:=k0_ ((by rw [hg];exact (below_size (by repeat (first|(with_reducible first|exact HB.out|apply below_alloc|apply pw_below_drewN|apply below_drew1)|exact HB.out))) : w.heap.size ≤ gb155));clear HB;have HB:=n0_;have BK155:=n1_;have GW155:=n2_;have GE155:=n3_;clear n0_ n1_ n2_ n3_;clear hb hbox hg)|((with_reducible refine gate_dst (N:=3) rfl ?_);refine box_event ?hg (N:=3) ?hd (cs:=#[.int .i64 a1_0, .int .i64 a1_1]) (t:=88) ?hr ?_;(case hd=>rfl);(case hg=>rfl);(case hr=>first|(go_simp;done)|(go_simp;rfl));intro gb156 hg w5 hbox hb;have n0_:=k0_ (blk_below (g:=gb155) (o:=.cells #[.int .i64 a0_0, .int .i64 a0_1] 88 (0, 0)) (by (with_reducible repeat (first|refine blk_drewN ?_ _|refine blk_drew ?_|refine blk_alloc ?_ _));exact BK155.out) hb);have n1_:=k0_ (below_step (by repeat (first|(with_reducible first|exact HB.out|apply below_alloc|apply pw_below_drewN|apply below_drew1|refine below_set ?_ GE155.out)|exact HB.out)) hb);have n2_:=k0_ (hbox);have n3_:=k0_ ((by rw [hg];exact (below_size (by repeat (first|(with_reducible first|exact HB.out|apply below_alloc|apply pw_below_drewN|apply below_drew1|refine below_set ?_ GE155.out)|exact HB.out))) : w.heap.size ≤ gb156));have n4_:=k0_ ((by rw [hg];exact (below_size (by repeat (first|(with_reducible first|exact HB.out|apply below_alloc|apply pw_below_drewN|apply below_drew1|refine below_set ?_ GE155.out)|exact HB.out))) : w.heap.size ≤ gb156));have n5_:=k0_ ((by rw [hg];exact Nat.ne_of_lt (blk_lt (g:=gb155) (o:=.cells #[.int .i64 a0_0, .int .i64 a0_1] 88 (0, 0)) (by (with_reducible repeat (first|refine blk_drewN ?_ _|refine blk_drew ?_|refine blk_alloc ?_ _));exact BK155.out)) : gb155 ≠ gb156));have n6_:=k0_ ((by rw [hg];exact Nat.ne_of_gt (blk_lt (g:=gb155) (o:=.cells #[.int .i64 a0_0, .int .i64 a0_1] 88 (0, 0)) (by (with_reducible repeat (first|refine blk_drewN ?_ _|refine blk_drew ?_|refine blk_alloc ?_ _));exact BK155.out)) : gb156 ≠ gb155));clear BK155;clear HB;have BK155:=n0_;have HB:=n1_;have BK156:=n2_;have GW156:=n3_;have GE156:=n4_;have NB155_156:=n5_;have NB156_155:=n6_;clear n0_ n1_ n2_ n3_ n4_ n5_ n6_;clear hb hbox hg;have hnb6:=NB155_156.out;have hnc6:=NB156_155.out;have hcz7_0 : w5.cell? ⟨gb155, 0, none⟩ = some (.int .i64 a0_0):=(blk_cell BK155.out 0).trans rfl;have hcz7_1 : w5.cell? ⟨gb155, 1, none⟩ = some (.int .i64 a0_1):=(blk_cell BK155.out 1).trans rfl;have hfz7_0:=blk_frozen BK155.out 0;have hfz7_1:=blk_frozen BK155.out 1;have hcz8_0 : w5.cell? ⟨gb156, 0, none⟩ = some (.int .i64 a1_0):=(blk_cell BK156.out 0).trans rfl;have hcz8_1 : w5.cell? ⟨gb156, 1, none⟩ = some (.int .i64 a1_1):=(blk_cell BK156.out 1).trans rfl;have hfz8_0:=blk_frozen BK156.out 0;have hfz8_1:=blk_frozen BK156.out 1)|((with_reducible refine gate_callee (f:=99) rfl ?_);refine goesL_ (some 9) rfl rfl Try.func99 (by kernel_rfl) rfl #[.int .i64 a0_1, .int .i64 a1_1] rfl (by (try simp only [List.map_toArray, List.map_cons, List.map_nil]);first|done|rfl|(simp only [List.length_drop, List.length_take];rfl)) ?_;(with_reducible refine (cmp_Compare_int.calls a0_1 a1_1 t157 _ A3.out).mono ?_);rintro e w' ⟨rfl, ⟨nd, rfl⟩⟩;refine ⟨_, rfl, ?_⟩))
 go_ret
 exact ⟨by first|rfl|(simp [errW_none, errW_some] <;> rfl)|(simp [*, errW_none, errW_some] <;> rfl), by repeat (first|(with_reducible first|exact HB.out|apply below_alloc|apply pw_below_drewN|apply below_drew1|refine below_set ?_ GE155.out|refine below_set ?_ GE156.out)|exact HB.out)⟩

end Go.Proofs.Ytdgjelbkogfedaa.PConvexSums
