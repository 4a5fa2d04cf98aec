/- Contracts of functions that ConvexSums reaches, a text of this session's own. -/
import Derived.Test.YtdgjelbkogfedaaHConvexSumsy0
import Derived.Test.YtdgjelbkogfedaaHConvexSumsy1
namespace Go.Proofs.Ytdgjelbkogfedaa.PConvexSums
open Go.RowKit Go.Proofs.YtdgjelbkogfedaaW.PrintWords Go.Proofs.YtdgjelbkogfedaaW.PrintLast Go.Proofs.YtdgjelbkogfedaaW.PrintMore
attribute [local go_sem] max2_int min2_int max_two min_two max_three min_three max_four min_four   -- for this text's walks alone
set_option linter.unusedVariables false
set_option linter.unusedSimpArgs false

/-! ### convexpl_high: function 72 -/
def convexpl_high.l0 : Nat → Int → List (S88) → Int → Int → Option (Int)
 | 0, _, _, _, _ => none
 | k + 1, x3, x9, x10, x11 => if x11 < x10 then (if 0 ≤ x11 then (if x11 < (x9.length : Int) then (convexpl_high.l0 k (wrap64 (x3 + ((rd_T88 x9 x11).f0))) x9 x10 (wrap64 (x11 + 1))) else (none)) else (none)) else (some x3)
def convexpl_high.f (k : Nat) (a0_0 : Int) (a0_1 : Int) (l0_2 : List (S88)) : Option (Int) := convexpl_high.l0 k a0_0 l0_2 (l0_2.length : Int) 0
theorem convexpl_high.mono_l : ∀ k, (∀ y0 y1 y2 y3, LeO (convexpl_high.l0 k y0 y1 y2 y3) (convexpl_high.l0 (k + 1) y0 y1 y2 y3))
 | 0 => fun _ _ _ _ r h => by simp [convexpl_high.l0] at h
 | k + 1 => by
  have ih0:=convexpl_high.mono_l k
  ·intro y0 y1 y2 y3
   unfold convexpl_high.l0
   repeat' first
   | (with_reducible exact ih0 _ _ _ _)
   | (with_reducible exact LeO.refl _)
   | (with_reducible exact LeO.none _)
   | (with_reducible refine LeO.ite ?_ ?_)
   | (with_reducible refine LeO.bind ?_ (fun _ => ?_))
   | exact ih0 _ _ _ _
   | exact LeO.none _
   | refine LeO.ite ?_ ?_
   | refine LeO.bind ?_ (fun _ => ?_)
theorem convexpl_high.mono : ∀ a0 a1 a2 k, LeO (convexpl_high.f k a0 a1 a2) (convexpl_high.f (k + 1) a0 a1 a2) := by
 intro a0 a1 a2 k
 have ih0:=convexpl_high.mono_l k
 unfold convexpl_high.f
 repeat' first
   | (with_reducible exact ih0 _ _ _ _)
   | (with_reducible exact LeO.refl _)
   | (with_reducible exact LeO.none _)
   | (with_reducible refine LeO.ite ?_ ?_)
   | (with_reducible refine LeO.bind ?_ (fun _ => ?_))
   | exact ih0 _ _ _ _
   | exact LeO.none _
   | refine LeO.ite ?_ ?_
   | refine LeO.bind ?_ (fun _ => ?_)
set_option maxHeartbeats 8000000 in
set_option maxRecDepth 100000 in
theorem convexpl_high.calls (k : Nat) (a0_0 : Int) (a0_1 : Int) (A0_2 : Option Addr) (c0_2 : Nat) (l0_2 : List (S88)) (r : Int) (w : World) (hr0_2 : Kd.C k88 w A0_2 l0_2.length l0_2) (hc0_2 : l0_2.length ≤ c0_2) (h : convexpl_high.f k a0_0 a0_1 l0_2 = some r) :
  Calls Try.prog 72 #[.agg #[.int .i64 a0_0, .int .i64 a0_1, .slice A0_2 l0_2.length c0_2]] w fun e w' => e = .returned (.int .i64 r) ∧ Below w.heap.size w w' := by
 have hu82:=Try.underlying82;have hu88:=Try.underlying88;have HR0_2:=k0_ hr0_2;have HC0_2:=k0_ hc0_2;clear hr0_2 hc0_2;have HB:=k0_ (Below.refl w.heap.size w);have H : (convexpl_high.l0 k a0_0 l0_2 (l0_2.length : Int) 0) = some r:=h;clear h;have H':=k0_ H;clear H
 go_enter Try.func72, Try.ntmps72
 go_wp2_with (first|((with_reducible refine gate_dst (N:=1) rfl ?_);refine box_event ?hg (N:=1) ?hd (cs:=#[.int .i64 a0_0, .int .i64 a0_1, .slice A0_2 l0_2.length c0_2]) (t:=82) ?hr ?_;(case hd=>rfl);(case hg=>rfl);(case hr=>first|(go_simp;done)|(go_simp;rfl));intro gb105 hg w2 hbox hb;have n0_:=k0_ (below_step HB.out hb);have n1_:=k0_ (hbox);have n2_:=k0_ ((by rw [hg];exact (below_size HB.out) : w.heap.size ≤ gb105));have n3_:=k0_ ((by rw [hg];exact (below_size HB.out) : w.heap.size ≤ gb105));clear HB;have HB:=n0_;have BK105:=n1_;have GW105:=n2_;have GE105:=n3_;clear n0_ n1_ n2_ n3_;clear hb hbox hg;have hcz3_0 : w2.cell? ⟨gb105, 0, none⟩ = some (.int .i64 a0_0):=(blk_cell BK105.out 0).trans rfl;have hcz3_1 : w2.cell? ⟨gb105, 1, none⟩ = some (.int .i64 a0_1):=(blk_cell BK105.out 1).trans rfl;have hcz3_2 : w2.cell? ⟨gb105, 2, none⟩ = some (.slice A0_2 l0_2.length c0_2):=(blk_cell BK105.out 2).trans rfl;have hfz3_0:=blk_frozen BK105.out 0;have hfz3_1:=blk_frozen BK105.out 1;have hfz3_2:=blk_frozen BK105.out 2))
 (try simp only [Act.put, q1_,q3_,q2_])
 go_loopg [3, 11] k (fun kq v3 v11 w'=>∃ (x3_1 : Int) (x11_1 : Int), v3 = .int .i64 x3_1∧v11 = .int .i64 x11_1∧Aside0 (convexpl_high.l0 kq x3_1 l0_2 (l0_2.length : Int) x11_1 = some r)∧Aside0 (kq ≤ k)∧Aside0 (w'.heap[gb105]? = some (.cells #[.int .i64 a0_0, .int .i64 a0_1, (.slice A0_2 l0_2.length c0_2)] 82 (0, 0)))∧Aside0 (Below w.heap.size w w'))
 case atStart=>exact ⟨(a0_0),(0),(by first|rfl|(simp;done)|(simp [*];done)),(by first|rfl|(simp;done)|(simp [*];done)), H', ⟨Nat.le_refl _⟩,BK105,HB⟩
 clear H';(try clear p2);(try clear hcz3_0);(try clear hcz3_1);(try clear hcz3_2);(try clear hfz3_0);(try clear hfz3_1);(try clear hfz3_2);obtain ⟨x3_1, x11_1, rfl, rfl, HA, HK1, BK105, HB⟩:=hrel;obtain _|k1:=gk
 ·exact absurd HA.out (by simp [convexpl_high.l0])
 have H:=HA.out;clear HA;simp only [convexpl_high.l0] at H
 by_cases c4 : x11_1 < (l0_2.length : Int)
 ·rw [if_pos c4] at H
  have c4b0 : decide (x11_1 < (l0_2.length : Int)) = true:=decide_eq_true c4;clear c4
  by_cases c5 : 0 ≤ x11_1
  rotate_left
  ·rw [if_neg c5] at H
   exact absurd H (by simp)
  rw [if_pos c5] at H;have c5b0 : decide (0 ≤ x11_1) = true:=decide_eq_true c5;clear c5
  by_cases c6 : x11_1 < (l0_2.length : Int)
  rotate_left
  ·rw [if_neg c6] at H
   exact absurd H (by simp)
  rw [if_pos c6] at H;have c6b0 : decide (x11_1 < (l0_2.length : Int)) = true:=decide_eq_true c6;clear c6;have H':=k0_ H;clear H;have p106 : 0 ≤ (x11_1 : Int):=of_decide_eq_true (by first|(with_reducible assumption)|assumption);have q106 : x11_1 < (l0_2.length : Int):=of_decide_eq_true (by first|(with_reducible assumption)|assumption);obtain ⟨ad106, e106, hx106_0, hx106_1⟩:=at_T88 HR0_2.out x11_1 p106 q106;cases e106;replace hx106_0:=(HB.out.cell (World.block_lt_of_cell? w _ hx106_0)).trans hx106_0;replace hx106_1:=(HB.out.cell (World.block_lt_of_cell? w _ hx106_1)).trans hx106_1;replace p106:=eq_true p106;replace q106:=eq_true q106
  go_wp2_with (first|((with_reducible refine gate_dst (N:=5) rfl ?_);refine box_event ?hg (N:=5) ?hd (cs:=#[.int .i64 0, .int .i64 0]) (t:=88) ?hr ?_;(case hd=>rfl);(case hg=>rfl);(case hr=>first|(go_simp;done)|(go_simp;rfl));intro gb107 hg w7 hbox hb;have n0_:=k0_ (blk_below BK105.out hb);have n1_:=k0_ (below_step HB.out hb);have n2_:=k0_ (hbox);have n3_:=k0_ ((by rw [hg];exact (below_size HB.out) : w.heap.size ≤ gb107));have n4_:=k0_ ((by rw [hg];exact (below_size HB.out) : w.heap.size ≤ gb107));have n5_:=k0_ ((by rw [hg];exact Nat.ne_of_lt (blk_lt BK105.out) : gb105 ≠ gb107));have n6_:=k0_ ((by rw [hg];exact Nat.ne_of_gt (blk_lt BK105.out) : gb107 ≠ gb105));clear BK105;clear HB;have BK105:=n0_;have HB:=n1_;have BK107:=n2_;have GW107:=n3_;have GE107:=n4_;have NB105_107:=n5_;have NB107_105:=n6_;clear n0_ n1_ n2_ n3_ n4_ n5_ n6_;clear hb hbox hg;have hnb8:=NB107_105.out;have hnc8:=NB105_107.out;have hcz9_0 : w7.cell? ⟨gb107, 0, none⟩ = some (.int .i64 0):=(blk_cell BK107.out 0).trans rfl;have hcz9_1 : w7.cell? ⟨gb107, 1, none⟩ = some (.int .i64 0):=(blk_cell BK107.out 1).trans rfl;have hfz9_0:=blk_frozen BK107.out 0;have hfz9_1:=blk_frozen BK107.out 1))
  go_roundg k1
  case measure=>have:=HK1.out;omega
  case rel=>exact ⟨(wrap64 (x3_1 + ((rd_T88 l0_2 x11_1).f0))),(wrap64 (x11_1 + 1)),(by first|rfl|(simp;done)|(simp [*];done)),(by first|rfl|(simp;done)|(simp [*];done)), H', ⟨by have:=HK1.out;omega⟩,⟨by (with_reducible repeat (first|refine blk_drewN ?_ _|refine blk_drew ?_|refine blk_alloc ?_ _));refine blk_far ?_ NB105_107.out _;(with_reducible repeat (first|refine blk_drewN ?_ _|refine blk_drew ?_|refine blk_alloc ?_ _));refine blk_far ?_ NB105_107.out _;(with_reducible repeat (first|refine blk_drewN ?_ _|refine blk_drew ?_|refine blk_alloc ?_ _));exact BK105.out⟩,⟨by repeat (first|(with_reducible first|exact HB.out|apply below_alloc|apply pw_below_drewN|apply below_drew1|refine below_set ?_ GE105.out|refine below_set ?_ GE107.out)|exact HB.out)⟩⟩
 ·rw [if_neg c4] at H
  have c4b0 : decide (x11_1 < (l0_2.length : Int)) = false:=decide_eq_false c4;clear c4;obtain rfl:=Option.some.inj H;go_wp2
  go_ret
  exact ⟨by first|rfl|(simp [errW_none, errW_some] <;> rfl)|(simp [*, errW_none, errW_some] <;> rfl), HB.out⟩

/-! ### convexpl_value: function 74 -/
def convexpl_value.l0 : Nat → Int → Int → Int → List (S88) → Int → Int → Option (Int)
 | 0, _, _, _, _, _, _ => none
 | k + 1, x1, x5, x6, x15, x16, x17 => if x17 < x16 then (if 0 ≤ x17 then (if x17 < (x15.length : Int) then (convexpl_value.l0 k x1 (wrap64 (x5 + (wrap64 ((mn ((rd_T88 x15 x17).f0) (wrap64 (x1 - x6))) * ((rd_T88 x15 x17).f1))))) (wrap64 (x6 + (mn ((rd_T88 x15 x17).f0) (wrap64 (x1 - x6))))) x15 x16 (wrap64 (x17 + 1))) else (none)) else (none)) else (some x5)
def convexpl_value.f (k : Nat) (a0_0 : Int) (a0_1 : Int) (l0_2 : List (S88)) (a1 : Int) : Option (Int) := convexpl_value.l0 k a1 a0_1 a0_0 l0_2 (l0_2.length : Int) 0
theorem convexpl_value.mono_l : ∀ k, (∀ y0 y1 y2 y3 y4 y5, LeO (convexpl_value.l0 k y0 y1 y2 y3 y4 y5) (convexpl_value.l0 (k + 1) y0 y1 y2 y3 y4 y5))
 | 0 => fun _ _ _ _ _ _ r h => by simp [convexpl_value.l0] at h
 | k + 1 => by
  have ih0:=convexpl_value.mono_l k
  ·intro y0 y1 y2 y3 y4 y5
   unfold convexpl_value.l0
   repeat' first
   | (with_reducible exact ih0 _ _ _ _ _ _)
   | (with_reducible exact LeO.refl _)
   | (with_reducible exact LeO.none _)
   | (with_reducible refine LeO.ite ?_ ?_)
   | (with_reducible refine LeO.bind ?_ (fun _ => ?_))
   | exact ih0 _ _ _ _ _ _
   | exact LeO.none _
   | refine LeO.ite ?_ ?_
   | refine LeO.bind ?_ (fun _ => ?_)
theorem convexpl_value.mono : ∀ a0 a1 a2 a3 k, LeO (convexpl_value.f k a0 a1 a2 a3) (convexpl_value.f (k + 1) a0 a1 a2 a3) := by
 intro a0 a1 a2 a3 k
 have ih0:=convexpl_value.mono_l k
 unfold convexpl_value.f
 repeat' first
   | (with_reducible exact ih0 _ _ _ _ _ _)
   | (with_reducible exact LeO.refl _)
   | (with_reducible exact LeO.none _)
   | (with_reducible refine LeO.ite ?_ ?_)
   | (with_reducible refine LeO.bind ?_ (fun _ => ?_))
   | exact ih0 _ _ _ _ _ _
   | exact LeO.none _
   | refine LeO.ite ?_ ?_
   | refine LeO.bind ?_ (fun _ => ?_)
set_option maxHeartbeats 8000000 in
set_option maxRecDepth 100000 in
theorem convexpl_value.calls (k : Nat) (a0_0 : Int) (a0_1 : Int) (A0_2 : Option Addr) (c0_2 : Nat) (l0_2 : List (S88)) (a1 : Int) (r : Int) (w : World) (hr0_2 : Kd.C k88 w A0_2 l0_2.length l0_2) (hc0_2 : l0_2.length ≤ c0_2) (h : convexpl_value.f k a0_0 a0_1 l0_2 a1 = some r) :
  Calls Try.prog 74 #[.agg #[.int .i64 a0_0, .int .i64 a0_1, .slice A0_2 l0_2.length c0_2], .int .i64 a1] w fun e w' => e = .returned (.int .i64 r) ∧ Below w.heap.size w w' := by
 have hu82:=Try.underlying82;have hu88:=Try.underlying88;have HR0_2:=k0_ hr0_2;have HC0_2:=k0_ hc0_2;clear hr0_2 hc0_2;have HB:=k0_ (Below.refl w.heap.size w);have H : (convexpl_value.l0 k a1 a0_1 a0_0 l0_2 (l0_2.length : Int) 0) = some r:=h;clear h;have H':=k0_ H;clear H
 go_enter Try.func74, Try.ntmps74
 go_wp2_with (first|((with_reducible refine gate_dst (N:=2) rfl ?_);refine box_event ?hg (N:=2) ?hd (cs:=#[.int .i64 a0_0, .int .i64 a0_1, .slice A0_2 l0_2.length c0_2]) (t:=82) ?hr ?_;(case hd=>rfl);(case hg=>rfl);(case hr=>first|(go_simp;done)|(go_simp;rfl));intro gb108 hg w3 hbox hb;have n0_:=k0_ (below_step HB.out hb);have n1_:=k0_ (hbox);have n2_:=k0_ ((by rw [hg];exact (below_size HB.out) : w.heap.size ≤ gb108));have n3_:=k0_ ((by rw [hg];exact (below_size HB.out) : w.heap.size ≤ gb108));clear HB;have HB:=n0_;have BK108:=n1_;have GW108:=n2_;have GE108:=n3_;clear n0_ n1_ n2_ n3_;clear hb hbox hg;have hcz4_0 : w3.cell? ⟨gb108, 0, none⟩ = some (.int .i64 a0_0):=(blk_cell BK108.out 0).trans rfl;have hcz4_1 : w3.cell? ⟨gb108, 1, none⟩ = some (.int .i64 a0_1):=(blk_cell BK108.out 1).trans rfl;have hcz4_2 : w3.cell? ⟨gb108, 2, none⟩ = some (.slice A0_2 l0_2.length c0_2):=(blk_cell BK108.out 2).trans rfl;have hfz4_0:=blk_frozen BK108.out 0;have hfz4_1:=blk_frozen BK108.out 1;have hfz4_2:=blk_frozen BK108.out 2))
 repeat (go_quiet (first|((with_reducible refine gate_dst (N:=2) rfl ?_);refine box_event ?hg (N:=2) ?hd (cs:=#[.int .i64 a0_0, .int .i64 a0_1, .slice A0_2 l0_2.length c0_2]) (t:=82) ?hr ?_;(case hd=>rfl);(case hg=>rfl);(case hr=>first|(go_simp;done)|(go_simp;rfl));intro gb108 hg w3 hbox hb;have n0_:=k0_ (below_step HB.out hb);have n1_:=k0_ (hbox);have n2_:=k0_ ((by rw [hg];exact (below_size HB.out) : w.heap.size ≤ gb108));have n3_:=k0_ ((by rw [hg];exact (below_size HB.out) : w.heap.size ≤ gb108));clear HB;have HB:=n0_;have BK108:=n1_;have GW108:=n2_;have GE108:=n3_;clear n0_ n1_ n2_ n3_;clear hb hbox hg;have hcz4_0 : w3.cell? ⟨gb108, 0, none⟩ = some (.int .i64 a0_0):=(blk_cell BK108.out 0).trans rfl;have hcz4_1 : w3.cell? ⟨gb108, 1, none⟩ = some (.int .i64 a0_1):=(blk_cell BK108.out 1).trans rfl;have hcz4_2 : w3.cell? ⟨gb108, 2, none⟩ = some (.slice A0_2 l0_2.length c0_2):=(blk_cell BK108.out 2).trans rfl;have hfz4_0:=blk_frozen BK108.out 0;have hfz4_1:=blk_frozen BK108.out 1;have hfz4_2:=blk_frozen BK108.out 2));try go_wp2_with (first|((with_reducible refine gate_dst (N:=2) rfl ?_);refine box_event ?hg (N:=2) ?hd (cs:=#[.int .i64 a0_0, .int .i64 a0_1, .slice A0_2 l0_2.length c0_2]) (t:=82) ?hr ?_;(case hd=>rfl);(case hg=>rfl);(case hr=>first|(go_simp;done)|(go_simp;rfl));intro gb108 hg w3 hbox hb;have n0_:=k0_ (below_step HB.out hb);have n1_:=k0_ (hbox);have n2_:=k0_ ((by rw [hg];exact (below_size HB.out) : w.heap.size ≤ gb108));have n3_:=k0_ ((by rw [hg];exact (below_size HB.out) : w.heap.size ≤ gb108));clear HB;have HB:=n0_;have BK108:=n1_;have GW108:=n2_;have GE108:=n3_;clear n0_ n1_ n2_ n3_;clear hb hbox hg;have hcz4_0 : w3.cell? ⟨gb108, 0, none⟩ = some (.int .i64 a0_0):=(blk_cell BK108.out 0).trans rfl;have hcz4_1 : w3.cell? ⟨gb108, 1, none⟩ = some (.int .i64 a0_1):=(blk_cell BK108.out 1).trans rfl;have hcz4_2 : w3.cell? ⟨gb108, 2, none⟩ = some (.slice A0_2 l0_2.length c0_2):=(blk_cell BK108.out 2).trans rfl;have hfz4_0:=blk_frozen BK108.out 0;have hfz4_1:=blk_frozen BK108.out 1;have hfz4_2:=blk_frozen BK108.out 2)))
 (try simp only [Act.put, q1_,q3_,q2_])
 go_loopg [5, 6, 17] k (fun kq v5 v6 v17 w'=>∃ (x5_1 : Int) (x6_1 : Int) (x17_1 : Int), v5 = .int .i64 x5_1∧v6 = .int .i64 x6_1∧v17 = .int .i64 x17_1∧Aside0 (convexpl_value.l0 kq a1 x5_1 x6_1 l0_2 (l0_2.length : Int) x17_1 = some r)∧Aside0 (kq ≤ k)∧Aside0 (w'.heap[gb108]? = some (.cells #[.int .i64 a0_0, .int .i64 a0_1, (.slice A0_2 l0_2.length c0_2)] 82 (0, 0)))∧Aside0 (Below w.heap.size w w'))
 case atStart=>exact ⟨(a0_1),(a0_0),(0),(by first|rfl|(simp;done)|(simp [*];done)),(by first|rfl|(simp;done)|(simp [*];done)),(by first|rfl|(simp;done)|(simp [*];done)), H', ⟨Nat.le_refl _⟩,⟨by (with_reducible repeat (first|refine blk_drewN ?_ _|refine blk_drew ?_|refine blk_alloc ?_ _));exact BK108.out⟩,⟨by repeat (first|(with_reducible first|exact HB.out|apply below_alloc|apply pw_below_drewN|apply below_drew1|refine below_set ?_ GE108.out)|exact HB.out)⟩⟩
 clear H';(try clear p2);(try clear hcz4_0);(try clear hcz4_1);(try clear hcz4_2);(try clear hfz4_0);(try clear hfz4_1);(try clear hfz4_2);obtain ⟨x5_1, x6_1, x17_1, rfl, rfl, rfl, HA, HK1, BK108, HB⟩:=hrel;obtain _|k1:=gk
 ·exact absurd HA.out (by simp [convexpl_value.l0])
 have H:=HA.out;clear HA;simp only [convexpl_value.l0] at H
 by_cases c5 : x17_1 < (l0_2.length : Int)
 ·rw [if_pos c5] at H
  have c5b0 : decide (x17_1 < (l0_2.length : Int)) = true:=decide_eq_true c5;clear c5
  by_cases c6 : 0 ≤ x17_1
  rotate_left
  ·rw [if_neg c6] at H
   exact absurd H (by simp)
  rw [if_pos c6] at H;have c6b0 : decide (0 ≤ x17_1) = true:=decide_eq_true c6;clear c6
  by_cases c7 : x17_1 < (l0_2.length : Int)
  rotate_left
  ·rw [if_neg c7] at H
   exact absurd H (by simp)
  rw [if_pos c7] at H;have c7b0 : decide (x17_1 < (l0_2.length : Int)) = true:=decide_eq_true c7;clear c7;obtain ⟨ji8, hji8⟩ : ∃ j_ : Int, (mn ((rd_T88 l0_2 x17_1).f0) (wrap64 (a1 - x6_1))) = j_:=⟨_, rfl⟩;replace H : (convexpl_value.l0 k1 a1 (wrap64 (x5_1 + (wrap64 ((ji8) * ((rd_T88 l0_2 x17_1).f1))))) (wrap64 (x6_1 + (ji8))) l0_2 (l0_2.length : Int) (wrap64 (x17_1 + 1))) = some r:=by first|(rw [hji8] at H;exact H)|(simp only [hji8] at H ⊢;exact H)
  have hji8_ : (if (wrap64 (a1 - x6_1)) < ((rd_T88 l0_2 x17_1).f0) then (wrap64 (a1 - x6_1)) else ((rd_T88 l0_2 x17_1).f0)) = ji8:=hji8;have H':=k0_ H;clear H;have p109 : 0 ≤ (x17_1 : Int):=of_decide_eq_true (by first|(with_reducible assumption)|assumption);have q109 : x17_1 < (l0_2.length : Int):=of_decide_eq_true (by first|(with_reducible assumption)|assumption);obtain ⟨ad109, e109, hx109_0, hx109_1⟩:=at_T88 HR0_2.out x17_1 p109 q109;cases e109;replace hx109_0:=(HB.out.cell (World.block_lt_of_cell? w _ hx109_0)).trans hx109_0;replace hx109_1:=(HB.out.cell (World.block_lt_of_cell? w _ hx109_1)).trans hx109_1;replace p109:=eq_true p109;replace q109:=eq_true q109
  go_wp2_with (first|((with_reducible refine gate_dst (N:=8) rfl ?_);refine box_event ?hg (N:=8) ?hd (cs:=#[.int .i64 0, .int .i64 0]) (t:=88) ?hr ?_;(case hd=>rfl);(case hg=>rfl);(case hr=>first|(go_simp;done)|(go_simp;rfl));intro gb110 hg w9 hbox hb;have n0_:=k0_ (blk_below BK108.out hb);have n1_:=k0_ (below_step HB.out hb);have n2_:=k0_ (hbox);have n3_:=k0_ ((by rw [hg];exact (below_size HB.out) : w.heap.size ≤ gb110));have n4_:=k0_ ((by rw [hg];exact (below_size HB.out) : w.heap.size ≤ gb110));have n5_:=k0_ ((by rw [hg];exact Nat.ne_of_lt (blk_lt BK108.out) : gb108 ≠ gb110));have n6_:=k0_ ((by rw [hg];exact Nat.ne_of_gt (blk_lt BK108.out) : gb110 ≠ gb108));clear BK108;clear HB;have BK108:=n0_;have HB:=n1_;have BK110:=n2_;have GW110:=n3_;have GE110:=n4_;have NB108_110:=n5_;have NB110_108:=n6_;clear n0_ n1_ n2_ n3_ n4_ n5_ n6_;clear hb hbox hg;have hnb10:=NB110_108.out;have hnc10:=NB108_110.out;have hcz11_0 : w9.cell? ⟨gb110, 0, none⟩ = some (.int .i64 0):=(blk_cell BK110.out 0).trans rfl;have hcz11_1 : w9.cell? ⟨gb110, 1, none⟩ = some (.int .i64 0):=(blk_cell BK110.out 1).trans rfl;have hfz11_0:=blk_frozen BK110.out 0;have hfz11_1:=blk_frozen BK110.out 1))
  repeat (go_quiet (first|((with_reducible refine gate_dst (N:=8) rfl ?_);refine box_event ?hg (N:=8) ?hd (cs:=#[.int .i64 0, .int .i64 0]) (t:=88) ?hr ?_;(case hd=>rfl);(case hg=>rfl);(case hr=>first|(go_simp;done)|(go_simp;rfl));intro gb110 hg w9 hbox hb;have n0_:=k0_ (blk_below BK108.out hb);have n1_:=k0_ (below_step HB.out hb);have n2_:=k0_ (hbox);have n3_:=k0_ ((by rw [hg];exact (below_size HB.out) : w.heap.size ≤ gb110));have n4_:=k0_ ((by rw [hg];exact (below_size HB.out) : w.heap.size ≤ gb110));have n5_:=k0_ ((by rw [hg];exact Nat.ne_of_lt (blk_lt BK108.out) : gb108 ≠ gb110));have n6_:=k0_ ((by rw [hg];exact Nat.ne_of_gt (blk_lt BK108.out) : gb110 ≠ gb108));clear BK108;clear HB;have BK108:=n0_;have HB:=n1_;have BK110:=n2_;have GW110:=n3_;have GE110:=n4_;have NB108_110:=n5_;have NB110_108:=n6_;clear n0_ n1_ n2_ n3_ n4_ n5_ n6_;clear hb hbox hg;have hnb10:=NB110_108.out;have hnc10:=NB108_110.out;have hcz11_0 : w9.cell? ⟨gb110, 0, none⟩ = some (.int .i64 0):=(blk_cell BK110.out 0).trans rfl;have hcz11_1 : w9.cell? ⟨gb110, 1, none⟩ = some (.int .i64 0):=(blk_cell BK110.out 1).trans rfl;have hfz11_0:=blk_frozen BK110.out 0;have hfz11_1:=blk_frozen BK110.out 1));try go_wp2_with (first|((with_reducible refine gate_dst (N:=8) rfl ?_);refine box_event ?hg (N:=8) ?hd (cs:=#[.int .i64 0, .int .i64 0]) (t:=88) ?hr ?_;(case hd=>rfl);(case hg=>rfl);(case hr=>first|(go_simp;done)|(go_simp;rfl));intro gb110 hg w9 hbox hb;have n0_:=k0_ (blk_below BK108.out hb);have n1_:=k0_ (below_step HB.out hb);have n2_:=k0_ (hbox);have n3_:=k0_ ((by rw [hg];exact (below_size HB.out) : w.heap.size ≤ gb110));have n4_:=k0_ ((by rw [hg];exact (below_size HB.out) : w.heap.size ≤ gb110));have n5_:=k0_ ((by rw [hg];exact Nat.ne_of_lt (blk_lt BK108.out) : gb108 ≠ gb110));have n6_:=k0_ ((by rw [hg];exact Nat.ne_of_gt (blk_lt BK108.out) : gb110 ≠ gb108));clear BK108;clear HB;have BK108:=n0_;have HB:=n1_;have BK110:=n2_;have GW110:=n3_;have GE110:=n4_;have NB108_110:=n5_;have NB110_108:=n6_;clear n0_ n1_ n2_ n3_ n4_ n5_ n6_;clear hb hbox hg;have hnb10:=NB110_108.out;have hnc10:=NB108_110.out;have hcz11_0 : w9.cell? ⟨gb110, 0, none⟩ = some (.int .i64 0):=(blk_cell BK110.out 0).trans rfl;have hcz11_1 : w9.cell? ⟨gb110, 1, none⟩ = some (.int .i64 0):=(blk_cell BK110.out 1).trans rfl;have hfz11_0:=blk_frozen BK110.out 0;have hfz11_1:=blk_frozen BK110.out 1)))
  go_roundg k1
  case measure=>have:=HK1.out;omega
  case rel=>exact ⟨(wrap64 (x5_1 + (wrap64 ((ji8) * ((rd_T88 l0_2 x17_1).f1))))),(wrap64 (x6_1 + (ji8))),(wrap64 (x17_1 + 1)),(by first|rfl|(simp;done)|(simp only [← hji8] <;> (first|rfl|simp))|(simp [*];done)),(by first|rfl|(simp;done)|(simp only [← hji8] <;> (first|rfl|simp))|(simp [*];done)),(by first|rfl|(simp;done)|(simp [*];done)), H', ⟨by have:=HK1.out;omega⟩,⟨by (with_reducible repeat (first|refine blk_drewN ?_ _|refine blk_drew ?_|refine blk_alloc ?_ _));refine blk_far ?_ NB108_110.out _;(with_reducible repeat (first|refine blk_drewN ?_ _|refine blk_drew ?_|refine blk_alloc ?_ _));refine blk_far ?_ NB108_110.out _;(with_reducible repeat (first|refine blk_drewN ?_ _|refine blk_drew ?_|refine blk_alloc ?_ _));exact BK108.out⟩,⟨by repeat (first|(with_reducible first|exact HB.out|apply below_alloc|apply pw_below_drewN|apply below_drew1|refine below_set ?_ GE108.out|refine below_set ?_ GE110.out)|exact HB.out)⟩⟩
 ·rw [if_neg c5] at H
  have c5b0 : decide (x17_1 < (l0_2.length : Int)) = false:=decide_eq_false c5;clear c5;obtain rfl:=Option.some.inj H;go_wp2
  repeat (go_quiet (fail);try go_wp2)
  go_ret
  exact ⟨by first|rfl|(simp [errW_none, errW_some] <;> rfl)|(simp [*, errW_none, errW_some] <;> rfl), HB.out⟩

/-! ### convexpl_At: function 69 -/
def convexpl_At.f (k : Nat) (a0_0 : Int) (a0_1 : Int) (l0_2 : List (S88)) (a1 : Int) : Option (Int × Int) := (convexpl_Check.f k a0_0 a0_1 l0_2).bind fun t112 => (if t112 = 0 then (if a1 < a0_0 then (some (0, 4)) else ((convexpl_high.f k a0_0 a0_1 l0_2).bind fun t113 => (if a1 > t113 then (some (0, 4)) else ((convexpl_value.f k a0_0 a0_1 l0_2 a1).bind fun t114 => (some (t114, 0)))))) else (some (0, t112)))
theorem convexpl_At.mono : ∀ a0 a1 a2 a3 k, LeO (convexpl_At.f k a0 a1 a2 a3) (convexpl_At.f (k + 1) a0 a1 a2 a3) := by
 intro a0 a1 a2 a3 k
 unfold convexpl_At.f
 repeat' first
   | (with_reducible exact convexpl_Check.mono _ _ _ _)
   | (with_reducible exact convexpl_high.mono _ _ _ _)
   | (with_reducible exact convexpl_value.mono _ _ _ _ _)
   | (with_reducible exact LeO.refl _)
   | (with_reducible exact LeO.none _)
   | (with_reducible refine LeO.ite ?_ ?_)
   | (with_reducible refine LeO.bind ?_ (fun _ => ?_))
   | exact convexpl_Check.mono _ _ _ _
   | exact convexpl_high.mono _ _ _ _
   | exact convexpl_value.mono _ _ _ _ _
   | exact LeO.none _
   | refine LeO.ite ?_ ?_
   | refine LeO.bind ?_ (fun _ => ?_)
set_option maxHeartbeats 8000000 in
set_option maxRecDepth 100000 in
theorem convexpl_At.calls (k : Nat) (a0_0 : Int) (a0_1 : Int) (A0_2 : Option Addr) (c0_2 : Nat) (l0_2 : List (S88)) (a1 : Int) (r1 : Int) (r2 : Int) (w : World) (hr0_2 : Kd.C k88 w A0_2 l0_2.length l0_2) (hc0_2 : l0_2.length ≤ c0_2) (h : convexpl_At.f k a0_0 a0_1 l0_2 a1 = some (r1, r2)) :
  Calls Try.prog 69 #[.agg #[.int .i64 a0_0, .int .i64 a0_1, .slice A0_2 l0_2.length c0_2], .int .i64 a1] w fun e w' => e = .returned (.tuple #[.int .i64 r1, .int .i64 r2]) ∧ Below w.heap.size w w' := by
 have hu82:=Try.underlying82;have HR0_2:=k0_ hr0_2;have HC0_2:=k0_ hc0_2;clear hr0_2 hc0_2;have HB:=k0_ (Below.refl w.heap.size w);have H : ((convexpl_Check.f k a0_0 a0_1 l0_2).bind fun t112=>(if t112 = 0 then (if a1 < a0_0 then (some (0, 4)) else ((convexpl_high.f k a0_0 a0_1 l0_2).bind fun t113=>(if a1 > t113 then (some (0, 4)) else ((convexpl_value.f k a0_0 a0_1 l0_2 a1).bind fun t114=>(some (t114, 0)))))) else (some (0, t112)))) = some (r1, r2):=h;clear h;replace H:=Option.bind_eq_some_iff.mp H;obtain ⟨t112, A30, H⟩:=H;replace H : (if t112 = 0 then (if a1 < a0_0 then (some (0, 4)) else ((convexpl_high.f k a0_0 a0_1 l0_2).bind fun t113=>(if a1 > t113 then (some (0, 4)) else ((convexpl_value.f k a0_0 a0_1 l0_2 a1).bind fun t114=>(some (t114, 0)))))) else (some (0, t112))) = some (r1, r2):=H;have A3:=k0_ A30;clear A30
 by_cases c4 : t112 = 0
 ·rw [if_pos c4] at H
  have c4b0 : (t112 == 0) = true:=beq_iff_eq.mpr c4;have c4b1 : (t112 != 0) = false:=bne_eq_false_iff_eq.mpr c4;clear c4
  by_cases c5 : a1 < a0_0
  ·rw [if_pos c5] at H
   have c5b0 : decide (a1 < a0_0) = true:=decide_eq_true c5;clear c5;simp only [Option.some.injEq, Prod.mk.injEq] at H;obtain ⟨rfl, rfl⟩:=H
   go_enter Try.func69, Try.ntmps69
   go_wp2_with (first|((with_reducible refine gate_dst (N:=2) rfl ?_);refine box_event ?hg (N:=2) ?hd (cs:=#[.int .i64 a0_0, .int .i64 a0_1, .slice A0_2 l0_2.length c0_2]) (t:=82) ?hr ?_;(case hd=>rfl);(case hg=>rfl);(case hr=>first|(go_simp;done)|(go_simp;rfl));intro gb111 hg w6 hbox hb;have n0_:=k0_ (below_step HB.out hb);have n1_:=k0_ (hbox);have n2_:=k0_ ((by rw [hg];exact (below_size HB.out) : w.heap.size ≤ gb111));have n3_:=k0_ ((by rw [hg];exact (below_size HB.out) : w.heap.size ≤ gb111));clear HB;have HB:=n0_;have BK111:=n1_;have GW111:=n2_;have GE111:=n3_;clear n0_ n1_ n2_ n3_;clear hb hbox hg;have hcz7_0 : w6.cell? ⟨gb111, 0, none⟩ = some (.int .i64 a0_0):=(blk_cell BK111.out 0).trans rfl;have hcz7_1 : w6.cell? ⟨gb111, 1, none⟩ = some (.int .i64 a0_1):=(blk_cell BK111.out 1).trans rfl;have hcz7_2 : w6.cell? ⟨gb111, 2, none⟩ = some (.slice A0_2 l0_2.length c0_2):=(blk_cell BK111.out 2).trans rfl;have hfz7_0:=blk_frozen BK111.out 0;have hfz7_1:=blk_frozen BK111.out 1;have hfz7_2:=blk_frozen BK111.out 2)|((with_reducible refine gate_callee (f:=71) rfl ?_);refine goesL_ (some 8) rfl rfl Try.func71 (by kernel_rfl) rfl #[.agg #[.int .i64 a0_0, .int .i64 a0_1, .slice A0_2 l0_2.length c0_2]] rfl (by (try simp only [List.map_toArray, List.map_cons, List.map_nil]);first|done|rfl|(simp only [List.length_drop, List.length_take];rfl)) ?_;(with_reducible refine (convexpl_Check.calls k a0_0 a0_1 _ _ l0_2 t112 _ ?side1 ?side2 A3.out).mono ?_);(case side1=>repeat (first|exact (Kd.C_below HR0_2.out HB.out)|(with_reducible refine Kd.C_alloc ?_ _)|(with_reducible refine Kd.C_drewN ?_ _)|(with_reducible refine Kd.C_drew ?_)));(case side2=>exact HC0_2.out);rintro e w8 ⟨rfl, hb⟩;refine ⟨_, rfl, ?_⟩;have n0_:=k0_ (blk_below BK111.out hb);have n1_:=k0_ (below_step HB.out hb);clear BK111;clear HB;have BK111:=n0_;have HB:=n1_;clear n0_ n1_;(try clear hb);(try clear hb2);(try clear hk);(try clear hi);have hcz9_0 : w8.cell? ⟨gb111, 0, none⟩ = some (.int .i64 a0_0):=(blk_cell BK111.out 0).trans rfl;have hcz9_1 : w8.cell? ⟨gb111, 1, none⟩ = some (.int .i64 a0_1):=(blk_cell BK111.out 1).trans rfl;have hcz9_2 : w8.cell? ⟨gb111, 2, none⟩ = some (.slice A0_2 l0_2.length c0_2):=(blk_cell BK111.out 2).trans rfl;have hfz9_0:=blk_frozen BK111.out 0;have hfz9_1:=blk_frozen BK111.out 1;have hfz9_2:=blk_frozen BK111.out 2))
   go_ret2
   exact ⟨by first|rfl|(simp [errW_none, errW_some] <;> rfl)|(simp [*, errW_none, errW_some] <;> rfl), HB.out⟩
  ·rw [if_neg c5] at H
   have c5b0 : decide (a1 < a0_0) = false:=decide_eq_false c5;clear c5;replace H:=Option.bind_eq_some_iff.mp H;obtain ⟨t113, A100, H⟩:=H;replace H : (if a1 > t113 then (some (0, 4)) else ((convexpl_value.f k a0_0 a0_1 l0_2 a1).bind fun t114=>(some (t114, 0)))) = some (r1, r2):=H;have A10:=k0_ A100;clear A100
   by_cases c11 : a1 > t113
   ·rw [if_pos c11] at H
    have c11b0 : decide (t113 < a1) = true:=decide_eq_true c11;clear c11;simp only [Option.some.injEq, Prod.mk.injEq] at H;obtain ⟨rfl, rfl⟩:=H
    go_enter Try.func69, Try.ntmps69
    go_wp2_with (first|((with_reducible refine gate_dst (N:=2) rfl ?_);refine box_event ?hg (N:=2) ?hd (cs:=#[.int .i64 a0_0, .int .i64 a0_1, .slice A0_2 l0_2.length c0_2]) (t:=82) ?hr ?_;(case hd=>rfl);(case hg=>rfl);(case hr=>first|(go_simp;done)|(go_simp;rfl));intro gb111 hg w12 hbox hb;have n0_:=k0_ (below_step HB.out hb);have n1_:=k0_ (hbox);have n2_:=k0_ ((by rw [hg];exact (below_size HB.out) : w.heap.size ≤ gb111));have n3_:=k0_ ((by rw [hg];exact (below_size HB.out) : w.heap.size ≤ gb111));clear HB;have HB:=n0_;have BK111:=n1_;have GW111:=n2_;have GE111:=n3_;clear n0_ n1_ n2_ n3_;clear hb hbox hg;have hcz13_0 : w12.cell? ⟨gb111, 0, none⟩ = some (.int .i64 a0_0):=(blk_cell BK111.out 0).trans rfl;have hcz13_1 : w12.cell? ⟨gb111, 1, none⟩ = some (.int .i64 a0_1):=(blk_cell BK111.out 1).trans rfl;have hcz13_2 : w12.cell? ⟨gb111, 2, none⟩ = some (.slice A0_2 l0_2.length c0_2):=(blk_cell BK111.out 2).trans rfl;have hfz13_0:=blk_frozen BK111.out 0;have hfz13_1:=blk_frozen BK111.out 1;have hfz13_2:=blk_frozen BK111.out 2)|((with_reducible refine gate_callee (f:=71) rfl ?_);refine goesL_ (some 8) rfl rfl Try.func71 (by kernel_rfl) rfl #[.agg #[.int .i64 a0_0, .int .i64 a0_1, .slice A0_2 l0_2.length c0_2]] rfl (by (try simp only [List.map_toArray, List.map_cons, List.map_nil]);first|done|rfl|(simp only [List.length_drop, List.length_take];rfl)) ?_;(with_reducible refine (convexpl_Check.calls k a0_0 a0_1 _ _ l0_2 t112 _ ?side1 ?side2 A3.out).mono ?_);(case side1=>repeat (first|exact (Kd.C_below HR0_2.out HB.out)|(with_reducible refine Kd.C_alloc ?_ _)|(with_reducible refine Kd.C_drewN ?_ _)|(with_reducible refine Kd.C_drew ?_)));(case side2=>exact HC0_2.out);rintro e w14 ⟨rfl, hb⟩;refine ⟨_, rfl, ?_⟩;have n0_:=k0_ (blk_below BK111.out hb);have n1_:=k0_ (below_step HB.out hb);clear BK111;clear HB;have BK111:=n0_;have HB:=n1_;clear n0_ n1_;(try clear hb);(try clear hb2);(try clear hk);(try clear hi);have hcz15_0 : w14.cell? ⟨gb111, 0, none⟩ = some (.int .i64 a0_0):=(blk_cell BK111.out 0).trans rfl;have hcz15_1 : w14.cell? ⟨gb111, 1, none⟩ = some (.int .i64 a0_1):=(blk_cell BK111.out 1).trans rfl;have hcz15_2 : w14.cell? ⟨gb111, 2, none⟩ = some (.slice A0_2 l0_2.length c0_2):=(blk_cell BK111.out 2).trans rfl;have hfz15_0:=blk_frozen BK111.out 0;have hfz15_1:=blk_frozen BK111.out 1;have hfz15_2:=blk_frozen BK111.out 2)|(go_at_call 72;(with_reducible refine (convexpl_high.calls k a0_0 a0_1 _ _ l0_2 t113 _ ?side1 ?side2 A10.out).mono ?_);(case side1=>repeat (first|exact (Kd.C_below HR0_2.out HB.out)|(with_reducible refine Kd.C_alloc ?_ _)|(with_reducible refine Kd.C_drewN ?_ _)|(with_reducible refine Kd.C_drew ?_)));(case side2=>exact HC0_2.out);rintro e w16 ⟨rfl, hb⟩;have n0_:=k0_ (blk_below BK111.out hb);have n1_:=k0_ (below_step HB.out hb);clear BK111;clear HB;have BK111:=n0_;have HB:=n1_;clear n0_ n1_;(try clear hb);(try clear hb2);(try clear hk);(try clear hi)))
    go_ret2
    exact ⟨by first|rfl|(simp [errW_none, errW_some] <;> rfl)|(simp [*, errW_none, errW_some] <;> rfl), HB.out⟩
   ·rw [if_neg c11] at H
    have c11b0 : decide (t113 < a1) = false:=decide_eq_false c11;clear c11;replace H:=Option.bind_eq_some_iff.mp H;obtain ⟨t114, A170, H⟩:=H;replace H : (some (t114, 0)) = some (r1, r2):=H;have A17:=k0_ A170;clear A170;simp only [Option.some.injEq, Prod.mk.injEq] at H;obtain ⟨rfl, rfl⟩:=H
    go_enter Try.func69, Try.ntmps69
    go_wp2_with (first|((with_reducible refine gate_dst (N:=2) rfl ?_);refine box_event ?hg (N:=2) ?hd (cs:=#[.int .i64 a0_0, .int .i64 a0_1, .slice A0_2 l0_2.length c0_2]) (t:=82) ?hr ?_;(case hd=>rfl);(case hg=>rfl);(case hr=>first|(go_simp;done)|(go_simp;rfl));intro gb111 hg w18 hbox hb;have n0_:=k0_ (below_step HB.out hb);have n1_:=k0_ (hbox);have n2_:=k0_ ((by rw [hg];exact (below_size HB.out) : w.heap.size ≤ gb111));have n3_:=k0_ ((by rw [hg];exact (below_size HB.out) : w.heap.size ≤ gb111));clear HB;have HB:=n0_;have BK111:=n1_;have GW111:=n2_;have GE111:=n3_;clear n0_ n1_ n2_ n3_;clear hb hbox hg;have hcz19_0 : w18.cell? ⟨gb111, 0, none⟩ = some (.int .i64 a0_0):=(blk_cell BK111.out 0).trans rfl;have hcz19_1 : w18.cell? ⟨gb111, 1, none⟩ = some (.int .i64 a0_1):=(blk_cell BK111.out 1).trans rfl;have hcz19_2 : w18.cell? ⟨gb111, 2, none⟩ = some (.slice A0_2 l0_2.length c0_2):=(blk_cell BK111.out 2).trans rfl;have hfz19_0:=blk_frozen BK111.out 0;have hfz19_1:=blk_frozen BK111.out 1;have hfz19_2:=blk_frozen BK111.out 2)|((with_reducible refine gate_callee (f:=71) rfl ?_);refine goesL_ (some 8) rfl rfl Try.func71 (by kernel_rfl) rfl #[.agg #[.int .i64 a0_0, .int .i64 a0_1, .slice A0_2 l0_2.length c0_2]] rfl (by (try simp only [List.map_toArray, List.map_cons, List.map_nil]);first|done|rfl|(simp only [List.length_drop, List.length_take];rfl)) ?_;(with_reducible refine (convexpl_Check.calls k a0_0 a0_1 _ _ l0_2 t112 _ ?side1 ?side2 A3.out).mono ?_);(case side1=>repeat (first|exact (Kd.C_below HR0_2.out HB.out)|(with_reducible refine Kd.C_alloc ?_ _)|(with_reducible refine Kd.C_drewN ?_ _)|(with_reducible refine Kd.C_drew ?_)));(case side2=>exact HC0_2.out);rintro e w20 ⟨rfl, hb⟩;refine ⟨_, rfl, ?_⟩;have n0_:=k0_ (blk_below BK111.out hb);have n1_:=k0_ (below_step HB.out hb);clear BK111;clear HB;have BK111:=n0_;have HB:=n1_;clear n0_ n1_;(try clear hb);(try clear hb2);(try clear hk);(try clear hi);have hcz21_0 : w20.cell? ⟨gb111, 0, none⟩ = some (.int .i64 a0_0):=(blk_cell BK111.out 0).trans rfl;have hcz21_1 : w20.cell? ⟨gb111, 1, none⟩ = some (.int .i64 a0_1):=(blk_cell BK111.out 1).trans rfl;have hcz21_2 : w20.cell? ⟨gb111, 2, none⟩ = some (.slice A0_2 l0_2.length c0_2):=(blk_cell BK111.out 2).trans rfl;have hfz21_0:=blk_frozen BK111.out 0;have hfz21_1:=blk_frozen BK111.out 1;have hfz21_2:=blk_frozen BK111.out 2)|(go_at_call 72;(with_reducible refine (convexpl_high.calls k a0_0 a0_1 _ _ l0_2 t113 _ ?side1 ?side2 A10.out).mono ?_);(case side1=>repeat (first|exact (Kd.C_below HR0_2.out HB.out)|(with_reducible refine Kd.C_alloc ?_ _)|(with_reducible refine Kd.C_drewN ?_ _)|(with_reducible refine Kd.C_drew ?_)));(case side2=>exact HC0_2.out);rintro e w22 ⟨rfl, hb⟩;have n0_:=k0_ (blk_below BK111.out hb);have n1_:=k0_ (below_step HB.out hb);clear BK111;clear HB;have BK111:=n0_;have HB:=n1_;clear n0_ n1_;(try clear hb);(try clear hb2);(try clear hk);(try clear hi);have hcz23_0 : w22.cell? ⟨gb111, 0, none⟩ = some (.int .i64 a0_0):=(blk_cell BK111.out 0).trans rfl;have hcz23_1 : w22.cell? ⟨gb111, 1, none⟩ = some (.int .i64 a0_1):=(blk_cell BK111.out 1).trans rfl;have hcz23_2 : w22.cell? ⟨gb111, 2, none⟩ = some (.slice A0_2 l0_2.length c0_2):=(blk_cell BK111.out 2).trans rfl;have hfz23_0:=blk_frozen BK111.out 0;have hfz23_1:=blk_frozen BK111.out 1;have hfz23_2:=blk_frozen BK111.out 2)|((with_reducible refine gate_callee (f:=74) rfl ?_);refine goesL_ (some 24) rfl rfl Try.func74 (by kernel_rfl) rfl #[.agg #[.int .i64 a0_0, .int .i64 a0_1, .slice A0_2 l0_2.length c0_2], .int .i64 a1] rfl (by (try simp only [List.map_toArray, List.map_cons, List.map_nil]);first|done|rfl|(simp only [List.length_drop, List.length_take];rfl)) ?_;(with_reducible refine (convexpl_value.calls k a0_0 a0_1 _ _ l0_2 a1 t114 _ ?side1 ?side2 A17.out).mono ?_);(case side1=>repeat (first|exact (Kd.C_below HR0_2.out HB.out)|(with_reducible refine Kd.C_alloc ?_ _)|(with_reducible refine Kd.C_drewN ?_ _)|(with_reducible refine Kd.C_drew ?_)));(case side2=>exact HC0_2.out);rintro e w24 ⟨rfl, hb⟩;refine ⟨_, rfl, ?_⟩;have n0_:=k0_ (blk_below BK111.out hb);have n1_:=k0_ (below_step HB.out hb);clear BK111;clear HB;have BK111:=n0_;have HB:=n1_;clear n0_ n1_;(try clear hb);(try clear hb2);(try clear hk);(try clear hi)))
    go_ret2
    exact ⟨by first|rfl|(simp [errW_none, errW_some] <;> rfl)|(simp [*, errW_none, errW_some] <;> rfl), HB.out⟩
 ·rw [if_neg c4] at H
  have c4b0 : (t112 == 0) = false:=beq_eq_false_iff_ne.mpr c4;have c4b1 : (t112 != 0) = true:=bne_iff_ne.mpr c4;simp only [Option.some.injEq, Prod.mk.injEq] at H;obtain ⟨rfl, rfl⟩:=H
  go_enter Try.func69, Try.ntmps69
  go_wp2_with (first|((with_reducible refine gate_dst (N:=2) rfl ?_);refine box_event ?hg (N:=2) ?hd (cs:=#[.int .i64 a0_0, .int .i64 a0_1, .slice A0_2 l0_2.length c0_2]) (t:=82) ?hr ?_;(case hd=>rfl);(case hg=>rfl);(case hr=>first|(go_simp;done)|(go_simp;rfl));intro gb111 hg w25 hbox hb;have n0_:=k0_ (below_step HB.out hb);have n1_:=k0_ (hbox);have n2_:=k0_ ((by rw [hg];exact (below_size HB.out) : w.heap.size ≤ gb111));have n3_:=k0_ ((by rw [hg];exact (below_size HB.out) : w.heap.size ≤ gb111));clear HB;have HB:=n0_;have BK111:=n1_;have GW111:=n2_;have GE111:=n3_;clear n0_ n1_ n2_ n3_;clear hb hbox hg;have hcz26_0 : w25.cell? ⟨gb111, 0, none⟩ = some (.int .i64 a0_0):=(blk_cell BK111.out 0).trans rfl;have hcz26_1 : w25.cell? ⟨gb111, 1, none⟩ = some (.int .i64 a0_1):=(blk_cell BK111.out 1).trans rfl;have hcz26_2 : w25.cell? ⟨gb111, 2, none⟩ = some (.slice A0_2 l0_2.length c0_2):=(blk_cell BK111.out 2).trans rfl;have hfz26_0:=blk_frozen BK111.out 0;have hfz26_1:=blk_frozen BK111.out 1;have hfz26_2:=blk_frozen BK111.out 2)|((with_reducible refine gate_callee (f:=71) rfl ?_);refine goesL_ (some 8) rfl rfl Try.func71 (by kernel_rfl) rfl #[.agg #[.int .i64 a0_0, .int .i64 a0_1, .slice A0_2 l0_2.length c0_2]] rfl (by (try simp only [List.map_toArray, List.map_cons, List.map_nil]);first|done|rfl|(simp only [List.length_drop, List.length_take];rfl)) ?_;(with_reducible refine (convexpl_Check.calls k a0_0 a0_1 _ _ l0_2 t112 _ ?side1 ?side2 A3.out).mono ?_);(case side1=>repeat (first|exact (Kd.C_below HR0_2.out HB.out)|(with_reducible refine Kd.C_alloc ?_ _)|(with_reducible refine Kd.C_drewN ?_ _)|(with_reducible refine Kd.C_drew ?_)));(case side2=>exact HC0_2.out);rintro e w27 ⟨rfl, hb⟩;refine ⟨_, rfl, ?_⟩;have n0_:=k0_ (blk_below BK111.out hb);have n1_:=k0_ (below_step HB.out hb);clear BK111;clear HB;have BK111:=n0_;have HB:=n1_;clear n0_ n1_;(try clear hb);(try clear hb2);(try clear hk);(try clear hi)))
  go_ret2
  exact ⟨by first|rfl|(simp [errW_none, errW_some] <;> rfl)|(simp [*, errW_none, errW_some] <;> rfl), HB.out⟩

/-! ### gridhalllaw3_rises: function 70 -/
def gridhalllaw3_rises.f  : Option (Int × Int × (List (S88))) := some (0, 0, (([(⟨10, 5⟩ : S88), (⟨10, 8⟩ : S88)] : List (S88))))
set_option maxHeartbeats 8000000 in
set_option maxRecDepth 100000 in
theorem gridhalllaw3_rises.calls  (r1 : Int) (r2 : Int) (r3 : List (S88)) (w : World) (h : gridhalllaw3_rises.f  = some (r1, r2, r3)) :
  Calls Try.prog 70 #[] w fun e w' => ∃ v2_ : Value, e = .returned (.agg #[.int .i64 r1, .int .i64 r2, v2_]) ∧ Kd.R k88 88 w' w.heap.size (fun _ => True) v2_ r3 ∧ Below w.heap.size w w' := by
 have hu82:=Try.underlying82;have hu88:=Try.underlying88;have HB:=k0_ (Below.refl w.heap.size w);have H : (some (0, 0, (([(⟨10, 5⟩ : S88),(⟨10, 8⟩ : S88)] : List (S88))))) = some (r1, r2, r3):=h;clear h;obtain ⟨y116, hy116⟩ : ∃ y_ : List (S88), y_ = (([(⟨10, 5⟩ : S88),(⟨10, 8⟩ : S88)] : List (S88))):=⟨_, rfl⟩;replace H : (some (0, 0, y116)) = some (r1, r2, r3):=by first|(rw [hy116];with_reducible exact H)|(have H2_:=(Option.bind_some _ _).symm.trans H;rw [hy116];with_reducible exact H2_)|(have H2_:=(Option.bind_some _ _).symm.trans H;with_reducible exact H2_)|with_reducible exact H|(rw [hy116];exact H)|exact H
 have Ny116:=k0_ hy116;clear hy116;simp only [Option.some.injEq, Prod.mk.injEq] at H;obtain ⟨rfl, rfl, rfl⟩:=H
 go_enter Try.func70, Try.ntmps70
 go_wp2_with (first|((with_reducible refine gate_dst (N:=0) rfl ?_);refine box_event ?hg (N:=0) ?hd (cs:=#[.int .i64 0, .int .i64 0, .slice none 0 0]) (t:=82) ?hr ?_;(case hd=>rfl);(case hg=>rfl);(case hr=>first|(go_simp;done)|(go_simp;rfl));intro gb115 hg w1 hbox hb;have n0_:=k0_ (below_step HB.out hb);have n1_:=k0_ (hbox);have n2_:=k0_ ((by rw [hg];exact (below_size HB.out) : w.heap.size ≤ gb115));have n3_:=k0_ ((by rw [hg];exact (below_size HB.out) : w.heap.size ≤ gb115));clear HB;have HB:=n0_;have BK115:=n1_;have GW115:=n2_;have GE115:=n3_;clear n0_ n1_ n2_ n3_;clear hb hbox hg)|((with_reducible refine gate_dst (N:=3) rfl ?_);refine Kd.R_lit k88 _ 88 ?hg (N:=3) ?hd (xs:=([(⟨10, 5⟩ : S88),(⟨10, 8⟩ : S88)] : List (S88))) (inner:=[.int .i64 10, .int .i64 5, .int .i64 10, .int .i64 8]) (ok:=fun _=>True) (okp:=fun _=>True) ?hr ?hp (fun _ hk=>hk) trivial (Below.refl _ _) (Nat.le_refl _) (by simp) ?_;(case hd=>rfl);(case hg=>rfl);(case hr=>first|(go_simp;done)|(go_simp;rfl));(case hp=>exact (Reps.c2 (show Kd.M k88 _ _ _ (⟨10, 5⟩ : S88) [.int .i64 10, .int .i64 5] from (k88_mkM _ _ _ (⟨10, 5⟩ : S88) )) (Reps.c2 (show Kd.M k88 _ _ _ (⟨10, 8⟩ : S88) [.int .i64 10, .int .i64 8] from (k88_mkM _ _ _ (⟨10, 8⟩ : S88) )) (Reps.none _ _))));intro v117 w2 ho3 hb hg_ hnew_;clear hg_ hnew_;(first|rw [← Ny116.out] at ho3|(simp only [Int.reduceToNat] at ho3;rw [← Ny116.out] at ho3));have n0_:=k0_ (Kd.R_lower ho3 (below_size HB.out));have n1_:=k0_ (blk_below BK115.out hb);have n2_:=k0_ (below_step HB.out hb);clear BK115;clear HB;have HO118:=n0_;have BK115:=n1_;have HB:=n2_;clear n0_ n1_ n2_;clear hb ho3;obtain ⟨Ao4, co4, eo4⟩:=Kd.R_slice HO118.out;subst eo4;have hcz5_0 : w2.cell? ⟨gb115, 0, none⟩ = some (.int .i64 0):=(blk_cell BK115.out 0).trans rfl;have hcz5_1 : w2.cell? ⟨gb115, 1, none⟩ = some (.int .i64 0):=(blk_cell BK115.out 1).trans rfl;have hcz5_2 : w2.cell? ⟨gb115, 2, none⟩ = some (.slice none 0 0):=(blk_cell BK115.out 2).trans rfl;have hfz5_0:=blk_frozen BK115.out 0;have hfz5_1:=blk_frozen BK115.out 1;have hfz5_2:=blk_frozen BK115.out 2))
 refine bodyPost_ret (results_cell_row rfl _ _ gb115 82 #[.int .i64 0, .int .i64 0, .slice Ao4 y116.length co4] (0, 0) _ rfl (by (with_reducible repeat (first|refine blk_drewN ?_ _|refine blk_drew ?_|refine blk_alloc ?_ _));refine blk_put (cs:=#[.int .i64 0, .int .i64 0, .slice none 0 0]) ?_ 2 _ rfl;(with_reducible repeat (first|refine blk_drewN ?_ _|refine blk_drew ?_|refine blk_alloc ?_ _));refine blk_put (cs:=#[.int .i64 0, .int .i64 0, .slice none 0 0]) ?_ 1 _ rfl;(with_reducible repeat (first|refine blk_drewN ?_ _|refine blk_drew ?_|refine blk_alloc ?_ _));refine blk_put (cs:=#[.int .i64 0, .int .i64 0, .slice none 0 0]) ?_ 0 _ rfl;(with_reducible repeat (first|refine blk_drewN ?_ _|refine blk_drew ?_|refine blk_alloc ?_ _));exact BK115.out) Try.underlying82 rfl (by kernel_rfl)) rfl ?_
 exact ⟨_, by first|rfl|(simp [errW_none, errW_some] <;> rfl)|(simp [*, errW_none, errW_some] <;> rfl), by (with_reducible repeat (first|apply Kd.R_alloc|apply Kd.R_drewN|apply Kd.R_drew));exact Kd.R_mono (Kd.R_far (p:=⟨gb115, 2, none⟩) (Kd.R_far (p:=⟨gb115, 1, none⟩) (Kd.R_far (p:=⟨gb115, 0, none⟩) (Kd.R_types HO118.out BK115.out (by decide)) (fun _ hk=>hk.2) (.int .i64 0)) (fun _ hk=>hk.2) (.int .i64 0)) (fun _ hk=>hk.2) (.slice Ao4 y116.length co4)) (fun _ hk=>trivial), by repeat (first|(with_reducible first|exact HB.out|apply below_alloc|apply pw_below_drewN|apply below_drew1|refine below_set ?_ GE115.out)|exact HB.out)⟩

/-! ### gridhalllaw3_slopes: function 31 -/
def gridhalllaw3_slopes.f (k : Nat)  : Option (Bool) := (gridhalllaw3_rises.f).bind fun bt119 => ((convexpl_At.f k bt119.1 bt119.2.1 bt119.2.2 12).bind fun bt124 => (if bt124.2 = 0 then (some (bt124.1 == 66)) else (some false)))
theorem gridhalllaw3_slopes.mono : ∀ k, LeO (gridhalllaw3_slopes.f k ) (gridhalllaw3_slopes.f (k + 1) ) := by
 intro  k
 unfold gridhalllaw3_slopes.f
 repeat' first
   | (with_reducible exact convexpl_At.mono _ _ _ _ _)
   | (with_reducible exact LeO.refl _)
   | (with_reducible exact LeO.none _)
   | (with_reducible refine LeO.ite ?_ ?_)
   | (with_reducible refine LeO.bind ?_ (fun _ => ?_))
   | exact convexpl_At.mono _ _ _ _ _
   | exact LeO.none _
   | refine LeO.ite ?_ ?_
   | refine LeO.bind ?_ (fun _ => ?_)
set_option maxHeartbeats 8000000 in
set_option maxRecDepth 100000 in
theorem gridhalllaw3_slopes.calls (k : Nat)  (r : Bool) (w : World) (h : gridhalllaw3_slopes.f k  = some r) :
  Calls Try.prog 31 #[] w fun e w' => e = .returned (.bool r) ∧ Below w.heap.size w w' := by
 have HB:=k0_ (Below.refl w.heap.size w);have H : ((gridhalllaw3_rises.f).bind fun bt119=>((convexpl_At.f k bt119.1 bt119.2.1 bt119.2.2 12).bind fun bt124=>(if bt124.2 = 0 then (some (bt124.1 == 66)) else (some false)))) = some r:=h;clear h;replace H:=Option.bind_eq_some_iff.mp H;obtain ⟨⟨t119, t120, t121⟩, A10, H⟩:=H;replace H : ((convexpl_At.f k t119 t120 t121 12).bind fun bt124=>(if bt124.2 = 0 then (some (bt124.1 == 66)) else (some false))) = some r:=H;have A1:=k0_ A10;clear A10;replace H:=Option.bind_eq_some_iff.mp H;obtain ⟨⟨t124, t125⟩, A20, H⟩:=H;replace H : (if t125 = 0 then (some (t124 == 66)) else (some false)) = some r:=H;have A2:=k0_ A20;clear A20
 by_cases c3 : t125 = 0
 ·rw [if_pos c3] at H
  have c3b0 : (t125 == 0) = true:=beq_iff_eq.mpr c3;have c3b1 : (t125 != 0) = false:=bne_eq_false_iff_eq.mpr c3;clear c3;obtain rfl:=Option.some.inj H
  go_enter Try.func31, Try.ntmps31
  go_wp2_with (first|((with_reducible refine gate_callee (f:=70) rfl ?_);refine goesL_ (some 4) rfl rfl Try.func70 (by kernel_rfl) rfl #[] rfl (by (try simp only [List.map_toArray, List.map_cons, List.map_nil]);first|done|rfl|(simp only [List.length_drop, List.length_take];rfl)) ?_;(with_reducible refine (gridhalllaw3_rises.calls  t119 t120 t121 _ A1.out).mono ?_);rintro e w4 ⟨v122, rfl, ho0, hb⟩;refine ⟨_, rfl, ?_⟩;have n0_:=k0_ (Kd.R_lower ho0 (below_size HB.out));have n1_:=k0_ (below_step HB.out hb);clear HB;have HO123:=n0_;have HB:=n1_;clear n0_ n1_;(try clear hb);(try clear hb2);(try clear hk);(try clear hi);(try clear ho0);obtain ⟨Ao5, co5, eo5⟩:=Kd.R_slice HO123.out;subst eo5)|((with_reducible refine gate_callee (f:=69) rfl ?_);refine goesL_ (some 5) rfl rfl Try.func69 (by kernel_rfl) rfl #[.agg #[.int .i64 t119, .int .i64 t120, .slice Ao5 t121.length co5], .int .i64 12] rfl (by (try simp only [List.map_toArray, List.map_cons, List.map_nil]);first|done|rfl|(simp only [List.length_drop, List.length_take];rfl)) ?_;(with_reducible refine (convexpl_At.calls k t119 t120 _ _ t121 12 t124 t125 _ ?side1 ?side2 A2.out).mono ?_);(case side1=>repeat (first|exact (Kd.R_reads' HO123.out).2.2|(with_reducible refine Kd.C_alloc ?_ _)|(with_reducible refine Kd.C_drewN ?_ _)|(with_reducible refine Kd.C_drew ?_)));(case side2=>exact (Kd.R_reads' HO123.out).2.1);rintro e w6 ⟨rfl, hb⟩;refine ⟨_, rfl, ?_⟩;have n0_:=k0_ (Kd.R_below HO123.out hb);have n1_:=k0_ (below_step HB.out hb);clear HO123;clear HB;have HO123:=n0_;have HB:=n1_;clear n0_ n1_;(try clear hb);(try clear hb2);(try clear hk);(try clear hi)))
  go_ret
  exact ⟨by first|rfl|(simp [errW_none, errW_some] <;> rfl)|(simp [*, errW_none, errW_some] <;> rfl), HB.out⟩
 ·rw [if_neg c3] at H
  have c3b0 : (t125 == 0) = false:=beq_eq_false_iff_ne.mpr c3;have c3b1 : (t125 != 0) = true:=bne_iff_ne.mpr c3;obtain rfl:=Option.some.inj H
  go_enter Try.func31, Try.ntmps31
  go_wp2_with (first|((with_reducible refine gate_callee (f:=70) rfl ?_);refine goesL_ (some 4) rfl rfl Try.func70 (by kernel_rfl) rfl #[] rfl (by (try simp only [List.map_toArray, List.map_cons, List.map_nil]);first|done|rfl|(simp only [List.length_drop, List.length_take];rfl)) ?_;(with_reducible refine (gridhalllaw3_rises.calls  t119 t120 t121 _ A1.out).mono ?_);rintro e w7 ⟨v122, rfl, ho0, hb⟩;refine ⟨_, rfl, ?_⟩;have n0_:=k0_ (Kd.R_lower ho0 (below_size HB.out));have n1_:=k0_ (below_step HB.out hb);clear HB;have HO123:=n0_;have HB:=n1_;clear n0_ n1_;(try clear hb);(try clear hb2);(try clear hk);(try clear hi);(try clear ho0);obtain ⟨Ao8, co8, eo8⟩:=Kd.R_slice HO123.out;subst eo8)|((with_reducible refine gate_callee (f:=69) rfl ?_);refine goesL_ (some 5) rfl rfl Try.func69 (by kernel_rfl) rfl #[.agg #[.int .i64 t119, .int .i64 t120, .slice Ao8 t121.length co8], .int .i64 12] rfl (by (try simp only [List.map_toArray, List.map_cons, List.map_nil]);first|done|rfl|(simp only [List.length_drop, List.length_take];rfl)) ?_;(with_reducible refine (convexpl_At.calls k t119 t120 _ _ t121 12 t124 t125 _ ?side1 ?side2 A2.out).mono ?_);(case side1=>repeat (first|exact (Kd.R_reads' HO123.out).2.2|(with_reducible refine Kd.C_alloc ?_ _)|(with_reducible refine Kd.C_drewN ?_ _)|(with_reducible refine Kd.C_drew ?_)));(case side2=>exact (Kd.R_reads' HO123.out).2.1);rintro e w9 ⟨rfl, hb⟩;refine ⟨_, rfl, ?_⟩;have n0_:=k0_ (Kd.R_below HO123.out hb);have n1_:=k0_ (below_step HB.out hb);clear HO123;clear HB;have HO123:=n0_;have HB:=n1_;clear n0_ n1_;(try clear hb);(try clear hb2);(try clear hk);(try clear hi)))
  go_ret
  exact ⟨by first|rfl|(simp [errW_none, errW_some] <;> rfl)|(simp [*, errW_none, errW_some] <;> rfl), HB.out⟩

/-! ### gridhallref3_In: function 14 -/
def gridhallref3_In.f (a0 : Int) (a1 : Int) (a2 : Int) : Option (Bool) := if a0 ≥ a1 then (some (decide (a0 ≤ a2))) else (some false)
set_option maxHeartbeats 8000000 in
set_option maxRecDepth 100000 in
theorem gridhallref3_In.calls (a0 : Int) (a1 : Int) (a2 : Int) (r : Bool) (w : World) (h : gridhallref3_In.f a0 a1 a2 = some r) :
  Calls Try.prog 14 #[.int .i64 a0, .int .i64 a1, .int .i64 a2] w fun e w' => e = .returned (.bool r) ∧ Drawn0 w w' := by
 have H : (if a0 ≥ a1 then (some (decide (a0 ≤ a2))) else (some false)) = some r:=h;clear h
 by_cases c4 : a0 ≥ a1
 ·rw [if_pos c4] at H
  have c4b0 : decide (a1 ≤ a0) = true:=decide_eq_true c4;clear c4;obtain rfl:=Option.some.inj H
  go_enter Try.func14, Try.ntmps14
  go_wp2
  go_ret
  exact ⟨by first|rfl|(simp;done)|(simp [*];done), by repeat (first|exact Drawn0.refl _|apply Drawn0.step)⟩
 ·rw [if_neg c4] at H
  have c4b0 : decide (a1 ≤ a0) = false:=decide_eq_false c4;clear c4;obtain rfl:=Option.some.inj H
  go_enter Try.func14, Try.ntmps14
  go_wp2
  go_ret
  exact ⟨by first|rfl|(simp;done)|(simp [*];done), by repeat (first|exact Drawn0.refl _|apply Drawn0.step)⟩

end Go.Proofs.Ytdgjelbkogfedaa.PConvexSums
