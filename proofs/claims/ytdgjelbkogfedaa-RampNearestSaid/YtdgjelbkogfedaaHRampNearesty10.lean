/- Contracts of functions that RampNearest reaches, a text of this session's own. -/
import Derived.Test.YtdgjelbkogfedaaBox2
import Derived.Lib.SliceRun
import Derived.Test.YtdgjelbkogfedaaHRampNearesty0
import Derived.Test.YtdgjelbkogfedaaHRampNearesty2
namespace Go.Proofs.Ytdgjelbkogfedaa.PRampNearest
open Go.RowKit Go.Proofs.YtdgjelbkogfedaaW.PrintWords Go.Proofs.YtdgjelbkogfedaaW.PrintLast Go.Proofs.YtdgjelbkogfedaaW.PrintMore
attribute [local go_sem] max2_int min2_int max_two min_two max_three min_three max_four min_four   -- for this text's walks alone
set_option linter.unusedVariables false
set_option linter.unusedSimpArgs false

/-! ### ramp_Check: function 42 -/
def ramp_Check.l0 : Nat → Int → Int → Int → List (S97) → Int → Int → Option (Int)
 | 0, _, _, _, _, _, _ => none
 | k + 1, x1, x2, x3, x14, x15, x16 => if x16 < x15 then (if 0 ≤ x16 then (if x16 < (x14.length : Int) then (if ((rd_T97 x14 x16).f0) < 0 then (some 4) else (if ((rd_T97 x14 x16).f0) > ((rd_T97 x14 x16).f1) then (some 4) else (if ((rd_T97 x14 x16).f1) > 100000 then (some 4) else (ramp_Check.l0 k x1 x2 x3 x14 x15 (wrap64 (x16 + 1)))))) else (none)) else (none)) else (if x1 < 0 then (some 4) else (if x1 > 100000 then (some 4) else (if x2 < 0 then (some 4) else (if x2 > 100000 then (some 4) else (if x3 < 0 then (some 4) else (if x3 > 100000 then (some 4) else (some 0)))))))
def ramp_Check.f (k : Nat) (l0 : List (S97)) (a1 : Int) (a2 : Int) (a3 : Int) : Option (Int) := if (l0.length : Int) > 24 then (some 2) else (ramp_Check.l0 k a1 a2 a3 l0 (l0.length : Int) 0)
theorem ramp_Check.mono_l : ∀ k, (∀ y0 y1 y2 y3 y4 y5, LeO (ramp_Check.l0 k y0 y1 y2 y3 y4 y5) (ramp_Check.l0 (k + 1) y0 y1 y2 y3 y4 y5))
 | 0 => fun _ _ _ _ _ _ r h => by simp [ramp_Check.l0] at h
 | k + 1 => by
  have ih0:=ramp_Check.mono_l k
  ·intro y0 y1 y2 y3 y4 y5
   unfold ramp_Check.l0
   repeat' first|(with_reducible first|exact ih0 _ _ _ _ _ _|exact LeO.refl _|exact LeO.none _|refine LeO.ite ?_ ?_|refine LeO.bind ?_ (fun _=>?_))|exact ih0 _ _ _ _ _ _|exact LeO.none _|refine LeO.ite ?_ ?_|refine LeO.bind ?_ (fun _=>?_)
theorem ramp_Check.mono : ∀ a0 a1 a2 a3 k, LeO (ramp_Check.f k a0 a1 a2 a3) (ramp_Check.f (k + 1) a0 a1 a2 a3) := by
 intro a0 a1 a2 a3 k
 have ih0:=ramp_Check.mono_l k
 unfold ramp_Check.f
 repeat' first|(with_reducible first|exact ih0 _ _ _ _ _ _|exact LeO.refl _|exact LeO.none _|refine LeO.ite ?_ ?_|refine LeO.bind ?_ (fun _=>?_))|exact ih0 _ _ _ _ _ _|exact LeO.none _|refine LeO.ite ?_ ?_|refine LeO.bind ?_ (fun _=>?_)
set_option maxHeartbeats 8000000 in
set_option maxRecDepth 100000 in
theorem ramp_Check.calls (k : Nat) (A0 : Option Addr) (c0 : Nat) (l0 : List (S97)) (a1 : Int) (a2 : Int) (a3 : Int) (r : Int) (w : World) (hr0 : Kd.C k97 w A0 l0.length l0) (hc0 : l0.length ≤ c0) (h : ramp_Check.f k l0 a1 a2 a3 = some r) :
  Calls Try.prog 42 #[.slice A0 l0.length c0, .int .i64 a1, .int .i64 a2, .int .i64 a3] w fun e w' => e = .returned (.int .i64 r) ∧ Below w.heap.size w w' := by
 have hu97:=Try.underlying97;have HR0:=k0_ hr0;have HC0:=k0_ hc0;clear hr0 hc0;have HB:=k0_ (Below.refl w.heap.size w);have H : (if (l0.length : Int) > 24 then (some 2) else (ramp_Check.l0 k a1 a2 a3 l0 (l0.length : Int) 0)) = some r:=h;clear h
 by_cases c5 : (l0.length : Int) > 24
 ·rw [if_pos c5] at H
  have c5b0:=decide_eq_true c5;have c5b1 : decide (24 < l0.length) = true:=decide_eq_true (by omega);clear c5;obtain rfl:=Option.some.inj H
  go_enter Try.func42, Try.ntmps42
  go_wp2
  go_ret
  exact ⟨er_, hb0_ HB.out⟩
 ·rw [if_neg c5] at H
  have c5b0:=decide_eq_false c5;have c5b1 : decide (24 < l0.length) = false:=decide_eq_false (by omega);clear c5;have H':=k0_ H;clear H
  go_enter Try.func42, Try.ntmps42
  go_wp2;(try simp only [Act.put, q1_,q3_,q2_])
  go_loopg [16] k (fun kq v16 w'=>∃ (x16_1 : Int), v16 = .int .i64 x16_1∧Aside0 (ramp_Check.l0 kq a1 a2 a3 l0 (l0.length : Int) x16_1 = some r)∧Aside0 (kq ≤ k)∧Aside0 (Below w.heap.size w w'))
  case atStart=>exact ⟨(0),rs_, H', ⟨Nat.le_refl _⟩,⟨hb0_ HB.out⟩⟩
  clear H';(try clear p2);(try clear c4);(try clear c5);(try clear c5b0);(try clear c5b1);obtain ⟨x16_1, rfl, HA, HK1, HB⟩:=hrel;obtain _|k1:=gk
  ·exact absurd HA.out (by simp [ramp_Check.l0])
  have H:=HA.out;clear HA;simp only [ramp_Check.l0] at H
  by_cases c6 : x16_1 < (l0.length : Int)
  ·rw [if_pos c6] at H
   have c6b0:=decide_eq_true c6;clear c6
   by_cases c7 : 0 ≤ x16_1
   rw [if_pos c7] at H;have c7b0:=decide_eq_true c7;clear c7
   focus
    by_cases c8 : x16_1 < (l0.length : Int)
    rw [if_pos c8] at H;have c8b0:=decide_eq_true c8;clear c8
    focus
     by_cases c9 : ((rd_T97 l0 x16_1).f0) < 0
     rw [if_pos c9] at H;have c9b0:=decide_eq_true c9;clear c9;obtain rfl:=Option.some.inj H;rotate_left;rw [if_neg c9] at H;have c9b0:=decide_eq_false c9;clear c9
     focus
      by_cases c12 : ((rd_T97 l0 x16_1).f0) > ((rd_T97 l0 x16_1).f1)
      rw [if_pos c12] at H;have c12b0:=decide_eq_true c12;clear c12;obtain rfl:=Option.some.inj H;rotate_left;rw [if_neg c12] at H;have c12b0:=decide_eq_false c12;clear c12
      focus
       by_cases c15 : ((rd_T97 l0 x16_1).f1) > 100000
       rw [if_pos c15] at H;have c15b0:=decide_eq_true c15;clear c15;obtain rfl:=Option.some.inj H;rotate_left;rw [if_neg c15] at H;have c15b0:=decide_eq_false c15;clear c15;have H':=k0_ H;clear H;rotate_left
      rotate_left 2
     rotate_left 3
    rotate_left 4;rw [if_neg c8] at H
    exact absurd H (by simp)
   rotate_left 4;rw [if_neg c7] at H
   exact absurd H (by simp)
   all_goals
    have p149 : 0 ≤ (x16_1 : Int):=of_decide_eq_true as_;have q149 : x16_1 < (l0.length : Int):=of_decide_eq_true as_;obtain ⟨ad149, e149, hx149_0, hx149_1⟩:=at_T97 HR0.out x16_1 p149 q149;cases e149;replace hx149_0:=bt_ HB.out hx149_0;replace hx149_1:=bt_ HB.out hx149_1;replace p149:=eq_true p149;replace q149:=eq_true q149
    go_wp2_with (first|((with_reducible refine gate_dst (N:=10) rfl ?_);refine box_event ?hg (N:=10) ?hd (cs:=#[.int .i64 0, .int .i64 0]) (t:=97) ?hr ?_;(case hd=>rfl);(case hg=>rfl);(case hr=>first|(go_simp;done)|(go_simp;rfl));intro gb150 hg w10 hbox hb;have BK150:=k0_ (hbox);have GW150:=k0_ ((by rw [hg];exact (below_size (hb0_ HB.out)) : w.heap.size ≤ gb150));have GE150:=k0_ ((by rw [hg];exact (below_size (hb0_ HB.out)) : w.heap.size ≤ gb150));replace HB:=k0_ (below_step (hb0_ HB.out) hb);clear hb hbox hg;obtain ⟨hcz11_0,hcz11_1⟩:=bc2_ BK150.out;obtain ⟨hfz11_0,hfz11_1⟩:=bf2_ BK150.out))
   ·go_ret
    exact ⟨er_, hb1_ HB.out GE150.out⟩
   ·go_ret
    exact ⟨er_, hb1_ HB.out GE150.out⟩
   ·go_ret
    exact ⟨er_, hb1_ HB.out GE150.out⟩
   ·go_roundg k1
    case measure=>have:=HK1.out;omega
    case rel=>exact ⟨(wrap64 (x16_1 + 1)),rs_, H', ⟨by have:=HK1.out;omega⟩,⟨hb1_ HB.out GE150.out⟩⟩
  ·rw [if_neg c6] at H
   have c6b0:=decide_eq_false c6;clear c6
   by_cases c20 : a1 < 0
   ·rw [if_pos c20] at H
    have c20b0:=decide_eq_true c20;clear c20;obtain rfl:=Option.some.inj H;go_wp2
    go_ret
    exact ⟨er_, hb0_ HB.out⟩
   ·rw [if_neg c20] at H
    have c20b0:=decide_eq_false c20;clear c20
    by_cases c21 : a1 > 100000
    ·rw [if_pos c21] at H
     have c21b0:=decide_eq_true c21;clear c21;obtain rfl:=Option.some.inj H;go_wp2
     go_ret
     exact ⟨er_, hb0_ HB.out⟩
    ·rw [if_neg c21] at H
     have c21b0:=decide_eq_false c21;clear c21
     by_cases c22 : a2 < 0
     ·rw [if_pos c22] at H
      have c22b0:=decide_eq_true c22;clear c22;obtain rfl:=Option.some.inj H;go_wp2
      go_ret
      exact ⟨er_, hb0_ HB.out⟩
     ·rw [if_neg c22] at H
      have c22b0:=decide_eq_false c22;clear c22
      by_cases c23 : a2 > 100000
      ·rw [if_pos c23] at H
       have c23b0:=decide_eq_true c23;clear c23;obtain rfl:=Option.some.inj H;go_wp2
       go_ret
       exact ⟨er_, hb0_ HB.out⟩
      ·rw [if_neg c23] at H
       have c23b0:=decide_eq_false c23;clear c23
       by_cases c24 : a3 < 0
       ·rw [if_pos c24] at H
        have c24b0:=decide_eq_true c24;clear c24;obtain rfl:=Option.some.inj H;go_wp2
        go_ret
        exact ⟨er_, hb0_ HB.out⟩
       ·rw [if_neg c24] at H
        have c24b0:=decide_eq_false c24;clear c24
        by_cases c25 : a3 > 100000
        ·rw [if_pos c25] at H
         have c25b0:=decide_eq_true c25;clear c25;obtain rfl:=Option.some.inj H;go_wp2
         go_ret
         exact ⟨er_, hb0_ HB.out⟩
        ·rw [if_neg c25] at H
         have c25b0:=decide_eq_false c25;clear c25;obtain rfl:=Option.some.inj H;go_wp2
         go_ret
         exact ⟨er_, hb0_ HB.out⟩

/-! ### convexpl_both: function 77 -/
def convexpl_both.f (k : Nat) (a0_0 : Int) (a0_1 : Int) (l0_2 : List (S88)) (a1_0 : Int) (a1_1 : Int) (l1_2 : List (S88)) : Option (Int) := (convexpl_Check.f k a0_0 a0_1 l0_2).bind fun t153 => (if t153 = 0 then ((convexpl_Check.f k a1_0 a1_1 l1_2).bind fun t154 => (some t154)) else (some t153))
theorem convexpl_both.mono : ∀ a0 a1 a2 a3 a4 a5 k, LeO (convexpl_both.f k a0 a1 a2 a3 a4 a5) (convexpl_both.f (k + 1) a0 a1 a2 a3 a4 a5) := by
 intro a0 a1 a2 a3 a4 a5 k
 unfold convexpl_both.f
 repeat' first|(with_reducible first|exact convexpl_Check.mono _ _ _ _|exact LeO.refl _|exact LeO.none _|refine LeO.ite ?_ ?_|refine LeO.bind ?_ (fun _=>?_))|exact convexpl_Check.mono _ _ _ _|exact LeO.none _|refine LeO.ite ?_ ?_|refine LeO.bind ?_ (fun _=>?_)
set_option maxHeartbeats 8000000 in
set_option maxRecDepth 100000 in
theorem convexpl_both.calls (k : Nat) (a0_0 : Int) (a0_1 : Int) (A0_2 : Option Addr) (c0_2 : Nat) (l0_2 : List (S88)) (a1_0 : Int) (a1_1 : Int) (A1_2 : Option Addr) (c1_2 : Nat) (l1_2 : List (S88)) (r : Int) (w : World) (hr0_2 : Kd.C k88 w A0_2 l0_2.length l0_2) (hc0_2 : l0_2.length ≤ c0_2) (hr1_2 : Kd.C k88 w A1_2 l1_2.length l1_2) (hc1_2 : l1_2.length ≤ c1_2) (h : convexpl_both.f k a0_0 a0_1 l0_2 a1_0 a1_1 l1_2 = some r) :
  Calls Try.prog 77 #[.agg #[.int .i64 a0_0, .int .i64 a0_1, .slice A0_2 l0_2.length c0_2], .agg #[.int .i64 a1_0, .int .i64 a1_1, .slice A1_2 l1_2.length c1_2]] w fun e w' => e = .returned (.int .i64 r) ∧ Below w.heap.size w w' := by
 have hu82:=Try.underlying82;have HR0_2:=k0_ hr0_2;have HC0_2:=k0_ hc0_2;clear hr0_2 hc0_2;have HR1_2:=k0_ hr1_2;have HC1_2:=k0_ hc1_2;clear hr1_2 hc1_2;have HB:=k0_ (Below.refl w.heap.size w);have H : ((convexpl_Check.f k a0_0 a0_1 l0_2).bind fun t153=>(if t153 = 0 then ((convexpl_Check.f k a1_0 a1_1 l1_2).bind fun t154=>(some t154)) else (some t153))) = some r:=h;clear h;replace H:=Option.bind_eq_some_iff.mp H;obtain ⟨t153, A30, H⟩:=H;replace H : (if t153 = 0 then ((convexpl_Check.f k a1_0 a1_1 l1_2).bind fun t154=>(some t154)) else (some t153)) = some r:=H;have A3:=k0_ A30;clear A30
 by_cases c4 : t153 = 0
 ·rw [if_pos c4] at H
  have c4b0:=beq_iff_eq.mpr c4;have c4b1:=bne_eq_false_iff_eq.mpr c4;clear c4;replace H:=Option.bind_eq_some_iff.mp H;obtain ⟨t154, A50, H⟩:=H;replace H : (some t154) = some r:=H;have A5:=k0_ A50;clear A50;obtain rfl:=Option.some.inj H
  go_enter Try.func77, Try.ntmps77
  go_wp2_with (first|((with_reducible refine gate_dst (N:=2) rfl ?_);refine box_event ?hg (N:=2) ?hd (cs:=#[.int .i64 a0_0, .int .i64 a0_1, .slice A0_2 l0_2.length c0_2]) (t:=82) ?hr ?_;(case hd=>rfl);(case hg=>rfl);(case hr=>first|(go_simp;done)|(go_simp;rfl));intro gb151 hg w6 hbox hb;have BK151:=k0_ (hbox);have GW151:=k0_ ((by rw [hg];exact (below_size (hb0_ HB.out)) : w.heap.size ≤ gb151));have GE151:=k0_ ((by rw [hg];exact (below_size (hb0_ HB.out)) : w.heap.size ≤ gb151));replace HB:=k0_ (below_step (hb0_ HB.out) hb);clear hb hbox hg)|((with_reducible refine gate_dst (N:=3) rfl ?_);refine box_event ?hg (N:=3) ?hd (cs:=#[.int .i64 a1_0, .int .i64 a1_1, .slice A1_2 l1_2.length c1_2]) (t:=82) ?hr ?_;(case hd=>rfl);(case hg=>rfl);(case hr=>first|(go_simp;done)|(go_simp;rfl));intro gb152 hg w7 hbox hb;have BK152:=k0_ (hbox);have GW152:=k0_ ((by rw [hg];exact (below_size (hb1_ HB.out GE151.out)) : w.heap.size ≤ gb152));have GE152:=k0_ ((by rw [hg];exact (below_size (hb1_ HB.out GE151.out)) : w.heap.size ≤ gb152));replace HB:=k0_ (below_step (hb1_ HB.out GE151.out) hb);have NB151_152:=k0_ ((by rw [hg];exact Nat.ne_of_lt (blk_lt (g:=gb151) (o:=.cells #[.int .i64 a0_0, .int .i64 a0_1, .slice A0_2 l0_2.length c0_2] 82 (0, 0)) (bq_ BK151.out)) : gb151 ≠ gb152));have NB152_151:=k0_ ((by rw [hg];exact Nat.ne_of_gt (blk_lt (g:=gb151) (o:=.cells #[.int .i64 a0_0, .int .i64 a0_1, .slice A0_2 l0_2.length c0_2] 82 (0, 0)) (bq_ BK151.out)) : gb152 ≠ gb151));replace BK151:=k0_ (blk_below (g:=gb151) (o:=.cells #[.int .i64 a0_0, .int .i64 a0_1, .slice A0_2 l0_2.length c0_2] 82 (0, 0)) (bq_ BK151.out) hb);clear hb hbox hg;have hnb8:=NB151_152.out;have hnc8:=NB152_151.out;obtain ⟨hcz9_0,hcz9_1,hcz9_2⟩:=bc3_ BK151.out;obtain ⟨hfz9_0,hfz9_1,hfz9_2⟩:=bf3_ BK151.out)|((with_reducible refine gate_callee (f:=71) rfl ?_);refine goesL_ (some 7) rfl rfl Try.func71 (by kernel_rfl) rfl #[.agg #[.int .i64 a0_0, .int .i64 a0_1, .slice A0_2 l0_2.length c0_2]] rfl mt_ ?_;(with_reducible refine (convexpl_Check.calls k a0_0 a0_1 _ _ l0_2 t153 _ ?side1 ?side2 A3.out).mono ?_);(case side1=>repeat (first|exact (Kd.C_below HR0_2.out HB.out)|(with_reducible refine Kd.C_alloc ?_ _)|(with_reducible refine Kd.C_drewN ?_ _)|(with_reducible refine Kd.C_drew ?_)));(case side2=>exact HC0_2.out);rintro e w10 ⟨rfl, hb⟩;refine ⟨_, rfl, ?_⟩;replace BK151:=k0_ (blk_below (g:=gb151) (o:=.cells #[.int .i64 a0_0, .int .i64 a0_1, .slice A0_2 l0_2.length c0_2] 82 (0, 0)) (bq_ BK151.out) hb);replace BK152:=k0_ (blk_below (g:=gb152) (o:=.cells #[.int .i64 a1_0, .int .i64 a1_1, .slice A1_2 l1_2.length c1_2] 82 (0, 0)) (bq_ BK152.out) hb);replace HB:=k0_ (below_step (hb2_ HB.out GE151.out GE152.out) hb);(try clear hb);(try clear hb2);(try clear hk);(try clear hi);obtain ⟨hcz11_0,hcz11_1,hcz11_2⟩:=bc3_ BK152.out;obtain ⟨hfz11_0,hfz11_1,hfz11_2⟩:=bf3_ BK152.out)|((with_reducible refine gate_callee (f:=71) rfl ?_);refine goesL_ (some 12) rfl rfl Try.func71 (by kernel_rfl) rfl #[.agg #[.int .i64 a1_0, .int .i64 a1_1, .slice A1_2 l1_2.length c1_2]] rfl mt_ ?_;(with_reducible refine (convexpl_Check.calls k a1_0 a1_1 _ _ l1_2 t154 _ ?side1 ?side2 A5.out).mono ?_);(case side1=>repeat (first|exact (Kd.C_below HR1_2.out HB.out)|(with_reducible refine Kd.C_alloc ?_ _)|(with_reducible refine Kd.C_drewN ?_ _)|(with_reducible refine Kd.C_drew ?_)));(case side2=>exact HC1_2.out);rintro e w12 ⟨rfl, hb⟩;refine ⟨_, rfl, ?_⟩;replace BK151:=k0_ (blk_below (g:=gb151) (o:=.cells #[.int .i64 a0_0, .int .i64 a0_1, .slice A0_2 l0_2.length c0_2] 82 (0, 0)) (bq_ BK151.out) hb);replace BK152:=k0_ (blk_below (g:=gb152) (o:=.cells #[.int .i64 a1_0, .int .i64 a1_1, .slice A1_2 l1_2.length c1_2] 82 (0, 0)) (bq_ BK152.out) hb);replace HB:=k0_ (below_step (hb2_ HB.out GE151.out GE152.out) hb);(try clear hb);(try clear hb2);(try clear hk);(try clear hi)))
  go_ret
  exact ⟨er_, hb2_ HB.out GE151.out GE152.out⟩
 ·rw [if_neg c4] at H
  have c4b0:=beq_eq_false_iff_ne.mpr c4;have c4b1:=bne_iff_ne.mpr c4;obtain rfl:=Option.some.inj H
  go_enter Try.func77, Try.ntmps77
  go_wp2_with (first|((with_reducible refine gate_dst (N:=2) rfl ?_);refine box_event ?hg (N:=2) ?hd (cs:=#[.int .i64 a0_0, .int .i64 a0_1, .slice A0_2 l0_2.length c0_2]) (t:=82) ?hr ?_;(case hd=>rfl);(case hg=>rfl);(case hr=>first|(go_simp;done)|(go_simp;rfl));intro gb151 hg w13 hbox hb;have BK151:=k0_ (hbox);have GW151:=k0_ ((by rw [hg];exact (below_size (hb0_ HB.out)) : w.heap.size ≤ gb151));have GE151:=k0_ ((by rw [hg];exact (below_size (hb0_ HB.out)) : w.heap.size ≤ gb151));replace HB:=k0_ (below_step (hb0_ HB.out) hb);clear hb hbox hg)|((with_reducible refine gate_dst (N:=3) rfl ?_);refine box_event ?hg (N:=3) ?hd (cs:=#[.int .i64 a1_0, .int .i64 a1_1, .slice A1_2 l1_2.length c1_2]) (t:=82) ?hr ?_;(case hd=>rfl);(case hg=>rfl);(case hr=>first|(go_simp;done)|(go_simp;rfl));intro gb152 hg w14 hbox hb;have BK152:=k0_ (hbox);have GW152:=k0_ ((by rw [hg];exact (below_size (hb1_ HB.out GE151.out)) : w.heap.size ≤ gb152));have GE152:=k0_ ((by rw [hg];exact (below_size (hb1_ HB.out GE151.out)) : w.heap.size ≤ gb152));replace HB:=k0_ (below_step (hb1_ HB.out GE151.out) hb);have NB151_152:=k0_ ((by rw [hg];exact Nat.ne_of_lt (blk_lt (g:=gb151) (o:=.cells #[.int .i64 a0_0, .int .i64 a0_1, .slice A0_2 l0_2.length c0_2] 82 (0, 0)) (bq_ BK151.out)) : gb151 ≠ gb152));have NB152_151:=k0_ ((by rw [hg];exact Nat.ne_of_gt (blk_lt (g:=gb151) (o:=.cells #[.int .i64 a0_0, .int .i64 a0_1, .slice A0_2 l0_2.length c0_2] 82 (0, 0)) (bq_ BK151.out)) : gb152 ≠ gb151));replace BK151:=k0_ (blk_below (g:=gb151) (o:=.cells #[.int .i64 a0_0, .int .i64 a0_1, .slice A0_2 l0_2.length c0_2] 82 (0, 0)) (bq_ BK151.out) hb);clear hb hbox hg;have hnb15:=NB151_152.out;have hnc15:=NB152_151.out;obtain ⟨hcz16_0,hcz16_1,hcz16_2⟩:=bc3_ BK151.out;obtain ⟨hfz16_0,hfz16_1,hfz16_2⟩:=bf3_ BK151.out)|((with_reducible refine gate_callee (f:=71) rfl ?_);refine goesL_ (some 7) rfl rfl Try.func71 (by kernel_rfl) rfl #[.agg #[.int .i64 a0_0, .int .i64 a0_1, .slice A0_2 l0_2.length c0_2]] rfl mt_ ?_;(with_reducible refine (convexpl_Check.calls k a0_0 a0_1 _ _ l0_2 t153 _ ?side1 ?side2 A3.out).mono ?_);(case side1=>repeat (first|exact (Kd.C_below HR0_2.out HB.out)|(with_reducible refine Kd.C_alloc ?_ _)|(with_reducible refine Kd.C_drewN ?_ _)|(with_reducible refine Kd.C_drew ?_)));(case side2=>exact HC0_2.out);rintro e w17 ⟨rfl, hb⟩;refine ⟨_, rfl, ?_⟩;replace BK151:=k0_ (blk_below (g:=gb151) (o:=.cells #[.int .i64 a0_0, .int .i64 a0_1, .slice A0_2 l0_2.length c0_2] 82 (0, 0)) (bq_ BK151.out) hb);replace BK152:=k0_ (blk_below (g:=gb152) (o:=.cells #[.int .i64 a1_0, .int .i64 a1_1, .slice A1_2 l1_2.length c1_2] 82 (0, 0)) (bq_ BK152.out) hb);replace HB:=k0_ (below_step (hb2_ HB.out GE151.out GE152.out) hb);(try clear hb);(try clear hb2);(try clear hk);(try clear hi)))
  go_ret
  exact ⟨er_, hb2_ HB.out GE151.out GE152.out⟩

/-! ### api_ConvexPiece_76: function 76 -/
/-- A nil row has no elements. -/
theorem api_ConvexPiece_76.none_nil {w : World} {l0 : List (S88)} (h : Kd.C k88 w none l0.length l0) : l0 = [] := by
 have h2:=(show ReadsRow _ _ _ _ _ _ from h).2.2
 refine List.eq_nil_of_length_eq_zero (Decidable.byContradiction fun hh=>?_)
 obtain ⟨ad, e, _⟩:=h2 (by omega)
 cases e
def api_ConvexPiece_76.f (l0 : List (S88)) : Option ((List (S88))) := (some (([] : List (S88)) : List (S88))).bind fun y155 => (if y155.length + l0.length < 8796093022208 then (some (y155 ++ l0)) else (none))
set_option maxHeartbeats 8000000 in
set_option maxRecDepth 100000 in
theorem api_ConvexPiece_76.calls (A0 : Option Addr) (c0 : Nat) (l0 : List (S88)) (r : List (S88)) (w : World) (hr0 : Kd.C k88 w A0 l0.length l0) (hc0 : l0.length ≤ c0) (h : api_ConvexPiece_76.f l0 = some r) :
  Calls Try.prog 76 #[.slice A0 l0.length c0] w fun e w' => ∃ v0_ : Value, e = .returned (v0_) ∧ Kd.R k88 88 w' w.heap.size (fun _ => True) v0_ r ∧ Below w.heap.size w w' := by
 have HR0:=k0_ hr0;have HC0:=k0_ hc0;clear hr0 hc0;have HB:=k0_ (Below.refl w.heap.size w);have H : ((some (([] : List (S88)) : List (S88))).bind fun y155=>(if y155.length + l0.length < 8796093022208 then (some (y155 ++ l0)) else (none))) = some r:=h;clear h;obtain ⟨y155, hy155⟩ : ∃ y_ : List (S88), y_ = (([] : List (S88))):=⟨_, rfl⟩;replace H : (if y155.length + l0.length < 8796093022208 then (some (y155 ++ l0)) else (none)) = some r:=by first|(rw [hy155];with_reducible exact H)|(have H2_:=(Option.bind_some _ _).symm.trans H;rw [hy155];with_reducible exact H2_)|(have H2_:=(Option.bind_some _ _).symm.trans H;with_reducible exact H2_)|with_reducible exact H|(rw [hy155];exact H)|exact H
 have Ny155:=k0_ hy155;clear hy155
 by_cases c2 : y155.length + l0.length < 8796093022208
 ·rw [if_pos c2] at H
  have LMc2:=k0_ c2;clear c2;obtain ⟨y158, hy158⟩ : ∃ y_ : List (S88), y_ = (y155 ++ l0):=⟨_, rfl⟩;replace H : (some y158) = some r:=by first|(rw [hy158];with_reducible exact H)|(have H2_:=(Option.bind_some _ _).symm.trans H;rw [hy158];with_reducible exact H2_)|(have H2_:=(Option.bind_some _ _).symm.trans H;with_reducible exact H2_)|with_reducible exact H|(rw [hy158];exact H)|exact H
  have Ny158:=k0_ hy158;clear hy158;obtain rfl:=Option.some.inj H
  cases A0 with
  | none =>
   have hl : l0 = []:=api_ConvexPiece_76.none_nil HR0.out;subst hl
   go_enter Try.func76, Try.ntmps76
   have q_:=fun (w : World) (a : Option Addr) (n c n' c' : Nat)=>Lib.run_eql_slice_nil (P:=Try.prog) w 80 88 a n c n' c' Try.underlying80
   go_wp2
   go_ret
   exact ⟨_, rfl, by rw [Ny158.out, Ny155.out];exact Kd.R_nil _ _ _ _ _, HB.out⟩
  | some ad0 =>
   go_enter Try.func76, Try.ntmps76
   have q_:=fun (w : World) (a : Option Addr) (n c n' c' : Nat)=>Lib.run_eql_slice_nil (P:=Try.prog) w 80 88 a n c n' c' Try.underlying80
   go_wp2_with (first|((with_reducible refine gate_dst (N:=5) rfl ?_);refine Kd.R_lit k88 _ 88 ?hg (N:=5) ?hd (xs:=([] : List (S88))) (inner:=[]) (ok:=fun _=>True) (okp:=fun _=>True) ?hr ?hp (fun _ hk=>hk) trivial (Below.refl _ _) (Nat.le_refl _) (by simp) ?_;(case hd=>rfl);(case hg=>rfl);(case hr=>first|(go_simp;done)|(go_simp;rfl));(case hp=>exact (Reps.none _ _));intro v156 w3 ho4 hb hg_ hnew_;clear hg_ hnew_;(first|rw [← Ny155.out] at ho4|(simp only [Int.reduceToNat] at ho4;rw [← Ny155.out] at ho4));have HO157:=k0_ (Kd.R_lower ho4 (below_size (hb0_ HB.out)));replace HB:=k0_ (below_step (hb0_ HB.out) hb);clear hb ho4)|((with_reducible refine gate_builtin (b:=.append) (xs:=#[.tmp 5, .tmp 6]) rfl ?_);at_builtin;refine Kd.R_append_rows k88 (w0:=w) w.heap.size rfl (.tmp 5) (.tmp 6) 80 88 (.agg #[(.int .i64 0),(.int .i64 0)]) 16 rfl Try.underlying80 info88 rfl (by decide) (by omega) v156 y155 l0 _ _ _ (fun _=>True) (fun _=>False) rfl rfl ?aO ?aR (fun _ _ h=>h) (fun _ h=>h.elim) ?aF ?aB ?aS ?aL ?_;(case aR=>repeat (first|exact (Kd.C_below HR0.out HB.out)|(with_reducible refine Kd.C_alloc ?_ _)|(with_reducible refine Kd.C_drewN ?_ _)|(with_reducible refine Kd.C_drew ?_)));(case aB=>exact (hb0_ HB.out));(case aF=>exact (fun _ _=>trivial));(case aO=>exact (rq_ HO157.out));(case aS=>exact (below_size (hb0_ HB.out)));(case aL=>have:=LMc2.out;omega);intro v159 w5 ho hb hg hat;rw [← Ny158.out] at ho;replace HB:=k0_ (hb);have HO160:=k0_ (ho);clear HO157;clear ho hb hg hat))
   go_ret
   exact ⟨_, er_, by (with_reducible repeat (first|apply Kd.R_alloc|apply Kd.R_drewN|apply Kd.R_drew));exact HO160.out, hb0_ HB.out⟩
 ·rw [if_neg c2] at H
  exact absurd H (by simp)

/-! ### convexpl_shorter: function 78 -/
def convexpl_shorter.f (l0 : List (S88)) (a1 : Int) : Option ((List (S88))) := (api_ConvexPiece_76.f l0).bind fun t161 => (if 0 < (t161.length : Int) then ((some (t161.set (0 : Int).toNat (⟨wrap64 (((rd_T88 t161 0).f0) - a1), (rd_T88 t161 0).f1⟩ : S88) : List (S88))).bind fun y165 => (if ((rd_T88 y165 0).f0) = 0 then (if 1 ≤ (t161.length : Int) then (some (y165.drop (1 : Int).toNat)) else (none)) else (some y165))) else (none))
set_option maxHeartbeats 8000000 in
set_option maxRecDepth 100000 in
theorem convexpl_shorter.calls (A0 : Option Addr) (c0 : Nat) (l0 : List (S88)) (a1 : Int) (r : List (S88)) (w : World) (hr0 : Kd.C k88 w A0 l0.length l0) (hc0 : l0.length ≤ c0) (h : convexpl_shorter.f l0 a1 = some r) :
  Calls Try.prog 78 #[.slice A0 l0.length c0, .int .i64 a1] w fun e w' => ∃ v0_ : Value, e = .returned (v0_) ∧ Kd.Q k88 88 w' w.heap.size (fun _ => True) v0_ r ∧ Below w.heap.size w w' := by
 have HR0:=k0_ hr0;have HC0:=k0_ hc0;clear hr0 hc0;have HB:=k0_ (Below.refl w.heap.size w);have H : ((api_ConvexPiece_76.f l0).bind fun t161=>(if 0 < (t161.length : Int) then ((some (t161.set (0 : Int).toNat (⟨wrap64 (((rd_T88 t161 0).f0) - a1),(rd_T88 t161 0).f1⟩ : S88) : List (S88))).bind fun y165=>(if ((rd_T88 y165 0).f0) = 0 then (if 1 ≤ (t161.length : Int) then (some (y165.drop (1 : Int).toNat)) else (none)) else (some y165))) else (none))) = some r:=h;clear h;replace H:=Option.bind_eq_some_iff.mp H;obtain ⟨t161, A30, H⟩:=H;replace H : (if 0 < (t161.length : Int) then ((some (t161.set (0 : Int).toNat (⟨wrap64 (((rd_T88 t161 0).f0) - a1),(rd_T88 t161 0).f1⟩ : S88) : List (S88))).bind fun y165=>(if ((rd_T88 y165 0).f0) = 0 then (if 1 ≤ (t161.length : Int) then (some (y165.drop (1 : Int).toNat)) else (none)) else (some y165))) else (none)) = some r:=H;have A3:=k0_ A30;clear A30
 by_cases c4 : 0 < (t161.length : Int)
 ·rw [if_pos c4] at H
  have c4b0:=decide_eq_true c4;have c4b1 : decide (0 < t161.length) = true:=decide_eq_true (by omega);clear c4;obtain ⟨y165, hy165⟩ : ∃ y_ : List (S88), y_ = (t161.set (0 : Int).toNat (⟨wrap64 (((rd_T88 t161 0).f0) - a1),(rd_T88 t161 0).f1⟩ : S88)):=⟨_, rfl⟩;replace H : (if ((rd_T88 y165 0).f0) = 0 then (if 1 ≤ (t161.length : Int) then (some (y165.drop (1 : Int).toNat)) else (none)) else (some y165)) = some r:=by first|(rw [hy165];with_reducible exact H)|(have H2_:=(Option.bind_some _ _).symm.trans H;rw [hy165];with_reducible exact H2_)|(have H2_:=(Option.bind_some _ _).symm.trans H;with_reducible exact H2_)|with_reducible exact H|(rw [hy165];exact H)|exact H
  have Ny165:=k0_ hy165;clear hy165
  by_cases c6 : ((rd_T88 y165 0).f0) = 0
  ·rw [if_pos c6] at H
   have c6b0:=beq_iff_eq.mpr c6;have c6b1:=bne_eq_false_iff_eq.mpr c6;clear c6
   obtain ⟨c7,H⟩:=gi_ H;have c7b0:=eq_true c7;have c7b1:=decide_eq_true c7;clear c7;obtain ⟨y167, hy167⟩ : ∃ y_ : List (S88), y_ = (y165.drop (1 : Int).toNat):=⟨_, rfl⟩;replace H : (some y167) = some r:=by first|(rw [hy167];with_reducible exact H)|(have H2_:=(Option.bind_some _ _).symm.trans H;rw [hy167];with_reducible exact H2_)|(have H2_:=(Option.bind_some _ _).symm.trans H;with_reducible exact H2_)|with_reducible exact H|(rw [hy167];exact H)|exact H
   have Ny167:=k0_ hy167;clear hy167;obtain rfl:=Option.some.inj H
   go_enter Try.func78, Try.ntmps78
   go_wp2_with (first|((with_reducible refine gate_callee (f:=76) rfl ?_);refine goesL_ (some 7) rfl rfl Try.func76 (by kernel_rfl) rfl #[.slice A0 l0.length c0] rfl mt_ ?_;(with_reducible refine (api_ConvexPiece_76.calls _ _ l0 t161 _ ?side1 ?side2 A3.out).mono ?_);(case side1=>repeat (first|exact HR0.out|(with_reducible refine Kd.C_alloc ?_ _)|(with_reducible refine Kd.C_drewN ?_ _)|(with_reducible refine Kd.C_drew ?_)));(case side2=>exact HC0.out);rintro e w8 ⟨v162, rfl, ho0, hb⟩;refine ⟨_, rfl, ?_⟩;have HO163:=k0_ (Kd.R_lower ho0 (below_size (hb0_ HB.out)));replace HB:=k0_ (below_step (hb0_ HB.out) hb);(try clear hb);(try clear hb2);(try clear hk);(try clear hi);(try clear ho0);obtain ⟨Ao9, co9, eo9⟩:=Kd.R_slice HO163.out;subst eo9;have p164 : 0 ≤ (0 : Int):=(by omega);have q164 : 0 < (t161.length : Int):=of_decide_eq_true as_;obtain ⟨ad164, e164, hx164_0, hx164_1⟩:=at_T88 (Kd.R_reads' HO163.out).2.2 0 p164 q164;cases e164;have qi164 : (0 < t161.length) = True:=eq_true (by omega);(try rw [show ((0 : Int)).toNat = 0 from rfl] at hx164_0);(try rw [show 0 * 2 = 0 from rfl] at hx164_0);(try rw [Addr.add_zero'] at hx164_0);(try rw [show ((0 : Int)).toNat = 0 from rfl] at hx164_1);(try rw [show 0 * 2 = 0 from rfl] at hx164_1);(try rw [Addr.add_zero'] at hx164_1);replace p164:=eq_true p164;replace q164:=eq_true q164;have p5 : 0 ≤ (0 : Int):=(by omega);have q5 : (0 : Int) < ((t161.length : Int) : Int):=of_decide_eq_true as_;have qi5 : (0 < t161.length) = True:=eq_true (by omega);obtain ⟨go5, co5, eo5, gb5, gl5, cl5, HG5⟩:=Kd.R_form HO163.out (by omega);(first|cases eo5|(injection eo5 with ea_ en_ ec_;(first|subst ea_|(injection ea_ with ea_;subst ea_));subst ec_;clear en_));have GB5:=k0_ gb5;have GG5:=k0_ HG5;clear gb5 gl5 HG5;(first|simp only [add_plain] at hx164_0|skip);(first|simp only [add_plain] at hx164_1|skip);obtain ⟨ce5, hcl5, hM5, hcc5, hfr5⟩:=Kd.R_elem HO163.out z88 (0 : Int) p5 q5;obtain rfl:=k88_openM hM5;have hx5_0 : w8.cell? ⟨go5, (0 : Int).toNat * 2, none⟩ = some (.int .i64 ((rd_T88 t161 0).f0)):=hcc5 0 _ rfl;have hx5_1 : w8.cell? ⟨go5, (0 : Int).toNat * 2 + 1, none⟩ = some (.int .i64 ((rd_T88 t161 0).f1)):=hcc5 1 _ rfl;have hf5_0 : w8.frozen? ⟨go5, (0 : Int).toNat * 2, none⟩ = false:=hfr5 0;have hf5_1 : w8.frozen? ⟨go5, (0 : Int).toNat * 2 + 1, none⟩ = false:=hfr5 1;clear hcl5 hcc5 hfr5 hM5;(try rw [show ((0 : Int)).toNat = 0 from rfl] at hx5_0);(try simp only [Nat.reduceMul, Nat.zero_mul, Nat.zero_add, Nat.reduceAdd] at hx5_0);(try rw [show ((0 : Int)).toNat = 0 from rfl] at hf5_0);(try simp only [Nat.reduceMul, Nat.zero_mul, Nat.zero_add, Nat.reduceAdd] at hf5_0);(try rw [show ((0 : Int)).toNat = 0 from rfl] at hx5_1);(try simp only [Nat.reduceMul, Nat.zero_mul, Nat.zero_add, Nat.reduceAdd] at hx5_1);(try rw [show ((0 : Int)).toNat = 0 from rfl] at hf5_1);(try simp only [Nat.reduceMul, Nat.zero_mul, Nat.zero_add, Nat.reduceAdd] at hf5_1);replace p5:=eq_true p5;replace q5:=eq_true q5;have HX10:=k0_ (show Kd.R k88 88 w8 w.heap.size (fun _=>True) (.slice (some ⟨go5, 0, none⟩) t161.length co9) t161 from (rq_ HO163.out));obtain ⟨ce10, hcl10, hM10, hcc10, hfr10⟩:=Kd.R_elem HX10.out z88 (0 : Int) (by omega) (by have h_ : (0 : Int) < ((t161.length : Int) : Int):=of_decide_eq_true as_;first|exact h_|(have e_:=(Kd.R_reads' HO163.out).1;omega)|simpa using h_);obtain rfl:=k88_openM hM10;have HP10:=Kd.R_seg HX10.out (0 : Int) (by omega) (by have h_ : (0 : Int) < ((t161.length : Int) : Int):=of_decide_eq_true as_;first|exact h_|(have e_:=(Kd.R_reads' HO163.out).1;omega)|simpa using h_) (seg:=[.int .i64 (wrap64 (((rd_T88 t161 0).f0) - a1))]) (j:=0) hcl10 hcc10 (show 1 ≤ 2 from by decide) (x':=(⟨wrap64 (((rd_T88 t161 0).f0) - a1),(rd_T88 t161 0).f1⟩ : S88)) (k88_mkM _ _ _ (⟨wrap64 (((rd_T88 t161 0).f0) - a1),(rd_T88 t161 0).f1⟩ : S88) ) (fun _ hk=>hk);have hx10_0:=hcc10 0 _ rfl;(try simp only [show (k88).sz = 2 from rfl, Nat.mul_one, Nat.add_zero] at hx10_0);(try rw [show ((0 : Int)).toNat = 0 from rfl] at hx10_0);(try simp only [Nat.reduceMul, Nat.zero_mul, Nat.zero_add, Nat.reduceAdd] at hx10_0);have hf10_0:=hfr10 0;(try simp only [show (k88).sz = 2 from rfl, Nat.mul_one, Nat.add_zero] at hf10_0);(try rw [show ((0 : Int)).toNat = 0 from rfl] at hf10_0);(try simp only [Nat.reduceMul, Nat.zero_mul, Nat.zero_add, Nat.reduceAdd] at hf10_0);clear hcl10 hcc10 hfr10 hM10)|((with_reducible refine gate_store (t:=3) (p:=15) rfl ?_);refine store_event (t:=3) (p:=15) (v:=?vo_w11) (w1:=(w8.setCell ⟨go5, 0, none⟩ (.int .i64 (wrap64 (((rd_T88 t161 0).f0) - a1))))) ?hg ?ho ?hn ?hr ?_;(case ho=>rfl);(case hg=>rfl);(case hn=>rfl);(case hr=>first|(go_simp;done)|(go_simp;rfl));intro w11 hw;have hg : w8.grownBy w11 (some go5):=(by rw [hw];exact HP10.2);have hp_ : Kd.R k88 88 w11 w.heap.size (fun _=>True) (.slice (some ⟨go5, 0, none⟩) t161.length co9) y165:=(by rw [hw, Ny165.out];exact HP10.1);clear HP10;replace HO163:=k0_ (hp_);replace HB:=k0_ ((by rw [hw];exact below_set (HB.out) GB5.out : Below w.heap.size w w11));clear hg hw hp_;have p166 : 0 ≤ (0 : Int):=(by omega);have q166 : 0 < (y165.length : Int):=(by have h_ : (0 : Int) < ((t161.length : Int) : Int):=of_decide_eq_true as_;first|(have e_:=(Kd.R_reads' HO163.out).1;omega)|simpa only [Ny165.out, List.length_set] using h_);have ql166 : ((0 : Int) < ((t161.length : Int) : Int)) = True:=eq_true (of_decide_eq_true as_);(try have qn166 : (0 < t161.length) = True:=eq_true (by have h_ : (0 : Int) < ((t161.length : Int) : Int):=of_decide_eq_true as_;omega));obtain ⟨ad166, e166, hx166_0, hx166_1⟩:=at_T88 (Kd.R_reads' HO163.out).2.2 0 p166 q166;obtain rfl : (⟨go5, 0, none⟩ : Addr) = ad166:=(by injection e166);(first|simp only [add_plain] at hx166_0|simp only [add_at] at hx166_0|simp only [Addr.add, Nat.zero_add] at hx166_0|skip);(first|simp only [add_plain] at hx166_1|simp only [add_at] at hx166_1|simp only [Addr.add, Nat.zero_add] at hx166_1|skip);have qi166 : (0 < y165.length) = True:=eq_true (by omega);(try rw [show ((0 : Int)).toNat = 0 from rfl] at hx166_0);(try rw [show 0 * 2 = 0 from rfl] at hx166_0);(try rw [Addr.add_zero'] at hx166_0);(try rw [show ((0 : Int)).toNat = 0 from rfl] at hx166_1);(try rw [show 0 * 2 = 0 from rfl] at hx166_1);(try rw [Addr.add_zero'] at hx166_1);replace p166:=eq_true p166;replace q166:=eq_true q166;have q12 : (1 : Int) ≤ ((t161.length : Int) : Int):=of_decide_eq_true as_;obtain ⟨i012, hi012, _, hsz12, _⟩:=info_parts info88;have hcut12:=cut_from (P:=Try.prog) 80 88 .i64 Try.underlying80 hi012 2 hsz12 (some ⟨go5, 0, none⟩) t161.length co9 1 (by omega) q12;have hr12:=Kd.Q_drop (k:=(1 : Int).toNat) (Kd.Q_of_R HO163.out) (by first|omega|(have e_:=(Kd.R_reads' HO163.out).1;omega));obtain ⟨A12, hA12⟩ : ∃ A1, A1 = (if co9 = (1 : Int).toNat then (some ⟨go5, 0, none⟩) else ((some ⟨go5, 0, none⟩) : Option Addr).map (·.add ((1 : Int).toNat * 2))):=⟨_, rfl⟩;obtain ⟨c12, hc12⟩ : ∃ c1, c1 = co9 - (1 : Int).toNat:=⟨_, rfl⟩;have hy12 : y167.length = t161.length - (1 : Int).toNat:=(by first|(rw [Ny167.out, List.length_drop];done)|(have e_:=(Kd.R_reads' HO163.out).1;rw [Ny167.out, List.length_drop];omega));rw [← Ny167.out] at hr12;rw [← hy12, ← hA12, ← hc12] at hcut12;replace hr12 : Kd.Q k88 88 w11 w.heap.size (fun _=>True) (.slice A12 y167.length c12) y167:=(by rw [hA12, hc12, hy12];exact hr12);have HE12 : Aside0 ((Value.slice A12 y167.length c12).ownBlock = (.slice (some ⟨go5, 0, none⟩) t161.length co9 : Value).ownBlock):=⟨by rw [hA12];split <;> (cases ((some ⟨go5, 0, none⟩) : Option Addr) <;> rfl)⟩;clear hy12 hi012 hsz12 HO163 hA12 hc12;have HO169:=k0_ hr12;clear hr12;replace q12:=eq_true q12))
   go_ret
   exact ⟨_, er_, by (with_reducible repeat (first|apply Kd.Q_alloc|apply Kd.Q_drewN|apply Kd.Q_drew));exact HO169.out, hb0_ HB.out⟩
  ·rw [if_neg c6] at H
   have c6b0:=beq_eq_false_iff_ne.mpr c6;have c6b1:=bne_iff_ne.mpr c6;obtain rfl:=Option.some.inj H
   go_enter Try.func78, Try.ntmps78
   go_wp2_with (first|((with_reducible refine gate_callee (f:=76) rfl ?_);refine goesL_ (some 7) rfl rfl Try.func76 (by kernel_rfl) rfl #[.slice A0 l0.length c0] rfl mt_ ?_;(with_reducible refine (api_ConvexPiece_76.calls _ _ l0 t161 _ ?side1 ?side2 A3.out).mono ?_);(case side1=>repeat (first|exact HR0.out|(with_reducible refine Kd.C_alloc ?_ _)|(with_reducible refine Kd.C_drewN ?_ _)|(with_reducible refine Kd.C_drew ?_)));(case side2=>exact HC0.out);rintro e w13 ⟨v162, rfl, ho0, hb⟩;refine ⟨_, rfl, ?_⟩;have HO163:=k0_ (Kd.R_lower ho0 (below_size (hb0_ HB.out)));replace HB:=k0_ (below_step (hb0_ HB.out) hb);(try clear hb);(try clear hb2);(try clear hk);(try clear hi);(try clear ho0);obtain ⟨Ao14, co14, eo14⟩:=Kd.R_slice HO163.out;subst eo14;have p164 : 0 ≤ (0 : Int):=(by omega);have q164 : 0 < (t161.length : Int):=of_decide_eq_true as_;obtain ⟨ad164, e164, hx164_0, hx164_1⟩:=at_T88 (Kd.R_reads' HO163.out).2.2 0 p164 q164;cases e164;have qi164 : (0 < t161.length) = True:=eq_true (by omega);(try rw [show ((0 : Int)).toNat = 0 from rfl] at hx164_0);(try rw [show 0 * 2 = 0 from rfl] at hx164_0);(try rw [Addr.add_zero'] at hx164_0);(try rw [show ((0 : Int)).toNat = 0 from rfl] at hx164_1);(try rw [show 0 * 2 = 0 from rfl] at hx164_1);(try rw [Addr.add_zero'] at hx164_1);replace p164:=eq_true p164;replace q164:=eq_true q164;have p5 : 0 ≤ (0 : Int):=(by omega);have q5 : (0 : Int) < ((t161.length : Int) : Int):=of_decide_eq_true as_;have qi5 : (0 < t161.length) = True:=eq_true (by omega);obtain ⟨go5, co5, eo5, gb5, gl5, cl5, HG5⟩:=Kd.R_form HO163.out (by omega);(first|cases eo5|(injection eo5 with ea_ en_ ec_;(first|subst ea_|(injection ea_ with ea_;subst ea_));subst ec_;clear en_));have GB5:=k0_ gb5;have GG5:=k0_ HG5;clear gb5 gl5 HG5;(first|simp only [add_plain] at hx164_0|skip);(first|simp only [add_plain] at hx164_1|skip);obtain ⟨ce5, hcl5, hM5, hcc5, hfr5⟩:=Kd.R_elem HO163.out z88 (0 : Int) p5 q5;obtain rfl:=k88_openM hM5;have hx5_0 : w13.cell? ⟨go5, (0 : Int).toNat * 2, none⟩ = some (.int .i64 ((rd_T88 t161 0).f0)):=hcc5 0 _ rfl;have hx5_1 : w13.cell? ⟨go5, (0 : Int).toNat * 2 + 1, none⟩ = some (.int .i64 ((rd_T88 t161 0).f1)):=hcc5 1 _ rfl;have hf5_0 : w13.frozen? ⟨go5, (0 : Int).toNat * 2, none⟩ = false:=hfr5 0;have hf5_1 : w13.frozen? ⟨go5, (0 : Int).toNat * 2 + 1, none⟩ = false:=hfr5 1;clear hcl5 hcc5 hfr5 hM5;(try rw [show ((0 : Int)).toNat = 0 from rfl] at hx5_0);(try simp only [Nat.reduceMul, Nat.zero_mul, Nat.zero_add, Nat.reduceAdd] at hx5_0);(try rw [show ((0 : Int)).toNat = 0 from rfl] at hf5_0);(try simp only [Nat.reduceMul, Nat.zero_mul, Nat.zero_add, Nat.reduceAdd] at hf5_0);(try rw [show ((0 : Int)).toNat = 0 from rfl] at hx5_1);(try simp only [Nat.reduceMul, Nat.zero_mul, Nat.zero_add, Nat.reduceAdd] at hx5_1);(try rw [show ((0 : Int)).toNat = 0 from rfl] at hf5_1);(try simp only [Nat.reduceMul, Nat.zero_mul, Nat.zero_add, Nat.reduceAdd] at hf5_1);replace p5:=eq_true p5;replace q5:=eq_true q5;have HX15:=k0_ (show Kd.R k88 88 w13 w.heap.size (fun _=>True) (.slice (some ⟨go5, 0, none⟩) t161.length co14) t161 from (rq_ HO163.out));obtain ⟨ce15, hcl15, hM15, hcc15, hfr15⟩:=Kd.R_elem HX15.out z88 (0 : Int) (by omega) (by have h_ : (0 : Int) < ((t161.length : Int) : Int):=of_decide_eq_true as_;first|exact h_|(have e_:=(Kd.R_reads' HO163.out).1;omega)|simpa using h_);obtain rfl:=k88_openM hM15;have HP15:=Kd.R_seg HX15.out (0 : Int) (by omega) (by have h_ : (0 : Int) < ((t161.length : Int) : Int):=of_decide_eq_true as_;first|exact h_|(have e_:=(Kd.R_reads' HO163.out).1;omega)|simpa using h_) (seg:=[.int .i64 (wrap64 (((rd_T88 t161 0).f0) - a1))]) (j:=0) hcl15 hcc15 (show 1 ≤ 2 from by decide) (x':=(⟨wrap64 (((rd_T88 t161 0).f0) - a1),(rd_T88 t161 0).f1⟩ : S88)) (k88_mkM _ _ _ (⟨wrap64 (((rd_T88 t161 0).f0) - a1),(rd_T88 t161 0).f1⟩ : S88) ) (fun _ hk=>hk);have hx15_0:=hcc15 0 _ rfl;(try simp only [show (k88).sz = 2 from rfl, Nat.mul_one, Nat.add_zero] at hx15_0);(try rw [show ((0 : Int)).toNat = 0 from rfl] at hx15_0);(try simp only [Nat.reduceMul, Nat.zero_mul, Nat.zero_add, Nat.reduceAdd] at hx15_0);have hf15_0:=hfr15 0;(try simp only [show (k88).sz = 2 from rfl, Nat.mul_one, Nat.add_zero] at hf15_0);(try rw [show ((0 : Int)).toNat = 0 from rfl] at hf15_0);(try simp only [Nat.reduceMul, Nat.zero_mul, Nat.zero_add, Nat.reduceAdd] at hf15_0);clear hcl15 hcc15 hfr15 hM15)|((with_reducible refine gate_store (t:=3) (p:=15) rfl ?_);refine store_event (t:=3) (p:=15) (v:=?vo_w16) (w1:=(w13.setCell ⟨go5, 0, none⟩ (.int .i64 (wrap64 (((rd_T88 t161 0).f0) - a1))))) ?hg ?ho ?hn ?hr ?_;(case ho=>rfl);(case hg=>rfl);(case hn=>rfl);(case hr=>first|(go_simp;done)|(go_simp;rfl));intro w16 hw;have hg : w13.grownBy w16 (some go5):=(by rw [hw];exact HP15.2);have hp_ : Kd.R k88 88 w16 w.heap.size (fun _=>True) (.slice (some ⟨go5, 0, none⟩) t161.length co14) y165:=(by rw [hw, Ny165.out];exact HP15.1);clear HP15;replace HO163:=k0_ (hp_);replace HB:=k0_ ((by rw [hw];exact below_set (HB.out) GB5.out : Below w.heap.size w w16));clear hg hw hp_;have p166 : 0 ≤ (0 : Int):=(by omega);have q166 : 0 < (y165.length : Int):=(by have h_ : (0 : Int) < ((t161.length : Int) : Int):=of_decide_eq_true as_;first|(have e_:=(Kd.R_reads' HO163.out).1;omega)|simpa only [Ny165.out, List.length_set] using h_);have ql166 : ((0 : Int) < ((t161.length : Int) : Int)) = True:=eq_true (of_decide_eq_true as_);(try have qn166 : (0 < t161.length) = True:=eq_true (by have h_ : (0 : Int) < ((t161.length : Int) : Int):=of_decide_eq_true as_;omega));obtain ⟨ad166, e166, hx166_0, hx166_1⟩:=at_T88 (Kd.R_reads' HO163.out).2.2 0 p166 q166;obtain rfl : (⟨go5, 0, none⟩ : Addr) = ad166:=(by injection e166);(first|simp only [add_plain] at hx166_0|simp only [add_at] at hx166_0|simp only [Addr.add, Nat.zero_add] at hx166_0|skip);(first|simp only [add_plain] at hx166_1|simp only [add_at] at hx166_1|simp only [Addr.add, Nat.zero_add] at hx166_1|skip);have qi166 : (0 < y165.length) = True:=eq_true (by omega);(try rw [show ((0 : Int)).toNat = 0 from rfl] at hx166_0);(try rw [show 0 * 2 = 0 from rfl] at hx166_0);(try rw [Addr.add_zero'] at hx166_0);(try rw [show ((0 : Int)).toNat = 0 from rfl] at hx166_1);(try rw [show 0 * 2 = 0 from rfl] at hx166_1);(try rw [Addr.add_zero'] at hx166_1);replace p166:=eq_true p166;replace q166:=eq_true q166))
   go_ret
   exact ⟨_, er_, Kd.Q_of_R (rq_ HO163.out), hb0_ HB.out⟩
 ·rw [if_neg c4] at H
  exact absurd H (by simp)

end Go.Proofs.Ytdgjelbkogfedaa.PRampNearest
