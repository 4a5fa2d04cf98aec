/- Contracts of functions that DualSingle reaches, a text of this session's own. -/
import Derived.Test.YtdgjelbkogfedaaBox2
import Derived.Test.YtdgjelbkogfedaaHDualSingley0
import Derived.Test.YtdgjelbkogfedaaHDualSingley4
namespace Go.Proofs.Ytdgjelbkogfedaa.PDualSingle
open Go.RowKit Go.Proofs.YtdgjelbkogfedaaW.PrintWords Go.Proofs.YtdgjelbkogfedaaW.PrintLast Go.Proofs.YtdgjelbkogfedaaW.PrintMore
attribute [local go_sem] max2_int min2_int max_two min_two max_three min_three max_four min_four   -- for this text's walks alone
set_option linter.unusedVariables false
set_option linter.unusedSimpArgs false

/-! ### offer_Supply: function 82 -/
mutual
def offer_Supply.j0 : Nat → Int → Bool → ByteArray → List (S116) → Option (Int × Int × Int)
 | 0, _, _, _, _ => none
 | k + 1, x1, x22, x122000, x122001 => if x22 = true then (some (0, 0, 4)) else (offer_Supply.l0 k x1 0 0 x122001 (x122001.length : Int) 0)
def offer_Supply.l0 : Nat → Int → Int → Int → List (S116) → Int → Int → Option (Int × Int × Int)
 | 0, _, _, _, _, _, _ => none
 | k + 1, x1, x8, x9, x24, x25, x26 => if x26 < x25 then (if 0 ≤ x26 then (if x26 < (x24.length : Int) then (if ((rd_T116 x24 x26).f1) < x1 then (if ((rd_T116 x24 x26).f1) ≤ x1 then (offer_Supply.l0 k x1 (wrap64 (x8 + ((rd_T116 x24 x26).f0))) (wrap64 (x9 + ((rd_T116 x24 x26).f0))) x24 x25 (wrap64 (x26 + 1))) else (offer_Supply.l0 k x1 (wrap64 (x8 + ((rd_T116 x24 x26).f0))) x9 x24 x25 (wrap64 (x26 + 1)))) else (if ((rd_T116 x24 x26).f1) ≤ x1 then (offer_Supply.l0 k x1 x8 (wrap64 (x9 + ((rd_T116 x24 x26).f0))) x24 x25 (wrap64 (x26 + 1))) else (offer_Supply.l0 k x1 x8 x9 x24 x25 (wrap64 (x26 + 1))))) else (none)) else (none)) else (some (x8, x9, 0))
end
def offer_Supply.f (k : Nat) (a0_0 : ByteArray) (l0_1 : List (S116)) (a1 : Int) : Option (Int × Int × Int) := (offer_Check.f k a0_0 l0_1).bind fun t122 => (if t122 = 0 then (if a1 < (-2000000) then (offer_Supply.j0 k a1 true a0_0 l0_1) else (offer_Supply.j0 k a1 (decide (a1 > 2000000)) a0_0 l0_1)) else (some (0, 0, t122)))
theorem offer_Supply.mono_l : ∀ k, (∀ y0 y1 y2 y3, LeO (offer_Supply.j0 k y0 y1 y2 y3) (offer_Supply.j0 (k + 1) y0 y1 y2 y3)) ∧ (∀ y0 y1 y2 y3 y4 y5, LeO (offer_Supply.l0 k y0 y1 y2 y3 y4 y5) (offer_Supply.l0 (k + 1) y0 y1 y2 y3 y4 y5))
 | 0 => ⟨fun _ _ _ _ r h => by simp [offer_Supply.j0] at h, fun _ _ _ _ _ _ r h => by simp [offer_Supply.l0] at h⟩
 | k + 1 => by
  obtain ⟨ih0, ih1⟩:=offer_Supply.mono_l k
  refine ⟨?_, ?_⟩
  ·intro y0 y1 y2 y3
   unfold offer_Supply.j0
   repeat' first|(with_reducible first|exact ih0 _ _ _ _|exact ih1 _ _ _ _ _ _|exact offer_Check.mono _ _ _|exact LeO.refl _|exact LeO.none _|refine LeO.ite ?_ ?_|refine LeO.bind ?_ (fun _=>?_))|exact ih0 _ _ _ _|exact ih1 _ _ _ _ _ _|exact offer_Check.mono _ _ _|exact LeO.none _|refine LeO.ite ?_ ?_|refine LeO.bind ?_ (fun _=>?_)
  ·intro y0 y1 y2 y3 y4 y5
   unfold offer_Supply.l0
   repeat' first|(with_reducible first|exact ih0 _ _ _ _|exact ih1 _ _ _ _ _ _|exact offer_Check.mono _ _ _|exact LeO.refl _|exact LeO.none _|refine LeO.ite ?_ ?_|refine LeO.bind ?_ (fun _=>?_))|exact ih0 _ _ _ _|exact ih1 _ _ _ _ _ _|exact offer_Check.mono _ _ _|exact LeO.none _|refine LeO.ite ?_ ?_|refine LeO.bind ?_ (fun _=>?_)
theorem offer_Supply.mono : ∀ a0 a1 a2 k, LeO (offer_Supply.f k a0 a1 a2) (offer_Supply.f (k + 1) a0 a1 a2) := by
 intro a0 a1 a2 k
 obtain ⟨ih0, ih1⟩:=offer_Supply.mono_l k
 unfold offer_Supply.f
 repeat' first|(with_reducible first|exact ih0 _ _ _ _|exact ih1 _ _ _ _ _ _|exact offer_Check.mono _ _ _|exact LeO.refl _|exact LeO.none _|refine LeO.ite ?_ ?_|refine LeO.bind ?_ (fun _=>?_))|exact ih0 _ _ _ _|exact ih1 _ _ _ _ _ _|exact offer_Check.mono _ _ _|exact LeO.none _|refine LeO.ite ?_ ?_|refine LeO.bind ?_ (fun _=>?_)
set_option maxHeartbeats 8000000 in
set_option maxRecDepth 100000 in
theorem offer_Supply.calls (k : Nat) (a0_0 : ByteArray) (A0_1 : Option Addr) (c0_1 : Nat) (l0_1 : List (S116)) (a1 : Int) (r1 : Int) (r2 : Int) (r3 : Int) (w : World) (hr0_1 : Kd.C k116 w A0_1 l0_1.length l0_1) (hc0_1 : l0_1.length ≤ c0_1) (h : offer_Supply.f k a0_0 l0_1 a1 = some (r1, r2, r3)) :
  Calls Try.prog 82 #[.agg #[.string a0_0, .slice A0_1 l0_1.length c0_1], .int .i64 a1] w fun e w' => e = .returned (.tuple #[.int .i64 r1, .int .i64 r2, .int .i64 r3]) ∧ Below w.heap.size w w' := by
 have hu26:=Try.underlying26;have hu116:=Try.underlying116;have HR0_1:=k0_ hr0_1;have HC0_1:=k0_ hc0_1;clear hr0_1 hc0_1;have HB:=k0_ (Below.refl w.heap.size w);have H : ((offer_Check.f k a0_0 l0_1).bind fun t122=>(if t122 = 0 then (if a1 < (-2000000) then (offer_Supply.j0 k a1 true a0_0 l0_1) else (offer_Supply.j0 k a1 (decide (a1 > 2000000)) a0_0 l0_1)) else (some (0, 0, t122)))) = some (r1, r2, r3):=h;clear h;replace H:=Option.bind_eq_some_iff.mp H;obtain ⟨t122, A30, H⟩:=H;replace H : (if t122 = 0 then (if a1 < (-2000000) then (offer_Supply.j0 k a1 true a0_0 l0_1) else (offer_Supply.j0 k a1 (decide (a1 > 2000000)) a0_0 l0_1)) else (some (0, 0, t122))) = some (r1, r2, r3):=H;have A3:=k0_ A30;clear A30
 by_cases c4 : t122 = 0
 ·rw [if_pos c4] at H
  have c4b0:=beq_iff_eq.mpr c4;have c4b1:=bne_eq_false_iff_eq.mpr c4;clear c4;have HC5:=k0_ H;clear H
  go_enter Try.func82, Try.ntmps82
  go_upto_region 4 with (first|((with_reducible refine gate_dst (N:=2) rfl ?_);refine box_event ?hg (N:=2) ?hd (cs:=#[.string a0_0, .slice A0_1 l0_1.length c0_1]) (t:=26) ?hr ?_;(case hd=>rfl);(case hg=>rfl);(case hr=>first|(go_simp;done)|(go_simp;rfl));intro gb121 hg w6 hbox hb;have BK121:=k0_ (hbox);have GW121:=k0_ ((by rw [hg];exact (below_size (hb0_ HB.out)) : w.heap.size ≤ gb121));have GE121:=k0_ ((by rw [hg];exact (below_size (hb0_ HB.out)) : w.heap.size ≤ gb121));replace HB:=k0_ (below_step (hb0_ HB.out) hb);clear hb hbox hg;obtain ⟨hcz7_0,hcz7_1⟩:=bc2_ BK121.out;obtain ⟨hfz7_0,hfz7_1⟩:=bf2_ BK121.out)|((with_reducible refine gate_callee (f:=53) rfl ?_);refine goesL_ (some 13) rfl rfl Try.func53 (by kernel_rfl) rfl #[.agg #[.string a0_0, .slice A0_1 l0_1.length c0_1]] rfl mt_ ?_;(with_reducible refine (offer_Check.calls k a0_0 _ _ l0_1 t122 _ ?side1 ?side2 A3.out).mono ?_);(case side1=>repeat (first|exact (Kd.C_below HR0_1.out HB.out)|(with_reducible refine Kd.C_alloc ?_ _)|(with_reducible refine Kd.C_drewN ?_ _)|(with_reducible refine Kd.C_drew ?_)));(case side2=>exact HC0_1.out);rintro e w8 ⟨rfl, hb⟩;refine ⟨_, rfl, ?_⟩;replace BK121:=k0_ (blk_below (g:=gb121) (o:=.cells #[.string a0_0, .slice A0_1 l0_1.length c0_1] 26 (0, 0)) (bq_ BK121.out) hb);replace HB:=k0_ (below_step (hb1_ HB.out GE121.out) hb);(try clear hb);(try clear hb2);(try clear hk);(try clear hi)))
  (try simp only [Act.put, q1_,q2_,q3_])
  go_cut [22] (fun v22 wc=>∃ (kq : Nat) (x22_4 : Bool), v22 = .bool x22_4∧Aside0 (offer_Supply.j0 kq a1 x22_4 a0_0 l0_1 = some (r1, r2, r3))∧Aside0 (kq ≤ k)∧Aside0 (wc.heap[gb121]? = some (.cells #[.string a0_0, (.slice A0_1 l0_1.length c0_1)] 26 (0, 0)))∧Aside0 (Below w.heap.size w wc))
  case first =>
   have H:=HC5.out;clear HC5
   by_cases c9 : a1 < (-2000000)
   ·rw [if_pos c9] at H
    have c9b0:=decide_eq_true c9;clear c9;(first|rw [c9b0]|(simp only [i64_w, i32_w];rw [c9b0])|skip);have H':=k0_ H;clear H;go_wp2
    go_meet
    case rel=>exact ⟨_, (true),rs_, H', ⟨by first|omega|exact Nat.le_refl _⟩,⟨bq_ BK121.out⟩,⟨hb1_ HB.out GE121.out⟩⟩
   ·rw [if_neg c9] at H
    have c9b0:=decide_eq_false c9;clear c9;(first|rw [c9b0]|(simp only [i64_w, i32_w];rw [c9b0])|skip);have H':=k0_ H;clear H;go_wp2
    go_meet
    case rel=>exact ⟨_, (decide (a1 > 2000000)),rs_, H', ⟨by first|omega|exact Nat.le_refl _⟩,⟨bq_ BK121.out⟩,⟨hb1_ HB.out GE121.out⟩⟩
  clear HC5;(try clear p2);(try clear c4);(try clear c4b0);(try clear c4b1);(try clear c5);(try clear c8);(try clear c9);(try clear c9b0);(try clear hcz7_0);(try clear hcz7_1);(try clear hfz7_0);(try clear hfz7_1);obtain ⟨kq, x22_4, rfl, HA, HJ4, BK121, HB⟩:=hcut;obtain _|kj4:=kq
  ·exact absurd HA.out (by simp [offer_Supply.j0])
  have H:=HA.out;clear HA;simp only [offer_Supply.j0] at H
  by_cases c10 : x22_4 = true
  ·subst c10
   have H1 : (some (0, 0, 4)) = some (r1, r2, r3):=by rw [if_pos rfl] at H;exact H
   clear H;have H:=H1;clear H1;simp only [Option.some.injEq, Prod.mk.injEq] at H;obtain ⟨rfl, rfl, rfl⟩:=H;go_wp2
   go_ret3
   exact ⟨er_, hb1_ HB.out GE121.out⟩
  ·replace c10:=Bool.eq_false_iff.mpr c10
   subst c10;have H1 : (offer_Supply.l0 kj4 a1 0 0 l0_1 (l0_1.length : Int) 0) = some (r1, r2, r3):=by rw [if_neg (show ¬ (false = true) by decide)] at H;exact H
   clear H;have H:=H1;clear H1;have H':=k0_ H;clear H;obtain ⟨hcz11_0,hcz11_1⟩:=bc2_ BK121.out;obtain ⟨hfz11_0,hfz11_1⟩:=bf2_ BK121.out;go_wp2;(try simp only [Act.put, q1_,q3_,q2_])
   go_loopg [8, 9, 26] kj4 (fun kq v8 v9 v26 w'=>∃ (x8_2 : Int) (x9_2 : Int) (x26_2 : Int), v8 = .int .i64 x8_2∧v9 = .int .i64 x9_2∧v26 = .int .i64 x26_2∧Aside0 (offer_Supply.l0 kq a1 x8_2 x9_2 l0_1 (l0_1.length : Int) x26_2 = some (r1, r2, r3))∧Aside0 (kq ≤ kj4)∧Aside0 (w'.heap[gb121]? = some (.cells #[.string a0_0, (.slice A0_1 l0_1.length c0_1)] 26 (0, 0)))∧Aside0 (Below w.heap.size w w'))
   case atStart=>exact ⟨(0),(0),(0),rs_,rs_,rs_, H', ⟨Nat.le_refl _⟩,⟨bq_ BK121.out⟩,⟨hb1_ HB.out GE121.out⟩⟩
   clear H';(try clear c1);(try clear p2);(try clear c4);(try clear c4b0);(try clear c4b1);(try clear c5);(try clear c8);(try clear c9);(try clear c9b0);(try clear c10);(try clear hcz11_0);(try clear hcz11_1);(try clear hcz7_0);(try clear hcz7_1);(try clear hfz11_0);(try clear hfz11_1);(try clear hfz7_0);(try clear hfz7_1);(try clear p2);obtain ⟨x8_2, x9_2, x26_2, rfl, rfl, rfl, HA, HK2, BK121, HB⟩:=hrel;obtain _|k2:=gk
   ·exact absurd HA.out (by simp [offer_Supply.l0])
   have H:=HA.out;clear HA;simp only [offer_Supply.l0] at H
   by_cases c12 : x26_2 < (l0_1.length : Int)
   ·rw [if_pos c12] at H
    have c12b0:=decide_eq_true c12;clear c12
    by_cases c13 : 0 ≤ x26_2
    rw [if_pos c13] at H;have c13b0:=decide_eq_true c13;clear c13
    focus
     by_cases c14 : x26_2 < (l0_1.length : Int)
     rw [if_pos c14] at H;have c14b0:=decide_eq_true c14;clear c14
     focus
      by_cases c15 : ((rd_T116 l0_1 x26_2).f1) < a1
      rw [if_pos c15] at H;have c15b0:=decide_eq_true c15;clear c15
      focus
       by_cases c16 : ((rd_T116 l0_1 x26_2).f1) ≤ a1
       rw [if_pos c16] at H;have c16b0:=decide_eq_true c16;clear c16;have H':=k0_ H;clear H;rotate_left;rw [if_neg c16] at H;have c16b0:=decide_eq_false c16;clear c16;have H':=k0_ H;clear H;rotate_left
      rotate_left 2;rw [if_neg c15] at H;have c15b0:=decide_eq_false c15;clear c15
      focus
       by_cases c23 : ((rd_T116 l0_1 x26_2).f1) ≤ a1
       rw [if_pos c23] at H;have c23b0:=decide_eq_true c23;clear c23;have H':=k0_ H;clear H;rotate_left;rw [if_neg c23] at H;have c23b0:=decide_eq_false c23;clear c23;have H':=k0_ H;clear H;rotate_left
      rotate_left 2
     rotate_left 4;rw [if_neg c14] at H
     exact absurd H (by simp)
    rotate_left 4;rw [if_neg c13] at H
    exact absurd H (by simp)
    all_goals
     have p123 : 0 ≤ (x26_2 : Int):=of_decide_eq_true as_;have q123 : x26_2 < (l0_1.length : Int):=of_decide_eq_true as_;obtain ⟨ad123, e123, hx123_0, hx123_1⟩:=at_T116 HR0_1.out x26_2 p123 q123;cases e123;replace hx123_0:=bt_ HB.out hx123_0;replace hx123_1:=bt_ HB.out hx123_1;replace p123:=eq_true p123;replace q123:=eq_true q123
     go_wp2_with (first|((with_reducible refine gate_dst (N:=11) rfl ?_);refine box_event ?hg (N:=11) ?hd (cs:=#[.int .i64 0, .int .i64 0]) (t:=116) ?hr ?_;(case hd=>rfl);(case hg=>rfl);(case hr=>first|(go_simp;done)|(go_simp;rfl));intro gb124 hg w17 hbox hb;have BK124:=k0_ (hbox);have GW124:=k0_ ((by rw [hg];exact (below_size (hb1_ HB.out GE121.out)) : w.heap.size ≤ gb124));have GE124:=k0_ ((by rw [hg];exact (below_size (hb1_ HB.out GE121.out)) : w.heap.size ≤ gb124));replace HB:=k0_ (below_step (hb1_ HB.out GE121.out) hb);have NB121_124:=k0_ ((by rw [hg];exact Nat.ne_of_lt (blk_lt (g:=gb121) (o:=.cells #[.string a0_0, .slice (some ad123) l0_1.length c0_1] 26 (0, 0)) (bq_ BK121.out)) : gb121 ≠ gb124));have NB124_121:=k0_ ((by rw [hg];exact Nat.ne_of_gt (blk_lt (g:=gb121) (o:=.cells #[.string a0_0, .slice (some ad123) l0_1.length c0_1] 26 (0, 0)) (bq_ BK121.out)) : gb124 ≠ gb121));replace BK121:=k0_ (blk_below (g:=gb121) (o:=.cells #[.string a0_0, .slice (some ad123) l0_1.length c0_1] 26 (0, 0)) (bq_ BK121.out) hb);clear hb hbox hg;have hnb18:=NB124_121.out;have hnc18:=NB121_124.out;obtain ⟨hcz19_0,hcz19_1⟩:=bc2_ BK124.out;obtain ⟨hfz19_0,hfz19_1⟩:=bf2_ BK124.out))
    ·go_roundg k2
     case measure=>have:=HJ4.out;have:=HK2.out;omega
     case rel=>exact ⟨(wrap64 (x8_2 + ((rd_T116 l0_1 x26_2).f0))),(wrap64 (x9_2 + ((rd_T116 l0_1 x26_2).f0))),(wrap64 (x26_2 + 1)),rs_,rs_,rs_, H', ⟨by have:=HJ4.out;have:=HK2.out;omega⟩,⟨by (with_reducible repeat (first|refine blk_drewN ?_ _|refine blk_drew ?_|refine blk_alloc ?_ _));refine blk_far ?_ NB121_124.out _;(with_reducible repeat (first|refine blk_drewN ?_ _|refine blk_drew ?_|refine blk_alloc ?_ _));refine blk_far ?_ NB121_124.out _;(with_reducible repeat (first|refine blk_drewN ?_ _|refine blk_drew ?_|refine blk_alloc ?_ _));exact BK121.out⟩,⟨hb2_ HB.out GE121.out GE124.out⟩⟩
    ·go_roundg k2
     case measure=>have:=HJ4.out;have:=HK2.out;omega
     case rel=>exact ⟨(wrap64 (x8_2 + ((rd_T116 l0_1 x26_2).f0))),(x9_2),(wrap64 (x26_2 + 1)),rs_,rs_,rs_, H', ⟨by have:=HJ4.out;have:=HK2.out;omega⟩,⟨by (with_reducible repeat (first|refine blk_drewN ?_ _|refine blk_drew ?_|refine blk_alloc ?_ _));refine blk_far ?_ NB121_124.out _;(with_reducible repeat (first|refine blk_drewN ?_ _|refine blk_drew ?_|refine blk_alloc ?_ _));refine blk_far ?_ NB121_124.out _;(with_reducible repeat (first|refine blk_drewN ?_ _|refine blk_drew ?_|refine blk_alloc ?_ _));exact BK121.out⟩,⟨hb2_ HB.out GE121.out GE124.out⟩⟩
    ·go_roundg k2
     case measure=>have:=HJ4.out;have:=HK2.out;omega
     case rel=>exact ⟨(x8_2),(wrap64 (x9_2 + ((rd_T116 l0_1 x26_2).f0))),(wrap64 (x26_2 + 1)),rs_,rs_,rs_, H', ⟨by have:=HJ4.out;have:=HK2.out;omega⟩,⟨by (with_reducible repeat (first|refine blk_drewN ?_ _|refine blk_drew ?_|refine blk_alloc ?_ _));refine blk_far ?_ NB121_124.out _;(with_reducible repeat (first|refine blk_drewN ?_ _|refine blk_drew ?_|refine blk_alloc ?_ _));refine blk_far ?_ NB121_124.out _;(with_reducible repeat (first|refine blk_drewN ?_ _|refine blk_drew ?_|refine blk_alloc ?_ _));exact BK121.out⟩,⟨hb2_ HB.out GE121.out GE124.out⟩⟩
    ·go_roundg k2
     case measure=>have:=HJ4.out;have:=HK2.out;omega
     case rel=>exact ⟨(x8_2),(x9_2),(wrap64 (x26_2 + 1)),rs_,rs_,rs_, H', ⟨by have:=HJ4.out;have:=HK2.out;omega⟩,⟨by (with_reducible repeat (first|refine blk_drewN ?_ _|refine blk_drew ?_|refine blk_alloc ?_ _));refine blk_far ?_ NB121_124.out _;(with_reducible repeat (first|refine blk_drewN ?_ _|refine blk_drew ?_|refine blk_alloc ?_ _));refine blk_far ?_ NB121_124.out _;(with_reducible repeat (first|refine blk_drewN ?_ _|refine blk_drew ?_|refine blk_alloc ?_ _));exact BK121.out⟩,⟨hb2_ HB.out GE121.out GE124.out⟩⟩
   ·rw [if_neg c12] at H
    have c12b0:=decide_eq_false c12;clear c12;simp only [Option.some.injEq, Prod.mk.injEq] at H;obtain ⟨rfl, rfl, rfl⟩:=H;go_wp2
    go_ret3
    exact ⟨er_, hb1_ HB.out GE121.out⟩
 ·rw [if_neg c4] at H
  have c4b0:=beq_eq_false_iff_ne.mpr c4;have c4b1:=bne_iff_ne.mpr c4;simp only [Option.some.injEq, Prod.mk.injEq] at H;obtain ⟨rfl, rfl, rfl⟩:=H
  go_enter Try.func82, Try.ntmps82
  go_wp2_with (first|((with_reducible refine gate_dst (N:=2) rfl ?_);refine box_event ?hg (N:=2) ?hd (cs:=#[.string a0_0, .slice A0_1 l0_1.length c0_1]) (t:=26) ?hr ?_;(case hd=>rfl);(case hg=>rfl);(case hr=>first|(go_simp;done)|(go_simp;rfl));intro gb121 hg w30 hbox hb;have BK121:=k0_ (hbox);have GW121:=k0_ ((by rw [hg];exact (below_size (hb0_ HB.out)) : w.heap.size ≤ gb121));have GE121:=k0_ ((by rw [hg];exact (below_size (hb0_ HB.out)) : w.heap.size ≤ gb121));replace HB:=k0_ (below_step (hb0_ HB.out) hb);clear hb hbox hg;obtain ⟨hcz31_0,hcz31_1⟩:=bc2_ BK121.out;obtain ⟨hfz31_0,hfz31_1⟩:=bf2_ BK121.out)|((with_reducible refine gate_callee (f:=53) rfl ?_);refine goesL_ (some 13) rfl rfl Try.func53 (by kernel_rfl) rfl #[.agg #[.string a0_0, .slice A0_1 l0_1.length c0_1]] rfl mt_ ?_;(with_reducible refine (offer_Check.calls k a0_0 _ _ l0_1 t122 _ ?side1 ?side2 A3.out).mono ?_);(case side1=>repeat (first|exact (Kd.C_below HR0_1.out HB.out)|(with_reducible refine Kd.C_alloc ?_ _)|(with_reducible refine Kd.C_drewN ?_ _)|(with_reducible refine Kd.C_drew ?_)));(case side2=>exact HC0_1.out);rintro e w32 ⟨rfl, hb⟩;refine ⟨_, rfl, ?_⟩;replace BK121:=k0_ (blk_below (g:=gb121) (o:=.cells #[.string a0_0, .slice A0_1 l0_1.length c0_1] 26 (0, 0)) (bq_ BK121.out) hb);replace HB:=k0_ (below_step (hb1_ HB.out GE121.out) hb);(try clear hb);(try clear hb2);(try clear hk);(try clear hi)))
  go_ret3
  exact ⟨er_, hb1_ HB.out GE121.out⟩

/-! ### offer_Cost: function 83 -/
mutual
def offer_Cost.j0 : Nat → Int → Bool → ByteArray → List (S116) → Option (Int × Int)
 | 0, _, _, _, _ => none
 | k + 1, x1, x23, x126000, x126001 => if x23 = true then (some (0, 4)) else (offer_Cost.l0 k x1 0 x126001 (x126001.length : Int) 0)
def offer_Cost.l0 : Nat → Int → Int → List (S116) → Int → Int → Option (Int × Int)
 | 0, _, _, _, _, _ => none
 | k + 1, x1, x7, x25, x26, x27 => if x27 < x26 then (if 0 ≤ x27 then (if x27 < (x25.length : Int) then (offer_Cost.l0 k (wrap64 (x1 - (mn x1 ((rd_T116 x25 x27).f0)))) (wrap64 (x7 + (wrap64 ((mn x1 ((rd_T116 x25 x27).f0)) * ((rd_T116 x25 x27).f1))))) x25 x26 (wrap64 (x27 + 1))) else (none)) else (none)) else (some (x7, 0))
end
def offer_Cost.f (k : Nat) (a0_0 : ByteArray) (l0_1 : List (S116)) (a1 : Int) : Option (Int × Int) := (offer_Check.f k a0_0 l0_1).bind fun t126 => (if t126 = 0 then (if a1 < 0 then (offer_Cost.j0 k a1 true a0_0 l0_1) else ((offer_Most.f k a0_0 l0_1).bind fun t127 => (offer_Cost.j0 k a1 (decide (a1 > t127)) a0_0 l0_1))) else (some (0, t126)))
theorem offer_Cost.mono_l : ∀ k, (∀ y0 y1 y2 y3, LeO (offer_Cost.j0 k y0 y1 y2 y3) (offer_Cost.j0 (k + 1) y0 y1 y2 y3)) ∧ (∀ y0 y1 y2 y3 y4, LeO (offer_Cost.l0 k y0 y1 y2 y3 y4) (offer_Cost.l0 (k + 1) y0 y1 y2 y3 y4))
 | 0 => ⟨fun _ _ _ _ r h => by simp [offer_Cost.j0] at h, fun _ _ _ _ _ r h => by simp [offer_Cost.l0] at h⟩
 | k + 1 => by
  obtain ⟨ih0, ih1⟩:=offer_Cost.mono_l k
  refine ⟨?_, ?_⟩
  ·intro y0 y1 y2 y3
   unfold offer_Cost.j0
   repeat' first|(with_reducible first|exact ih0 _ _ _ _|exact ih1 _ _ _ _ _|exact offer_Check.mono _ _ _|exact offer_Most.mono _ _ _|exact LeO.refl _|exact LeO.none _|refine LeO.ite ?_ ?_|refine LeO.bind ?_ (fun _=>?_))|exact ih0 _ _ _ _|exact ih1 _ _ _ _ _|exact offer_Check.mono _ _ _|exact offer_Most.mono _ _ _|exact LeO.none _|refine LeO.ite ?_ ?_|refine LeO.bind ?_ (fun _=>?_)
  ·intro y0 y1 y2 y3 y4
   unfold offer_Cost.l0
   repeat' first|(with_reducible first|exact ih0 _ _ _ _|exact ih1 _ _ _ _ _|exact offer_Check.mono _ _ _|exact offer_Most.mono _ _ _|exact LeO.refl _|exact LeO.none _|refine LeO.ite ?_ ?_|refine LeO.bind ?_ (fun _=>?_))|exact ih0 _ _ _ _|exact ih1 _ _ _ _ _|exact offer_Check.mono _ _ _|exact offer_Most.mono _ _ _|exact LeO.none _|refine LeO.ite ?_ ?_|refine LeO.bind ?_ (fun _=>?_)
theorem offer_Cost.mono : ∀ a0 a1 a2 k, LeO (offer_Cost.f k a0 a1 a2) (offer_Cost.f (k + 1) a0 a1 a2) := by
 intro a0 a1 a2 k
 obtain ⟨ih0, ih1⟩:=offer_Cost.mono_l k
 unfold offer_Cost.f
 repeat' first|(with_reducible first|exact ih0 _ _ _ _|exact ih1 _ _ _ _ _|exact offer_Check.mono _ _ _|exact offer_Most.mono _ _ _|exact LeO.refl _|exact LeO.none _|refine LeO.ite ?_ ?_|refine LeO.bind ?_ (fun _=>?_))|exact ih0 _ _ _ _|exact ih1 _ _ _ _ _|exact offer_Check.mono _ _ _|exact offer_Most.mono _ _ _|exact LeO.none _|refine LeO.ite ?_ ?_|refine LeO.bind ?_ (fun _=>?_)
set_option maxHeartbeats 8000000 in
set_option maxRecDepth 100000 in
theorem offer_Cost.calls (k : Nat) (a0_0 : ByteArray) (A0_1 : Option Addr) (c0_1 : Nat) (l0_1 : List (S116)) (a1 : Int) (r1 : Int) (r2 : Int) (w : World) (hr0_1 : Kd.C k116 w A0_1 l0_1.length l0_1) (hc0_1 : l0_1.length ≤ c0_1) (h : offer_Cost.f k a0_0 l0_1 a1 = some (r1, r2)) :
  Calls Try.prog 83 #[.agg #[.string a0_0, .slice A0_1 l0_1.length c0_1], .int .i64 a1] w fun e w' => e = .returned (.tuple #[.int .i64 r1, .int .i64 r2]) ∧ Below w.heap.size w w' := by
 have hu26:=Try.underlying26;have hu116:=Try.underlying116;have HR0_1:=k0_ hr0_1;have HC0_1:=k0_ hc0_1;clear hr0_1 hc0_1;have HB:=k0_ (Below.refl w.heap.size w);have H : ((offer_Check.f k a0_0 l0_1).bind fun t126=>(if t126 = 0 then (if a1 < 0 then (offer_Cost.j0 k a1 true a0_0 l0_1) else ((offer_Most.f k a0_0 l0_1).bind fun t127=>(offer_Cost.j0 k a1 (decide (a1 > t127)) a0_0 l0_1))) else (some (0, t126)))) = some (r1, r2):=h;clear h;replace H:=Option.bind_eq_some_iff.mp H;obtain ⟨t126, A30, H⟩:=H;replace H : (if t126 = 0 then (if a1 < 0 then (offer_Cost.j0 k a1 true a0_0 l0_1) else ((offer_Most.f k a0_0 l0_1).bind fun t127=>(offer_Cost.j0 k a1 (decide (a1 > t127)) a0_0 l0_1))) else (some (0, t126))) = some (r1, r2):=H;have A3:=k0_ A30;clear A30
 by_cases c4 : t126 = 0
 ·rw [if_pos c4] at H
  have c4b0:=beq_iff_eq.mpr c4;have c4b1:=bne_eq_false_iff_eq.mpr c4;clear c4;have HC5:=k0_ H;clear H
  go_enter Try.func83, Try.ntmps83
  go_upto_region 4 with (first|((with_reducible refine gate_dst (N:=2) rfl ?_);refine box_event ?hg (N:=2) ?hd (cs:=#[.string a0_0, .slice A0_1 l0_1.length c0_1]) (t:=26) ?hr ?_;(case hd=>rfl);(case hg=>rfl);(case hr=>first|(go_simp;done)|(go_simp;rfl));intro gb125 hg w6 hbox hb;have BK125:=k0_ (hbox);have GW125:=k0_ ((by rw [hg];exact (below_size (hb0_ HB.out)) : w.heap.size ≤ gb125));have GE125:=k0_ ((by rw [hg];exact (below_size (hb0_ HB.out)) : w.heap.size ≤ gb125));replace HB:=k0_ (below_step (hb0_ HB.out) hb);clear hb hbox hg;obtain ⟨hcz7_0,hcz7_1⟩:=bc2_ BK125.out;obtain ⟨hfz7_0,hfz7_1⟩:=bf2_ BK125.out)|((with_reducible refine gate_callee (f:=53) rfl ?_);refine goesL_ (some 12) rfl rfl Try.func53 (by kernel_rfl) rfl #[.agg #[.string a0_0, .slice A0_1 l0_1.length c0_1]] rfl mt_ ?_;(with_reducible refine (offer_Check.calls k a0_0 _ _ l0_1 t126 _ ?side1 ?side2 A3.out).mono ?_);(case side1=>repeat (first|exact (Kd.C_below HR0_1.out HB.out)|(with_reducible refine Kd.C_alloc ?_ _)|(with_reducible refine Kd.C_drewN ?_ _)|(with_reducible refine Kd.C_drew ?_)));(case side2=>exact HC0_1.out);rintro e w8 ⟨rfl, hb⟩;refine ⟨_, rfl, ?_⟩;replace BK125:=k0_ (blk_below (g:=gb125) (o:=.cells #[.string a0_0, .slice A0_1 l0_1.length c0_1] 26 (0, 0)) (bq_ BK125.out) hb);replace HB:=k0_ (below_step (hb1_ HB.out GE125.out) hb);(try clear hb);(try clear hb2);(try clear hk);(try clear hi)))
  (try simp only [Act.put, q1_,q2_,q3_])
  go_cut [23] (fun v23 wc=>∃ (kq : Nat) (x23_4 : Bool), v23 = .bool x23_4∧Aside0 (offer_Cost.j0 kq a1 x23_4 a0_0 l0_1 = some (r1, r2))∧Aside0 (kq ≤ k)∧Aside0 (wc.heap[gb125]? = some (.cells #[.string a0_0, (.slice A0_1 l0_1.length c0_1)] 26 (0, 0)))∧Aside0 (Below w.heap.size w wc))
  case first =>
   have H:=HC5.out;clear HC5
   by_cases c9 : a1 < 0
   ·rw [if_pos c9] at H
    have c9b0:=decide_eq_true c9;clear c9;(first|rw [c9b0]|(simp only [i64_w, i32_w];rw [c9b0])|skip);have H':=k0_ H;clear H;go_wp2
    go_meet
    case rel=>exact ⟨_, (true),rs_, H', ⟨by first|omega|exact Nat.le_refl _⟩,⟨bq_ BK125.out⟩,⟨hb1_ HB.out GE125.out⟩⟩
   ·rw [if_neg c9] at H
    have c9b0:=decide_eq_false c9;clear c9;(first|rw [c9b0]|(simp only [i64_w, i32_w];rw [c9b0])|skip);replace H:=Option.bind_eq_some_iff.mp H;obtain ⟨t127, A100, H⟩:=H;replace H : (offer_Cost.j0 k a1 (decide (a1 > t127)) a0_0 l0_1) = some (r1, r2):=H;have A10:=k0_ A100;clear A100;have H':=k0_ H;clear H;obtain ⟨hcz11_0,hcz11_1⟩:=bc2_ BK125.out;obtain ⟨hfz11_0,hfz11_1⟩:=bf2_ BK125.out
    go_wp2_with (first|(go_at_call 54;(with_reducible refine (offer_Most.calls k a0_0 _ _ l0_1 t127 _ ?side1 ?side2 A10.out).mono ?_);(case side1=>repeat (first|exact (Kd.C_below HR0_1.out HB.out)|(with_reducible refine Kd.C_alloc ?_ _)|(with_reducible refine Kd.C_drewN ?_ _)|(with_reducible refine Kd.C_drew ?_)));(case side2=>exact HC0_1.out);rintro e w12 ⟨rfl, hb⟩;replace BK125:=k0_ (blk_below (g:=gb125) (o:=.cells #[.string a0_0, .slice A0_1 l0_1.length c0_1] 26 (0, 0)) (bq_ BK125.out) hb);replace HB:=k0_ (below_step (hb1_ HB.out GE125.out) hb);(try clear hb);(try clear hb2);(try clear hk);(try clear hi)))
    go_meet
    case rel=>exact ⟨_, (decide (a1 > t127)),rs_, H', ⟨by first|omega|exact Nat.le_refl _⟩,⟨bq_ BK125.out⟩,⟨hb1_ HB.out GE125.out⟩⟩
  clear HC5;(try clear p2);(try clear c4);(try clear c4b0);(try clear c4b1);(try clear c5);(try clear c8);(try clear c9);(try clear c9b0);(try clear hcz11_0);(try clear hcz11_1);(try clear hcz7_0);(try clear hcz7_1);(try clear hfz11_0);(try clear hfz11_1);(try clear hfz7_0);(try clear hfz7_1);obtain ⟨kq, x23_4, rfl, HA, HJ4, BK125, HB⟩:=hcut;obtain _|kj4:=kq
  ·exact absurd HA.out (by simp [offer_Cost.j0])
  have H:=HA.out;clear HA;simp only [offer_Cost.j0] at H
  by_cases c13 : x23_4 = true
  ·subst c13
   have H1 : (some (0, 4)) = some (r1, r2):=by rw [if_pos rfl] at H;exact H
   clear H;have H:=H1;clear H1;simp only [Option.some.injEq, Prod.mk.injEq] at H;obtain ⟨rfl, rfl⟩:=H;go_wp2
   go_ret2
   exact ⟨er_, hb1_ HB.out GE125.out⟩
  ·replace c13:=Bool.eq_false_iff.mpr c13
   subst c13;have H1 : (offer_Cost.l0 kj4 a1 0 l0_1 (l0_1.length : Int) 0) = some (r1, r2):=by rw [if_neg (show ¬ (false = true) by decide)] at H;exact H
   clear H;have H:=H1;clear H1;have H':=k0_ H;clear H;obtain ⟨hcz14_0,hcz14_1⟩:=bc2_ BK125.out;obtain ⟨hfz14_0,hfz14_1⟩:=bf2_ BK125.out;go_wp2;(try simp only [Act.put, q1_,q3_,q2_])
   go_loopg [1, 7, 27] kj4 (fun kq v1 v7 v27 w'=>∃ (x1_2 : Int) (x7_2 : Int) (x27_2 : Int), v1 = .int .i64 x1_2∧v7 = .int .i64 x7_2∧v27 = .int .i64 x27_2∧Aside0 (offer_Cost.l0 kq x1_2 x7_2 l0_1 (l0_1.length : Int) x27_2 = some (r1, r2))∧Aside0 (kq ≤ kj4)∧Aside0 (w'.heap[gb125]? = some (.cells #[.string a0_0, (.slice A0_1 l0_1.length c0_1)] 26 (0, 0)))∧Aside0 (Below w.heap.size w w'))
   case atStart=>exact ⟨(a1),(0),(0),rs_,rs_,rs_, H', ⟨Nat.le_refl _⟩,⟨bq_ BK125.out⟩,⟨hb1_ HB.out GE125.out⟩⟩
   clear H';(try clear c1);(try clear p2);(try clear c4);(try clear c4b0);(try clear c4b1);(try clear c5);(try clear c8);(try clear c9);(try clear c9b0);(try clear c13);(try clear hcz11_0);(try clear hcz11_1);(try clear hcz14_0);(try clear hcz14_1);(try clear hcz7_0);(try clear hcz7_1);(try clear hfz11_0);(try clear hfz11_1);(try clear hfz14_0);(try clear hfz14_1);(try clear hfz7_0);(try clear hfz7_1);(try clear p2);obtain ⟨x1_2, x7_2, x27_2, rfl, rfl, rfl, HA, HK2, BK125, HB⟩:=hrel;obtain _|k2:=gk
   ·exact absurd HA.out (by simp [offer_Cost.l0])
   have H:=HA.out;clear HA;simp only [offer_Cost.l0] at H
   by_cases c15 : x27_2 < (l0_1.length : Int)
   ·rw [if_pos c15] at H
    have c15b0:=decide_eq_true c15;clear c15
    obtain ⟨c16,H⟩:=gi_ H;have c16b0:=decide_eq_true c16;clear c16
    obtain ⟨c17,H⟩:=gi_ H;have c17b0:=decide_eq_true c17;clear c17;obtain ⟨ji18, hji18⟩ : ∃ j_ : Int, (mn x1_2 ((rd_T116 l0_1 x27_2).f0)) = j_:=⟨_, rfl⟩;replace H : (offer_Cost.l0 k2 (wrap64 (x1_2 - (ji18))) (wrap64 (x7_2 + (wrap64 ((ji18) * ((rd_T116 l0_1 x27_2).f1))))) l0_1 (l0_1.length : Int) (wrap64 (x27_2 + 1))) = some (r1, r2):=by first|(rw [hji18] at H;exact H)|(simp only [hji18] at H ⊢;exact H)
    have hji18_ : (if ((rd_T116 l0_1 x27_2).f0) < x1_2 then ((rd_T116 l0_1 x27_2).f0) else x1_2) = ji18:=hji18;have H':=k0_ H;clear H;have p128 : 0 ≤ (x27_2 : Int):=of_decide_eq_true as_;have q128 : x27_2 < (l0_1.length : Int):=of_decide_eq_true as_;obtain ⟨ad128, e128, hx128_0, hx128_1⟩:=at_T116 HR0_1.out x27_2 p128 q128;cases e128;replace hx128_0:=bt_ HB.out hx128_0;replace hx128_1:=bt_ HB.out hx128_1;replace p128:=eq_true p128;replace q128:=eq_true q128
    go_wp2_with (first|((with_reducible refine gate_dst (N:=9) rfl ?_);refine box_event ?hg (N:=9) ?hd (cs:=#[.int .i64 0, .int .i64 0]) (t:=116) ?hr ?_;(case hd=>rfl);(case hg=>rfl);(case hr=>first|(go_simp;done)|(go_simp;rfl));intro gb129 hg w19 hbox hb;have BK129:=k0_ (hbox);have GW129:=k0_ ((by rw [hg];exact (below_size (hb1_ HB.out GE125.out)) : w.heap.size ≤ gb129));have GE129:=k0_ ((by rw [hg];exact (below_size (hb1_ HB.out GE125.out)) : w.heap.size ≤ gb129));replace HB:=k0_ (below_step (hb1_ HB.out GE125.out) hb);have NB125_129:=k0_ ((by rw [hg];exact Nat.ne_of_lt (blk_lt (g:=gb125) (o:=.cells #[.string a0_0, .slice (some ad128) l0_1.length c0_1] 26 (0, 0)) (bq_ BK125.out)) : gb125 ≠ gb129));have NB129_125:=k0_ ((by rw [hg];exact Nat.ne_of_gt (blk_lt (g:=gb125) (o:=.cells #[.string a0_0, .slice (some ad128) l0_1.length c0_1] 26 (0, 0)) (bq_ BK125.out)) : gb129 ≠ gb125));replace BK125:=k0_ (blk_below (g:=gb125) (o:=.cells #[.string a0_0, .slice (some ad128) l0_1.length c0_1] 26 (0, 0)) (bq_ BK125.out) hb);clear hb hbox hg;have hnb20:=NB129_125.out;have hnc20:=NB125_129.out;obtain ⟨hcz21_0,hcz21_1⟩:=bc2_ BK129.out;obtain ⟨hfz21_0,hfz21_1⟩:=bf2_ BK129.out))
    go_roundg k2
    case measure=>have:=HJ4.out;have:=HK2.out;omega
    case rel=>exact ⟨(wrap64 (x1_2 - (ji18))),(wrap64 (x7_2 + (wrap64 ((ji18) * ((rd_T116 l0_1 x27_2).f1))))),(wrap64 (x27_2 + 1)),(by first|rfl|(simp;done)|(simp only [← hji18] <;> (first|rfl|simp))|(simp [*];done)),(by first|rfl|(simp;done)|(simp only [← hji18] <;> (first|rfl|simp))|(simp [*];done)),rs_, H', ⟨by have:=HJ4.out;have:=HK2.out;omega⟩,⟨by (with_reducible repeat (first|refine blk_drewN ?_ _|refine blk_drew ?_|refine blk_alloc ?_ _));refine blk_far ?_ NB125_129.out _;(with_reducible repeat (first|refine blk_drewN ?_ _|refine blk_drew ?_|refine blk_alloc ?_ _));refine blk_far ?_ NB125_129.out _;(with_reducible repeat (first|refine blk_drewN ?_ _|refine blk_drew ?_|refine blk_alloc ?_ _));exact BK125.out⟩,⟨hb2_ HB.out GE125.out GE129.out⟩⟩
   ·rw [if_neg c15] at H
    have c15b0:=decide_eq_false c15;clear c15;simp only [Option.some.injEq, Prod.mk.injEq] at H;obtain ⟨rfl, rfl⟩:=H;go_wp2
    go_ret2
    exact ⟨er_, hb1_ HB.out GE125.out⟩
 ·rw [if_neg c4] at H
  have c4b0:=beq_eq_false_iff_ne.mpr c4;have c4b1:=bne_iff_ne.mpr c4;simp only [Option.some.injEq, Prod.mk.injEq] at H;obtain ⟨rfl, rfl⟩:=H
  go_enter Try.func83, Try.ntmps83
  go_wp2_with (first|((with_reducible refine gate_dst (N:=2) rfl ?_);refine box_event ?hg (N:=2) ?hd (cs:=#[.string a0_0, .slice A0_1 l0_1.length c0_1]) (t:=26) ?hr ?_;(case hd=>rfl);(case hg=>rfl);(case hr=>first|(go_simp;done)|(go_simp;rfl));intro gb125 hg w22 hbox hb;have BK125:=k0_ (hbox);have GW125:=k0_ ((by rw [hg];exact (below_size (hb0_ HB.out)) : w.heap.size ≤ gb125));have GE125:=k0_ ((by rw [hg];exact (below_size (hb0_ HB.out)) : w.heap.size ≤ gb125));replace HB:=k0_ (below_step (hb0_ HB.out) hb);clear hb hbox hg;obtain ⟨hcz23_0,hcz23_1⟩:=bc2_ BK125.out;obtain ⟨hfz23_0,hfz23_1⟩:=bf2_ BK125.out)|((with_reducible refine gate_callee (f:=53) rfl ?_);refine goesL_ (some 12) rfl rfl Try.func53 (by kernel_rfl) rfl #[.agg #[.string a0_0, .slice A0_1 l0_1.length c0_1]] rfl mt_ ?_;(with_reducible refine (offer_Check.calls k a0_0 _ _ l0_1 t126 _ ?side1 ?side2 A3.out).mono ?_);(case side1=>repeat (first|exact (Kd.C_below HR0_1.out HB.out)|(with_reducible refine Kd.C_alloc ?_ _)|(with_reducible refine Kd.C_drewN ?_ _)|(with_reducible refine Kd.C_drew ?_)));(case side2=>exact HC0_1.out);rintro e w24 ⟨rfl, hb⟩;refine ⟨_, rfl, ?_⟩;replace BK125:=k0_ (blk_below (g:=gb125) (o:=.cells #[.string a0_0, .slice A0_1 l0_1.length c0_1] 26 (0, 0)) (bq_ BK125.out) hb);replace HB:=k0_ (below_step (hb1_ HB.out GE125.out) hb);(try clear hb);(try clear hb2);(try clear hk);(try clear hi)))
  go_ret2
  exact ⟨er_, hb1_ HB.out GE125.out⟩

/-! ### dual_earn: function 45 -/
def dual_earn.f (k : Nat) (a0_0 : ByteArray) (a0_1 : Int) (a0_2 : Int) (a0_3 : Int) (a0_4 : Int) (a0_5 : Int) (a0_6 : Int) (a0_7 : Int) (a0_8 : ByteArray) (l0_9 : List (S116)) (a0_10 : Bool) (a0_11 : Int) (a0_12 : Int) (a1 : Int) : Option (Int × Int) := (offer_Supply.f k a0_8 l0_9 a1).bind fun bt131 => ((offer_Cost.f k a0_8 l0_9 (mx bt131.1 a0_1)).bind fun bt134 => (some (mx bt131.1 a0_1, wrap64 ((wrap64 (a1 * (mx bt131.1 a0_1))) - bt134.1))))
theorem dual_earn.mono : ∀ a0 a1 a2 a3 a4 a5 a6 a7 a8 a9 a10 a11 a12 a13 k, LeO (dual_earn.f k a0 a1 a2 a3 a4 a5 a6 a7 a8 a9 a10 a11 a12 a13) (dual_earn.f (k + 1) a0 a1 a2 a3 a4 a5 a6 a7 a8 a9 a10 a11 a12 a13) := by
 intro a0 a1 a2 a3 a4 a5 a6 a7 a8 a9 a10 a11 a12 a13 k
 unfold dual_earn.f
 repeat' first|(with_reducible first|exact offer_Cost.mono _ _ _ _|exact offer_Supply.mono _ _ _ _|exact LeO.refl _|exact LeO.none _|refine LeO.ite ?_ ?_|refine LeO.bind ?_ (fun _=>?_))|exact offer_Cost.mono _ _ _ _|exact offer_Supply.mono _ _ _ _|exact LeO.none _|refine LeO.ite ?_ ?_|refine LeO.bind ?_ (fun _=>?_)
set_option maxHeartbeats 8000000 in
set_option maxRecDepth 100000 in
theorem dual_earn.calls (k : Nat) (a0_0 : ByteArray) (a0_1 : Int) (a0_2 : Int) (a0_3 : Int) (a0_4 : Int) (a0_5 : Int) (a0_6 : Int) (a0_7 : Int) (a0_8 : ByteArray) (A0_9 : Option Addr) (c0_9 : Nat) (l0_9 : List (S116)) (a0_10 : Bool) (a0_11 : Int) (a0_12 : Int) (a1 : Int) (r1 : Int) (r2 : Int) (w : World) (hr0_9 : Kd.C k116 w A0_9 l0_9.length l0_9) (hc0_9 : l0_9.length ≤ c0_9) (h : dual_earn.f k a0_0 a0_1 a0_2 a0_3 a0_4 a0_5 a0_6 a0_7 a0_8 l0_9 a0_10 a0_11 a0_12 a1 = some (r1, r2)) :
  Calls Try.prog 45 #[.agg #[.string a0_0, .int .i64 a0_1, .int .i64 a0_2, .int .i64 a0_3, .int .i64 a0_4, .int .i64 a0_5, .int .i64 a0_6, .int .i64 a0_7, .string a0_8, .slice A0_9 l0_9.length c0_9, .bool a0_10, .int .i64 a0_11, .int .i64 a0_12], .int .i64 a1] w fun e w' => e = .returned (.tuple #[.int .i64 r1, .int .i64 r2]) ∧ Below w.heap.size w w' := by
 have hu30:=Try.underlying30;have hu26:=Try.underlying26;have HR0_9:=k0_ hr0_9;have HC0_9:=k0_ hc0_9;clear hr0_9 hc0_9;have HB:=k0_ (Below.refl w.heap.size w);have H : ((offer_Supply.f k a0_8 l0_9 a1).bind fun bt131=>((offer_Cost.f k a0_8 l0_9 (mx bt131.1 a0_1)).bind fun bt134=>(some (mx bt131.1 a0_1, wrap64 ((wrap64 (a1 * (mx bt131.1 a0_1))) - bt134.1))))) = some (r1, r2):=h;clear h;replace H:=Option.bind_eq_some_iff.mp H;obtain ⟨⟨t131, t132, t133⟩, A30, H⟩:=H;replace H : ((offer_Cost.f k a0_8 l0_9 (mx t131 a0_1)).bind fun bt134=>(some (mx t131 a0_1, wrap64 ((wrap64 (a1 * (mx t131 a0_1))) - bt134.1)))) = some (r1, r2):=H;have A3:=k0_ A30;clear A30;obtain ⟨ji4, hji4⟩ : ∃ j_ : Int, (mx t131 a0_1) = j_:=⟨_, rfl⟩;replace H : ((offer_Cost.f k a0_8 l0_9 (ji4)).bind fun bt134=>(some (ji4, wrap64 ((wrap64 (a1 * (ji4))) - bt134.1)))) = some (r1, r2):=by first|(rw [hji4] at H;exact H)|(simp only [hji4] at H ⊢;exact H)
 (try rw [hji4] at A3);have hji4_ : (if t131 < a0_1 then a0_1 else t131) = ji4:=hji4;replace H:=Option.bind_eq_some_iff.mp H;obtain ⟨⟨t134, t135⟩, A50, H⟩:=H;replace H : (some (ji4, wrap64 ((wrap64 (a1 * (ji4))) - t134))) = some (r1, r2):=H;have A5:=k0_ A50;clear A50;simp only [Option.some.injEq, Prod.mk.injEq] at H;obtain ⟨rfl, rfl⟩:=H
 go_enter Try.func45, Try.ntmps45
 go_wp2_with (first|((with_reducible refine gate_dst (N:=2) rfl ?_);refine box_event ?hg (N:=2) ?hd (cs:=#[.string a0_0, .int .i64 a0_1, .int .i64 a0_2, .int .i64 a0_3, .int .i64 a0_4, .int .i64 a0_5, .int .i64 a0_6, .int .i64 a0_7, .string a0_8, .slice A0_9 l0_9.length c0_9, .bool a0_10, .int .i64 a0_11, .int .i64 a0_12]) (t:=30) ?hr ?_;(case hd=>rfl);(case hg=>rfl);(case hr=>first|(go_simp;done)|(go_simp;rfl));intro gb130 hg w6 hbox hb;have BK130:=k0_ (hbox);have GW130:=k0_ ((by rw [hg];exact (below_size (hb0_ HB.out)) : w.heap.size ≤ gb130));have GE130:=k0_ ((by rw [hg];exact (below_size (hb0_ HB.out)) : w.heap.size ≤ gb130));replace HB:=k0_ (below_step (hb0_ HB.out) hb);clear hb hbox hg;obtain ⟨hcz7_0,hcz7_1,hcz7_2,hcz7_3,hcz7_4,hcz7_5,hcz7_6,hcz7_7,hcz7_8,hcz7_9,hcz7_10,hcz7_11,hcz7_12⟩:=bc13_ BK130.out;obtain ⟨hfz7_0,hfz7_1,hfz7_2,hfz7_3,hfz7_4,hfz7_5,hfz7_6,hfz7_7,hfz7_8,hfz7_9,hfz7_10,hfz7_11,hfz7_12⟩:=bf13_ BK130.out)|((with_reducible refine gate_callee (f:=82) rfl ?_);refine goesL_ (some 15) rfl rfl Try.func82 (by kernel_rfl) rfl #[.agg #[.string a0_8, .slice A0_9 l0_9.length c0_9], .int .i64 a1] rfl mt_ ?_;(with_reducible refine (offer_Supply.calls k a0_8 _ _ l0_9 a1 t131 t132 t133 _ ?side1 ?side2 A3.out).mono ?_);(case side1=>repeat (first|exact (Kd.C_below HR0_9.out HB.out)|(with_reducible refine Kd.C_alloc ?_ _)|(with_reducible refine Kd.C_drewN ?_ _)|(with_reducible refine Kd.C_drew ?_)));(case side2=>exact HC0_9.out);rintro e w8 ⟨rfl, hb⟩;refine ⟨_, rfl, ?_⟩;replace BK130:=k0_ (blk_below (g:=gb130) (o:=.cells #[.string a0_0, .int .i64 a0_1, .int .i64 a0_2, .int .i64 a0_3, .int .i64 a0_4, .int .i64 a0_5, .int .i64 a0_6, .int .i64 a0_7, .string a0_8, .slice A0_9 l0_9.length c0_9, .bool a0_10, .int .i64 a0_11, .int .i64 a0_12] 30 (0, 0)) (bq_ BK130.out) hb);replace HB:=k0_ (below_step (hb1_ HB.out GE130.out) hb);(try clear hb);(try clear hb2);(try clear hk);(try clear hi);obtain ⟨hcz9_0,hcz9_1,hcz9_2,hcz9_3,hcz9_4,hcz9_5,hcz9_6,hcz9_7,hcz9_8,hcz9_9,hcz9_10,hcz9_11,hcz9_12⟩:=bc13_ BK130.out;obtain ⟨hfz9_0,hfz9_1,hfz9_2,hfz9_3,hfz9_4,hfz9_5,hfz9_6,hfz9_7,hfz9_8,hfz9_9,hfz9_10,hfz9_11,hfz9_12⟩:=bf13_ BK130.out)|((with_reducible refine gate_callee (f:=83) rfl ?_);refine goesL_ (some 28) rfl rfl Try.func83 (by kernel_rfl) rfl #[.agg #[.string a0_8, .slice A0_9 l0_9.length c0_9], .int .i64 ji4] rfl (by (try simp only [List.map_toArray, List.map_cons, List.map_nil]);first|done|(simp only [hji4];rfl)|rfl|(simp only [List.length_drop, List.length_take];rfl)) ?_;(with_reducible refine (offer_Cost.calls k a0_8 _ _ l0_9 ji4 t134 t135 _ ?side1 ?side2 A5.out).mono ?_);(case side1=>repeat (first|exact (Kd.C_below HR0_9.out HB.out)|(with_reducible refine Kd.C_alloc ?_ _)|(with_reducible refine Kd.C_drewN ?_ _)|(with_reducible refine Kd.C_drew ?_)));(case side2=>exact HC0_9.out);rintro e w10 ⟨rfl, hb⟩;refine ⟨_, rfl, ?_⟩;replace BK130:=k0_ (blk_below (g:=gb130) (o:=.cells #[.string a0_0, .int .i64 a0_1, .int .i64 a0_2, .int .i64 a0_3, .int .i64 a0_4, .int .i64 a0_5, .int .i64 a0_6, .int .i64 a0_7, .string a0_8, .slice A0_9 l0_9.length c0_9, .bool a0_10, .int .i64 a0_11, .int .i64 a0_12] 30 (0, 0)) (bq_ BK130.out) hb);replace HB:=k0_ (below_step (hb1_ HB.out GE130.out) hb);(try clear hb);(try clear hb2);(try clear hk);(try clear hi)))
 go_ret2
 exact ⟨by first|rfl|(simp [errW_none, errW_some] <;> rfl)|(simp only [← hji4];first|rfl|(simp [errW_none, errW_some] <;> rfl))|(simp [*, errW_none, errW_some] <;> rfl), hb1_ HB.out GE130.out⟩

end Go.Proofs.Ytdgjelbkogfedaa.PDualSingle
