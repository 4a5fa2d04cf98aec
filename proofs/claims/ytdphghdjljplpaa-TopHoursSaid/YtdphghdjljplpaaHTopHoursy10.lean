/- Contracts of functions that TopHours reaches, a text of this session's own. -/
import Derived.Test.YtdphghdjljplpaaBox2
import Derived.Test.YtdphghdjljplpaaHTopHoursy0
import Derived.Test.YtdphghdjljplpaaHTopHoursy2
import Derived.Test.YtdphghdjljplpaaHTopHoursy3
import Derived.Test.YtdphghdjljplpaaHTopHoursy9
namespace Go.Proofs.Ytdphghdjljplpaa.PTopHours
open Go.RowKit Go.Proofs.YtdphghdjljplpaaW.PrintWords Go.Proofs.YtdphghdjljplpaaW.PrintLast Go.Proofs.YtdphghdjljplpaaW.PrintMore
attribute [local go_sem] max2_int min2_int max_two min_two max_three min_three max_four min_four   -- for this text's walks alone
set_option linter.unusedVariables false
set_option linter.unusedSimpArgs false

/-! ### offer_Supply: function 44 -/
mutual
def offer_Supply.j0 : Nat → Int → Bool → ByteArray → List (S96) → Option (Int × Int × Int)
 | 0, _, _, _, _ => none
 | k + 1, x1, x22, x189000, x189001 => if x22 = true then (some (0, 0, 4)) else (offer_Supply.l0 k x1 0 0 x189001 (x189001.length : Int) 0)
def offer_Supply.l0 : Nat → Int → Int → Int → List (S96) → Int → Int → Option (Int × Int × Int)
 | 0, _, _, _, _, _, _ => none
 | k + 1, x1, x8, x9, x24, x25, x26 => if x26 < x25 then (if 0 ≤ x26 then (if x26 < (x24.length : Int) then (if ((rd_T96 x24 x26).f1) < x1 then (if ((rd_T96 x24 x26).f1) ≤ x1 then (offer_Supply.l0 k x1 (wrap64 (x8 + ((rd_T96 x24 x26).f0))) (wrap64 (x9 + ((rd_T96 x24 x26).f0))) x24 x25 (wrap64 (x26 + 1))) else (offer_Supply.l0 k x1 (wrap64 (x8 + ((rd_T96 x24 x26).f0))) x9 x24 x25 (wrap64 (x26 + 1)))) else (if ((rd_T96 x24 x26).f1) ≤ x1 then (offer_Supply.l0 k x1 x8 (wrap64 (x9 + ((rd_T96 x24 x26).f0))) x24 x25 (wrap64 (x26 + 1))) else (offer_Supply.l0 k x1 x8 x9 x24 x25 (wrap64 (x26 + 1))))) else (none)) else (none)) else (some (x8, x9, 0))
end
def offer_Supply.f (k : Nat) (a0_0 : ByteArray) (l0_1 : List (S96)) (a1 : Int) : Option (Int × Int × Int) := (offer_Check.f k a0_0 l0_1).bind fun t189 => (if t189 = 0 then (if a1 < (-2000000) then (offer_Supply.j0 k a1 true a0_0 l0_1) else (offer_Supply.j0 k a1 (decide (a1 > 2000000)) a0_0 l0_1)) else (some (0, 0, t189)))
theorem offer_Supply.mono_l : ∀ k, (∀ y0 y1 y2 y3, LeO (offer_Supply.j0 k y0 y1 y2 y3) (offer_Supply.j0 (k + 1) y0 y1 y2 y3)) ∧ (∀ y0 y1 y2 y3 y4 y5, LeO (offer_Supply.l0 k y0 y1 y2 y3 y4 y5) (offer_Supply.l0 (k + 1) y0 y1 y2 y3 y4 y5))
 | 0 => ⟨fun _ _ _ _ r h => by simp [offer_Supply.j0] at h, fun _ _ _ _ _ _ r h => by simp [offer_Supply.l0] at h⟩
 | k + 1 => by
  obtain ⟨ih0, ih1⟩:=offer_Supply.mono_l k
  refine ⟨?_, ?_⟩
  ·intro y0 y1 y2 y3
   unfold offer_Supply.j0
   repeat' first|(with_reducible first|exact ih0 _ _ _ _|exact ih1 _ _ _ _ _ _|exact offer_Check.mono _ _ _|exact LeO.refl _|exact LeO.none _|refine LeO.ite ?_ ?_|refine LeO.bind ?_ (fun _=>?_))|exact ih0 _ _ _ _|exact ih1 _ _ _ _ _ _|exact offer_Check.mono _ _ _|exact LeO.none _|refine LeO.ite ?_ ?_|refine LeO.bind ?_ (fun _=>?_)
  ·intro y0 y1 y2 y3 y4 y5
   unfold offer_Supply.l0
   repeat' first|(with_reducible first|exact ih0 _ _ _ _|exact ih1 _ _ _ _ _ _|exact offer_Check.mono _ _ _|exact LeO.refl _|exact LeO.none _|refine LeO.ite ?_ ?_|refine LeO.bind ?_ (fun _=>?_))|exact ih0 _ _ _ _|exact ih1 _ _ _ _ _ _|exact offer_Check.mono _ _ _|exact LeO.none _|refine LeO.ite ?_ ?_|refine LeO.bind ?_ (fun _=>?_)
theorem offer_Supply.mono : ∀ a0 a1 a2 k, LeO (offer_Supply.f k a0 a1 a2) (offer_Supply.f (k + 1) a0 a1 a2) := by
 intro a0 a1 a2 k
 obtain ⟨ih0, ih1⟩:=offer_Supply.mono_l k
 unfold offer_Supply.f
 repeat' first|(with_reducible first|exact ih0 _ _ _ _|exact ih1 _ _ _ _ _ _|exact offer_Check.mono _ _ _|exact LeO.refl _|exact LeO.none _|refine LeO.ite ?_ ?_|refine LeO.bind ?_ (fun _=>?_))|exact ih0 _ _ _ _|exact ih1 _ _ _ _ _ _|exact offer_Check.mono _ _ _|exact LeO.none _|refine LeO.ite ?_ ?_|refine LeO.bind ?_ (fun _=>?_)
set_option maxHeartbeats 8000000 in
set_option maxRecDepth 100000 in
theorem offer_Supply.calls (k : Nat) (a0_0 : ByteArray) (A0_1 : Option Addr) (c0_1 : Nat) (l0_1 : List (S96)) (a1 : Int) (r1 : Int) (r2 : Int) (r3 : Int) (w : World) (hr0_1 : Kd.C k96 w A0_1 l0_1.length l0_1) (hc0_1 : l0_1.length ≤ c0_1) (h : offer_Supply.f k a0_0 l0_1 a1 = some (r1, r2, r3)) :
  Calls Try.prog 44 #[.agg #[.string a0_0, .slice A0_1 l0_1.length c0_1], .int .i64 a1] w fun e w' => e = .returned (.tuple #[.int .i64 r1, .int .i64 r2, .int .i64 r3]) ∧ Below w.heap.size w w' := by
 have hu31:=Try.underlying31;have hu96:=Try.underlying96;have HR0_1:=k0_ hr0_1;have HC0_1:=k0_ hc0_1;clear hr0_1 hc0_1;have HB:=k0_ (Below.refl w.heap.size w);have H : ((offer_Check.f k a0_0 l0_1).bind fun t189=>(if t189 = 0 then (if a1 < (-2000000) then (offer_Supply.j0 k a1 true a0_0 l0_1) else (offer_Supply.j0 k a1 (decide (a1 > 2000000)) a0_0 l0_1)) else (some (0, 0, t189)))) = some (r1, r2, r3):=h;clear h;replace H:=Option.bind_eq_some_iff.mp H;obtain ⟨t189, A30, H⟩:=H;replace H : (if t189 = 0 then (if a1 < (-2000000) then (offer_Supply.j0 k a1 true a0_0 l0_1) else (offer_Supply.j0 k a1 (decide (a1 > 2000000)) a0_0 l0_1)) else (some (0, 0, t189))) = some (r1, r2, r3):=H;have A3:=k0_ A30;clear A30
 by_cases c4 : t189 = 0
 ·rw [if_pos c4] at H
  have c4b0:=beq_iff_eq.mpr c4;have c4b1:=bne_eq_false_iff_eq.mpr c4;clear c4;have HC5:=k0_ H;clear H
  go_enter Try.func44, Try.ntmps44
  go_upto_region 4 with (first|((with_reducible refine gate_dst (N:=2) rfl ?_);refine box_event ?hg (N:=2) ?hd (cs:=#[.string a0_0, .slice A0_1 l0_1.length c0_1]) (t:=31) ?hr ?_;(case hd=>rfl);(case hg=>rfl);(case hr=>first|(go_simp;done)|(go_simp;rfl));intro gb188 hg w6 hbox hb;have BK188:=k0_ (hbox);have GW188:=k0_ ((by rw [hg];exact (below_size (hb0_ HB.out)) : w.heap.size ≤ gb188));have GE188:=k0_ ((by rw [hg];exact (below_size (hb0_ HB.out)) : w.heap.size ≤ gb188));replace HB:=k0_ (below_step (hb0_ HB.out) hb);clear hb hbox hg;obtain ⟨hcz7_0,hcz7_1⟩:=bc2_ BK188.out;obtain ⟨hfz7_0,hfz7_1⟩:=bf2_ BK188.out)|((with_reducible refine gate_callee (f:=78) rfl ?_);refine goesL_ (some 13) rfl rfl Try.func78 (by kernel_rfl) rfl #[.agg #[.string a0_0, .slice A0_1 l0_1.length c0_1]] rfl mt_ ?_;(with_reducible refine (offer_Check.calls k a0_0 _ _ l0_1 t189 _ ?side1 ?side2 A3.out).mono ?_);(case side1=>repeat (first|exact (Kd.C_below HR0_1.out HB.out)|(with_reducible refine Kd.C_alloc ?_ _)|(with_reducible refine Kd.C_drewN ?_ _)|(with_reducible refine Kd.C_drew ?_)));(case side2=>exact HC0_1.out);rintro e w8 ⟨rfl, hb⟩;refine ⟨_, rfl, ?_⟩;replace BK188:=k0_ (blk_below (g:=gb188) (o:=.cells #[.string a0_0, .slice A0_1 l0_1.length c0_1] 31 (0, 0)) (bq_ BK188.out) hb);replace HB:=k0_ (below_step (hb1_ HB.out GE188.out) hb);(try clear hb);(try clear hb2);(try clear hk);(try clear hi)))
  (try simp only [Act.put, q1_,q2_,q3_])
  go_cut [22] (fun v22 wc=>∃ (kq : Nat) (x22_4 : Bool), v22 = .bool x22_4∧Aside0 (offer_Supply.j0 kq a1 x22_4 a0_0 l0_1 = some (r1, r2, r3))∧Aside0 (kq ≤ k)∧Aside0 (wc.heap[gb188]? = some (.cells #[.string a0_0, (.slice A0_1 l0_1.length c0_1)] 31 (0, 0)))∧Aside0 (Below w.heap.size w wc))
  case first =>
   have H:=HC5.out;clear HC5
   by_cases c9 : a1 < (-2000000)
   ·rw [if_pos c9] at H
    have c9b0:=decide_eq_true c9;clear c9;(first|rw [c9b0]|(simp only [i64_w, i32_w];rw [c9b0])|skip);have H':=k0_ H;clear H;go_wp2
    go_meet
    case rel=>exact ⟨_, (true),rs_, H', ⟨by first|omega|exact Nat.le_refl _⟩,⟨bq_ BK188.out⟩,⟨hb1_ HB.out GE188.out⟩⟩
   ·rw [if_neg c9] at H
    have c9b0:=decide_eq_false c9;clear c9;(first|rw [c9b0]|(simp only [i64_w, i32_w];rw [c9b0])|skip);have H':=k0_ H;clear H;go_wp2
    go_meet
    case rel=>exact ⟨_, (decide (a1 > 2000000)),rs_, H', ⟨by first|omega|exact Nat.le_refl _⟩,⟨bq_ BK188.out⟩,⟨hb1_ HB.out GE188.out⟩⟩
  clear HC5;(try clear p2);(try clear c4);(try clear c4b0);(try clear c4b1);(try clear c7);(try clear c9);(try clear c9b0);(try clear hcz7_0);(try clear hcz7_1);(try clear hfz7_0);(try clear hfz7_1);obtain ⟨kq, x22_4, rfl, HA, HJ4, BK188, HB⟩:=hcut;obtain _|kj4:=kq
  ·exact absurd HA.out (by simp [offer_Supply.j0])
  have H:=HA.out;clear HA;simp only [offer_Supply.j0] at H
  by_cases c10 : x22_4 = true
  ·subst c10
   have H1 : (some (0, 0, 4)) = some (r1, r2, r3):=by rw [if_pos rfl] at H;exact H
   clear H;have H:=H1;clear H1;simp only [Option.some.injEq, Prod.mk.injEq] at H;obtain ⟨rfl, rfl, rfl⟩:=H;go_wp2
   go_ret3
   exact ⟨er_, hb1_ HB.out GE188.out⟩
  ·replace c10:=Bool.eq_false_iff.mpr c10
   subst c10;have H1 : (offer_Supply.l0 kj4 a1 0 0 l0_1 (l0_1.length : Int) 0) = some (r1, r2, r3):=by rw [if_neg (show ¬ (false = true) by decide)] at H;exact H
   clear H;have H:=H1;clear H1;have H':=k0_ H;clear H;obtain ⟨hcz11_0,hcz11_1⟩:=bc2_ BK188.out;obtain ⟨hfz11_0,hfz11_1⟩:=bf2_ BK188.out;go_wp2;(try simp only [Act.put, q1_,q3_,q2_])
   go_loopg [8, 9, 26] kj4 (fun kq v8 v9 v26 w'=>∃ (x8_2 : Int) (x9_2 : Int) (x26_2 : Int), v8 = .int .i64 x8_2∧v9 = .int .i64 x9_2∧v26 = .int .i64 x26_2∧Aside0 (offer_Supply.l0 kq a1 x8_2 x9_2 l0_1 (l0_1.length : Int) x26_2 = some (r1, r2, r3))∧Aside0 (kq ≤ kj4)∧Aside0 (w'.heap[gb188]? = some (.cells #[.string a0_0, (.slice A0_1 l0_1.length c0_1)] 31 (0, 0)))∧Aside0 (Below w.heap.size w w'))
   case atStart=>exact ⟨(0),(0),(0),rs_,rs_,rs_, H', ⟨Nat.le_refl _⟩,⟨bq_ BK188.out⟩,⟨hb1_ HB.out GE188.out⟩⟩
   clear H';(try clear c1);(try clear p2);(try clear c4);(try clear c4b0);(try clear c4b1);(try clear c7);(try clear c9);(try clear c9b0);(try clear c10);(try clear hcz11_0);(try clear hcz11_1);(try clear hcz7_0);(try clear hcz7_1);(try clear hfz11_0);(try clear hfz11_1);(try clear hfz7_0);(try clear hfz7_1);(try clear p2);obtain ⟨x8_2, x9_2, x26_2, rfl, rfl, rfl, HA, HK2, BK188, HB⟩:=hrel;obtain _|k2:=gk
   ·exact absurd HA.out (by simp [offer_Supply.l0])
   have H:=HA.out;clear HA;simp only [offer_Supply.l0] at H
   by_cases c12 : x26_2 < (l0_1.length : Int)
   ·rw [if_pos c12] at H
    have c12b0:=decide_eq_true c12;clear c12
    by_cases c13 : 0 ≤ x26_2
    rw [if_pos c13] at H;have c13b0:=decide_eq_true c13;clear c13
    focus
     by_cases c14 : x26_2 < (l0_1.length : Int)
     rw [if_pos c14] at H;have c14b0:=decide_eq_true c14;clear c14
     focus
      by_cases c15 : ((rd_T96 l0_1 x26_2).f1) < a1
      rw [if_pos c15] at H;have c15b0:=decide_eq_true c15;clear c15
      focus
       by_cases c16 : ((rd_T96 l0_1 x26_2).f1) ≤ a1
       rw [if_pos c16] at H;have c16b0:=decide_eq_true c16;clear c16;have H':=k0_ H;clear H;rotate_left;rw [if_neg c16] at H;have c16b0:=decide_eq_false c16;clear c16;have H':=k0_ H;clear H;rotate_left
      rotate_left 2;rw [if_neg c15] at H;have c15b0:=decide_eq_false c15;clear c15
      focus
       by_cases c23 : ((rd_T96 l0_1 x26_2).f1) ≤ a1
       rw [if_pos c23] at H;have c23b0:=decide_eq_true c23;clear c23;have H':=k0_ H;clear H;rotate_left;rw [if_neg c23] at H;have c23b0:=decide_eq_false c23;clear c23;have H':=k0_ H;clear H;rotate_left
      rotate_left 2
     rotate_left 4;rw [if_neg c14] at H
     exact absurd H (by simp)
    rotate_left 4;rw [if_neg c13] at H
    exact absurd H (by simp)
    all_goals
     have p190 : 0 ≤ (x26_2 : Int):=of_decide_eq_true as_;have q190 : x26_2 < (l0_1.length : Int):=of_decide_eq_true as_;obtain ⟨ad190, e190, hx190_0, hx190_1⟩:=at_T96 HR0_1.out x26_2 p190 q190;cases e190;replace hx190_0:=bt_ HB.out hx190_0;replace hx190_1:=bt_ HB.out hx190_1;replace p190:=eq_true p190;replace q190:=eq_true q190
     go_wp2_with (first|((with_reducible refine gate_dst (N:=11) rfl ?_);refine box_event ?hg (N:=11) ?hd (cs:=#[.int .i64 0, .int .i64 0]) (t:=96) ?hr ?_;(case hd=>rfl);(case hg=>rfl);(case hr=>first|(go_simp;done)|(go_simp;rfl));intro gb191 hg w17 hbox hb;have BK191:=k0_ (hbox);have GW191:=k0_ ((by rw [hg];exact (below_size (hb1_ HB.out GE188.out)) : w.heap.size ≤ gb191));have GE191:=k0_ ((by rw [hg];exact (below_size (hb1_ HB.out GE188.out)) : w.heap.size ≤ gb191));replace HB:=k0_ (below_step (hb1_ HB.out GE188.out) hb);have NB188_191:=k0_ ((by rw [hg];exact Nat.ne_of_lt (blk_lt (g:=gb188) (o:=.cells #[.string a0_0, .slice (some ad190) l0_1.length c0_1] 31 (0, 0)) (bq_ BK188.out)) : gb188 ≠ gb191));have NB191_188:=k0_ ((by rw [hg];exact Nat.ne_of_gt (blk_lt (g:=gb188) (o:=.cells #[.string a0_0, .slice (some ad190) l0_1.length c0_1] 31 (0, 0)) (bq_ BK188.out)) : gb191 ≠ gb188));replace BK188:=k0_ (blk_below (g:=gb188) (o:=.cells #[.string a0_0, .slice (some ad190) l0_1.length c0_1] 31 (0, 0)) (bq_ BK188.out) hb);clear hb hbox hg;have hnb18:=NB191_188.out;have hnc18:=NB188_191.out;obtain ⟨hcz19_0,hcz19_1⟩:=bc2_ BK191.out;obtain ⟨hfz19_0,hfz19_1⟩:=bf2_ BK191.out))
    ·go_roundg k2
     case measure=>have:=HJ4.out;have:=HK2.out;omega
     case rel=>exact ⟨(wrap64 (x8_2 + ((rd_T96 l0_1 x26_2).f0))),(wrap64 (x9_2 + ((rd_T96 l0_1 x26_2).f0))),(wrap64 (x26_2 + 1)),rs_,rs_,rs_, H', ⟨by have:=HJ4.out;have:=HK2.out;omega⟩,⟨by (with_reducible repeat (first|refine blk_drewN ?_ _|refine blk_drew ?_|refine blk_alloc ?_ _));refine blk_far ?_ NB188_191.out _;(with_reducible repeat (first|refine blk_drewN ?_ _|refine blk_drew ?_|refine blk_alloc ?_ _));refine blk_far ?_ NB188_191.out _;(with_reducible repeat (first|refine blk_drewN ?_ _|refine blk_drew ?_|refine blk_alloc ?_ _));exact BK188.out⟩,⟨hb2_ HB.out GE188.out GE191.out⟩⟩
    ·go_roundg k2
     case measure=>have:=HJ4.out;have:=HK2.out;omega
     case rel=>exact ⟨(wrap64 (x8_2 + ((rd_T96 l0_1 x26_2).f0))),(x9_2),(wrap64 (x26_2 + 1)),rs_,rs_,rs_, H', ⟨by have:=HJ4.out;have:=HK2.out;omega⟩,⟨by (with_reducible repeat (first|refine blk_drewN ?_ _|refine blk_drew ?_|refine blk_alloc ?_ _));refine blk_far ?_ NB188_191.out _;(with_reducible repeat (first|refine blk_drewN ?_ _|refine blk_drew ?_|refine blk_alloc ?_ _));refine blk_far ?_ NB188_191.out _;(with_reducible repeat (first|refine blk_drewN ?_ _|refine blk_drew ?_|refine blk_alloc ?_ _));exact BK188.out⟩,⟨hb2_ HB.out GE188.out GE191.out⟩⟩
    ·go_roundg k2
     case measure=>have:=HJ4.out;have:=HK2.out;omega
     case rel=>exact ⟨(x8_2),(wrap64 (x9_2 + ((rd_T96 l0_1 x26_2).f0))),(wrap64 (x26_2 + 1)),rs_,rs_,rs_, H', ⟨by have:=HJ4.out;have:=HK2.out;omega⟩,⟨by (with_reducible repeat (first|refine blk_drewN ?_ _|refine blk_drew ?_|refine blk_alloc ?_ _));refine blk_far ?_ NB188_191.out _;(with_reducible repeat (first|refine blk_drewN ?_ _|refine blk_drew ?_|refine blk_alloc ?_ _));refine blk_far ?_ NB188_191.out _;(with_reducible repeat (first|refine blk_drewN ?_ _|refine blk_drew ?_|refine blk_alloc ?_ _));exact BK188.out⟩,⟨hb2_ HB.out GE188.out GE191.out⟩⟩
    ·go_roundg k2
     case measure=>have:=HJ4.out;have:=HK2.out;omega
     case rel=>exact ⟨(x8_2),(x9_2),(wrap64 (x26_2 + 1)),rs_,rs_,rs_, H', ⟨by have:=HJ4.out;have:=HK2.out;omega⟩,⟨by (with_reducible repeat (first|refine blk_drewN ?_ _|refine blk_drew ?_|refine blk_alloc ?_ _));refine blk_far ?_ NB188_191.out _;(with_reducible repeat (first|refine blk_drewN ?_ _|refine blk_drew ?_|refine blk_alloc ?_ _));refine blk_far ?_ NB188_191.out _;(with_reducible repeat (first|refine blk_drewN ?_ _|refine blk_drew ?_|refine blk_alloc ?_ _));exact BK188.out⟩,⟨hb2_ HB.out GE188.out GE191.out⟩⟩
   ·rw [if_neg c12] at H
    have c12b0:=decide_eq_false c12;clear c12;simp only [Option.some.injEq, Prod.mk.injEq] at H;obtain ⟨rfl, rfl, rfl⟩:=H;go_wp2
    go_ret3
    exact ⟨er_, hb1_ HB.out GE188.out⟩
 ·rw [if_neg c4] at H
  have c4b0:=beq_eq_false_iff_ne.mpr c4;have c4b1:=bne_iff_ne.mpr c4;simp only [Option.some.injEq, Prod.mk.injEq] at H;obtain ⟨rfl, rfl, rfl⟩:=H
  go_enter Try.func44, Try.ntmps44
  go_wp2_with (first|((with_reducible refine gate_dst (N:=2) rfl ?_);refine box_event ?hg (N:=2) ?hd (cs:=#[.string a0_0, .slice A0_1 l0_1.length c0_1]) (t:=31) ?hr ?_;(case hd=>rfl);(case hg=>rfl);(case hr=>first|(go_simp;done)|(go_simp;rfl));intro gb188 hg w30 hbox hb;have BK188:=k0_ (hbox);have GW188:=k0_ ((by rw [hg];exact (below_size (hb0_ HB.out)) : w.heap.size ≤ gb188));have GE188:=k0_ ((by rw [hg];exact (below_size (hb0_ HB.out)) : w.heap.size ≤ gb188));replace HB:=k0_ (below_step (hb0_ HB.out) hb);clear hb hbox hg;obtain ⟨hcz31_0,hcz31_1⟩:=bc2_ BK188.out;obtain ⟨hfz31_0,hfz31_1⟩:=bf2_ BK188.out)|((with_reducible refine gate_callee (f:=78) rfl ?_);refine goesL_ (some 13) rfl rfl Try.func78 (by kernel_rfl) rfl #[.agg #[.string a0_0, .slice A0_1 l0_1.length c0_1]] rfl mt_ ?_;(with_reducible refine (offer_Check.calls k a0_0 _ _ l0_1 t189 _ ?side1 ?side2 A3.out).mono ?_);(case side1=>repeat (first|exact (Kd.C_below HR0_1.out HB.out)|(with_reducible refine Kd.C_alloc ?_ _)|(with_reducible refine Kd.C_drewN ?_ _)|(with_reducible refine Kd.C_drew ?_)));(case side2=>exact HC0_1.out);rintro e w32 ⟨rfl, hb⟩;refine ⟨_, rfl, ?_⟩;replace BK188:=k0_ (blk_below (g:=gb188) (o:=.cells #[.string a0_0, .slice A0_1 l0_1.length c0_1] 31 (0, 0)) (bq_ BK188.out) hb);replace HB:=k0_ (below_step (hb1_ HB.out GE188.out) hb);(try clear hb);(try clear hb2);(try clear hk);(try clear hi)))
  go_ret3
  exact ⟨er_, hb1_ HB.out GE188.out⟩

/-! ### dispatch_costs: function 45 -/
def dispatch_costs.l0 : Nat → List Int → Int → List (S31) → Int → Int → Option (List Int × Int × Int)
 | 0, _, _, _, _, _ => none
 | k + 1, x1, x7, x12, x13, x14 => if x14 < x13 then (if 0 ≤ x14 then (if x14 < (x12.length : Int) then (if x14 < (x1.length : Int) then ((offer_Cost.f k ((rd_T31 x12 x14).f0) ((rd_T31 x12 x14).f1) (rd x1 x14)).bind fun bt195 => (dispatch_costs.l0 k x1 (wrap64 (x7 + bt195.1)) x12 x13 (wrap64 (x14 + 1)))) else (none)) else (none)) else (none)) else (some (x1, x7, 0))
def dispatch_costs.f (k : Nat) (l0 : List (S31)) (l1 : List Int) : Option (List Int × Int × Int) := dispatch_costs.l0 k l1 0 l0 (l0.length : Int) 0
theorem dispatch_costs.mono_l : ∀ k, (∀ y0 y1 y2 y3 y4, LeO (dispatch_costs.l0 k y0 y1 y2 y3 y4) (dispatch_costs.l0 (k + 1) y0 y1 y2 y3 y4))
 | 0 => fun _ _ _ _ _ r h => by simp [dispatch_costs.l0] at h
 | k + 1 => by
  have ih0:=dispatch_costs.mono_l k
  ·intro y0 y1 y2 y3 y4
   unfold dispatch_costs.l0
   repeat' first|(with_reducible first|exact ih0 _ _ _ _ _|exact offer_Cost.mono _ _ _ _|exact LeO.refl _|exact LeO.none _|refine LeO.ite ?_ ?_|refine LeO.bind ?_ (fun _=>?_))|exact ih0 _ _ _ _ _|exact offer_Cost.mono _ _ _ _|exact LeO.none _|refine LeO.ite ?_ ?_|refine LeO.bind ?_ (fun _=>?_)
theorem dispatch_costs.mono : ∀ a0 a1 k, LeO (dispatch_costs.f k a0 a1) (dispatch_costs.f (k + 1) a0 a1) := by
 intro a0 a1 k
 have ih0:=dispatch_costs.mono_l k
 unfold dispatch_costs.f
 repeat' first|(with_reducible first|exact ih0 _ _ _ _ _|exact offer_Cost.mono _ _ _ _|exact LeO.refl _|exact LeO.none _|refine LeO.ite ?_ ?_|refine LeO.bind ?_ (fun _=>?_))|exact ih0 _ _ _ _ _|exact offer_Cost.mono _ _ _ _|exact LeO.none _|refine LeO.ite ?_ ?_|refine LeO.bind ?_ (fun _=>?_)
def dispatch_costs.T5 : Bool × List (List Nat × List Nat) := (true, [([], []), ([], []), ([], []), ([1, 2], [1, 2]), ([3], [3]), ([0, 4], [0, 4]), ([5], [5]), ([6], [6]), ([6], [6]), ([7, 5, 0, 1, 2, 3, 4, 5, 6, 7], [7]), ([8, 9, 0, 1, 2, 3, 4, 5, 6, 7, 8, 9], [8])])
def dispatch_costs.B5 : List Nat := [0, 0, 0, 6, 14, 31, 63, 127, 127, 255, 1023]
theorem dispatch_costs.tab5 : rtab .any (opsOf Try.f45 5) = dispatch_costs.T5 := by kernel_rfl
theorem dispatch_costs.bits5 : waitsOk dispatch_costs.T5.2 dispatch_costs.B5 = true := by kernel_rfl
set_option maxHeartbeats 8000000 in
set_option maxRecDepth 100000 in
theorem dispatch_costs.calls (k : Nat) (A0 : Option Addr) (c0 : Nat) (l0 : List (S31)) (P1_ : Nat → Prop) (A1 : Option Addr) (c1 : Nat) (l1 : List Int) (r1 : List Int) (r2 : Int) (r3 : Int) (w : World) (hr0 : Kd.C k31 w A0 l0.length l0) (hc0 : l0.length ≤ c0) (hs1 : Kd.V (Kd.int .i64) 3 w w.heap.size (fun k_ => P1_ k_) (.slice A1 l1.length c1) l1) (h : dispatch_costs.f k l0 l1 = some (r1, r2, r3)) :
  Calls Try.prog 45 #[.slice A0 l0.length c0, .slice A1 l1.length c1] w fun e w' => ∃ v0_ : Value, e = .returned (.tuple #[v0_, .int .i64 r2, .int .i64 r3]) ∧ Kd.V (Kd.int .i64) 3 w' w.heap.size (fun k_ => (P1_ k_ ∨ w.heap.size ≤ k_)) v0_ r1 ∧ Below w.heap.size w w' := by
 have hu31:=Try.underlying31;have HR0:=k0_ hr0;have HC0:=k0_ hc0;clear hr0 hc0;have HO1:=k0_ (show Kd.V (Kd.int .i64) 3 w w.heap.size (fun k_=>(P1_ k_ ∨ w.heap.size ≤ k_)) (.slice A1 l1.length c1) l1 from Kd.V_mono hs1 (fun k_ hk=>.inl hk));have HB:=k0_ (Below.refl w.heap.size w);have H : (dispatch_costs.l0 k l1 0 l0 (l0.length : Int) 0) = some (r1, r2, r3):=h;clear h;have H':=k0_ H;clear H
 go_enter Try.func45, Try.ntmps45
 go_wp2;(try simp only [Act.put, q1_,q3_,q2_])
 go_loopg [7, 14] k (fun kq v7 v14 w'=>∃ (x7_1 : Int) (x14_1 : Int), v7 = .int .i64 x7_1∧v14 = .int .i64 x14_1∧Aside0 (dispatch_costs.l0 kq l1 x7_1 l0 (l0.length : Int) x14_1 = some (r1, r2, r3))∧Aside0 (kq ≤ k)∧Aside0 (Kd.V (Kd.int .i64) 3 w' w.heap.size (fun k_=>(P1_ k_ ∨ w.heap.size ≤ k_)) (.slice A1 l1.length c1) l1)∧Aside0 (Below w.heap.size w w'))
 case atStart=>exact ⟨(0),(0),rs_,rs_, H', ⟨Nat.le_refl _⟩,⟨by (with_reducible repeat (first|apply Kd.V_alloc|apply Kd.V_drewN|apply Kd.V_drew));exact HO1.out⟩,⟨hb0_ HB.out⟩⟩
 clear H';(try clear c1);(try clear p2);obtain ⟨x7_1, x14_1, rfl, rfl, HA, HK1, HO_1, HB⟩:=hrel;obtain _|k1:=gk
 ·exact absurd HA.out (by simp [dispatch_costs.l0])
 have H:=HA.out;clear HA;simp only [dispatch_costs.l0] at H
 by_cases c3 : x14_1 < (l0.length : Int)
 ·rw [if_pos c3] at H
  have c3b0:=decide_eq_true c3;clear c3
  obtain ⟨c4,H⟩:=gi_ H;have c4b0:=decide_eq_true c4;clear c4
  obtain ⟨c5,H⟩:=gi_ H;have c5b0:=decide_eq_true c5;clear c5
  obtain ⟨c6,H⟩:=gi_ H;have c6b0:=decide_eq_true c6;clear c6;replace H:=Option.bind_eq_some_iff.mp H;obtain ⟨⟨t195, t196⟩, A70, H⟩:=H;replace H : (dispatch_costs.l0 k1 l1 (wrap64 (x7_1 + t195)) l0 (l0.length : Int) (wrap64 (x14_1 + 1))) = some (r1, r2, r3):=H;have A7:=k0_ A70;clear A70;have H':=k0_ H;clear H;have p192 : 0 ≤ (x14_1 : Int):=of_decide_eq_true as_;have q192 : x14_1 < (l0.length : Int):=of_decide_eq_true as_;obtain ⟨ad192, A192_1, c192_1, e192, hx192_0, hx192_1, hl192_1, hi192_1⟩:=at_T31 HR0.out x14_1 p192 q192;cases e192;replace hx192_0:=bt_ HB.out hx192_0;replace hx192_1:=bt_ HB.out hx192_1;have HR192_1:=k0_ hi192_1;have HC192_1:=k0_ hl192_1;clear hi192_1 hl192_1;replace p192:=eq_true p192;replace q192:=eq_true q192
  try go_wp2_with (first|((with_reducible refine gate_dst (N:=9) rfl ?_);refine box_event ?hg (N:=9) ?hd (cs:=#[.string (⟨#[]⟩ : ByteArray), .slice none 0 0]) (t:=31) ?hr ?_;(case hd=>rfl);(case hg=>rfl);(case hr=>first|(go_simp;done)|(go_simp;rfl));intro gb193 hg w8 hbox hb;replace HO_1:=k0_ (Kd.V_below (Kd.V_elderB (vq_ HO_1.out) gb193 (Nat.le_of_eq hg.symm)) hb);have BK193:=k0_ (hbox);have GW193:=k0_ ((by rw [hg];exact (below_size (hb0_ HB.out)) : w.heap.size ≤ gb193));have GE193:=k0_ ((by rw [hg];exact (below_size (hb0_ HB.out)) : w.heap.size ≤ gb193));replace HB:=k0_ (below_step (hb0_ HB.out) hb);clear hb hbox hg;obtain ⟨hcz9_0,hcz9_1⟩:=bc2_ BK193.out;obtain ⟨hfz9_0,hfz9_1⟩:=bf2_ BK193.out))
  have n0_ : Aside0 (Kd.V (Kd.int .i64) 3 ((w8.setCell ⟨gb193, 0, none⟩ (.string ((rd_T31 l0 x14_1).f0))).setCell ⟨gb193, 1, none⟩ (.slice A192_1 ((rd_T31 l0 x14_1).f1).length c192_1)) w.heap.size (fun k_=>(P1_ k_ ∨ w.heap.size ≤ k_)∧k_ ≠ gb193) (.slice A1 l1.length c1) l1):=⟨by (with_reducible repeat (first|apply Kd.V_alloc|apply Kd.V_drewN|apply Kd.V_drew));exact Kd.V_mono (Kd.V_far (p:=⟨gb193, 1, none⟩) (Kd.V_far (p:=⟨gb193, 0, none⟩) (Kd.V_mono HO_1.out (fun k_ hk=>(⟨hk, hk.2⟩ : _∧k_ ≠ gb193))) (fun _ hk=>hk.2) (.string ((rd_T31 l0 x14_1).f0))) (fun _ hk=>hk.2) (.slice A192_1 ((rd_T31 l0 x14_1).f1).length c192_1)) (fun _ hk=>⟨hk.1.1, hk.1.2⟩)⟩;have n1_ : Aside0 (((w8.setCell ⟨gb193, 0, none⟩ (.string ((rd_T31 l0 x14_1).f0))).setCell ⟨gb193, 1, none⟩ (.slice A192_1 ((rd_T31 l0 x14_1).f1).length c192_1)).heap[gb193]? = some (.cells #[.string ((rd_T31 l0 x14_1).f0), .slice A192_1 ((rd_T31 l0 x14_1).f1).length c192_1] 31 (0, 0))):=⟨by (with_reducible repeat (first|refine blk_drewN ?_ _|refine blk_drew ?_|refine blk_alloc ?_ _));refine blk_put (cs:=#[.string ((rd_T31 l0 x14_1).f0), .slice none 0 0]) ?_ 1 _ rfl;(with_reducible repeat (first|refine blk_drewN ?_ _|refine blk_drew ?_|refine blk_alloc ?_ _));refine blk_put (cs:=#[.string (⟨#[]⟩ : ByteArray), .slice none 0 0]) ?_ 0 _ rfl;(with_reducible repeat (first|refine blk_drewN ?_ _|refine blk_drew ?_|refine blk_alloc ?_ _));exact BK193.out⟩;have n2_ : Aside0 (Below w.heap.size w ((w8.setCell ⟨gb193, 0, none⟩ (.string ((rd_T31 l0 x14_1).f0))).setCell ⟨gb193, 1, none⟩ (.slice A192_1 ((rd_T31 l0 x14_1).f1).length c192_1))):=⟨hb1_ HB.out GE193.out⟩;(try clear HO_1);(try clear BK193);(try clear HB);generalize ((w8.setCell ⟨gb193, 0, none⟩ (.string ((rd_T31 l0 x14_1).f0))).setCell ⟨gb193, 1, none⟩ (.slice A192_1 ((rd_T31 l0 x14_1).f1).length c192_1)) = w10 at n0_ n1_ n2_ ⊢;have HO_1:=n0_;have BK193:=n1_;have HB:=n2_;clear n0_ n1_ n2_;replace HO_1:=k0_ (Kd.V_drew HO_1.out);replace BK193:=k0_ (blk_drew BK193.out);replace HB:=k0_ (below_drew1 HB.out);have p194 : 0 ≤ (x14_1 : Int):=of_decide_eq_true as_;have q194 : x14_1 < (l1.length : Int):=of_decide_eq_true as_;obtain ⟨ad194, e194, hx194_0⟩:=Kd.at_int (Kd.V_reads' HO_1.out).2.2 x14_1 p194 q194;cases e194;replace p194:=eq_true p194;replace q194:=eq_true q194;refine start_ (n:=11) (S:=fun w'=>w'.cell? ⟨gb193, 0, none⟩ = some (.string ((rd_T31 l0 x14_1).f0))∧w'.cell? ⟨gb193, 1, none⟩ = some (.slice A192_1 ((rd_T31 l0 x14_1).f1).length c192_1)∧w'.cell? (ad194.add (x14_1).toNat) = some (.int .i64 (rd l1 x14_1))) (ds:=[]) (mb_ 11 0) (by kernel_rfl) rfl rfl ⟨(blk_cell BK193.out 0).trans rfl, (blk_cell BK193.out 1).trans rfl, hx194_0⟩ (fun hHeld=>?_);refine with_tabW dispatch_costs.tab5 dispatch_costs.bits5 (fun HT_ HW_=>?_);generalize w10.drew = w11 at HO_1 BK193 HB hx194_0 hHeld ⊢;refine pu_ 1 21 HT_.out (h:=?_);refine pu_ 2 22 HT_.out (h:=?_);refine pu_ 3 23 HT_.out (h:=?_);refine tk_ 0 20 HT_.out HW_.out hHeld (h:=?_);refine tk_ 4 24 HT_.out HW_.out hHeld (h:=?_);refine on_ 5 (some 25) HT_.out (h:=fun K hK=>?_);refine goes_ Try.func40 (by kernel_rfl) rfl #[.agg #[.string ((rd_T31 l0 x14_1).f0), .slice A192_1 ((rd_T31 l0 x14_1).f1).length c192_1], .int .i64 (rd l1 x14_1)] (by rfl) rfl rfl mt_ ?_
  with_reducible refine (offer_Cost.calls k1 ((rd_T31 l0 x14_1).f0) _ _ ((rd_T31 l0 x14_1).f1) (rd l1 x14_1) t195 t196 _ ?side1 ?side2 A7.out).mono ?_
  (case side1=>repeat (first|exact (Kd.C_below HR192_1.out HB.out)|(with_reducible refine Kd.C_alloc ?_ _)|(with_reducible refine Kd.C_drewN ?_ _)|(with_reducible refine Kd.C_drew ?_)))
  (case side2=>exact HC192_1.out)
  rintro e w12 ⟨rfl, hb⟩;have HS2_:=(hb.cell (World.block_lt_of_cell? _ _ (hHeld.2.2))).trans (hHeld.2.2);refine ⟨_, rfl, ?_⟩;replace HO_1:=k0_ (Kd.V_below (vq_ HO_1.out) hb);replace BK193:=k0_ (blk_below (g:=gb193) (o:=.cells #[.string ((rd_T31 l0 x14_1).f0), .slice A192_1 ((rd_T31 l0 x14_1).f1).length c192_1] 31 (0, 0)) (bq_ BK193.out) hb);replace HB:=k0_ (below_step (hb1_ HB.out GE193.out) hb);(try clear hb);(try clear hb2);(try clear hk);(try clear hi);refine hK.out _ _ ⟨(blk_cell BK193.out 0).trans rfl, (blk_cell BK193.out 1).trans rfl, HS2_⟩ (fun hHeld=>?_);clear hK K;refine norm_ (a':=?_) ?_ ?_;rotate_left
  ·show Act.put _ (some 25) _ = _
   simp only [Act.put, q1_,q2_,q3_,i64_w,i32_w];rfl
  refine pu_ 6 19 HT_.out (h:=?_);refine pu_ 7 26 HT_.out (h:=?_);refine pu_ 8 27 HT_.out (h:=?_);refine pu_ 9 10 HT_.out (h:=?_);refine pu_ 10 11 HT_.out (h:=?_);refine done_ (done_of HT_.out (by kernel_rfl)) ?_
  try go_wp2
  go_roundg k1
  case measure=>have:=HK1.out;omega
  case rel=>exact ⟨(wrap64 (x7_1 + t195)),(wrap64 (x14_1 + 1)),rs_,rs_, H', ⟨by have:=HK1.out;omega⟩,⟨by (with_reducible repeat (first|apply Kd.V_alloc|apply Kd.V_drewN|apply Kd.V_drew));exact Kd.V_mono HO_1.out (fun _ hk=>hk.1)⟩,⟨hb1_ HB.out GE193.out⟩⟩
 ·rw [if_neg c3] at H
  have c3b0:=decide_eq_false c3;clear c3;simp only [Option.some.injEq, Prod.mk.injEq] at H;obtain ⟨rfl, rfl, rfl⟩:=H;go_wp2
  go_ret3
  exact ⟨_, er_, by (with_reducible repeat (first|apply Kd.V_alloc|apply Kd.V_drewN|apply Kd.V_drew));exact HO_1.out, hb0_ HB.out⟩

/-! ### dispatch_Best: function 10 -/
def dispatch_Best.l0 : Nat → List (S31) → List Int → Int → Int → List (S31) → Int → Int → Option (List Int × Int × Int)
 | 0, _, _, _, _, _, _, _ => none
 | k + 1, x0, x8, x9, x10, x37, x38, x39 => if x39 < x38 then (if 0 ≤ x39 then (if x39 < (x37.length : Int) then ((offer_Supply.f k ((rd_T31 x37 x39).f0) ((rd_T31 x37 x39).f1) x9).bind fun bt205 => (if x39 < (x8.length : Int) then (dispatch_Best.l0 k x0 (x8.set (x39 : Int).toNat (wrap64 (bt205.1 + (mn x10 (wrap64 (bt205.2.1 - bt205.1)))))) x9 (wrap64 (x10 - (mn x10 (wrap64 (bt205.2.1 - bt205.1))))) x37 x38 (wrap64 (x39 + 1))) else (none))) else (none)) else (none)) else ((dispatch_costs.f k x0 x8).bind fun bt209 => (some (bt209.1, bt209.2.1, bt209.2.2)))
def dispatch_Best.f (k : Nat) (l0 : List (S31)) (a1 : Int) : Option (List Int × Int × Int) := (dispatch_check.f k l0 a1).bind fun t197 => (if t197 = 0 then (if 0 ≤ (l0.length : Int) then (if ((l0.length : Int) : Int).toNat ≤ 35184372088832 then ((some (List.replicate ((l0.length : Int) : Int).toNat 0 : List Int)).bind fun y198 => (if a1 = 0 then (some (y198, 0, 0)) else ((dispatch_marginal.f k l0 a1).bind fun t201 => ((dispatch_offered.f k l0 t201 false).bind fun t202 => (dispatch_Best.l0 k l0 y198 t201 (wrap64 (a1 - t202)) l0 (l0.length : Int) 0))))) else (none)) else (none)) else (some (([] : List Int), 0, t197)))
theorem dispatch_Best.mono_l : ∀ k, (∀ y0 y1 y2 y3 y4 y5 y6, LeO (dispatch_Best.l0 k y0 y1 y2 y3 y4 y5 y6) (dispatch_Best.l0 (k + 1) y0 y1 y2 y3 y4 y5 y6))
 | 0 => fun _ _ _ _ _ _ _ r h => by simp [dispatch_Best.l0] at h
 | k + 1 => by
  have ih0:=dispatch_Best.mono_l k
  ·intro y0 y1 y2 y3 y4 y5 y6
   unfold dispatch_Best.l0
   repeat' first|(with_reducible first|exact ih0 _ _ _ _ _ _ _|exact dispatch_check.mono _ _ _|exact dispatch_costs.mono _ _ _|exact dispatch_marginal.mono _ _ _|exact dispatch_offered.mono _ _ _ _|exact offer_Supply.mono _ _ _ _|exact LeO.refl _|exact LeO.none _|refine LeO.ite ?_ ?_|refine LeO.bind ?_ (fun _=>?_))|exact ih0 _ _ _ _ _ _ _|exact dispatch_check.mono _ _ _|exact dispatch_costs.mono _ _ _|exact dispatch_marginal.mono _ _ _|exact dispatch_offered.mono _ _ _ _|exact offer_Supply.mono _ _ _ _|exact LeO.none _|refine LeO.ite ?_ ?_|refine LeO.bind ?_ (fun _=>?_)
theorem dispatch_Best.mono : ∀ a0 a1 k, LeO (dispatch_Best.f k a0 a1) (dispatch_Best.f (k + 1) a0 a1) := by
 intro a0 a1 k
 have ih0:=dispatch_Best.mono_l k
 unfold dispatch_Best.f
 repeat' first|(with_reducible first|exact ih0 _ _ _ _ _ _ _|exact dispatch_check.mono _ _ _|exact dispatch_costs.mono _ _ _|exact dispatch_marginal.mono _ _ _|exact dispatch_offered.mono _ _ _ _|exact offer_Supply.mono _ _ _ _|exact LeO.refl _|exact LeO.none _|refine LeO.ite ?_ ?_|refine LeO.bind ?_ (fun _=>?_))|exact ih0 _ _ _ _ _ _ _|exact dispatch_check.mono _ _ _|exact dispatch_costs.mono _ _ _|exact dispatch_marginal.mono _ _ _|exact dispatch_offered.mono _ _ _ _|exact offer_Supply.mono _ _ _ _|exact LeO.none _|refine LeO.ite ?_ ?_|refine LeO.bind ?_ (fun _=>?_)
set_option maxHeartbeats 8000000 in
set_option maxRecDepth 100000 in
theorem dispatch_Best.calls (k : Nat) (A0 : Option Addr) (c0 : Nat) (l0 : List (S31)) (a1 : Int) (r1 : List Int) (r2 : Int) (r3 : Int) (w : World) (hr0 : Kd.C k31 w A0 l0.length l0) (hc0 : l0.length ≤ c0) (h : dispatch_Best.f k l0 a1 = some (r1, r2, r3)) :
  Calls Try.prog 10 #[.slice A0 l0.length c0, .int .i64 a1] w fun e w' => ∃ v0_ : Value, e = .returned (.tuple #[v0_, .int .i64 r2, .int .i64 r3]) ∧ Kd.V (Kd.int .i64) 3 w' w.heap.size (fun k_ => (w.heap.size ≤ k_)) v0_ r1 ∧ Below w.heap.size w w' := by
 have hu31:=Try.underlying31;have HR0:=k0_ hr0;have HC0:=k0_ hc0;clear hr0 hc0;have HB:=k0_ (Below.refl w.heap.size w);have H : ((dispatch_check.f k l0 a1).bind fun t197=>(if t197 = 0 then (if 0 ≤ (l0.length : Int) then (if ((l0.length : Int) : Int).toNat ≤ 35184372088832 then ((some (List.replicate ((l0.length : Int) : Int).toNat 0 : List Int)).bind fun y198=>(if a1 = 0 then (some (y198, 0, 0)) else ((dispatch_marginal.f k l0 a1).bind fun t201=>((dispatch_offered.f k l0 t201 false).bind fun t202=>(dispatch_Best.l0 k l0 y198 t201 (wrap64 (a1 - t202)) l0 (l0.length : Int) 0))))) else (none)) else (none)) else (some (([] : List Int), 0, t197)))) = some (r1, r2, r3):=h;clear h;replace H:=Option.bind_eq_some_iff.mp H;obtain ⟨t197, A30, H⟩:=H;replace H : (if t197 = 0 then (if 0 ≤ (l0.length : Int) then (if ((l0.length : Int) : Int).toNat ≤ 35184372088832 then ((some (List.replicate ((l0.length : Int) : Int).toNat 0 : List Int)).bind fun y198=>(if a1 = 0 then (some (y198, 0, 0)) else ((dispatch_marginal.f k l0 a1).bind fun t201=>((dispatch_offered.f k l0 t201 false).bind fun t202=>(dispatch_Best.l0 k l0 y198 t201 (wrap64 (a1 - t202)) l0 (l0.length : Int) 0))))) else (none)) else (none)) else (some (([] : List Int), 0, t197))) = some (r1, r2, r3):=H;have A3:=k0_ A30;clear A30
 by_cases c4 : t197 = 0
 ·rw [if_pos c4] at H
  have c4b0:=beq_iff_eq.mpr c4;have c4b1:=bne_eq_false_iff_eq.mpr c4;clear c4
  obtain ⟨c5,H⟩:=gi_ H;have c5b0:=eq_true c5;have c5b1:=decide_eq_true c5;clear c5
  obtain ⟨c6,H⟩:=gi_ H;have c6b0:=eq_true c6;have c6b1:=decide_eq_true c6;clear c6;obtain ⟨y198, hy198⟩ : ∃ y_ : List Int, y_ = (List.replicate ((l0.length : Int) : Int).toNat 0):=⟨_, rfl⟩;replace H : (if a1 = 0 then (some (y198, 0, 0)) else ((dispatch_marginal.f k l0 a1).bind fun t201=>((dispatch_offered.f k l0 t201 false).bind fun t202=>(dispatch_Best.l0 k l0 y198 t201 (wrap64 (a1 - t202)) l0 (l0.length : Int) 0)))) = some (r1, r2, r3):=by first|(rw [hy198];with_reducible exact H)|(have H2_:=(Option.bind_some _ _).symm.trans H;rw [hy198];with_reducible exact H2_)|(have H2_:=(Option.bind_some _ _).symm.trans H;with_reducible exact H2_)|with_reducible exact H|(rw [hy198];exact H)|exact H
  have Ny198:=k0_ hy198;clear hy198
  by_cases c7 : a1 = 0
  ·rw [if_pos c7] at H
   have c7b0:=beq_iff_eq.mpr c7;have c7b1:=bne_eq_false_iff_eq.mpr c7;clear c7;simp only [Option.some.injEq, Prod.mk.injEq] at H;obtain ⟨rfl, rfl, rfl⟩:=H
   go_enter Try.func10, Try.ntmps10
   go_wp2_with (first|((with_reducible refine gate_callee (f:=41) rfl ?_);refine goesL_ (some 19) rfl rfl Try.func41 (by kernel_rfl) rfl #[.slice A0 l0.length c0, .int .i64 a1] rfl mt_ ?_;(with_reducible refine (dispatch_check.calls k _ _ l0 a1 t197 _ ?side1 ?side2 A3.out).mono ?_);(case side1=>repeat (first|exact HR0.out|(with_reducible refine Kd.C_alloc ?_ _)|(with_reducible refine Kd.C_drewN ?_ _)|(with_reducible refine Kd.C_drew ?_)));(case side2=>exact HC0.out);rintro e w8 ⟨rfl, hb⟩;refine ⟨_, rfl, ?_⟩;replace HB:=k0_ (below_step (hb0_ HB.out) hb);(try clear hb);(try clear hb2);(try clear hk);(try clear hi))|((with_reducible refine gate_dst (N:=25) rfl ?_);refine Kd.R_make (Kd.int .i64) _ 3 rfl (N:=25) rfl 23 _ _ rfl (l0.length : Int) rfl rfl Try.underlying23 (.int .i64 0) 8 info3 rfl (by decide) (by omega) 0 (ok:=fun _=>True) (okp:=fun _=>True) rfl (fun _ hk=>hk) trivial (of_decide_eq_true as_) (Nat.le_trans (Nat.mul_le_mul_right _ (of_decide_eq_true as_ : (l0.length : Int).toNat ≤ 35184372088832)) (by omega)) (Below.refl _ _) (Nat.le_refl _) ?_;intro v199 w9 ho10 hb hg_ hnew_;clear hg_ hnew_;(first|rw [← Ny198.out] at ho10|(simp only [Int.reduceToNat] at ho10;rw [← Ny198.out] at ho10));have HO200:=k0_ (Kd.R_lower (Kd.R_newM (M:=fun k_=>(w.heap.size ≤ k_)) ho10 (below_size (hb0_ HB.out)) (fun k_ h_=>h_)) (below_size (hb0_ HB.out)));replace HB:=k0_ (below_step (hb0_ HB.out) hb);clear hb ho10))
   go_ret3
   exact ⟨_, er_, Kd.R_V (by (with_reducible repeat (first|apply Kd.R_alloc|apply Kd.R_drewN|apply Kd.R_drew));exact Kd.R_mono HO200.out (fun _ hk=>hk.1)), hb0_ HB.out⟩
  ·rw [if_neg c7] at H
   have c7b0:=beq_eq_false_iff_ne.mpr c7;have c7b1:=bne_iff_ne.mpr c7;replace H:=Option.bind_eq_some_iff.mp H;obtain ⟨t201, A110, H⟩:=H;replace H : ((dispatch_offered.f k l0 t201 false).bind fun t202=>(dispatch_Best.l0 k l0 y198 t201 (wrap64 (a1 - t202)) l0 (l0.length : Int) 0)) = some (r1, r2, r3):=H;have A11:=k0_ A110;clear A110;replace H:=Option.bind_eq_some_iff.mp H;obtain ⟨t202, A120, H⟩:=H;replace H : (dispatch_Best.l0 k l0 y198 t201 (wrap64 (a1 - t202)) l0 (l0.length : Int) 0) = some (r1, r2, r3):=H;have A12:=k0_ A120;clear A120;have H':=k0_ H;clear H
   go_enter Try.func10, Try.ntmps10
   go_wp2_with (first|((with_reducible refine gate_callee (f:=41) rfl ?_);refine goesL_ (some 19) rfl rfl Try.func41 (by kernel_rfl) rfl #[.slice A0 l0.length c0, .int .i64 a1] rfl mt_ ?_;(with_reducible refine (dispatch_check.calls k _ _ l0 a1 t197 _ ?side1 ?side2 A3.out).mono ?_);(case side1=>repeat (first|exact HR0.out|(with_reducible refine Kd.C_alloc ?_ _)|(with_reducible refine Kd.C_drewN ?_ _)|(with_reducible refine Kd.C_drew ?_)));(case side2=>exact HC0.out);rintro e w13 ⟨rfl, hb⟩;refine ⟨_, rfl, ?_⟩;replace HB:=k0_ (below_step (hb0_ HB.out) hb);(try clear hb);(try clear hb2);(try clear hk);(try clear hi))|((with_reducible refine gate_dst (N:=25) rfl ?_);refine Kd.R_make (Kd.int .i64) _ 3 rfl (N:=25) rfl 23 _ _ rfl (l0.length : Int) rfl rfl Try.underlying23 (.int .i64 0) 8 info3 rfl (by decide) (by omega) 0 (ok:=fun _=>True) (okp:=fun _=>True) rfl (fun _ hk=>hk) trivial (of_decide_eq_true as_) (Nat.le_trans (Nat.mul_le_mul_right _ (of_decide_eq_true as_ : (l0.length : Int).toNat ≤ 35184372088832)) (by omega)) (Below.refl _ _) (Nat.le_refl _) ?_;intro v199 w14 ho15 hb hg_ hnew_;clear hg_ hnew_;(first|rw [← Ny198.out] at ho15|(simp only [Int.reduceToNat] at ho15;rw [← Ny198.out] at ho15));have HO200:=k0_ (Kd.R_lower (Kd.R_newM (M:=fun k_=>(w.heap.size ≤ k_)) ho15 (below_size (hb0_ HB.out)) (fun k_ h_=>h_)) (below_size (hb0_ HB.out)));replace HB:=k0_ (below_step (hb0_ HB.out) hb);clear hb ho15)|((with_reducible refine gate_callee (f:=42) rfl ?_);refine goesL_ (some 31) rfl rfl Try.func42 (by kernel_rfl) rfl #[.slice A0 l0.length c0, .int .i64 a1] rfl mt_ ?_;(with_reducible refine (dispatch_marginal.calls k _ _ l0 a1 t201 _ ?side1 ?side2 A11.out).mono ?_);(case side1=>repeat (first|exact (Kd.C_below HR0.out HB.out)|(with_reducible refine Kd.C_alloc ?_ _)|(with_reducible refine Kd.C_drewN ?_ _)|(with_reducible refine Kd.C_drew ?_)));(case side2=>exact HC0.out);rintro e w16 ⟨rfl, hb⟩;refine ⟨_, rfl, ?_⟩;replace HO200:=k0_ (Kd.R_below (rq_ HO200.out) hb);replace HB:=k0_ (below_step (hb0_ HB.out) hb);(try clear hb);(try clear hb2);(try clear hk);(try clear hi))|((with_reducible refine gate_callee (f:=43) rfl ?_);refine goesL_ (some 35) rfl rfl Try.func43 (by kernel_rfl) rfl #[.slice A0 l0.length c0, .int .i64 t201, .bool false] rfl mt_ ?_;(with_reducible refine (dispatch_offered.calls k _ _ l0 t201 false t202 _ ?side1 ?side2 A12.out).mono ?_);(case side1=>repeat (first|exact (Kd.C_below HR0.out HB.out)|(with_reducible refine Kd.C_alloc ?_ _)|(with_reducible refine Kd.C_drewN ?_ _)|(with_reducible refine Kd.C_drew ?_)));(case side2=>exact HC0.out);rintro e w17 ⟨rfl, hb⟩;refine ⟨_, rfl, ?_⟩;replace HO200:=k0_ (Kd.R_below (rq_ HO200.out) hb);replace HB:=k0_ (below_step (hb0_ HB.out) hb);(try clear hb);(try clear hb2);(try clear hk);(try clear hi)))
   (try simp only [Act.put, q1_,q3_,q2_])
   go_loopg [10, 39] k (fun kq v10 v39 w'=>∃ (x8_1 : List Int) (x10_1 : Int) (x39_1 : Int), v10 = .int .i64 x10_1∧v39 = .int .i64 x39_1∧Aside0 (dispatch_Best.l0 kq l0 x8_1 t201 x10_1 l0 (l0.length : Int) x39_1 = some (r1, r2, r3))∧Aside0 (kq ≤ k)∧Aside0 (Kd.R (Kd.int .i64) 3 w' w.heap.size (fun k_=>(w.heap.size ≤ k_)) v199 x8_1)∧Aside0 (Below w.heap.size w w'))
   case atStart=>exact ⟨(y198),(wrap64 (a1 - t202)),(0),rs_,rs_, H', ⟨Nat.le_refl _⟩,⟨by (with_reducible repeat (first|apply Kd.R_alloc|apply Kd.R_drewN|apply Kd.R_drew));exact Kd.R_mono HO200.out (fun _ hk=>hk.1)⟩,⟨hb0_ HB.out⟩⟩
   clear H';(try clear c1);(try clear p2);(try clear c4);(try clear c4b0);(try clear c4b1);(try clear c5);(try clear c5b0);(try clear c5b1);(try clear c6);(try clear c6b0);(try clear c6b1);(try clear p6);(try clear c7);(try clear c7b0);(try clear c7b1);(try clear c10);obtain ⟨x8_1, x10_1, x39_1, rfl, rfl, HA, HK1, HO_8, HB⟩:=hrel;obtain _|k1:=gk
   ·exact absurd HA.out (by simp [dispatch_Best.l0])
   have H:=HA.out;clear HA;simp only [dispatch_Best.l0] at H
   by_cases c18 : x39_1 < (l0.length : Int)
   ·rw [if_pos c18] at H
    have c18b0:=decide_eq_true c18;clear c18
    obtain ⟨c19,H⟩:=gi_ H;have c19b0:=decide_eq_true c19;clear c19
    obtain ⟨c20,H⟩:=gi_ H;have c20b0:=decide_eq_true c20;clear c20;replace H:=Option.bind_eq_some_iff.mp H;obtain ⟨⟨t205, t206, t207⟩, A210, H⟩:=H;replace H : (if x39_1 < (x8_1.length : Int) then (dispatch_Best.l0 k1 l0 (x8_1.set (x39_1 : Int).toNat (wrap64 (t205 + (mn x10_1 (wrap64 (t206 - t205)))))) t201 (wrap64 (x10_1 - (mn x10_1 (wrap64 (t206 - t205))))) l0 (l0.length : Int) (wrap64 (x39_1 + 1))) else (none)) = some (r1, r2, r3):=H;have A21:=k0_ A210;clear A210;obtain ⟨ji22, hji22⟩ : ∃ j_ : Int, (mn x10_1 (wrap64 (t206 - t205))) = j_:=⟨_, rfl⟩;replace H : (if x39_1 < (x8_1.length : Int) then (dispatch_Best.l0 k1 l0 (x8_1.set (x39_1 : Int).toNat (wrap64 (t205 + (ji22)))) t201 (wrap64 (x10_1 - (ji22))) l0 (l0.length : Int) (wrap64 (x39_1 + 1))) else (none)) = some (r1, r2, r3):=by first|(rw [hji22] at H;exact H)|(simp only [hji22] at H ⊢;exact H)
    (try rw [hji22] at A21);have hji22_ : (if (wrap64 (t206 - t205)) < x10_1 then (wrap64 (t206 - t205)) else x10_1) = ji22:=hji22
    obtain ⟨c23,H⟩:=gi_ H;have c23b0:=decide_eq_true c23;clear c23;obtain ⟨y208, hy208⟩ : ∃ y_ : List Int, y_ = (x8_1.set (x39_1 : Int).toNat (wrap64 (t205 + (ji22)))):=⟨_, rfl⟩;replace H : (dispatch_Best.l0 k1 l0 y208 t201 (wrap64 (x10_1 - (ji22))) l0 (l0.length : Int) (wrap64 (x39_1 + 1))) = some (r1, r2, r3):=by first|(rw [hy208];with_reducible exact H)|(have H2_:=(Option.bind_some _ _).symm.trans H;rw [hy208];with_reducible exact H2_)|(have H2_:=(Option.bind_some _ _).symm.trans H;with_reducible exact H2_)|with_reducible exact H|(rw [hy208];exact H)|exact H
    have Ny208:=k0_ hy208;clear hy208;have H':=k0_ H;clear H;have p203 : 0 ≤ (x39_1 : Int):=of_decide_eq_true as_;have q203 : x39_1 < (l0.length : Int):=of_decide_eq_true as_;obtain ⟨ad203, A203_1, c203_1, e203, hx203_0, hx203_1, hl203_1, hi203_1⟩:=at_T31 HR0.out x39_1 p203 q203;cases e203;replace hx203_0:=bt_ HB.out hx203_0;replace hx203_1:=bt_ HB.out hx203_1;have HR203_1:=k0_ hi203_1;have HC203_1:=k0_ hl203_1;clear hi203_1 hl203_1;replace p203:=eq_true p203;replace q203:=eq_true q203
    go_wp2_with (first|((with_reducible refine gate_dst (N:=12) rfl ?_);refine box_event ?hg (N:=12) ?hd (cs:=#[.string (⟨#[]⟩ : ByteArray), .slice none 0 0]) (t:=31) ?hr ?_;(case hd=>rfl);(case hg=>rfl);(case hr=>first|(go_simp;done)|(go_simp;rfl));intro gb204 hg w25 hbox hb;replace HO_8:=k0_ (Kd.R_below (rq_ HO_8.out) hb);have BK204:=k0_ (hbox);have GW204:=k0_ ((by rw [hg];exact (below_size (hb0_ HB.out)) : w.heap.size ≤ gb204));have GE204:=k0_ ((by rw [hg];exact (below_size (hb0_ HB.out)) : w.heap.size ≤ gb204));replace HB:=k0_ (below_step (hb0_ HB.out) hb);clear hb hbox hg;obtain ⟨hcz26_0,hcz26_1⟩:=bc2_ BK204.out;obtain ⟨hfz26_0,hfz26_1⟩:=bf2_ BK204.out)|((with_reducible refine gate_callee (f:=44) rfl ?_);refine goesL_ (some 47) rfl rfl Try.func44 (by kernel_rfl) rfl #[.agg #[.string ((rd_T31 l0 x39_1).f0), .slice A203_1 ((rd_T31 l0 x39_1).f1).length c203_1], .int .i64 t201] rfl mt_ ?_;(with_reducible refine (offer_Supply.calls k1 ((rd_T31 l0 x39_1).f0) _ _ ((rd_T31 l0 x39_1).f1) t201 t205 t206 t207 _ ?side1 ?side2 A21.out).mono ?_);(case side1=>exact Kd.C_below HR203_1.out (hb1_ HB.out GE204.out));(case side2=>exact HC203_1.out);rintro e w27 ⟨rfl, hb⟩;refine ⟨_, rfl, ?_⟩;replace HO_8:=k0_ (Kd.R_below (by (with_reducible repeat (first|apply Kd.R_alloc|apply Kd.R_drewN|apply Kd.R_drew));exact (Kd.R_mono (Kd.R_far (p:=⟨gb204, 1, none⟩) (Kd.R_far (p:=⟨gb204, 0, none⟩) (Kd.R_types HO_8.out BK204.out (by decide)) (fun _ hk=>hk.2) (.string ((rd_T31 l0 x39_1).f0))) (fun _ hk=>hk.2) (.slice A203_1 ((rd_T31 l0 x39_1).f1).length c203_1)) (fun _ h_=>h_.1))) hb);replace BK204:=k0_ (blk_below (g:=gb204) (o:=.cells #[.string ((rd_T31 l0 x39_1).f0), .slice A203_1 ((rd_T31 l0 x39_1).f1).length c203_1] 31 (0, 0)) (by (with_reducible repeat (first|refine blk_drewN ?_ _|refine blk_drew ?_|refine blk_alloc ?_ _));refine blk_put (cs:=#[.string ((rd_T31 l0 x39_1).f0), .slice none 0 0]) ?_ 1 _ rfl;(with_reducible repeat (first|refine blk_drewN ?_ _|refine blk_drew ?_|refine blk_alloc ?_ _));refine blk_put (cs:=#[.string (⟨#[]⟩ : ByteArray), .slice none 0 0]) ?_ 0 _ rfl;(with_reducible repeat (first|refine blk_drewN ?_ _|refine blk_drew ?_|refine blk_alloc ?_ _));exact BK204.out) hb);replace HB:=k0_ (below_step (hb1_ HB.out GE204.out) hb);(try clear hb);(try clear hb2);(try clear hk);(try clear hi);have p24 : 0 ≤ (x39_1 : Int):=of_decide_eq_true as_;have q24 : (x39_1 : Int) < ((x8_1.length : Int) : Int):=of_decide_eq_true as_;obtain ⟨go24, co24, eo24, gb24, gl24, cl24, HG24⟩:=Kd.R_form HO_8.out (by omega);(first|cases eo24|(injection eo24 with ea_ en_ ec_;(first|subst ea_|(injection ea_ with ea_;subst ea_));subst ec_;clear en_));have GB24:=k0_ gb24;have GG24:=k0_ HG24;clear gb24 gl24 HG24;obtain ⟨hx24_0, hf24_0⟩:=Kd.R_celln 0 HO_8.out (x39_1 : Int) p24 q24;replace p24:=eq_true p24;replace q24:=eq_true q24;obtain ⟨hy28_, hz28_⟩:=Kd.R_celln 0 HO_8.out (x39_1 : Int) (of_decide_eq_true as_) (of_decide_eq_true as_);have HP28:=Kd.R_putg HO_8.out (x39_1 : Int) (wrap64 (t205 + (ji22))))|((with_reducible refine gate_store (t:=3) (p:=64) rfl ?_);refine store_event (t:=3) (p:=64) (v:=?vo_w29) (w1:=(w27.setCell ⟨go24, (x39_1 : Int).toNat, none⟩ (.int .i64 (wrap64 (t205 + (ji22)))))) ?hg ?ho ?hn ?hr ?_;(case ho=>rfl);(case hg=>rfl);(case hn=>rfl);(case hr=>first|(go_simp;done)|(go_simp;rfl));intro w29 hw;have hg : w27.grownBy w29 (some go24):=(by rw [hw];exact HP28.2);have hp_ : Kd.R (Kd.int .i64) 3 w29 w.heap.size (fun k_=>(w.heap.size ≤ k_)) (.slice (some ⟨go24, 0, none⟩) x8_1.length co24) y208:=(by rw [hw, Ny208.out];exact HP28.1);clear HP28;replace BK204:=k0_ (blk_grown (g:=gb204) (o:=.cells #[.string ((rd_T31 l0 x39_1).f0), .slice A203_1 ((rd_T31 l0 x39_1).f1).length c203_1] 31 (0, 0)) (bq_ BK204.out) hg (Kd.R_ne HO_8.out BK204.out (by decide)));replace HO_8:=k0_ (hp_);replace HB:=k0_ ((by rw [hw];exact below_set (HB.out) GB24.out : Below w.heap.size w w29));clear hg hw hp_))
    go_roundg k1
    case measure=>have:=HK1.out;omega
    case rel=>exact ⟨(y208),(wrap64 (x10_1 - (ji22))),(wrap64 (x39_1 + 1)),(by first|rfl|(simp;done)|(simp only [← hji22] <;> (first|rfl|simp))|(simp [*];done)),rs_, H', ⟨by have:=HK1.out;omega⟩,⟨by (with_reducible repeat (first|apply Kd.R_alloc|apply Kd.R_drewN|apply Kd.R_drew));exact HO_8.out⟩,⟨hb1_ HB.out GE204.out⟩⟩
   ·rw [if_neg c18] at H
    have c18b0:=decide_eq_false c18;clear c18;replace H:=Option.bind_eq_some_iff.mp H;obtain ⟨⟨t209, t212, t213⟩, A300, H⟩:=H;replace H : (some (t209, t212, t213)) = some (r1, r2, r3):=H;have A30:=k0_ A300;clear A300;simp only [Option.some.injEq, Prod.mk.injEq] at H;obtain ⟨rfl, rfl, rfl⟩:=H;obtain ⟨Ao31, co31, eo31⟩:=Kd.R_slice HO_8.out;subst eo31
    go_wp2_with (first|((with_reducible refine gate_callee (f:=45) rfl ?_);refine goesL_ (some 68) rfl rfl Try.func45 (by kernel_rfl) rfl #[.slice A0 l0.length c0, .slice Ao31 x8_1.length co31] rfl mt_ ?_;(with_reducible refine (dispatch_costs.calls k1 _ _ l0 (fun k_=>some k_ = (.slice Ao31 x8_1.length co31 : Value).ownBlock) _ _ x8_1 t209 t212 t213 _ ?side1 ?side2 ?side3 A30.out).mono ?_);(case side1=>repeat (first|exact (Kd.C_below HR0.out HB.out)|(with_reducible refine Kd.C_alloc ?_ _)|(with_reducible refine Kd.C_drewN ?_ _)|(with_reducible refine Kd.C_drew ?_)));(case side2=>exact HC0.out);(case side3=>exact Kd.R_V (Kd.R_tight rfl (HO_8.out)));rintro e w32 ⟨v210, rfl, ho0, hb⟩;refine ⟨_, rfl, ?_⟩;have HO211:=k0_ (Kd.V_lower (Kd.V_mono (ok':=fun k_=>(w.heap.size ≤ k_)) ho0 (fun k_ hk_=>Or.elim hk_ (fun hs_=>((HO_8.out).1 k_ hs_.symm)) (fun hn_=>(Nat.le_trans (below_size (hb0_ HB.out)) hn_)))) (below_size (hb0_ HB.out)));replace HO_8:=k0_ (Kd.R_below (rq_ HO_8.out) hb);replace HB:=k0_ (below_step (hb0_ HB.out) hb);(try clear hb);(try clear hb2);(try clear hk);(try clear hi);(try clear ho0)))
    go_ret3
    exact ⟨_, er_, by (with_reducible repeat (first|apply Kd.V_alloc|apply Kd.V_drewN|apply Kd.V_drew));exact HO211.out, hb0_ HB.out⟩
 ·rw [if_neg c4] at H
  have c4b0:=beq_eq_false_iff_ne.mpr c4;have c4b1:=bne_iff_ne.mpr c4;simp only [Option.some.injEq, Prod.mk.injEq] at H;obtain ⟨rfl, rfl, rfl⟩:=H
  go_enter Try.func10, Try.ntmps10
  go_wp2_with (first|((with_reducible refine gate_callee (f:=41) rfl ?_);refine goesL_ (some 19) rfl rfl Try.func41 (by kernel_rfl) rfl #[.slice A0 l0.length c0, .int .i64 a1] rfl mt_ ?_;(with_reducible refine (dispatch_check.calls k _ _ l0 a1 t197 _ ?side1 ?side2 A3.out).mono ?_);(case side1=>repeat (first|exact HR0.out|(with_reducible refine Kd.C_alloc ?_ _)|(with_reducible refine Kd.C_drewN ?_ _)|(with_reducible refine Kd.C_drew ?_)));(case side2=>exact HC0.out);rintro e w33 ⟨rfl, hb⟩;refine ⟨_, rfl, ?_⟩;replace HB:=k0_ (below_step (hb0_ HB.out) hb);(try clear hb);(try clear hb2);(try clear hk);(try clear hi)))
  go_ret3
  exact ⟨_, er_, Kd.R_V (base:=w.heap.size) (by first|exact Kd.R_nil _ _ _ _ _|exact Kd.N_nil _ _ _ _ _|exact Kd.V_nil _ _ _ _ _|exact Kd.Q_nil _ _ _ _ _|exact Kd.S_nil _ _ _ _ _), hb0_ HB.out⟩

end Go.Proofs.Ytdphghdjljplpaa.PTopHours
