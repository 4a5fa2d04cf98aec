/- Contracts of functions that HoursChanges reaches, a text of this session's own. -/
import Derived.Test.YtekpnmeikibioaaBox2
import Derived.Test.YtekpnmeikibioaaHHoursChangesy0
import Derived.Test.YtekpnmeikibioaaHHoursChangesy2
namespace Go.Proofs.Ytekpnmeikibioaa.PHoursChanges
open Go.RowKit Go.Proofs.YtekpnmeikibioaaW.PrintWords Go.Proofs.YtekpnmeikibioaaW.PrintLast Go.Proofs.YtekpnmeikibioaaW.PrintMore
attribute [local go_sem] max2_int min2_int max_two min_two max_three min_three max_four min_four   -- for this text's walks alone
set_option linter.unusedVariables false
set_option linter.unusedSimpArgs false

/-! ### gridhallref3_OffersError: function 24 -/
mutual
def gridhallref3_OffersError.l0 : Nat → List (S29) → List (S29) → Int → Int → Option (Int)
 | 0, _, _, _, _ => none
 | k + 1, x0, x11, x12, x13 => if x13 < x12 then (if 0 ≤ x13 then (if x13 < (x11.length : Int) then ((gridhallref3_OfferError.f k ((rd_T29 x11 x13).f0) ((rd_T29 x11 x13).f1)).bind fun t152 => (if t152 = 0 then (if x13 ≤ (x0.length : Int) then ((some (x0.take (x13 : Int).toNat : List (S29))).bind fun y153 => (gridhallref3_OffersError.l1 k x0 x11 x12 x13 y153 (y153.length : Int) 0 ((rd_T29 x11 x13).f0) ((rd_T29 x11 x13).f1))) else (none)) else (some t152))) else (none)) else (none)) else (some 0)
def gridhallref3_OffersError.l1 : Nat → List (S29) → List (S29) → Int → Int → List (S29) → Int → Int → ByteArray → List (S41) → Option (Int)
 | 0, _, _, _, _, _, _, _, _, _ => none
 | k + 1, x0, x11, x12, x13, x25, x26, x27, x152000, x152001 => if x27 < x26 then (if 0 ≤ x27 then (if x27 < (x25.length : Int) then (if ((rd_T29 x25 x27).f0).toList = x152000.toList then (some 7) else (gridhallref3_OffersError.l1 k x0 x11 x12 x13 x25 x26 (wrap64 (x27 + 1)) x152000 x152001)) else (none)) else (none)) else (gridhallref3_OffersError.l0 k x0 x11 x12 (wrap64 (x13 + 1)))
end
def gridhallref3_OffersError.f (k : Nat) (l0 : List (S29)) : Option (Int) := if (l0.length : Int) > 10 then (some 2) else (gridhallref3_OffersError.l0 k l0 l0 (l0.length : Int) 0)
theorem gridhallref3_OffersError.mono_l : ∀ k, (∀ y0 y1 y2 y3, LeO (gridhallref3_OffersError.l0 k y0 y1 y2 y3) (gridhallref3_OffersError.l0 (k + 1) y0 y1 y2 y3)) ∧ (∀ y0 y1 y2 y3 y4 y5 y6 y7 y8, LeO (gridhallref3_OffersError.l1 k y0 y1 y2 y3 y4 y5 y6 y7 y8) (gridhallref3_OffersError.l1 (k + 1) y0 y1 y2 y3 y4 y5 y6 y7 y8))
 | 0 => ⟨fun _ _ _ _ r h => by simp [gridhallref3_OffersError.l0] at h, fun _ _ _ _ _ _ _ _ _ r h => by simp [gridhallref3_OffersError.l1] at h⟩
 | k + 1 => by
  obtain ⟨ih0, ih1⟩:=gridhallref3_OffersError.mono_l k
  refine ⟨?_, ?_⟩
  ·intro y0 y1 y2 y3
   unfold gridhallref3_OffersError.l0
   repeat' first|(with_reducible first|exact ih0 _ _ _ _|exact ih1 _ _ _ _ _ _ _ _ _|exact gridhallref3_OfferError.mono _ _ _|exact LeO.refl _|exact LeO.none _|refine LeO.ite ?_ ?_|refine LeO.bind ?_ (fun _=>?_))|exact ih0 _ _ _ _|exact ih1 _ _ _ _ _ _ _ _ _|exact gridhallref3_OfferError.mono _ _ _|exact LeO.none _|refine LeO.ite ?_ ?_|refine LeO.bind ?_ (fun _=>?_)
  ·intro y0 y1 y2 y3 y4 y5 y6 y7 y8
   unfold gridhallref3_OffersError.l1
   repeat' first|(with_reducible first|exact ih0 _ _ _ _|exact ih1 _ _ _ _ _ _ _ _ _|exact gridhallref3_OfferError.mono _ _ _|exact LeO.refl _|exact LeO.none _|refine LeO.ite ?_ ?_|refine LeO.bind ?_ (fun _=>?_))|exact ih0 _ _ _ _|exact ih1 _ _ _ _ _ _ _ _ _|exact gridhallref3_OfferError.mono _ _ _|exact LeO.none _|refine LeO.ite ?_ ?_|refine LeO.bind ?_ (fun _=>?_)
theorem gridhallref3_OffersError.mono : ∀ a0 k, LeO (gridhallref3_OffersError.f k a0) (gridhallref3_OffersError.f (k + 1) a0) := by
 intro a0 k
 obtain ⟨ih0, ih1⟩:=gridhallref3_OffersError.mono_l k
 unfold gridhallref3_OffersError.f
 repeat' first|(with_reducible first|exact ih0 _ _ _ _|exact ih1 _ _ _ _ _ _ _ _ _|exact gridhallref3_OfferError.mono _ _ _|exact LeO.refl _|exact LeO.none _|refine LeO.ite ?_ ?_|refine LeO.bind ?_ (fun _=>?_))|exact ih0 _ _ _ _|exact ih1 _ _ _ _ _ _ _ _ _|exact gridhallref3_OfferError.mono _ _ _|exact LeO.none _|refine LeO.ite ?_ ?_|refine LeO.bind ?_ (fun _=>?_)
set_option maxHeartbeats 8000000 in
set_option maxRecDepth 100000 in
theorem gridhallref3_OffersError.calls (k : Nat) (A0 : Option Addr) (c0 : Nat) (l0 : List (S29)) (r : Int) (w : World) (hr0 : Kd.C k29 w A0 l0.length l0) (hc0 : l0.length ≤ c0) (h : gridhallref3_OffersError.f k l0 = some r) :
  Calls Try.prog 24 #[.slice A0 l0.length c0] w fun e w' => e = .returned (.int .i64 r) ∧ Below w.heap.size w w' := by
 have hu29:=Try.underlying29;have HR0:=k0_ hr0;have HC0:=k0_ hc0;clear hr0 hc0;have HB:=k0_ (Below.refl w.heap.size w);have H : (if (l0.length : Int) > 10 then (some 2) else (gridhallref3_OffersError.l0 k l0 l0 (l0.length : Int) 0)) = some r:=h;clear h
 by_cases c2 : (l0.length : Int) > 10
 ·rw [if_pos c2] at H
  have c2b0:=decide_eq_true c2;have c2b1 : decide (10 < l0.length) = true:=decide_eq_true (by omega);clear c2;obtain rfl:=Option.some.inj H
  go_enter Try.func24, Try.ntmps24
  go_wp2
  go_ret
  exact ⟨er_, hb0_ HB.out⟩
 ·rw [if_neg c2] at H
  have c2b0:=decide_eq_false c2;have c2b1 : decide (10 < l0.length) = false:=decide_eq_false (by omega);clear c2;have H':=k0_ H;clear H
  go_enter Try.func24, Try.ntmps24
  go_wp2;(try simp only [Act.put, q1_,q3_,q2_])
  go_loopg [13] k (fun kq v13 w'=>∃ (x13_1 : Int), v13 = .int .i64 x13_1∧Aside0 (gridhallref3_OffersError.l0 kq l0 l0 (l0.length : Int) x13_1 = some r)∧Aside0 (kq ≤ k)∧Aside0 (Below w.heap.size w w'))
  case atStart=>exact ⟨(0),rs_, H', ⟨Nat.le_refl _⟩,⟨hb0_ HB.out⟩⟩
  clear H';(try clear c2);(try clear c2b0);(try clear c2b1);(try clear p2);obtain ⟨x13_1, rfl, HA, HK1, HB⟩:=hrel;obtain _|k1:=gk
  ·exact absurd HA.out (by simp [gridhallref3_OffersError.l0])
  have H:=HA.out;clear HA;simp only [gridhallref3_OffersError.l0] at H
  by_cases c3 : x13_1 < (l0.length : Int)
  ·rw [if_pos c3] at H
   have c3b0:=decide_eq_true c3;clear c3
   by_cases c4 : 0 ≤ x13_1
   rw [if_pos c4] at H;have c4b0:=decide_eq_true c4;clear c4
   focus
    by_cases c5 : x13_1 < (l0.length : Int)
    rw [if_pos c5] at H;have c5b0:=decide_eq_true c5;clear c5;replace H:=Option.bind_eq_some_iff.mp H;obtain ⟨t152, A60, H⟩:=H;replace H : (if t152 = 0 then (if x13_1 ≤ (l0.length : Int) then ((some (l0.take (x13_1 : Int).toNat : List (S29))).bind fun y153=>(gridhallref3_OffersError.l1 k1 l0 l0 (l0.length : Int) x13_1 y153 (y153.length : Int) 0 ((rd_T29 l0 x13_1).f0) ((rd_T29 l0 x13_1).f1))) else (none)) else (some t152)) = some r:=H;have A6:=k0_ A60;clear A60
    focus
     by_cases c7 : t152 = 0
     rw [if_pos c7] at H;have c7b0:=beq_iff_eq.mpr c7;have c7b1:=bne_eq_false_iff_eq.mpr c7;clear c7;have c8b0:=eq_true (of_decide_eq_true as_ : 0 ≤ x13_1)
     focus
      by_cases c9 : x13_1 ≤ (l0.length : Int)
      rw [if_pos c9] at H;have c9b0:=eq_true c9;have c9b1:=decide_eq_true c9;clear c9;obtain ⟨y153, hy153⟩ : ∃ y_ : List (S29), y_ = (l0.take (x13_1 : Int).toNat):=⟨_, rfl⟩;replace H : (gridhallref3_OffersError.l1 k1 l0 l0 (l0.length : Int) x13_1 y153 (y153.length : Int) 0 ((rd_T29 l0 x13_1).f0) ((rd_T29 l0 x13_1).f1)) = some r:=by first|(rw [hy153];with_reducible exact H)|(have H2_:=(Option.bind_some _ _).symm.trans H;rw [hy153];with_reducible exact H2_)|(have H2_:=(Option.bind_some _ _).symm.trans H;with_reducible exact H2_)|with_reducible exact H|(rw [hy153];exact H)|exact H
      have Ny153:=k0_ hy153;clear hy153;have H':=k0_ H;clear H;rotate_left;rw [if_neg c9] at H
      exact absurd H (by simp)
     rotate_left;rw [if_neg c7] at H;have c7b0:=beq_eq_false_iff_ne.mpr c7;have c7b1:=bne_iff_ne.mpr c7;obtain rfl:=Option.some.inj H;rotate_left
    rotate_left 2;rw [if_neg c5] at H
    exact absurd H (by simp)
   rotate_left 2;rw [if_neg c4] at H
   exact absurd H (by simp)
   all_goals
    have p150 : 0 ≤ (x13_1 : Int):=of_decide_eq_true as_;have q150 : x13_1 < (l0.length : Int):=of_decide_eq_true as_;obtain ⟨ad150, A150_1, c150_1, e150, hx150_0, hx150_1, hl150_1, hi150_1⟩:=at_T29 HR0.out x13_1 p150 q150;cases e150;replace hx150_0:=bt_ HB.out hx150_0;replace hx150_1:=bt_ HB.out hx150_1;have HR150_1:=k0_ hi150_1;have HC150_1:=k0_ hl150_1;clear hi150_1 hl150_1;replace p150:=eq_true p150;replace q150:=eq_true q150
   ·go_wp2_with (first|((with_reducible refine gate_dst (N:=4) rfl ?_);refine box_event ?hg (N:=4) ?hd (cs:=#[.string (⟨#[]⟩ : ByteArray), .slice none 0 0]) (t:=29) ?hr ?_;(case hd=>rfl);(case hg=>rfl);(case hr=>first|(go_simp;done)|(go_simp;rfl));intro gb151 hg w10 hbox hb;have BK151:=k0_ (hbox);have GW151:=k0_ ((by rw [hg];exact (below_size (hb0_ HB.out)) : w.heap.size ≤ gb151));have GE151:=k0_ ((by rw [hg];exact (below_size (hb0_ HB.out)) : w.heap.size ≤ gb151));replace HB:=k0_ (below_step (hb0_ HB.out) hb);clear hb hbox hg;obtain ⟨hcz11_0,hcz11_1⟩:=bc2_ BK151.out;obtain ⟨hfz11_0,hfz11_1⟩:=bf2_ BK151.out)|((with_reducible refine gate_callee (f:=50) rfl ?_);refine goesL_ (some 19) rfl rfl Try.func50 (by kernel_rfl) rfl #[.agg #[.string ((rd_T29 l0 x13_1).f0), .slice A150_1 ((rd_T29 l0 x13_1).f1).length c150_1]] rfl mt_ ?_;(with_reducible refine (gridhallref3_OfferError.calls k1 ((rd_T29 l0 x13_1).f0) _ _ ((rd_T29 l0 x13_1).f1) t152 _ ?side1 ?side2 A6.out).mono ?_);(case side1=>exact Kd.C_below HR150_1.out (hb1_ HB.out GE151.out));(case side2=>exact HC150_1.out);rintro e w12 ⟨rfl, hb⟩;refine ⟨_, rfl, ?_⟩;replace BK151:=k0_ (blk_below (g:=gb151) (o:=.cells #[.string ((rd_T29 l0 x13_1).f0), .slice A150_1 ((rd_T29 l0 x13_1).f1).length c150_1] 29 (0, 0)) (by (with_reducible repeat (first|refine blk_drewN ?_ _|refine blk_drew ?_|refine blk_alloc ?_ _));refine blk_put (cs:=#[.string ((rd_T29 l0 x13_1).f0), .slice none 0 0]) ?_ 1 _ rfl;(with_reducible repeat (first|refine blk_drewN ?_ _|refine blk_drew ?_|refine blk_alloc ?_ _));refine blk_put (cs:=#[.string (⟨#[]⟩ : ByteArray), .slice none 0 0]) ?_ 0 _ rfl;(with_reducible repeat (first|refine blk_drewN ?_ _|refine blk_drew ?_|refine blk_alloc ?_ _));exact BK151.out) hb);replace HB:=k0_ (below_step (hb1_ HB.out GE151.out) hb);(try clear hb);(try clear hb2);(try clear hk);(try clear hi);have q13 : (x13_1 : Int) ≤ ((l0.length : Int) : Int):=of_decide_eq_true as_;obtain ⟨i013, hi013, _, hsz13, _⟩:=info_parts info29;have hroom13 : l0.length ≤ c0:=HC0.out;have hC13 : Kd.C k29 _ (some ad150) l0.length l0:=HR0.out;have hcut13:=cut_to (P:=Try.prog) 50 29 .i64 Try.underlying50 hi013 (some ad150) l0.length c0 x13_1 (of_decide_eq_true as_) q13 hroom13;have hr13:=Kd.C_take (m:=(x13_1 : Int).toNat) hC13 (by omega);have hy13 : y153.length = (x13_1 : Int).toNat:=(by rw [Ny153.out, List.length_take];omega);rw [← Ny153.out] at hr13;rw [← hy13] at hcut13;have HR156:=k0_ hr13;have HC156:=k0_ (show y153.length ≤ c0 from by omega);clear hr13 hC13 hroom13 hi013 hsz13;have KY13:=k0_ hy13;clear hy13;replace q13:=eq_true q13))
    (try simp only [Act.put, q1_,q3_,q2_])
    go_loopg [27] k1 (fun kq v27 w'=>∃ (x27_2 : Int), v27 = .int .i64 x27_2∧Aside0 (gridhallref3_OffersError.l1 kq l0 l0 (l0.length : Int) x13_1 y153 (y153.length : Int) x27_2 ((rd_T29 l0 x13_1).f0) ((rd_T29 l0 x13_1).f1) = some r)∧Aside0 (kq ≤ k1)∧Aside0 (w'.heap[gb151]? = some (.cells #[.string ((rd_T29 l0 x13_1).f0),(.slice A150_1 ((rd_T29 l0 x13_1).f1).length c150_1)] 29 (0, 0)))∧Aside0 (Below w.heap.size w w'))
    case atStart=>exact ⟨(0),rs_, H', ⟨Nat.le_refl _⟩,⟨bq_ BK151.out⟩,⟨hb1_ HB.out GE151.out⟩⟩
    clear H';(try clear c1);(try clear p1);(try clear q1);(try clear hx1);(try clear c2);(try clear c2b0);(try clear c2b1);(try clear p2);(try clear c3);(try clear c3b0);(try clear c4);(try clear c4b0);(try clear c5);(try clear c5b0);(try clear c7);(try clear c7b0);(try clear c7b1);(try clear c8);(try clear c8b0);(try clear c9);(try clear c9b0);(try clear c9b1);(try clear q13);(try clear hcz11_0);(try clear hcz11_1);(try clear hfz11_0);(try clear hfz11_1);(try clear hx150_0);(try clear hx150_1);(try clear p150);(try clear p2);(try clear q13);(try clear q150);obtain ⟨x27_2, rfl, HA, HK2, BK151, HB⟩:=hrel;obtain _|k2:=gk
    ·exact absurd HA.out (by simp [gridhallref3_OffersError.l1])
    have H:=HA.out;clear HA;simp only [gridhallref3_OffersError.l1] at H
    by_cases c14 : x27_2 < (y153.length : Int)
    ·rw [if_pos c14] at H
     have c14b0:=decide_eq_true c14;clear c14
     by_cases c15 : 0 ≤ x27_2
     rw [if_pos c15] at H;have c15b0:=decide_eq_true c15;clear c15
     focus
      by_cases c16 : x27_2 < (y153.length : Int)
      rw [if_pos c16] at H;have c16b0:=decide_eq_true c16;clear c16
      focus
       by_cases c17 : ((rd_T29 y153 x27_2).f0).toList = ((rd_T29 l0 x13_1).f0).toList
       rw [if_pos c17] at H;have c17b0:=beq_iff_eq.mpr c17;have c17b1:=bne_eq_false_iff_eq.mpr c17;clear c17;obtain rfl:=Option.some.inj H;rotate_left;rw [if_neg c17] at H;have c17b0:=beq_eq_false_iff_ne.mpr c17;have c17b1:=bne_iff_ne.mpr c17;have H':=k0_ H;clear H;rotate_left
      rotate_left 2;rw [if_neg c16] at H
      exact absurd H (by simp)
     rotate_left 2;rw [if_neg c15] at H
     exact absurd H (by simp)
     all_goals
      have p157 : 0 ≤ (x27_2 : Int):=of_decide_eq_true as_;have q157 : x27_2 < (y153.length : Int):=of_decide_eq_true as_;obtain ⟨ad157, A157_1, c157_1, e157, hx157_0, hx157_1, hl157_1, hi157_1⟩:=at_T29 HR156.out x27_2 p157 q157;obtain rfl : ad150 = ad157:=(by injection e157);replace hx157_0:=bt_ HB.out hx157_0;replace hx157_1:=bt_ HB.out hx157_1;have HR157_1:=k0_ hi157_1;have HC157_1:=k0_ hl157_1;clear hi157_1 hl157_1;replace p157:=eq_true p157;replace q157:=eq_true q157
      go_wp2_with (first|((with_reducible refine gate_dst (N:=7) rfl ?_);refine box_event ?hg (N:=7) ?hd (cs:=#[.string (⟨#[]⟩ : ByteArray), .slice none 0 0]) (t:=29) ?hr ?_;(case hd=>rfl);(case hg=>rfl);(case hr=>first|(go_simp;done)|(go_simp;rfl));intro gb158 hg w18 hbox hb;have BK158:=k0_ (hbox);have GW158:=k0_ ((by rw [hg];exact (below_size (hb1_ HB.out GE151.out)) : w.heap.size ≤ gb158));have GE158:=k0_ ((by rw [hg];exact (below_size (hb1_ HB.out GE151.out)) : w.heap.size ≤ gb158));replace HB:=k0_ (below_step (hb1_ HB.out GE151.out) hb);have NB151_158:=k0_ ((by rw [hg];exact Nat.ne_of_lt (blk_lt (g:=gb151) (o:=.cells #[.string ((rd_T29 l0 x13_1).f0), .slice A150_1 ((rd_T29 l0 x13_1).f1).length c150_1] 29 (0, 0)) (bq_ BK151.out)) : gb151 ≠ gb158));have NB158_151:=k0_ ((by rw [hg];exact Nat.ne_of_gt (blk_lt (g:=gb151) (o:=.cells #[.string ((rd_T29 l0 x13_1).f0), .slice A150_1 ((rd_T29 l0 x13_1).f1).length c150_1] 29 (0, 0)) (bq_ BK151.out)) : gb158 ≠ gb151));replace BK151:=k0_ (blk_below (g:=gb151) (o:=.cells #[.string ((rd_T29 l0 x13_1).f0), .slice A150_1 ((rd_T29 l0 x13_1).f1).length c150_1] 29 (0, 0)) (bq_ BK151.out) hb);clear hb hbox hg;have hnb19:=NB158_151.out;have hnc19:=NB151_158.out;obtain ⟨hcz20_0,hcz20_1⟩:=bc2_ BK158.out;obtain ⟨hfz20_0,hfz20_1⟩:=bf2_ BK158.out;obtain ⟨hcz21_0,hcz21_1⟩:=bc2_ BK151.out;obtain ⟨hfz21_0,hfz21_1⟩:=bf2_ BK151.out))
     ·go_ret
      exact ⟨er_, hb2_ HB.out GE151.out GE158.out⟩
     ·go_roundg k2
      case measure=>have:=HK1.out;have:=HK2.out;omega
      case rel=>exact ⟨(wrap64 (x27_2 + 1)),rs_, H', ⟨by have:=HK1.out;have:=HK2.out;omega⟩,⟨by (with_reducible repeat (first|refine blk_drewN ?_ _|refine blk_drew ?_|refine blk_alloc ?_ _));refine blk_far ?_ NB151_158.out _;(with_reducible repeat (first|refine blk_drewN ?_ _|refine blk_drew ?_|refine blk_alloc ?_ _));refine blk_far ?_ NB151_158.out _;(with_reducible repeat (first|refine blk_drewN ?_ _|refine blk_drew ?_|refine blk_alloc ?_ _));exact BK151.out⟩,⟨hb2_ HB.out GE151.out GE158.out⟩⟩
    ·rw [if_neg c14] at H
     have c14b0:=decide_eq_false c14;clear c14;have H':=k0_ H;clear H;go_wp2
     go_roundg k2
     case measure=>have:=HK1.out;have:=HK2.out;omega
     case rel=>exact ⟨(wrap64 (x13_1 + 1)),rs_, H', ⟨by have:=HK1.out;have:=HK2.out;omega⟩,⟨hb1_ HB.out GE151.out⟩⟩
   ·go_wp2_with (first|((with_reducible refine gate_dst (N:=4) rfl ?_);refine box_event ?hg (N:=4) ?hd (cs:=#[.string (⟨#[]⟩ : ByteArray), .slice none 0 0]) (t:=29) ?hr ?_;(case hd=>rfl);(case hg=>rfl);(case hr=>first|(go_simp;done)|(go_simp;rfl));intro gb151 hg w26 hbox hb;have BK151:=k0_ (hbox);have GW151:=k0_ ((by rw [hg];exact (below_size (hb0_ HB.out)) : w.heap.size ≤ gb151));have GE151:=k0_ ((by rw [hg];exact (below_size (hb0_ HB.out)) : w.heap.size ≤ gb151));replace HB:=k0_ (below_step (hb0_ HB.out) hb);clear hb hbox hg;obtain ⟨hcz27_0,hcz27_1⟩:=bc2_ BK151.out;obtain ⟨hfz27_0,hfz27_1⟩:=bf2_ BK151.out)|((with_reducible refine gate_callee (f:=50) rfl ?_);refine goesL_ (some 19) rfl rfl Try.func50 (by kernel_rfl) rfl #[.agg #[.string ((rd_T29 l0 x13_1).f0), .slice A150_1 ((rd_T29 l0 x13_1).f1).length c150_1]] rfl mt_ ?_;(with_reducible refine (gridhallref3_OfferError.calls k1 ((rd_T29 l0 x13_1).f0) _ _ ((rd_T29 l0 x13_1).f1) t152 _ ?side1 ?side2 A6.out).mono ?_);(case side1=>exact Kd.C_below HR150_1.out (hb1_ HB.out GE151.out));(case side2=>exact HC150_1.out);rintro e w28 ⟨rfl, hb⟩;refine ⟨_, rfl, ?_⟩;replace BK151:=k0_ (blk_below (g:=gb151) (o:=.cells #[.string ((rd_T29 l0 x13_1).f0), .slice A150_1 ((rd_T29 l0 x13_1).f1).length c150_1] 29 (0, 0)) (by (with_reducible repeat (first|refine blk_drewN ?_ _|refine blk_drew ?_|refine blk_alloc ?_ _));refine blk_put (cs:=#[.string ((rd_T29 l0 x13_1).f0), .slice none 0 0]) ?_ 1 _ rfl;(with_reducible repeat (first|refine blk_drewN ?_ _|refine blk_drew ?_|refine blk_alloc ?_ _));refine blk_put (cs:=#[.string (⟨#[]⟩ : ByteArray), .slice none 0 0]) ?_ 0 _ rfl;(with_reducible repeat (first|refine blk_drewN ?_ _|refine blk_drew ?_|refine blk_alloc ?_ _));exact BK151.out) hb);replace HB:=k0_ (below_step (hb1_ HB.out GE151.out) hb);(try clear hb);(try clear hb2);(try clear hk);(try clear hi)))
    go_ret
    exact ⟨er_, hb1_ HB.out GE151.out⟩
  ·rw [if_neg c3] at H
   have c3b0:=decide_eq_false c3;clear c3;obtain rfl:=Option.some.inj H;go_wp2
   go_ret
   exact ⟨er_, hb0_ HB.out⟩

/-! ### offer_Most: function 35 -/
def offer_Most.l0 : Nat → Int → List (S41) → Int → Int → Option (Int)
 | 0, _, _, _, _ => none
 | k + 1, x3, x7, x8, x9 => if x9 < x8 then (if 0 ≤ x9 then (if x9 < (x7.length : Int) then (offer_Most.l0 k (wrap64 (x3 + ((rd_T41 x7 x9).f0))) x7 x8 (wrap64 (x9 + 1))) else (none)) else (none)) else (some x3)
def offer_Most.f (k : Nat) (a0_0 : ByteArray) (l0_1 : List (S41)) : Option (Int) := offer_Most.l0 k 0 l0_1 (l0_1.length : Int) 0
theorem offer_Most.mono_l : ∀ k, (∀ y0 y1 y2 y3, LeO (offer_Most.l0 k y0 y1 y2 y3) (offer_Most.l0 (k + 1) y0 y1 y2 y3))
 | 0 => fun _ _ _ _ r h => by simp [offer_Most.l0] at h
 | k + 1 => by
  have ih0:=offer_Most.mono_l k
  ·intro y0 y1 y2 y3
   unfold offer_Most.l0
   repeat' first|(with_reducible first|exact ih0 _ _ _ _|exact LeO.refl _|exact LeO.none _|refine LeO.ite ?_ ?_|refine LeO.bind ?_ (fun _=>?_))|exact ih0 _ _ _ _|exact LeO.none _|refine LeO.ite ?_ ?_|refine LeO.bind ?_ (fun _=>?_)
theorem offer_Most.mono : ∀ a0 a1 k, LeO (offer_Most.f k a0 a1) (offer_Most.f (k + 1) a0 a1) := by
 intro a0 a1 k
 have ih0:=offer_Most.mono_l k
 unfold offer_Most.f
 repeat' first|(with_reducible first|exact ih0 _ _ _ _|exact LeO.refl _|exact LeO.none _|refine LeO.ite ?_ ?_|refine LeO.bind ?_ (fun _=>?_))|exact ih0 _ _ _ _|exact LeO.none _|refine LeO.ite ?_ ?_|refine LeO.bind ?_ (fun _=>?_)
set_option maxHeartbeats 8000000 in
set_option maxRecDepth 100000 in
theorem offer_Most.calls (k : Nat) (a0_0 : ByteArray) (A0_1 : Option Addr) (c0_1 : Nat) (l0_1 : List (S41)) (r : Int) (w : World) (hr0_1 : Kd.C k41 w A0_1 l0_1.length l0_1) (hc0_1 : l0_1.length ≤ c0_1) (h : offer_Most.f k a0_0 l0_1 = some r) :
  Calls Try.prog 35 #[.agg #[.string a0_0, .slice A0_1 l0_1.length c0_1]] w fun e w' => e = .returned (.int .i64 r) ∧ Below w.heap.size w w' := by
 have hu29:=Try.underlying29;have hu41:=Try.underlying41;have HR0_1:=k0_ hr0_1;have HC0_1:=k0_ hc0_1;clear hr0_1 hc0_1;have HB:=k0_ (Below.refl w.heap.size w);have H : (offer_Most.l0 k 0 l0_1 (l0_1.length : Int) 0) = some r:=h;clear h;have H':=k0_ H;clear H
 go_enter Try.func35, Try.ntmps35
 go_wp2_with (first|((with_reducible refine gate_dst (N:=1) rfl ?_);refine box_event ?hg (N:=1) ?hd (cs:=#[.string a0_0, .slice A0_1 l0_1.length c0_1]) (t:=29) ?hr ?_;(case hd=>rfl);(case hg=>rfl);(case hr=>first|(go_simp;done)|(go_simp;rfl));intro gb159 hg w2 hbox hb;have BK159:=k0_ (hbox);have GW159:=k0_ ((by rw [hg];exact (below_size (hb0_ HB.out)) : w.heap.size ≤ gb159));have GE159:=k0_ ((by rw [hg];exact (below_size (hb0_ HB.out)) : w.heap.size ≤ gb159));replace HB:=k0_ (below_step (hb0_ HB.out) hb);clear hb hbox hg;obtain ⟨hcz3_0,hcz3_1⟩:=bc2_ BK159.out;obtain ⟨hfz3_0,hfz3_1⟩:=bf2_ BK159.out))
 (try simp only [Act.put, q1_,q3_,q2_])
 go_loopg [3, 9] k (fun kq v3 v9 w'=>∃ (x3_1 : Int) (x9_1 : Int), v3 = .int .i64 x3_1∧v9 = .int .i64 x9_1∧Aside0 (offer_Most.l0 kq x3_1 l0_1 (l0_1.length : Int) x9_1 = some r)∧Aside0 (kq ≤ k)∧Aside0 (w'.heap[gb159]? = some (.cells #[.string a0_0, (.slice A0_1 l0_1.length c0_1)] 29 (0, 0)))∧Aside0 (Below w.heap.size w w'))
 case atStart=>exact ⟨(0),(0),rs_,rs_, H', ⟨Nat.le_refl _⟩,⟨bq_ BK159.out⟩,⟨hb1_ HB.out GE159.out⟩⟩
 clear H';(try clear p2);(try clear c3);(try clear hcz3_0);(try clear hcz3_1);(try clear hfz3_0);(try clear hfz3_1);obtain ⟨x3_1, x9_1, rfl, rfl, HA, HK1, BK159, HB⟩:=hrel;obtain _|k1:=gk
 ·exact absurd HA.out (by simp [offer_Most.l0])
 have H:=HA.out;clear HA;simp only [offer_Most.l0] at H
 by_cases c4 : x9_1 < (l0_1.length : Int)
 ·rw [if_pos c4] at H
  have c4b0:=decide_eq_true c4;clear c4
  obtain ⟨c5,H⟩:=gi_ H;have c5b0:=decide_eq_true c5;clear c5
  obtain ⟨c6,H⟩:=gi_ H;have c6b0:=decide_eq_true c6;clear c6;have H':=k0_ H;clear H;have p160 : 0 ≤ (x9_1 : Int):=of_decide_eq_true as_;have q160 : x9_1 < (l0_1.length : Int):=of_decide_eq_true as_;obtain ⟨ad160, e160, hx160_0, hx160_1⟩:=at_T41 HR0_1.out x9_1 p160 q160;cases e160;replace hx160_0:=bt_ HB.out hx160_0;replace hx160_1:=bt_ HB.out hx160_1;replace p160:=eq_true p160;replace q160:=eq_true q160
  go_wp2_with (first|((with_reducible refine gate_dst (N:=5) rfl ?_);refine box_event ?hg (N:=5) ?hd (cs:=#[.int .i64 0, .int .i64 0]) (t:=41) ?hr ?_;(case hd=>rfl);(case hg=>rfl);(case hr=>first|(go_simp;done)|(go_simp;rfl));intro gb161 hg w7 hbox hb;have BK161:=k0_ (hbox);have GW161:=k0_ ((by rw [hg];exact (below_size (hb1_ HB.out GE159.out)) : w.heap.size ≤ gb161));have GE161:=k0_ ((by rw [hg];exact (below_size (hb1_ HB.out GE159.out)) : w.heap.size ≤ gb161));replace HB:=k0_ (below_step (hb1_ HB.out GE159.out) hb);have NB159_161:=k0_ ((by rw [hg];exact Nat.ne_of_lt (blk_lt (g:=gb159) (o:=.cells #[.string a0_0, .slice (some ad160) l0_1.length c0_1] 29 (0, 0)) (bq_ BK159.out)) : gb159 ≠ gb161));have NB161_159:=k0_ ((by rw [hg];exact Nat.ne_of_gt (blk_lt (g:=gb159) (o:=.cells #[.string a0_0, .slice (some ad160) l0_1.length c0_1] 29 (0, 0)) (bq_ BK159.out)) : gb161 ≠ gb159));replace BK159:=k0_ (blk_below (g:=gb159) (o:=.cells #[.string a0_0, .slice (some ad160) l0_1.length c0_1] 29 (0, 0)) (bq_ BK159.out) hb);clear hb hbox hg;have hnb8:=NB161_159.out;have hnc8:=NB159_161.out;obtain ⟨hcz9_0,hcz9_1⟩:=bc2_ BK161.out;obtain ⟨hfz9_0,hfz9_1⟩:=bf2_ BK161.out))
  go_roundg k1
  case measure=>have:=HK1.out;omega
  case rel=>exact ⟨(wrap64 (x3_1 + ((rd_T41 l0_1 x9_1).f0))),(wrap64 (x9_1 + 1)),rs_,rs_, H', ⟨by have:=HK1.out;omega⟩,⟨by (with_reducible repeat (first|refine blk_drewN ?_ _|refine blk_drew ?_|refine blk_alloc ?_ _));refine blk_far ?_ NB159_161.out _;(with_reducible repeat (first|refine blk_drewN ?_ _|refine blk_drew ?_|refine blk_alloc ?_ _));refine blk_far ?_ NB159_161.out _;(with_reducible repeat (first|refine blk_drewN ?_ _|refine blk_drew ?_|refine blk_alloc ?_ _));exact BK159.out⟩,⟨hb2_ HB.out GE159.out GE161.out⟩⟩
 ·rw [if_neg c4] at H
  have c4b0:=decide_eq_false c4;clear c4;obtain rfl:=Option.some.inj H;go_wp2
  go_ret
  exact ⟨er_, hb1_ HB.out GE159.out⟩

/-! ### offer_named: function 68 -/
mutual
def offer_named.j0 : Nat → ByteArray → Bool → Option (Bool)
 | 0, _, _ => none
 | k + 1, x0, x20 => if x20 = true then (some false) else (offer_named.l0 k x0 (x0.size : Int) 0)
def offer_named.l0 : Nat → ByteArray → Int → Int → Option (Bool)
 | 0, _, _, _ => none
 | k + 1, x0, x22, x23 => if x23 < x22 then (if 0 ≤ x23 then (if x23 < (x0.size : Int) then (if (bt x0 x23) < 65 then (if (bt x0 x23) < 48 then (some false) else (if (bt x0 x23) > 57 then (some false) else (offer_named.l0 k x0 x22 (wrap64 (x23 + 1))))) else (if (bt x0 x23) > 90 then (if (bt x0 x23) < 48 then (some false) else (if (bt x0 x23) > 57 then (some false) else (offer_named.l0 k x0 x22 (wrap64 (x23 + 1))))) else (offer_named.l0 k x0 x22 (wrap64 (x23 + 1))))) else (none)) else (none)) else (some true)
end
def offer_named.f (k : Nat) (a0 : ByteArray) : Option (Bool) := if a0.toList = ([] : List UInt8) then (offer_named.j0 k a0 true) else (if (a0.size : Int) > 8 then (offer_named.j0 k a0 true) else (if 0 < (a0.size : Int) then (if (bt a0 0) ≥ 48 then (offer_named.j0 k a0 (decide ((bt a0 0) ≤ 57))) else (offer_named.j0 k a0 false)) else (none)))
theorem offer_named.mono_l : ∀ k, (∀ y0 y1, LeO (offer_named.j0 k y0 y1) (offer_named.j0 (k + 1) y0 y1)) ∧ (∀ y0 y1 y2, LeO (offer_named.l0 k y0 y1 y2) (offer_named.l0 (k + 1) y0 y1 y2))
 | 0 => ⟨fun _ _ r h => by simp [offer_named.j0] at h, fun _ _ _ r h => by simp [offer_named.l0] at h⟩
 | k + 1 => by
  obtain ⟨ih0, ih1⟩:=offer_named.mono_l k
  refine ⟨?_, ?_⟩
  ·intro y0 y1
   unfold offer_named.j0
   repeat' first|(with_reducible first|exact ih0 _ _|exact ih1 _ _ _|exact LeO.refl _|exact LeO.none _|refine LeO.ite ?_ ?_|refine LeO.bind ?_ (fun _=>?_))|exact ih0 _ _|exact ih1 _ _ _|exact LeO.none _|refine LeO.ite ?_ ?_|refine LeO.bind ?_ (fun _=>?_)
  ·intro y0 y1 y2
   unfold offer_named.l0
   repeat' first|(with_reducible first|exact ih0 _ _|exact ih1 _ _ _|exact LeO.refl _|exact LeO.none _|refine LeO.ite ?_ ?_|refine LeO.bind ?_ (fun _=>?_))|exact ih0 _ _|exact ih1 _ _ _|exact LeO.none _|refine LeO.ite ?_ ?_|refine LeO.bind ?_ (fun _=>?_)
theorem offer_named.mono : ∀ a0 k, LeO (offer_named.f k a0) (offer_named.f (k + 1) a0) := by
 intro a0 k
 obtain ⟨ih0, ih1⟩:=offer_named.mono_l k
 unfold offer_named.f
 repeat' first|(with_reducible first|exact ih0 _ _|exact ih1 _ _ _|exact LeO.refl _|exact LeO.none _|refine LeO.ite ?_ ?_|refine LeO.bind ?_ (fun _=>?_))|exact ih0 _ _|exact ih1 _ _ _|exact LeO.none _|refine LeO.ite ?_ ?_|refine LeO.bind ?_ (fun _=>?_)
set_option maxHeartbeats 8000000 in
set_option maxRecDepth 100000 in
theorem offer_named.calls (k : Nat) (a0 : ByteArray) (r : Bool) (w : World) (h : offer_named.f k a0 = some r) :
  Calls Try.prog 68 #[.string a0] w fun e w' => e = .returned (.bool r) ∧ Drawn0 w w' := by
 have H : (if a0.toList = ([] : List UInt8) then (offer_named.j0 k a0 true) else (if (a0.size : Int) > 8 then (offer_named.j0 k a0 true) else (if 0 < (a0.size : Int) then (if (bt a0 0) ≥ 48 then (offer_named.j0 k a0 (decide ((bt a0 0) ≤ 57))) else (offer_named.j0 k a0 false)) else (none)))) = some r:=h;clear h;have HC2:=k0_ H;clear H
 go_enter Try.func68, Try.ntmps68
 go_upto_region 1 with (fail)
 go_cut [20] (fun v20 wc=>∃ (kq : Nat) (x20_1 : Bool), v20 = .bool x20_1∧Aside0 (offer_named.j0 kq a0 x20_1 = some r)∧Aside0 (kq ≤ k)∧Drawn0 w wc)
 case first =>
  have H:=HC2.out;clear HC2
  by_cases c3 : a0.toList = ([] : List UInt8)
  ·rw [if_pos c3] at H
   have c3b0:=beq_iff_eq.mpr c3;have c3b1:=bne_eq_false_iff_eq.mpr c3;clear c3;(first|rw [c3b0]|(simp only [i64_w, i32_w];rw [c3b0])|skip);have H':=k0_ H;clear H;go_wp2
   go_meet
   case rel=>exact ⟨_, (true),rs_, H', ⟨by first|omega|exact Nat.le_refl _⟩, by repeat (first|exact Drawn0.refl _|apply Drawn0.step)⟩
  ·rw [if_neg c3] at H
   have c3b0:=beq_eq_false_iff_ne.mpr c3;have c3b1:=bne_iff_ne.mpr c3;(first|rw [c3b0]|(simp only [i64_w, i32_w];rw [c3b0])|skip)
   by_cases c4 : (a0.size : Int) > 8
   ·rw [if_pos c4] at H
    have c4b0:=decide_eq_true c4;have c4b1 : decide (8 < a0.size) = true:=decide_eq_true (by omega);clear c4;have H':=k0_ H;clear H;go_wp2
    go_meet
    case rel=>exact ⟨_, (true),rs_, H', ⟨by first|omega|exact Nat.le_refl _⟩, by repeat (first|exact Drawn0.refl _|apply Drawn0.step)⟩
   ·rw [if_neg c4] at H
    have c4b0:=decide_eq_false c4;have c4b1 : decide (8 < a0.size) = false:=decide_eq_false (by omega);clear c4
    by_cases c5 : 0 < (a0.size : Int)
    rw [if_pos c5] at H;have c5b0:=decide_eq_true c5;have c5b1 : decide (0 < a0.size) = true:=decide_eq_true (by omega);clear c5
    focus
     by_cases c7 : (bt a0 0) ≥ 48
     rw [if_pos c7] at H;have c7b0:=decide_eq_true c7;clear c7;have H':=k0_ H;clear H;rotate_left;rw [if_neg c7] at H;have c7b0:=decide_eq_false c7;clear c7;have H':=k0_ H;clear H;rotate_left
    rotate_left 2;rw [if_neg c5] at H
    exact absurd H (by simp)
    all_goals
     have p6 : 0 ≤ (0 : Int):=(by omega);have q6 : 0 < a0.size:=(by have : (0 : Int) < (a0.size : Int):=of_decide_eq_true as_;omega);have hx6 : ∀ h : 0 < a0.size, ((a0[0]'h).toNat : Int) = bt a0 0:=bt_at a0 0;clear p6;have qi6 : (0 < (a0.size : Int)) = True:=eq_true (of_decide_eq_true as_);replace q6:=eq_true q6
    ·have p8 : 0 ≤ (0 : Int):=(by omega)
     have q8 : 0 < a0.size:=(by have : (0 : Int) < (a0.size : Int):=of_decide_eq_true as_;omega);have hx8 : ∀ h : 0 < a0.size, ((a0[0]'h).toNat : Int) = bt a0 0:=bt_at a0 0;clear p8;have qi8 : (0 < (a0.size : Int)) = True:=eq_true (of_decide_eq_true as_);replace q8:=eq_true q8;go_wp2
     go_meet
     case rel=>exact ⟨_, (decide ((bt a0 0) ≤ 57)),rs_, H', ⟨by first|omega|exact Nat.le_refl _⟩, by repeat (first|exact Drawn0.refl _|apply Drawn0.step)⟩
    ·go_wp2
     go_meet
     case rel=>exact ⟨_, (false),rs_, H', ⟨by first|omega|exact Nat.le_refl _⟩, by repeat (first|exact Drawn0.refl _|apply Drawn0.step)⟩
 clear HC2;(try clear p2);(try clear c3);(try clear c3b0);(try clear c3b1);(try clear c4);(try clear c4b0);(try clear c4b1);(try clear c5);(try clear c5b0);(try clear c5b1);(try clear c6);(try clear p6);(try clear q6);(try clear hx6);(try clear qi6);(try clear c7);(try clear c7b0);(try clear p8);(try clear q8);(try clear hx8);(try clear qi8);(try clear p6);(try clear p8);(try clear q6);(try clear q8);obtain ⟨kq, x20_1, rfl, HA, HJ1, ⟨mc1, rfl⟩⟩:=hcut;obtain _|kj1:=kq
 ·exact absurd HA.out (by simp [offer_named.j0])
 have H:=HA.out;clear HA;simp only [offer_named.j0] at H
 by_cases c9 : x20_1 = true
 ·subst c9
  have H1 : (some false) = some r:=by rw [if_pos rfl] at H;exact H
  clear H;have H:=H1;clear H1;obtain rfl:=Option.some.inj H;go_wp2
  go_ret
  exact ⟨by first|rfl|(simp;done)|(simp [*];done), by repeat (first|exact Drawn0.refl _|apply Drawn0.step)⟩
 ·replace c9:=Bool.eq_false_iff.mpr c9
  subst c9;have H1 : (offer_named.l0 kj1 a0 (a0.size : Int) 0) = some r:=by rw [if_neg (show ¬ (false = true) by decide)] at H;exact H
  clear H;have H:=H1;clear H1;have H':=k0_ H;clear H;go_wp2;(try simp only [Act.put, q1_,q3_,q2_])
  go_loopg [23] kj1 (fun kq v23 w'=>∃ (x23_2 : Int), v23 = .int .i64 x23_2∧Aside0 (offer_named.l0 kq a0 (a0.size : Int) x23_2 = some r)∧Aside0 (kq ≤ kj1)∧Drawn0 w w')
  case atStart=>exact ⟨(0),rs_, H', ⟨Nat.le_refl _⟩, by repeat (first|exact Drawn0.refl _|apply Drawn0.step)⟩
  clear H';(try clear c1);(try clear p2);(try clear c3);(try clear c3b0);(try clear c3b1);(try clear c4);(try clear c4b0);(try clear c4b1);(try clear c5);(try clear c5b0);(try clear c5b1);(try clear c6);(try clear p6);(try clear q6);(try clear hx6);(try clear qi6);(try clear c7);(try clear c7b0);(try clear p8);(try clear q8);(try clear hx8);(try clear qi8);(try clear c9);(try clear p2);(try clear p6);(try clear p8);(try clear q6);(try clear q8);obtain ⟨x23_2, rfl, HA, HK2, ⟨m2, rfl⟩⟩:=hrel;obtain _|k2:=gk
  ·exact absurd HA.out (by simp [offer_named.l0])
  have H:=HA.out;clear HA;simp only [offer_named.l0] at H
  by_cases c10 : x23_2 < (a0.size : Int)
  ·rw [if_pos c10] at H
   have c10b0:=decide_eq_true c10;clear c10
   by_cases c11 : 0 ≤ x23_2
   rw [if_pos c11] at H;have c11b0:=decide_eq_true c11;clear c11
   focus
    by_cases c12 : x23_2 < (a0.size : Int)
    rw [if_pos c12] at H;have c12b0:=decide_eq_true c12;clear c12
    focus
     by_cases c14 : (bt a0 x23_2) < 65
     rw [if_pos c14] at H;have c14b0:=decide_eq_true c14;clear c14
     focus
      by_cases c16 : (bt a0 x23_2) < 48
      rw [if_pos c16] at H;have c16b0:=decide_eq_true c16;clear c16;obtain rfl:=Option.some.inj H;rotate_left;rw [if_neg c16] at H;have c16b0:=decide_eq_false c16;clear c16
      focus
       by_cases c18 : (bt a0 x23_2) > 57
       rw [if_pos c18] at H;have c18b0:=decide_eq_true c18;clear c18;obtain rfl:=Option.some.inj H;rotate_left;rw [if_neg c18] at H;have c18b0:=decide_eq_false c18;clear c18;have H':=k0_ H;clear H;rotate_left
      rotate_left 2
     rotate_left 3;rw [if_neg c14] at H;have c14b0:=decide_eq_false c14;clear c14
     focus
      by_cases c20 : (bt a0 x23_2) > 90
      rw [if_pos c20] at H;have c20b0:=decide_eq_true c20;clear c20
      focus
       by_cases c22 : (bt a0 x23_2) < 48
       rw [if_pos c22] at H;have c22b0:=decide_eq_true c22;clear c22;obtain rfl:=Option.some.inj H;rotate_left;rw [if_neg c22] at H;have c22b0:=decide_eq_false c22;clear c22
       focus
        by_cases c24 : (bt a0 x23_2) > 57
        rw [if_pos c24] at H;have c24b0:=decide_eq_true c24;clear c24;obtain rfl:=Option.some.inj H;rotate_left;rw [if_neg c24] at H;have c24b0:=decide_eq_false c24;clear c24;have H':=k0_ H;clear H;rotate_left
       rotate_left 2
      rotate_left 3;rw [if_neg c20] at H;have c20b0:=decide_eq_false c20;clear c20;have H':=k0_ H;clear H;rotate_left
     rotate_left 4
    rotate_left 7;rw [if_neg c12] at H
    exact absurd H (by simp)
   rotate_left 7;rw [if_neg c11] at H
   exact absurd H (by simp)
   all_goals
    have p13 : 0 ≤ (x23_2 : Int):=of_decide_eq_true as_;have q13 : x23_2 < (a0.size : Int):=of_decide_eq_true as_;have hx13:=bt_at a0 x23_2;replace p13:=eq_true p13;replace q13:=eq_true q13;have p15 : 0 ≤ (x23_2 : Int):=of_decide_eq_true as_;have q15 : x23_2 < (a0.size : Int):=of_decide_eq_true as_;have hx15:=bt_at a0 x23_2;replace p15:=eq_true p15;replace q15:=eq_true q15
   ·go_wp2
    go_ret
    exact ⟨by first|rfl|(simp;done)|(simp [*];done), by repeat (first|exact Drawn0.refl _|apply Drawn0.step)⟩
   ·have p17 : 0 ≤ (x23_2 : Int):=of_decide_eq_true as_
    have q17 : x23_2 < (a0.size : Int):=of_decide_eq_true as_;have hx17:=bt_at a0 x23_2;replace p17:=eq_true p17;replace q17:=eq_true q17;go_wp2
    go_ret
    exact ⟨by first|rfl|(simp;done)|(simp [*];done), by repeat (first|exact Drawn0.refl _|apply Drawn0.step)⟩
   ·have p17 : 0 ≤ (x23_2 : Int):=of_decide_eq_true as_
    have q17 : x23_2 < (a0.size : Int):=of_decide_eq_true as_;have hx17:=bt_at a0 x23_2;replace p17:=eq_true p17;replace q17:=eq_true q17;go_wp2
    go_roundg k2
    case measure=>have:=HJ1.out;have:=HK2.out;omega
    case rel=>exact ⟨(wrap64 (x23_2 + 1)),rs_, H', ⟨by have:=HJ1.out;have:=HK2.out;omega⟩, by repeat (first|exact Drawn0.refl _|apply Drawn0.step)⟩
   ·have p21 : 0 ≤ (x23_2 : Int):=of_decide_eq_true as_
    have q21 : x23_2 < (a0.size : Int):=of_decide_eq_true as_;have hx21:=bt_at a0 x23_2;replace p21:=eq_true p21;replace q21:=eq_true q21;go_wp2
    go_ret
    exact ⟨by first|rfl|(simp;done)|(simp [*];done), by repeat (first|exact Drawn0.refl _|apply Drawn0.step)⟩
   ·have p21 : 0 ≤ (x23_2 : Int):=of_decide_eq_true as_
    have q21 : x23_2 < (a0.size : Int):=of_decide_eq_true as_;have hx21:=bt_at a0 x23_2;replace p21:=eq_true p21;replace q21:=eq_true q21;have p23 : 0 ≤ (x23_2 : Int):=of_decide_eq_true as_;have q23 : x23_2 < (a0.size : Int):=of_decide_eq_true as_;have hx23:=bt_at a0 x23_2;replace p23:=eq_true p23;replace q23:=eq_true q23;go_wp2
    go_ret
    exact ⟨by first|rfl|(simp;done)|(simp [*];done), by repeat (first|exact Drawn0.refl _|apply Drawn0.step)⟩
   ·have p21 : 0 ≤ (x23_2 : Int):=of_decide_eq_true as_
    have q21 : x23_2 < (a0.size : Int):=of_decide_eq_true as_;have hx21:=bt_at a0 x23_2;replace p21:=eq_true p21;replace q21:=eq_true q21;have p23 : 0 ≤ (x23_2 : Int):=of_decide_eq_true as_;have q23 : x23_2 < (a0.size : Int):=of_decide_eq_true as_;have hx23:=bt_at a0 x23_2;replace p23:=eq_true p23;replace q23:=eq_true q23;go_wp2
    go_roundg k2
    case measure=>have:=HJ1.out;have:=HK2.out;omega
    case rel=>exact ⟨(wrap64 (x23_2 + 1)),rs_, H', ⟨by have:=HJ1.out;have:=HK2.out;omega⟩, by repeat (first|exact Drawn0.refl _|apply Drawn0.step)⟩
   ·go_wp2
    go_roundg k2
    case measure=>have:=HJ1.out;have:=HK2.out;omega
    case rel=>exact ⟨(wrap64 (x23_2 + 1)),rs_, H', ⟨by have:=HJ1.out;have:=HK2.out;omega⟩, by repeat (first|exact Drawn0.refl _|apply Drawn0.step)⟩
  ·rw [if_neg c10] at H
   have c10b0:=decide_eq_false c10;clear c10;obtain rfl:=Option.some.inj H;go_wp2
   go_ret
   exact ⟨by first|rfl|(simp;done)|(simp [*];done), by repeat (first|exact Drawn0.refl _|apply Drawn0.step)⟩

end Go.Proofs.Ytekpnmeikibioaa.PHoursChanges
