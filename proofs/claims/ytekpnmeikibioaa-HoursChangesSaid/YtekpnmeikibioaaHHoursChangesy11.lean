/- Contracts of functions that HoursChanges reaches, a text of this session's own. -/
import Derived.Test.YtekpnmeikibioaaBox2
import Derived.Test.YtekpnmeikibioaaHHoursChangesy0
import Derived.Test.YtekpnmeikibioaaHHoursChangesy1
namespace Go.Proofs.Ytekpnmeikibioaa.PHoursChanges
open Go.RowKit Go.Proofs.YtekpnmeikibioaaW.PrintWords Go.Proofs.YtekpnmeikibioaaW.PrintLast Go.Proofs.YtekpnmeikibioaaW.PrintMore
attribute [local go_sem] max2_int min2_int max_two min_two max_three min_three max_four min_four   -- for this text's walks alone
set_option linter.unusedVariables false
set_option linter.unusedSimpArgs false

/-! ### gridhalllaw3_HoursChanges_1: function 33 -/
def gridhalllaw3_HoursChanges_1.l0 : Nat → List Int → Int → Bool → List (S29) → Int → Int → List (List Int) → List Int → Option (Int × Bool)
 | 0, _, _, _, _, _, _, _, _ => none
 | k + 1, x0, x8, x9, x14, x15, x16, x630, x640 => if x16 < x15 then (if 0 ≤ x16 then (if x16 < (x14.length : Int) then (if x16 < (x0.length : Int) then ((gridhallref3_Cost.f k ((rd_T29 x14 x16).f0) ((rd_T29 x14 x16).f1) (rd x0 x16)).bind fun t233 => (if x9 = true then (if 0 < (x630.length : Int) then (if x16 < ((rd_L2 x630 0).length : Int) then (if 0 < (x640.length : Int) then ((gridhallref3_In.f (wrap64 ((rd x0 x16) - (rd (rd_L2 x630 0) x16))) (wrap64 (-(rd x640 0))) (rd x640 0)).bind fun t239 => (gridhalllaw3_HoursChanges_1.l0 k x0 (wrap64 (x8 + t233)) t239 x14 x15 (wrap64 (x16 + 1)) x630 x640)) else (none)) else (none)) else (none)) else (gridhalllaw3_HoursChanges_1.l0 k x0 (wrap64 (x8 + t233)) false x14 x15 (wrap64 (x16 + 1)) x630 x640))) else (none)) else (none)) else (none)) else (some (x8, x9))
def gridhalllaw3_HoursChanges_1.f (k : Nat) (l0 : List Int) (l1 : List Int) (l2 : List (List (S29))) (l3 : List (List Int)) (l4 : List Int) : Option (Int × Bool) := if 0 < (l1.length : Int) then (if 0 < (l2.length : Int) then (gridhalllaw3_HoursChanges_1.l0 k l0 (wrap64 (-(rd l1 0))) true (rd_L7 l2 0) ((rd_L7 l2 0).length : Int) 0 l3 l4) else (none)) else (none)
theorem gridhalllaw3_HoursChanges_1.mono_l : ∀ k, (∀ y0 y1 y2 y3 y4 y5 y6 y7, LeO (gridhalllaw3_HoursChanges_1.l0 k y0 y1 y2 y3 y4 y5 y6 y7) (gridhalllaw3_HoursChanges_1.l0 (k + 1) y0 y1 y2 y3 y4 y5 y6 y7))
 | 0 => fun _ _ _ _ _ _ _ _ r h => by simp [gridhalllaw3_HoursChanges_1.l0] at h
 | k + 1 => by
  have ih0:=gridhalllaw3_HoursChanges_1.mono_l k
  ·intro y0 y1 y2 y3 y4 y5 y6 y7
   unfold gridhalllaw3_HoursChanges_1.l0
   repeat' first|(with_reducible first|exact ih0 _ _ _ _ _ _ _ _|exact gridhallref3_Cost.mono _ _ _ _|exact LeO.refl _|exact LeO.none _|refine LeO.ite ?_ ?_|refine LeO.bind ?_ (fun _=>?_))|exact ih0 _ _ _ _ _ _ _ _|exact gridhallref3_Cost.mono _ _ _ _|exact LeO.none _|refine LeO.ite ?_ ?_|refine LeO.bind ?_ (fun _=>?_)
theorem gridhalllaw3_HoursChanges_1.mono : ∀ a0 a1 a2 a3 a4 k, LeO (gridhalllaw3_HoursChanges_1.f k a0 a1 a2 a3 a4) (gridhalllaw3_HoursChanges_1.f (k + 1) a0 a1 a2 a3 a4) := by
 intro a0 a1 a2 a3 a4 k
 have ih0:=gridhalllaw3_HoursChanges_1.mono_l k
 unfold gridhalllaw3_HoursChanges_1.f
 repeat' first|(with_reducible first|exact ih0 _ _ _ _ _ _ _ _|exact gridhallref3_Cost.mono _ _ _ _|exact LeO.refl _|exact LeO.none _|refine LeO.ite ?_ ?_|refine LeO.bind ?_ (fun _=>?_))|exact ih0 _ _ _ _ _ _ _ _|exact gridhallref3_Cost.mono _ _ _ _|exact LeO.none _|refine LeO.ite ?_ ?_|refine LeO.bind ?_ (fun _=>?_)
def gridhalllaw3_HoursChanges_1.T5 : Bool × List (List Nat × List Nat) := (true, [([], []), ([], []), ([], []), ([], []), ([2, 3], [2, 3]), ([4], [4]), ([1, 5], [1, 5]), ([0, 6], [0, 6]), ([], []), ([8, 6], [8]), ([9], [9]), ([9], [9]), ([10, 11, 9], [9, 10, 11]), ([12, 9], [9, 12]), ([9], [9]), ([9], [9]), ([14, 15, 9], [9, 14, 15]), ([16, 9], [9, 16]), ([13, 17, 9], [9, 13, 17]), ([9], [9]), ([19, 9], [9, 19]), ([9], [9]), ([18, 20, 21, 9, 9], [9, 18, 20, 21]), ([9, 22], [9, 22]), ([7, 22, 0, 1, 2, 3, 4, 5, 6, 7], [0, 7]), ([23, 24, 0, 1, 2, 3, 4, 5, 6, 7, 8, 9, 10, 11, 12, 13, 14, 15, 16, 17, 18, 19, 20, 21, 22, 23, 24], [8, 23])])
def gridhalllaw3_HoursChanges_1.B5 : List Nat := [0, 0, 0, 0, 12, 28, 62, 127, 0, 382, 894, 894, 3966, 8062, 894, 894, 50046, 115582, 262014, 894, 525182, 894, 4194174, 8388478, 8388607, 33554431]
theorem gridhalllaw3_HoursChanges_1.tab5 : rtab .any (opsOf Try.f33 5) = gridhalllaw3_HoursChanges_1.T5 := by kernel_rfl
theorem gridhalllaw3_HoursChanges_1.bits5 : waitsOk gridhalllaw3_HoursChanges_1.T5.2 gridhalllaw3_HoursChanges_1.B5 = true := by kernel_rfl
set_option maxHeartbeats 8000000 in
set_option maxRecDepth 100000 in
theorem gridhalllaw3_HoursChanges_1.calls (k : Nat) (A0 : Option Addr) (c0 : Nat) (l0 : List Int) (A1 : Option Addr) (l1 : List Int) (A2 : Option Addr) (l2 : List (List (S29))) (A3 : Option Addr) (l3 : List (List Int)) (A4 : Option Addr) (l4 : List Int) (r1 : Int) (r2 : Bool) (w : World) (hr0 : Kd.C (Kd.int .i64) w A0 l0.length l0) (hc0 : l0.length ≤ c0) (hr1 : Kd.C (Kd.int .i64) w A1 l1.length l1) (hr2 : Kd.C (Kd.slice 29 k29) w A2 l2.length l2) (hr3 : Kd.C (Kd.slice 3 (Kd.int .i64)) w A3 l3.length l3) (hr4 : Kd.C (Kd.int .i64) w A4 l4.length l4) (h : gridhalllaw3_HoursChanges_1.f k l0 l1 l2 l3 l4 = some (r1, r2)) :
  Calls Try.prog 33 #[.slice A0 l0.length c0, .pointer A1, .pointer A2, .pointer A3, .pointer A4] w fun e w' => e = .returned (.tuple #[.int .i64 r1, .bool r2]) ∧ Below w.heap.size w w' := by
 have hu29:=Try.underlying29;have HR0:=k0_ hr0;have HC0:=k0_ hc0;clear hr0 hc0;have HR1:=k0_ hr1;clear hr1;have HR2:=k0_ hr2;clear hr2;have HR3:=k0_ hr3;clear hr3;have HR4:=k0_ hr4;clear hr4;have HB:=k0_ (Below.refl w.heap.size w);have H : (if 0 < (l1.length : Int) then (if 0 < (l2.length : Int) then (gridhalllaw3_HoursChanges_1.l0 k l0 (wrap64 (-(rd l1 0))) true (rd_L7 l2 0) ((rd_L7 l2 0).length : Int) 0 l3 l4) else (none)) else (none)) = some (r1, r2):=h;clear h
 by_cases c6 : 0 < (l1.length : Int)
 ·rw [if_pos c6] at H
  have c6b0:=decide_eq_true c6;have c6b1 : decide (0 < l1.length) = true:=decide_eq_true (by omega);clear c6
  obtain ⟨c7,H⟩:=gi_ H;have c7b0:=decide_eq_true c7;have c7b1 : decide (0 < l2.length) = true:=decide_eq_true (by omega);clear c7;have H':=k0_ H;clear H;have p228 : 0 ≤ (0 : Int):=(by omega);have q228 : 0 < (l1.length : Int):=of_decide_eq_true as_;obtain ⟨ad228, e228, hx228_0⟩:=Kd.at_int HR1.out 0 p228 q228;cases e228;have qi228 : (0 < l1.length) = True:=eq_true (by omega);(try rw [show ((0 : Int)).toNat = 0 from rfl] at hx228_0);(try rw [Addr.add_zero'] at hx228_0);replace p228:=eq_true p228;replace q228:=eq_true q228;have p229 : 0 ≤ (0 : Int):=(by omega);have q229 : 0 < (l2.length : Int):=of_decide_eq_true as_;obtain ⟨ad229, A229_0, c229_0, e229, hx229_0, hl229_0, hi229_0⟩:=at_L7 HR2.out 0 p229 q229;cases e229;have qi229 : (0 < l2.length) = True:=eq_true (by omega);(try rw [show ((0 : Int)).toNat = 0 from rfl] at hx229_0);(try rw [Addr.add_zero'] at hx229_0);have HR229_0:=k0_ hi229_0;have HC229_0:=k0_ hl229_0;clear hi229_0 hl229_0;replace p229:=eq_true p229;replace q229:=eq_true q229
  go_enter Try.func33, Try.ntmps33
  go_wp2;(try simp only [Act.put, q1_,q3_,q2_])
  go_loopg [8, 9, 16] k (fun kq v8 v9 v16 w'=>∃ (x8_1 : Int) (x9_1 : Bool) (x16_1 : Int), v8 = .int .i64 x8_1∧v9 = .bool x9_1∧v16 = .int .i64 x16_1∧Aside0 (gridhalllaw3_HoursChanges_1.l0 kq l0 x8_1 x9_1 (rd_L7 l2 0) ((rd_L7 l2 0).length : Int) x16_1 l3 l4 = some (r1, r2))∧Aside0 (kq ≤ k)∧Aside0 (Below w.heap.size w w'))
  case atStart=>exact ⟨(wrap64 (-(rd l1 0))),(true),(0),rs_,rs_,rs_, H', ⟨Nat.le_refl _⟩,⟨hb0_ HB.out⟩⟩
  clear H';(try clear c2);(try clear p2);(try clear q2);(try clear hx2);(try clear qi2);(try clear c3);(try clear c6);(try clear c6b0);(try clear c6b1);(try clear p6);(try clear c7);(try clear c7b0);(try clear c7b1);(try clear hx228_0);(try clear hx229_0);(try clear p228);(try clear p229);(try clear q228);(try clear q229);obtain ⟨x8_1, x9_1, x16_1, rfl, rfl, rfl, HA, HK1, HB⟩:=hrel;obtain _|k1:=gk
  ·exact absurd HA.out (by simp [gridhalllaw3_HoursChanges_1.l0])
  have H:=HA.out;clear HA;simp only [gridhalllaw3_HoursChanges_1.l0] at H
  by_cases c8 : x16_1 < ((rd_L7 l2 0).length : Int)
  ·rw [if_pos c8] at H
   have c8b0:=decide_eq_true c8;clear c8
   by_cases c9 : 0 ≤ x16_1
   rw [if_pos c9] at H;have c9b0:=decide_eq_true c9;clear c9
   focus
    by_cases c10 : x16_1 < ((rd_L7 l2 0).length : Int)
    rw [if_pos c10] at H;have c10b0:=decide_eq_true c10;clear c10
    focus
     by_cases c11 : x16_1 < (l0.length : Int)
     rw [if_pos c11] at H;have c11b0:=decide_eq_true c11;clear c11;replace H:=Option.bind_eq_some_iff.mp H;obtain ⟨t233, A120, H⟩:=H;replace H : (if x9_1 = true then (if 0 < (l3.length : Int) then (if x16_1 < ((rd_L2 l3 0).length : Int) then (if 0 < (l4.length : Int) then ((gridhallref3_In.f (wrap64 ((rd l0 x16_1) - (rd (rd_L2 l3 0) x16_1))) (wrap64 (-(rd l4 0))) (rd l4 0)).bind fun t239=>(gridhalllaw3_HoursChanges_1.l0 k1 l0 (wrap64 (x8_1 + t233)) t239 (rd_L7 l2 0) ((rd_L7 l2 0).length : Int) (wrap64 (x16_1 + 1)) l3 l4)) else (none)) else (none)) else (none)) else (gridhalllaw3_HoursChanges_1.l0 k1 l0 (wrap64 (x8_1 + t233)) false (rd_L7 l2 0) ((rd_L7 l2 0).length : Int) (wrap64 (x16_1 + 1)) l3 l4)) = some (r1, r2):=H;have A12:=k0_ A120;clear A120
     focus
      by_cases c13 : x9_1 = true
      subst c13;have H1 : (if 0 < (l3.length : Int) then (if x16_1 < ((rd_L2 l3 0).length : Int) then (if 0 < (l4.length : Int) then ((gridhallref3_In.f (wrap64 ((rd l0 x16_1) - (rd (rd_L2 l3 0) x16_1))) (wrap64 (-(rd l4 0))) (rd l4 0)).bind fun t239=>(gridhalllaw3_HoursChanges_1.l0 k1 l0 (wrap64 (x8_1 + t233)) t239 (rd_L7 l2 0) ((rd_L7 l2 0).length : Int) (wrap64 (x16_1 + 1)) l3 l4)) else (none)) else (none)) else (none)) = some (r1, r2):=by rw [if_pos rfl] at H;exact H
      clear H;have H:=H1;clear H1
      focus
       by_cases c14 : 0 < (l3.length : Int)
       rw [if_pos c14] at H;have c14b0:=decide_eq_true c14;have c14b1 : decide (0 < l3.length) = true:=decide_eq_true (by omega);clear c14
       focus
        by_cases c15 : x16_1 < ((rd_L2 l3 0).length : Int)
        rw [if_pos c15] at H;have c15b0:=decide_eq_true c15;clear c15
        focus
         by_cases c16 : 0 < (l4.length : Int)
         rw [if_pos c16] at H;have c16b0:=decide_eq_true c16;have c16b1 : decide (0 < l4.length) = true:=decide_eq_true (by omega);clear c16;replace H:=Option.bind_eq_some_iff.mp H;obtain ⟨t239, A170, H⟩:=H;replace H : (gridhalllaw3_HoursChanges_1.l0 k1 l0 (wrap64 (x8_1 + t233)) t239 (rd_L7 l2 0) ((rd_L7 l2 0).length : Int) (wrap64 (x16_1 + 1)) l3 l4) = some (r1, r2):=H;have A17:=k0_ A170;clear A170;have H':=k0_ H;clear H;rotate_left;rw [if_neg c16] at H
         exact absurd H (by simp)
        rotate_left;rw [if_neg c15] at H
        exact absurd H (by simp)
       rotate_left;rw [if_neg c14] at H
       exact absurd H (by simp)
      rotate_left;replace c13:=Bool.eq_false_iff.mpr c13;subst c13;have H1 : (gridhalllaw3_HoursChanges_1.l0 k1 l0 (wrap64 (x8_1 + t233)) false (rd_L7 l2 0) ((rd_L7 l2 0).length : Int) (wrap64 (x16_1 + 1)) l3 l4) = some (r1, r2):=by rw [if_neg (show ¬ (false = true) by decide)] at H;exact H
      clear H;have H:=H1;clear H1;have H':=k0_ H;clear H;rotate_left
     rotate_left 2;rw [if_neg c11] at H
     exact absurd H (by simp)
    rotate_left 2;rw [if_neg c10] at H
    exact absurd H (by simp)
   rotate_left 2;rw [if_neg c9] at H
   exact absurd H (by simp)
   all_goals
    have p230 : 0 ≤ (x16_1 : Int):=of_decide_eq_true as_;have q230 : x16_1 < ((rd_L7 l2 0).length : Int):=of_decide_eq_true as_;obtain ⟨ad230, A230_1, c230_1, e230, hx230_0, hx230_1, hl230_1, hi230_1⟩:=at_T29 HR229_0.out x16_1 p230 q230;cases e230;replace hx230_0:=bt_ HB.out hx230_0;replace hx230_1:=bt_ HB.out hx230_1;have HR230_1:=k0_ hi230_1;have HC230_1:=k0_ hl230_1;clear hi230_1 hl230_1;replace p230:=eq_true p230;replace q230:=eq_true q230
    try go_wp2_with (first|((with_reducible refine gate_dst (N:=11) rfl ?_);refine box_event ?hg (N:=11) ?hd (cs:=#[.string (⟨#[]⟩ : ByteArray), .slice none 0 0]) (t:=29) ?hr ?_;(case hd=>rfl);(case hg=>rfl);(case hr=>first|(go_simp;done)|(go_simp;rfl));intro gb231 hg w18 hbox hb;have BK231:=k0_ (hbox);have GW231:=k0_ ((by rw [hg];exact (below_size (hb0_ HB.out)) : w.heap.size ≤ gb231));have GE231:=k0_ ((by rw [hg];exact (below_size (hb0_ HB.out)) : w.heap.size ≤ gb231));replace HB:=k0_ (below_step (hb0_ HB.out) hb);clear hb hbox hg;obtain ⟨hcz19_0,hcz19_1⟩:=bc2_ BK231.out;obtain ⟨hfz19_0,hfz19_1⟩:=bf2_ BK231.out))
    have n0_ : Aside0 (((w18.setCell ⟨gb231, 0, none⟩ (.string ((rd_T29 (rd_L7 l2 0) x16_1).f0))).setCell ⟨gb231, 1, none⟩ (.slice A230_1 ((rd_T29 (rd_L7 l2 0) x16_1).f1).length c230_1)).heap[gb231]? = some (.cells #[.string ((rd_T29 (rd_L7 l2 0) x16_1).f0), .slice A230_1 ((rd_T29 (rd_L7 l2 0) x16_1).f1).length c230_1] 29 (0, 0))):=⟨by (with_reducible repeat (first|refine blk_drewN ?_ _|refine blk_drew ?_|refine blk_alloc ?_ _));refine blk_put (cs:=#[.string ((rd_T29 (rd_L7 l2 0) x16_1).f0), .slice none 0 0]) ?_ 1 _ rfl;(with_reducible repeat (first|refine blk_drewN ?_ _|refine blk_drew ?_|refine blk_alloc ?_ _));refine blk_put (cs:=#[.string (⟨#[]⟩ : ByteArray), .slice none 0 0]) ?_ 0 _ rfl;(with_reducible repeat (first|refine blk_drewN ?_ _|refine blk_drew ?_|refine blk_alloc ?_ _));exact BK231.out⟩;have n1_ : Aside0 (Below w.heap.size w ((w18.setCell ⟨gb231, 0, none⟩ (.string ((rd_T29 (rd_L7 l2 0) x16_1).f0))).setCell ⟨gb231, 1, none⟩ (.slice A230_1 ((rd_T29 (rd_L7 l2 0) x16_1).f1).length c230_1))):=⟨hb1_ HB.out GE231.out⟩;(try clear BK231);(try clear HB);generalize ((w18.setCell ⟨gb231, 0, none⟩ (.string ((rd_T29 (rd_L7 l2 0) x16_1).f0))).setCell ⟨gb231, 1, none⟩ (.slice A230_1 ((rd_T29 (rd_L7 l2 0) x16_1).f1).length c230_1)) = w20 at n0_ n1_ ⊢;have BK231:=n0_;have HB:=n1_;clear n0_ n1_;replace BK231:=k0_ (blk_drew BK231.out);replace HB:=k0_ (below_drew1 HB.out);have p232 : 0 ≤ (x16_1 : Int):=of_decide_eq_true as_;have q232 : x16_1 < (l0.length : Int):=of_decide_eq_true as_;obtain ⟨ad232, e232, hx232_0⟩:=Kd.at_int HR0.out x16_1 p232 q232;have hw232_0:=hx232_0;cases e232;replace hx232_0:=bt_ HB.out hx232_0;replace p232:=eq_true p232;replace q232:=eq_true q232
   ·have p234 : 0 ≤ (x16_1 : Int):=of_decide_eq_true as_
    have q234 : x16_1 < (l0.length : Int):=of_decide_eq_true as_;obtain ⟨ad234, e234, hx234_0⟩:=Kd.at_int HR0.out x16_1 p234 q234;have hw234_0:=hx234_0;obtain rfl : ad232 = ad234:=(by injection e234);replace hx234_0:=bt_ HB.out hx234_0;replace p234:=eq_true p234;replace q234:=eq_true q234;have p235 : 0 ≤ (0 : Int):=(by omega);have q235 : 0 < (l3.length : Int):=of_decide_eq_true as_;obtain ⟨ad235, A235_0, c235_0, e235, hx235_0, hl235_0, hi235_0⟩:=at_L2 HR3.out 0 p235 q235;have hw235_0:=hx235_0;(try rw [show ((0 : Int)).toNat = 0 from rfl] at hw235_0);(try rw [show 0 * 1 = 0 from rfl] at hw235_0);(try rw [Addr.add_zero'] at hw235_0);cases e235;have qi235 : (0 < l3.length) = True:=eq_true (by omega);(try rw [show ((0 : Int)).toNat = 0 from rfl] at hx235_0);(try rw [Addr.add_zero'] at hx235_0);replace hx235_0:=bt_ HB.out hx235_0;have HR235_0:=k0_ hi235_0;have HC235_0:=k0_ hl235_0;clear hi235_0 hl235_0;replace p235:=eq_true p235;replace q235:=eq_true q235;have p236 : 0 ≤ (x16_1 : Int):=of_decide_eq_true as_;have q236 : x16_1 < ((rd_L2 l3 0).length : Int):=of_decide_eq_true as_;obtain ⟨ad236, e236, hx236_0⟩:=Kd.at_int HR235_0.out x16_1 p236 q236;have hw236_0:=hx236_0;cases e236;replace hx236_0:=bt_ HB.out hx236_0;replace p236:=eq_true p236;replace q236:=eq_true q236;have p237 : 0 ≤ (0 : Int):=(by omega);have q237 : 0 < (l4.length : Int):=of_decide_eq_true as_;obtain ⟨ad237, e237, hx237_0⟩:=Kd.at_int HR4.out 0 p237 q237;have hw237_0:=hx237_0;(try rw [show ((0 : Int)).toNat = 0 from rfl] at hw237_0);(try rw [show 0 * 1 = 0 from rfl] at hw237_0);(try rw [Addr.add_zero'] at hw237_0);cases e237;have qi237 : (0 < l4.length) = True:=eq_true (by omega);(try rw [show ((0 : Int)).toNat = 0 from rfl] at hx237_0);(try rw [Addr.add_zero'] at hx237_0);replace hx237_0:=bt_ HB.out hx237_0;replace p237:=eq_true p237;replace q237:=eq_true q237;have p238 : 0 ≤ (0 : Int):=(by omega);have q238 : 0 < (l4.length : Int):=of_decide_eq_true as_;obtain ⟨ad238, e238, hx238_0⟩:=Kd.at_int HR4.out 0 p238 q238;have hw238_0:=hx238_0;(try rw [show ((0 : Int)).toNat = 0 from rfl] at hw238_0);(try rw [show 0 * 1 = 0 from rfl] at hw238_0);(try rw [Addr.add_zero'] at hw238_0);obtain rfl : ad237 = ad238:=(by injection e238);have qi238 : (0 < l4.length) = True:=eq_true (by omega);(try rw [show ((0 : Int)).toNat = 0 from rfl] at hx238_0);(try rw [Addr.add_zero'] at hx238_0);replace hx238_0:=bt_ HB.out hx238_0;replace p238:=eq_true p238;replace q238:=eq_true q238;refine start_ (n:=26) (S:=fun w'=>w'.cell? ⟨gb231, 0, none⟩ = some (.string ((rd_T29 (rd_L7 l2 0) x16_1).f0))∧w'.cell? ⟨gb231, 1, none⟩ = some (.slice A230_1 ((rd_T29 (rd_L7 l2 0) x16_1).f1).length c230_1)∧w'.cell? (ad232.add (x16_1).toNat) = some (.int .i64 (rd l0 x16_1))∧w'.cell? (ad232.add (x16_1).toNat) = some (.int .i64 (rd l0 x16_1))∧w'.cell? ad235 = some (.slice (some ad236) (rd_L2 l3 0).length c235_0)∧w'.cell? (ad236.add (x16_1).toNat) = some (.int .i64 (rd (rd_L2 l3 0) x16_1))∧w'.cell? ad237 = some (.int .i64 (rd l4 0))∧w'.cell? ad237 = some (.int .i64 (rd l4 0))) (ds:=[]) (mb_ 26 0) (by kernel_rfl) rfl rfl ⟨(blk_cell BK231.out 0).trans rfl, (blk_cell BK231.out 1).trans rfl, ((HB.out.cell (World.block_lt_of_cell? w _ hw232_0)).trans hw232_0),((HB.out.cell (World.block_lt_of_cell? w _ hw234_0)).trans hw234_0),((HB.out.cell (World.block_lt_of_cell? w _ hw235_0)).trans hw235_0),((HB.out.cell (World.block_lt_of_cell? w _ hw236_0)).trans hw236_0),((HB.out.cell (World.block_lt_of_cell? w _ hw237_0)).trans hw237_0),((HB.out.cell (World.block_lt_of_cell? w _ hw238_0)).trans hw238_0)⟩ (fun hHeld=>?_);refine with_tabW gridhalllaw3_HoursChanges_1.tab5 gridhalllaw3_HoursChanges_1.bits5 (fun HT_ HW_=>?_);generalize w20.drew = w21 at BK231 HB HR235_0 hx232_0 hx234_0 hx235_0 hx236_0 hx237_0 hx238_0 hHeld ⊢;refine pu_ 0 21 HT_.out (h:=?_);refine pu_ 2 23 HT_.out (h:=?_);refine pu_ 3 24 HT_.out (h:=?_);refine pu_ 4 25 HT_.out (h:=?_);refine pu_ 8 29 HT_.out (h:=?_);refine tk_ 1 22 HT_.out HW_.out hHeld (h:=?_);refine tk_ 5 26 HT_.out HW_.out hHeld (h:=?_);refine on_ 6 (some 27) HT_.out (h:=fun K hK=>?_);refine goes_ Try.func19 (by kernel_rfl) rfl #[.agg #[.string ((rd_T29 (rd_L7 l2 0) x16_1).f0), .slice A230_1 ((rd_T29 (rd_L7 l2 0) x16_1).f1).length c230_1], .int .i64 (rd l0 x16_1)] (by rfl) rfl rfl mt_ ?_
    with_reducible refine (gridhallref3_Cost.calls k1 ((rd_T29 (rd_L7 l2 0) x16_1).f0) _ _ ((rd_T29 (rd_L7 l2 0) x16_1).f1) (rd l0 x16_1) t233 _ ?side1 ?side2 A12.out).mono ?_
    (case side1=>repeat (first|exact (Kd.C_below HR230_1.out HB.out)|(with_reducible refine Kd.C_alloc ?_ _)|(with_reducible refine Kd.C_drewN ?_ _)|(with_reducible refine Kd.C_drew ?_)))
    (case side2=>exact HC230_1.out)
    rintro e w22 ⟨rfl, hb⟩;refine ⟨_, rfl, ?_⟩;replace BK231:=k0_ (blk_below (g:=gb231) (o:=.cells #[.string ((rd_T29 (rd_L7 l2 0) x16_1).f0), .slice A230_1 ((rd_T29 (rd_L7 l2 0) x16_1).f1).length c230_1] 29 (0, 0)) (bq_ BK231.out) hb);replace HB:=k0_ (below_step (hb1_ HB.out GE231.out) hb);(try clear hb);(try clear hb2);(try clear hk);(try clear hi);refine hK.out _ _ ⟨(blk_cell BK231.out 0).trans rfl, (blk_cell BK231.out 1).trans rfl, ((HB.out.cell (World.block_lt_of_cell? w _ hw232_0)).trans hw232_0),((HB.out.cell (World.block_lt_of_cell? w _ hw234_0)).trans hw234_0),((HB.out.cell (World.block_lt_of_cell? w _ hw235_0)).trans hw235_0),((HB.out.cell (World.block_lt_of_cell? w _ hw236_0)).trans hw236_0),((HB.out.cell (World.block_lt_of_cell? w _ hw237_0)).trans hw237_0),((HB.out.cell (World.block_lt_of_cell? w _ hw238_0)).trans hw238_0)⟩ (fun hHeld=>?_);clear hK K;refine norm_ (a':=?_) ?_ ?_;rotate_left
    ·show Act.put _ (some 27) _ = _
     simp only [Act.put, q1_,q2_,q3_,i64_w,i32_w];rfl
    refine pu_ 7 28 HT_.out (h:=?_);refine pu_ 9 30 HT_.out (h:=?_);refine pu_ 10 31 HT_.out (h:=?_);refine pu_ 11 32 HT_.out (h:=?_);refine pu_ 12 33 HT_.out (h:=?_);refine pu_ 15 36 HT_.out (h:=?_);refine tk_ 13 34 HT_.out HW_.out hHeld (h:=?_);refine tk_ 14 35 HT_.out HW_.out hHeld (h:=?_);refine pu_ 16 37 HT_.out (h:=?_);refine tk_ 17 38 HT_.out HW_.out hHeld (h:=?_);refine pu_ 18 39 HT_.out (h:=?_);refine tk_ 19 40 HT_.out HW_.out hHeld (h:=?_);refine pu_ 20 41 HT_.out (h:=?_);refine tk_ 21 42 HT_.out HW_.out hHeld (h:=?_);refine on_ 22 (some 43) HT_.out (h:=fun K hK=>?_);refine goes_ Try.func16 (by kernel_rfl) rfl #[.int .i64 (wrap64 ((rd l0 x16_1) - (rd (rd_L2 l3 0) x16_1))), .int .i64 (wrap64 (-(rd l4 0))), .int .i64 (rd l4 0)] (by rfl) rfl rfl mt_ ?_
    with_reducible refine (gridhallref3_In.calls (wrap64 ((rd l0 x16_1) - (rd (rd_L2 l3 0) x16_1))) (wrap64 (-(rd l4 0))) (rd l4 0) t239 _ A17.out).mono ?_
    rintro e w' ⟨rfl, ⟨nd, rfl⟩⟩;refine ⟨_, rfl, ?_⟩;refine hK.out _ _ ⟨(blk_cell BK231.out 0).trans rfl, (blk_cell BK231.out 1).trans rfl, ((HB.out.cell (World.block_lt_of_cell? w _ hw232_0)).trans hw232_0),((HB.out.cell (World.block_lt_of_cell? w _ hw234_0)).trans hw234_0),((HB.out.cell (World.block_lt_of_cell? w _ hw235_0)).trans hw235_0),((HB.out.cell (World.block_lt_of_cell? w _ hw236_0)).trans hw236_0),((HB.out.cell (World.block_lt_of_cell? w _ hw237_0)).trans hw237_0),((HB.out.cell (World.block_lt_of_cell? w _ hw238_0)).trans hw238_0)⟩ (fun hHeld=>?_);clear hK K;refine norm_ (a':=?_) ?_ ?_;rotate_left
    ·show Act.put _ (some 43) _ = _
     simp only [Act.put, q1_,q2_,q3_,i64_w,i32_w];rfl
    refine pu_ 23 44 HT_.out (h:=?_);refine pu_ 24 8 HT_.out (h:=?_);refine pu_ 25 9 HT_.out (h:=?_);refine done_ (done_of HT_.out (by kernel_rfl)) ?_
    try go_wp2
    go_roundg k1
    case measure=>have:=HK1.out;omega
    case rel=>exact ⟨(wrap64 (x8_1 + t233)),(t239),(wrap64 (x16_1 + 1)),rs_,rs_,rs_, H', ⟨by have:=HK1.out;omega⟩,⟨hb1_ HB.out GE231.out⟩⟩
   ·refine start_ (n:=26) (S:=fun w'=>w'.cell? ⟨gb231, 0, none⟩ = some (.string ((rd_T29 (rd_L7 l2 0) x16_1).f0))∧w'.cell? ⟨gb231, 1, none⟩ = some (.slice A230_1 ((rd_T29 (rd_L7 l2 0) x16_1).f1).length c230_1)∧w'.cell? (ad232.add (x16_1).toNat) = some (.int .i64 (rd l0 x16_1))) (ds:=[]) (mb_ 26 0) (by kernel_rfl) rfl rfl ⟨(blk_cell BK231.out 0).trans rfl, (blk_cell BK231.out 1).trans rfl, ((HB.out.cell (World.block_lt_of_cell? w _ hw232_0)).trans hw232_0)⟩ (fun hHeld=>?_);refine with_tabW gridhalllaw3_HoursChanges_1.tab5 gridhalllaw3_HoursChanges_1.bits5 (fun HT_ HW_=>?_)
    generalize w20.drew = w26 at BK231 HB hx232_0 hHeld ⊢;refine pu_ 0 21 HT_.out (h:=?_);refine pu_ 2 23 HT_.out (h:=?_);refine pu_ 3 24 HT_.out (h:=?_);refine pu_ 4 25 HT_.out (h:=?_);refine pu_ 8 29 HT_.out (h:=?_);refine tk_ 1 22 HT_.out HW_.out hHeld (h:=?_);refine tk_ 5 26 HT_.out HW_.out hHeld (h:=?_);refine on_ 6 (some 27) HT_.out (h:=fun K hK=>?_);refine goes_ Try.func19 (by kernel_rfl) rfl #[.agg #[.string ((rd_T29 (rd_L7 l2 0) x16_1).f0), .slice A230_1 ((rd_T29 (rd_L7 l2 0) x16_1).f1).length c230_1], .int .i64 (rd l0 x16_1)] (by rfl) rfl rfl mt_ ?_
    with_reducible refine (gridhallref3_Cost.calls k1 ((rd_T29 (rd_L7 l2 0) x16_1).f0) _ _ ((rd_T29 (rd_L7 l2 0) x16_1).f1) (rd l0 x16_1) t233 _ ?side1 ?side2 A12.out).mono ?_
    (case side1=>repeat (first|exact (Kd.C_below HR230_1.out HB.out)|(with_reducible refine Kd.C_alloc ?_ _)|(with_reducible refine Kd.C_drewN ?_ _)|(with_reducible refine Kd.C_drew ?_)))
    (case side2=>exact HC230_1.out)
    rintro e w27 ⟨rfl, hb⟩;refine ⟨_, rfl, ?_⟩;replace BK231:=k0_ (blk_below (g:=gb231) (o:=.cells #[.string ((rd_T29 (rd_L7 l2 0) x16_1).f0), .slice A230_1 ((rd_T29 (rd_L7 l2 0) x16_1).f1).length c230_1] 29 (0, 0)) (bq_ BK231.out) hb);replace HB:=k0_ (below_step (hb1_ HB.out GE231.out) hb);(try clear hb);(try clear hb2);(try clear hk);(try clear hi);refine hK.out _ _ ⟨(blk_cell BK231.out 0).trans rfl, (blk_cell BK231.out 1).trans rfl, ((HB.out.cell (World.block_lt_of_cell? w _ hw232_0)).trans hw232_0)⟩ (fun hHeld=>?_);clear hK K;refine norm_ (a':=?_) ?_ ?_;rotate_left
    ·show Act.put _ (some 27) _ = _
     simp only [Act.put, q1_,q2_,q3_,i64_w,i32_w];rfl
    refine pu_ 7 28 HT_.out (h:=?_);refine pu_ 9 30 HT_.out (h:=?_);refine pn_ 10 31 HT_.out (h:=?_);refine pn_ 11 32 HT_.out (h:=?_);refine pn_ 12 33 HT_.out (h:=?_);refine pn_ 13 34 HT_.out (h:=?_);refine pn_ 14 35 HT_.out (h:=?_);refine pn_ 15 36 HT_.out (h:=?_);refine pn_ 16 37 HT_.out (h:=?_);refine pn_ 17 38 HT_.out (h:=?_);refine pn_ 18 39 HT_.out (h:=?_);refine pn_ 19 40 HT_.out (h:=?_);refine pn_ 20 41 HT_.out (h:=?_);refine pn_ 21 42 HT_.out (h:=?_);refine pn_ 22 43 HT_.out (h:=?_);refine pu_ 23 44 HT_.out (h:=?_);refine pu_ 24 8 HT_.out (h:=?_);refine pu_ 25 9 HT_.out (h:=?_);refine done_ (done_of HT_.out (by kernel_rfl)) ?_
    try go_wp2
    go_roundg k1
    case measure=>have:=HK1.out;omega
    case rel=>exact ⟨(wrap64 (x8_1 + t233)),(false),(wrap64 (x16_1 + 1)),rs_,rs_,rs_, H', ⟨by have:=HK1.out;omega⟩,⟨hb1_ HB.out GE231.out⟩⟩
  ·rw [if_neg c8] at H
   have c8b0:=decide_eq_false c8;clear c8;simp only [Option.some.injEq, Prod.mk.injEq] at H;obtain ⟨rfl, rfl⟩:=H;go_wp2
   go_ret2
   exact ⟨er_, hb0_ HB.out⟩
 ·rw [if_neg c6] at H
  exact absurd H (by simp)

end Go.Proofs.Ytekpnmeikibioaa.PHoursChanges
