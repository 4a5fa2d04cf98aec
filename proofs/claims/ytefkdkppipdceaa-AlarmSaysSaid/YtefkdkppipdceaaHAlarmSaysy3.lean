/- Contracts of functions that AlarmSays reaches, a text of this session's own. -/
import Derived.Test.YtefkdkppipdceaaBox2
import Derived.Test.YtefkdkppipdceaaHAlarmSaysy0
import Derived.Test.YtefkdkppipdceaaHAlarmSaysy2
namespace Go.Proofs.Ytefkdkppipdceaa.PAlarmSays
open Go.RowKit Go.Proofs.YtefkdkppipdceaaW.PrintWords Go.Proofs.YtefkdkppipdceaaW.PrintLast Go.Proofs.YtefkdkppipdceaaW.PrintMore
attribute [local go_sem] max2_int min2_int max_two min_two max_three min_three max_four min_four   -- for this text's walks alone
set_option linter.unusedVariables false
set_option linter.unusedSimpArgs false

/-! ### alarm_Check: function 73 -/
mutual
def alarm_Check.l0 : Nat → List (S81) → List (S81) → Int → Int → Option (Int)
 | 0, _, _, _, _ => none
 | k + 1, x0, x8, x9, x10 => if x10 < x9 then (if 0 ≤ x10 then (if x10 < (x8.length : Int) then ((alarm_named.f k ((rd_T81 x8 x10).f0)).bind fun t109 => (if t109 = true then ((alarm_named.f k ((rd_T81 x8 x10).f1)).bind fun t110 => (alarm_Check.j1 k x0 x10 x8 x9 x10 (!t110) ((rd_T81 x8 x10).f0) ((rd_T81 x8 x10).f1))) else (alarm_Check.j1 k x0 x10 x8 x9 x10 true ((rd_T81 x8 x10).f0) ((rd_T81 x8 x10).f1)))) else (none)) else (none)) else (some 0)
def alarm_Check.j1 : Nat → List (S81) → Int → List (S81) → Int → Int → Bool → ByteArray → ByteArray → Option (Int)
 | 0, _, _, _, _, _, _, _, _ => none
 | k + 1, x0, x3, x8, x9, x10, x15, x109000, x109001 => if x15 = true then (some 6) else (if x109000.toList = x109001.toList then (some 3) else (if 0 ≤ x3 then (if x3 ≤ (x0.length : Int) then ((api_AlarmCause_106.f k (x0.take (x3 : Int).toNat) x109000 x109001).bind fun t115 => (if t115 = true then (some 7) else (alarm_Check.l0 k x0 x8 x9 (wrap64 (x10 + 1))))) else (none)) else (none)))
end
def alarm_Check.f (k : Nat) (l0 : List (S81)) : Option (Int) := if (l0.length : Int) > 40 then (some 2) else (alarm_Check.l0 k l0 l0 (l0.length : Int) 0)
theorem alarm_Check.mono_l : ∀ k, (∀ y0 y1 y2 y3, LeO (alarm_Check.l0 k y0 y1 y2 y3) (alarm_Check.l0 (k + 1) y0 y1 y2 y3)) ∧ (∀ y0 y1 y2 y3 y4 y5 y6 y7, LeO (alarm_Check.j1 k y0 y1 y2 y3 y4 y5 y6 y7) (alarm_Check.j1 (k + 1) y0 y1 y2 y3 y4 y5 y6 y7))
 | 0 => ⟨fun _ _ _ _ r h => by simp [alarm_Check.l0] at h, fun _ _ _ _ _ _ _ _ r h => by simp [alarm_Check.j1] at h⟩
 | k + 1 => by
  obtain ⟨ih0, ih1⟩:=alarm_Check.mono_l k
  refine ⟨?_, ?_⟩
  ·intro y0 y1 y2 y3
   unfold alarm_Check.l0
   repeat' first|(with_reducible first|exact ih0 _ _ _ _|exact ih1 _ _ _ _ _ _ _ _|exact alarm_named.mono _ _|exact api_AlarmCause_106.mono _ _ _ _|exact LeO.refl _|exact LeO.none _|refine LeO.ite ?_ ?_|refine LeO.bind ?_ (fun _=>?_))|exact ih0 _ _ _ _|exact ih1 _ _ _ _ _ _ _ _|exact alarm_named.mono _ _|exact api_AlarmCause_106.mono _ _ _ _|exact LeO.none _|refine LeO.ite ?_ ?_|refine LeO.bind ?_ (fun _=>?_)
  ·intro y0 y1 y2 y3 y4 y5 y6 y7
   unfold alarm_Check.j1
   repeat' first|(with_reducible first|exact ih0 _ _ _ _|exact ih1 _ _ _ _ _ _ _ _|exact alarm_named.mono _ _|exact api_AlarmCause_106.mono _ _ _ _|exact LeO.refl _|exact LeO.none _|refine LeO.ite ?_ ?_|refine LeO.bind ?_ (fun _=>?_))|exact ih0 _ _ _ _|exact ih1 _ _ _ _ _ _ _ _|exact alarm_named.mono _ _|exact api_AlarmCause_106.mono _ _ _ _|exact LeO.none _|refine LeO.ite ?_ ?_|refine LeO.bind ?_ (fun _=>?_)
theorem alarm_Check.mono : ∀ a0 k, LeO (alarm_Check.f k a0) (alarm_Check.f (k + 1) a0) := by
 intro a0 k
 obtain ⟨ih0, ih1⟩:=alarm_Check.mono_l k
 unfold alarm_Check.f
 repeat' first|(with_reducible first|exact ih0 _ _ _ _|exact ih1 _ _ _ _ _ _ _ _|exact alarm_named.mono _ _|exact api_AlarmCause_106.mono _ _ _ _|exact LeO.refl _|exact LeO.none _|refine LeO.ite ?_ ?_|refine LeO.bind ?_ (fun _=>?_))|exact ih0 _ _ _ _|exact ih1 _ _ _ _ _ _ _ _|exact alarm_named.mono _ _|exact api_AlarmCause_106.mono _ _ _ _|exact LeO.none _|refine LeO.ite ?_ ?_|refine LeO.bind ?_ (fun _=>?_)
set_option maxHeartbeats 8000000 in
set_option maxRecDepth 100000 in
theorem alarm_Check.calls (k : Nat) (A0 : Option Addr) (c0 : Nat) (l0 : List (S81)) (r : Int) (w : World) (hr0 : Kd.C k81 w A0 l0.length l0) (hc0 : l0.length ≤ c0) (h : alarm_Check.f k l0 = some r) :
  Calls Try.prog 73 #[.slice A0 l0.length c0] w fun e w' => e = .returned (.int .i64 r) ∧ Below w.heap.size w w' := by
 have hu81:=Try.underlying81;have HR0:=k0_ hr0;have HC0:=k0_ hc0;clear hr0 hc0;have HB:=k0_ (Below.refl w.heap.size w);have H : (if (l0.length : Int) > 40 then (some 2) else (alarm_Check.l0 k l0 l0 (l0.length : Int) 0)) = some r:=h;clear h
 by_cases c2 : (l0.length : Int) > 40
 ·rw [if_pos c2] at H
  have c2b0:=decide_eq_true c2;have c2b1 : decide (40 < l0.length) = true:=decide_eq_true (by omega);clear c2;obtain rfl:=Option.some.inj H
  go_enter Try.func73, Try.ntmps73
  go_wp2
  go_ret
  exact ⟨er_, hb0_ HB.out⟩
 ·rw [if_neg c2] at H
  have c2b0:=decide_eq_false c2;have c2b1 : decide (40 < l0.length) = false:=decide_eq_false (by omega);clear c2;have H':=k0_ H;clear H
  go_enter Try.func73, Try.ntmps73
  go_wp2;(try simp only [Act.put, q1_,q3_,q2_])
  go_loopg [10] k (fun kq v10 w'=>∃ (x10_1 : Int), v10 = .int .i64 x10_1∧Aside0 (alarm_Check.l0 kq l0 l0 (l0.length : Int) x10_1 = some r)∧Aside0 (kq ≤ k)∧Aside0 (Below w.heap.size w w'))
  case atStart=>exact ⟨(0),rs_, H', ⟨Nat.le_refl _⟩,⟨hb0_ HB.out⟩⟩
  clear H';(try clear c2);(try clear c2b0);(try clear c2b1);(try clear p2);obtain ⟨x10_1, rfl, HA, HK1, HB⟩:=hrel;obtain _|k1:=gk
  ·exact absurd HA.out (by simp [alarm_Check.l0])
  have H:=HA.out;clear HA;simp only [alarm_Check.l0] at H
  by_cases c3 : x10_1 < (l0.length : Int)
  ·rw [if_pos c3] at H
   have c3b0:=decide_eq_true c3;clear c3
   obtain ⟨c4,H⟩:=gi_ H;have c4b0:=decide_eq_true c4;clear c4
   obtain ⟨c5,H⟩:=gi_ H;have c5b0:=decide_eq_true c5;clear c5;have HC6:=k0_ H;clear H;have p107 : 0 ≤ (x10_1 : Int):=of_decide_eq_true as_;have q107 : x10_1 < (l0.length : Int):=of_decide_eq_true as_;obtain ⟨ad107, e107, hx107_0, hx107_1⟩:=at_T81 HR0.out x10_1 p107 q107;cases e107;replace hx107_0:=bt_ HB.out hx107_0;replace hx107_1:=bt_ HB.out hx107_1;replace p107:=eq_true p107;replace q107:=eq_true q107
   go_upto_region 6 with (first|((with_reducible refine gate_dst (N:=4) rfl ?_);refine box_event ?hg (N:=4) ?hd (cs:=#[.string (⟨#[]⟩ : ByteArray), .string (⟨#[]⟩ : ByteArray)]) (t:=81) ?hr ?_;(case hd=>rfl);(case hg=>rfl);(case hr=>first|(go_simp;done)|(go_simp;rfl));intro gb108 hg w7 hbox hb;have BK108:=k0_ (hbox);have GW108:=k0_ ((by rw [hg];exact (below_size (hb0_ HB.out)) : w.heap.size ≤ gb108));have GE108:=k0_ ((by rw [hg];exact (below_size (hb0_ HB.out)) : w.heap.size ≤ gb108));replace HB:=k0_ (below_step (hb0_ HB.out) hb);clear hb hbox hg;obtain ⟨hcz8_0,hcz8_1⟩:=bc2_ BK108.out;obtain ⟨hfz8_0,hfz8_1⟩:=bf2_ BK108.out))
   (try simp only [Act.put, q1_,q2_,q3_])
   go_cut [15] (fun v15 wc=>∃ (kq : Nat) (x15_5 : Bool), v15 = .bool x15_5∧Aside0 (alarm_Check.j1 kq l0 x10_1 l0 (l0.length : Int) x10_1 x15_5 ((rd_T81 l0 x10_1).f0) ((rd_T81 l0 x10_1).f1) = some r)∧Aside0 (kq ≤ k1)∧Aside0 (wc.heap[gb108]? = some (.cells #[.string ((rd_T81 l0 x10_1).f0), .string ((rd_T81 l0 x10_1).f1)] 81 (0, 0)))∧Aside0 (Below w.heap.size w wc))
   case first =>
    have H:=HC6.out;clear HC6;replace H:=Option.bind_eq_some_iff.mp H;obtain ⟨t109, A90, H⟩:=H;replace H : (if t109 = true then ((alarm_named.f k1 ((rd_T81 l0 x10_1).f1)).bind fun t110=>(alarm_Check.j1 k1 l0 x10_1 l0 (l0.length : Int) x10_1 (!t110) ((rd_T81 l0 x10_1).f0) ((rd_T81 l0 x10_1).f1))) else (alarm_Check.j1 k1 l0 x10_1 l0 (l0.length : Int) x10_1 true ((rd_T81 l0 x10_1).f0) ((rd_T81 l0 x10_1).f1))) = some r:=H;have A9:=k0_ A90;clear A90
    by_cases c10 : t109 = true
    ·subst c10
     have H1 : ((alarm_named.f k1 ((rd_T81 l0 x10_1).f1)).bind fun t110=>(alarm_Check.j1 k1 l0 x10_1 l0 (l0.length : Int) x10_1 (!t110) ((rd_T81 l0 x10_1).f0) ((rd_T81 l0 x10_1).f1))) = some r:=by rw [if_pos rfl] at H;exact H
     clear H;have H:=H1;clear H1;replace H:=Option.bind_eq_some_iff.mp H;obtain ⟨t110, A110, H⟩:=H;replace H : (alarm_Check.j1 k1 l0 x10_1 l0 (l0.length : Int) x10_1 (!t110) ((rd_T81 l0 x10_1).f0) ((rd_T81 l0 x10_1).f1)) = some r:=H;have A11:=k0_ A110;clear A110;have H':=k0_ H;clear H;obtain ⟨hcz12_0,hcz12_1⟩:=bc2_ BK108.out;obtain ⟨hfz12_0,hfz12_1⟩:=bf2_ BK108.out
     go_wp2_with (first|((with_reducible refine gate_callee (f:=105) rfl ?_);refine goesL_ (some 18) rfl rfl Try.func105 (by kernel_rfl) rfl #[.string ((rd_T81 l0 x10_1).f0)] rfl mt_ ?_;(with_reducible refine (alarm_named.calls k1 ((rd_T81 l0 x10_1).f0) true _ A9.out).mono ?_);rintro e w13 ⟨rfl, hb⟩;refine ⟨_, rfl, ?_⟩;replace BK108:=k0_ (blk_below (g:=gb108) (o:=.cells #[.string ((rd_T81 l0 x10_1).f0), .string ((rd_T81 l0 x10_1).f1)] 81 (0, 0)) (by (with_reducible repeat (first|refine blk_drewN ?_ _|refine blk_drew ?_|refine blk_alloc ?_ _));refine blk_put (cs:=#[.string ((rd_T81 l0 x10_1).f0), .string (⟨#[]⟩ : ByteArray)]) ?_ 1 _ rfl;(with_reducible repeat (first|refine blk_drewN ?_ _|refine blk_drew ?_|refine blk_alloc ?_ _));refine blk_put (cs:=#[.string (⟨#[]⟩ : ByteArray), .string (⟨#[]⟩ : ByteArray)]) ?_ 0 _ rfl;(with_reducible repeat (first|refine blk_drewN ?_ _|refine blk_drew ?_|refine blk_alloc ?_ _));exact BK108.out) hb);replace HB:=k0_ (below_step (hb1_ HB.out GE108.out) hb);(try clear hb);(try clear hb2);(try clear hk);(try clear hi);obtain ⟨hcz14_0,hcz14_1⟩:=bc2_ BK108.out;obtain ⟨hfz14_0,hfz14_1⟩:=bf2_ BK108.out)|(go_at_call 105;(with_reducible refine (alarm_named.calls k1 ((rd_T81 l0 x10_1).f1) t110 _ A11.out).mono ?_);rintro e w15 ⟨rfl, hb⟩;replace BK108:=k0_ (blk_below (g:=gb108) (o:=.cells #[.string ((rd_T81 l0 x10_1).f0), .string ((rd_T81 l0 x10_1).f1)] 81 (0, 0)) (bq_ BK108.out) hb);replace HB:=k0_ (below_step (hb1_ HB.out GE108.out) hb);(try clear hb);(try clear hb2);(try clear hk);(try clear hi)))
     go_meet
     case rel=>exact ⟨_, (!t110),rs_, H', ⟨by have:=HK1.out;first|omega|exact Nat.le_refl _⟩,⟨bq_ BK108.out⟩,⟨hb1_ HB.out GE108.out⟩⟩
    ·replace c10:=Bool.eq_false_iff.mpr c10
     subst c10;have H1 : (alarm_Check.j1 k1 l0 x10_1 l0 (l0.length : Int) x10_1 true ((rd_T81 l0 x10_1).f0) ((rd_T81 l0 x10_1).f1)) = some r:=by rw [if_neg (show ¬ (false = true) by decide)] at H;exact H
     clear H;have H:=H1;clear H1;have H':=k0_ H;clear H;obtain ⟨hcz16_0,hcz16_1⟩:=bc2_ BK108.out;obtain ⟨hfz16_0,hfz16_1⟩:=bf2_ BK108.out
     go_wp2_with (first|((with_reducible refine gate_callee (f:=105) rfl ?_);refine goesL_ (some 18) rfl rfl Try.func105 (by kernel_rfl) rfl #[.string ((rd_T81 l0 x10_1).f0)] rfl mt_ ?_;(with_reducible refine (alarm_named.calls k1 ((rd_T81 l0 x10_1).f0) false _ A9.out).mono ?_);rintro e w17 ⟨rfl, hb⟩;refine ⟨_, rfl, ?_⟩;replace BK108:=k0_ (blk_below (g:=gb108) (o:=.cells #[.string ((rd_T81 l0 x10_1).f0), .string ((rd_T81 l0 x10_1).f1)] 81 (0, 0)) (by (with_reducible repeat (first|refine blk_drewN ?_ _|refine blk_drew ?_|refine blk_alloc ?_ _));refine blk_put (cs:=#[.string ((rd_T81 l0 x10_1).f0), .string (⟨#[]⟩ : ByteArray)]) ?_ 1 _ rfl;(with_reducible repeat (first|refine blk_drewN ?_ _|refine blk_drew ?_|refine blk_alloc ?_ _));refine blk_put (cs:=#[.string (⟨#[]⟩ : ByteArray), .string (⟨#[]⟩ : ByteArray)]) ?_ 0 _ rfl;(with_reducible repeat (first|refine blk_drewN ?_ _|refine blk_drew ?_|refine blk_alloc ?_ _));exact BK108.out) hb);replace HB:=k0_ (below_step (hb1_ HB.out GE108.out) hb);(try clear hb);(try clear hb2);(try clear hk);(try clear hi)))
     go_meet
     case rel=>exact ⟨_, (true),rs_, H', ⟨by have:=HK1.out;first|omega|exact Nat.le_refl _⟩,⟨bq_ BK108.out⟩,⟨hb1_ HB.out GE108.out⟩⟩
   clear HC6;(try clear c1);(try clear p1);(try clear q1);(try clear hx1);(try clear c2);(try clear c2b0);(try clear c2b1);(try clear p2);(try clear c3);(try clear c3b0);(try clear c4);(try clear c4b0);(try clear c5);(try clear c5b0);(try clear c7);(try clear c10);(try clear p10);(try clear q10);(try clear hx10);(try clear hcz12_0);(try clear hcz12_1);(try clear hcz14_0);(try clear hcz14_1);(try clear hcz16_0);(try clear hcz16_1);(try clear hcz8_0);(try clear hcz8_1);(try clear hfz12_0);(try clear hfz12_1);(try clear hfz14_0);(try clear hfz14_1);(try clear hfz16_0);(try clear hfz16_1);(try clear hfz8_0);(try clear hfz8_1);(try clear hx107_0);(try clear hx107_1);(try clear p107);(try clear p2);(try clear q107);obtain ⟨kq, x15_5, rfl, HA, HJ5, BK108, HB⟩:=hcut;obtain _|kj5:=kq
   ·exact absurd HA.out (by simp [alarm_Check.j1])
   have H:=HA.out;clear HA;simp only [alarm_Check.j1] at H
   by_cases c18 : x15_5 = true
   ·subst c18
    have H1 : (some 6) = some r:=by rw [if_pos rfl] at H;exact H
    clear H;have H:=H1;clear H1;obtain rfl:=Option.some.inj H;go_wp2
    go_ret
    exact ⟨er_, hb1_ HB.out GE108.out⟩
   ·replace c18:=Bool.eq_false_iff.mpr c18
    subst c18;have H1 : (if ((rd_T81 l0 x10_1).f0).toList = ((rd_T81 l0 x10_1).f1).toList then (some 3) else (if 0 ≤ x10_1 then (if x10_1 ≤ (l0.length : Int) then ((api_AlarmCause_106.f kj5 (l0.take (x10_1 : Int).toNat) ((rd_T81 l0 x10_1).f0) ((rd_T81 l0 x10_1).f1)).bind fun t115=>(if t115 = true then (some 7) else (alarm_Check.l0 kj5 l0 l0 (l0.length : Int) (wrap64 (x10_1 + 1))))) else (none)) else (none))) = some r:=by rw [if_neg (show ¬ (false = true) by decide)] at H;exact H
    clear H;have H:=H1;clear H1
    by_cases c19 : ((rd_T81 l0 x10_1).f0).toList = ((rd_T81 l0 x10_1).f1).toList
    ·rw [if_pos c19] at H
     have c19b0:=beq_iff_eq.mpr c19;have c19b1:=bne_eq_false_iff_eq.mpr c19;clear c19;obtain rfl:=Option.some.inj H;obtain ⟨hcz20_0,hcz20_1⟩:=bc2_ BK108.out;obtain ⟨hfz20_0,hfz20_1⟩:=bf2_ BK108.out;go_wp2
     go_ret
     exact ⟨er_, hb1_ HB.out GE108.out⟩
    ·rw [if_neg c19] at H
     have c19b0:=beq_eq_false_iff_ne.mpr c19;have c19b1:=bne_iff_ne.mpr c19
     by_cases c21 : 0 ≤ x10_1
     rw [if_pos c21] at H;have c21b0:=eq_true c21;have c21b1:=decide_eq_true c21;clear c21
     focus
      by_cases c22 : x10_1 ≤ (l0.length : Int)
      rw [if_pos c22] at H;have c22b0:=eq_true c22;have c22b1:=decide_eq_true c22;clear c22;obtain ⟨y111, hy111⟩ : ∃ y_ : List (S81), y_ = (l0.take (x10_1 : Int).toNat):=⟨_, rfl⟩;replace H : ((api_AlarmCause_106.f kj5 y111 ((rd_T81 l0 x10_1).f0) ((rd_T81 l0 x10_1).f1)).bind fun t115=>(if t115 = true then (some 7) else (alarm_Check.l0 kj5 l0 l0 (l0.length : Int) (wrap64 (x10_1 + 1))))) = some r:=by first|(rw [hy111];with_reducible exact H)|(have H2_:=(Option.bind_some _ _).symm.trans H;rw [hy111];with_reducible exact H2_)|(have H2_:=(Option.bind_some _ _).symm.trans H;with_reducible exact H2_)|with_reducible exact H|(rw [hy111];exact H)|exact H
      have Ny111:=k0_ hy111;clear hy111;replace H:=Option.bind_eq_some_iff.mp H;obtain ⟨t115, A230, H⟩:=H;replace H : (if t115 = true then (some 7) else (alarm_Check.l0 kj5 l0 l0 (l0.length : Int) (wrap64 (x10_1 + 1)))) = some r:=H;have A23:=k0_ A230;clear A230
      focus
       by_cases c24 : t115 = true
       subst c24;have H1 : (some 7) = some r:=by rw [if_pos rfl] at H;exact H
       clear H;have H:=H1;clear H1;obtain rfl:=Option.some.inj H;rotate_left;replace c24:=Bool.eq_false_iff.mpr c24;subst c24;have H1 : (alarm_Check.l0 kj5 l0 l0 (l0.length : Int) (wrap64 (x10_1 + 1))) = some r:=by rw [if_neg (show ¬ (false = true) by decide)] at H;exact H
       clear H;have H:=H1;clear H1;have H':=k0_ H;clear H;rotate_left
      rotate_left 2;rw [if_neg c22] at H
      exact absurd H (by simp)
     rotate_left 2;rw [if_neg c21] at H
     exact absurd H (by simp)
     all_goals
      obtain ⟨hcz25_0,hcz25_1⟩:=bc2_ BK108.out;obtain ⟨hfz25_0,hfz25_1⟩:=bf2_ BK108.out
      try go_wp2
      replace BK108:=k0_ (blk_drew BK108.out);replace HB:=k0_ (below_drew1 HB.out);have q27 : (x10_1 : Int) ≤ ((l0.length : Int) : Int):=of_decide_eq_true as_;obtain ⟨i027, hi027, _, hsz27, _⟩:=info_parts info81;have hroom27 : l0.length ≤ c0:=HC0.out;have hC27 : Kd.C k81 _ (some ad107) l0.length l0:=HR0.out;have hcut27:=cut_to (P:=Try.prog) 78 81 .i64 Try.underlying78 hi027 (some ad107) l0.length c0 x10_1 (of_decide_eq_true as_) q27 hroom27;have hr27:=Kd.C_take (m:=(x10_1 : Int).toNat) hC27 (by omega);have hy27 : y111.length = (x10_1 : Int).toNat:=(by rw [Ny111.out, List.length_take];omega);rw [← Ny111.out] at hr27;rw [← hy27] at hcut27;have HR114:=k0_ hr27;have HC114:=k0_ (show y111.length ≤ c0 from by omega);clear hr27 hC27 hroom27 hi027 hsz27;have KY27:=k0_ hy27;clear hy27;replace q27:=eq_true q27;refine start_ (n:=6) (S:=fun w'=>w'.cell? ⟨gb108, 0, none⟩ = some (.string ((rd_T81 l0 x10_1).f0))∧w'.cell? ⟨gb108, 1, none⟩ = some (.string ((rd_T81 l0 x10_1).f1))) (ds:=[]) (mb_ 6 0) (by kernel_rfl) rfl rfl ⟨(blk_cell BK108.out 0).trans rfl, (blk_cell BK108.out 1).trans rfl⟩ (fun hHeld=>?_);generalize wc.drew = w26 at BK108 HB HR114 hHeld ⊢;refine pure_ (i:=0) (N:=some 33) (v:=?_) (a':=?_) (mb_ 6 1) rfl rfl (by kernel_rfl) (fun _ _ _ h=>h) (Or.inl ⟨by rfl, ?_⟩) ?_ ?_;rotate_left;(intro w';go_simp;with_reducible rfl);rotate_left;(simp only [Act.put, q1_,q2_,q3_,i64_w,i32_w];rfl);refine pure_ (i:=1) (N:=some 34) (v:=?_) (a':=?_) (mb_ 6 3) rfl rfl (by kernel_rfl) (fun _ _ _ h=>h) (Or.inl ⟨by rfl, ?_⟩) ?_ ?_;rotate_left;(intro w';go_simp;with_reducible rfl);rotate_left;(simp only [Act.put, q1_,q2_,q3_,i64_w,i32_w];rfl);refine pure_ (i:=2) (N:=some 35) (v:=?_) (a':=?_) (mb_ 6 7) rfl rfl (by kernel_rfl) (fun _ _ _ h=>h) (Or.inl ⟨by rfl, ?_⟩) ?_ ?_;rotate_left;(intro w';go_simp;with_reducible rfl);rotate_left;(simp only [Act.put, q1_,q2_,q3_,i64_w,i32_w];rfl);refine take_ (i:=3) (N:=some 36) (v:=?_) (a':=?_) (mb_ 6 15) rfl rfl (by kernel_rfl) (fun _ _ _ h=>h) (Or.inl ⟨by rfl, ?_⟩) hHeld ?_ ?_;rotate_left
      (rintro w' ⟨s0, s1⟩;go_simp;with_reducible rfl)
      rotate_left;(simp only [Act.put, q1_,q2_,q3_,i64_w,i32_w];rfl);refine one_ (i:=4) (N:=some 37) (mb_ 6 31) rfl rfl (by kernel_rfl) (by decide) (fun K hK=>?_);refine goes_ Try.func106 (by kernel_rfl) rfl #[.slice (some ad107) y111.length c0, .agg #[.string ((rd_T81 l0 x10_1).f0), .string ((rd_T81 l0 x10_1).f1)]] (by rfl) rfl rfl mt_ ?_
     ·with_reducible refine (api_AlarmCause_106.calls kj5 _ _ y111 ((rd_T81 l0 x10_1).f0) ((rd_T81 l0 x10_1).f1) true _ ?side1 ?side2 A23.out).mono ?_
      (case side1=>repeat (first|exact (Kd.C_below HR114.out HB.out)|(with_reducible refine Kd.C_alloc ?_ _)|(with_reducible refine Kd.C_drewN ?_ _)|(with_reducible refine Kd.C_drew ?_)))
      (case side2=>exact HC114.out)
      rintro e w28 ⟨rfl, hb⟩;refine ⟨_, rfl, ?_⟩;replace BK108:=k0_ (blk_below (g:=gb108) (o:=.cells #[.string ((rd_T81 l0 x10_1).f0), .string ((rd_T81 l0 x10_1).f1)] 81 (0, 0)) (bq_ BK108.out) hb);replace HB:=k0_ (below_step (hb1_ HB.out GE108.out) hb);(try clear hb);(try clear hb2);(try clear hk);(try clear hi);refine hK.out _ _ ⟨(blk_cell BK108.out 0).trans rfl, (blk_cell BK108.out 1).trans rfl⟩ (fun hHeld=>?_);clear hK K;refine norm_ (a':=?_) ?_ ?_;rotate_left
      ·show Act.put _ (some 37) _ = _
       simp only [Act.put, q1_,q2_,q3_,i64_w,i32_w];rfl
      refine pure_ (i:=5) (N:=some 32) (v:=?_) (a':=?_) (mb_ 6 63) rfl rfl (by kernel_rfl) (fun _ _ _ h=>h) (Or.inl ⟨by rfl, ?_⟩) ?_ ?_;rotate_left;(intro w';go_simp;with_reducible rfl);rotate_left;(simp only [Act.put, q1_,q2_,q3_,i64_w,i32_w];rfl);refine done_ (by kernel_rfl) ?_
      try go_wp2
      go_ret
      exact ⟨er_, hb1_ HB.out GE108.out⟩
     ·with_reducible refine (api_AlarmCause_106.calls kj5 _ _ y111 ((rd_T81 l0 x10_1).f0) ((rd_T81 l0 x10_1).f1) false _ ?side1 ?side2 A23.out).mono ?_
      (case side1=>repeat (first|exact (Kd.C_below HR114.out HB.out)|(with_reducible refine Kd.C_alloc ?_ _)|(with_reducible refine Kd.C_drewN ?_ _)|(with_reducible refine Kd.C_drew ?_)))
      (case side2=>exact HC114.out)
      rintro e w32 ⟨rfl, hb⟩;refine ⟨_, rfl, ?_⟩;replace BK108:=k0_ (blk_below (g:=gb108) (o:=.cells #[.string ((rd_T81 l0 x10_1).f0), .string ((rd_T81 l0 x10_1).f1)] 81 (0, 0)) (bq_ BK108.out) hb);replace HB:=k0_ (below_step (hb1_ HB.out GE108.out) hb);(try clear hb);(try clear hb2);(try clear hk);(try clear hi);refine hK.out _ _ ⟨(blk_cell BK108.out 0).trans rfl, (blk_cell BK108.out 1).trans rfl⟩ (fun hHeld=>?_);clear hK K;refine norm_ (a':=?_) ?_ ?_;rotate_left
      ·show Act.put _ (some 37) _ = _
       simp only [Act.put, q1_,q2_,q3_,i64_w,i32_w];rfl
      refine pure_ (i:=5) (N:=some 32) (v:=?_) (a':=?_) (mb_ 6 63) rfl rfl (by kernel_rfl) (fun _ _ _ h=>h) (Or.inl ⟨by rfl, ?_⟩) ?_ ?_;rotate_left;(intro w';go_simp;with_reducible rfl);rotate_left;(simp only [Act.put, q1_,q2_,q3_,i64_w,i32_w];rfl);refine done_ (by kernel_rfl) ?_
      try go_wp2
      go_roundg kj5
      case measure=>have:=HK1.out;have:=HJ5.out;omega
      case rel=>exact ⟨(wrap64 (x10_1 + 1)),rs_, H', ⟨by have:=HK1.out;have:=HJ5.out;omega⟩,⟨hb1_ HB.out GE108.out⟩⟩
  ·rw [if_neg c3] at H
   have c3b0:=decide_eq_false c3;clear c3;obtain rfl:=Option.some.inj H;go_wp2
   go_ret
   exact ⟨er_, hb0_ HB.out⟩

/-! ### slices_Index_string_string: function 47 -/
def slices_Index_string_string.l0 : Nat → List ByteArray → ByteArray → Int → Int → Option (Int)
 | 0, _, _, _, _ => none
 | k + 1, x0, x1, x7, x8 => if x8 < x7 then (if 0 ≤ x8 then (if x8 < (x0.length : Int) then (if x1.toList = (rdOf ByteArray.empty x0 x8).toList then (some x8) else (slices_Index_string_string.l0 k x0 x1 x7 (wrap64 (x8 + 1)))) else (none)) else (none)) else (some (-1))
def slices_Index_string_string.f (k : Nat) (l0 : List ByteArray) (a1 : ByteArray) : Option (Int) := slices_Index_string_string.l0 k l0 a1 (l0.length : Int) 0
theorem slices_Index_string_string.mono_l : ∀ k, (∀ y0 y1 y2 y3, LeO (slices_Index_string_string.l0 k y0 y1 y2 y3) (slices_Index_string_string.l0 (k + 1) y0 y1 y2 y3))
 | 0 => fun _ _ _ _ r h => by simp [slices_Index_string_string.l0] at h
 | k + 1 => by
  have ih0:=slices_Index_string_string.mono_l k
  ·intro y0 y1 y2 y3
   unfold slices_Index_string_string.l0
   repeat' first|(with_reducible first|exact ih0 _ _ _ _|exact LeO.refl _|exact LeO.none _|refine LeO.ite ?_ ?_|refine LeO.bind ?_ (fun _=>?_))|exact ih0 _ _ _ _|exact LeO.none _|refine LeO.ite ?_ ?_|refine LeO.bind ?_ (fun _=>?_)
theorem slices_Index_string_string.mono : ∀ a0 a1 k, LeO (slices_Index_string_string.f k a0 a1) (slices_Index_string_string.f (k + 1) a0 a1) := by
 intro a0 a1 k
 have ih0:=slices_Index_string_string.mono_l k
 unfold slices_Index_string_string.f
 repeat' first|(with_reducible first|exact ih0 _ _ _ _|exact LeO.refl _|exact LeO.none _|refine LeO.ite ?_ ?_|refine LeO.bind ?_ (fun _=>?_))|exact ih0 _ _ _ _|exact LeO.none _|refine LeO.ite ?_ ?_|refine LeO.bind ?_ (fun _=>?_)
set_option maxHeartbeats 8000000 in
set_option maxRecDepth 100000 in
theorem slices_Index_string_string.calls (k : Nat) (A0 : Option Addr) (c0 : Nat) (l0 : List ByteArray) (a1 : ByteArray) (r : Int) (w : World) (hr0 : Kd.C Kd.string w A0 l0.length l0) (hc0 : l0.length ≤ c0) (h : slices_Index_string_string.f k l0 a1 = some r) :
  Calls Try.prog 47 #[.slice A0 l0.length c0, .string a1] w fun e w' => e = .returned (.int .i64 r) ∧ Drawn0 w w' := by
 have HR0:=k0_ hr0;have HC0:=k0_ hc0;clear hr0 hc0;have H : (slices_Index_string_string.l0 k l0 a1 (l0.length : Int) 0) = some r:=h;clear h;have H':=k0_ H;clear H
 go_enter Try.func47, Try.ntmps47
 go_wp2;(try simp only [Act.put, q1_,q3_,q2_])
 go_loopg [8] k (fun kq v8 w'=>∃ (x8_1 : Int), v8 = .int .i64 x8_1∧Aside0 (slices_Index_string_string.l0 kq l0 a1 (l0.length : Int) x8_1 = some r)∧Aside0 (kq ≤ k)∧Drawn0 w w')
 case atStart=>exact ⟨(0),rs_, H', ⟨Nat.le_refl _⟩, by repeat (first|exact Drawn0.refl _|apply Drawn0.step)⟩
 clear H';(try clear p2);obtain ⟨x8_1, rfl, HA, HK1, ⟨m1, rfl⟩⟩:=hrel;obtain _|k1:=gk
 ·exact absurd HA.out (by simp [slices_Index_string_string.l0])
 have H:=HA.out;clear HA;simp only [slices_Index_string_string.l0] at H
 by_cases c3 : x8_1 < (l0.length : Int)
 ·rw [if_pos c3] at H
  have c3b0:=decide_eq_true c3;clear c3
  by_cases c4 : 0 ≤ x8_1
  rw [if_pos c4] at H;have c4b0:=decide_eq_true c4;clear c4
  focus
   by_cases c5 : x8_1 < (l0.length : Int)
   rw [if_pos c5] at H;have c5b0:=decide_eq_true c5;clear c5
   focus
    by_cases c6 : a1.toList = (rdOf ByteArray.empty l0 x8_1).toList
    rw [if_pos c6] at H;have c6b0:=beq_iff_eq.mpr c6;have c6b1:=bne_eq_false_iff_eq.mpr c6;clear c6;obtain rfl:=Option.some.inj H;rotate_left;rw [if_neg c6] at H;have c6b0:=beq_eq_false_iff_ne.mpr c6;have c6b1:=bne_iff_ne.mpr c6;have H':=k0_ H;clear H;rotate_left
   rotate_left 2;rw [if_neg c5] at H
   exact absurd H (by simp)
  rotate_left 2;rw [if_neg c4] at H
  exact absurd H (by simp)
  all_goals
   have p116 : 0 ≤ (x8_1 : Int):=of_decide_eq_true as_;have q116 : x8_1 < (l0.length : Int):=of_decide_eq_true as_;obtain ⟨ad116, e116, hx116_0⟩:=Kd.at_string HR0.out x8_1 p116 q116;cases e116;replace p116:=eq_true p116;replace q116:=eq_true q116;go_wp2
  ·go_ret
   exact ⟨by first|rfl|(simp;done)|(simp [*];done), by repeat (first|exact Drawn0.refl _|apply Drawn0.step)⟩
  ·go_roundg k1
   case measure=>have:=HK1.out;omega
   case rel=>exact ⟨(wrap64 (x8_1 + 1)),rs_, H', ⟨by have:=HK1.out;omega⟩, by repeat (first|exact Drawn0.refl _|apply Drawn0.step)⟩
 ·rw [if_neg c3] at H
  have c3b0:=decide_eq_false c3;clear c3;obtain rfl:=Option.some.inj H;go_wp2
  go_ret
  exact ⟨by first|rfl|(simp;done)|(simp [*];done), by repeat (first|exact Drawn0.refl _|apply Drawn0.step)⟩

/-! ### slices_Contains_string_string: function 46 -/
def slices_Contains_string_string.f (k : Nat) (l0 : List ByteArray) (a1 : ByteArray) : Option (Bool) := (slices_Index_string_string.f k l0 a1).bind fun t117 => (some (decide (t117 ≥ 0)))
theorem slices_Contains_string_string.mono : ∀ a0 a1 k, LeO (slices_Contains_string_string.f k a0 a1) (slices_Contains_string_string.f (k + 1) a0 a1) := by
 intro a0 a1 k
 unfold slices_Contains_string_string.f
 repeat' first|(with_reducible first|exact slices_Index_string_string.mono _ _ _|exact LeO.refl _|exact LeO.none _|refine LeO.ite ?_ ?_|refine LeO.bind ?_ (fun _=>?_))|exact slices_Index_string_string.mono _ _ _|exact LeO.none _|refine LeO.ite ?_ ?_|refine LeO.bind ?_ (fun _=>?_)
set_option maxHeartbeats 8000000 in
set_option maxRecDepth 100000 in
theorem slices_Contains_string_string.calls (k : Nat) (A0 : Option Addr) (c0 : Nat) (l0 : List ByteArray) (a1 : ByteArray) (r : Bool) (w : World) (hr0 : Kd.C Kd.string w A0 l0.length l0) (hc0 : l0.length ≤ c0) (h : slices_Contains_string_string.f k l0 a1 = some r) :
  Calls Try.prog 46 #[.slice A0 l0.length c0, .string a1] w fun e w' => e = .returned (.bool r) ∧ Drawn0 w w' := by
 have HR0:=k0_ hr0;have HC0:=k0_ hc0;clear hr0 hc0;have H : ((slices_Index_string_string.f k l0 a1).bind fun t117=>(some (decide (t117 ≥ 0)))) = some r:=h;clear h;replace H:=Option.bind_eq_some_iff.mp H;obtain ⟨t117, A30, H⟩:=H;replace H : (some (decide (t117 ≥ 0))) = some r:=H;have A3:=k0_ A30;clear A30;obtain rfl:=Option.some.inj H
 go_enter Try.func46, Try.ntmps46
 go_wp2_with (first|((with_reducible refine gate_callee (f:=47) rfl ?_);refine goesL_ (some 7) rfl rfl Try.func47 (by kernel_rfl) rfl #[.slice A0 l0.length c0, .string a1] rfl mt_ ?_;(with_reducible refine (slices_Index_string_string.calls k _ _ l0 a1 t117 _ ?side1 ?side2 A3.out).mono ?_);(case side1=>repeat (first|exact HR0.out|(with_reducible refine Kd.C_alloc ?_ _)|(with_reducible refine Kd.C_drewN ?_ _)|(with_reducible refine Kd.C_drew ?_)));(case side2=>exact HC0.out);rintro e w' ⟨rfl, ⟨nd, rfl⟩⟩;refine ⟨_, rfl, ?_⟩))
 go_ret
 exact ⟨by first|rfl|(simp;done)|(simp [*];done), by repeat (first|exact Drawn0.refl _|apply Drawn0.step)⟩

/-! ### alarm_active: function 74 -/
def alarm_active.l0 : Nat → List ByteArray → List ByteArray → Int → Int → Option (Int)
 | 0, _, _, _, _ => none
 | k + 1, x0, x8, x9, x10 => if x10 < x9 then (if 0 ≤ x10 then (if x10 < (x8.length : Int) then ((alarm_named.f k (rdOf ByteArray.empty x8 x10)).bind fun t119 => (if t119 = true then (if x10 ≤ (x0.length : Int) then ((slices_Contains_string_string.f k (x0.take (x10 : Int).toNat) (rdOf ByteArray.empty x8 x10)).bind fun t121 => (if t121 = true then (some 7) else (alarm_active.l0 k x0 x8 x9 (wrap64 (x10 + 1))))) else (none)) else (some 6))) else (none)) else (none)) else (some 0)
def alarm_active.f (k : Nat) (l0 : List ByteArray) : Option (Int) := if (l0.length : Int) > 24 then (some 2) else (alarm_active.l0 k l0 l0 (l0.length : Int) 0)
theorem alarm_active.mono_l : ∀ k, (∀ y0 y1 y2 y3, LeO (alarm_active.l0 k y0 y1 y2 y3) (alarm_active.l0 (k + 1) y0 y1 y2 y3))
 | 0 => fun _ _ _ _ r h => by simp [alarm_active.l0] at h
 | k + 1 => by
  have ih0:=alarm_active.mono_l k
  ·intro y0 y1 y2 y3
   unfold alarm_active.l0
   repeat' first|(with_reducible first|exact ih0 _ _ _ _|exact alarm_named.mono _ _|exact slices_Contains_string_string.mono _ _ _|exact LeO.refl _|exact LeO.none _|refine LeO.ite ?_ ?_|refine LeO.bind ?_ (fun _=>?_))|exact ih0 _ _ _ _|exact alarm_named.mono _ _|exact slices_Contains_string_string.mono _ _ _|exact LeO.none _|refine LeO.ite ?_ ?_|refine LeO.bind ?_ (fun _=>?_)
theorem alarm_active.mono : ∀ a0 k, LeO (alarm_active.f k a0) (alarm_active.f (k + 1) a0) := by
 intro a0 k
 have ih0:=alarm_active.mono_l k
 unfold alarm_active.f
 repeat' first|(with_reducible first|exact ih0 _ _ _ _|exact alarm_named.mono _ _|exact slices_Contains_string_string.mono _ _ _|exact LeO.refl _|exact LeO.none _|refine LeO.ite ?_ ?_|refine LeO.bind ?_ (fun _=>?_))|exact ih0 _ _ _ _|exact alarm_named.mono _ _|exact slices_Contains_string_string.mono _ _ _|exact LeO.none _|refine LeO.ite ?_ ?_|refine LeO.bind ?_ (fun _=>?_)
set_option maxHeartbeats 8000000 in
set_option maxRecDepth 100000 in
theorem alarm_active.calls (k : Nat) (A0 : Option Addr) (c0 : Nat) (l0 : List ByteArray) (r : Int) (w : World) (hr0 : Kd.C Kd.string w A0 l0.length l0) (hc0 : l0.length ≤ c0) (h : alarm_active.f k l0 = some r) :
  Calls Try.prog 74 #[.slice A0 l0.length c0] w fun e w' => e = .returned (.int .i64 r) ∧ Below w.heap.size w w' := by
 have HR0:=k0_ hr0;have HC0:=k0_ hc0;clear hr0 hc0;have HB:=k0_ (Below.refl w.heap.size w);have H : (if (l0.length : Int) > 24 then (some 2) else (alarm_active.l0 k l0 l0 (l0.length : Int) 0)) = some r:=h;clear h
 by_cases c2 : (l0.length : Int) > 24
 ·rw [if_pos c2] at H
  have c2b0:=decide_eq_true c2;have c2b1 : decide (24 < l0.length) = true:=decide_eq_true (by omega);clear c2;obtain rfl:=Option.some.inj H
  go_enter Try.func74, Try.ntmps74
  go_wp2
  go_ret
  exact ⟨er_, hb0_ HB.out⟩
 ·rw [if_neg c2] at H
  have c2b0:=decide_eq_false c2;have c2b1 : decide (24 < l0.length) = false:=decide_eq_false (by omega);clear c2;have H':=k0_ H;clear H
  go_enter Try.func74, Try.ntmps74
  go_wp2;(try simp only [Act.put, q1_,q3_,q2_])
  go_loopg [10] k (fun kq v10 w'=>∃ (x10_1 : Int), v10 = .int .i64 x10_1∧Aside0 (alarm_active.l0 kq l0 l0 (l0.length : Int) x10_1 = some r)∧Aside0 (kq ≤ k)∧Aside0 (Below w.heap.size w w'))
  case atStart=>exact ⟨(0),rs_, H', ⟨Nat.le_refl _⟩,⟨hb0_ HB.out⟩⟩
  clear H';(try clear c2);(try clear c2b0);(try clear c2b1);(try clear p2);obtain ⟨x10_1, rfl, HA, HK1, HB⟩:=hrel;obtain _|k1:=gk
  ·exact absurd HA.out (by simp [alarm_active.l0])
  have H:=HA.out;clear HA;simp only [alarm_active.l0] at H
  by_cases c3 : x10_1 < (l0.length : Int)
  ·rw [if_pos c3] at H
   have c3b0:=decide_eq_true c3;clear c3
   by_cases c4 : 0 ≤ x10_1
   rw [if_pos c4] at H;have c4b0:=decide_eq_true c4;clear c4
   focus
    by_cases c5 : x10_1 < (l0.length : Int)
    rw [if_pos c5] at H;have c5b0:=decide_eq_true c5;clear c5;replace H:=Option.bind_eq_some_iff.mp H;obtain ⟨t119, A60, H⟩:=H;replace H : (if t119 = true then (if x10_1 ≤ (l0.length : Int) then ((slices_Contains_string_string.f k1 (l0.take (x10_1 : Int).toNat) (rdOf ByteArray.empty l0 x10_1)).bind fun t121=>(if t121 = true then (some 7) else (alarm_active.l0 k1 l0 l0 (l0.length : Int) (wrap64 (x10_1 + 1))))) else (none)) else (some 6)) = some r:=H;have A6:=k0_ A60;clear A60
    focus
     by_cases c7 : t119 = true
     subst c7;have H1 : (if x10_1 ≤ (l0.length : Int) then ((slices_Contains_string_string.f k1 (l0.take (x10_1 : Int).toNat) (rdOf ByteArray.empty l0 x10_1)).bind fun t121=>(if t121 = true then (some 7) else (alarm_active.l0 k1 l0 l0 (l0.length : Int) (wrap64 (x10_1 + 1))))) else (none)) = some r:=by rw [if_pos rfl] at H;exact H
     clear H;have H:=H1;clear H1;have c8b0:=eq_true (of_decide_eq_true as_ : 0 ≤ x10_1)
     focus
      by_cases c9 : x10_1 ≤ (l0.length : Int)
      rw [if_pos c9] at H;have c9b0:=eq_true c9;have c9b1:=decide_eq_true c9;clear c9;replace H:=Option.bind_eq_some_iff.mp H;obtain ⟨t121, A100, H⟩:=H;replace H : (if t121 = true then (some 7) else (alarm_active.l0 k1 l0 l0 (l0.length : Int) (wrap64 (x10_1 + 1)))) = some r:=H;have A10:=k0_ A100;clear A100
      focus
       by_cases c11 : t121 = true
       subst c11;have H1 : (some 7) = some r:=by rw [if_pos rfl] at H;exact H
       clear H;have H:=H1;clear H1;obtain rfl:=Option.some.inj H;rotate_left;replace c11:=Bool.eq_false_iff.mpr c11;subst c11;have H1 : (alarm_active.l0 k1 l0 l0 (l0.length : Int) (wrap64 (x10_1 + 1))) = some r:=by rw [if_neg (show ¬ (false = true) by decide)] at H;exact H
       clear H;have H:=H1;clear H1;have H':=k0_ H;clear H;rotate_left
      rotate_left 2;rw [if_neg c9] at H
      exact absurd H (by simp)
     rotate_left 2;replace c7:=Bool.eq_false_iff.mpr c7;subst c7;have H1 : (some 6) = some r:=by rw [if_neg (show ¬ (false = true) by decide)] at H;exact H
     clear H;have H:=H1;clear H1;obtain rfl:=Option.some.inj H;rotate_left
    rotate_left 3;rw [if_neg c5] at H
    exact absurd H (by simp)
   rotate_left 3;rw [if_neg c4] at H
   exact absurd H (by simp)
   all_goals
    have p118 : 0 ≤ (x10_1 : Int):=of_decide_eq_true as_;have q118 : x10_1 < (l0.length : Int):=of_decide_eq_true as_;obtain ⟨ad118, e118, hx118_0⟩:=Kd.at_string HR0.out x10_1 p118 q118;cases e118;replace hx118_0:=bt_ HB.out hx118_0;replace p118:=eq_true p118;replace q118:=eq_true q118
   ·go_wp2_with (first|((with_reducible refine gate_callee (f:=105) rfl ?_);refine goesL_ (some 17) rfl rfl Try.func105 (by kernel_rfl) rfl #[.string (rdOf ByteArray.empty l0 x10_1)] rfl mt_ ?_;(with_reducible refine (alarm_named.calls k1 (rdOf ByteArray.empty l0 x10_1) true _ A6.out).mono ?_);rintro e w12 ⟨rfl, hb⟩;refine ⟨_, rfl, ?_⟩;replace HB:=k0_ (below_step (hb0_ HB.out) hb);(try clear hb);(try clear hb2);(try clear hk);(try clear hi);obtain ⟨i013, hi013, _, hsz13, _⟩:=info_parts info9;obtain ⟨hcut13, hA13, hC13⟩:=print_take_of (P:=Try.prog) Value.string (⟨#[]⟩ : ByteArray) 22 9 .i64 Try.underlying22 hi013 hsz13 (some ad118) c0 l0 x10_1 (of_decide_eq_true as_) (of_decide_eq_true as_) HC0.out;have HR120:=k0_ (Kd.C_of_reads (h1:=fun _=>rfl) (hA13 _ (Kd.reads_of_C HR0.out)));have HC120:=k0_ hC13;clear hA13 hC13 hi013 hsz13)|((with_reducible refine gate_callee (f:=46) rfl ?_);refine goesL_ (some 24) rfl rfl Try.func46 (by kernel_rfl) rfl #[.slice (some ad118) (l0.take (x10_1 : Int).toNat).length c0, .string (rdOf ByteArray.empty l0 x10_1)] rfl (by (try simp only [List.map_toArray, List.map_cons, List.map_nil]);first|done|(rw [show (l0.take (x10_1 : Int).toNat).length = x10_1.toNat from (by rw [List.length_take];have h_ : (x10_1 : Int) ≤ (l0.length : Int):=of_decide_eq_true as_;omega)] <;> rfl)|rfl|(simp only [List.length_drop, List.length_take];rfl)) ?_;(with_reducible refine (slices_Contains_string_string.calls k1 _ _ (l0.take (x10_1 : Int).toNat) (rdOf ByteArray.empty l0 x10_1) true _ ?side1 ?side2 A10.out).mono ?_);(case side1=>repeat (first|exact (Kd.C_below HR120.out HB.out)|(with_reducible refine Kd.C_alloc ?_ _)|(with_reducible refine Kd.C_drewN ?_ _)|(with_reducible refine Kd.C_drew ?_)));(case side2=>exact HC120.out);rintro e w' ⟨rfl, ⟨nd, rfl⟩⟩;refine ⟨_, rfl, ?_⟩))
    go_ret
    exact ⟨er_, hb0_ HB.out⟩
   ·go_wp2_with (first|((with_reducible refine gate_callee (f:=105) rfl ?_);refine goesL_ (some 17) rfl rfl Try.func105 (by kernel_rfl) rfl #[.string (rdOf ByteArray.empty l0 x10_1)] rfl mt_ ?_;(with_reducible refine (alarm_named.calls k1 (rdOf ByteArray.empty l0 x10_1) true _ A6.out).mono ?_);rintro e w14 ⟨rfl, hb⟩;refine ⟨_, rfl, ?_⟩;replace HB:=k0_ (below_step (hb0_ HB.out) hb);(try clear hb);(try clear hb2);(try clear hk);(try clear hi);obtain ⟨i015, hi015, _, hsz15, _⟩:=info_parts info9;obtain ⟨hcut15, hA15, hC15⟩:=print_take_of (P:=Try.prog) Value.string (⟨#[]⟩ : ByteArray) 22 9 .i64 Try.underlying22 hi015 hsz15 (some ad118) c0 l0 x10_1 (of_decide_eq_true as_) (of_decide_eq_true as_) HC0.out;have HR120:=k0_ (Kd.C_of_reads (h1:=fun _=>rfl) (hA15 _ (Kd.reads_of_C HR0.out)));have HC120:=k0_ hC15;clear hA15 hC15 hi015 hsz15)|((with_reducible refine gate_callee (f:=46) rfl ?_);refine goesL_ (some 24) rfl rfl Try.func46 (by kernel_rfl) rfl #[.slice (some ad118) (l0.take (x10_1 : Int).toNat).length c0, .string (rdOf ByteArray.empty l0 x10_1)] rfl (by (try simp only [List.map_toArray, List.map_cons, List.map_nil]);first|done|(rw [show (l0.take (x10_1 : Int).toNat).length = x10_1.toNat from (by rw [List.length_take];have h_ : (x10_1 : Int) ≤ (l0.length : Int):=of_decide_eq_true as_;omega)] <;> rfl)|rfl|(simp only [List.length_drop, List.length_take];rfl)) ?_;(with_reducible refine (slices_Contains_string_string.calls k1 _ _ (l0.take (x10_1 : Int).toNat) (rdOf ByteArray.empty l0 x10_1) false _ ?side1 ?side2 A10.out).mono ?_);(case side1=>repeat (first|exact (Kd.C_below HR120.out HB.out)|(with_reducible refine Kd.C_alloc ?_ _)|(with_reducible refine Kd.C_drewN ?_ _)|(with_reducible refine Kd.C_drew ?_)));(case side2=>exact HC120.out);rintro e w' ⟨rfl, ⟨nd, rfl⟩⟩;refine ⟨_, rfl, ?_⟩))
    go_roundg k1
    case measure=>have:=HK1.out;omega
    case rel=>exact ⟨(wrap64 (x10_1 + 1)),rs_, H', ⟨by have:=HK1.out;omega⟩,⟨hb0_ HB.out⟩⟩
   ·go_wp2_with (first|((with_reducible refine gate_callee (f:=105) rfl ?_);refine goesL_ (some 17) rfl rfl Try.func105 (by kernel_rfl) rfl #[.string (rdOf ByteArray.empty l0 x10_1)] rfl mt_ ?_;(with_reducible refine (alarm_named.calls k1 (rdOf ByteArray.empty l0 x10_1) false _ A6.out).mono ?_);rintro e w16 ⟨rfl, hb⟩;refine ⟨_, rfl, ?_⟩;replace HB:=k0_ (below_step (hb0_ HB.out) hb);(try clear hb);(try clear hb2);(try clear hk);(try clear hi)))
    go_ret
    exact ⟨er_, hb0_ HB.out⟩
  ·rw [if_neg c3] at H
   have c3b0:=decide_eq_false c3;clear c3;obtain rfl:=Option.some.inj H;go_wp2
   go_ret
   exact ⟨er_, hb0_ HB.out⟩

end Go.Proofs.Ytefkdkppipdceaa.PAlarmSays
