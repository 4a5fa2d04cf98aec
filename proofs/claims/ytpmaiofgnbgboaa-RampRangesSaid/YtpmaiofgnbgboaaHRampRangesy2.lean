/- Contracts of functions that RampRanges reaches, a text of this session's own. -/
import Derived.Test.YtpmaiofgnbgboaaBox2
import Derived.Test.YtpmaiofgnbgboaaHRampRangesy0
namespace Go.Proofs.Ytpmaiofgnbgboaa.PRampRanges
open Go.RowKit Go.Proofs.YtpmaiofgnbgboaaW.PrintWords Go.Proofs.YtpmaiofgnbgboaaW.PrintLast Go.Proofs.YtpmaiofgnbgboaaW.PrintMore
attribute [local go_sem] max2_int min2_int max_two min_two max_three min_three max_four min_four   -- for this text's walks alone
set_option linter.unusedVariables false
set_option linter.unusedSimpArgs false

/-! ### ramp_Check: function 35 -/
def ramp_Check.l0 : Nat → Int → Int → Int → List (S30) → Int → Int → Option (Int)
 | 0, _, _, _, _, _, _ => none
 | k + 1, x1, x2, x3, x14, x15, x16 => if x16 < x15 then (if 0 ≤ x16 then (if x16 < (x14.length : Int) then (if ((rd_T30 x14 x16).f0) < 0 then (some 4) else (if ((rd_T30 x14 x16).f0) > ((rd_T30 x14 x16).f1) then (some 4) else (if ((rd_T30 x14 x16).f1) > 100000 then (some 4) else (ramp_Check.l0 k x1 x2 x3 x14 x15 (wrap64 (x16 + 1)))))) else (none)) else (none)) else (if x1 < 0 then (some 4) else (if x1 > 100000 then (some 4) else (if x2 < 0 then (some 4) else (if x2 > 100000 then (some 4) else (if x3 < 0 then (some 4) else (if x3 > 100000 then (some 4) else (some 0)))))))
def ramp_Check.f (k : Nat) (l0 : List (S30)) (a1 : Int) (a2 : Int) (a3 : Int) : Option (Int) := if (l0.length : Int) > 24 then (some 2) else (ramp_Check.l0 k a1 a2 a3 l0 (l0.length : Int) 0)
theorem ramp_Check.mono_l : ∀ k, (∀ y0 y1 y2 y3 y4 y5, LeO (ramp_Check.l0 k y0 y1 y2 y3 y4 y5) (ramp_Check.l0 (k + 1) y0 y1 y2 y3 y4 y5))
 | 0 => fun _ _ _ _ _ _ r h => by simp [ramp_Check.l0] at h
 | k + 1 => by
  have ih0:=ramp_Check.mono_l k
  ·intro y0 y1 y2 y3 y4 y5
   unfold ramp_Check.l0
   repeat' first|(with_reducible first|exact ih0 _ _ _ _ _ _|exact LeO.refl _|exact LeO.none _|refine LeO.ite ?_ ?_|refine LeO.bind ?_ (fun _=>?_))|exact ih0 _ _ _ _ _ _|exact LeO.none _|refine LeO.ite ?_ ?_|refine LeO.bind ?_ (fun _=>?_)
theorem ramp_Check.mono : ∀ a0 a1 a2 a3 k, LeO (ramp_Check.f k a0 a1 a2 a3) (ramp_Check.f (k + 1) a0 a1 a2 a3) := by
 intro a0 a1 a2 a3 k
 have ih0:=ramp_Check.mono_l k
 unfold ramp_Check.f
 repeat' first|(with_reducible first|exact ih0 _ _ _ _ _ _|exact LeO.refl _|exact LeO.none _|refine LeO.ite ?_ ?_|refine LeO.bind ?_ (fun _=>?_))|exact ih0 _ _ _ _ _ _|exact LeO.none _|refine LeO.ite ?_ ?_|refine LeO.bind ?_ (fun _=>?_)
set_option maxHeartbeats 8000000 in
set_option maxRecDepth 100000 in
theorem ramp_Check.calls (k : Nat) (A0 : Option Addr) (c0 : Nat) (l0 : List (S30)) (a1 : Int) (a2 : Int) (a3 : Int) (r : Int) (w : World) (hr0 : Kd.C k30 w A0 l0.length l0) (hc0 : l0.length ≤ c0) (h : ramp_Check.f k l0 a1 a2 a3 = some r) :
  Calls Try.prog 35 #[.slice A0 l0.length c0, .int .i64 a1, .int .i64 a2, .int .i64 a3] w fun e w' => e = .returned (.int .i64 r) ∧ Below w.heap.size w w' := by
 have hu30:=Try.underlying30;have HR0:=k0_ hr0;have HC0:=k0_ hc0;clear hr0 hc0;have HB:=k0_ (Below.refl w.heap.size w);have H : (if (l0.length : Int) > 24 then (some 2) else (ramp_Check.l0 k a1 a2 a3 l0 (l0.length : Int) 0)) = some r:=h;clear h
 by_cases c5 : (l0.length : Int) > 24
 ·rw [if_pos c5] at H
  have c5b0:=decide_eq_true c5;have c5b1 : decide (24 < l0.length) = true:=decide_eq_true (by omega);clear c5;obtain rfl:=Option.some.inj H
  go_enter Try.func35, Try.ntmps35
  go_wp2
  go_ret
  exact ⟨er_, hb0_ HB.out⟩
 ·rw [if_neg c5] at H
  have c5b0:=decide_eq_false c5;have c5b1 : decide (24 < l0.length) = false:=decide_eq_false (by omega);clear c5;have H':=k0_ H;clear H
  go_enter Try.func35, Try.ntmps35
  go_wp2;(try simp only [Act.put, q1_,q3_,q2_])
  go_loopg [16] k (fun kq v16 w'=>∃ (x16_1 : Int), v16 = .int .i64 x16_1∧Aside0 (ramp_Check.l0 kq a1 a2 a3 l0 (l0.length : Int) x16_1 = some r)∧Aside0 (kq ≤ k)∧Aside0 (Below w.heap.size w w'))
  case atStart=>exact ⟨(0),rs_, H', ⟨Nat.le_refl _⟩,⟨hb0_ HB.out⟩⟩
  clear H';(try clear p2);(try clear c3);(try clear c5);(try clear c5b0);(try clear c5b1);obtain ⟨x16_1, rfl, HA, HK1, HB⟩:=hrel;obtain _|k1:=gk
  ·exact absurd HA.out (by simp [ramp_Check.l0])
  have H:=HA.out;clear HA;simp only [ramp_Check.l0] at H
  by_cases c6 : x16_1 < (l0.length : Int)
  ·rw [if_pos c6] at H
   have c6b0:=decide_eq_true c6;clear c6
   by_cases c7 : 0 ≤ x16_1
   rw [if_pos c7] at H;have c7b0:=decide_eq_true c7;clear c7
   focus
    by_cases c8 : x16_1 < (l0.length : Int)
    rw [if_pos c8] at H;have c8b0:=decide_eq_true c8;clear c8
    focus
     by_cases c9 : ((rd_T30 l0 x16_1).f0) < 0
     rw [if_pos c9] at H;have c9b0:=decide_eq_true c9;clear c9;obtain rfl:=Option.some.inj H;rotate_left;rw [if_neg c9] at H;have c9b0:=decide_eq_false c9;clear c9
     focus
      by_cases c12 : ((rd_T30 l0 x16_1).f0) > ((rd_T30 l0 x16_1).f1)
      rw [if_pos c12] at H;have c12b0:=decide_eq_true c12;clear c12;obtain rfl:=Option.some.inj H;rotate_left;rw [if_neg c12] at H;have c12b0:=decide_eq_false c12;clear c12
      focus
       by_cases c15 : ((rd_T30 l0 x16_1).f1) > 100000
       rw [if_pos c15] at H;have c15b0:=decide_eq_true c15;clear c15;obtain rfl:=Option.some.inj H;rotate_left;rw [if_neg c15] at H;have c15b0:=decide_eq_false c15;clear c15;have H':=k0_ H;clear H;rotate_left
      rotate_left 2
     rotate_left 3
    rotate_left 4;rw [if_neg c8] at H
    exact absurd H (by simp)
   rotate_left 4;rw [if_neg c7] at H
   exact absurd H (by simp)
   all_goals
    have p101 : 0 ≤ (x16_1 : Int):=of_decide_eq_true as_;have q101 : x16_1 < (l0.length : Int):=of_decide_eq_true as_;obtain ⟨ad101, e101, hx101_0, hx101_1⟩:=at_T30 HR0.out x16_1 p101 q101;cases e101;replace hx101_0:=bt_ HB.out hx101_0;replace hx101_1:=bt_ HB.out hx101_1;replace p101:=eq_true p101;replace q101:=eq_true q101
    go_wp2_with (first|((with_reducible refine gate_dst (N:=10) rfl ?_);refine box_event ?hg (N:=10) ?hd (cs:=#[.int .i64 0, .int .i64 0]) (t:=30) ?hr ?_;(case hd=>rfl);(case hg=>rfl);(case hr=>first|(go_simp;done)|(go_simp;rfl));intro gb102 hg w10 hbox hb;have BK102:=k0_ (hbox);have GW102:=k0_ ((by rw [hg];exact (below_size (hb0_ HB.out)) : w.heap.size ≤ gb102));have GE102:=k0_ ((by rw [hg];exact (below_size (hb0_ HB.out)) : w.heap.size ≤ gb102));replace HB:=k0_ (below_step (hb0_ HB.out) hb);clear hb hbox hg;obtain ⟨hcz11_0,hcz11_1⟩:=bc2_ BK102.out;obtain ⟨hfz11_0,hfz11_1⟩:=bf2_ BK102.out))
   ·go_ret
    exact ⟨er_, hb1_ HB.out GE102.out⟩
   ·go_ret
    exact ⟨er_, hb1_ HB.out GE102.out⟩
   ·go_ret
    exact ⟨er_, hb1_ HB.out GE102.out⟩
   ·go_roundg k1
    case measure=>have:=HK1.out;omega
    case rel=>exact ⟨(wrap64 (x16_1 + 1)),rs_, H', ⟨by have:=HK1.out;omega⟩,⟨hb1_ HB.out GE102.out⟩⟩
  ·rw [if_neg c6] at H
   have c6b0:=decide_eq_false c6;clear c6
   by_cases c20 : a1 < 0
   ·rw [if_pos c20] at H
    have c20b0:=decide_eq_true c20;clear c20;obtain rfl:=Option.some.inj H;go_wp2
    go_ret
    exact ⟨er_, hb0_ HB.out⟩
   ·rw [if_neg c20] at H
    have c20b0:=decide_eq_false c20;clear c20
    by_cases c21 : a1 > 100000
    ·rw [if_pos c21] at H
     have c21b0:=decide_eq_true c21;clear c21;obtain rfl:=Option.some.inj H;go_wp2
     go_ret
     exact ⟨er_, hb0_ HB.out⟩
    ·rw [if_neg c21] at H
     have c21b0:=decide_eq_false c21;clear c21
     by_cases c22 : a2 < 0
     ·rw [if_pos c22] at H
      have c22b0:=decide_eq_true c22;clear c22;obtain rfl:=Option.some.inj H;go_wp2
      go_ret
      exact ⟨er_, hb0_ HB.out⟩
     ·rw [if_neg c22] at H
      have c22b0:=decide_eq_false c22;clear c22
      by_cases c23 : a2 > 100000
      ·rw [if_pos c23] at H
       have c23b0:=decide_eq_true c23;clear c23;obtain rfl:=Option.some.inj H;go_wp2
       go_ret
       exact ⟨er_, hb0_ HB.out⟩
      ·rw [if_neg c23] at H
       have c23b0:=decide_eq_false c23;clear c23
       by_cases c24 : a3 < 0
       ·rw [if_pos c24] at H
        have c24b0:=decide_eq_true c24;clear c24;obtain rfl:=Option.some.inj H;go_wp2
        go_ret
        exact ⟨er_, hb0_ HB.out⟩
       ·rw [if_neg c24] at H
        have c24b0:=decide_eq_false c24;clear c24
        by_cases c25 : a3 > 100000
        ·rw [if_pos c25] at H
         have c25b0:=decide_eq_true c25;clear c25;obtain rfl:=Option.some.inj H;go_wp2
         go_ret
         exact ⟨er_, hb0_ HB.out⟩
        ·rw [if_neg c25] at H
         have c25b0:=decide_eq_false c25;clear c25;obtain rfl:=Option.some.inj H;go_wp2
         go_ret
         exact ⟨er_, hb0_ HB.out⟩

end Go.Proofs.Ytpmaiofgnbgboaa.PRampRanges
