/- Contracts of functions that RampRanges reaches, a text of this session's own. -/
import Derived.Test.YtpmaiofgnbgboaaBox2
import Derived.Test.YtpmaiofgnbgboaaHRampRangesy0
import Derived.Test.YtpmaiofgnbgboaaHRampRangesy3
namespace Go.Proofs.Ytpmaiofgnbgboaa.PRampRanges
open Go.RowKit Go.Proofs.YtpmaiofgnbgboaaW.PrintWords Go.Proofs.YtpmaiofgnbgboaaW.PrintLast Go.Proofs.YtpmaiofgnbgboaaW.PrintMore
attribute [local go_sem] max2_int min2_int max_two min_two max_three min_three max_four min_four   -- for this text's walks alone
set_option linter.unusedVariables false
set_option linter.unusedSimpArgs false

/-! ### gridhalllaw3_rampError: function 11 -/
def gridhalllaw3_rampError.l0 : Nat → Int → Int → Int → List (S30) → Int → Int → Option (Int)
 | 0, _, _, _, _, _, _ => none
 | k + 1, x1, x2, x3, x14, x15, x16 => if x16 < x15 then (if 0 ≤ x16 then (if x16 < (x14.length : Int) then ((gridhallref3_In.f ((rd_T30 x14 x16).f0) 0 ((rd_T30 x14 x16).f1)).bind fun t118 => (if t118 = true then (if ((rd_T30 x14 x16).f1) > 100000 then (some 4) else (gridhalllaw3_rampError.l0 k x1 x2 x3 x14 x15 (wrap64 (x16 + 1)))) else (some 4))) else (none)) else (none)) else ((gridhallref3_In.f x1 0 100000).bind fun t119 => (if t119 = true then ((gridhallref3_In.f x2 0 100000).bind fun t120 => (if t120 = true then ((gridhallref3_In.f x3 0 100000).bind fun t121 => (if t121 = true then (some 0) else (some 4))) else (some 4))) else (some 4)))
def gridhalllaw3_rampError.f (k : Nat) (l0 : List (S30)) (a1 : Int) (a2 : Int) (a3 : Int) : Option (Int) := if (l0.length : Int) > 24 then (some 2) else (gridhalllaw3_rampError.l0 k a1 a2 a3 l0 (l0.length : Int) 0)
theorem gridhalllaw3_rampError.mono_l : ∀ k, (∀ y0 y1 y2 y3 y4 y5, LeO (gridhalllaw3_rampError.l0 k y0 y1 y2 y3 y4 y5) (gridhalllaw3_rampError.l0 (k + 1) y0 y1 y2 y3 y4 y5))
 | 0 => fun _ _ _ _ _ _ r h => by simp [gridhalllaw3_rampError.l0] at h
 | k + 1 => by
  have ih0:=gridhalllaw3_rampError.mono_l k
  ·intro y0 y1 y2 y3 y4 y5
   unfold gridhalllaw3_rampError.l0
   repeat' first|(with_reducible first|exact ih0 _ _ _ _ _ _|exact LeO.refl _|exact LeO.none _|refine LeO.ite ?_ ?_|refine LeO.bind ?_ (fun _=>?_))|exact ih0 _ _ _ _ _ _|exact LeO.none _|refine LeO.ite ?_ ?_|refine LeO.bind ?_ (fun _=>?_)
theorem gridhalllaw3_rampError.mono : ∀ a0 a1 a2 a3 k, LeO (gridhalllaw3_rampError.f k a0 a1 a2 a3) (gridhalllaw3_rampError.f (k + 1) a0 a1 a2 a3) := by
 intro a0 a1 a2 a3 k
 have ih0:=gridhalllaw3_rampError.mono_l k
 unfold gridhalllaw3_rampError.f
 repeat' first|(with_reducible first|exact ih0 _ _ _ _ _ _|exact LeO.refl _|exact LeO.none _|refine LeO.ite ?_ ?_|refine LeO.bind ?_ (fun _=>?_))|exact ih0 _ _ _ _ _ _|exact LeO.none _|refine LeO.ite ?_ ?_|refine LeO.bind ?_ (fun _=>?_)
set_option maxHeartbeats 8000000 in
set_option maxRecDepth 100000 in
theorem gridhalllaw3_rampError.calls (k : Nat) (A0 : Option Addr) (c0 : Nat) (l0 : List (S30)) (a1 : Int) (a2 : Int) (a3 : Int) (r : Int) (w : World) (hr0 : Kd.C k30 w A0 l0.length l0) (hc0 : l0.length ≤ c0) (h : gridhalllaw3_rampError.f k l0 a1 a2 a3 = some r) :
  Calls Try.prog 11 #[.slice A0 l0.length c0, .int .i64 a1, .int .i64 a2, .int .i64 a3] w fun e w' => e = .returned (.int .i64 r) ∧ Below w.heap.size w w' := by
 have hu30:=Try.underlying30;have HR0:=k0_ hr0;have HC0:=k0_ hc0;clear hr0 hc0;have HB:=k0_ (Below.refl w.heap.size w);have H : (if (l0.length : Int) > 24 then (some 2) else (gridhalllaw3_rampError.l0 k a1 a2 a3 l0 (l0.length : Int) 0)) = some r:=h;clear h
 by_cases c5 : (l0.length : Int) > 24
 ·rw [if_pos c5] at H
  have c5b0:=decide_eq_true c5;have c5b1 : decide (24 < l0.length) = true:=decide_eq_true (by omega);clear c5;obtain rfl:=Option.some.inj H
  go_enter Try.func11, Try.ntmps11
  go_wp2
  go_ret
  exact ⟨er_, hb0_ HB.out⟩
 ·rw [if_neg c5] at H
  have c5b0:=decide_eq_false c5;have c5b1 : decide (24 < l0.length) = false:=decide_eq_false (by omega);clear c5;have H':=k0_ H;clear H
  go_enter Try.func11, Try.ntmps11
  go_wp2;(try simp only [Act.put, q1_,q3_,q2_])
  go_loopg [16] k (fun kq v16 w'=>∃ (x16_1 : Int), v16 = .int .i64 x16_1∧Aside0 (gridhalllaw3_rampError.l0 kq a1 a2 a3 l0 (l0.length : Int) x16_1 = some r)∧Aside0 (kq ≤ k)∧Aside0 (Below w.heap.size w w'))
  case atStart=>exact ⟨(0),rs_, H', ⟨Nat.le_refl _⟩,⟨hb0_ HB.out⟩⟩
  clear H';(try clear c1);(try clear p2);(try clear c5);(try clear c5b0);(try clear c5b1);obtain ⟨x16_1, rfl, HA, HK1, HB⟩:=hrel;obtain _|k1:=gk
  ·exact absurd HA.out (by simp [gridhalllaw3_rampError.l0])
  have H:=HA.out;clear HA;simp only [gridhalllaw3_rampError.l0] at H
  by_cases c6 : x16_1 < (l0.length : Int)
  ·rw [if_pos c6] at H
   have c6b0:=decide_eq_true c6;clear c6
   obtain ⟨c7,H⟩:=gi_ H;have c7b0:=decide_eq_true c7;clear c7
   obtain ⟨c8,H⟩:=gi_ H;have c8b0:=decide_eq_true c8;clear c8;replace H:=Option.bind_eq_some_iff.mp H;obtain ⟨t118, A90, H⟩:=H;replace H : (if t118 = true then (if ((rd_T30 l0 x16_1).f1) > 100000 then (some 4) else (gridhalllaw3_rampError.l0 k1 a1 a2 a3 l0 (l0.length : Int) (wrap64 (x16_1 + 1)))) else (some 4)) = some r:=H;have A9:=k0_ A90;clear A90
   by_cases c10 : t118 = true
   ·subst c10
    have H1 : (if ((rd_T30 l0 x16_1).f1) > 100000 then (some 4) else (gridhalllaw3_rampError.l0 k1 a1 a2 a3 l0 (l0.length : Int) (wrap64 (x16_1 + 1)))) = some r:=by rw [if_pos rfl] at H;exact H
    clear H;have H:=H1;clear H1
    by_cases c11 : ((rd_T30 l0 x16_1).f1) > 100000
    rw [if_pos c11] at H;have c11b0:=decide_eq_true c11;clear c11;obtain rfl:=Option.some.inj H;rotate_left;rw [if_neg c11] at H;have c11b0:=decide_eq_false c11;clear c11;have H':=k0_ H;clear H;rotate_left
    all_goals
     have p116 : 0 ≤ (x16_1 : Int):=of_decide_eq_true as_;have q116 : x16_1 < (l0.length : Int):=of_decide_eq_true as_;obtain ⟨ad116, e116, hx116_0, hx116_1⟩:=at_T30 HR0.out x16_1 p116 q116;cases e116;replace hx116_0:=bt_ HB.out hx116_0;replace hx116_1:=bt_ HB.out hx116_1;replace p116:=eq_true p116;replace q116:=eq_true q116
     go_wp2_with (first|((with_reducible refine gate_dst (N:=10) rfl ?_);refine box_event ?hg (N:=10) ?hd (cs:=#[.int .i64 0, .int .i64 0]) (t:=30) ?hr ?_;(case hd=>rfl);(case hg=>rfl);(case hr=>first|(go_simp;done)|(go_simp;rfl));intro gb117 hg w12 hbox hb;have BK117:=k0_ (hbox);have GW117:=k0_ ((by rw [hg];exact (below_size (hb0_ HB.out)) : w.heap.size ≤ gb117));have GE117:=k0_ ((by rw [hg];exact (below_size (hb0_ HB.out)) : w.heap.size ≤ gb117));replace HB:=k0_ (below_step (hb0_ HB.out) hb);clear hb hbox hg;obtain ⟨hcz13_0,hcz13_1⟩:=bc2_ BK117.out;obtain ⟨hfz13_0,hfz13_1⟩:=bf2_ BK117.out)|((with_reducible refine gate_callee (f:=12) rfl ?_);refine goesL_ (some 24) rfl rfl Try.func12 (by kernel_rfl) rfl #[.int .i64 ((rd_T30 l0 x16_1).f0), .int .i64 0, .int .i64 ((rd_T30 l0 x16_1).f1)] rfl mt_ ?_;(with_reducible refine (gridhallref3_In.calls ((rd_T30 l0 x16_1).f0) 0 ((rd_T30 l0 x16_1).f1) true _ A9.out).mono ?_);rintro e w' ⟨rfl, ⟨nd, rfl⟩⟩;refine ⟨_, rfl, ?_⟩))
    ·go_ret
     exact ⟨er_, hb1_ HB.out GE117.out⟩
    ·go_roundg k1
     case measure=>have:=HK1.out;omega
     case rel=>exact ⟨(wrap64 (x16_1 + 1)),rs_, H', ⟨by have:=HK1.out;omega⟩,⟨hb1_ HB.out GE117.out⟩⟩
   ·replace c10:=Bool.eq_false_iff.mpr c10
    subst c10;have H1 : (some 4) = some r:=by rw [if_neg (show ¬ (false = true) by decide)] at H;exact H
    clear H;have H:=H1;clear H1;obtain rfl:=Option.some.inj H;have p116 : 0 ≤ (x16_1 : Int):=of_decide_eq_true as_;have q116 : x16_1 < (l0.length : Int):=of_decide_eq_true as_;obtain ⟨ad116, e116, hx116_0, hx116_1⟩:=at_T30 HR0.out x16_1 p116 q116;cases e116;replace hx116_0:=bt_ HB.out hx116_0;replace hx116_1:=bt_ HB.out hx116_1;replace p116:=eq_true p116;replace q116:=eq_true q116
    go_wp2_with (first|((with_reducible refine gate_dst (N:=10) rfl ?_);refine box_event ?hg (N:=10) ?hd (cs:=#[.int .i64 0, .int .i64 0]) (t:=30) ?hr ?_;(case hd=>rfl);(case hg=>rfl);(case hr=>first|(go_simp;done)|(go_simp;rfl));intro gb117 hg w16 hbox hb;have BK117:=k0_ (hbox);have GW117:=k0_ ((by rw [hg];exact (below_size (hb0_ HB.out)) : w.heap.size ≤ gb117));have GE117:=k0_ ((by rw [hg];exact (below_size (hb0_ HB.out)) : w.heap.size ≤ gb117));replace HB:=k0_ (below_step (hb0_ HB.out) hb);clear hb hbox hg;obtain ⟨hcz17_0,hcz17_1⟩:=bc2_ BK117.out;obtain ⟨hfz17_0,hfz17_1⟩:=bf2_ BK117.out)|((with_reducible refine gate_callee (f:=12) rfl ?_);refine goesL_ (some 24) rfl rfl Try.func12 (by kernel_rfl) rfl #[.int .i64 ((rd_T30 l0 x16_1).f0), .int .i64 0, .int .i64 ((rd_T30 l0 x16_1).f1)] rfl mt_ ?_;(with_reducible refine (gridhallref3_In.calls ((rd_T30 l0 x16_1).f0) 0 ((rd_T30 l0 x16_1).f1) false _ A9.out).mono ?_);rintro e w' ⟨rfl, ⟨nd, rfl⟩⟩;refine ⟨_, rfl, ?_⟩))
    go_ret
    exact ⟨er_, hb1_ HB.out GE117.out⟩
  ·rw [if_neg c6] at H
   have c6b0:=decide_eq_false c6;clear c6;replace H:=Option.bind_eq_some_iff.mp H;obtain ⟨t119, A180, H⟩:=H;replace H : (if t119 = true then ((gridhallref3_In.f a2 0 100000).bind fun t120=>(if t120 = true then ((gridhallref3_In.f a3 0 100000).bind fun t121=>(if t121 = true then (some 0) else (some 4))) else (some 4))) else (some 4)) = some r:=H;have A18:=k0_ A180;clear A180
   by_cases c19 : t119 = true
   ·subst c19
    have H1 : ((gridhallref3_In.f a2 0 100000).bind fun t120=>(if t120 = true then ((gridhallref3_In.f a3 0 100000).bind fun t121=>(if t121 = true then (some 0) else (some 4))) else (some 4))) = some r:=by rw [if_pos rfl] at H;exact H
    clear H;have H:=H1;clear H1;replace H:=Option.bind_eq_some_iff.mp H;obtain ⟨t120, A200, H⟩:=H;replace H : (if t120 = true then ((gridhallref3_In.f a3 0 100000).bind fun t121=>(if t121 = true then (some 0) else (some 4))) else (some 4)) = some r:=H;have A20:=k0_ A200;clear A200
    by_cases c21 : t120 = true
    ·subst c21
     have H1 : ((gridhallref3_In.f a3 0 100000).bind fun t121=>(if t121 = true then (some 0) else (some 4))) = some r:=by rw [if_pos rfl] at H;exact H
     clear H;have H:=H1;clear H1;replace H:=Option.bind_eq_some_iff.mp H;obtain ⟨t121, A220, H⟩:=H;replace H : (if t121 = true then (some 0) else (some 4)) = some r:=H;have A22:=k0_ A220;clear A220
     by_cases c23 : t121 = true
     ·subst c23
      have H1 : (some 0) = some r:=by rw [if_pos rfl] at H;exact H
      clear H;have H:=H1;clear H1;obtain rfl:=Option.some.inj H
      go_wp2_with (first|((with_reducible refine gate_callee (f:=12) rfl ?_);refine goesL_ (some 33) rfl rfl Try.func12 (by kernel_rfl) rfl #[.int .i64 a1, .int .i64 0, .int .i64 100000] rfl mt_ ?_;(with_reducible refine (gridhallref3_In.calls a1 0 100000 true _ A18.out).mono ?_);rintro e w' ⟨rfl, ⟨nd, rfl⟩⟩;refine ⟨_, rfl, ?_⟩)|(go_at_call 12;(with_reducible refine (gridhallref3_In.calls a2 0 100000 true _ A20.out).mono ?_);rintro e w' ⟨rfl, ⟨nd, rfl⟩⟩)|(go_at_call 12;(with_reducible refine (gridhallref3_In.calls a3 0 100000 true _ A22.out).mono ?_);rintro e w' ⟨rfl, ⟨nd, rfl⟩⟩))
      go_ret
      exact ⟨er_, hb0_ HB.out⟩
     ·replace c23:=Bool.eq_false_iff.mpr c23
      subst c23;have H1 : (some 4) = some r:=by rw [if_neg (show ¬ (false = true) by decide)] at H;exact H
      clear H;have H:=H1;clear H1;obtain rfl:=Option.some.inj H
      go_wp2_with (first|((with_reducible refine gate_callee (f:=12) rfl ?_);refine goesL_ (some 33) rfl rfl Try.func12 (by kernel_rfl) rfl #[.int .i64 a1, .int .i64 0, .int .i64 100000] rfl mt_ ?_;(with_reducible refine (gridhallref3_In.calls a1 0 100000 true _ A18.out).mono ?_);rintro e w' ⟨rfl, ⟨nd, rfl⟩⟩;refine ⟨_, rfl, ?_⟩)|(go_at_call 12;(with_reducible refine (gridhallref3_In.calls a2 0 100000 true _ A20.out).mono ?_);rintro e w' ⟨rfl, ⟨nd, rfl⟩⟩)|(go_at_call 12;(with_reducible refine (gridhallref3_In.calls a3 0 100000 false _ A22.out).mono ?_);rintro e w' ⟨rfl, ⟨nd, rfl⟩⟩))
      go_ret
      exact ⟨er_, hb0_ HB.out⟩
    ·replace c21:=Bool.eq_false_iff.mpr c21
     subst c21;have H1 : (some 4) = some r:=by rw [if_neg (show ¬ (false = true) by decide)] at H;exact H
     clear H;have H:=H1;clear H1;obtain rfl:=Option.some.inj H
     go_wp2_with (first|((with_reducible refine gate_callee (f:=12) rfl ?_);refine goesL_ (some 33) rfl rfl Try.func12 (by kernel_rfl) rfl #[.int .i64 a1, .int .i64 0, .int .i64 100000] rfl mt_ ?_;(with_reducible refine (gridhallref3_In.calls a1 0 100000 true _ A18.out).mono ?_);rintro e w' ⟨rfl, ⟨nd, rfl⟩⟩;refine ⟨_, rfl, ?_⟩)|(go_at_call 12;(with_reducible refine (gridhallref3_In.calls a2 0 100000 false _ A20.out).mono ?_);rintro e w' ⟨rfl, ⟨nd, rfl⟩⟩))
     go_ret
     exact ⟨er_, hb0_ HB.out⟩
   ·replace c19:=Bool.eq_false_iff.mpr c19
    subst c19;have H1 : (some 4) = some r:=by rw [if_neg (show ¬ (false = true) by decide)] at H;exact H
    clear H;have H:=H1;clear H1;obtain rfl:=Option.some.inj H
    go_wp2_with (first|((with_reducible refine gate_callee (f:=12) rfl ?_);refine goesL_ (some 33) rfl rfl Try.func12 (by kernel_rfl) rfl #[.int .i64 a1, .int .i64 0, .int .i64 100000] rfl mt_ ?_;(with_reducible refine (gridhallref3_In.calls a1 0 100000 false _ A18.out).mono ?_);rintro e w' ⟨rfl, ⟨nd, rfl⟩⟩;refine ⟨_, rfl, ?_⟩))
    go_ret
    exact ⟨er_, hb0_ HB.out⟩

end Go.Proofs.Ytpmaiofgnbgboaa.PRampRanges
