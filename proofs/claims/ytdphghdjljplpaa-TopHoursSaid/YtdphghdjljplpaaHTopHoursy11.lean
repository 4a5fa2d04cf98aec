/- Contracts of functions that TopHours reaches, a text of this session's own. -/
import Derived.Test.YtdphghdjljplpaaBox2
import Derived.Test.YtdphghdjljplpaaHTopHoursy0
namespace Go.Proofs.Ytdphghdjljplpaa.PTopHours
open Go.RowKit Go.Proofs.YtdphghdjljplpaaW.PrintWords Go.Proofs.YtdphghdjljplpaaW.PrintLast Go.Proofs.YtdphghdjljplpaaW.PrintMore
attribute [local go_sem] max2_int min2_int max_two min_two max_three min_three max_four min_four   -- for this text's walks alone
set_option linter.unusedVariables false
set_option linter.unusedSimpArgs false

/-! ### hours_Check: function 46 -/
def hours_Check.l0 : Nat → List Int → Int → Int → Option (Int)
 | 0, _, _, _ => none
 | k + 1, x8, x9, x10 => if x10 < x9 then (if 0 ≤ x10 then (if x10 < (x8.length : Int) then (if (rd x8 x10) < (-100000) then (some 4) else (if (rd x8 x10) > 100000 then (some 4) else (hours_Check.l0 k x8 x9 (wrap64 (x10 + 1))))) else (none)) else (none)) else (some 0)
def hours_Check.f (k : Nat) (l0 : List Int) : Option (Int) := if (l0.length : Int) > 24 then (some 2) else (hours_Check.l0 k l0 (l0.length : Int) 0)
theorem hours_Check.mono_l : ∀ k, (∀ y0 y1 y2, LeO (hours_Check.l0 k y0 y1 y2) (hours_Check.l0 (k + 1) y0 y1 y2))
 | 0 => fun _ _ _ r h => by simp [hours_Check.l0] at h
 | k + 1 => by
  have ih0:=hours_Check.mono_l k
  ·intro y0 y1 y2
   unfold hours_Check.l0
   repeat' first|(with_reducible first|exact ih0 _ _ _|exact LeO.refl _|exact LeO.none _|refine LeO.ite ?_ ?_|refine LeO.bind ?_ (fun _=>?_))|exact ih0 _ _ _|exact LeO.none _|refine LeO.ite ?_ ?_|refine LeO.bind ?_ (fun _=>?_)
theorem hours_Check.mono : ∀ a0 k, LeO (hours_Check.f k a0) (hours_Check.f (k + 1) a0) := by
 intro a0 k
 have ih0:=hours_Check.mono_l k
 unfold hours_Check.f
 repeat' first|(with_reducible first|exact ih0 _ _ _|exact LeO.refl _|exact LeO.none _|refine LeO.ite ?_ ?_|refine LeO.bind ?_ (fun _=>?_))|exact ih0 _ _ _|exact LeO.none _|refine LeO.ite ?_ ?_|refine LeO.bind ?_ (fun _=>?_)
set_option maxHeartbeats 8000000 in
set_option maxRecDepth 100000 in
theorem hours_Check.calls (k : Nat) (A0 : Option Addr) (c0 : Nat) (l0 : List Int) (r : Int) (w : World) (hr0 : Kd.C (Kd.int .i64) w A0 l0.length l0) (hc0 : l0.length ≤ c0) (h : hours_Check.f k l0 = some r) :
  Calls Try.prog 46 #[.slice A0 l0.length c0] w fun e w' => e = .returned (.int .i64 r) ∧ Drawn0 w w' := by
 have HR0:=k0_ hr0;have HC0:=k0_ hc0;clear hr0 hc0;have H : (if (l0.length : Int) > 24 then (some 2) else (hours_Check.l0 k l0 (l0.length : Int) 0)) = some r:=h;clear h
 by_cases c2 : (l0.length : Int) > 24
 ·rw [if_pos c2] at H
  have c2b0:=decide_eq_true c2;have c2b1 : decide (24 < l0.length) = true:=decide_eq_true (by omega);clear c2;obtain rfl:=Option.some.inj H
  go_enter Try.func46, Try.ntmps46
  go_wp2
  go_ret
  exact ⟨by first|rfl|(simp;done)|(simp [*];done), by repeat (first|exact Drawn0.refl _|apply Drawn0.step)⟩
 ·rw [if_neg c2] at H
  have c2b0:=decide_eq_false c2;have c2b1 : decide (24 < l0.length) = false:=decide_eq_false (by omega);clear c2;have H':=k0_ H;clear H
  go_enter Try.func46, Try.ntmps46
  go_wp2;(try simp only [Act.put, q1_,q3_,q2_])
  go_loopg [10] k (fun kq v10 w'=>∃ (x10_1 : Int), v10 = .int .i64 x10_1∧Aside0 (hours_Check.l0 kq l0 (l0.length : Int) x10_1 = some r)∧Aside0 (kq ≤ k)∧Drawn0 w w')
  case atStart=>exact ⟨(0),rs_, H', ⟨Nat.le_refl _⟩, by repeat (first|exact Drawn0.refl _|apply Drawn0.step)⟩
  clear H';(try clear c2);(try clear c2b0);(try clear c2b1);(try clear p2);obtain ⟨x10_1, rfl, HA, HK1, ⟨m1, rfl⟩⟩:=hrel;obtain _|k1:=gk
  ·exact absurd HA.out (by simp [hours_Check.l0])
  have H:=HA.out;clear HA;simp only [hours_Check.l0] at H
  by_cases c3 : x10_1 < (l0.length : Int)
  ·rw [if_pos c3] at H
   have c3b0:=decide_eq_true c3;clear c3
   by_cases c4 : 0 ≤ x10_1
   rw [if_pos c4] at H;have c4b0:=decide_eq_true c4;clear c4
   focus
    by_cases c5 : x10_1 < (l0.length : Int)
    rw [if_pos c5] at H;have c5b0:=decide_eq_true c5;clear c5
    focus
     by_cases c6 : (rd l0 x10_1) < (-100000)
     rw [if_pos c6] at H;have c6b0:=decide_eq_true c6;clear c6;obtain rfl:=Option.some.inj H;rotate_left;rw [if_neg c6] at H;have c6b0:=decide_eq_false c6;clear c6
     focus
      by_cases c7 : (rd l0 x10_1) > 100000
      rw [if_pos c7] at H;have c7b0:=decide_eq_true c7;clear c7;obtain rfl:=Option.some.inj H;rotate_left;rw [if_neg c7] at H;have c7b0:=decide_eq_false c7;clear c7;have H':=k0_ H;clear H;rotate_left
     rotate_left 2
    rotate_left 3;rw [if_neg c5] at H
    exact absurd H (by simp)
   rotate_left 3;rw [if_neg c4] at H
   exact absurd H (by simp)
   all_goals
    have p214 : 0 ≤ (x10_1 : Int):=of_decide_eq_true as_;have q214 : x10_1 < (l0.length : Int):=of_decide_eq_true as_;obtain ⟨ad214, e214, hx214_0⟩:=Kd.at_int HR0.out x10_1 p214 q214;cases e214;replace p214:=eq_true p214;replace q214:=eq_true q214;go_wp2
   ·go_ret
    exact ⟨by first|rfl|(simp;done)|(simp [*];done), by repeat (first|exact Drawn0.refl _|apply Drawn0.step)⟩
   ·go_ret
    exact ⟨by first|rfl|(simp;done)|(simp [*];done), by repeat (first|exact Drawn0.refl _|apply Drawn0.step)⟩
   ·go_roundg k1
    case measure=>have:=HK1.out;omega
    case rel=>exact ⟨(wrap64 (x10_1 + 1)),rs_, H', ⟨by have:=HK1.out;omega⟩, by repeat (first|exact Drawn0.refl _|apply Drawn0.step)⟩
  ·rw [if_neg c3] at H
   have c3b0:=decide_eq_false c3;clear c3;obtain rfl:=Option.some.inj H;go_wp2
   go_ret
   exact ⟨by first|rfl|(simp;done)|(simp [*];done), by repeat (first|exact Drawn0.refl _|apply Drawn0.step)⟩

/-! ### hours_Errors: function 11 -/
def hours_Errors.l0 : Nat → List Int → Int → Int → Int → List Int → Int → Int → Option (Int × Int × Int × Int)
 | 0, _, _, _, _, _, _, _ => none
 | k + 1, x0, x10, x11, x12, x31, x32, x33 => if x33 < x32 then (if 0 ≤ x33 then (if x33 < (x31.length : Int) then (if x33 < (x0.length : Int) then (hours_Errors.l0 k x0 (mx (mx x10 (wrap64 ((rd x31 x33) - (rd x0 x33)))) (wrap64 (-(wrap64 ((rd x31 x33) - (rd x0 x33)))))) (wrap64 (x11 + (wrap64 ((rd x31 x33) - (rd x0 x33))))) (wrap64 (x12 + (wrap64 ((wrap64 ((rd x31 x33) - (rd x0 x33))) * (wrap64 ((rd x31 x33) - (rd x0 x33))))))) x31 x32 (wrap64 (x33 + 1))) else (none)) else (none)) else (none)) else (some (x10, x11, x12, 0))
def hours_Errors.f (k : Nat) (l0 : List Int) (l1 : List Int) : Option (Int × Int × Int × Int) := (hours_Check.f k l0).bind fun t215 => (if t215 = 0 then ((hours_Check.f k l1).bind fun t216 => (if t216 = 0 then (if (l0.length : Int) = (l1.length : Int) then (hours_Errors.l0 k l0 0 0 0 l1 (l1.length : Int) 0) else (some (0, 0, 0, 3))) else (some (0, 0, 0, t216)))) else (some (0, 0, 0, t215)))
theorem hours_Errors.mono_l : ∀ k, (∀ y0 y1 y2 y3 y4 y5 y6, LeO (hours_Errors.l0 k y0 y1 y2 y3 y4 y5 y6) (hours_Errors.l0 (k + 1) y0 y1 y2 y3 y4 y5 y6))
 | 0 => fun _ _ _ _ _ _ _ r h => by simp [hours_Errors.l0] at h
 | k + 1 => by
  have ih0:=hours_Errors.mono_l k
  ·intro y0 y1 y2 y3 y4 y5 y6
   unfold hours_Errors.l0
   repeat' first|(with_reducible first|exact ih0 _ _ _ _ _ _ _|exact hours_Check.mono _ _|exact LeO.refl _|exact LeO.none _|refine LeO.ite ?_ ?_|refine LeO.bind ?_ (fun _=>?_))|exact ih0 _ _ _ _ _ _ _|exact hours_Check.mono _ _|exact LeO.none _|refine LeO.ite ?_ ?_|refine LeO.bind ?_ (fun _=>?_)
theorem hours_Errors.mono : ∀ a0 a1 k, LeO (hours_Errors.f k a0 a1) (hours_Errors.f (k + 1) a0 a1) := by
 intro a0 a1 k
 have ih0:=hours_Errors.mono_l k
 unfold hours_Errors.f
 repeat' first|(with_reducible first|exact ih0 _ _ _ _ _ _ _|exact hours_Check.mono _ _|exact LeO.refl _|exact LeO.none _|refine LeO.ite ?_ ?_|refine LeO.bind ?_ (fun _=>?_))|exact ih0 _ _ _ _ _ _ _|exact hours_Check.mono _ _|exact LeO.none _|refine LeO.ite ?_ ?_|refine LeO.bind ?_ (fun _=>?_)
set_option maxHeartbeats 8000000 in
set_option maxRecDepth 100000 in
theorem hours_Errors.calls (k : Nat) (A0 : Option Addr) (c0 : Nat) (l0 : List Int) (A1 : Option Addr) (c1 : Nat) (l1 : List Int) (r1 : Int) (r2 : Int) (r3 : Int) (r4 : Int) (w : World) (hr0 : Kd.C (Kd.int .i64) w A0 l0.length l0) (hc0 : l0.length ≤ c0) (hr1 : Kd.C (Kd.int .i64) w A1 l1.length l1) (hc1 : l1.length ≤ c1) (h : hours_Errors.f k l0 l1 = some (r1, r2, r3, r4)) :
  Calls Try.prog 11 #[.slice A0 l0.length c0, .slice A1 l1.length c1] w fun e w' => e = .returned (.tuple #[.int .i64 r1, .int .i64 r2, .int .i64 r3, .int .i64 r4]) ∧ Below w.heap.size w w' := by
 have HR0:=k0_ hr0;have HC0:=k0_ hc0;clear hr0 hc0;have HR1:=k0_ hr1;have HC1:=k0_ hc1;clear hr1 hc1;have HB:=k0_ (Below.refl w.heap.size w);have H : ((hours_Check.f k l0).bind fun t215=>(if t215 = 0 then ((hours_Check.f k l1).bind fun t216=>(if t216 = 0 then (if (l0.length : Int) = (l1.length : Int) then (hours_Errors.l0 k l0 0 0 0 l1 (l1.length : Int) 0) else (some (0, 0, 0, 3))) else (some (0, 0, 0, t216)))) else (some (0, 0, 0, t215)))) = some (r1, r2, r3, r4):=h;clear h;replace H:=Option.bind_eq_some_iff.mp H;obtain ⟨t215, A30, H⟩:=H;replace H : (if t215 = 0 then ((hours_Check.f k l1).bind fun t216=>(if t216 = 0 then (if (l0.length : Int) = (l1.length : Int) then (hours_Errors.l0 k l0 0 0 0 l1 (l1.length : Int) 0) else (some (0, 0, 0, 3))) else (some (0, 0, 0, t216)))) else (some (0, 0, 0, t215))) = some (r1, r2, r3, r4):=H;have A3:=k0_ A30;clear A30
 by_cases c4 : t215 = 0
 ·rw [if_pos c4] at H
  have c4b0:=beq_iff_eq.mpr c4;have c4b1:=bne_eq_false_iff_eq.mpr c4;clear c4;replace H:=Option.bind_eq_some_iff.mp H;obtain ⟨t216, A50, H⟩:=H;replace H : (if t216 = 0 then (if (l0.length : Int) = (l1.length : Int) then (hours_Errors.l0 k l0 0 0 0 l1 (l1.length : Int) 0) else (some (0, 0, 0, 3))) else (some (0, 0, 0, t216))) = some (r1, r2, r3, r4):=H;have A5:=k0_ A50;clear A50
  by_cases c6 : t216 = 0
  ·rw [if_pos c6] at H
   have c6b0:=beq_iff_eq.mpr c6;have c6b1:=bne_eq_false_iff_eq.mpr c6;clear c6
   by_cases c7 : (l0.length : Int) = (l1.length : Int)
   ·rw [if_pos c7] at H
    have c7b0:=beq_iff_eq.mpr c7;have c7b1:=bne_eq_false_iff_eq.mpr c7;have c7b2 : (l0.length == l1.length) = true:=by first|simpa using c7|(simp at c7 ⊢;omega)
    clear c7;have H':=k0_ H;clear H
    go_enter Try.func11, Try.ntmps11
    go_wp2_with (first|((with_reducible refine gate_callee (f:=46) rfl ?_);refine goesL_ (some 17) rfl rfl Try.func46 (by kernel_rfl) rfl #[.slice A0 l0.length c0] rfl mt_ ?_;(with_reducible refine (hours_Check.calls k _ _ l0 t215 _ ?side1 ?side2 A3.out).mono ?_);(case side1=>repeat (first|exact HR0.out|(with_reducible refine Kd.C_alloc ?_ _)|(with_reducible refine Kd.C_drewN ?_ _)|(with_reducible refine Kd.C_drew ?_)));(case side2=>exact HC0.out);rintro e w' ⟨rfl, ⟨nd, rfl⟩⟩;refine ⟨_, rfl, ?_⟩)|((with_reducible refine gate_callee (f:=46) rfl ?_);refine goesL_ (some 22) rfl rfl Try.func46 (by kernel_rfl) rfl #[.slice A1 l1.length c1] rfl mt_ ?_;(with_reducible refine (hours_Check.calls k _ _ l1 t216 _ ?side1 ?side2 A5.out).mono ?_);(case side1=>repeat (first|exact HR1.out|(with_reducible refine Kd.C_alloc ?_ _)|(with_reducible refine Kd.C_drewN ?_ _)|(with_reducible refine Kd.C_drew ?_)));(case side2=>exact HC1.out);rintro e w' ⟨rfl, ⟨nd, rfl⟩⟩;refine ⟨_, rfl, ?_⟩))
    (try simp only [Act.put, q1_,q3_,q2_])
    go_loopg [10, 11, 12, 33] k (fun kq v10 v11 v12 v33 w'=>∃ (x10_1 : Int) (x11_1 : Int) (x12_1 : Int) (x33_1 : Int), v10 = .int .i64 x10_1∧v11 = .int .i64 x11_1∧v12 = .int .i64 x12_1∧v33 = .int .i64 x33_1∧Aside0 (hours_Errors.l0 kq l0 x10_1 x11_1 x12_1 l1 (l1.length : Int) x33_1 = some (r1, r2, r3, r4))∧Aside0 (kq ≤ k)∧Aside0 (Below w.heap.size w w'))
    case atStart=>exact ⟨(0),(0),(0),(0),rs_,rs_,rs_,rs_, H', ⟨Nat.le_refl _⟩,⟨hb0_ HB.out⟩⟩
    clear H';(try clear c1);(try clear p2);(try clear c4);(try clear c4b0);(try clear c4b1);(try clear c6);(try clear c6b0);(try clear c6b1);(try clear c7);(try clear c7b0);(try clear c7b1);(try clear c7b2);obtain ⟨x10_1, x11_1, x12_1, x33_1, rfl, rfl, rfl, rfl, HA, HK1, HB⟩:=hrel;obtain _|k1:=gk
    ·exact absurd HA.out (by simp [hours_Errors.l0])
    have H:=HA.out;clear HA;simp only [hours_Errors.l0] at H
    by_cases c8 : x33_1 < (l1.length : Int)
    ·rw [if_pos c8] at H
     have c8b0:=decide_eq_true c8;clear c8
     obtain ⟨c9,H⟩:=gi_ H;have c9b0:=decide_eq_true c9;clear c9
     obtain ⟨c10,H⟩:=gi_ H;have c10b0:=decide_eq_true c10;clear c10
     obtain ⟨c11,H⟩:=gi_ H;have c11b0:=decide_eq_true c11;clear c11;obtain ⟨ji12, hji12⟩ : ∃ j_ : Int, (mx x10_1 (wrap64 ((rd l1 x33_1) - (rd l0 x33_1)))) = j_:=⟨_, rfl⟩;replace H : (hours_Errors.l0 k1 l0 (mx (ji12) (wrap64 (-(wrap64 ((rd l1 x33_1) - (rd l0 x33_1)))))) (wrap64 (x11_1 + (wrap64 ((rd l1 x33_1) - (rd l0 x33_1))))) (wrap64 (x12_1 + (wrap64 ((wrap64 ((rd l1 x33_1) - (rd l0 x33_1))) * (wrap64 ((rd l1 x33_1) - (rd l0 x33_1))))))) l1 (l1.length : Int) (wrap64 (x33_1 + 1))) = some (r1, r2, r3, r4):=by first|(rw [hji12] at H;exact H)|(simp only [hji12] at H ⊢;exact H)
     have hji12_ : (if x10_1 < (wrap64 ((rd l1 x33_1) - (rd l0 x33_1))) then (wrap64 ((rd l1 x33_1) - (rd l0 x33_1))) else x10_1) = ji12:=hji12;obtain ⟨ji13, hji13⟩ : ∃ j_ : Int, (mx (ji12) (wrap64 (-(wrap64 ((rd l1 x33_1) - (rd l0 x33_1)))))) = j_:=⟨_, rfl⟩;replace H : (hours_Errors.l0 k1 l0 ji13 (wrap64 (x11_1 + (wrap64 ((rd l1 x33_1) - (rd l0 x33_1))))) (wrap64 (x12_1 + (wrap64 ((wrap64 ((rd l1 x33_1) - (rd l0 x33_1))) * (wrap64 ((rd l1 x33_1) - (rd l0 x33_1))))))) l1 (l1.length : Int) (wrap64 (x33_1 + 1))) = some (r1, r2, r3, r4):=by first|(rw [hji13] at H;exact H)|(simp only [hji13] at H ⊢;exact H)
     have hji13_ : (if (ji12) < (wrap64 (-(wrap64 ((rd l1 x33_1) - (rd l0 x33_1))))) then (wrap64 (-(wrap64 ((rd l1 x33_1) - (rd l0 x33_1))))) else (ji12)) = ji13:=hji13;have H':=k0_ H;clear H;have p217 : 0 ≤ (x33_1 : Int):=of_decide_eq_true as_;have q217 : x33_1 < (l1.length : Int):=of_decide_eq_true as_;obtain ⟨ad217, e217, hx217_0⟩:=Kd.at_int HR1.out x33_1 p217 q217;cases e217;replace hx217_0:=bt_ HB.out hx217_0;replace p217:=eq_true p217;replace q217:=eq_true q217;have p218 : 0 ≤ (x33_1 : Int):=of_decide_eq_true as_;have q218 : x33_1 < (l0.length : Int):=of_decide_eq_true as_;obtain ⟨ad218, e218, hx218_0⟩:=Kd.at_int HR0.out x33_1 p218 q218;cases e218;replace hx218_0:=bt_ HB.out hx218_0;replace p218:=eq_true p218;replace q218:=eq_true q218;go_wp2
     go_roundg k1
     case measure=>have:=HK1.out;omega
     case rel=>exact ⟨(ji13),(wrap64 (x11_1 + (wrap64 ((rd l1 x33_1) - (rd l0 x33_1))))),(wrap64 (x12_1 + (wrap64 ((wrap64 ((rd l1 x33_1) - (rd l0 x33_1))) * (wrap64 ((rd l1 x33_1) - (rd l0 x33_1))))))),(wrap64 (x33_1 + 1)),(by first|rfl|(simp;done)|(simp only [← hji13] <;> (first|rfl|simp))|(simp [*];done)),rs_,rs_,rs_, H', ⟨by have:=HK1.out;omega⟩,⟨hb0_ HB.out⟩⟩
    ·rw [if_neg c8] at H
     have c8b0:=decide_eq_false c8;clear c8;simp only [Option.some.injEq, Prod.mk.injEq] at H;obtain ⟨rfl, rfl, rfl, rfl⟩:=H;go_wp2;refine bodyPost_ret (results_list (rs:=[.tmp 4, .tmp 5, .tmp 6, .tmp 7]) rfl (by simp) (.tmp (.tmp (.tmp (.tmp .nil))))) rfl ?_
     exact ⟨er_, hb0_ HB.out⟩
   ·rw [if_neg c7] at H
    have c7b0:=beq_eq_false_iff_ne.mpr c7;have c7b1:=bne_iff_ne.mpr c7;have c7b2 : (l0.length == l1.length) = false:=by first|simpa using c7|(simp at c7 ⊢;omega)
    simp only [Option.some.injEq, Prod.mk.injEq] at H;obtain ⟨rfl, rfl, rfl, rfl⟩:=H
    go_enter Try.func11, Try.ntmps11
    go_wp2_with (first|((with_reducible refine gate_callee (f:=46) rfl ?_);refine goesL_ (some 17) rfl rfl Try.func46 (by kernel_rfl) rfl #[.slice A0 l0.length c0] rfl mt_ ?_;(with_reducible refine (hours_Check.calls k _ _ l0 t215 _ ?side1 ?side2 A3.out).mono ?_);(case side1=>repeat (first|exact HR0.out|(with_reducible refine Kd.C_alloc ?_ _)|(with_reducible refine Kd.C_drewN ?_ _)|(with_reducible refine Kd.C_drew ?_)));(case side2=>exact HC0.out);rintro e w' ⟨rfl, ⟨nd, rfl⟩⟩;refine ⟨_, rfl, ?_⟩)|((with_reducible refine gate_callee (f:=46) rfl ?_);refine goesL_ (some 22) rfl rfl Try.func46 (by kernel_rfl) rfl #[.slice A1 l1.length c1] rfl mt_ ?_;(with_reducible refine (hours_Check.calls k _ _ l1 t216 _ ?side1 ?side2 A5.out).mono ?_);(case side1=>repeat (first|exact HR1.out|(with_reducible refine Kd.C_alloc ?_ _)|(with_reducible refine Kd.C_drewN ?_ _)|(with_reducible refine Kd.C_drew ?_)));(case side2=>exact HC1.out);rintro e w' ⟨rfl, ⟨nd, rfl⟩⟩;refine ⟨_, rfl, ?_⟩))
    refine bodyPost_ret (results_list (rs:=[.tmp 4, .tmp 5, .tmp 6, .tmp 7]) rfl (by simp) (.tmp (.tmp (.tmp (.tmp .nil))))) rfl ?_
    exact ⟨er_, hb0_ HB.out⟩
  ·rw [if_neg c6] at H
   have c6b0:=beq_eq_false_iff_ne.mpr c6;have c6b1:=bne_iff_ne.mpr c6;simp only [Option.some.injEq, Prod.mk.injEq] at H;obtain ⟨rfl, rfl, rfl, rfl⟩:=H
   go_enter Try.func11, Try.ntmps11
   go_wp2_with (first|((with_reducible refine gate_callee (f:=46) rfl ?_);refine goesL_ (some 17) rfl rfl Try.func46 (by kernel_rfl) rfl #[.slice A0 l0.length c0] rfl mt_ ?_;(with_reducible refine (hours_Check.calls k _ _ l0 t215 _ ?side1 ?side2 A3.out).mono ?_);(case side1=>repeat (first|exact HR0.out|(with_reducible refine Kd.C_alloc ?_ _)|(with_reducible refine Kd.C_drewN ?_ _)|(with_reducible refine Kd.C_drew ?_)));(case side2=>exact HC0.out);rintro e w' ⟨rfl, ⟨nd, rfl⟩⟩;refine ⟨_, rfl, ?_⟩)|((with_reducible refine gate_callee (f:=46) rfl ?_);refine goesL_ (some 22) rfl rfl Try.func46 (by kernel_rfl) rfl #[.slice A1 l1.length c1] rfl mt_ ?_;(with_reducible refine (hours_Check.calls k _ _ l1 t216 _ ?side1 ?side2 A5.out).mono ?_);(case side1=>repeat (first|exact HR1.out|(with_reducible refine Kd.C_alloc ?_ _)|(with_reducible refine Kd.C_drewN ?_ _)|(with_reducible refine Kd.C_drew ?_)));(case side2=>exact HC1.out);rintro e w' ⟨rfl, ⟨nd, rfl⟩⟩;refine ⟨_, rfl, ?_⟩))
   refine bodyPost_ret (results_list (rs:=[.tmp 4, .tmp 5, .tmp 6, .tmp 7]) rfl (by simp) (.tmp (.tmp (.tmp (.tmp .nil))))) rfl ?_
   exact ⟨er_, hb0_ HB.out⟩
 ·rw [if_neg c4] at H
  have c4b0:=beq_eq_false_iff_ne.mpr c4;have c4b1:=bne_iff_ne.mpr c4;simp only [Option.some.injEq, Prod.mk.injEq] at H;obtain ⟨rfl, rfl, rfl, rfl⟩:=H
  go_enter Try.func11, Try.ntmps11
  go_wp2_with (first|((with_reducible refine gate_callee (f:=46) rfl ?_);refine goesL_ (some 17) rfl rfl Try.func46 (by kernel_rfl) rfl #[.slice A0 l0.length c0] rfl mt_ ?_;(with_reducible refine (hours_Check.calls k _ _ l0 t215 _ ?side1 ?side2 A3.out).mono ?_);(case side1=>repeat (first|exact HR0.out|(with_reducible refine Kd.C_alloc ?_ _)|(with_reducible refine Kd.C_drewN ?_ _)|(with_reducible refine Kd.C_drew ?_)));(case side2=>exact HC0.out);rintro e w' ⟨rfl, ⟨nd, rfl⟩⟩;refine ⟨_, rfl, ?_⟩))
  refine bodyPost_ret (results_list (rs:=[.tmp 4, .tmp 5, .tmp 6, .tmp 7]) rfl (by simp) (.tmp (.tmp (.tmp (.tmp .nil))))) rfl ?_
  exact ⟨er_, hb0_ HB.out⟩

-- NOT PRINTED: function 82 (api_Errno_82)

-- NOT PRINTED: function 47 (api_Errno_47)

/-! ### gridhalltop_bFine_1: function 48 -/
def gridhalltop_bFine_1.f (a0 : Int) : Option (Bool) := some (a0 != 0)
set_option maxHeartbeats 8000000 in
set_option maxRecDepth 100000 in
theorem gridhalltop_bFine_1.calls (a0 : Int) (r : Bool) (w : World) (h : gridhalltop_bFine_1.f a0 = some r) :
  Calls Try.prog 48 #[.int .i64 a0] w fun e w' => e = .returned (.bool r) ∧ Drawn0 w w' := by
 have H : (some (a0 != 0)) = some r:=h;clear h;obtain rfl:=Option.some.inj H
 go_enter Try.func48, Try.ntmps48
 go_wp2
 go_ret
 exact ⟨by first|rfl|(simp;done)|(simp [*];done), by repeat (first|exact Drawn0.refl _|apply Drawn0.step)⟩

/-! ### slices_IndexFunc_of_bFine_1: function 152 -/
def slices_IndexFunc_of_bFine_1.l0 : Nat → List Int → Int → Int → Option (Int)
 | 0, _, _, _ => none
 | k + 1, x0, x7, x8 => if x8 < x7 then (if 0 ≤ x8 then (if x8 < (x0.length : Int) then ((gridhalltop_bFine_1.f (rd x0 x8)).bind fun t220 => (if t220 = true then (some x8) else (slices_IndexFunc_of_bFine_1.l0 k x0 x7 (wrap64 (x8 + 1))))) else (none)) else (none)) else (some (-1))
def slices_IndexFunc_of_bFine_1.f (k : Nat) (l0 : List Int)  : Option (Int) := slices_IndexFunc_of_bFine_1.l0 k l0 (l0.length : Int) 0
theorem slices_IndexFunc_of_bFine_1.mono_l : ∀ k, (∀ y0 y1 y2, LeO (slices_IndexFunc_of_bFine_1.l0 k y0 y1 y2) (slices_IndexFunc_of_bFine_1.l0 (k + 1) y0 y1 y2))
 | 0 => fun _ _ _ r h => by simp [slices_IndexFunc_of_bFine_1.l0] at h
 | k + 1 => by
  have ih0:=slices_IndexFunc_of_bFine_1.mono_l k
  ·intro y0 y1 y2
   unfold slices_IndexFunc_of_bFine_1.l0
   repeat' first|(with_reducible first|exact ih0 _ _ _|exact LeO.refl _|exact LeO.none _|refine LeO.ite ?_ ?_|refine LeO.bind ?_ (fun _=>?_))|exact ih0 _ _ _|exact LeO.none _|refine LeO.ite ?_ ?_|refine LeO.bind ?_ (fun _=>?_)
theorem slices_IndexFunc_of_bFine_1.mono : ∀ a0 k, LeO (slices_IndexFunc_of_bFine_1.f k a0) (slices_IndexFunc_of_bFine_1.f (k + 1) a0) := by
 intro a0 k
 have ih0:=slices_IndexFunc_of_bFine_1.mono_l k
 unfold slices_IndexFunc_of_bFine_1.f
 repeat' first|(with_reducible first|exact ih0 _ _ _|exact LeO.refl _|exact LeO.none _|refine LeO.ite ?_ ?_|refine LeO.bind ?_ (fun _=>?_))|exact ih0 _ _ _|exact LeO.none _|refine LeO.ite ?_ ?_|refine LeO.bind ?_ (fun _=>?_)
set_option maxHeartbeats 8000000 in
set_option maxRecDepth 100000 in
theorem slices_IndexFunc_of_bFine_1.calls (k : Nat) (A0 : Option Addr) (c0 : Nat) (l0 : List Int)  (r : Int) (w : World) (hr0 : Kd.C (Kd.int .i64) w A0 l0.length l0) (hc0 : l0.length ≤ c0) (h : slices_IndexFunc_of_bFine_1.f k l0 = some r) :
  Calls Try.prog 82 #[.slice A0 l0.length c0, .func (.func 48) #[] #[]] w fun e w' => e = .returned (.int .i64 r) ∧ Drawn0 w w' := by
 have HR0:=k0_ hr0;have HC0:=k0_ hc0;clear hr0 hc0;have H : (slices_IndexFunc_of_bFine_1.l0 k l0 (l0.length : Int) 0) = some r:=h;clear h;have H':=k0_ H;clear H
 go_enter Try.func82, Try.ntmps82
 go_wp2;(try simp only [Act.put, q1_,q3_,q2_])
 go_loopg [8] k (fun kq v8 w'=>∃ (x8_1 : Int), v8 = .int .i64 x8_1∧Aside0 (slices_IndexFunc_of_bFine_1.l0 kq l0 (l0.length : Int) x8_1 = some r)∧Aside0 (kq ≤ k)∧Drawn0 w w')
 case atStart=>exact ⟨(0),rs_, H', ⟨Nat.le_refl _⟩, by repeat (first|exact Drawn0.refl _|apply Drawn0.step)⟩
 clear H';(try clear p2);obtain ⟨x8_1, rfl, HA, HK1, ⟨m1, rfl⟩⟩:=hrel;obtain _|k1:=gk
 ·exact absurd HA.out (by simp [slices_IndexFunc_of_bFine_1.l0])
 have H:=HA.out;clear HA;simp only [slices_IndexFunc_of_bFine_1.l0] at H
 by_cases c3 : x8_1 < (l0.length : Int)
 ·rw [if_pos c3] at H
  have c3b0:=decide_eq_true c3;clear c3
  by_cases c4 : 0 ≤ x8_1
  rw [if_pos c4] at H;have c4b0:=decide_eq_true c4;clear c4
  focus
   by_cases c5 : x8_1 < (l0.length : Int)
   rw [if_pos c5] at H;have c5b0:=decide_eq_true c5;clear c5;replace H:=Option.bind_eq_some_iff.mp H;obtain ⟨t220, A60, H⟩:=H;replace H : (if t220 = true then (some x8_1) else (slices_IndexFunc_of_bFine_1.l0 k1 l0 (l0.length : Int) (wrap64 (x8_1 + 1)))) = some r:=H;have A6:=k0_ A60;clear A60
   focus
    by_cases c7 : t220 = true
    subst c7;have H1 : (some x8_1) = some r:=by rw [if_pos rfl] at H;exact H
    clear H;have H:=H1;clear H1;obtain rfl:=Option.some.inj H;rotate_left;replace c7:=Bool.eq_false_iff.mpr c7;subst c7;have H1 : (slices_IndexFunc_of_bFine_1.l0 k1 l0 (l0.length : Int) (wrap64 (x8_1 + 1))) = some r:=by rw [if_neg (show ¬ (false = true) by decide)] at H;exact H
    clear H;have H:=H1;clear H1;have H':=k0_ H;clear H;rotate_left
   rotate_left 2;rw [if_neg c5] at H
   exact absurd H (by simp)
  rotate_left 2;rw [if_neg c4] at H
  exact absurd H (by simp)
  all_goals
   have p219 : 0 ≤ (x8_1 : Int):=of_decide_eq_true as_;have q219 : x8_1 < (l0.length : Int):=of_decide_eq_true as_;obtain ⟨ad219, e219, hx219_0⟩:=Kd.at_int HR0.out x8_1 p219 q219;cases e219;replace p219:=eq_true p219;replace q219:=eq_true q219
  ·go_wp2_with (first|(go_at_call 48;(with_reducible refine (gridhalltop_bFine_1.calls (rd l0 x8_1) true _ A6.out).mono ?_);rintro e w' ⟨rfl, ⟨nd, rfl⟩⟩))
   go_ret
   exact ⟨by first|rfl|(simp;done)|(simp [*];done), by repeat (first|exact Drawn0.refl _|apply Drawn0.step)⟩
  ·go_wp2_with (first|(go_at_call 48;(with_reducible refine (gridhalltop_bFine_1.calls (rd l0 x8_1) false _ A6.out).mono ?_);rintro e w' ⟨rfl, ⟨nd, rfl⟩⟩))
   go_roundg k1
   case measure=>have:=HK1.out;omega
   case rel=>exact ⟨(wrap64 (x8_1 + 1)),rs_, H', ⟨by have:=HK1.out;omega⟩, by repeat (first|exact Drawn0.refl _|apply Drawn0.step)⟩
 ·rw [if_neg c3] at H
  have c3b0:=decide_eq_false c3;clear c3;obtain rfl:=Option.some.inj H;go_wp2
  go_ret
  exact ⟨by first|rfl|(simp;done)|(simp [*];done), by repeat (first|exact Drawn0.refl _|apply Drawn0.step)⟩

/-! ### slices_ContainsFunc_of_bFine_1: function 151 -/
def slices_ContainsFunc_of_bFine_1.f (k : Nat) (l0 : List Int)  : Option (Bool) := (slices_IndexFunc_of_bFine_1.f k l0).bind fun t221 => (some (decide (t221 ≥ 0)))
theorem slices_ContainsFunc_of_bFine_1.mono : ∀ a0 k, LeO (slices_ContainsFunc_of_bFine_1.f k a0) (slices_ContainsFunc_of_bFine_1.f (k + 1) a0) := by
 intro a0 k
 unfold slices_ContainsFunc_of_bFine_1.f
 repeat' first|(with_reducible first|exact slices_IndexFunc_of_bFine_1.mono _ _|exact LeO.refl _|exact LeO.none _|refine LeO.ite ?_ ?_|refine LeO.bind ?_ (fun _=>?_))|exact slices_IndexFunc_of_bFine_1.mono _ _|exact LeO.none _|refine LeO.ite ?_ ?_|refine LeO.bind ?_ (fun _=>?_)
set_option maxHeartbeats 8000000 in
set_option maxRecDepth 100000 in
theorem slices_ContainsFunc_of_bFine_1.calls (k : Nat) (A0 : Option Addr) (c0 : Nat) (l0 : List Int)  (r : Bool) (w : World) (hr0 : Kd.C (Kd.int .i64) w A0 l0.length l0) (hc0 : l0.length ≤ c0) (h : slices_ContainsFunc_of_bFine_1.f k l0 = some r) :
  Calls Try.prog 47 #[.slice A0 l0.length c0, .func (.func 48) #[] #[]] w fun e w' => e = .returned (.bool r) ∧ Drawn0 w w' := by
 have HR0:=k0_ hr0;have HC0:=k0_ hc0;clear hr0 hc0;have H : ((slices_IndexFunc_of_bFine_1.f k l0).bind fun t221=>(some (decide (t221 ≥ 0)))) = some r:=h;clear h;replace H:=Option.bind_eq_some_iff.mp H;obtain ⟨t221, A30, H⟩:=H;replace H : (some (decide (t221 ≥ 0))) = some r:=H;have A3:=k0_ A30;clear A30;obtain rfl:=Option.some.inj H
 go_enter Try.func47, Try.ntmps47
 go_wp2_with (first|((with_reducible refine gate_callee (f:=82) rfl ?_);refine goesL_ (some 7) rfl rfl Try.func82 (by kernel_rfl) rfl #[.slice A0 l0.length c0, .func (.func 48) #[] #[]] rfl mt_ ?_;(with_reducible refine (slices_IndexFunc_of_bFine_1.calls k _ _ l0  t221 _ ?side1 ?side2 A3.out).mono ?_);(case side1=>repeat (first|exact HR0.out|(with_reducible refine Kd.C_alloc ?_ _)|(with_reducible refine Kd.C_drewN ?_ _)|(with_reducible refine Kd.C_drew ?_)));(case side2=>exact HC0.out);rintro e w' ⟨rfl, ⟨nd, rfl⟩⟩;refine ⟨_, rfl, ?_⟩))
 go_ret
 exact ⟨by first|rfl|(simp;done)|(simp [*];done), by repeat (first|exact Drawn0.refl _|apply Drawn0.step)⟩

/-! ### gridhalltop_bFine: function 12 -/
def gridhalltop_bFine.f (k : Nat) (l0 : List Int) : Option (Bool) := (slices_ContainsFunc_of_bFine_1.f k l0).bind fun t222 => (some (!t222))
theorem gridhalltop_bFine.mono : ∀ a0 k, LeO (gridhalltop_bFine.f k a0) (gridhalltop_bFine.f (k + 1) a0) := by
 intro a0 k
 unfold gridhalltop_bFine.f
 repeat' first|(with_reducible first|exact slices_ContainsFunc_of_bFine_1.mono _ _|exact LeO.refl _|exact LeO.none _|refine LeO.ite ?_ ?_|refine LeO.bind ?_ (fun _=>?_))|exact slices_ContainsFunc_of_bFine_1.mono _ _|exact LeO.none _|refine LeO.ite ?_ ?_|refine LeO.bind ?_ (fun _=>?_)
set_option maxHeartbeats 8000000 in
set_option maxRecDepth 100000 in
theorem gridhalltop_bFine.calls (k : Nat) (A0 : Option Addr) (c0 : Nat) (l0 : List Int) (r : Bool) (w : World) (hr0 : Kd.C (Kd.int .i64) w A0 l0.length l0) (hc0 : l0.length ≤ c0) (h : gridhalltop_bFine.f k l0 = some r) :
  Calls Try.prog 12 #[.slice A0 l0.length c0] w fun e w' => e = .returned (.bool r) ∧ Drawn0 w w' := by
 have HR0:=k0_ hr0;have HC0:=k0_ hc0;clear hr0 hc0;have H : ((slices_ContainsFunc_of_bFine_1.f k l0).bind fun t222=>(some (!t222))) = some r:=h;clear h;replace H:=Option.bind_eq_some_iff.mp H;obtain ⟨t222, A20, H⟩:=H;replace H : (some (!t222)) = some r:=H;have A2:=k0_ A20;clear A20;obtain rfl:=Option.some.inj H
 go_enter Try.func12, Try.ntmps12
 go_wp2_with (first|((with_reducible refine gate_callee (f:=47) rfl ?_);refine goesL_ (some 4) rfl rfl Try.func47 (by kernel_rfl) rfl #[.slice A0 l0.length c0, .func (.func 48) #[] #[]] rfl mt_ ?_;(with_reducible refine (slices_ContainsFunc_of_bFine_1.calls k _ _ l0  t222 _ ?side1 ?side2 A2.out).mono ?_);(case side1=>repeat (first|exact HR0.out|(with_reducible refine Kd.C_alloc ?_ _)|(with_reducible refine Kd.C_drewN ?_ _)|(with_reducible refine Kd.C_drew ?_)));(case side2=>exact HC0.out);rintro e w' ⟨rfl, ⟨nd, rfl⟩⟩;refine ⟨_, rfl, ?_⟩))
 go_ret
 exact ⟨by first|rfl|(simp;done)|(simp [*];done), by repeat (first|exact Drawn0.refl _|apply Drawn0.step)⟩

end Go.Proofs.Ytdphghdjljplpaa.PTopHours
