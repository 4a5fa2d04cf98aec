/- Contracts of functions that UpkeepBest reaches, a text of this session's own. -/
import Derived.Test.YtielinaielicbaaBox2
import Derived.Test.YtielinaielicbaaHUpkeepBesty0
namespace Go.Proofs.Ytielinaielicbaa.PUpkeepBest
open Go.RowKit Go.Proofs.YtielinaielicbaaW.PrintWords Go.Proofs.YtielinaielicbaaW.PrintLast Go.Proofs.YtielinaielicbaaW.PrintMore
attribute [local go_sem] max2_int min2_int max_two min_two max_three min_three max_four min_four   -- for this text's walks alone
set_option linter.unusedVariables false
set_option linter.unusedSimpArgs false

/-! ### gridhallref4_In: function 23 -/
def gridhallref4_In.f (a0 : Int) (a1 : Int) (a2 : Int) : Option (Bool) := if a0 ≥ a1 then (some (decide (a0 ≤ a2))) else (some false)
set_option maxHeartbeats 8000000 in
set_option maxRecDepth 100000 in
theorem gridhallref4_In.calls (a0 : Int) (a1 : Int) (a2 : Int) (r : Bool) (w : World) (h : gridhallref4_In.f a0 a1 a2 = some r) :
  Calls Try.prog 23 #[.int .i64 a0, .int .i64 a1, .int .i64 a2] w fun e w' => e = .returned (.bool r) ∧ Drawn0 w w' := by
 have H : (if a0 ≥ a1 then (some (decide (a0 ≤ a2))) else (some false)) = some r:=h;clear h
 by_cases c4 : a0 ≥ a1
 ·rw [if_pos c4] at H
  have c4b0:=decide_eq_true c4;clear c4;obtain rfl:=Option.some.inj H
  go_enter Try.func23, Try.ntmps23
  go_wp2
  go_ret
  exact ⟨by first|rfl|(simp;done)|(simp [*];done), by repeat (first|exact Drawn0.refl _|apply Drawn0.step)⟩
 ·rw [if_neg c4] at H
  have c4b0:=decide_eq_false c4;clear c4;obtain rfl:=Option.some.inj H
  go_enter Try.func23, Try.ntmps23
  go_wp2
  go_ret
  exact ⟨by first|rfl|(simp;done)|(simp [*];done), by repeat (first|exact Drawn0.refl _|apply Drawn0.step)⟩

/-! ### gridhallref4_Named: function 49 -/
mutual
def gridhallref4_Named.j0 : Nat → ByteArray → Bool → Option (Bool)
 | 0, _, _ => none
 | k + 1, x0, x23 => if x23 = true then (some false) else (gridhallref4_Named.l0 k x0 (x0.size : Int) 0)
def gridhallref4_Named.l0 : Nat → ByteArray → Int → Int → Option (Bool)
 | 0, _, _, _ => none
 | k + 1, x0, x25, x26 => if x26 < x25 then (if 0 ≤ x26 then (if x26 < (x0.size : Int) then (if (bt x0 x26) ≥ 65 then (if ((bt x0 x26) ≤ 90) then (gridhallref4_Named.l0 k x0 x25 (wrap64 (x26 + 1))) else (if (bt x0 x26) ≥ 48 then (if ((bt x0 x26) ≤ 57) then (gridhallref4_Named.l0 k x0 x25 (wrap64 (x26 + 1))) else (some false)) else (some false))) else (if (bt x0 x26) ≥ 48 then (if ((bt x0 x26) ≤ 57) then (gridhallref4_Named.l0 k x0 x25 (wrap64 (x26 + 1))) else (some false)) else (some false))) else (none)) else (none)) else (some true)
end
def gridhallref4_Named.f (k : Nat) (a0 : ByteArray) : Option (Bool) := if (a0.size : Int) < 1 then (gridhallref4_Named.j0 k a0 true) else (if (a0.size : Int) > 8 then (gridhallref4_Named.j0 k a0 true) else (if 0 < (a0.size : Int) then (if (bt a0 0) ≥ 65 then (gridhallref4_Named.j0 k a0 (!(decide ((bt a0 0) ≤ 90)))) else (gridhallref4_Named.j0 k a0 (!false))) else (none)))
theorem gridhallref4_Named.mono_l : ∀ k, (∀ y0 y1, LeO (gridhallref4_Named.j0 k y0 y1) (gridhallref4_Named.j0 (k + 1) y0 y1)) ∧ (∀ y0 y1 y2, LeO (gridhallref4_Named.l0 k y0 y1 y2) (gridhallref4_Named.l0 (k + 1) y0 y1 y2))
 | 0 => ⟨fun _ _ r h => by simp [gridhallref4_Named.j0] at h, fun _ _ _ r h => by simp [gridhallref4_Named.l0] at h⟩
 | k + 1 => by
  obtain ⟨ih0, ih1⟩:=gridhallref4_Named.mono_l k
  refine ⟨?_, ?_⟩
  ·intro y0 y1
   unfold gridhallref4_Named.j0
   repeat' first|(with_reducible first|exact ih0 _ _|exact ih1 _ _ _|exact LeO.refl _|exact LeO.none _|refine LeO.ite ?_ ?_|refine LeO.bind ?_ (fun _=>?_))|exact ih0 _ _|exact ih1 _ _ _|exact LeO.none _|refine LeO.ite ?_ ?_|refine LeO.bind ?_ (fun _=>?_)
  ·intro y0 y1 y2
   unfold gridhallref4_Named.l0
   repeat' first|(with_reducible first|exact ih0 _ _|exact ih1 _ _ _|exact LeO.refl _|exact LeO.none _|refine LeO.ite ?_ ?_|refine LeO.bind ?_ (fun _=>?_))|exact ih0 _ _|exact ih1 _ _ _|exact LeO.none _|refine LeO.ite ?_ ?_|refine LeO.bind ?_ (fun _=>?_)
theorem gridhallref4_Named.mono : ∀ a0 k, LeO (gridhallref4_Named.f k a0) (gridhallref4_Named.f (k + 1) a0) := by
 intro a0 k
 obtain ⟨ih0, ih1⟩:=gridhallref4_Named.mono_l k
 unfold gridhallref4_Named.f
 repeat' first|(with_reducible first|exact ih0 _ _|exact ih1 _ _ _|exact LeO.refl _|exact LeO.none _|refine LeO.ite ?_ ?_|refine LeO.bind ?_ (fun _=>?_))|exact ih0 _ _|exact ih1 _ _ _|exact LeO.none _|refine LeO.ite ?_ ?_|refine LeO.bind ?_ (fun _=>?_)
set_option maxHeartbeats 8000000 in
set_option maxRecDepth 100000 in
theorem gridhallref4_Named.calls (k : Nat) (a0 : ByteArray) (r : Bool) (w : World) (h : gridhallref4_Named.f k a0 = some r) :
  Calls Try.prog 49 #[.string a0] w fun e w' => e = .returned (.bool r) ∧ Drawn0 w w' := by
 have H : (if (a0.size : Int) < 1 then (gridhallref4_Named.j0 k a0 true) else (if (a0.size : Int) > 8 then (gridhallref4_Named.j0 k a0 true) else (if 0 < (a0.size : Int) then (if (bt a0 0) ≥ 65 then (gridhallref4_Named.j0 k a0 (!(decide ((bt a0 0) ≤ 90)))) else (gridhallref4_Named.j0 k a0 (!false))) else (none)))) = some r:=h;clear h;have HC2:=k0_ H;clear H
 go_enter Try.func49, Try.ntmps49
 go_upto_region 1 with (fail)
 go_cut [23] (fun v23 wc=>∃ (kq : Nat) (x23_1 : Bool), v23 = .bool x23_1∧Aside0 (gridhallref4_Named.j0 kq a0 x23_1 = some r)∧Aside0 (kq ≤ k)∧Drawn0 w wc)
 case first =>
  have H:=HC2.out;clear HC2
  by_cases c3 : (a0.size : Int) < 1
  ·rw [if_pos c3] at H
   have c3b0:=decide_eq_true c3;have c3b1 : decide (a0.size < 1) = true:=decide_eq_true (by omega);clear c3;(first|rw [c3b0]|(simp only [i64_w, i32_w];rw [c3b0])|skip);have H':=k0_ H;clear H;go_wp2
   go_meet
   case rel=>exact ⟨_, (true),rs_, H', ⟨by first|omega|exact Nat.le_refl _⟩, by repeat (first|exact Drawn0.refl _|apply Drawn0.step)⟩
  ·rw [if_neg c3] at H
   have c3b0:=decide_eq_false c3;have c3b1 : decide (a0.size < 1) = false:=decide_eq_false (by omega);clear c3;(first|rw [c3b0]|(simp only [i64_w, i32_w];rw [c3b0])|skip)
   by_cases c4 : (a0.size : Int) > 8
   ·rw [if_pos c4] at H
    have c4b0:=decide_eq_true c4;have c4b1 : decide (8 < a0.size) = true:=decide_eq_true (by omega);clear c4;have H':=k0_ H;clear H;go_wp2
    go_meet
    case rel=>exact ⟨_, (true),rs_, H', ⟨by first|omega|exact Nat.le_refl _⟩, by repeat (first|exact Drawn0.refl _|apply Drawn0.step)⟩
   ·rw [if_neg c4] at H
    have c4b0:=decide_eq_false c4;have c4b1 : decide (8 < a0.size) = false:=decide_eq_false (by omega);clear c4
    by_cases c5 : 0 < (a0.size : Int)
    rw [if_pos c5] at H;have c5b0:=decide_eq_true c5;have c5b1 : decide (0 < a0.size) = true:=decide_eq_true (by omega);clear c5
    focus
     by_cases c7 : (bt a0 0) ≥ 65
     rw [if_pos c7] at H;have c7b0:=decide_eq_true c7;clear c7;have H':=k0_ H;clear H;rotate_left;rw [if_neg c7] at H;have c7b0:=decide_eq_false c7;clear c7;have H':=k0_ H;clear H;rotate_left
    rotate_left 2;rw [if_neg c5] at H
    exact absurd H (by simp)
    all_goals
     have p6 : 0 ≤ (0 : Int):=(by omega);have q6 : 0 < a0.size:=(by have : (0 : Int) < (a0.size : Int):=of_decide_eq_true as_;omega);have hx6 : ∀ h : 0 < a0.size, ((a0[0]'h).toNat : Int) = bt a0 0:=bt_at a0 0;clear p6;have qi6 : (0 < (a0.size : Int)) = True:=eq_true (of_decide_eq_true as_);replace q6:=eq_true q6
    ·have p8 : 0 ≤ (0 : Int):=(by omega)
     have q8 : 0 < a0.size:=(by have : (0 : Int) < (a0.size : Int):=of_decide_eq_true as_;omega);have hx8 : ∀ h : 0 < a0.size, ((a0[0]'h).toNat : Int) = bt a0 0:=bt_at a0 0;clear p8;have qi8 : (0 < (a0.size : Int)) = True:=eq_true (of_decide_eq_true as_);replace q8:=eq_true q8;go_wp2
     go_meet
     case rel=>exact ⟨_, (!(decide ((bt a0 0) ≤ 90))),rs_, H', ⟨by first|omega|exact Nat.le_refl _⟩, by repeat (first|exact Drawn0.refl _|apply Drawn0.step)⟩
    ·go_wp2
     go_meet
     case rel=>exact ⟨_, (!false),rs_, H', ⟨by first|omega|exact Nat.le_refl _⟩, by repeat (first|exact Drawn0.refl _|apply Drawn0.step)⟩
 clear HC2;(try clear p2);(try clear c3);(try clear c3b0);(try clear c3b1);(try clear c4);(try clear c4b0);(try clear c4b1);(try clear c5);(try clear c5b0);(try clear c5b1);(try clear p6);(try clear q6);(try clear hx6);(try clear qi6);(try clear c7);(try clear c7b0);(try clear p8);(try clear q8);(try clear hx8);(try clear qi8);(try clear p6);(try clear p8);(try clear q6);(try clear q8);obtain ⟨kq, x23_1, rfl, HA, HJ1, ⟨mc1, rfl⟩⟩:=hcut;obtain _|kj1:=kq
 ·exact absurd HA.out (by simp [gridhallref4_Named.j0])
 have H:=HA.out;clear HA;simp only [gridhallref4_Named.j0] at H
 by_cases c9 : x23_1 = true
 ·subst c9
  have H1 : (some false) = some r:=by rw [if_pos rfl] at H;exact H
  clear H;have H:=H1;clear H1;obtain rfl:=Option.some.inj H;go_wp2
  go_ret
  exact ⟨by first|rfl|(simp;done)|(simp [*];done), by repeat (first|exact Drawn0.refl _|apply Drawn0.step)⟩
 ·replace c9:=Bool.eq_false_iff.mpr c9
  subst c9;have H1 : (gridhallref4_Named.l0 kj1 a0 (a0.size : Int) 0) = some r:=by rw [if_neg (show ¬ (false = true) by decide)] at H;exact H
  clear H;have H:=H1;clear H1;have H':=k0_ H;clear H;go_wp2;(try simp only [Act.put, q1_,q3_,q2_])
  go_loopg [26] kj1 (fun kq v26 w'=>∃ (x26_2 : Int), v26 = .int .i64 x26_2∧Aside0 (gridhallref4_Named.l0 kq a0 (a0.size : Int) x26_2 = some r)∧Aside0 (kq ≤ kj1)∧Drawn0 w w')
  case atStart=>exact ⟨(0),rs_, H', ⟨Nat.le_refl _⟩, by repeat (first|exact Drawn0.refl _|apply Drawn0.step)⟩
  clear H';(try clear c1);(try clear p2);(try clear c3);(try clear c3b0);(try clear c3b1);(try clear c4);(try clear c4b0);(try clear c4b1);(try clear c5);(try clear c5b0);(try clear c5b1);(try clear p6);(try clear q6);(try clear hx6);(try clear qi6);(try clear c7);(try clear c7b0);(try clear p8);(try clear q8);(try clear hx8);(try clear qi8);(try clear c9);(try clear p2);(try clear p6);(try clear p8);(try clear q6);(try clear q8);obtain ⟨x26_2, rfl, HA, HK2, ⟨m2, rfl⟩⟩:=hrel;obtain _|k2:=gk
  ·exact absurd HA.out (by simp [gridhallref4_Named.l0])
  have H:=HA.out;clear HA;simp only [gridhallref4_Named.l0] at H
  by_cases c10 : x26_2 < (a0.size : Int)
  ·rw [if_pos c10] at H
   have c10b0:=decide_eq_true c10;clear c10
   by_cases c11 : 0 ≤ x26_2
   rw [if_pos c11] at H;have c11b0:=decide_eq_true c11;clear c11
   focus
    by_cases c12 : x26_2 < (a0.size : Int)
    rw [if_pos c12] at H;have c12b0:=decide_eq_true c12;clear c12
    focus
     by_cases c14 : (bt a0 x26_2) ≥ 65
     rw [if_pos c14] at H;have c14b0:=decide_eq_true c14;clear c14
     focus
      by_cases c15 : ((bt a0 x26_2) ≤ 90)
      rw [if_pos c15] at H;have c15b0:=decide_eq_true c15;clear c15;have H':=k0_ H;clear H;rotate_left;rw [if_neg c15] at H;have c15b0:=decide_eq_false c15;clear c15
      focus
       by_cases c16 : (bt a0 x26_2) ≥ 48
       rw [if_pos c16] at H;have c16b0:=decide_eq_true c16;clear c16
       focus
        by_cases c17 : ((bt a0 x26_2) ≤ 57)
        rw [if_pos c17] at H;have c17b0:=decide_eq_true c17;clear c17;have H':=k0_ H;clear H;rotate_left;rw [if_neg c17] at H;have c17b0:=decide_eq_false c17;clear c17;obtain rfl:=Option.some.inj H;rotate_left
       rotate_left 2;rw [if_neg c16] at H;have c16b0:=decide_eq_false c16;clear c16;obtain rfl:=Option.some.inj H;rotate_left
      rotate_left 3
     rotate_left 4;rw [if_neg c14] at H;have c14b0:=decide_eq_false c14;clear c14
     focus
      by_cases c18 : (bt a0 x26_2) ≥ 48
      rw [if_pos c18] at H;have c18b0:=decide_eq_true c18;clear c18
      focus
       by_cases c19 : ((bt a0 x26_2) ≤ 57)
       rw [if_pos c19] at H;have c19b0:=decide_eq_true c19;clear c19;have H':=k0_ H;clear H;rotate_left;rw [if_neg c19] at H;have c19b0:=decide_eq_false c19;clear c19;obtain rfl:=Option.some.inj H;rotate_left
      rotate_left 2;rw [if_neg c18] at H;have c18b0:=decide_eq_false c18;clear c18;obtain rfl:=Option.some.inj H;rotate_left
     rotate_left 3
    rotate_left 7;rw [if_neg c12] at H
    exact absurd H (by simp)
   rotate_left 7;rw [if_neg c11] at H
   exact absurd H (by simp)
   all_goals
    have p13 : 0 ≤ (x26_2 : Int):=of_decide_eq_true as_;have q13 : x26_2 < (a0.size : Int):=of_decide_eq_true as_;have hx13:=bt_at a0 x26_2;replace p13:=eq_true p13;replace q13:=eq_true q13;go_wp2
   ·go_roundg k2
    case measure=>have:=HJ1.out;have:=HK2.out;omega
    case rel=>exact ⟨(wrap64 (x26_2 + 1)),rs_, H', ⟨by have:=HJ1.out;have:=HK2.out;omega⟩, by repeat (first|exact Drawn0.refl _|apply Drawn0.step)⟩
   ·go_roundg k2
    case measure=>have:=HJ1.out;have:=HK2.out;omega
    case rel=>exact ⟨(wrap64 (x26_2 + 1)),rs_, H', ⟨by have:=HJ1.out;have:=HK2.out;omega⟩, by repeat (first|exact Drawn0.refl _|apply Drawn0.step)⟩
   ·go_ret
    exact ⟨by first|rfl|(simp;done)|(simp [*];done), by repeat (first|exact Drawn0.refl _|apply Drawn0.step)⟩
   ·go_ret
    exact ⟨by first|rfl|(simp;done)|(simp [*];done), by repeat (first|exact Drawn0.refl _|apply Drawn0.step)⟩
   ·go_roundg k2
    case measure=>have:=HJ1.out;have:=HK2.out;omega
    case rel=>exact ⟨(wrap64 (x26_2 + 1)),rs_, H', ⟨by have:=HJ1.out;have:=HK2.out;omega⟩, by repeat (first|exact Drawn0.refl _|apply Drawn0.step)⟩
   ·go_ret
    exact ⟨by first|rfl|(simp;done)|(simp [*];done), by repeat (first|exact Drawn0.refl _|apply Drawn0.step)⟩
   ·go_ret
    exact ⟨by first|rfl|(simp;done)|(simp [*];done), by repeat (first|exact Drawn0.refl _|apply Drawn0.step)⟩
  ·rw [if_neg c10] at H
   have c10b0:=decide_eq_false c10;clear c10;obtain rfl:=Option.some.inj H;go_wp2
   go_ret
   exact ⟨by first|rfl|(simp;done)|(simp [*];done), by repeat (first|exact Drawn0.refl _|apply Drawn0.step)⟩

end Go.Proofs.Ytielinaielicbaa.PUpkeepBest
