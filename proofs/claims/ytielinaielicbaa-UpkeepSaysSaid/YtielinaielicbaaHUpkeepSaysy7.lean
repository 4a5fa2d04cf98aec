/- Contracts of functions that UpkeepSays reaches, a text of this session's own. -/
import Derived.Test.YtielinaielicbaaHUpkeepSaysy0
import Derived.Test.YtielinaielicbaaHUpkeepSaysy4
namespace Go.Proofs.Ytielinaielicbaa.PUpkeepSays
open Go.RowKit Go.Proofs.YtielinaielicbaaW.PrintWords Go.Proofs.YtielinaielicbaaW.PrintLast Go.Proofs.YtielinaielicbaaW.PrintMore
attribute [local go_sem] max2_int min2_int max_two min_two max_three min_three max_four min_four   -- for this text's walks alone
set_option linter.unusedVariables false
set_option linter.unusedSimpArgs false

/-! ### gridhallref4_PlanError_1: function 65 -/
def gridhallref4_PlanError_1.f (a0 : Int) (a1 : Int) (l2 : List (List Int)) (l3 : List (S25)) : Option (Bool) := if 0 < (l2.length : Int) then (if 0 ≤ a0 then (if a0 < ((rd_L5 l2 0).length : Int) then (if 0 < (l3.length : Int) then (if a0 < (((rd_T25 l3 0).f0).length : Int) then ((gridhallref4_In.f a1 (rd (rd_L5 l2 0) a0) (wrap64 ((wrap64 ((rd (rd_L5 l2 0) a0) + ((rd_T28 ((rd_T25 l3 0).f0) a0).f1))) - 1))).bind fun t172 => (some t172)) else (none)) else (none)) else (none)) else (none)) else (none)
set_option maxHeartbeats 8000000 in
set_option maxRecDepth 100000 in
theorem gridhallref4_PlanError_1.calls (a0 : Int) (a1 : Int) (A2 : Option Addr) (l2 : List (List Int)) (A3 : Option Addr) (l3 : List (S25)) (r : Bool) (w : World) (hr2 : Kd.C (Kd.slice 3 (Kd.int .i64)) w A2 l2.length l2) (hr3 : Kd.C k25 w A3 l3.length l3) (h : gridhallref4_PlanError_1.f a0 a1 l2 l3 = some r) :
  Calls Try.prog 65 #[.int .i64 a0, .int .i64 a1, .pointer A2, .pointer A3] w fun e w' => e = .returned (.bool r) ∧ Drawn0 w w' := by
 have HR2:=k0_ hr2;clear hr2;have HR3:=k0_ hr3;clear hr3;have H : (if 0 < (l2.length : Int) then (if 0 ≤ a0 then (if a0 < ((rd_L5 l2 0).length : Int) then (if 0 < (l3.length : Int) then (if a0 < (((rd_T25 l3 0).f0).length : Int) then ((gridhallref4_In.f a1 (rd (rd_L5 l2 0) a0) (wrap64 ((wrap64 ((rd (rd_L5 l2 0) a0) + ((rd_T28 ((rd_T25 l3 0).f0) a0).f1))) - 1))).bind fun t172=>(some t172)) else (none)) else (none)) else (none)) else (none)) else (none)) = some r:=h;clear h
 by_cases c5 : 0 < (l2.length : Int)
 ·rw [if_pos c5] at H
  have c5b0 : decide (0 < (l2.length : Int)) = true:=decide_eq_true c5;have c5b1 : decide (0 < l2.length) = true:=decide_eq_true (by omega);clear c5
  by_cases c6 : 0 ≤ a0
  rotate_left
  ·rw [if_neg c6] at H
   exact absurd H (by simp)
  rw [if_pos c6] at H;have c6b0 : decide (0 ≤ a0) = true:=decide_eq_true c6;clear c6
  by_cases c7 : a0 < ((rd_L5 l2 0).length : Int)
  rotate_left
  ·rw [if_neg c7] at H
   exact absurd H (by simp)
  rw [if_pos c7] at H;have c7b0 : decide (a0 < ((rd_L5 l2 0).length : Int)) = true:=decide_eq_true c7;clear c7
  by_cases c8 : 0 < (l3.length : Int)
  rotate_left
  ·rw [if_neg c8] at H
   exact absurd H (by simp)
  rw [if_pos c8] at H;have c8b0 : decide (0 < (l3.length : Int)) = true:=decide_eq_true c8;have c8b1 : decide (0 < l3.length) = true:=decide_eq_true (by omega);clear c8
  by_cases c9 : a0 < (((rd_T25 l3 0).f0).length : Int)
  rotate_left
  ·rw [if_neg c9] at H
   exact absurd H (by simp)
  rw [if_pos c9] at H;have c9b0 : decide (a0 < (((rd_T25 l3 0).f0).length : Int)) = true:=decide_eq_true c9;clear c9;replace H:=Option.bind_eq_some_iff.mp H;obtain ⟨t172, A100, H⟩:=H;replace H : (some t172) = some r:=H;have A10:=k0_ A100;clear A100;obtain rfl:=Option.some.inj H;have p166 : 0 ≤ (0 : Int):=(by omega);have q166 : 0 < (l2.length : Int):=of_decide_eq_true (by first|(with_reducible assumption)|assumption);obtain ⟨ad166, A166_0, c166_0, e166, hx166_0, hl166_0, hi166_0⟩:=at_L5 HR2.out 0 p166 q166;cases e166;have qi166 : (0 < l2.length) = True:=eq_true (by omega);(try rw [show ((0 : Int)).toNat = 0 from rfl] at hx166_0);(try rw [Addr.add_zero'] at hx166_0);have HR166_0:=k0_ hi166_0;have HC166_0:=k0_ hl166_0;clear hi166_0 hl166_0;replace p166:=eq_true p166;replace q166:=eq_true q166;have p167 : 0 ≤ (a0 : Int):=of_decide_eq_true (by first|(with_reducible assumption)|assumption);have q167 : a0 < ((rd_L5 l2 0).length : Int):=of_decide_eq_true (by first|(with_reducible assumption)|assumption);obtain ⟨ad167, e167, hx167_0⟩:=Kd.at_int HR166_0.out a0 p167 q167;cases e167;replace p167:=eq_true p167;replace q167:=eq_true q167;have p168 : 0 ≤ (0 : Int):=(by omega);have q168 : 0 < (l2.length : Int):=of_decide_eq_true (by first|(with_reducible assumption)|assumption);obtain ⟨ad168, A168_0, c168_0, e168, hx168_0, hl168_0, hi168_0⟩:=at_L5 HR2.out 0 p168 q168;obtain rfl : ad166 = ad168:=(by injection e168);have qi168 : (0 < l2.length) = True:=eq_true (by omega);(try rw [show ((0 : Int)).toNat = 0 from rfl] at hx168_0);(try rw [Addr.add_zero'] at hx168_0);have HR168_0:=k0_ hi168_0;have HC168_0:=k0_ hl168_0;clear hi168_0 hl168_0;replace p168:=eq_true p168;replace q168:=eq_true q168;have ea_:=Option.some.inj (hx166_0.symm.trans hx168_0)
  injection ea_ with ea_ en_ ec_
  subst ea_;subst ec_;clear en_;have p169 : 0 ≤ (a0 : Int):=of_decide_eq_true (by first|(with_reducible assumption)|assumption);have q169 : a0 < ((rd_L5 l2 0).length : Int):=of_decide_eq_true (by first|(with_reducible assumption)|assumption);obtain ⟨ad169, e169, hx169_0⟩:=Kd.at_int HR168_0.out a0 p169 q169;cases e169;replace p169:=eq_true p169;replace q169:=eq_true q169;have p170 : 0 ≤ (0 : Int):=(by omega);have q170 : 0 < (l3.length : Int):=of_decide_eq_true (by first|(with_reducible assumption)|assumption);obtain ⟨ad170, A170_0, c170_0, A170_1, c170_1, e170, hx170_0, hx170_1, hx170_2, hl170_0, hi170_0, hl170_1, hi170_1⟩:=at_T25 HR3.out 0 p170 q170;cases e170;have qi170 : (0 < l3.length) = True:=eq_true (by omega);(try rw [show ((0 : Int)).toNat = 0 from rfl] at hx170_0);(try rw [show 0 * 3 = 0 from rfl] at hx170_0);(try rw [Addr.add_zero'] at hx170_0);(try rw [show ((0 : Int)).toNat = 0 from rfl] at hx170_1);(try rw [show 0 * 3 = 0 from rfl] at hx170_1);(try rw [Addr.add_zero'] at hx170_1);(try rw [show ((0 : Int)).toNat = 0 from rfl] at hx170_2);(try rw [show 0 * 3 = 0 from rfl] at hx170_2);(try rw [Addr.add_zero'] at hx170_2);have HR170_0:=k0_ hi170_0;have HC170_0:=k0_ hl170_0;clear hi170_0 hl170_0;have HR170_1:=k0_ hi170_1;have HC170_1:=k0_ hl170_1;clear hi170_1 hl170_1;replace p170:=eq_true p170;replace q170:=eq_true q170;have p171 : 0 ≤ (a0 : Int):=of_decide_eq_true (by first|(with_reducible assumption)|assumption);have q171 : a0 < (((rd_T25 l3 0).f0).length : Int):=of_decide_eq_true (by first|(with_reducible assumption)|assumption);obtain ⟨ad171, e171, hx171_0, hx171_1, hx171_2, hx171_3, hx171_4⟩:=at_T28 HR170_0.out a0 p171 q171;cases e171;replace p171:=eq_true p171;replace q171:=eq_true q171
  go_enter Try.func65, Try.ntmps65
  go_wp2_with (first|(go_at_call 23;(with_reducible refine (gridhallref4_In.calls a1 (rd (rd_L5 l2 0) a0) (wrap64 ((wrap64 ((rd (rd_L5 l2 0) a0) + ((rd_T28 ((rd_T25 l3 0).f0) a0).f1))) - 1)) t172 _ A10.out).mono ?_);rintro e w' ⟨rfl, ⟨nd, rfl⟩⟩;(try first|exact ⟨rfl, _, World.drewN_drewN _ _ _⟩|exact ⟨rfl, _, Eq.trans (World.drewN_drewN _ _ _) (congrArg (World.drewN _) (Nat.add_assoc _ _ _))⟩)))
  repeat (go_quiet (first|(go_at_call 23;(with_reducible refine (gridhallref4_In.calls a1 (rd (rd_L5 l2 0) a0) (wrap64 ((wrap64 ((rd (rd_L5 l2 0) a0) + ((rd_T28 ((rd_T25 l3 0).f0) a0).f1))) - 1)) t172 _ A10.out).mono ?_);rintro e w' ⟨rfl, ⟨nd, rfl⟩⟩;(try first|exact ⟨rfl, _, World.drewN_drewN _ _ _⟩|exact ⟨rfl, _, Eq.trans (World.drewN_drewN _ _ _) (congrArg (World.drewN _) (Nat.add_assoc _ _ _))⟩)));try go_wp2_with (first|(go_at_call 23;(with_reducible refine (gridhallref4_In.calls a1 (rd (rd_L5 l2 0) a0) (wrap64 ((wrap64 ((rd (rd_L5 l2 0) a0) + ((rd_T28 ((rd_T25 l3 0).f0) a0).f1))) - 1)) t172 _ A10.out).mono ?_);rintro e w' ⟨rfl, ⟨nd, rfl⟩⟩;(try first|exact ⟨rfl, _, World.drewN_drewN _ _ _⟩|exact ⟨rfl, _, Eq.trans (World.drewN_drewN _ _ _) (congrArg (World.drewN _) (Nat.add_assoc _ _ _))⟩))))
  go_ret
  exact ⟨by first|rfl|(simp;done)|(simp [*];done), by repeat (first|exact Drawn0.refl _|apply Drawn0.step)⟩
 ·rw [if_neg c5] at H
  exact absurd H (by simp)

end Go.Proofs.Ytielinaielicbaa.PUpkeepSays
