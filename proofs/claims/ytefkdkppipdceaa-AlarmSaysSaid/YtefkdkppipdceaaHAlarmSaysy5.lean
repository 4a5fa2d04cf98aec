/- Contracts of functions that AlarmSays reaches, a text of this session's own. -/
import Derived.Test.YtefkdkppipdceaaBox2
import Derived.Test.YtefkdkppipdceaaHAlarmSaysy0
namespace Go.Proofs.Ytefkdkppipdceaa.PAlarmSays
open Go.RowKit Go.Proofs.YtefkdkppipdceaaW.PrintWords Go.Proofs.YtefkdkppipdceaaW.PrintLast Go.Proofs.YtefkdkppipdceaaW.PrintMore
attribute [local go_sem] max2_int min2_int max_two min_two max_three min_three max_four min_four   -- for this text's walks alone
set_option linter.unusedVariables false
set_option linter.unusedSimpArgs false

/-! ### alarm_first: function 76 -/
def alarm_first.l0 : Nat → List (List Bool) → List ByteArray → Int → Int → Int → Option (Bool)
 | 0, _, _, _, _, _ => none
 | k + 1, x0, x1, x2, x9, x10 => if x10 < x9 then (if 0 ≤ x2 then (if x2 < (x0.length : Int) then (if 0 ≤ x10 then (if x10 < ((rd_L4 x0 x2).length : Int) then (if rdOf false (rd_L4 x0 x2) x10 = true then (if x10 < (x0.length : Int) then (if x2 < ((rd_L4 x0 x10).length : Int) then (if (rdOf false (rd_L4 x0 x10) x2 = true) then (if x10 < (x1.length : Int) then (if x2 < (x1.length : Int) then (if (Op.bytesLess ((rdOf ByteArray.empty x1 x10).toList) ((rdOf ByteArray.empty x1 x2).toList)) = true then (some false) else (alarm_first.l0 k x0 x1 x2 x9 (wrap64 (x10 + 1)))) else (none)) else (none)) else (some false)) else (none)) else (none)) else (alarm_first.l0 k x0 x1 x2 x9 (wrap64 (x10 + 1)))) else (none)) else (none)) else (none)) else (none)) else (some true)
def alarm_first.f (k : Nat) (l0 : List (List Bool)) (l1 : List ByteArray) (a2 : Int) : Option (Bool) := alarm_first.l0 k l0 l1 a2 (l1.length : Int) 0
theorem alarm_first.mono_l : ∀ k, (∀ y0 y1 y2 y3 y4, LeO (alarm_first.l0 k y0 y1 y2 y3 y4) (alarm_first.l0 (k + 1) y0 y1 y2 y3 y4))
 | 0 => fun _ _ _ _ _ r h => by simp [alarm_first.l0] at h
 | k + 1 => by
  have ih0:=alarm_first.mono_l k
  ·intro y0 y1 y2 y3 y4
   unfold alarm_first.l0
   repeat' first|(with_reducible first|exact ih0 _ _ _ _ _|exact LeO.refl _|exact LeO.none _|refine LeO.ite ?_ ?_|refine LeO.bind ?_ (fun _=>?_))|exact ih0 _ _ _ _ _|exact LeO.none _|refine LeO.ite ?_ ?_|refine LeO.bind ?_ (fun _=>?_)
theorem alarm_first.mono : ∀ a0 a1 a2 k, LeO (alarm_first.f k a0 a1 a2) (alarm_first.f (k + 1) a0 a1 a2) := by
 intro a0 a1 a2 k
 have ih0:=alarm_first.mono_l k
 unfold alarm_first.f
 repeat' first|(with_reducible first|exact ih0 _ _ _ _ _|exact LeO.refl _|exact LeO.none _|refine LeO.ite ?_ ?_|refine LeO.bind ?_ (fun _=>?_))|exact ih0 _ _ _ _ _|exact LeO.none _|refine LeO.ite ?_ ?_|refine LeO.bind ?_ (fun _=>?_)
set_option maxHeartbeats 8000000 in
set_option maxRecDepth 100000 in
theorem alarm_first.calls (k : Nat) (A0 : Option Addr) (c0 : Nat) (l0 : List (List Bool)) (A1 : Option Addr) (c1 : Nat) (l1 : List ByteArray) (a2 : Int) (r : Bool) (w : World) (hr0 : Kd.C (Kd.slice 4 Kd.bool) w A0 l0.length l0) (hc0 : l0.length ≤ c0) (hr1 : Kd.C Kd.string w A1 l1.length l1) (hc1 : l1.length ≤ c1) (h : alarm_first.f k l0 l1 a2 = some r) :
  Calls Try.prog 76 #[.slice A0 l0.length c0, .slice A1 l1.length c1, .int .i64 a2] w fun e w' => e = .returned (.bool r) ∧ Drawn0 w w' := by
 have HR0:=k0_ hr0;have HC0:=k0_ hc0;clear hr0 hc0;have HR1:=k0_ hr1;have HC1:=k0_ hc1;clear hr1 hc1;have H : (alarm_first.l0 k l0 l1 a2 (l1.length : Int) 0) = some r:=h;clear h;have H':=k0_ H;clear H
 go_enter Try.func76, Try.ntmps76
 go_wp2
 repeat (go_quiet (fail);try go_wp2)
 (try simp only [Act.put, q1_,q3_,q2_])
 go_loopg [10] k (fun kq v10 w'=>∃ (x10_1 : Int), v10 = .int .i64 x10_1∧Aside0 (alarm_first.l0 kq l0 l1 a2 (l1.length : Int) x10_1 = some r)∧Aside0 (kq ≤ k)∧Drawn0 w w')
 case atStart=>exact ⟨(0),rs_, H', ⟨Nat.le_refl _⟩, by repeat (first|exact Drawn0.refl _|apply Drawn0.step)⟩
 clear H';(try clear c1);(try clear p2);obtain ⟨x10_1, rfl, HA, HK1, ⟨m1, rfl⟩⟩:=hrel;obtain _|k1:=gk
 ·exact absurd HA.out (by simp [alarm_first.l0])
 have H:=HA.out;clear HA;simp only [alarm_first.l0] at H
 by_cases c4 : x10_1 < (l1.length : Int)
 ·rw [if_pos c4] at H
  have c4b0:=decide_eq_true c4;clear c4
  obtain ⟨c5,H⟩:=gi_ H;have c5b0:=decide_eq_true c5;clear c5
  obtain ⟨c6,H⟩:=gi_ H;have c6b0:=decide_eq_true c6;clear c6
  obtain ⟨c7,H⟩:=gi_ H;have c7b0:=decide_eq_true c7;clear c7
  obtain ⟨c8,H⟩:=gi_ H;have c8b0:=decide_eq_true c8;clear c8;obtain ⟨bq9, hbq9⟩ : ∃ b_ : Bool, b_ = (rdOf false (rd_L4 l0 a2) x10_1):=⟨_, rfl⟩;replace H : (if bq9 = true then (if x10_1 < (l0.length : Int) then (if a2 < ((rd_L4 l0 x10_1).length : Int) then (if (rdOf false (rd_L4 l0 x10_1) a2 = true) then (if x10_1 < (l1.length : Int) then (if a2 < (l1.length : Int) then (if (Op.bytesLess ((rdOf ByteArray.empty l1 x10_1).toList) ((rdOf ByteArray.empty l1 a2).toList)) = true then (some false) else (alarm_first.l0 k1 l0 l1 a2 (l1.length : Int) (wrap64 (x10_1 + 1)))) else (none)) else (none)) else (some false)) else (none)) else (none)) else (alarm_first.l0 k1 l0 l1 a2 (l1.length : Int) (wrap64 (x10_1 + 1)))) = some r:=by rw [← hbq9] at H;exact H
  have Nbq9:=k0_ hbq9;clear hbq9
  by_cases c10 : bq9 = true
  ·subst c10
   have H1 : (if x10_1 < (l0.length : Int) then (if a2 < ((rd_L4 l0 x10_1).length : Int) then (if (rdOf false (rd_L4 l0 x10_1) a2 = true) then (if x10_1 < (l1.length : Int) then (if a2 < (l1.length : Int) then (if (Op.bytesLess ((rdOf ByteArray.empty l1 x10_1).toList) ((rdOf ByteArray.empty l1 a2).toList)) = true then (some false) else (alarm_first.l0 k1 l0 l1 a2 (l1.length : Int) (wrap64 (x10_1 + 1)))) else (none)) else (none)) else (some false)) else (none)) else (none)) = some r:=by rw [if_pos rfl] at H;exact H
   clear H;have H:=H1;clear H1
   by_cases c11 : x10_1 < (l0.length : Int)
   rw [if_pos c11] at H;have c11b0:=decide_eq_true c11;clear c11
   focus
    by_cases c12 : a2 < ((rd_L4 l0 x10_1).length : Int)
    rw [if_pos c12] at H;have c12b0:=decide_eq_true c12;clear c12;obtain ⟨bq13, hbq13⟩ : ∃ b_ : Bool, b_ = (rdOf false (rd_L4 l0 x10_1) a2):=⟨_, rfl⟩;replace H : (if (bq13 = true) then (if x10_1 < (l1.length : Int) then (if a2 < (l1.length : Int) then (if (Op.bytesLess ((rdOf ByteArray.empty l1 x10_1).toList) ((rdOf ByteArray.empty l1 a2).toList)) = true then (some false) else (alarm_first.l0 k1 l0 l1 a2 (l1.length : Int) (wrap64 (x10_1 + 1)))) else (none)) else (none)) else (some false)) = some r:=by rw [← hbq13] at H;exact H
    have Nbq13:=k0_ hbq13;clear hbq13
    focus
     by_cases c14 : (bq13 = true)
     subst c14;have H1 : (if x10_1 < (l1.length : Int) then (if a2 < (l1.length : Int) then (if (Op.bytesLess ((rdOf ByteArray.empty l1 x10_1).toList) ((rdOf ByteArray.empty l1 a2).toList)) = true then (some false) else (alarm_first.l0 k1 l0 l1 a2 (l1.length : Int) (wrap64 (x10_1 + 1)))) else (none)) else (none)) = some r:=by rw [if_pos rfl] at H;exact H
     clear H;have H:=H1;clear H1
     focus
      by_cases c15 : x10_1 < (l1.length : Int)
      rw [if_pos c15] at H;have c15b0:=decide_eq_true c15;clear c15
      focus
       by_cases c16 : a2 < (l1.length : Int)
       rw [if_pos c16] at H;have c16b0:=decide_eq_true c16;clear c16
       focus
        by_cases c17 : (Op.bytesLess ((rdOf ByteArray.empty l1 x10_1).toList) ((rdOf ByteArray.empty l1 a2).toList)) = true
        rw [if_pos c17] at H;have c17b0 : (Op.bytesLess ((rdOf ByteArray.empty l1 x10_1).toList) ((rdOf ByteArray.empty l1 a2).toList)) = true:=c17;clear c17;obtain rfl:=Option.some.inj H;rotate_left;rw [if_neg c17] at H;have c17b0 : (Op.bytesLess ((rdOf ByteArray.empty l1 x10_1).toList) ((rdOf ByteArray.empty l1 a2).toList)) = false:=by simpa using c17
        clear c17;have H':=k0_ H;clear H;rotate_left
       rotate_left 2;rw [if_neg c16] at H
       exact absurd H (by simp)
      rotate_left 2;rw [if_neg c15] at H
      exact absurd H (by simp)
     rotate_left 2;replace c14:=Bool.eq_false_iff.mpr c14;subst c14;have H1 : (some false) = some r:=by rw [if_neg (show ¬ (false = true) by decide)] at H;exact H
     clear H;have H:=H1;clear H1;obtain rfl:=Option.some.inj H;rotate_left
    rotate_left 3;rw [if_neg c12] at H
    exact absurd H (by simp)
   rotate_left 3;rw [if_neg c11] at H
   exact absurd H (by simp)
   all_goals
    have p159 : 0 ≤ (a2 : Int):=of_decide_eq_true as_;have q159 : a2 < (l0.length : Int):=of_decide_eq_true as_;obtain ⟨ad159, A159_0, c159_0, e159, hx159_0, hl159_0, hi159_0⟩:=at_L4 HR0.out a2 p159 q159;cases e159;have HR159_0:=k0_ hi159_0;have HC159_0:=k0_ hl159_0;clear hi159_0 hl159_0;replace p159:=eq_true p159;replace q159:=eq_true q159;have p160 : 0 ≤ (x10_1 : Int):=of_decide_eq_true as_;have q160 : x10_1 < ((rd_L4 l0 a2).length : Int):=of_decide_eq_true as_;obtain ⟨ad160, e160, hx160_0⟩:=Kd.at_bool HR159_0.out x10_1 p160 q160;(try rw [← Nbq9.out] at hx160_0);(try rw [← Nbq13.out] at hx160_0);cases e160;replace p160:=eq_true p160;replace q160:=eq_true q160;have p161 : 0 ≤ (x10_1 : Int):=of_decide_eq_true as_;have q161 : x10_1 < (l0.length : Int):=of_decide_eq_true as_;obtain ⟨ad161, A161_0, c161_0, e161, hx161_0, hl161_0, hi161_0⟩:=at_L4 HR0.out x10_1 p161 q161;obtain rfl : ad159 = ad161:=(by injection e161);have HR161_0:=k0_ hi161_0;have HC161_0:=k0_ hl161_0;clear hi161_0 hl161_0;replace p161:=eq_true p161;replace q161:=eq_true q161;have p162 : 0 ≤ (a2 : Int):=of_decide_eq_true as_;have q162 : a2 < ((rd_L4 l0 x10_1).length : Int):=of_decide_eq_true as_;obtain ⟨ad162, e162, hx162_0⟩:=Kd.at_bool HR161_0.out a2 p162 q162;(try rw [← Nbq9.out] at hx162_0);(try rw [← Nbq13.out] at hx162_0);cases e162;replace p162:=eq_true p162;replace q162:=eq_true q162
   ·have p163 : 0 ≤ (x10_1 : Int):=of_decide_eq_true as_
    have q163 : x10_1 < (l1.length : Int):=of_decide_eq_true as_;obtain ⟨ad163, e163, hx163_0⟩:=Kd.at_string HR1.out x10_1 p163 q163;cases e163;replace p163:=eq_true p163;replace q163:=eq_true q163;have p164 : 0 ≤ (a2 : Int):=of_decide_eq_true as_;have q164 : a2 < (l1.length : Int):=of_decide_eq_true as_;obtain ⟨ad164, e164, hx164_0⟩:=Kd.at_string HR1.out a2 p164 q164;obtain rfl : ad163 = ad164:=(by injection e164);replace p164:=eq_true p164;replace q164:=eq_true q164;go_wp2
    repeat (go_quiet (fail);try go_wp2)
    go_ret
    exact ⟨by first|rfl|(simp;done)|(simp [*];done), by repeat (first|exact Drawn0.refl _|apply Drawn0.step)⟩
   ·have p163 : 0 ≤ (x10_1 : Int):=of_decide_eq_true as_
    have q163 : x10_1 < (l1.length : Int):=of_decide_eq_true as_;obtain ⟨ad163, e163, hx163_0⟩:=Kd.at_string HR1.out x10_1 p163 q163;cases e163;replace p163:=eq_true p163;replace q163:=eq_true q163;have p164 : 0 ≤ (a2 : Int):=of_decide_eq_true as_;have q164 : a2 < (l1.length : Int):=of_decide_eq_true as_;obtain ⟨ad164, e164, hx164_0⟩:=Kd.at_string HR1.out a2 p164 q164;obtain rfl : ad163 = ad164:=(by injection e164);replace p164:=eq_true p164;replace q164:=eq_true q164;go_wp2
    repeat (go_quiet (fail);try go_wp2)
    go_roundg k1
    case measure=>have:=HK1.out;omega
    case rel=>exact ⟨(wrap64 (x10_1 + 1)),rs_, H', ⟨by have:=HK1.out;omega⟩, by repeat (first|exact Drawn0.refl _|apply Drawn0.step)⟩
   ·go_wp2
    repeat (go_quiet (fail);try go_wp2)
    go_ret
    exact ⟨by first|rfl|(simp;done)|(simp [*];done), by repeat (first|exact Drawn0.refl _|apply Drawn0.step)⟩
  ·replace c10:=Bool.eq_false_iff.mpr c10
   subst c10;have H1 : (alarm_first.l0 k1 l0 l1 a2 (l1.length : Int) (wrap64 (x10_1 + 1))) = some r:=by rw [if_neg (show ¬ (false = true) by decide)] at H;exact H
   clear H;have H:=H1;clear H1;have H':=k0_ H;clear H;have p159 : 0 ≤ (a2 : Int):=of_decide_eq_true as_;have q159 : a2 < (l0.length : Int):=of_decide_eq_true as_;obtain ⟨ad159, A159_0, c159_0, e159, hx159_0, hl159_0, hi159_0⟩:=at_L4 HR0.out a2 p159 q159;cases e159;have HR159_0:=k0_ hi159_0;have HC159_0:=k0_ hl159_0;clear hi159_0 hl159_0;replace p159:=eq_true p159;replace q159:=eq_true q159;have p160 : 0 ≤ (x10_1 : Int):=of_decide_eq_true as_;have q160 : x10_1 < ((rd_L4 l0 a2).length : Int):=of_decide_eq_true as_;obtain ⟨ad160, e160, hx160_0⟩:=Kd.at_bool HR159_0.out x10_1 p160 q160;(try rw [← Nbq9.out] at hx160_0);cases e160;replace p160:=eq_true p160;replace q160:=eq_true q160;go_wp2
   repeat (go_quiet (fail);try go_wp2)
   go_roundg k1
   case measure=>have:=HK1.out;omega
   case rel=>exact ⟨(wrap64 (x10_1 + 1)),rs_, H', ⟨by have:=HK1.out;omega⟩, by repeat (first|exact Drawn0.refl _|apply Drawn0.step)⟩
 ·rw [if_neg c4] at H
  have c4b0:=decide_eq_false c4;clear c4;obtain rfl:=Option.some.inj H;go_wp2
  repeat (go_quiet (fail);try go_wp2)
  go_ret
  exact ⟨by first|rfl|(simp;done)|(simp [*];done), by repeat (first|exact Drawn0.refl _|apply Drawn0.step)⟩

/-! ### cmp_isNaN_string: function 138 -/
def cmp_isNaN_string.f (a0 : ByteArray) : Option (Bool) := some (a0.toList != a0.toList)
set_option maxHeartbeats 8000000 in
set_option maxRecDepth 100000 in
theorem cmp_isNaN_string.calls (a0 : ByteArray) (r : Bool) (w : World) (h : cmp_isNaN_string.f a0 = some r) :
  Calls Try.prog 138 #[.string a0] w fun e w' => e = .returned (.bool r) ∧ Drawn0 w w' := by
 have H : (some (a0.toList != a0.toList)) = some r:=h;clear h;obtain rfl:=Option.some.inj H
 go_enter Try.func138, Try.ntmps138
 go_wp2
 go_ret
 exact ⟨by first|rfl|(simp;done)|(simp [*];done), by repeat (first|exact Drawn0.refl _|apply Drawn0.step)⟩

/-! ### cmp_Less_string: function 125 -/
def cmp_Less_string.f (a0 : ByteArray) (a1 : ByteArray) : Option (Bool) := (cmp_isNaN_string.f a0).bind fun t165 => (if t165 = true then ((cmp_isNaN_string.f a1).bind fun t166 => (if t166 = true then (some (Op.bytesLess a0.toList a1.toList)) else (some true))) else (some (Op.bytesLess a0.toList a1.toList)))
set_option maxHeartbeats 8000000 in
set_option maxRecDepth 100000 in
theorem cmp_Less_string.calls (a0 : ByteArray) (a1 : ByteArray) (r : Bool) (w : World) (h : cmp_Less_string.f a0 a1 = some r) :
  Calls Try.prog 125 #[.string a0, .string a1] w fun e w' => e = .returned (.bool r) ∧ Drawn0 w w' := by
 have H : ((cmp_isNaN_string.f a0).bind fun t165=>(if t165 = true then ((cmp_isNaN_string.f a1).bind fun t166=>(if t166 = true then (some (Op.bytesLess a0.toList a1.toList)) else (some true))) else (some (Op.bytesLess a0.toList a1.toList)))) = some r:=h;clear h;replace H:=Option.bind_eq_some_iff.mp H;obtain ⟨t165, A30, H⟩:=H;replace H : (if t165 = true then ((cmp_isNaN_string.f a1).bind fun t166=>(if t166 = true then (some (Op.bytesLess a0.toList a1.toList)) else (some true))) else (some (Op.bytesLess a0.toList a1.toList))) = some r:=H;have A3:=k0_ A30;clear A30
 by_cases c4 : t165 = true
 ·subst c4
  have H1 : ((cmp_isNaN_string.f a1).bind fun t166=>(if t166 = true then (some (Op.bytesLess a0.toList a1.toList)) else (some true))) = some r:=by rw [if_pos rfl] at H;exact H
  clear H;have H:=H1;clear H1;replace H:=Option.bind_eq_some_iff.mp H;obtain ⟨t166, A50, H⟩:=H;replace H : (if t166 = true then (some (Op.bytesLess a0.toList a1.toList)) else (some true)) = some r:=H;have A5:=k0_ A50;clear A50
  by_cases c6 : t166 = true
  ·subst c6
   have H1 : (some (Op.bytesLess a0.toList a1.toList)) = some r:=by rw [if_pos rfl] at H;exact H
   clear H;have H:=H1;clear H1;obtain rfl:=Option.some.inj H
   go_enter Try.func125, Try.ntmps125
   go_wp2_with (first|((with_reducible refine gate_callee (f:=138) rfl ?_);refine goesL_ (some 6) rfl rfl Try.func138 (by kernel_rfl) rfl #[.string a0] rfl mt_ ?_;(with_reducible refine (cmp_isNaN_string.calls a0 true _ A3.out).mono ?_);rintro e w' ⟨rfl, ⟨nd, rfl⟩⟩;refine ⟨_, rfl, ?_⟩)|(go_at_call 138;(with_reducible refine (cmp_isNaN_string.calls a1 true _ A5.out).mono ?_);rintro e w' ⟨rfl, ⟨nd, rfl⟩⟩))
   go_ret
   exact ⟨by first|rfl|(simp;done)|(simp [*];done), by repeat (first|exact Drawn0.refl _|apply Drawn0.step)⟩
  ·replace c6:=Bool.eq_false_iff.mpr c6
   subst c6;have H1 : (some true) = some r:=by rw [if_neg (show ¬ (false = true) by decide)] at H;exact H
   clear H;have H:=H1;clear H1;obtain rfl:=Option.some.inj H
   go_enter Try.func125, Try.ntmps125
   go_wp2_with (first|((with_reducible refine gate_callee (f:=138) rfl ?_);refine goesL_ (some 6) rfl rfl Try.func138 (by kernel_rfl) rfl #[.string a0] rfl mt_ ?_;(with_reducible refine (cmp_isNaN_string.calls a0 true _ A3.out).mono ?_);rintro e w' ⟨rfl, ⟨nd, rfl⟩⟩;refine ⟨_, rfl, ?_⟩)|(go_at_call 138;(with_reducible refine (cmp_isNaN_string.calls a1 false _ A5.out).mono ?_);rintro e w' ⟨rfl, ⟨nd, rfl⟩⟩))
   go_ret
   exact ⟨by first|rfl|(simp;done)|(simp [*];done), by repeat (first|exact Drawn0.refl _|apply Drawn0.step)⟩
 ·replace c4:=Bool.eq_false_iff.mpr c4
  subst c4;have H1 : (some (Op.bytesLess a0.toList a1.toList)) = some r:=by rw [if_neg (show ¬ (false = true) by decide)] at H;exact H
  clear H;have H:=H1;clear H1;obtain rfl:=Option.some.inj H
  go_enter Try.func125, Try.ntmps125
  go_wp2_with (first|((with_reducible refine gate_callee (f:=138) rfl ?_);refine goesL_ (some 6) rfl rfl Try.func138 (by kernel_rfl) rfl #[.string a0] rfl mt_ ?_;(with_reducible refine (cmp_isNaN_string.calls a0 false _ A3.out).mono ?_);rintro e w' ⟨rfl, ⟨nd, rfl⟩⟩;refine ⟨_, rfl, ?_⟩))
  go_ret
  exact ⟨by first|rfl|(simp;done)|(simp [*];done), by repeat (first|exact Drawn0.refl _|apply Drawn0.step)⟩

end Go.Proofs.Ytefkdkppipdceaa.PAlarmSays
