/- Contracts of functions that HoursSpreads reaches, a text of this session's own. -/
import Derived.Test.YtekpnmeikibioaaBox2
import Derived.Test.YtekpnmeikibioaaHHoursSpreadsy0
namespace Go.Proofs.Ytekpnmeikibioaa.PHoursSpreads
open Go.RowKit Go.Proofs.YtekpnmeikibioaaW.PrintWords Go.Proofs.YtekpnmeikibioaaW.PrintLast Go.Proofs.YtekpnmeikibioaaW.PrintMore
attribute [local go_sem] max2_int min2_int max_two min_two max_three min_three max_four min_four   -- for this text's walks alone
set_option linter.unusedVariables false
set_option linter.unusedSimpArgs false

/-! ### gridhallref3_In: function 16 -/
def gridhallref3_In.f (a0 : Int) (a1 : Int) (a2 : Int) : Option (Bool) := if a0 ≥ a1 then (some (decide (a0 ≤ a2))) else (some false)
set_option maxHeartbeats 8000000 in
set_option maxRecDepth 100000 in
theorem gridhallref3_In.calls (a0 : Int) (a1 : Int) (a2 : Int) (r : Bool) (w : World) (h : gridhallref3_In.f a0 a1 a2 = some r) :
  Calls Try.prog 16 #[.int .i64 a0, .int .i64 a1, .int .i64 a2] w fun e w' => e = .returned (.bool r) ∧ Drawn0 w w' := by
 have H : (if a0 ≥ a1 then (some (decide (a0 ≤ a2))) else (some false)) = some r:=h;clear h
 by_cases c4 : a0 ≥ a1
 ·rw [if_pos c4] at H
  have c4b0:=decide_eq_true c4;clear c4;obtain rfl:=Option.some.inj H
  go_enter Try.func16, Try.ntmps16
  go_wp2
  go_ret
  exact ⟨by first|rfl|(simp;done)|(simp [*];done), by repeat (first|exact Drawn0.refl _|apply Drawn0.step)⟩
 ·rw [if_neg c4] at H
  have c4b0:=decide_eq_false c4;clear c4;obtain rfl:=Option.some.inj H
  go_enter Try.func16, Try.ntmps16
  go_wp2
  go_ret
  exact ⟨by first|rfl|(simp;done)|(simp [*];done), by repeat (first|exact Drawn0.refl _|apply Drawn0.step)⟩

/-! ### gridhallref3_SameInts: function 22 -/
def gridhallref3_SameInts.l0 : Nat → List Int → List Int → Int → Int → Option (Bool)
 | 0, _, _, _, _ => none
 | k + 1, x0, x1, x12, x13 => if x13 < x12 then (if 0 ≤ x13 then (if x13 < (x0.length : Int) then (if x13 < (x1.length : Int) then (if (rd x0 x13) = (rd x1 x13) then (gridhallref3_SameInts.l0 k x0 x1 x12 (wrap64 (x13 + 1))) else (some false)) else (none)) else (none)) else (none)) else (some true)
def gridhallref3_SameInts.f (k : Nat) (l0 : List Int) (l1 : List Int) : Option (Bool) := if (l0.length : Int) = (l1.length : Int) then (gridhallref3_SameInts.l0 k l0 l1 (l0.length : Int) 0) else (some false)
theorem gridhallref3_SameInts.mono_l : ∀ k, (∀ y0 y1 y2 y3, LeO (gridhallref3_SameInts.l0 k y0 y1 y2 y3) (gridhallref3_SameInts.l0 (k + 1) y0 y1 y2 y3))
 | 0 => fun _ _ _ _ r h => by simp [gridhallref3_SameInts.l0] at h
 | k + 1 => by
  have ih0:=gridhallref3_SameInts.mono_l k
  ·intro y0 y1 y2 y3
   unfold gridhallref3_SameInts.l0
   repeat' first|(with_reducible first|exact ih0 _ _ _ _|exact LeO.refl _|exact LeO.none _|refine LeO.ite ?_ ?_|refine LeO.bind ?_ (fun _=>?_))|exact ih0 _ _ _ _|exact LeO.none _|refine LeO.ite ?_ ?_|refine LeO.bind ?_ (fun _=>?_)
theorem gridhallref3_SameInts.mono : ∀ a0 a1 k, LeO (gridhallref3_SameInts.f k a0 a1) (gridhallref3_SameInts.f (k + 1) a0 a1) := by
 intro a0 a1 k
 have ih0:=gridhallref3_SameInts.mono_l k
 unfold gridhallref3_SameInts.f
 repeat' first|(with_reducible first|exact ih0 _ _ _ _|exact LeO.refl _|exact LeO.none _|refine LeO.ite ?_ ?_|refine LeO.bind ?_ (fun _=>?_))|exact ih0 _ _ _ _|exact LeO.none _|refine LeO.ite ?_ ?_|refine LeO.bind ?_ (fun _=>?_)
set_option maxHeartbeats 8000000 in
set_option maxRecDepth 100000 in
theorem gridhallref3_SameInts.calls (k : Nat) (A0 : Option Addr) (c0 : Nat) (l0 : List Int) (A1 : Option Addr) (c1 : Nat) (l1 : List Int) (r : Bool) (w : World) (hr0 : Kd.C (Kd.int .i64) w A0 l0.length l0) (hc0 : l0.length ≤ c0) (hr1 : Kd.C (Kd.int .i64) w A1 l1.length l1) (hc1 : l1.length ≤ c1) (h : gridhallref3_SameInts.f k l0 l1 = some r) :
  Calls Try.prog 22 #[.slice A0 l0.length c0, .slice A1 l1.length c1] w fun e w' => e = .returned (.bool r) ∧ Drawn0 w w' := by
 have HR0:=k0_ hr0;have HC0:=k0_ hc0;clear hr0 hc0;have HR1:=k0_ hr1;have HC1:=k0_ hc1;clear hr1 hc1;have H : (if (l0.length : Int) = (l1.length : Int) then (gridhallref3_SameInts.l0 k l0 l1 (l0.length : Int) 0) else (some false)) = some r:=h;clear h
 by_cases c3 : (l0.length : Int) = (l1.length : Int)
 ·rw [if_pos c3] at H
  have c3b0:=beq_iff_eq.mpr c3;have c3b1:=bne_eq_false_iff_eq.mpr c3;have c3b2 : (l0.length == l1.length) = true:=by first|simpa using c3|(simp at c3 ⊢;omega)
  clear c3;have H':=k0_ H;clear H
  go_enter Try.func22, Try.ntmps22
  go_wp2
  repeat (go_quiet (fail);try go_wp2)
  (try simp only [Act.put, q1_,q3_,q2_])
  go_loopg [13] k (fun kq v13 w'=>∃ (x13_1 : Int), v13 = .int .i64 x13_1∧Aside0 (gridhallref3_SameInts.l0 kq l0 l1 (l0.length : Int) x13_1 = some r)∧Aside0 (kq ≤ k)∧Drawn0 w w')
  case atStart=>exact ⟨(0),rs_, H', ⟨Nat.le_refl _⟩, by repeat (first|exact Drawn0.refl _|apply Drawn0.step)⟩
  clear H';(try clear c1);(try clear c2);(try clear p2);(try clear c3);(try clear c3b0);(try clear c3b1);(try clear c3b2);obtain ⟨x13_1, rfl, HA, HK1, ⟨m1, rfl⟩⟩:=hrel;obtain _|k1:=gk
  ·exact absurd HA.out (by simp [gridhallref3_SameInts.l0])
  have H:=HA.out;clear HA;simp only [gridhallref3_SameInts.l0] at H
  by_cases c4 : x13_1 < (l0.length : Int)
  ·rw [if_pos c4] at H
   have c4b0:=decide_eq_true c4;clear c4
   by_cases c5 : 0 ≤ x13_1
   rw [if_pos c5] at H;have c5b0:=decide_eq_true c5;clear c5
   focus
    by_cases c6 : x13_1 < (l0.length : Int)
    rw [if_pos c6] at H;have c6b0:=decide_eq_true c6;clear c6
    focus
     by_cases c7 : x13_1 < (l1.length : Int)
     rw [if_pos c7] at H;have c7b0:=decide_eq_true c7;clear c7
     focus
      by_cases c8 : (rd l0 x13_1) = (rd l1 x13_1)
      rw [if_pos c8] at H;have c8b0:=beq_iff_eq.mpr c8;have c8b1:=bne_eq_false_iff_eq.mpr c8;clear c8;have H':=k0_ H;clear H;rotate_left;rw [if_neg c8] at H;have c8b0:=beq_eq_false_iff_ne.mpr c8;have c8b1:=bne_iff_ne.mpr c8;obtain rfl:=Option.some.inj H;rotate_left
     rotate_left 2;rw [if_neg c7] at H
     exact absurd H (by simp)
    rotate_left 2;rw [if_neg c6] at H
    exact absurd H (by simp)
   rotate_left 2;rw [if_neg c5] at H
   exact absurd H (by simp)
   all_goals
    have p101 : 0 ≤ (x13_1 : Int):=of_decide_eq_true as_;have q101 : x13_1 < (l0.length : Int):=of_decide_eq_true as_;obtain ⟨ad101, e101, hx101_0⟩:=Kd.at_int HR0.out x13_1 p101 q101;cases e101;replace p101:=eq_true p101;replace q101:=eq_true q101;have p102 : 0 ≤ (x13_1 : Int):=of_decide_eq_true as_;have q102 : x13_1 < (l1.length : Int):=of_decide_eq_true as_;obtain ⟨ad102, e102, hx102_0⟩:=Kd.at_int HR1.out x13_1 p102 q102;cases e102;replace p102:=eq_true p102;replace q102:=eq_true q102;go_wp2
    repeat (go_quiet (fail);try go_wp2)
   ·go_roundg k1
    case measure=>have:=HK1.out;omega
    case rel=>exact ⟨(wrap64 (x13_1 + 1)),rs_, H', ⟨by have:=HK1.out;omega⟩, by repeat (first|exact Drawn0.refl _|apply Drawn0.step)⟩
   ·go_ret
    exact ⟨by first|rfl|(simp;done)|(simp [*];done), by repeat (first|exact Drawn0.refl _|apply Drawn0.step)⟩
  ·rw [if_neg c4] at H
   have c4b0:=decide_eq_false c4;clear c4;obtain rfl:=Option.some.inj H;go_wp2
   repeat (go_quiet (fail);try go_wp2)
   go_ret
   exact ⟨by first|rfl|(simp;done)|(simp [*];done), by repeat (first|exact Drawn0.refl _|apply Drawn0.step)⟩
 ·rw [if_neg c3] at H
  have c3b0:=beq_eq_false_iff_ne.mpr c3;have c3b1:=bne_iff_ne.mpr c3;have c3b2 : (l0.length == l1.length) = false:=by first|simpa using c3|(simp at c3 ⊢;omega)
  obtain rfl:=Option.some.inj H
  go_enter Try.func22, Try.ntmps22
  go_wp2
  repeat (go_quiet (fail);try go_wp2)
  go_ret
  exact ⟨by first|rfl|(simp;done)|(simp [*];done), by repeat (first|exact Drawn0.refl _|apply Drawn0.step)⟩

/-! ### hours_Check: function 31 -/
def hours_Check.l0 : Nat → List Int → Int → Int → Option (Int)
 | 0, _, _, _ => none
 | k + 1, x8, x9, x10 => if x10 < x9 then (if 0 ≤ x10 then (if x10 < (x8.length : Int) then (if (rd x8 x10) < (-100000) then (some 4) else (if (rd x8 x10) > 100000 then (some 4) else (hours_Check.l0 k x8 x9 (wrap64 (x10 + 1))))) else (none)) else (none)) else (some 0)
def hours_Check.f (k : Nat) (l0 : List Int) : Option (Int) := if (l0.length : Int) > 24 then (some 2) else (hours_Check.l0 k l0 (l0.length : Int) 0)
theorem hours_Check.mono_l : ∀ k, (∀ y0 y1 y2, LeO (hours_Check.l0 k y0 y1 y2) (hours_Check.l0 (k + 1) y0 y1 y2))
 | 0 => fun _ _ _ r h => by simp [hours_Check.l0] at h
 | k + 1 => by
  have ih0:=hours_Check.mono_l k
  ·intro y0 y1 y2
   unfold hours_Check.l0
   repeat' first|(with_reducible first|exact ih0 _ _ _|exact LeO.refl _|exact LeO.none _|refine LeO.ite ?_ ?_|refine LeO.bind ?_ (fun _=>?_))|exact ih0 _ _ _|exact LeO.none _|refine LeO.ite ?_ ?_|refine LeO.bind ?_ (fun _=>?_)
theorem hours_Check.mono : ∀ a0 k, LeO (hours_Check.f k a0) (hours_Check.f (k + 1) a0) := by
 intro a0 k
 have ih0:=hours_Check.mono_l k
 unfold hours_Check.f
 repeat' first|(with_reducible first|exact ih0 _ _ _|exact LeO.refl _|exact LeO.none _|refine LeO.ite ?_ ?_|refine LeO.bind ?_ (fun _=>?_))|exact ih0 _ _ _|exact LeO.none _|refine LeO.ite ?_ ?_|refine LeO.bind ?_ (fun _=>?_)
set_option maxHeartbeats 8000000 in
set_option maxRecDepth 100000 in
theorem hours_Check.calls (k : Nat) (A0 : Option Addr) (c0 : Nat) (l0 : List Int) (r : Int) (w : World) (hr0 : Kd.C (Kd.int .i64) w A0 l0.length l0) (hc0 : l0.length ≤ c0) (h : hours_Check.f k l0 = some r) :
  Calls Try.prog 31 #[.slice A0 l0.length c0] w fun e w' => e = .returned (.int .i64 r) ∧ Drawn0 w w' := by
 have HR0:=k0_ hr0;have HC0:=k0_ hc0;clear hr0 hc0;have H : (if (l0.length : Int) > 24 then (some 2) else (hours_Check.l0 k l0 (l0.length : Int) 0)) = some r:=h;clear h
 by_cases c2 : (l0.length : Int) > 24
 ·rw [if_pos c2] at H
  have c2b0:=decide_eq_true c2;have c2b1 : decide (24 < l0.length) = true:=decide_eq_true (by omega);clear c2;obtain rfl:=Option.some.inj H
  go_enter Try.func31, Try.ntmps31
  go_wp2
  go_ret
  exact ⟨by first|rfl|(simp;done)|(simp [*];done), by repeat (first|exact Drawn0.refl _|apply Drawn0.step)⟩
 ·rw [if_neg c2] at H
  have c2b0:=decide_eq_false c2;have c2b1 : decide (24 < l0.length) = false:=decide_eq_false (by omega);clear c2;have H':=k0_ H;clear H
  go_enter Try.func31, Try.ntmps31
  go_wp2;(try simp only [Act.put, q1_,q3_,q2_])
  go_loopg [10] k (fun kq v10 w'=>∃ (x10_1 : Int), v10 = .int .i64 x10_1∧Aside0 (hours_Check.l0 kq l0 (l0.length : Int) x10_1 = some r)∧Aside0 (kq ≤ k)∧Drawn0 w w')
  case atStart=>exact ⟨(0),rs_, H', ⟨Nat.le_refl _⟩, by repeat (first|exact Drawn0.refl _|apply Drawn0.step)⟩
  clear H';(try clear c2);(try clear c2b0);(try clear c2b1);(try clear p2);obtain ⟨x10_1, rfl, HA, HK1, ⟨m1, rfl⟩⟩:=hrel;obtain _|k1:=gk
  ·exact absurd HA.out (by simp [hours_Check.l0])
  have H:=HA.out;clear HA;simp only [hours_Check.l0] at H
  by_cases c3 : x10_1 < (l0.length : Int)
  ·rw [if_pos c3] at H
   have c3b0:=decide_eq_true c3;clear c3
   by_cases c4 : 0 ≤ x10_1
   rw [if_pos c4] at H;have c4b0:=decide_eq_true c4;clear c4
   focus
    by_cases c5 : x10_1 < (l0.length : Int)
    rw [if_pos c5] at H;have c5b0:=decide_eq_true c5;clear c5
    focus
     by_cases c6 : (rd l0 x10_1) < (-100000)
     rw [if_pos c6] at H;have c6b0:=decide_eq_true c6;clear c6;obtain rfl:=Option.some.inj H;rotate_left;rw [if_neg c6] at H;have c6b0:=decide_eq_false c6;clear c6
     focus
      by_cases c7 : (rd l0 x10_1) > 100000
      rw [if_pos c7] at H;have c7b0:=decide_eq_true c7;clear c7;obtain rfl:=Option.some.inj H;rotate_left;rw [if_neg c7] at H;have c7b0:=decide_eq_false c7;clear c7;have H':=k0_ H;clear H;rotate_left
     rotate_left 2
    rotate_left 3;rw [if_neg c5] at H
    exact absurd H (by simp)
   rotate_left 3;rw [if_neg c4] at H
   exact absurd H (by simp)
   all_goals
    have p103 : 0 ≤ (x10_1 : Int):=of_decide_eq_true as_;have q103 : x10_1 < (l0.length : Int):=of_decide_eq_true as_;obtain ⟨ad103, e103, hx103_0⟩:=Kd.at_int HR0.out x10_1 p103 q103;cases e103;replace p103:=eq_true p103;replace q103:=eq_true q103;go_wp2
   ·go_ret
    exact ⟨by first|rfl|(simp;done)|(simp [*];done), by repeat (first|exact Drawn0.refl _|apply Drawn0.step)⟩
   ·go_ret
    exact ⟨by first|rfl|(simp;done)|(simp [*];done), by repeat (first|exact Drawn0.refl _|apply Drawn0.step)⟩
   ·go_roundg k1
    case measure=>have:=HK1.out;omega
    case rel=>exact ⟨(wrap64 (x10_1 + 1)),rs_, H', ⟨by have:=HK1.out;omega⟩, by repeat (first|exact Drawn0.refl _|apply Drawn0.step)⟩
  ·rw [if_neg c3] at H
   have c3b0:=decide_eq_false c3;clear c3;obtain rfl:=Option.some.inj H;go_wp2
   go_ret
   exact ⟨by first|rfl|(simp;done)|(simp [*];done), by repeat (first|exact Drawn0.refl _|apply Drawn0.step)⟩

-- NOT PRINTED: function 70 (slices_insertionSortCmpFunc_int)

-- NOT PRINTED: function 79 (slices_swapRangeCmpFunc_int)

-- NOT PRINTED: function 76 (slices_rotateCmpFunc_int)

-- NOT PRINTED: function 71 (slices_symMergeCmpFunc_int)

-- NOT PRINTED: function 64 (slices_stableCmpFunc_int)

-- NOT PRINTED: function 53 (slices_SortStableFunc_int_int)

/-! ### cmp_isNaN_int: function 65 -/
def cmp_isNaN_int.f (a0 : Int) : Option (Bool) := some (a0 != a0)
set_option maxHeartbeats 8000000 in
set_option maxRecDepth 100000 in
theorem cmp_isNaN_int.calls (a0 : Int) (r : Bool) (w : World) (h : cmp_isNaN_int.f a0 = some r) :
  Calls Try.prog 65 #[.int .i64 a0] w fun e w' => e = .returned (.bool r) ∧ Drawn0 w w' := by
 have H : (some (a0 != a0)) = some r:=h;clear h;obtain rfl:=Option.some.inj H
 go_enter Try.func65, Try.ntmps65
 go_wp2
 go_ret
 exact ⟨by first|rfl|(simp;done)|(simp [*];done), by repeat (first|exact Drawn0.refl _|apply Drawn0.step)⟩

/-! ### cmp_Compare_int: function 55 -/
def cmp_Compare_int.f (a0 : Int) (a1 : Int) : Option (Int) := (cmp_isNaN_int.f a0).bind fun t104 => ((cmp_isNaN_int.f a1).bind fun t105 => (if t104 = true then (if t105 = true then (some 0) else (some (-1))) else (if t105 = true then (some 1) else (if a0 < a1 then (some (-1)) else (if a0 > a1 then (some 1) else (some 0))))))
set_option maxHeartbeats 8000000 in
set_option maxRecDepth 100000 in
theorem cmp_Compare_int.calls (a0 : Int) (a1 : Int) (r : Int) (w : World) (h : cmp_Compare_int.f a0 a1 = some r) :
  Calls Try.prog 55 #[.int .i64 a0, .int .i64 a1] w fun e w' => e = .returned (.int .i64 r) ∧ Drawn0 w w' := by
 have H : ((cmp_isNaN_int.f a0).bind fun t104=>((cmp_isNaN_int.f a1).bind fun t105=>(if t104 = true then (if t105 = true then (some 0) else (some (-1))) else (if t105 = true then (some 1) else (if a0 < a1 then (some (-1)) else (if a0 > a1 then (some 1) else (some 0))))))) = some r:=h;clear h;replace H:=Option.bind_eq_some_iff.mp H;obtain ⟨t104, A30, H⟩:=H;replace H : ((cmp_isNaN_int.f a1).bind fun t105=>(if t104 = true then (if t105 = true then (some 0) else (some (-1))) else (if t105 = true then (some 1) else (if a0 < a1 then (some (-1)) else (if a0 > a1 then (some 1) else (some 0)))))) = some r:=H;have A3:=k0_ A30;clear A30;replace H:=Option.bind_eq_some_iff.mp H;obtain ⟨t105, A40, H⟩:=H;replace H : (if t104 = true then (if t105 = true then (some 0) else (some (-1))) else (if t105 = true then (some 1) else (if a0 < a1 then (some (-1)) else (if a0 > a1 then (some 1) else (some 0))))) = some r:=H;have A4:=k0_ A40;clear A40
 by_cases c5 : t104 = true
 ·subst c5
  have H1 : (if t105 = true then (some 0) else (some (-1))) = some r:=by rw [if_pos rfl] at H;exact H
  clear H;have H:=H1;clear H1
  by_cases c6 : t105 = true
  ·subst c6
   have H1 : (some 0) = some r:=by rw [if_pos rfl] at H;exact H
   clear H;have H:=H1;clear H1;obtain rfl:=Option.some.inj H
   go_enter Try.func55, Try.ntmps55
   go_wp2_with (first|((with_reducible refine gate_callee (f:=65) rfl ?_);refine goesL_ (some 8) rfl rfl Try.func65 (by kernel_rfl) rfl #[.int .i64 a0] rfl mt_ ?_;(with_reducible refine (cmp_isNaN_int.calls a0 true _ A3.out).mono ?_);rintro e w' ⟨rfl, ⟨nd, rfl⟩⟩;refine ⟨_, rfl, ?_⟩)|((with_reducible refine gate_callee (f:=65) rfl ?_);refine goesL_ (some 10) rfl rfl Try.func65 (by kernel_rfl) rfl #[.int .i64 a1] rfl mt_ ?_;(with_reducible refine (cmp_isNaN_int.calls a1 true _ A4.out).mono ?_);rintro e w' ⟨rfl, ⟨nd, rfl⟩⟩;refine ⟨_, rfl, ?_⟩))
   go_ret
   exact ⟨by first|rfl|(simp;done)|(simp [*];done), by repeat (first|exact Drawn0.refl _|apply Drawn0.step)⟩
  ·replace c6:=Bool.eq_false_iff.mpr c6
   subst c6;have H1 : (some (-1)) = some r:=by rw [if_neg (show ¬ (false = true) by decide)] at H;exact H
   clear H;have H:=H1;clear H1;obtain rfl:=Option.some.inj H
   go_enter Try.func55, Try.ntmps55
   go_wp2_with (first|((with_reducible refine gate_callee (f:=65) rfl ?_);refine goesL_ (some 8) rfl rfl Try.func65 (by kernel_rfl) rfl #[.int .i64 a0] rfl mt_ ?_;(with_reducible refine (cmp_isNaN_int.calls a0 true _ A3.out).mono ?_);rintro e w' ⟨rfl, ⟨nd, rfl⟩⟩;refine ⟨_, rfl, ?_⟩)|((with_reducible refine gate_callee (f:=65) rfl ?_);refine goesL_ (some 10) rfl rfl Try.func65 (by kernel_rfl) rfl #[.int .i64 a1] rfl mt_ ?_;(with_reducible refine (cmp_isNaN_int.calls a1 false _ A4.out).mono ?_);rintro e w' ⟨rfl, ⟨nd, rfl⟩⟩;refine ⟨_, rfl, ?_⟩))
   go_ret
   exact ⟨by first|rfl|(simp;done)|(simp [*];done), by repeat (first|exact Drawn0.refl _|apply Drawn0.step)⟩
 ·replace c5:=Bool.eq_false_iff.mpr c5
  subst c5;have H1 : (if t105 = true then (some 1) else (if a0 < a1 then (some (-1)) else (if a0 > a1 then (some 1) else (some 0)))) = some r:=by rw [if_neg (show ¬ (false = true) by decide)] at H;exact H
  clear H;have H:=H1;clear H1
  by_cases c7 : t105 = true
  ·subst c7
   have H1 : (some 1) = some r:=by rw [if_pos rfl] at H;exact H
   clear H;have H:=H1;clear H1;obtain rfl:=Option.some.inj H
   go_enter Try.func55, Try.ntmps55
   go_wp2_with (first|((with_reducible refine gate_callee (f:=65) rfl ?_);refine goesL_ (some 8) rfl rfl Try.func65 (by kernel_rfl) rfl #[.int .i64 a0] rfl mt_ ?_;(with_reducible refine (cmp_isNaN_int.calls a0 false _ A3.out).mono ?_);rintro e w' ⟨rfl, ⟨nd, rfl⟩⟩;refine ⟨_, rfl, ?_⟩)|((with_reducible refine gate_callee (f:=65) rfl ?_);refine goesL_ (some 10) rfl rfl Try.func65 (by kernel_rfl) rfl #[.int .i64 a1] rfl mt_ ?_;(with_reducible refine (cmp_isNaN_int.calls a1 true _ A4.out).mono ?_);rintro e w' ⟨rfl, ⟨nd, rfl⟩⟩;refine ⟨_, rfl, ?_⟩))
   go_ret
   exact ⟨by first|rfl|(simp;done)|(simp [*];done), by repeat (first|exact Drawn0.refl _|apply Drawn0.step)⟩
  ·replace c7:=Bool.eq_false_iff.mpr c7
   subst c7;have H1 : (if a0 < a1 then (some (-1)) else (if a0 > a1 then (some 1) else (some 0))) = some r:=by rw [if_neg (show ¬ (false = true) by decide)] at H;exact H
   clear H;have H:=H1;clear H1
   by_cases c8 : a0 < a1
   rw [if_pos c8] at H;have c8b0:=decide_eq_true c8;clear c8;obtain rfl:=Option.some.inj H;rotate_left;rw [if_neg c8] at H;have c8b0:=decide_eq_false c8;clear c8
   focus
    by_cases c9 : a0 > a1
    rw [if_pos c9] at H;have c9b0:=decide_eq_true c9;clear c9;obtain rfl:=Option.some.inj H;rotate_left;rw [if_neg c9] at H;have c9b0:=decide_eq_false c9;clear c9;obtain rfl:=Option.some.inj H;rotate_left
   rotate_left 2
   all_goals
    go_enter Try.func55, Try.ntmps55
    go_wp2_with (first|((with_reducible refine gate_callee (f:=65) rfl ?_);refine goesL_ (some 8) rfl rfl Try.func65 (by kernel_rfl) rfl #[.int .i64 a0] rfl mt_ ?_;(with_reducible refine (cmp_isNaN_int.calls a0 false _ A3.out).mono ?_);rintro e w' ⟨rfl, ⟨nd, rfl⟩⟩;refine ⟨_, rfl, ?_⟩)|((with_reducible refine gate_callee (f:=65) rfl ?_);refine goesL_ (some 10) rfl rfl Try.func65 (by kernel_rfl) rfl #[.int .i64 a1] rfl mt_ ?_;(with_reducible refine (cmp_isNaN_int.calls a1 false _ A4.out).mono ?_);rintro e w' ⟨rfl, ⟨nd, rfl⟩⟩;refine ⟨_, rfl, ?_⟩))
    go_ret
   ·exact ⟨by first|rfl|(simp;done)|(simp [*];done), by repeat (first|exact Drawn0.refl _|apply Drawn0.step)⟩
   ·exact ⟨by first|rfl|(simp;done)|(simp [*];done), by repeat (first|exact Drawn0.refl _|apply Drawn0.step)⟩
   ·exact ⟨by first|rfl|(simp;done)|(simp [*];done), by repeat (first|exact Drawn0.refl _|apply Drawn0.step)⟩

/-! ### hours_Spread_1: function 54 -/
def hours_Spread_1.f (a0 : Int) (a1 : Int) (l2 : List Int) (l3 : List (List Int)) (l4 : List Int) : Option (Int) := if 0 < (l2.length : Int) then (if 0 < (l3.length : Int) then (if 0 ≤ a1 then (if a1 < ((rd_L1 l3 0).length : Int) then (if 0 < (l4.length : Int) then (if (rd l4 0) = 0 then (none) else (if 0 ≤ a0 then (if a0 < ((rd_L1 l3 0).length : Int) then ((cmp_Compare_int.f (Int.tmod (wrap64 ((rd l2 0) * (rd (rd_L1 l3 0) a1))) (rd l4 0)) (Int.tmod (wrap64 ((rd l2 0) * (rd (rd_L1 l3 0) a0))) (rd l4 0))).bind fun t114 => (some t114)) else (none)) else (none))) else (none)) else (none)) else (none)) else (none)) else (none)
set_option maxHeartbeats 8000000 in
set_option maxRecDepth 100000 in
theorem hours_Spread_1.calls (a0 : Int) (a1 : Int) (A2 : Option Addr) (l2 : List Int) (A3 : Option Addr) (l3 : List (List Int)) (A4 : Option Addr) (l4 : List Int) (r : Int) (w : World) (hr2 : Kd.C (Kd.int .i64) w A2 l2.length l2) (hr3 : Kd.C (Kd.slice 3 (Kd.int .i64)) w A3 l3.length l3) (hr4 : Kd.C (Kd.int .i64) w A4 l4.length l4) (h : hours_Spread_1.f a0 a1 l2 l3 l4 = some r) :
  Calls Try.prog 54 #[.int .i64 a0, .int .i64 a1, .pointer A2, .pointer A3, .pointer A4] w fun e w' => e = .returned (.int .i64 r) ∧ Drawn0 w w' := by
 have HR2:=k0_ hr2;clear hr2;have HR3:=k0_ hr3;clear hr3;have HR4:=k0_ hr4;clear hr4;have H : (if 0 < (l2.length : Int) then (if 0 < (l3.length : Int) then (if 0 ≤ a1 then (if a1 < ((rd_L1 l3 0).length : Int) then (if 0 < (l4.length : Int) then (if (rd l4 0) = 0 then (none) else (if 0 ≤ a0 then (if a0 < ((rd_L1 l3 0).length : Int) then ((cmp_Compare_int.f (Int.tmod (wrap64 ((rd l2 0) * (rd (rd_L1 l3 0) a1))) (rd l4 0)) (Int.tmod (wrap64 ((rd l2 0) * (rd (rd_L1 l3 0) a0))) (rd l4 0))).bind fun t114=>(some t114)) else (none)) else (none))) else (none)) else (none)) else (none)) else (none)) else (none)) = some r:=h;clear h
 by_cases c6 : 0 < (l2.length : Int)
 ·rw [if_pos c6] at H
  have c6b0:=decide_eq_true c6;have c6b1 : decide (0 < l2.length) = true:=decide_eq_true (by omega);clear c6
  obtain ⟨c7,H⟩:=gi_ H;have c7b0:=decide_eq_true c7;have c7b1 : decide (0 < l3.length) = true:=decide_eq_true (by omega);clear c7
  obtain ⟨c8,H⟩:=gi_ H;have c8b0:=decide_eq_true c8;clear c8
  obtain ⟨c9,H⟩:=gi_ H;have c9b0:=decide_eq_true c9;clear c9
  obtain ⟨c10,H⟩:=gi_ H;have c10b0:=decide_eq_true c10;have c10b1 : decide (0 < l4.length) = true:=decide_eq_true (by omega);clear c10
  by_cases c11 : (rd l4 0) = 0
  ·rw [if_pos c11] at H
   exact absurd H (by simp)
  rw [if_neg c11] at H;have c11b0:=beq_eq_false_iff_ne.mpr c11;have c11b1:=bne_iff_ne.mpr c11
  obtain ⟨c12,H⟩:=gi_ H;have c12b0:=decide_eq_true c12;clear c12
  obtain ⟨c13,H⟩:=gi_ H;have c13b0:=decide_eq_true c13;clear c13;replace H:=Option.bind_eq_some_iff.mp H;obtain ⟨t114, A140, H⟩:=H;replace H : (some t114) = some r:=H;have A14:=k0_ A140;clear A140;obtain rfl:=Option.some.inj H;have p106 : 0 ≤ (0 : Int):=(by omega);have q106 : 0 < (l2.length : Int):=of_decide_eq_true as_;obtain ⟨ad106, e106, hx106_0⟩:=Kd.at_int HR2.out 0 p106 q106;cases e106;have qi106 : (0 < l2.length) = True:=eq_true (by omega);(try rw [show ((0 : Int)).toNat = 0 from rfl] at hx106_0);(try rw [Addr.add_zero'] at hx106_0);replace p106:=eq_true p106;replace q106:=eq_true q106;have p107 : 0 ≤ (0 : Int):=(by omega);have q107 : 0 < (l3.length : Int):=of_decide_eq_true as_;obtain ⟨ad107, A107_0, c107_0, e107, hx107_0, hl107_0, hi107_0⟩:=at_L1 HR3.out 0 p107 q107;cases e107;have qi107 : (0 < l3.length) = True:=eq_true (by omega);(try rw [show ((0 : Int)).toNat = 0 from rfl] at hx107_0);(try rw [Addr.add_zero'] at hx107_0);have HR107_0:=k0_ hi107_0;have HC107_0:=k0_ hl107_0;clear hi107_0 hl107_0;replace p107:=eq_true p107;replace q107:=eq_true q107;have p108 : 0 ≤ (a1 : Int):=of_decide_eq_true as_;have q108 : a1 < ((rd_L1 l3 0).length : Int):=of_decide_eq_true as_;obtain ⟨ad108, e108, hx108_0⟩:=Kd.at_int HR107_0.out a1 p108 q108;cases e108;replace p108:=eq_true p108;replace q108:=eq_true q108;have p109 : 0 ≤ (0 : Int):=(by omega);have q109 : 0 < (l4.length : Int):=of_decide_eq_true as_;obtain ⟨ad109, e109, hx109_0⟩:=Kd.at_int HR4.out 0 p109 q109;cases e109;have qi109 : (0 < l4.length) = True:=eq_true (by omega);(try rw [show ((0 : Int)).toNat = 0 from rfl] at hx109_0);(try rw [Addr.add_zero'] at hx109_0);replace p109:=eq_true p109;replace q109:=eq_true q109;have p110 : 0 ≤ (0 : Int):=(by omega);have q110 : 0 < (l2.length : Int):=of_decide_eq_true as_;obtain ⟨ad110, e110, hx110_0⟩:=Kd.at_int HR2.out 0 p110 q110;obtain rfl : ad106 = ad110:=(by injection e110);have qi110 : (0 < l2.length) = True:=eq_true (by omega);(try rw [show ((0 : Int)).toNat = 0 from rfl] at hx110_0);(try rw [Addr.add_zero'] at hx110_0);replace p110:=eq_true p110;replace q110:=eq_true q110;have p111 : 0 ≤ (0 : Int):=(by omega);have q111 : 0 < (l3.length : Int):=of_decide_eq_true as_;obtain ⟨ad111, A111_0, c111_0, e111, hx111_0, hl111_0, hi111_0⟩:=at_L1 HR3.out 0 p111 q111;obtain rfl : ad107 = ad111:=(by injection e111);have qi111 : (0 < l3.length) = True:=eq_true (by omega);(try rw [show ((0 : Int)).toNat = 0 from rfl] at hx111_0);(try rw [Addr.add_zero'] at hx111_0);have HR111_0:=k0_ hi111_0;have HC111_0:=k0_ hl111_0;clear hi111_0 hl111_0;replace p111:=eq_true p111;replace q111:=eq_true q111;have ea_:=Option.some.inj (hx107_0.symm.trans hx111_0)
  injection ea_ with ea_ en_ ec_
  subst ea_;subst ec_;clear en_;have p112 : 0 ≤ (a0 : Int):=of_decide_eq_true as_;have q112 : a0 < ((rd_L1 l3 0).length : Int):=of_decide_eq_true as_;obtain ⟨ad112, e112, hx112_0⟩:=Kd.at_int HR111_0.out a0 p112 q112;cases e112;replace p112:=eq_true p112;replace q112:=eq_true q112;have p113 : 0 ≤ (0 : Int):=(by omega);have q113 : 0 < (l4.length : Int):=of_decide_eq_true as_;obtain ⟨ad113, e113, hx113_0⟩:=Kd.at_int HR4.out 0 p113 q113;obtain rfl : ad109 = ad113:=(by injection e113);have qi113 : (0 < l4.length) = True:=eq_true (by omega);(try rw [show ((0 : Int)).toNat = 0 from rfl] at hx113_0);(try rw [Addr.add_zero'] at hx113_0);replace p113:=eq_true p113;replace q113:=eq_true q113
  go_enter Try.func54, Try.ntmps54
  go_wp2_with (first|(go_at_call 55;(with_reducible refine (cmp_Compare_int.calls (Int.tmod (wrap64 ((rd l2 0) * (rd (rd_L1 l3 0) a1))) (rd l4 0)) (Int.tmod (wrap64 ((rd l2 0) * (rd (rd_L1 l3 0) a0))) (rd l4 0)) t114 _ A14.out).mono ?_);rintro e w' ⟨rfl, ⟨nd, rfl⟩⟩;(try first|exact ⟨rfl, _, World.drewN_drewN _ _ _⟩|exact ⟨rfl, _, Eq.trans (World.drewN_drewN _ _ _) (congrArg (World.drewN _) (Nat.add_assoc _ _ _))⟩)))
  repeat (go_quiet (first|(go_at_call 55;(with_reducible refine (cmp_Compare_int.calls (Int.tmod (wrap64 ((rd l2 0) * (rd (rd_L1 l3 0) a1))) (rd l4 0)) (Int.tmod (wrap64 ((rd l2 0) * (rd (rd_L1 l3 0) a0))) (rd l4 0)) t114 _ A14.out).mono ?_);rintro e w' ⟨rfl, ⟨nd, rfl⟩⟩;(try first|exact ⟨rfl, _, World.drewN_drewN _ _ _⟩|exact ⟨rfl, _, Eq.trans (World.drewN_drewN _ _ _) (congrArg (World.drewN _) (Nat.add_assoc _ _ _))⟩)));try go_wp2_with (first|(go_at_call 55;(with_reducible refine (cmp_Compare_int.calls (Int.tmod (wrap64 ((rd l2 0) * (rd (rd_L1 l3 0) a1))) (rd l4 0)) (Int.tmod (wrap64 ((rd l2 0) * (rd (rd_L1 l3 0) a0))) (rd l4 0)) t114 _ A14.out).mono ?_);rintro e w' ⟨rfl, ⟨nd, rfl⟩⟩;(try first|exact ⟨rfl, _, World.drewN_drewN _ _ _⟩|exact ⟨rfl, _, Eq.trans (World.drewN_drewN _ _ _) (congrArg (World.drewN _) (Nat.add_assoc _ _ _))⟩))))
  go_ret
  exact ⟨by first|rfl|(simp;done)|(simp [*];done), by repeat (first|exact Drawn0.refl _|apply Drawn0.step)⟩
 ·rw [if_neg c6] at H
  exact absurd H (by simp)

end Go.Proofs.Ytekpnmeikibioaa.PHoursSpreads
