/- Contracts of functions that AuctionClears reaches, a text of this session's own. -/
import Derived.Test.YtdgjelbkogfedaaBox2
import Derived.Test.YtdgjelbkogfedaaHAuctionClearsy0
namespace Go.Proofs.Ytdgjelbkogfedaa.PAuctionClears
open Go.RowKit Go.Proofs.YtdgjelbkogfedaaW.PrintWords Go.Proofs.YtdgjelbkogfedaaW.PrintLast Go.Proofs.YtdgjelbkogfedaaW.PrintMore
attribute [local go_sem] max2_int min2_int max_two min_two max_three min_three max_four min_four   -- for this text's walks alone
set_option linter.unusedVariables false
set_option linter.unusedSimpArgs false

/-! ### gridhallref3_In: function 14 -/
def gridhallref3_In.f (a0 : Int) (a1 : Int) (a2 : Int) : Option (Bool) := if a0 ≥ a1 then (some (decide (a0 ≤ a2))) else (some false)
set_option maxHeartbeats 8000000 in
set_option maxRecDepth 100000 in
theorem gridhallref3_In.calls (a0 : Int) (a1 : Int) (a2 : Int) (r : Bool) (w : World) (h : gridhallref3_In.f a0 a1 a2 = some r) :
  Calls Try.prog 14 #[.int .i64 a0, .int .i64 a1, .int .i64 a2] w fun e w' => e = .returned (.bool r) ∧ Drawn0 w w' := by
 have H : (if a0 ≥ a1 then (some (decide (a0 ≤ a2))) else (some false)) = some r:=h;clear h
 by_cases c4 : a0 ≥ a1
 ·rw [if_pos c4] at H
  have c4b0:=decide_eq_true c4;clear c4;obtain rfl:=Option.some.inj H
  go_enter Try.func14, Try.ntmps14
  go_wp2
  go_ret
  exact ⟨by first|rfl|(simp;done)|(simp [*];done), by repeat (first|exact Drawn0.refl _|apply Drawn0.step)⟩
 ·rw [if_neg c4] at H
  have c4b0:=decide_eq_false c4;clear c4;obtain rfl:=Option.some.inj H
  go_enter Try.func14, Try.ntmps14
  go_wp2
  go_ret
  exact ⟨by first|rfl|(simp;done)|(simp [*];done), by repeat (first|exact Drawn0.refl _|apply Drawn0.step)⟩

/-! ### gridhallref3_Named: function 65 -/
mutual
def gridhallref3_Named.j0 : Nat → ByteArray → Bool → Option (Bool)
 | 0, _, _ => none
 | k + 1, x0, x17 => if x17 = true then (some false) else (gridhallref3_Named.l0 k x0 (x0.size : Int) 0)
def gridhallref3_Named.l0 : Nat → ByteArray → Int → Int → Option (Bool)
 | 0, _, _, _ => none
 | k + 1, x0, x19, x20 => if x20 < x19 then (if 0 ≤ x20 then (if x20 < (x0.size : Int) then ((gridhallref3_In.f (wrap64 (bt x0 x20)) 65 90).bind fun t191 => (if t191 = true then (gridhallref3_Named.l0 k x0 x19 (wrap64 (x20 + 1))) else ((gridhallref3_In.f (wrap64 (bt x0 x20)) 48 57).bind fun t192 => (if t192 = true then (gridhallref3_Named.l0 k x0 x19 (wrap64 (x20 + 1))) else (some false))))) else (none)) else (none)) else (some true)
end
def gridhallref3_Named.f (k : Nat) (a0 : ByteArray) : Option (Bool) := if (a0.size : Int) < 1 then (gridhallref3_Named.j0 k a0 true) else (if (a0.size : Int) > 8 then (gridhallref3_Named.j0 k a0 true) else (if 0 < (a0.size : Int) then ((gridhallref3_In.f (wrap64 (bt a0 0)) 48 57).bind fun t190 => (gridhallref3_Named.j0 k a0 t190)) else (none)))
theorem gridhallref3_Named.mono_l : ∀ k, (∀ y0 y1, LeO (gridhallref3_Named.j0 k y0 y1) (gridhallref3_Named.j0 (k + 1) y0 y1)) ∧ (∀ y0 y1 y2, LeO (gridhallref3_Named.l0 k y0 y1 y2) (gridhallref3_Named.l0 (k + 1) y0 y1 y2))
 | 0 => ⟨fun _ _ r h => by simp [gridhallref3_Named.j0] at h, fun _ _ _ r h => by simp [gridhallref3_Named.l0] at h⟩
 | k + 1 => by
  obtain ⟨ih0, ih1⟩:=gridhallref3_Named.mono_l k
  refine ⟨?_, ?_⟩
  ·intro y0 y1
   unfold gridhallref3_Named.j0
   repeat' first|(with_reducible first|exact ih0 _ _|exact ih1 _ _ _|exact LeO.refl _|exact LeO.none _|refine LeO.ite ?_ ?_|refine LeO.bind ?_ (fun _=>?_))|exact ih0 _ _|exact ih1 _ _ _|exact LeO.none _|refine LeO.ite ?_ ?_|refine LeO.bind ?_ (fun _=>?_)
  ·intro y0 y1 y2
   unfold gridhallref3_Named.l0
   repeat' first|(with_reducible first|exact ih0 _ _|exact ih1 _ _ _|exact LeO.refl _|exact LeO.none _|refine LeO.ite ?_ ?_|refine LeO.bind ?_ (fun _=>?_))|exact ih0 _ _|exact ih1 _ _ _|exact LeO.none _|refine LeO.ite ?_ ?_|refine LeO.bind ?_ (fun _=>?_)
theorem gridhallref3_Named.mono : ∀ a0 k, LeO (gridhallref3_Named.f k a0) (gridhallref3_Named.f (k + 1) a0) := by
 intro a0 k
 obtain ⟨ih0, ih1⟩:=gridhallref3_Named.mono_l k
 unfold gridhallref3_Named.f
 repeat' first|(with_reducible first|exact ih0 _ _|exact ih1 _ _ _|exact LeO.refl _|exact LeO.none _|refine LeO.ite ?_ ?_|refine LeO.bind ?_ (fun _=>?_))|exact ih0 _ _|exact ih1 _ _ _|exact LeO.none _|refine LeO.ite ?_ ?_|refine LeO.bind ?_ (fun _=>?_)
set_option maxHeartbeats 8000000 in
set_option maxRecDepth 100000 in
theorem gridhallref3_Named.calls (k : Nat) (a0 : ByteArray) (r : Bool) (w : World) (h : gridhallref3_Named.f k a0 = some r) :
  Calls Try.prog 65 #[.string a0] w fun e w' => e = .returned (.bool r) ∧ Drawn0 w w' := by
 have H : (if (a0.size : Int) < 1 then (gridhallref3_Named.j0 k a0 true) else (if (a0.size : Int) > 8 then (gridhallref3_Named.j0 k a0 true) else (if 0 < (a0.size : Int) then ((gridhallref3_In.f (wrap64 (bt a0 0)) 48 57).bind fun t190=>(gridhallref3_Named.j0 k a0 t190)) else (none)))) = some r:=h;clear h;have HC2:=k0_ H;clear H
 go_enter Try.func65, Try.ntmps65
 go_upto_region 1 with (fail)
 go_cut [17] (fun v17 wc=>∃ (kq : Nat) (x17_1 : Bool), v17 = .bool x17_1∧Aside0 (gridhallref3_Named.j0 kq a0 x17_1 = some r)∧Aside0 (kq ≤ k)∧Drawn0 w wc)
 case first =>
  have H:=HC2.out;clear HC2
  by_cases c3 : (a0.size : Int) < 1
  ·rw [if_pos c3] at H
   have c3b0:=decide_eq_true c3;have c3b1 : decide (a0.size < 1) = true:=decide_eq_true (by omega);clear c3;(first|rw [c3b0]|(simp only [i64_w, i32_w];rw [c3b0])|skip);have H':=k0_ H;clear H;go_wp2
   go_meet
   case rel=>exact ⟨_, (true),rs_, H', ⟨by first|omega|exact Nat.le_refl _⟩, by repeat (first|exact Drawn0.refl _|apply Drawn0.step)⟩
  ·rw [if_neg c3] at H
   have c3b0:=decide_eq_false c3;have c3b1 : decide (a0.size < 1) = false:=decide_eq_false (by omega);clear c3;(first|rw [c3b0]|(simp only [i64_w, i32_w];rw [c3b0])|skip)
   by_cases c4 : (a0.size : Int) > 8
   ·rw [if_pos c4] at H
    have c4b0:=decide_eq_true c4;have c4b1 : decide (8 < a0.size) = true:=decide_eq_true (by omega);clear c4;have H':=k0_ H;clear H;go_wp2
    go_meet
    case rel=>exact ⟨_, (true),rs_, H', ⟨by first|omega|exact Nat.le_refl _⟩, by repeat (first|exact Drawn0.refl _|apply Drawn0.step)⟩
   ·rw [if_neg c4] at H
    have c4b0:=decide_eq_false c4;have c4b1 : decide (8 < a0.size) = false:=decide_eq_false (by omega);clear c4
    obtain ⟨c5,H⟩:=gi_ H;have c5b0:=decide_eq_true c5;have c5b1 : decide (0 < a0.size) = true:=decide_eq_true (by omega);clear c5;replace H:=Option.bind_eq_some_iff.mp H;obtain ⟨t190, A70, H⟩:=H;replace H : (gridhallref3_Named.j0 k a0 t190) = some r:=H;have A7:=k0_ A70;clear A70;have H':=k0_ H;clear H;have p6 : 0 ≤ (0 : Int):=(by omega);have q6 : 0 < a0.size:=(by have : (0 : Int) < (a0.size : Int):=of_decide_eq_true as_;omega);have hx6 : ∀ h : 0 < a0.size, ((a0[0]'h).toNat : Int) = bt a0 0:=bt_at a0 0;clear p6;have qi6 : (0 < (a0.size : Int)) = True:=eq_true (of_decide_eq_true as_);replace q6:=eq_true q6
    go_wp2_with (first|(go_at_call 14;(with_reducible refine (gridhallref3_In.calls (wrap64 (bt a0 0)) 48 57 t190 _ A7.out).mono ?_);rintro e w' ⟨rfl, ⟨nd, rfl⟩⟩))
    go_meet
    case rel=>exact ⟨_, (t190),rs_, H', ⟨by first|omega|exact Nat.le_refl _⟩, by repeat (first|exact Drawn0.refl _|apply Drawn0.step)⟩
 clear HC2;(try clear p2);(try clear c3);(try clear c3b0);(try clear c3b1);(try clear c4);(try clear c4b0);(try clear c4b1);(try clear c5);(try clear c5b0);(try clear c5b1);(try clear c6);(try clear p6);(try clear q6);(try clear hx6);(try clear qi6);(try clear p6);(try clear q6);obtain ⟨kq, x17_1, rfl, HA, HJ1, ⟨mc1, rfl⟩⟩:=hcut;obtain _|kj1:=kq
 ·exact absurd HA.out (by simp [gridhallref3_Named.j0])
 have H:=HA.out;clear HA;simp only [gridhallref3_Named.j0] at H
 by_cases c8 : x17_1 = true
 ·subst c8
  have H1 : (some false) = some r:=by rw [if_pos rfl] at H;exact H
  clear H;have H:=H1;clear H1;obtain rfl:=Option.some.inj H;go_wp2
  go_ret
  exact ⟨by first|rfl|(simp;done)|(simp [*];done), by repeat (first|exact Drawn0.refl _|apply Drawn0.step)⟩
 ·replace c8:=Bool.eq_false_iff.mpr c8
  subst c8;have H1 : (gridhallref3_Named.l0 kj1 a0 (a0.size : Int) 0) = some r:=by rw [if_neg (show ¬ (false = true) by decide)] at H;exact H
  clear H;have H:=H1;clear H1;have H':=k0_ H;clear H;go_wp2;(try simp only [Act.put, q1_,q3_,q2_])
  go_loopg [20] kj1 (fun kq v20 w'=>∃ (x20_2 : Int), v20 = .int .i64 x20_2∧Aside0 (gridhallref3_Named.l0 kq a0 (a0.size : Int) x20_2 = some r)∧Aside0 (kq ≤ kj1)∧Drawn0 w w')
  case atStart=>exact ⟨(0),rs_, H', ⟨Nat.le_refl _⟩, by repeat (first|exact Drawn0.refl _|apply Drawn0.step)⟩
  clear H';(try clear c1);(try clear p2);(try clear c3);(try clear c3b0);(try clear c3b1);(try clear c4);(try clear c4b0);(try clear c4b1);(try clear c5);(try clear c5b0);(try clear c5b1);(try clear c6);(try clear p6);(try clear q6);(try clear hx6);(try clear qi6);(try clear c8);(try clear p2);(try clear p6);(try clear q6);obtain ⟨x20_2, rfl, HA, HK2, ⟨m2, rfl⟩⟩:=hrel;obtain _|k2:=gk
  ·exact absurd HA.out (by simp [gridhallref3_Named.l0])
  have H:=HA.out;clear HA;simp only [gridhallref3_Named.l0] at H
  by_cases c9 : x20_2 < (a0.size : Int)
  ·rw [if_pos c9] at H
   have c9b0:=decide_eq_true c9;clear c9
   by_cases c10 : 0 ≤ x20_2
   rw [if_pos c10] at H;have c10b0:=decide_eq_true c10;clear c10
   focus
    by_cases c11 : x20_2 < (a0.size : Int)
    rw [if_pos c11] at H;have c11b0:=decide_eq_true c11;clear c11;replace H:=Option.bind_eq_some_iff.mp H;obtain ⟨t191, A130, H⟩:=H;replace H : (if t191 = true then (gridhallref3_Named.l0 k2 a0 (a0.size : Int) (wrap64 (x20_2 + 1))) else ((gridhallref3_In.f (wrap64 (bt a0 x20_2)) 48 57).bind fun t192=>(if t192 = true then (gridhallref3_Named.l0 k2 a0 (a0.size : Int) (wrap64 (x20_2 + 1))) else (some false)))) = some r:=H;have A13:=k0_ A130;clear A130
    focus
     by_cases c14 : t191 = true
     subst c14;have H1 : (gridhallref3_Named.l0 k2 a0 (a0.size : Int) (wrap64 (x20_2 + 1))) = some r:=by rw [if_pos rfl] at H;exact H
     clear H;have H:=H1;clear H1;have H':=k0_ H;clear H;rotate_left;replace c14:=Bool.eq_false_iff.mpr c14;subst c14;have H1 : ((gridhallref3_In.f (wrap64 (bt a0 x20_2)) 48 57).bind fun t192=>(if t192 = true then (gridhallref3_Named.l0 k2 a0 (a0.size : Int) (wrap64 (x20_2 + 1))) else (some false))) = some r:=by rw [if_neg (show ¬ (false = true) by decide)] at H;exact H
     clear H;have H:=H1;clear H1;replace H:=Option.bind_eq_some_iff.mp H;obtain ⟨t192, A160, H⟩:=H;replace H : (if t192 = true then (gridhallref3_Named.l0 k2 a0 (a0.size : Int) (wrap64 (x20_2 + 1))) else (some false)) = some r:=H;have A16:=k0_ A160;clear A160
     focus
      by_cases c17 : t192 = true
      subst c17;have H1 : (gridhallref3_Named.l0 k2 a0 (a0.size : Int) (wrap64 (x20_2 + 1))) = some r:=by rw [if_pos rfl] at H;exact H
      clear H;have H:=H1;clear H1;have H':=k0_ H;clear H;rotate_left;replace c17:=Bool.eq_false_iff.mpr c17;subst c17;have H1 : (some false) = some r:=by rw [if_neg (show ¬ (false = true) by decide)] at H;exact H
      clear H;have H:=H1;clear H1;obtain rfl:=Option.some.inj H;rotate_left
     rotate_left 2
    rotate_left 3;rw [if_neg c11] at H
    exact absurd H (by simp)
   rotate_left 3;rw [if_neg c10] at H
   exact absurd H (by simp)
   all_goals
    have p12 : 0 ≤ (x20_2 : Int):=of_decide_eq_true as_;have q12 : x20_2 < (a0.size : Int):=of_decide_eq_true as_;have hx12:=bt_at a0 x20_2;replace p12:=eq_true p12;replace q12:=eq_true q12
   ·go_wp2_with (first|((with_reducible refine gate_callee (f:=14) rfl ?_);refine goesL_ (some 27) rfl rfl Try.func14 (by kernel_rfl) rfl #[.int .i64 (wrap64 (bt a0 x20_2)), .int .i64 65, .int .i64 90] rfl mt_ ?_;(with_reducible refine (gridhallref3_In.calls (wrap64 (bt a0 x20_2)) 65 90 true _ A13.out).mono ?_);rintro e w' ⟨rfl, ⟨nd, rfl⟩⟩;refine ⟨_, rfl, ?_⟩))
    go_roundg k2
    case measure=>have:=HJ1.out;have:=HK2.out;omega
    case rel=>exact ⟨(wrap64 (x20_2 + 1)),rs_, H', ⟨by have:=HJ1.out;have:=HK2.out;omega⟩, by repeat (first|exact Drawn0.refl _|apply Drawn0.step)⟩
   ·go_wp2_with (first|((with_reducible refine gate_callee (f:=14) rfl ?_);refine goesL_ (some 27) rfl rfl Try.func14 (by kernel_rfl) rfl #[.int .i64 (wrap64 (bt a0 x20_2)), .int .i64 65, .int .i64 90] rfl mt_ ?_;(with_reducible refine (gridhallref3_In.calls (wrap64 (bt a0 x20_2)) 65 90 false _ A13.out).mono ?_);rintro e w' ⟨rfl, ⟨nd, rfl⟩⟩;refine ⟨_, rfl, ?_⟩;have p15 : 0 ≤ (x20_2 : Int):=of_decide_eq_true as_;have q15 : x20_2 < (a0.size : Int):=of_decide_eq_true as_;have hx15:=bt_at a0 x20_2;replace p15:=eq_true p15;replace q15:=eq_true q15)|(go_at_call 14;(with_reducible refine (gridhallref3_In.calls (wrap64 (bt a0 x20_2)) 48 57 true _ A16.out).mono ?_);rintro e w' ⟨rfl, ⟨nd, rfl⟩⟩))
    go_roundg k2
    case measure=>have:=HJ1.out;have:=HK2.out;omega
    case rel=>exact ⟨(wrap64 (x20_2 + 1)),rs_, H', ⟨by have:=HJ1.out;have:=HK2.out;omega⟩, by repeat (first|exact Drawn0.refl _|apply Drawn0.step)⟩
   ·go_wp2_with (first|((with_reducible refine gate_callee (f:=14) rfl ?_);refine goesL_ (some 27) rfl rfl Try.func14 (by kernel_rfl) rfl #[.int .i64 (wrap64 (bt a0 x20_2)), .int .i64 65, .int .i64 90] rfl mt_ ?_;(with_reducible refine (gridhallref3_In.calls (wrap64 (bt a0 x20_2)) 65 90 false _ A13.out).mono ?_);rintro e w' ⟨rfl, ⟨nd, rfl⟩⟩;refine ⟨_, rfl, ?_⟩;have p15 : 0 ≤ (x20_2 : Int):=of_decide_eq_true as_;have q15 : x20_2 < (a0.size : Int):=of_decide_eq_true as_;have hx15:=bt_at a0 x20_2;replace p15:=eq_true p15;replace q15:=eq_true q15)|(go_at_call 14;(with_reducible refine (gridhallref3_In.calls (wrap64 (bt a0 x20_2)) 48 57 false _ A16.out).mono ?_);rintro e w' ⟨rfl, ⟨nd, rfl⟩⟩))
    go_ret
    exact ⟨by first|rfl|(simp;done)|(simp [*];done), by repeat (first|exact Drawn0.refl _|apply Drawn0.step)⟩
  ·rw [if_neg c9] at H
   have c9b0:=decide_eq_false c9;clear c9;obtain rfl:=Option.some.inj H;go_wp2
   go_ret
   exact ⟨by first|rfl|(simp;done)|(simp [*];done), by repeat (first|exact Drawn0.refl _|apply Drawn0.step)⟩

/-! ### gridhallref3_OrdersError: function 27 -/
mutual
def gridhallref3_OrdersError.l0 : Nat → List (S71) → List (S71) → Int → Int → Option (Int)
 | 0, _, _, _, _ => none
 | k + 1, x0, x10, x11, x12 => if x12 < x11 then (if 0 ≤ x12 then (if x12 < (x10.length : Int) then ((gridhallref3_Named.f k ((rd_T71 x10 x12).f0)).bind fun t195 => (if t195 = true then ((gridhallref3_In.f ((rd_T71 x10 x12).f2) 1 100000).bind fun t196 => (if t196 = true then ((gridhallref3_In.f ((rd_T71 x10 x12).f3) (-1000000) 1000000).bind fun t197 => (gridhallref3_OrdersError.j1 k x0 x12 x10 x11 x12 (!t197) ((rd_T71 x10 x12).f0) ((rd_T71 x10 x12).f1) ((rd_T71 x10 x12).f2) ((rd_T71 x10 x12).f3))) else (gridhallref3_OrdersError.j1 k x0 x12 x10 x11 x12 true ((rd_T71 x10 x12).f0) ((rd_T71 x10 x12).f1) ((rd_T71 x10 x12).f2) ((rd_T71 x10 x12).f3)))) else (some 6))) else (none)) else (none)) else (some 0)
def gridhallref3_OrdersError.j1 : Nat → List (S71) → Int → List (S71) → Int → Int → Bool → ByteArray → Bool → Int → Int → Option (Int)
 | 0, _, _, _, _, _, _, _, _, _, _ => none
 | k + 1, x0, x3, x10, x11, x12, x30, x195000, x195001, x195002, x195003 => if x30 = true then (some 4) else (if 0 ≤ x3 then (if x3 ≤ (x0.length : Int) then ((some (x0.take (x3 : Int).toNat : List (S71))).bind fun y198 => (gridhallref3_OrdersError.l1 k x0 x10 x11 x12 y198 (y198.length : Int) 0 x195000 x195001 x195002 x195003)) else (none)) else (none))
def gridhallref3_OrdersError.l1 : Nat → List (S71) → List (S71) → Int → Int → List (S71) → Int → Int → ByteArray → Bool → Int → Int → Option (Int)
 | 0, _, _, _, _, _, _, _, _, _, _, _ => none
 | k + 1, x0, x10, x11, x12, x33, x34, x35, x195000, x195001, x195002, x195003 => if x35 < x34 then (if 0 ≤ x35 then (if x35 < (x33.length : Int) then (if ((rd_T71 x33 x35).f0).toList = x195000.toList then (some 7) else (gridhallref3_OrdersError.l1 k x0 x10 x11 x12 x33 x34 (wrap64 (x35 + 1)) x195000 x195001 x195002 x195003)) else (none)) else (none)) else (gridhallref3_OrdersError.l0 k x0 x10 x11 (wrap64 (x12 + 1)))
end
def gridhallref3_OrdersError.f (k : Nat) (l0 : List (S71)) : Option (Int) := if (l0.length : Int) > 32 then (some 2) else (gridhallref3_OrdersError.l0 k l0 l0 (l0.length : Int) 0)
theorem gridhallref3_OrdersError.mono_l : ∀ k, (∀ y0 y1 y2 y3, LeO (gridhallref3_OrdersError.l0 k y0 y1 y2 y3) (gridhallref3_OrdersError.l0 (k + 1) y0 y1 y2 y3)) ∧ (∀ y0 y1 y2 y3 y4 y5 y6 y7 y8 y9, LeO (gridhallref3_OrdersError.j1 k y0 y1 y2 y3 y4 y5 y6 y7 y8 y9) (gridhallref3_OrdersError.j1 (k + 1) y0 y1 y2 y3 y4 y5 y6 y7 y8 y9)) ∧ (∀ y0 y1 y2 y3 y4 y5 y6 y7 y8 y9 y10, LeO (gridhallref3_OrdersError.l1 k y0 y1 y2 y3 y4 y5 y6 y7 y8 y9 y10) (gridhallref3_OrdersError.l1 (k + 1) y0 y1 y2 y3 y4 y5 y6 y7 y8 y9 y10))
 | 0 => ⟨fun _ _ _ _ r h => by simp [gridhallref3_OrdersError.l0] at h, fun _ _ _ _ _ _ _ _ _ _ r h => by simp [gridhallref3_OrdersError.j1] at h, fun _ _ _ _ _ _ _ _ _ _ _ r h => by simp [gridhallref3_OrdersError.l1] at h⟩
 | k + 1 => by
  obtain ⟨ih0, ih1, ih2⟩:=gridhallref3_OrdersError.mono_l k
  refine ⟨?_, ?_, ?_⟩
  ·intro y0 y1 y2 y3
   unfold gridhallref3_OrdersError.l0
   repeat' first|(with_reducible first|exact ih0 _ _ _ _|exact ih1 _ _ _ _ _ _ _ _ _ _|exact ih2 _ _ _ _ _ _ _ _ _ _ _|exact gridhallref3_Named.mono _ _|exact LeO.refl _|exact LeO.none _|refine LeO.ite ?_ ?_|refine LeO.bind ?_ (fun _=>?_))|exact ih0 _ _ _ _|exact ih1 _ _ _ _ _ _ _ _ _ _|exact ih2 _ _ _ _ _ _ _ _ _ _ _|exact gridhallref3_Named.mono _ _|exact LeO.none _|refine LeO.ite ?_ ?_|refine LeO.bind ?_ (fun _=>?_)
  ·intro y0 y1 y2 y3 y4 y5 y6 y7 y8 y9
   unfold gridhallref3_OrdersError.j1
   repeat' first|(with_reducible first|exact ih0 _ _ _ _|exact ih1 _ _ _ _ _ _ _ _ _ _|exact ih2 _ _ _ _ _ _ _ _ _ _ _|exact gridhallref3_Named.mono _ _|exact LeO.refl _|exact LeO.none _|refine LeO.ite ?_ ?_|refine LeO.bind ?_ (fun _=>?_))|exact ih0 _ _ _ _|exact ih1 _ _ _ _ _ _ _ _ _ _|exact ih2 _ _ _ _ _ _ _ _ _ _ _|exact gridhallref3_Named.mono _ _|exact LeO.none _|refine LeO.ite ?_ ?_|refine LeO.bind ?_ (fun _=>?_)
  ·intro y0 y1 y2 y3 y4 y5 y6 y7 y8 y9 y10
   unfold gridhallref3_OrdersError.l1
   repeat' first|(with_reducible first|exact ih0 _ _ _ _|exact ih1 _ _ _ _ _ _ _ _ _ _|exact ih2 _ _ _ _ _ _ _ _ _ _ _|exact gridhallref3_Named.mono _ _|exact LeO.refl _|exact LeO.none _|refine LeO.ite ?_ ?_|refine LeO.bind ?_ (fun _=>?_))|exact ih0 _ _ _ _|exact ih1 _ _ _ _ _ _ _ _ _ _|exact ih2 _ _ _ _ _ _ _ _ _ _ _|exact gridhallref3_Named.mono _ _|exact LeO.none _|refine LeO.ite ?_ ?_|refine LeO.bind ?_ (fun _=>?_)
theorem gridhallref3_OrdersError.mono : ∀ a0 k, LeO (gridhallref3_OrdersError.f k a0) (gridhallref3_OrdersError.f (k + 1) a0) := by
 intro a0 k
 obtain ⟨ih0, ih1, ih2⟩:=gridhallref3_OrdersError.mono_l k
 unfold gridhallref3_OrdersError.f
 repeat' first|(with_reducible first|exact ih0 _ _ _ _|exact ih1 _ _ _ _ _ _ _ _ _ _|exact ih2 _ _ _ _ _ _ _ _ _ _ _|exact gridhallref3_Named.mono _ _|exact LeO.refl _|exact LeO.none _|refine LeO.ite ?_ ?_|refine LeO.bind ?_ (fun _=>?_))|exact ih0 _ _ _ _|exact ih1 _ _ _ _ _ _ _ _ _ _|exact ih2 _ _ _ _ _ _ _ _ _ _ _|exact gridhallref3_Named.mono _ _|exact LeO.none _|refine LeO.ite ?_ ?_|refine LeO.bind ?_ (fun _=>?_)
set_option maxHeartbeats 8000000 in
set_option maxRecDepth 100000 in
theorem gridhallref3_OrdersError.calls (k : Nat) (A0 : Option Addr) (c0 : Nat) (l0 : List (S71)) (r : Int) (w : World) (hr0 : Kd.C k71 w A0 l0.length l0) (hc0 : l0.length ≤ c0) (h : gridhallref3_OrdersError.f k l0 = some r) :
  Calls Try.prog 27 #[.slice A0 l0.length c0] w fun e w' => e = .returned (.int .i64 r) ∧ Below w.heap.size w w' := by
 have hu71:=Try.underlying71;have HR0:=k0_ hr0;have HC0:=k0_ hc0;clear hr0 hc0;have HB:=k0_ (Below.refl w.heap.size w);have H : (if (l0.length : Int) > 32 then (some 2) else (gridhallref3_OrdersError.l0 k l0 l0 (l0.length : Int) 0)) = some r:=h;clear h
 by_cases c2 : (l0.length : Int) > 32
 ·rw [if_pos c2] at H
  have c2b0:=decide_eq_true c2;have c2b1 : decide (32 < l0.length) = true:=decide_eq_true (by omega);clear c2;obtain rfl:=Option.some.inj H
  go_enter Try.func27, Try.ntmps27
  go_wp2
  go_ret
  exact ⟨er_, hb0_ HB.out⟩
 ·rw [if_neg c2] at H
  have c2b0:=decide_eq_false c2;have c2b1 : decide (32 < l0.length) = false:=decide_eq_false (by omega);clear c2;have H':=k0_ H;clear H
  go_enter Try.func27, Try.ntmps27
  go_wp2;(try simp only [Act.put, q1_,q3_,q2_])
  go_loopg [12] k (fun kq v12 w'=>∃ (x12_1 : Int), v12 = .int .i64 x12_1∧Aside0 (gridhallref3_OrdersError.l0 kq l0 l0 (l0.length : Int) x12_1 = some r)∧Aside0 (kq ≤ k)∧Aside0 (Below w.heap.size w w'))
  case atStart=>exact ⟨(0),rs_, H', ⟨Nat.le_refl _⟩,⟨hb0_ HB.out⟩⟩
  clear H';(try clear c2);(try clear c2b0);(try clear c2b1);(try clear p2);obtain ⟨x12_1, rfl, HA, HK1, HB⟩:=hrel;obtain _|k1:=gk
  ·exact absurd HA.out (by simp [gridhallref3_OrdersError.l0])
  have H:=HA.out;clear HA;simp only [gridhallref3_OrdersError.l0] at H
  by_cases c3 : x12_1 < (l0.length : Int)
  ·rw [if_pos c3] at H
   have c3b0:=decide_eq_true c3;clear c3
   obtain ⟨c4,H⟩:=gi_ H;have c4b0:=decide_eq_true c4;clear c4
   obtain ⟨c5,H⟩:=gi_ H;have c5b0:=decide_eq_true c5;clear c5;replace H:=Option.bind_eq_some_iff.mp H;obtain ⟨t195, A60, H⟩:=H;replace H : (if t195 = true then ((gridhallref3_In.f ((rd_T71 l0 x12_1).f2) 1 100000).bind fun t196=>(if t196 = true then ((gridhallref3_In.f ((rd_T71 l0 x12_1).f3) (-1000000) 1000000).bind fun t197=>(gridhallref3_OrdersError.j1 k1 l0 x12_1 l0 (l0.length : Int) x12_1 (!t197) ((rd_T71 l0 x12_1).f0) ((rd_T71 l0 x12_1).f1) ((rd_T71 l0 x12_1).f2) ((rd_T71 l0 x12_1).f3))) else (gridhallref3_OrdersError.j1 k1 l0 x12_1 l0 (l0.length : Int) x12_1 true ((rd_T71 l0 x12_1).f0) ((rd_T71 l0 x12_1).f1) ((rd_T71 l0 x12_1).f2) ((rd_T71 l0 x12_1).f3)))) else (some 6)) = some r:=H;have A6:=k0_ A60;clear A60
   by_cases c7 : t195 = true
   ·subst c7
    have H1 : ((gridhallref3_In.f ((rd_T71 l0 x12_1).f2) 1 100000).bind fun t196=>(if t196 = true then ((gridhallref3_In.f ((rd_T71 l0 x12_1).f3) (-1000000) 1000000).bind fun t197=>(gridhallref3_OrdersError.j1 k1 l0 x12_1 l0 (l0.length : Int) x12_1 (!t197) ((rd_T71 l0 x12_1).f0) ((rd_T71 l0 x12_1).f1) ((rd_T71 l0 x12_1).f2) ((rd_T71 l0 x12_1).f3))) else (gridhallref3_OrdersError.j1 k1 l0 x12_1 l0 (l0.length : Int) x12_1 true ((rd_T71 l0 x12_1).f0) ((rd_T71 l0 x12_1).f1) ((rd_T71 l0 x12_1).f2) ((rd_T71 l0 x12_1).f3)))) = some r:=by rw [if_pos rfl] at H;exact H
    clear H;have H:=H1;clear H1;have HC8:=k0_ H;clear H;have p193 : 0 ≤ (x12_1 : Int):=of_decide_eq_true as_;have q193 : x12_1 < (l0.length : Int):=of_decide_eq_true as_;obtain ⟨ad193, e193, hx193_0, hx193_1, hx193_2, hx193_3⟩:=at_T71 HR0.out x12_1 p193 q193;cases e193;replace hx193_0:=bt_ HB.out hx193_0;replace hx193_1:=bt_ HB.out hx193_1;replace hx193_2:=bt_ HB.out hx193_2;replace hx193_3:=bt_ HB.out hx193_3;replace p193:=eq_true p193;replace q193:=eq_true q193
    go_upto_region 8 with (first|((with_reducible refine gate_dst (N:=4) rfl ?_);refine box_event ?hg (N:=4) ?hd (cs:=#[.string (⟨#[]⟩ : ByteArray), .bool false, .int .i64 0, .int .i64 0]) (t:=71) ?hr ?_;(case hd=>rfl);(case hg=>rfl);(case hr=>first|(go_simp;done)|(go_simp;rfl));intro gb194 hg w9 hbox hb;have BK194:=k0_ (hbox);have GW194:=k0_ ((by rw [hg];exact (below_size (hb0_ HB.out)) : w.heap.size ≤ gb194));have GE194:=k0_ ((by rw [hg];exact (below_size (hb0_ HB.out)) : w.heap.size ≤ gb194));replace HB:=k0_ (below_step (hb0_ HB.out) hb);clear hb hbox hg;obtain ⟨hcz10_0,hcz10_1,hcz10_2,hcz10_3⟩:=bc4_ BK194.out;obtain ⟨hfz10_0,hfz10_1,hfz10_2,hfz10_3⟩:=bf4_ BK194.out)|((with_reducible refine gate_callee (f:=65) rfl ?_);refine goesL_ (some 19) rfl rfl Try.func65 (by kernel_rfl) rfl #[.string ((rd_T71 l0 x12_1).f0)] rfl mt_ ?_;(with_reducible refine (gridhallref3_Named.calls k1 ((rd_T71 l0 x12_1).f0) true _ A6.out).mono ?_);rintro e w' ⟨rfl, ⟨nd, rfl⟩⟩;refine ⟨_, rfl, ?_⟩))
    (try simp only [Act.put, q1_,q2_,q3_])
    go_cut [30] (fun v30 wc=>∃ (kq : Nat) (x30_7 : Bool), v30 = .bool x30_7∧Aside0 (gridhallref3_OrdersError.j1 kq l0 x12_1 l0 (l0.length : Int) x12_1 x30_7 ((rd_T71 l0 x12_1).f0) ((rd_T71 l0 x12_1).f1) ((rd_T71 l0 x12_1).f2) ((rd_T71 l0 x12_1).f3) = some r)∧Aside0 (kq ≤ k1)∧Aside0 (wc.heap[gb194]? = some (.cells #[.string ((rd_T71 l0 x12_1).f0), .bool ((rd_T71 l0 x12_1).f1), .int .i64 ((rd_T71 l0 x12_1).f2), .int .i64 ((rd_T71 l0 x12_1).f3)] 71 (0, 0)))∧Aside0 (Below w.heap.size w wc))
    case first =>
     have H:=HC8.out;clear HC8;replace H:=Option.bind_eq_some_iff.mp H;obtain ⟨t196, A110, H⟩:=H;replace H : (if t196 = true then ((gridhallref3_In.f ((rd_T71 l0 x12_1).f3) (-1000000) 1000000).bind fun t197=>(gridhallref3_OrdersError.j1 k1 l0 x12_1 l0 (l0.length : Int) x12_1 (!t197) ((rd_T71 l0 x12_1).f0) ((rd_T71 l0 x12_1).f1) ((rd_T71 l0 x12_1).f2) ((rd_T71 l0 x12_1).f3))) else (gridhallref3_OrdersError.j1 k1 l0 x12_1 l0 (l0.length : Int) x12_1 true ((rd_T71 l0 x12_1).f0) ((rd_T71 l0 x12_1).f1) ((rd_T71 l0 x12_1).f2) ((rd_T71 l0 x12_1).f3))) = some r:=H;have A11:=k0_ A110;clear A110
     by_cases c12 : t196 = true
     ·subst c12
      have H1 : ((gridhallref3_In.f ((rd_T71 l0 x12_1).f3) (-1000000) 1000000).bind fun t197=>(gridhallref3_OrdersError.j1 k1 l0 x12_1 l0 (l0.length : Int) x12_1 (!t197) ((rd_T71 l0 x12_1).f0) ((rd_T71 l0 x12_1).f1) ((rd_T71 l0 x12_1).f2) ((rd_T71 l0 x12_1).f3))) = some r:=by rw [if_pos rfl] at H;exact H
      clear H;have H:=H1;clear H1;replace H:=Option.bind_eq_some_iff.mp H;obtain ⟨t197, A130, H⟩:=H;replace H : (gridhallref3_OrdersError.j1 k1 l0 x12_1 l0 (l0.length : Int) x12_1 (!t197) ((rd_T71 l0 x12_1).f0) ((rd_T71 l0 x12_1).f1) ((rd_T71 l0 x12_1).f2) ((rd_T71 l0 x12_1).f3)) = some r:=H;have A13:=k0_ A130;clear A130;have H':=k0_ H;clear H;obtain ⟨hcz14_0,hcz14_1,hcz14_2,hcz14_3⟩:=bc4_ BK194.out;obtain ⟨hfz14_0,hfz14_1,hfz14_2,hfz14_3⟩:=bf4_ BK194.out
      go_wp2_with (first|((with_reducible refine gate_callee (f:=14) rfl ?_);refine goesL_ (some 23) rfl rfl Try.func14 (by kernel_rfl) rfl #[.int .i64 ((rd_T71 l0 x12_1).f2), .int .i64 1, .int .i64 100000] rfl mt_ ?_;(with_reducible refine (gridhallref3_In.calls ((rd_T71 l0 x12_1).f2) 1 100000 true _ A11.out).mono ?_);rintro e w' ⟨rfl, ⟨nd, rfl⟩⟩;refine ⟨_, rfl, ?_⟩)|(go_at_call 14;(with_reducible refine (gridhallref3_In.calls ((rd_T71 l0 x12_1).f3) (-1000000) 1000000 t197 _ A13.out).mono ?_);rintro e w' ⟨rfl, ⟨nd, rfl⟩⟩))
      go_meet
      case rel=>exact ⟨_, (!t197),rs_, H', ⟨by have:=HK1.out;first|omega|exact Nat.le_refl _⟩,⟨by (with_reducible repeat (first|refine blk_drewN ?_ _|refine blk_drew ?_|refine blk_alloc ?_ _));refine blk_put (cs:=#[.string ((rd_T71 l0 x12_1).f0), .bool ((rd_T71 l0 x12_1).f1), .int .i64 ((rd_T71 l0 x12_1).f2), .int .i64 0]) ?_ 3 _ rfl;(with_reducible repeat (first|refine blk_drewN ?_ _|refine blk_drew ?_|refine blk_alloc ?_ _));refine blk_put (cs:=#[.string ((rd_T71 l0 x12_1).f0), .bool ((rd_T71 l0 x12_1).f1), .int .i64 0, .int .i64 0]) ?_ 2 _ rfl;(with_reducible repeat (first|refine blk_drewN ?_ _|refine blk_drew ?_|refine blk_alloc ?_ _));refine blk_put (cs:=#[.string ((rd_T71 l0 x12_1).f0), .bool false, .int .i64 0, .int .i64 0]) ?_ 1 _ rfl;(with_reducible repeat (first|refine blk_drewN ?_ _|refine blk_drew ?_|refine blk_alloc ?_ _));refine blk_put (cs:=#[.string (⟨#[]⟩ : ByteArray), .bool false, .int .i64 0, .int .i64 0]) ?_ 0 _ rfl;(with_reducible repeat (first|refine blk_drewN ?_ _|refine blk_drew ?_|refine blk_alloc ?_ _));exact BK194.out⟩,⟨hb1_ HB.out GE194.out⟩⟩
     ·replace c12:=Bool.eq_false_iff.mpr c12
      subst c12;have H1 : (gridhallref3_OrdersError.j1 k1 l0 x12_1 l0 (l0.length : Int) x12_1 true ((rd_T71 l0 x12_1).f0) ((rd_T71 l0 x12_1).f1) ((rd_T71 l0 x12_1).f2) ((rd_T71 l0 x12_1).f3)) = some r:=by rw [if_neg (show ¬ (false = true) by decide)] at H;exact H
      clear H;have H:=H1;clear H1;have H':=k0_ H;clear H;obtain ⟨hcz15_0,hcz15_1,hcz15_2,hcz15_3⟩:=bc4_ BK194.out;obtain ⟨hfz15_0,hfz15_1,hfz15_2,hfz15_3⟩:=bf4_ BK194.out
      go_wp2_with (first|((with_reducible refine gate_callee (f:=14) rfl ?_);refine goesL_ (some 23) rfl rfl Try.func14 (by kernel_rfl) rfl #[.int .i64 ((rd_T71 l0 x12_1).f2), .int .i64 1, .int .i64 100000] rfl mt_ ?_;(with_reducible refine (gridhallref3_In.calls ((rd_T71 l0 x12_1).f2) 1 100000 false _ A11.out).mono ?_);rintro e w' ⟨rfl, ⟨nd, rfl⟩⟩;refine ⟨_, rfl, ?_⟩))
      go_meet
      case rel=>exact ⟨_, (true),rs_, H', ⟨by have:=HK1.out;first|omega|exact Nat.le_refl _⟩,⟨by (with_reducible repeat (first|refine blk_drewN ?_ _|refine blk_drew ?_|refine blk_alloc ?_ _));refine blk_put (cs:=#[.string ((rd_T71 l0 x12_1).f0), .bool ((rd_T71 l0 x12_1).f1), .int .i64 ((rd_T71 l0 x12_1).f2), .int .i64 0]) ?_ 3 _ rfl;(with_reducible repeat (first|refine blk_drewN ?_ _|refine blk_drew ?_|refine blk_alloc ?_ _));refine blk_put (cs:=#[.string ((rd_T71 l0 x12_1).f0), .bool ((rd_T71 l0 x12_1).f1), .int .i64 0, .int .i64 0]) ?_ 2 _ rfl;(with_reducible repeat (first|refine blk_drewN ?_ _|refine blk_drew ?_|refine blk_alloc ?_ _));refine blk_put (cs:=#[.string ((rd_T71 l0 x12_1).f0), .bool false, .int .i64 0, .int .i64 0]) ?_ 1 _ rfl;(with_reducible repeat (first|refine blk_drewN ?_ _|refine blk_drew ?_|refine blk_alloc ?_ _));refine blk_put (cs:=#[.string (⟨#[]⟩ : ByteArray), .bool false, .int .i64 0, .int .i64 0]) ?_ 0 _ rfl;(with_reducible repeat (first|refine blk_drewN ?_ _|refine blk_drew ?_|refine blk_alloc ?_ _));exact BK194.out⟩,⟨hb1_ HB.out GE194.out⟩⟩
    clear HC8;(try clear c1);(try clear p1);(try clear q1);(try clear hx1);(try clear c2);(try clear c2b0);(try clear c2b1);(try clear p2);(try clear c3);(try clear c3b0);(try clear c4);(try clear c4b0);(try clear c5);(try clear c5b0);(try clear c6);(try clear c7);(try clear c12);(try clear c14);(try clear hcz10_0);(try clear hcz10_1);(try clear hcz10_2);(try clear hcz10_3);(try clear hcz14_0);(try clear hcz14_1);(try clear hcz14_2);(try clear hcz14_3);(try clear hcz15_0);(try clear hcz15_1);(try clear hcz15_2);(try clear hcz15_3);(try clear hfz10_0);(try clear hfz10_1);(try clear hfz10_2);(try clear hfz10_3);(try clear hfz14_0);(try clear hfz14_1);(try clear hfz14_2);(try clear hfz14_3);(try clear hfz15_0);(try clear hfz15_1);(try clear hfz15_2);(try clear hfz15_3);(try clear hx193_0);(try clear hx193_1);(try clear hx193_2);(try clear hx193_3);(try clear p193);(try clear p2);(try clear q193);obtain ⟨kq, x30_7, rfl, HA, HJ7, BK194, HB⟩:=hcut;obtain _|kj7:=kq
    ·exact absurd HA.out (by simp [gridhallref3_OrdersError.j1])
    have H:=HA.out;clear HA;simp only [gridhallref3_OrdersError.j1] at H
    by_cases c16 : x30_7 = true
    ·subst c16
     have H1 : (some 4) = some r:=by rw [if_pos rfl] at H;exact H
     clear H;have H:=H1;clear H1;obtain rfl:=Option.some.inj H;go_wp2
     go_ret
     exact ⟨er_, hb1_ HB.out GE194.out⟩
    ·replace c16:=Bool.eq_false_iff.mpr c16
     subst c16;have H1 : (if 0 ≤ x12_1 then (if x12_1 ≤ (l0.length : Int) then ((some (l0.take (x12_1 : Int).toNat : List (S71))).bind fun y198=>(gridhallref3_OrdersError.l1 kj7 l0 l0 (l0.length : Int) x12_1 y198 (y198.length : Int) 0 ((rd_T71 l0 x12_1).f0) ((rd_T71 l0 x12_1).f1) ((rd_T71 l0 x12_1).f2) ((rd_T71 l0 x12_1).f3))) else (none)) else (none)) = some r:=by rw [if_neg (show ¬ (false = true) by decide)] at H;exact H
     clear H;have H:=H1;clear H1
     obtain ⟨c17,H⟩:=gi_ H;have c17b0:=eq_true c17;have c17b1:=decide_eq_true c17;clear c17
     obtain ⟨c18,H⟩:=gi_ H;have c18b0:=eq_true c18;have c18b1:=decide_eq_true c18;clear c18;obtain ⟨y198, hy198⟩ : ∃ y_ : List (S71), y_ = (l0.take (x12_1 : Int).toNat):=⟨_, rfl⟩;replace H : (gridhallref3_OrdersError.l1 kj7 l0 l0 (l0.length : Int) x12_1 y198 (y198.length : Int) 0 ((rd_T71 l0 x12_1).f0) ((rd_T71 l0 x12_1).f1) ((rd_T71 l0 x12_1).f2) ((rd_T71 l0 x12_1).f3)) = some r:=by first|(rw [hy198];with_reducible exact H)|(have H2_:=(Option.bind_some _ _).symm.trans H;rw [hy198];with_reducible exact H2_)|(have H2_:=(Option.bind_some _ _).symm.trans H;with_reducible exact H2_)|with_reducible exact H|(rw [hy198];exact H)|exact H
     have Ny198:=k0_ hy198;clear hy198;have H':=k0_ H;clear H;have q19 : (x12_1 : Int) ≤ ((l0.length : Int) : Int):=of_decide_eq_true as_;obtain ⟨i019, hi019, _, hsz19, _⟩:=info_parts info71;have hroom19 : l0.length ≤ c0:=HC0.out;have hC19 : Kd.C k71 _ (some ad193) l0.length l0:=HR0.out;have hcut19:=cut_to (P:=Try.prog) 69 71 .i64 Try.underlying69 hi019 (some ad193) l0.length c0 x12_1 (of_decide_eq_true as_) q19 hroom19;have hr19:=Kd.C_take (m:=(x12_1 : Int).toNat) hC19 (by omega);have hy19 : y198.length = (x12_1 : Int).toNat:=(by rw [Ny198.out, List.length_take];omega);rw [← Ny198.out] at hr19;rw [← hy19] at hcut19;have HR201:=k0_ hr19;have HC201:=k0_ (show y198.length ≤ c0 from by omega);clear hr19 hC19 hroom19 hi019 hsz19;have KY19:=k0_ hy19;clear hy19;replace q19:=eq_true q19;go_wp2;(try simp only [Act.put, q1_,q3_,q2_])
     go_loopg [35] kj7 (fun kq v35 w'=>∃ (x35_3 : Int), v35 = .int .i64 x35_3∧Aside0 (gridhallref3_OrdersError.l1 kq l0 l0 (l0.length : Int) x12_1 y198 (y198.length : Int) x35_3 ((rd_T71 l0 x12_1).f0) ((rd_T71 l0 x12_1).f1) ((rd_T71 l0 x12_1).f2) ((rd_T71 l0 x12_1).f3) = some r)∧Aside0 (kq ≤ kj7)∧Aside0 (w'.heap[gb194]? = some (.cells #[.string ((rd_T71 l0 x12_1).f0), .bool ((rd_T71 l0 x12_1).f1), .int .i64 ((rd_T71 l0 x12_1).f2), .int .i64 ((rd_T71 l0 x12_1).f3)] 71 (0, 0)))∧Aside0 (Below w.heap.size w w'))
     case atStart=>exact ⟨(0),rs_, H', ⟨Nat.le_refl _⟩,⟨bq_ BK194.out⟩,⟨hb1_ HB.out GE194.out⟩⟩
     clear H';(try clear c1);(try clear p1);(try clear q1);(try clear hx1);(try clear c2);(try clear c2b0);(try clear c2b1);(try clear p2);(try clear c3);(try clear c3b0);(try clear c4);(try clear c4b0);(try clear c5);(try clear c5b0);(try clear c6);(try clear c7);(try clear c12);(try clear c14);(try clear c16);(try clear c17);(try clear c17b0);(try clear c17b1);(try clear c18);(try clear c18b0);(try clear c18b1);(try clear p19);(try clear q19);(try clear hx19);(try clear hcz10_0);(try clear hcz10_1);(try clear hcz10_2);(try clear hcz10_3);(try clear hcz14_0);(try clear hcz14_1);(try clear hcz14_2);(try clear hcz14_3);(try clear hcz15_0);(try clear hcz15_1);(try clear hcz15_2);(try clear hcz15_3);(try clear hfz10_0);(try clear hfz10_1);(try clear hfz10_2);(try clear hfz10_3);(try clear hfz14_0);(try clear hfz14_1);(try clear hfz14_2);(try clear hfz14_3);(try clear hfz15_0);(try clear hfz15_1);(try clear hfz15_2);(try clear hfz15_3);(try clear hx193_0);(try clear hx193_1);(try clear hx193_2);(try clear hx193_3);(try clear p1);(try clear p193);(try clear p2);(try clear q1);(try clear q19);(try clear q193);obtain ⟨x35_3, rfl, HA, HK3, BK194, HB⟩:=hrel;obtain _|k3:=gk
     ·exact absurd HA.out (by simp [gridhallref3_OrdersError.l1])
     have H:=HA.out;clear HA;simp only [gridhallref3_OrdersError.l1] at H
     by_cases c20 : x35_3 < (y198.length : Int)
     ·rw [if_pos c20] at H
      have c20b0:=decide_eq_true c20;clear c20
      by_cases c21 : 0 ≤ x35_3
      rw [if_pos c21] at H;have c21b0:=decide_eq_true c21;clear c21
      focus
       by_cases c22 : x35_3 < (y198.length : Int)
       rw [if_pos c22] at H;have c22b0:=decide_eq_true c22;clear c22
       focus
        by_cases c23 : ((rd_T71 y198 x35_3).f0).toList = ((rd_T71 l0 x12_1).f0).toList
        rw [if_pos c23] at H;have c23b0:=beq_iff_eq.mpr c23;have c23b1:=bne_eq_false_iff_eq.mpr c23;clear c23;obtain rfl:=Option.some.inj H;rotate_left;rw [if_neg c23] at H;have c23b0:=beq_eq_false_iff_ne.mpr c23;have c23b1:=bne_iff_ne.mpr c23;have H':=k0_ H;clear H;rotate_left
       rotate_left 2;rw [if_neg c22] at H
       exact absurd H (by simp)
      rotate_left 2;rw [if_neg c21] at H
      exact absurd H (by simp)
      all_goals
       have p202 : 0 ≤ (x35_3 : Int):=of_decide_eq_true as_;have q202 : x35_3 < (y198.length : Int):=of_decide_eq_true as_;obtain ⟨ad202, e202, hx202_0, hx202_1, hx202_2, hx202_3⟩:=at_T71 HR201.out x35_3 p202 q202;obtain rfl : ad193 = ad202:=(by injection e202);replace hx202_0:=bt_ HB.out hx202_0;replace hx202_1:=bt_ HB.out hx202_1;replace hx202_2:=bt_ HB.out hx202_2;replace hx202_3:=bt_ HB.out hx202_3;replace p202:=eq_true p202;replace q202:=eq_true q202
       go_wp2_with (first|((with_reducible refine gate_dst (N:=6) rfl ?_);refine box_event ?hg (N:=6) ?hd (cs:=#[.string (⟨#[]⟩ : ByteArray), .bool false, .int .i64 0, .int .i64 0]) (t:=71) ?hr ?_;(case hd=>rfl);(case hg=>rfl);(case hr=>first|(go_simp;done)|(go_simp;rfl));intro gb203 hg w24 hbox hb;have BK203:=k0_ (hbox);have GW203:=k0_ ((by rw [hg];exact (below_size (hb1_ HB.out GE194.out)) : w.heap.size ≤ gb203));have GE203:=k0_ ((by rw [hg];exact (below_size (hb1_ HB.out GE194.out)) : w.heap.size ≤ gb203));replace HB:=k0_ (below_step (hb1_ HB.out GE194.out) hb);have NB194_203:=k0_ ((by rw [hg];exact Nat.ne_of_lt (blk_lt (g:=gb194) (o:=.cells #[.string ((rd_T71 l0 x12_1).f0), .bool ((rd_T71 l0 x12_1).f1), .int .i64 ((rd_T71 l0 x12_1).f2), .int .i64 ((rd_T71 l0 x12_1).f3)] 71 (0, 0)) (bq_ BK194.out)) : gb194 ≠ gb203));have NB203_194:=k0_ ((by rw [hg];exact Nat.ne_of_gt (blk_lt (g:=gb194) (o:=.cells #[.string ((rd_T71 l0 x12_1).f0), .bool ((rd_T71 l0 x12_1).f1), .int .i64 ((rd_T71 l0 x12_1).f2), .int .i64 ((rd_T71 l0 x12_1).f3)] 71 (0, 0)) (bq_ BK194.out)) : gb203 ≠ gb194));replace BK194:=k0_ (blk_below (g:=gb194) (o:=.cells #[.string ((rd_T71 l0 x12_1).f0), .bool ((rd_T71 l0 x12_1).f1), .int .i64 ((rd_T71 l0 x12_1).f2), .int .i64 ((rd_T71 l0 x12_1).f3)] 71 (0, 0)) (bq_ BK194.out) hb);clear hb hbox hg;have hnb25:=NB203_194.out;have hnc25:=NB194_203.out;obtain ⟨hcz26_0,hcz26_1,hcz26_2,hcz26_3⟩:=bc4_ BK203.out;obtain ⟨hfz26_0,hfz26_1,hfz26_2,hfz26_3⟩:=bf4_ BK203.out;obtain ⟨hcz27_0,hcz27_1,hcz27_2,hcz27_3⟩:=bc4_ BK194.out;obtain ⟨hfz27_0,hfz27_1,hfz27_2,hfz27_3⟩:=bf4_ BK194.out))
      ·go_ret
       exact ⟨er_, hb2_ HB.out GE194.out GE203.out⟩
      ·go_roundg k3
       case measure=>have:=HK1.out;have:=HJ7.out;have:=HK3.out;omega
       case rel=>exact ⟨(wrap64 (x35_3 + 1)),rs_, H', ⟨by have:=HK1.out;have:=HJ7.out;have:=HK3.out;omega⟩,⟨by (with_reducible repeat (first|refine blk_drewN ?_ _|refine blk_drew ?_|refine blk_alloc ?_ _));refine blk_far ?_ NB194_203.out _;(with_reducible repeat (first|refine blk_drewN ?_ _|refine blk_drew ?_|refine blk_alloc ?_ _));refine blk_far ?_ NB194_203.out _;(with_reducible repeat (first|refine blk_drewN ?_ _|refine blk_drew ?_|refine blk_alloc ?_ _));refine blk_far ?_ NB194_203.out _;(with_reducible repeat (first|refine blk_drewN ?_ _|refine blk_drew ?_|refine blk_alloc ?_ _));refine blk_far ?_ NB194_203.out _;(with_reducible repeat (first|refine blk_drewN ?_ _|refine blk_drew ?_|refine blk_alloc ?_ _));exact BK194.out⟩,⟨hb2_ HB.out GE194.out GE203.out⟩⟩
     ·rw [if_neg c20] at H
      have c20b0:=decide_eq_false c20;clear c20;have H':=k0_ H;clear H;go_wp2
      go_roundg k3
      case measure=>have:=HK1.out;have:=HJ7.out;have:=HK3.out;omega
      case rel=>exact ⟨(wrap64 (x12_1 + 1)),rs_, H', ⟨by have:=HK1.out;have:=HJ7.out;have:=HK3.out;omega⟩,⟨hb1_ HB.out GE194.out⟩⟩
   ·replace c7:=Bool.eq_false_iff.mpr c7
    subst c7;have H1 : (some 6) = some r:=by rw [if_neg (show ¬ (false = true) by decide)] at H;exact H
    clear H;have H:=H1;clear H1;obtain rfl:=Option.some.inj H;have p193 : 0 ≤ (x12_1 : Int):=of_decide_eq_true as_;have q193 : x12_1 < (l0.length : Int):=of_decide_eq_true as_;obtain ⟨ad193, e193, hx193_0, hx193_1, hx193_2, hx193_3⟩:=at_T71 HR0.out x12_1 p193 q193;cases e193;replace hx193_0:=bt_ HB.out hx193_0;replace hx193_1:=bt_ HB.out hx193_1;replace hx193_2:=bt_ HB.out hx193_2;replace hx193_3:=bt_ HB.out hx193_3;replace p193:=eq_true p193;replace q193:=eq_true q193
    go_wp2_with (first|((with_reducible refine gate_dst (N:=4) rfl ?_);refine box_event ?hg (N:=4) ?hd (cs:=#[.string (⟨#[]⟩ : ByteArray), .bool false, .int .i64 0, .int .i64 0]) (t:=71) ?hr ?_;(case hd=>rfl);(case hg=>rfl);(case hr=>first|(go_simp;done)|(go_simp;rfl));intro gb194 hg w32 hbox hb;have BK194:=k0_ (hbox);have GW194:=k0_ ((by rw [hg];exact (below_size (hb0_ HB.out)) : w.heap.size ≤ gb194));have GE194:=k0_ ((by rw [hg];exact (below_size (hb0_ HB.out)) : w.heap.size ≤ gb194));replace HB:=k0_ (below_step (hb0_ HB.out) hb);clear hb hbox hg;obtain ⟨hcz33_0,hcz33_1,hcz33_2,hcz33_3⟩:=bc4_ BK194.out;obtain ⟨hfz33_0,hfz33_1,hfz33_2,hfz33_3⟩:=bf4_ BK194.out)|((with_reducible refine gate_callee (f:=65) rfl ?_);refine goesL_ (some 19) rfl rfl Try.func65 (by kernel_rfl) rfl #[.string ((rd_T71 l0 x12_1).f0)] rfl mt_ ?_;(with_reducible refine (gridhallref3_Named.calls k1 ((rd_T71 l0 x12_1).f0) false _ A6.out).mono ?_);rintro e w' ⟨rfl, ⟨nd, rfl⟩⟩;refine ⟨_, rfl, ?_⟩))
    go_ret
    exact ⟨er_, hb1_ HB.out GE194.out⟩
  ·rw [if_neg c3] at H
   have c3b0:=decide_eq_false c3;clear c3;obtain rfl:=Option.some.inj H;go_wp2
   go_ret
   exact ⟨er_, hb0_ HB.out⟩

end Go.Proofs.Ytdgjelbkogfedaa.PAuctionClears
