/- Contracts of functions that HoursChanges reaches, a text of this session's own. -/
import Derived.Test.YtekpnmeikibioaaBox2
import Derived.Test.YtekpnmeikibioaaHHoursChangesy0
import Derived.Test.YtekpnmeikibioaaHHoursChangesy1
namespace Go.Proofs.Ytekpnmeikibioaa.PHoursChanges
open Go.RowKit Go.Proofs.YtekpnmeikibioaaW.PrintWords Go.Proofs.YtekpnmeikibioaaW.PrintLast Go.Proofs.YtekpnmeikibioaaW.PrintMore
attribute [local go_sem] max2_int min2_int max_two min_two max_three min_three max_four min_four   -- for this text's walks alone
set_option linter.unusedVariables false
set_option linter.unusedSimpArgs false

/-! ### gridhallref3_Named: function 63 -/
mutual
def gridhallref3_Named.j0 : Nat → ByteArray → Bool → Option (Bool)
 | 0, _, _ => none
 | k + 1, x0, x17 => if x17 = true then (some false) else (gridhallref3_Named.l0 k x0 (x0.size : Int) 0)
def gridhallref3_Named.l0 : Nat → ByteArray → Int → Int → Option (Bool)
 | 0, _, _, _ => none
 | k + 1, x0, x19, x20 => if x20 < x19 then (if 0 ≤ x20 then (if x20 < (x0.size : Int) then ((gridhallref3_In.f (wrap64 (bt x0 x20)) 65 90).bind fun t140 => (if t140 = true then (gridhallref3_Named.l0 k x0 x19 (wrap64 (x20 + 1))) else ((gridhallref3_In.f (wrap64 (bt x0 x20)) 48 57).bind fun t141 => (if t141 = true then (gridhallref3_Named.l0 k x0 x19 (wrap64 (x20 + 1))) else (some false))))) else (none)) else (none)) else (some true)
end
def gridhallref3_Named.f (k : Nat) (a0 : ByteArray) : Option (Bool) := if (a0.size : Int) < 1 then (gridhallref3_Named.j0 k a0 true) else (if (a0.size : Int) > 8 then (gridhallref3_Named.j0 k a0 true) else (if 0 < (a0.size : Int) then ((gridhallref3_In.f (wrap64 (bt a0 0)) 48 57).bind fun t139 => (gridhallref3_Named.j0 k a0 t139)) else (none)))
theorem gridhallref3_Named.mono_l : ∀ k, (∀ y0 y1, LeO (gridhallref3_Named.j0 k y0 y1) (gridhallref3_Named.j0 (k + 1) y0 y1)) ∧ (∀ y0 y1 y2, LeO (gridhallref3_Named.l0 k y0 y1 y2) (gridhallref3_Named.l0 (k + 1) y0 y1 y2))
 | 0 => ⟨fun _ _ r h => by simp [gridhallref3_Named.j0] at h, fun _ _ _ r h => by simp [gridhallref3_Named.l0] at h⟩
 | k + 1 => by
  obtain ⟨ih0, ih1⟩:=gridhallref3_Named.mono_l k
  refine ⟨?_, ?_⟩
  ·intro y0 y1
   unfold gridhallref3_Named.j0
   repeat' first|(with_reducible first|exact ih0 _ _|exact ih1 _ _ _|exact LeO.refl _|exact LeO.none _|refine LeO.ite ?_ ?_|refine LeO.bind ?_ (fun _=>?_))|exact ih0 _ _|exact ih1 _ _ _|exact LeO.none _|refine LeO.ite ?_ ?_|refine LeO.bind ?_ (fun _=>?_)
  ·intro y0 y1 y2
   unfold gridhallref3_Named.l0
   repeat' first|(with_reducible first|exact ih0 _ _|exact ih1 _ _ _|exact LeO.refl _|exact LeO.none _|refine LeO.ite ?_ ?_|refine LeO.bind ?_ (fun _=>?_))|exact ih0 _ _|exact ih1 _ _ _|exact LeO.none _|refine LeO.ite ?_ ?_|refine LeO.bind ?_ (fun _=>?_)
theorem gridhallref3_Named.mono : ∀ a0 k, LeO (gridhallref3_Named.f k a0) (gridhallref3_Named.f (k + 1) a0) := by
 intro a0 k
 obtain ⟨ih0, ih1⟩:=gridhallref3_Named.mono_l k
 unfold gridhallref3_Named.f
 repeat' first|(with_reducible first|exact ih0 _ _|exact ih1 _ _ _|exact LeO.refl _|exact LeO.none _|refine LeO.ite ?_ ?_|refine LeO.bind ?_ (fun _=>?_))|exact ih0 _ _|exact ih1 _ _ _|exact LeO.none _|refine LeO.ite ?_ ?_|refine LeO.bind ?_ (fun _=>?_)
set_option maxHeartbeats 8000000 in
set_option maxRecDepth 100000 in
theorem gridhallref3_Named.calls (k : Nat) (a0 : ByteArray) (r : Bool) (w : World) (h : gridhallref3_Named.f k a0 = some r) :
  Calls Try.prog 63 #[.string a0] w fun e w' => e = .returned (.bool r) ∧ Drawn0 w w' := by
 have H : (if (a0.size : Int) < 1 then (gridhallref3_Named.j0 k a0 true) else (if (a0.size : Int) > 8 then (gridhallref3_Named.j0 k a0 true) else (if 0 < (a0.size : Int) then ((gridhallref3_In.f (wrap64 (bt a0 0)) 48 57).bind fun t139=>(gridhallref3_Named.j0 k a0 t139)) else (none)))) = some r:=h;clear h;have HC2:=k0_ H;clear H
 go_enter Try.func63, Try.ntmps63
 go_upto_region 1 with (fail)
 go_cut [17] (fun v17 wc=>∃ (kq : Nat) (x17_1 : Bool), v17 = .bool x17_1∧Aside0 (gridhallref3_Named.j0 kq a0 x17_1 = some r)∧Aside0 (kq ≤ k)∧Drawn0 w wc)
 case first =>
  have H:=HC2.out;clear HC2
  by_cases c3 : (a0.size : Int) < 1
  ·rw [if_pos c3] at H
   have c3b0:=decide_eq_true c3;have c3b1 : decide (a0.size < 1) = true:=decide_eq_true (by omega);clear c3;(first|rw [c3b0]|(simp only [i64_w, i32_w];rw [c3b0])|skip);have H':=k0_ H;clear H;go_wp2
   go_meet
   case rel=>exact ⟨_, (true),rs_, H', ⟨by first|omega|exact Nat.le_refl _⟩, by repeat (first|exact Drawn0.refl _|apply Drawn0.step)⟩
  ·rw [if_neg c3] at H
   have c3b0:=decide_eq_false c3;have c3b1 : decide (a0.size < 1) = false:=decide_eq_false (by omega);clear c3;(first|rw [c3b0]|(simp only [i64_w, i32_w];rw [c3b0])|skip)
   by_cases c4 : (a0.size : Int) > 8
   ·rw [if_pos c4] at H
    have c4b0:=decide_eq_true c4;have c4b1 : decide (8 < a0.size) = true:=decide_eq_true (by omega);clear c4;have H':=k0_ H;clear H;go_wp2
    go_meet
    case rel=>exact ⟨_, (true),rs_, H', ⟨by first|omega|exact Nat.le_refl _⟩, by repeat (first|exact Drawn0.refl _|apply Drawn0.step)⟩
   ·rw [if_neg c4] at H
    have c4b0:=decide_eq_false c4;have c4b1 : decide (8 < a0.size) = false:=decide_eq_false (by omega);clear c4
    obtain ⟨c5,H⟩:=gi_ H;have c5b0:=decide_eq_true c5;have c5b1 : decide (0 < a0.size) = true:=decide_eq_true (by omega);clear c5;replace H:=Option.bind_eq_some_iff.mp H;obtain ⟨t139, A70, H⟩:=H;replace H : (gridhallref3_Named.j0 k a0 t139) = some r:=H;have A7:=k0_ A70;clear A70;have H':=k0_ H;clear H;have p6 : 0 ≤ (0 : Int):=(by omega);have q6 : 0 < a0.size:=(by have : (0 : Int) < (a0.size : Int):=of_decide_eq_true as_;omega);have hx6 : ∀ h : 0 < a0.size, ((a0[0]'h).toNat : Int) = bt a0 0:=bt_at a0 0;clear p6;have qi6 : (0 < (a0.size : Int)) = True:=eq_true (of_decide_eq_true as_);replace q6:=eq_true q6
    go_wp2_with (first|(go_at_call 16;(with_reducible refine (gridhallref3_In.calls (wrap64 (bt a0 0)) 48 57 t139 _ A7.out).mono ?_);rintro e w' ⟨rfl, ⟨nd, rfl⟩⟩))
    go_meet
    case rel=>exact ⟨_, (t139),rs_, H', ⟨by first|omega|exact Nat.le_refl _⟩, by repeat (first|exact Drawn0.refl _|apply Drawn0.step)⟩
 clear HC2;(try clear p2);(try clear c3);(try clear c3b0);(try clear c3b1);(try clear c4);(try clear c4b0);(try clear c4b1);(try clear c5);(try clear c5b0);(try clear c5b1);(try clear c6);(try clear p6);(try clear q6);(try clear hx6);(try clear qi6);(try clear p6);(try clear q6);obtain ⟨kq, x17_1, rfl, HA, HJ1, ⟨mc1, rfl⟩⟩:=hcut;obtain _|kj1:=kq
 ·exact absurd HA.out (by simp [gridhallref3_Named.j0])
 have H:=HA.out;clear HA;simp only [gridhallref3_Named.j0] at H
 by_cases c8 : x17_1 = true
 ·subst c8
  have H1 : (some false) = some r:=by rw [if_pos rfl] at H;exact H
  clear H;have H:=H1;clear H1;obtain rfl:=Option.some.inj H;go_wp2
  go_ret
  exact ⟨by first|rfl|(simp;done)|(simp [*];done), by repeat (first|exact Drawn0.refl _|apply Drawn0.step)⟩
 ·replace c8:=Bool.eq_false_iff.mpr c8
  subst c8;have H1 : (gridhallref3_Named.l0 kj1 a0 (a0.size : Int) 0) = some r:=by rw [if_neg (show ¬ (false = true) by decide)] at H;exact H
  clear H;have H:=H1;clear H1;have H':=k0_ H;clear H;go_wp2;(try simp only [Act.put, q1_,q3_,q2_])
  go_loopg [20] kj1 (fun kq v20 w'=>∃ (x20_2 : Int), v20 = .int .i64 x20_2∧Aside0 (gridhallref3_Named.l0 kq a0 (a0.size : Int) x20_2 = some r)∧Aside0 (kq ≤ kj1)∧Drawn0 w w')
  case atStart=>exact ⟨(0),rs_, H', ⟨Nat.le_refl _⟩, by repeat (first|exact Drawn0.refl _|apply Drawn0.step)⟩
  clear H';(try clear c1);(try clear p2);(try clear c3);(try clear c3b0);(try clear c3b1);(try clear c4);(try clear c4b0);(try clear c4b1);(try clear c5);(try clear c5b0);(try clear c5b1);(try clear c6);(try clear p6);(try clear q6);(try clear hx6);(try clear qi6);(try clear c8);(try clear p2);(try clear p6);(try clear q6);obtain ⟨x20_2, rfl, HA, HK2, ⟨m2, rfl⟩⟩:=hrel;obtain _|k2:=gk
  ·exact absurd HA.out (by simp [gridhallref3_Named.l0])
  have H:=HA.out;clear HA;simp only [gridhallref3_Named.l0] at H
  by_cases c9 : x20_2 < (a0.size : Int)
  ·rw [if_pos c9] at H
   have c9b0:=decide_eq_true c9;clear c9
   by_cases c10 : 0 ≤ x20_2
   rw [if_pos c10] at H;have c10b0:=decide_eq_true c10;clear c10
   focus
    by_cases c11 : x20_2 < (a0.size : Int)
    rw [if_pos c11] at H;have c11b0:=decide_eq_true c11;clear c11;replace H:=Option.bind_eq_some_iff.mp H;obtain ⟨t140, A130, H⟩:=H;replace H : (if t140 = true then (gridhallref3_Named.l0 k2 a0 (a0.size : Int) (wrap64 (x20_2 + 1))) else ((gridhallref3_In.f (wrap64 (bt a0 x20_2)) 48 57).bind fun t141=>(if t141 = true then (gridhallref3_Named.l0 k2 a0 (a0.size : Int) (wrap64 (x20_2 + 1))) else (some false)))) = some r:=H;have A13:=k0_ A130;clear A130
    focus
     by_cases c14 : t140 = true
     subst c14;have H1 : (gridhallref3_Named.l0 k2 a0 (a0.size : Int) (wrap64 (x20_2 + 1))) = some r:=by rw [if_pos rfl] at H;exact H
     clear H;have H:=H1;clear H1;have H':=k0_ H;clear H;rotate_left;replace c14:=Bool.eq_false_iff.mpr c14;subst c14;have H1 : ((gridhallref3_In.f (wrap64 (bt a0 x20_2)) 48 57).bind fun t141=>(if t141 = true then (gridhallref3_Named.l0 k2 a0 (a0.size : Int) (wrap64 (x20_2 + 1))) else (some false))) = some r:=by rw [if_neg (show ¬ (false = true) by decide)] at H;exact H
     clear H;have H:=H1;clear H1;replace H:=Option.bind_eq_some_iff.mp H;obtain ⟨t141, A160, H⟩:=H;replace H : (if t141 = true then (gridhallref3_Named.l0 k2 a0 (a0.size : Int) (wrap64 (x20_2 + 1))) else (some false)) = some r:=H;have A16:=k0_ A160;clear A160
     focus
      by_cases c17 : t141 = true
      subst c17;have H1 : (gridhallref3_Named.l0 k2 a0 (a0.size : Int) (wrap64 (x20_2 + 1))) = some r:=by rw [if_pos rfl] at H;exact H
      clear H;have H:=H1;clear H1;have H':=k0_ H;clear H;rotate_left;replace c17:=Bool.eq_false_iff.mpr c17;subst c17;have H1 : (some false) = some r:=by rw [if_neg (show ¬ (false = true) by decide)] at H;exact H
      clear H;have H:=H1;clear H1;obtain rfl:=Option.some.inj H;rotate_left
     rotate_left 2
    rotate_left 3;rw [if_neg c11] at H
    exact absurd H (by simp)
   rotate_left 3;rw [if_neg c10] at H
   exact absurd H (by simp)
   all_goals
    have p12 : 0 ≤ (x20_2 : Int):=of_decide_eq_true as_;have q12 : x20_2 < (a0.size : Int):=of_decide_eq_true as_;have hx12:=bt_at a0 x20_2;replace p12:=eq_true p12;replace q12:=eq_true q12
   ·go_wp2_with (first|((with_reducible refine gate_callee (f:=16) rfl ?_);refine goesL_ (some 27) rfl rfl Try.func16 (by kernel_rfl) rfl #[.int .i64 (wrap64 (bt a0 x20_2)), .int .i64 65, .int .i64 90] rfl mt_ ?_;(with_reducible refine (gridhallref3_In.calls (wrap64 (bt a0 x20_2)) 65 90 true _ A13.out).mono ?_);rintro e w' ⟨rfl, ⟨nd, rfl⟩⟩;refine ⟨_, rfl, ?_⟩))
    go_roundg k2
    case measure=>have:=HJ1.out;have:=HK2.out;omega
    case rel=>exact ⟨(wrap64 (x20_2 + 1)),rs_, H', ⟨by have:=HJ1.out;have:=HK2.out;omega⟩, by repeat (first|exact Drawn0.refl _|apply Drawn0.step)⟩
   ·go_wp2_with (first|((with_reducible refine gate_callee (f:=16) rfl ?_);refine goesL_ (some 27) rfl rfl Try.func16 (by kernel_rfl) rfl #[.int .i64 (wrap64 (bt a0 x20_2)), .int .i64 65, .int .i64 90] rfl mt_ ?_;(with_reducible refine (gridhallref3_In.calls (wrap64 (bt a0 x20_2)) 65 90 false _ A13.out).mono ?_);rintro e w' ⟨rfl, ⟨nd, rfl⟩⟩;refine ⟨_, rfl, ?_⟩;have p15 : 0 ≤ (x20_2 : Int):=of_decide_eq_true as_;have q15 : x20_2 < (a0.size : Int):=of_decide_eq_true as_;have hx15:=bt_at a0 x20_2;replace p15:=eq_true p15;replace q15:=eq_true q15)|(go_at_call 16;(with_reducible refine (gridhallref3_In.calls (wrap64 (bt a0 x20_2)) 48 57 true _ A16.out).mono ?_);rintro e w' ⟨rfl, ⟨nd, rfl⟩⟩))
    go_roundg k2
    case measure=>have:=HJ1.out;have:=HK2.out;omega
    case rel=>exact ⟨(wrap64 (x20_2 + 1)),rs_, H', ⟨by have:=HJ1.out;have:=HK2.out;omega⟩, by repeat (first|exact Drawn0.refl _|apply Drawn0.step)⟩
   ·go_wp2_with (first|((with_reducible refine gate_callee (f:=16) rfl ?_);refine goesL_ (some 27) rfl rfl Try.func16 (by kernel_rfl) rfl #[.int .i64 (wrap64 (bt a0 x20_2)), .int .i64 65, .int .i64 90] rfl mt_ ?_;(with_reducible refine (gridhallref3_In.calls (wrap64 (bt a0 x20_2)) 65 90 false _ A13.out).mono ?_);rintro e w' ⟨rfl, ⟨nd, rfl⟩⟩;refine ⟨_, rfl, ?_⟩;have p15 : 0 ≤ (x20_2 : Int):=of_decide_eq_true as_;have q15 : x20_2 < (a0.size : Int):=of_decide_eq_true as_;have hx15:=bt_at a0 x20_2;replace p15:=eq_true p15;replace q15:=eq_true q15)|(go_at_call 16;(with_reducible refine (gridhallref3_In.calls (wrap64 (bt a0 x20_2)) 48 57 false _ A16.out).mono ?_);rintro e w' ⟨rfl, ⟨nd, rfl⟩⟩))
    go_ret
    exact ⟨by first|rfl|(simp;done)|(simp [*];done), by repeat (first|exact Drawn0.refl _|apply Drawn0.step)⟩
  ·rw [if_neg c9] at H
   have c9b0:=decide_eq_false c9;clear c9;obtain rfl:=Option.some.inj H;go_wp2
   go_ret
   exact ⟨by first|rfl|(simp;done)|(simp [*];done), by repeat (first|exact Drawn0.refl _|apply Drawn0.step)⟩

/-! ### gridhallref3_OfferError: function 50 -/
mutual
def gridhallref3_OfferError.l0 : Nat → List (S41) → Int → Int → ByteArray → List (S41) → Option (Int)
 | 0, _, _, _, _, _ => none
 | k + 1, x14, x15, x16, x143000, x143001 => if x16 < x15 then (if 0 ≤ x16 then (if x16 < (x14.length : Int) then ((gridhallref3_In.f ((rd_T41 x14 x16).f0) 1 100000).bind fun t146 => (if t146 = true then ((gridhallref3_In.f ((rd_T41 x14 x16).f1) (-1000000) 1000000).bind fun t147 => (gridhallref3_OfferError.j1 k x16 x14 x15 x16 (!t147) x143000 x143001 ((rd_T41 x14 x16).f0) ((rd_T41 x14 x16).f1))) else (gridhallref3_OfferError.j1 k x16 x14 x15 x16 true x143000 x143001 ((rd_T41 x14 x16).f0) ((rd_T41 x14 x16).f1)))) else (none)) else (none)) else (some 0)
def gridhallref3_OfferError.j1 : Nat → Int → List (S41) → Int → Int → Bool → ByteArray → List (S41) → Int → Int → Option (Int)
 | 0, _, _, _, _, _, _, _, _, _ => none
 | k + 1, x3, x14, x15, x16, x30, x143000, x143001, x146000, x146001 => if x30 = true then (some 4) else (if x3 > 0 then (if 0 ≤ (wrap64 (x3 - 1)) then (if (wrap64 (x3 - 1)) < (x143001.length : Int) then (gridhallref3_OfferError.j2 k x3 x14 x15 x16 (decide (((rd_T41 x143001 (wrap64 (x3 - 1))).f1) > x146001)) x143000 x143001) else (none)) else (none)) else (gridhallref3_OfferError.j2 k x3 x14 x15 x16 false x143000 x143001))
def gridhallref3_OfferError.j2 : Nat → Int → List (S41) → Int → Int → Bool → ByteArray → List (S41) → Option (Int)
 | 0, _, _, _, _, _, _, _ => none
 | k + 1, x3, x14, x15, x16, x44, x143000, x143001 => if x44 = true then (some 3) else ((gridhallref3_Before.f k x143000 x143001 (wrap64 (x3 + 1))).bind fun t149 => (if t149 > 100000 then (some 2) else (gridhallref3_OfferError.l0 k x14 x15 (wrap64 (x16 + 1)) x143000 x143001)))
end
def gridhallref3_OfferError.f (k : Nat) (a0_0 : ByteArray) (l0_1 : List (S41)) : Option (Int) := (gridhallref3_Named.f k a0_0).bind fun t143 => (if t143 = true then (if (l0_1.length : Int) > 12 then (some 2) else (gridhallref3_OfferError.l0 k l0_1 (l0_1.length : Int) 0 a0_0 l0_1)) else (some 6))
theorem gridhallref3_OfferError.mono_l : ∀ k, (∀ y0 y1 y2 y3 y4, LeO (gridhallref3_OfferError.l0 k y0 y1 y2 y3 y4) (gridhallref3_OfferError.l0 (k + 1) y0 y1 y2 y3 y4)) ∧ (∀ y0 y1 y2 y3 y4 y5 y6 y7 y8, LeO (gridhallref3_OfferError.j1 k y0 y1 y2 y3 y4 y5 y6 y7 y8) (gridhallref3_OfferError.j1 (k + 1) y0 y1 y2 y3 y4 y5 y6 y7 y8)) ∧ (∀ y0 y1 y2 y3 y4 y5 y6, LeO (gridhallref3_OfferError.j2 k y0 y1 y2 y3 y4 y5 y6) (gridhallref3_OfferError.j2 (k + 1) y0 y1 y2 y3 y4 y5 y6))
 | 0 => ⟨fun _ _ _ _ _ r h => by simp [gridhallref3_OfferError.l0] at h, fun _ _ _ _ _ _ _ _ _ r h => by simp [gridhallref3_OfferError.j1] at h, fun _ _ _ _ _ _ _ r h => by simp [gridhallref3_OfferError.j2] at h⟩
 | k + 1 => by
  obtain ⟨ih0, ih1, ih2⟩:=gridhallref3_OfferError.mono_l k
  refine ⟨?_, ?_, ?_⟩
  ·intro y0 y1 y2 y3 y4
   unfold gridhallref3_OfferError.l0
   repeat' first|(with_reducible first|exact ih0 _ _ _ _ _|exact ih1 _ _ _ _ _ _ _ _ _|exact ih2 _ _ _ _ _ _ _|exact gridhallref3_Before.mono _ _ _ _|exact gridhallref3_Named.mono _ _|exact LeO.refl _|exact LeO.none _|refine LeO.ite ?_ ?_|refine LeO.bind ?_ (fun _=>?_))|exact ih0 _ _ _ _ _|exact ih1 _ _ _ _ _ _ _ _ _|exact ih2 _ _ _ _ _ _ _|exact gridhallref3_Before.mono _ _ _ _|exact gridhallref3_Named.mono _ _|exact LeO.none _|refine LeO.ite ?_ ?_|refine LeO.bind ?_ (fun _=>?_)
  ·intro y0 y1 y2 y3 y4 y5 y6 y7 y8
   unfold gridhallref3_OfferError.j1
   repeat' first|(with_reducible first|exact ih0 _ _ _ _ _|exact ih1 _ _ _ _ _ _ _ _ _|exact ih2 _ _ _ _ _ _ _|exact gridhallref3_Before.mono _ _ _ _|exact gridhallref3_Named.mono _ _|exact LeO.refl _|exact LeO.none _|refine LeO.ite ?_ ?_|refine LeO.bind ?_ (fun _=>?_))|exact ih0 _ _ _ _ _|exact ih1 _ _ _ _ _ _ _ _ _|exact ih2 _ _ _ _ _ _ _|exact gridhallref3_Before.mono _ _ _ _|exact gridhallref3_Named.mono _ _|exact LeO.none _|refine LeO.ite ?_ ?_|refine LeO.bind ?_ (fun _=>?_)
  ·intro y0 y1 y2 y3 y4 y5 y6
   unfold gridhallref3_OfferError.j2
   repeat' first|(with_reducible first|exact ih0 _ _ _ _ _|exact ih1 _ _ _ _ _ _ _ _ _|exact ih2 _ _ _ _ _ _ _|exact gridhallref3_Before.mono _ _ _ _|exact gridhallref3_Named.mono _ _|exact LeO.refl _|exact LeO.none _|refine LeO.ite ?_ ?_|refine LeO.bind ?_ (fun _=>?_))|exact ih0 _ _ _ _ _|exact ih1 _ _ _ _ _ _ _ _ _|exact ih2 _ _ _ _ _ _ _|exact gridhallref3_Before.mono _ _ _ _|exact gridhallref3_Named.mono _ _|exact LeO.none _|refine LeO.ite ?_ ?_|refine LeO.bind ?_ (fun _=>?_)
theorem gridhallref3_OfferError.mono : ∀ a0 a1 k, LeO (gridhallref3_OfferError.f k a0 a1) (gridhallref3_OfferError.f (k + 1) a0 a1) := by
 intro a0 a1 k
 obtain ⟨ih0, ih1, ih2⟩:=gridhallref3_OfferError.mono_l k
 unfold gridhallref3_OfferError.f
 repeat' first|(with_reducible first|exact ih0 _ _ _ _ _|exact ih1 _ _ _ _ _ _ _ _ _|exact ih2 _ _ _ _ _ _ _|exact gridhallref3_Before.mono _ _ _ _|exact gridhallref3_Named.mono _ _|exact LeO.refl _|exact LeO.none _|refine LeO.ite ?_ ?_|refine LeO.bind ?_ (fun _=>?_))|exact ih0 _ _ _ _ _|exact ih1 _ _ _ _ _ _ _ _ _|exact ih2 _ _ _ _ _ _ _|exact gridhallref3_Before.mono _ _ _ _|exact gridhallref3_Named.mono _ _|exact LeO.none _|refine LeO.ite ?_ ?_|refine LeO.bind ?_ (fun _=>?_)
set_option maxHeartbeats 8000000 in
set_option maxRecDepth 100000 in
theorem gridhallref3_OfferError.calls (k : Nat) (a0_0 : ByteArray) (A0_1 : Option Addr) (c0_1 : Nat) (l0_1 : List (S41)) (r : Int) (w : World) (hr0_1 : Kd.C k41 w A0_1 l0_1.length l0_1) (hc0_1 : l0_1.length ≤ c0_1) (h : gridhallref3_OfferError.f k a0_0 l0_1 = some r) :
  Calls Try.prog 50 #[.agg #[.string a0_0, .slice A0_1 l0_1.length c0_1]] w fun e w' => e = .returned (.int .i64 r) ∧ Below w.heap.size w w' := by
 have hu29:=Try.underlying29;have hu41:=Try.underlying41;have HR0_1:=k0_ hr0_1;have HC0_1:=k0_ hc0_1;clear hr0_1 hc0_1;have HB:=k0_ (Below.refl w.heap.size w);have H : ((gridhallref3_Named.f k a0_0).bind fun t143=>(if t143 = true then (if (l0_1.length : Int) > 12 then (some 2) else (gridhallref3_OfferError.l0 k l0_1 (l0_1.length : Int) 0 a0_0 l0_1)) else (some 6))) = some r:=h;clear h;replace H:=Option.bind_eq_some_iff.mp H;obtain ⟨t143, A20, H⟩:=H;replace H : (if t143 = true then (if (l0_1.length : Int) > 12 then (some 2) else (gridhallref3_OfferError.l0 k l0_1 (l0_1.length : Int) 0 a0_0 l0_1)) else (some 6)) = some r:=H;have A2:=k0_ A20;clear A20
 by_cases c3 : t143 = true
 ·subst c3
  have H1 : (if (l0_1.length : Int) > 12 then (some 2) else (gridhallref3_OfferError.l0 k l0_1 (l0_1.length : Int) 0 a0_0 l0_1)) = some r:=by rw [if_pos rfl] at H;exact H
  clear H;have H:=H1;clear H1
  by_cases c4 : (l0_1.length : Int) > 12
  rw [if_pos c4] at H;have c4b0:=decide_eq_true c4;have c4b1 : decide (12 < l0_1.length) = true:=decide_eq_true (by omega);clear c4;obtain rfl:=Option.some.inj H;rotate_left;rw [if_neg c4] at H;have c4b0:=decide_eq_false c4;have c4b1 : decide (12 < l0_1.length) = false:=decide_eq_false (by omega);clear c4;have H':=k0_ H;clear H;rotate_left
  all_goals
   go_enter Try.func50, Try.ntmps50
   go_wp2_with (first|((with_reducible refine gate_dst (N:=1) rfl ?_);refine box_event ?hg (N:=1) ?hd (cs:=#[.string a0_0, .slice A0_1 l0_1.length c0_1]) (t:=29) ?hr ?_;(case hd=>rfl);(case hg=>rfl);(case hr=>first|(go_simp;done)|(go_simp;rfl));intro gb142 hg w5 hbox hb;have BK142:=k0_ (hbox);have GW142:=k0_ ((by rw [hg];exact (below_size (hb0_ HB.out)) : w.heap.size ≤ gb142));have GE142:=k0_ ((by rw [hg];exact (below_size (hb0_ HB.out)) : w.heap.size ≤ gb142));replace HB:=k0_ (below_step (hb0_ HB.out) hb);clear hb hbox hg;obtain ⟨hcz6_0,hcz6_1⟩:=bc2_ BK142.out;obtain ⟨hfz6_0,hfz6_1⟩:=bf2_ BK142.out)|(go_at_call 63;(with_reducible refine (gridhallref3_Named.calls k a0_0 true _ A2.out).mono ?_);rintro e w' ⟨rfl, ⟨nd, rfl⟩⟩;(try first|exact ⟨rfl, _, World.drewN_drewN _ _ _⟩|exact ⟨rfl, _, Eq.trans (World.drewN_drewN _ _ _) (congrArg (World.drewN _) (Nat.add_assoc _ _ _))⟩)))
   repeat (go_quiet (first|((with_reducible refine gate_dst (N:=1) rfl ?_);refine box_event ?hg (N:=1) ?hd (cs:=#[.string a0_0, .slice A0_1 l0_1.length c0_1]) (t:=29) ?hr ?_;(case hd=>rfl);(case hg=>rfl);(case hr=>first|(go_simp;done)|(go_simp;rfl));intro gb142 hg w5 hbox hb;have BK142:=k0_ (hbox);have GW142:=k0_ ((by rw [hg];exact (below_size (hb0_ HB.out)) : w.heap.size ≤ gb142));have GE142:=k0_ ((by rw [hg];exact (below_size (hb0_ HB.out)) : w.heap.size ≤ gb142));replace HB:=k0_ (below_step (hb0_ HB.out) hb);clear hb hbox hg;obtain ⟨hcz6_0,hcz6_1⟩:=bc2_ BK142.out;obtain ⟨hfz6_0,hfz6_1⟩:=bf2_ BK142.out)|(go_at_call 63;(with_reducible refine (gridhallref3_Named.calls k a0_0 true _ A2.out).mono ?_);rintro e w' ⟨rfl, ⟨nd, rfl⟩⟩;(try first|exact ⟨rfl, _, World.drewN_drewN _ _ _⟩|exact ⟨rfl, _, Eq.trans (World.drewN_drewN _ _ _) (congrArg (World.drewN _) (Nat.add_assoc _ _ _))⟩)));try go_wp2_with (first|((with_reducible refine gate_dst (N:=1) rfl ?_);refine box_event ?hg (N:=1) ?hd (cs:=#[.string a0_0, .slice A0_1 l0_1.length c0_1]) (t:=29) ?hr ?_;(case hd=>rfl);(case hg=>rfl);(case hr=>first|(go_simp;done)|(go_simp;rfl));intro gb142 hg w5 hbox hb;have BK142:=k0_ (hbox);have GW142:=k0_ ((by rw [hg];exact (below_size (hb0_ HB.out)) : w.heap.size ≤ gb142));have GE142:=k0_ ((by rw [hg];exact (below_size (hb0_ HB.out)) : w.heap.size ≤ gb142));replace HB:=k0_ (below_step (hb0_ HB.out) hb);clear hb hbox hg;obtain ⟨hcz6_0,hcz6_1⟩:=bc2_ BK142.out;obtain ⟨hfz6_0,hfz6_1⟩:=bf2_ BK142.out)|(go_at_call 63;(with_reducible refine (gridhallref3_Named.calls k a0_0 true _ A2.out).mono ?_);rintro e w' ⟨rfl, ⟨nd, rfl⟩⟩;(try first|exact ⟨rfl, _, World.drewN_drewN _ _ _⟩|exact ⟨rfl, _, Eq.trans (World.drewN_drewN _ _ _) (congrArg (World.drewN _) (Nat.add_assoc _ _ _))⟩))))
  ·go_ret
   exact ⟨er_, hb1_ HB.out GE142.out⟩
  ·try simp only [Act.put, q1_,q3_,q2_]
   go_loopg [16] k (fun kq v16 w'=>∃ (x16_1 : Int), v16 = .int .i64 x16_1∧Aside0 (gridhallref3_OfferError.l0 kq l0_1 (l0_1.length : Int) x16_1 a0_0 l0_1 = some r)∧Aside0 (kq ≤ k)∧Aside0 (w'.heap[gb142]? = some (.cells #[.string a0_0, (.slice A0_1 l0_1.length c0_1)] 29 (0, 0)))∧Aside0 (Below w.heap.size w w'))
   case atStart=>exact ⟨(0),rs_, H', ⟨Nat.le_refl _⟩,⟨bq_ BK142.out⟩,⟨hb1_ HB.out GE142.out⟩⟩
   clear H';(try clear p2);(try clear c3);(try clear c4);(try clear c4b0);(try clear c4b1);(try clear c5);(try clear hcz6_0);(try clear hcz6_1);(try clear hcz6_0);(try clear hcz6_1);(try clear hfz6_0);(try clear hfz6_1);(try clear hfz6_0);(try clear hfz6_1);obtain ⟨x16_1, rfl, HA, HK1, BK142, HB⟩:=hrel;obtain _|k1:=gk
   ·exact absurd HA.out (by simp [gridhallref3_OfferError.l0])
   have H:=HA.out;clear HA;simp only [gridhallref3_OfferError.l0] at H
   by_cases c9 : x16_1 < (l0_1.length : Int)
   ·rw [if_pos c9] at H
    have c9b0:=decide_eq_true c9;clear c9
    obtain ⟨c10,H⟩:=gi_ H;have c10b0:=decide_eq_true c10;clear c10
    obtain ⟨c11,H⟩:=gi_ H;have c11b0:=decide_eq_true c11;clear c11;have HC12:=k0_ H;clear H;have p144 : 0 ≤ (x16_1 : Int):=of_decide_eq_true as_;have q144 : x16_1 < (l0_1.length : Int):=of_decide_eq_true as_;obtain ⟨ad144, e144, hx144_0, hx144_1⟩:=at_T41 HR0_1.out x16_1 p144 q144;cases e144;replace hx144_0:=bt_ HB.out hx144_0;replace hx144_1:=bt_ HB.out hx144_1;replace p144:=eq_true p144;replace q144:=eq_true q144
    go_upto_region 8 with (first|((with_reducible refine gate_dst (N:=4) rfl ?_);refine box_event ?hg (N:=4) ?hd (cs:=#[.int .i64 0, .int .i64 0]) (t:=41) ?hr ?_;(case hd=>rfl);(case hg=>rfl);(case hr=>first|(go_simp;done)|(go_simp;rfl));intro gb145 hg w13 hbox hb;have BK145:=k0_ (hbox);have GW145:=k0_ ((by rw [hg];exact (below_size (hb1_ HB.out GE142.out)) : w.heap.size ≤ gb145));have GE145:=k0_ ((by rw [hg];exact (below_size (hb1_ HB.out GE142.out)) : w.heap.size ≤ gb145));replace HB:=k0_ (below_step (hb1_ HB.out GE142.out) hb);have NB142_145:=k0_ ((by rw [hg];exact Nat.ne_of_lt (blk_lt (g:=gb142) (o:=.cells #[.string a0_0, .slice (some ad144) l0_1.length c0_1] 29 (0, 0)) (bq_ BK142.out)) : gb142 ≠ gb145));have NB145_142:=k0_ ((by rw [hg];exact Nat.ne_of_gt (blk_lt (g:=gb142) (o:=.cells #[.string a0_0, .slice (some ad144) l0_1.length c0_1] 29 (0, 0)) (bq_ BK142.out)) : gb145 ≠ gb142));replace BK142:=k0_ (blk_below (g:=gb142) (o:=.cells #[.string a0_0, .slice (some ad144) l0_1.length c0_1] 29 (0, 0)) (bq_ BK142.out) hb);clear hb hbox hg;have hnb14:=NB145_142.out;have hnc14:=NB142_145.out;obtain ⟨hcz15_0,hcz15_1⟩:=bc2_ BK145.out;obtain ⟨hfz15_0,hfz15_1⟩:=bf2_ BK145.out))
    repeat (go_quiet (first|((with_reducible refine gate_dst (N:=4) rfl ?_);refine box_event ?hg (N:=4) ?hd (cs:=#[.int .i64 0, .int .i64 0]) (t:=41) ?hr ?_;(case hd=>rfl);(case hg=>rfl);(case hr=>first|(go_simp;done)|(go_simp;rfl));intro gb145 hg w13 hbox hb;have BK145:=k0_ (hbox);have GW145:=k0_ ((by rw [hg];exact (below_size (hb1_ HB.out GE142.out)) : w.heap.size ≤ gb145));have GE145:=k0_ ((by rw [hg];exact (below_size (hb1_ HB.out GE142.out)) : w.heap.size ≤ gb145));replace HB:=k0_ (below_step (hb1_ HB.out GE142.out) hb);have NB142_145:=k0_ ((by rw [hg];exact Nat.ne_of_lt (blk_lt (g:=gb142) (o:=.cells #[.string a0_0, .slice (some ad144) l0_1.length c0_1] 29 (0, 0)) (bq_ BK142.out)) : gb142 ≠ gb145));have NB145_142:=k0_ ((by rw [hg];exact Nat.ne_of_gt (blk_lt (g:=gb142) (o:=.cells #[.string a0_0, .slice (some ad144) l0_1.length c0_1] 29 (0, 0)) (bq_ BK142.out)) : gb145 ≠ gb142));replace BK142:=k0_ (blk_below (g:=gb142) (o:=.cells #[.string a0_0, .slice (some ad144) l0_1.length c0_1] 29 (0, 0)) (bq_ BK142.out) hb);clear hb hbox hg;have hnb14:=NB145_142.out;have hnc14:=NB142_145.out;obtain ⟨hcz15_0,hcz15_1⟩:=bc2_ BK145.out;obtain ⟨hfz15_0,hfz15_1⟩:=bf2_ BK145.out));go_upto_region 8 with (first|((with_reducible refine gate_dst (N:=4) rfl ?_);refine box_event ?hg (N:=4) ?hd (cs:=#[.int .i64 0, .int .i64 0]) (t:=41) ?hr ?_;(case hd=>rfl);(case hg=>rfl);(case hr=>first|(go_simp;done)|(go_simp;rfl));intro gb145 hg w13 hbox hb;have BK145:=k0_ (hbox);have GW145:=k0_ ((by rw [hg];exact (below_size (hb1_ HB.out GE142.out)) : w.heap.size ≤ gb145));have GE145:=k0_ ((by rw [hg];exact (below_size (hb1_ HB.out GE142.out)) : w.heap.size ≤ gb145));replace HB:=k0_ (below_step (hb1_ HB.out GE142.out) hb);have NB142_145:=k0_ ((by rw [hg];exact Nat.ne_of_lt (blk_lt (g:=gb142) (o:=.cells #[.string a0_0, .slice (some ad144) l0_1.length c0_1] 29 (0, 0)) (bq_ BK142.out)) : gb142 ≠ gb145));have NB145_142:=k0_ ((by rw [hg];exact Nat.ne_of_gt (blk_lt (g:=gb142) (o:=.cells #[.string a0_0, .slice (some ad144) l0_1.length c0_1] 29 (0, 0)) (bq_ BK142.out)) : gb145 ≠ gb142));replace BK142:=k0_ (blk_below (g:=gb142) (o:=.cells #[.string a0_0, .slice (some ad144) l0_1.length c0_1] 29 (0, 0)) (bq_ BK142.out) hb);clear hb hbox hg;have hnb14:=NB145_142.out;have hnc14:=NB142_145.out;obtain ⟨hcz15_0,hcz15_1⟩:=bc2_ BK145.out;obtain ⟨hfz15_0,hfz15_1⟩:=bf2_ BK145.out)))
    (try simp only [Act.put, q1_,q2_,q3_])
    go_cut [30] (fun v30 wc=>∃ (kq : Nat) (x30_11 : Bool), v30 = .bool x30_11∧Aside0 (gridhallref3_OfferError.j1 kq x16_1 l0_1 (l0_1.length : Int) x16_1 x30_11 a0_0 l0_1 ((rd_T41 l0_1 x16_1).f0) ((rd_T41 l0_1 x16_1).f1) = some r)∧Aside0 (kq ≤ k1)∧Aside0 (wc.heap[gb142]? = some (.cells #[.string a0_0, (.slice (some ad144) l0_1.length c0_1)] 29 (0, 0)))∧Aside0 (wc.heap[gb145]? = some (.cells #[.int .i64 ((rd_T41 l0_1 x16_1).f0), .int .i64 ((rd_T41 l0_1 x16_1).f1)] 41 (0, 0)))∧Aside0 (Below w.heap.size w wc))
    case first =>
     have H:=HC12.out;clear HC12;replace H:=Option.bind_eq_some_iff.mp H;obtain ⟨t146, A160, H⟩:=H;replace H : (if t146 = true then ((gridhallref3_In.f ((rd_T41 l0_1 x16_1).f1) (-1000000) 1000000).bind fun t147=>(gridhallref3_OfferError.j1 k1 x16_1 l0_1 (l0_1.length : Int) x16_1 (!t147) a0_0 l0_1 ((rd_T41 l0_1 x16_1).f0) ((rd_T41 l0_1 x16_1).f1))) else (gridhallref3_OfferError.j1 k1 x16_1 l0_1 (l0_1.length : Int) x16_1 true a0_0 l0_1 ((rd_T41 l0_1 x16_1).f0) ((rd_T41 l0_1 x16_1).f1))) = some r:=H;have A16:=k0_ A160;clear A160
     by_cases c17 : t146 = true
     ·subst c17
      have H1 : ((gridhallref3_In.f ((rd_T41 l0_1 x16_1).f1) (-1000000) 1000000).bind fun t147=>(gridhallref3_OfferError.j1 k1 x16_1 l0_1 (l0_1.length : Int) x16_1 (!t147) a0_0 l0_1 ((rd_T41 l0_1 x16_1).f0) ((rd_T41 l0_1 x16_1).f1))) = some r:=by rw [if_pos rfl] at H;exact H
      clear H;have H:=H1;clear H1;replace H:=Option.bind_eq_some_iff.mp H;obtain ⟨t147, A180, H⟩:=H;replace H : (gridhallref3_OfferError.j1 k1 x16_1 l0_1 (l0_1.length : Int) x16_1 (!t147) a0_0 l0_1 ((rd_T41 l0_1 x16_1).f0) ((rd_T41 l0_1 x16_1).f1)) = some r:=H;have A18:=k0_ A180;clear A180;have H':=k0_ H;clear H;have hnb19:=NB145_142.out;have hnc19:=NB142_145.out;obtain ⟨hcz20_0,hcz20_1⟩:=bc2_ BK145.out;obtain ⟨hfz20_0,hfz20_1⟩:=bf2_ BK145.out
      go_wp2_with (first|(go_at_call 16;(with_reducible refine (gridhallref3_In.calls ((rd_T41 l0_1 x16_1).f0) 1 100000 true _ A16.out).mono ?_);rintro e w' ⟨rfl, ⟨nd, rfl⟩⟩;(try first|exact ⟨rfl, _, World.drewN_drewN _ _ _⟩|exact ⟨rfl, _, Eq.trans (World.drewN_drewN _ _ _) (congrArg (World.drewN _) (Nat.add_assoc _ _ _))⟩))|(go_at_call 16;(with_reducible refine (gridhallref3_In.calls ((rd_T41 l0_1 x16_1).f1) (-1000000) 1000000 t147 _ A18.out).mono ?_);rintro e w' ⟨rfl, ⟨nd, rfl⟩⟩;(try first|exact ⟨rfl, _, World.drewN_drewN _ _ _⟩|exact ⟨rfl, _, Eq.trans (World.drewN_drewN _ _ _) (congrArg (World.drewN _) (Nat.add_assoc _ _ _))⟩)))
      repeat (go_quiet (first|(go_at_call 16;(with_reducible refine (gridhallref3_In.calls ((rd_T41 l0_1 x16_1).f0) 1 100000 true _ A16.out).mono ?_);rintro e w' ⟨rfl, ⟨nd, rfl⟩⟩;(try first|exact ⟨rfl, _, World.drewN_drewN _ _ _⟩|exact ⟨rfl, _, Eq.trans (World.drewN_drewN _ _ _) (congrArg (World.drewN _) (Nat.add_assoc _ _ _))⟩))|(go_at_call 16;(with_reducible refine (gridhallref3_In.calls ((rd_T41 l0_1 x16_1).f1) (-1000000) 1000000 t147 _ A18.out).mono ?_);rintro e w' ⟨rfl, ⟨nd, rfl⟩⟩;(try first|exact ⟨rfl, _, World.drewN_drewN _ _ _⟩|exact ⟨rfl, _, Eq.trans (World.drewN_drewN _ _ _) (congrArg (World.drewN _) (Nat.add_assoc _ _ _))⟩)));try go_wp2_with (first|(go_at_call 16;(with_reducible refine (gridhallref3_In.calls ((rd_T41 l0_1 x16_1).f0) 1 100000 true _ A16.out).mono ?_);rintro e w' ⟨rfl, ⟨nd, rfl⟩⟩;(try first|exact ⟨rfl, _, World.drewN_drewN _ _ _⟩|exact ⟨rfl, _, Eq.trans (World.drewN_drewN _ _ _) (congrArg (World.drewN _) (Nat.add_assoc _ _ _))⟩))|(go_at_call 16;(with_reducible refine (gridhallref3_In.calls ((rd_T41 l0_1 x16_1).f1) (-1000000) 1000000 t147 _ A18.out).mono ?_);rintro e w' ⟨rfl, ⟨nd, rfl⟩⟩;(try first|exact ⟨rfl, _, World.drewN_drewN _ _ _⟩|exact ⟨rfl, _, Eq.trans (World.drewN_drewN _ _ _) (congrArg (World.drewN _) (Nat.add_assoc _ _ _))⟩))))
      go_meet
      case rel=>exact ⟨_, (!t147),rs_, H', ⟨by have:=HK1.out;first|omega|exact Nat.le_refl _⟩,⟨by (with_reducible repeat (first|refine blk_drewN ?_ _|refine blk_drew ?_|refine blk_alloc ?_ _));refine blk_far ?_ NB142_145.out _;(with_reducible repeat (first|refine blk_drewN ?_ _|refine blk_drew ?_|refine blk_alloc ?_ _));refine blk_far ?_ NB142_145.out _;(with_reducible repeat (first|refine blk_drewN ?_ _|refine blk_drew ?_|refine blk_alloc ?_ _));exact BK142.out⟩,⟨by (with_reducible repeat (first|refine blk_drewN ?_ _|refine blk_drew ?_|refine blk_alloc ?_ _));refine blk_put (cs:=#[.int .i64 ((rd_T41 l0_1 x16_1).f0), .int .i64 0]) ?_ 1 _ rfl;(with_reducible repeat (first|refine blk_drewN ?_ _|refine blk_drew ?_|refine blk_alloc ?_ _));refine blk_put (cs:=#[.int .i64 0, .int .i64 0]) ?_ 0 _ rfl;(with_reducible repeat (first|refine blk_drewN ?_ _|refine blk_drew ?_|refine blk_alloc ?_ _));exact BK145.out⟩,⟨hb2_ HB.out GE142.out GE145.out⟩⟩
     ·replace c17:=Bool.eq_false_iff.mpr c17
      subst c17;have H1 : (gridhallref3_OfferError.j1 k1 x16_1 l0_1 (l0_1.length : Int) x16_1 true a0_0 l0_1 ((rd_T41 l0_1 x16_1).f0) ((rd_T41 l0_1 x16_1).f1)) = some r:=by rw [if_neg (show ¬ (false = true) by decide)] at H;exact H
      clear H;have H:=H1;clear H1;have H':=k0_ H;clear H;have hnb21:=NB145_142.out;have hnc21:=NB142_145.out;obtain ⟨hcz22_0,hcz22_1⟩:=bc2_ BK145.out;obtain ⟨hfz22_0,hfz22_1⟩:=bf2_ BK145.out
      go_wp2_with (first|(go_at_call 16;(with_reducible refine (gridhallref3_In.calls ((rd_T41 l0_1 x16_1).f0) 1 100000 false _ A16.out).mono ?_);rintro e w' ⟨rfl, ⟨nd, rfl⟩⟩;(try first|exact ⟨rfl, _, World.drewN_drewN _ _ _⟩|exact ⟨rfl, _, Eq.trans (World.drewN_drewN _ _ _) (congrArg (World.drewN _) (Nat.add_assoc _ _ _))⟩)))
      repeat (go_quiet (first|(go_at_call 16;(with_reducible refine (gridhallref3_In.calls ((rd_T41 l0_1 x16_1).f0) 1 100000 false _ A16.out).mono ?_);rintro e w' ⟨rfl, ⟨nd, rfl⟩⟩;(try first|exact ⟨rfl, _, World.drewN_drewN _ _ _⟩|exact ⟨rfl, _, Eq.trans (World.drewN_drewN _ _ _) (congrArg (World.drewN _) (Nat.add_assoc _ _ _))⟩)));try go_wp2_with (first|(go_at_call 16;(with_reducible refine (gridhallref3_In.calls ((rd_T41 l0_1 x16_1).f0) 1 100000 false _ A16.out).mono ?_);rintro e w' ⟨rfl, ⟨nd, rfl⟩⟩;(try first|exact ⟨rfl, _, World.drewN_drewN _ _ _⟩|exact ⟨rfl, _, Eq.trans (World.drewN_drewN _ _ _) (congrArg (World.drewN _) (Nat.add_assoc _ _ _))⟩))))
      go_meet
      case rel=>exact ⟨_, (true),rs_, H', ⟨by have:=HK1.out;first|omega|exact Nat.le_refl _⟩,⟨by (with_reducible repeat (first|refine blk_drewN ?_ _|refine blk_drew ?_|refine blk_alloc ?_ _));refine blk_far ?_ NB142_145.out _;(with_reducible repeat (first|refine blk_drewN ?_ _|refine blk_drew ?_|refine blk_alloc ?_ _));refine blk_far ?_ NB142_145.out _;(with_reducible repeat (first|refine blk_drewN ?_ _|refine blk_drew ?_|refine blk_alloc ?_ _));exact BK142.out⟩,⟨by (with_reducible repeat (first|refine blk_drewN ?_ _|refine blk_drew ?_|refine blk_alloc ?_ _));refine blk_put (cs:=#[.int .i64 ((rd_T41 l0_1 x16_1).f0), .int .i64 0]) ?_ 1 _ rfl;(with_reducible repeat (first|refine blk_drewN ?_ _|refine blk_drew ?_|refine blk_alloc ?_ _));refine blk_put (cs:=#[.int .i64 0, .int .i64 0]) ?_ 0 _ rfl;(with_reducible repeat (first|refine blk_drewN ?_ _|refine blk_drew ?_|refine blk_alloc ?_ _));exact BK145.out⟩,⟨hb2_ HB.out GE142.out GE145.out⟩⟩
    clear HC12;(try clear c1);(try clear p1);(try clear q1);(try clear hx1);(try clear c2);(try clear p2);(try clear c3);(try clear c4);(try clear c4b0);(try clear c4b1);(try clear c5);(try clear c9);(try clear c9b0);(try clear c10);(try clear c10b0);(try clear c11);(try clear c11b0);(try clear c14);(try clear p14);(try clear q14);(try clear hx14);(try clear c17);(try clear c19);(try clear c21);(try clear hcz15_0);(try clear hcz15_1);(try clear hcz20_0);(try clear hcz20_1);(try clear hcz22_0);(try clear hcz22_1);(try clear hcz6_0);(try clear hcz6_1);(try clear hcz6_0);(try clear hcz6_1);(try clear hfz15_0);(try clear hfz15_1);(try clear hfz20_0);(try clear hfz20_1);(try clear hfz22_0);(try clear hfz22_1);(try clear hfz6_0);(try clear hfz6_1);(try clear hfz6_0);(try clear hfz6_1);(try clear hx144_0);(try clear hx144_1);(try clear p144);(try clear p2);(try clear q144);obtain ⟨kq, x30_11, rfl, HA, HJ11, BK142, BK145, HB⟩:=hcut;obtain _|kj11:=kq
    ·exact absurd HA.out (by simp [gridhallref3_OfferError.j1])
    have H:=HA.out;clear HA;simp only [gridhallref3_OfferError.j1] at H
    by_cases c23 : x30_11 = true
    ·subst c23
     have H1 : (some 4) = some r:=by rw [if_pos rfl] at H;exact H
     clear H;have H:=H1;clear H1;obtain rfl:=Option.some.inj H;go_wp2
     repeat (go_quiet (fail);try go_wp2)
     go_ret
     exact ⟨er_, hb2_ HB.out GE142.out GE145.out⟩
    ·replace c23:=Bool.eq_false_iff.mpr c23
     subst c23;have H1 : (if x16_1 > 0 then (if 0 ≤ (wrap64 (x16_1 - 1)) then (if (wrap64 (x16_1 - 1)) < (l0_1.length : Int) then (gridhallref3_OfferError.j2 kj11 x16_1 l0_1 (l0_1.length : Int) x16_1 (decide (((rd_T41 l0_1 (wrap64 (x16_1 - 1))).f1) > ((rd_T41 l0_1 x16_1).f1))) a0_0 l0_1) else (none)) else (none)) else (gridhallref3_OfferError.j2 kj11 x16_1 l0_1 (l0_1.length : Int) x16_1 false a0_0 l0_1)) = some r:=by rw [if_neg (show ¬ (false = true) by decide)] at H;exact H
     clear H;have H:=H1;clear H1;have HC24:=k0_ H;clear H
     go_upto_region 10 with (fail)
     repeat (go_quiet (fail);go_upto_region 10 with (fail))
     go_cut [44] (fun v44 wc=>∃ (kq : Nat) (x44_23 : Bool), v44 = .bool x44_23∧Aside0 (gridhallref3_OfferError.j2 kq x16_1 l0_1 (l0_1.length : Int) x16_1 x44_23 a0_0 l0_1 = some r)∧Aside0 (kq ≤ kj11)∧Aside0 (wc.heap[gb142]? = some (.cells #[.string a0_0, (.slice (some ad144) l0_1.length c0_1)] 29 (0, 0)))∧Aside0 (wc.heap[gb145]? = some (.cells #[.int .i64 ((rd_T41 l0_1 x16_1).f0), .int .i64 ((rd_T41 l0_1 x16_1).f1)] 41 (0, 0)))∧Aside0 (Below w.heap.size w wc))
     case first =>
      have H:=HC24.out;clear HC24
      by_cases c25 : x16_1 > 0
      ·rw [if_pos c25] at H
       have c25b0:=decide_eq_true c25;clear c25;(first|rw [c25b0]|(simp only [i64_w, i32_w];rw [c25b0])|skip);obtain ⟨ji26, hji26⟩ : ∃ j_ : Int, (wrap64 (x16_1 - 1)) = j_:=⟨_, rfl⟩;replace H : (if 0 ≤ (ji26) then (if (ji26) < (l0_1.length : Int) then (gridhallref3_OfferError.j2 kj11 x16_1 l0_1 (l0_1.length : Int) x16_1 (decide (((rd_T41 l0_1 (ji26)).f1) > ((rd_T41 l0_1 x16_1).f1))) a0_0 l0_1) else (none)) else (none)) = some r:=by first|(rw [hji26] at H;exact H)|(simp only [hji26] at H ⊢;exact H)
       have hji26w : (IntKind.i64.wrap (x16_1 - 1)) = ji26:=(i64_w _).trans hji26
       obtain ⟨c27,H⟩:=gi_ H;have c27b0:=decide_eq_true c27;clear c27
       obtain ⟨c28,H⟩:=gi_ H;have c28b0:=decide_eq_true c28;clear c28;have H':=k0_ H;clear H;have hnb29:=NB142_145.out;have hnc29:=NB145_142.out;obtain ⟨hcz30_0,hcz30_1⟩:=bc2_ BK142.out;obtain ⟨hfz30_0,hfz30_1⟩:=bf2_ BK142.out;have p148 : 0 ≤ ((ji26) : Int):=of_decide_eq_true as_;have q148 : (ji26) < (l0_1.length : Int):=of_decide_eq_true as_;obtain ⟨ad148, e148, hx148_0, hx148_1⟩:=at_T41 HR0_1.out (ji26) p148 q148;obtain rfl : ad144 = ad148:=(by injection e148);replace hx148_0:=bt_ HB.out hx148_0;replace hx148_1:=bt_ HB.out hx148_1;replace p148:=eq_true p148;replace q148:=eq_true q148;obtain ⟨hcz31_0,hcz31_1⟩:=bc2_ BK145.out;obtain ⟨hfz31_0,hfz31_1⟩:=bf2_ BK145.out;go_wp2
       repeat (go_quiet (fail);try go_wp2)
       go_meet
       case rel=>exact ⟨_, (decide (((rd_T41 l0_1 (ji26)).f1) > ((rd_T41 l0_1 x16_1).f1))),(by first|rfl|(simp;done)|(simp only [← hji26] <;> (first|rfl|simp))|(simp [*];done)), H', ⟨by have:=HK1.out;have:=HJ11.out;first|omega|exact Nat.le_refl _⟩,⟨bq_ BK142.out⟩,⟨bq_ BK145.out⟩,⟨hb2_ HB.out GE142.out GE145.out⟩⟩
      ·rw [if_neg c25] at H
       have c25b0:=decide_eq_false c25;clear c25;(first|rw [c25b0]|(simp only [i64_w, i32_w];rw [c25b0])|skip);have H':=k0_ H;clear H;go_wp2
       repeat (go_quiet (fail);try go_wp2)
       go_meet
       case rel=>exact ⟨_, (false),rs_, H', ⟨by have:=HK1.out;have:=HJ11.out;first|omega|exact Nat.le_refl _⟩,⟨bq_ BK142.out⟩,⟨bq_ BK145.out⟩,⟨hb2_ HB.out GE142.out GE145.out⟩⟩
     clear HC24;(try clear c1);(try clear p1);(try clear q1);(try clear hx1);(try clear c2);(try clear p2);(try clear c3);(try clear c4);(try clear c4b0);(try clear c4b1);(try clear c5);(try clear p6);(try clear c9);(try clear c9b0);(try clear c10);(try clear c10b0);(try clear c11);(try clear c11b0);(try clear c14);(try clear p14);(try clear q14);(try clear hx14);(try clear c17);(try clear c19);(try clear c21);(try clear c23);(try clear c25);(try clear c25b0);(try clear c27);(try clear c27b0);(try clear c28);(try clear c28b0);(try clear c29);(try clear hcz15_0);(try clear hcz15_1);(try clear hcz20_0);(try clear hcz20_1);(try clear hcz22_0);(try clear hcz22_1);(try clear hcz30_0);(try clear hcz30_1);(try clear hcz31_0);(try clear hcz31_1);(try clear hcz6_0);(try clear hcz6_1);(try clear hcz6_0);(try clear hcz6_1);(try clear hfz15_0);(try clear hfz15_1);(try clear hfz20_0);(try clear hfz20_1);(try clear hfz22_0);(try clear hfz22_1);(try clear hfz30_0);(try clear hfz30_1);(try clear hfz31_0);(try clear hfz31_1);(try clear hfz6_0);(try clear hfz6_1);(try clear hfz6_0);(try clear hfz6_1);(try clear hx144_0);(try clear hx144_1);(try clear hx148_0);(try clear hx148_1);(try clear p1);(try clear p14);(try clear p144);(try clear p148);(try clear p2);(try clear q1);(try clear q14);(try clear q144);(try clear q148);obtain ⟨kq, x44_23, rfl, HA, HJ23, BK142, BK145, HB⟩:=hcut;obtain _|kj23:=kq
     ·exact absurd HA.out (by simp [gridhallref3_OfferError.j2])
     have H:=HA.out;clear HA;simp only [gridhallref3_OfferError.j2] at H
     by_cases c32 : x44_23 = true
     ·subst c32
      have H1 : (some 3) = some r:=by rw [if_pos rfl] at H;exact H
      clear H;have H:=H1;clear H1;obtain rfl:=Option.some.inj H;go_wp2
      repeat (go_quiet (fail);try go_wp2)
      go_ret
      exact ⟨er_, hb2_ HB.out GE142.out GE145.out⟩
     ·replace c32:=Bool.eq_false_iff.mpr c32
      subst c32;have H1 : ((gridhallref3_Before.f kj23 a0_0 l0_1 (wrap64 (x16_1 + 1))).bind fun t149=>(if t149 > 100000 then (some 2) else (gridhallref3_OfferError.l0 kj23 l0_1 (l0_1.length : Int) (wrap64 (x16_1 + 1)) a0_0 l0_1))) = some r:=by rw [if_neg (show ¬ (false = true) by decide)] at H;exact H
      clear H;have H:=H1;clear H1;replace H:=Option.bind_eq_some_iff.mp H;obtain ⟨t149, A330, H⟩:=H;replace H : (if t149 > 100000 then (some 2) else (gridhallref3_OfferError.l0 kj23 l0_1 (l0_1.length : Int) (wrap64 (x16_1 + 1)) a0_0 l0_1)) = some r:=H;have A33:=k0_ A330;clear A330
      by_cases c34 : t149 > 100000
      rw [if_pos c34] at H;have c34b0:=decide_eq_true c34;clear c34;obtain rfl:=Option.some.inj H;rotate_left;rw [if_neg c34] at H;have c34b0:=decide_eq_false c34;clear c34;have H':=k0_ H;clear H;rotate_left
      all_goals
       have hnb35:=NB142_145.out;have hnc35:=NB145_142.out;obtain ⟨hcz36_0,hcz36_1⟩:=bc2_ BK142.out;obtain ⟨hfz36_0,hfz36_1⟩:=bf2_ BK142.out
       go_wp2_with (first|(go_at_call 38;(with_reducible refine (gridhallref3_Before.calls kj23 a0_0 _ _ l0_1 (wrap64 (x16_1 + 1)) t149 _ ?side1 ?side2 A33.out).mono ?_);(case side1=>repeat (first|exact (Kd.C_below HR0_1.out HB.out)|(with_reducible refine Kd.C_alloc ?_ _)|(with_reducible refine Kd.C_drewN ?_ _)|(with_reducible refine Kd.C_drew ?_)));(case side2=>exact HC0_1.out);rintro e w37 ⟨rfl, hb⟩;replace BK142:=k0_ (blk_below (g:=gb142) (o:=.cells #[.string a0_0, .slice (some ad144) l0_1.length c0_1] 29 (0, 0)) (bq_ BK142.out) hb);replace BK145:=k0_ (blk_below (g:=gb145) (o:=.cells #[.int .i64 ((rd_T41 l0_1 x16_1).f0), .int .i64 ((rd_T41 l0_1 x16_1).f1)] 41 (0, 0)) (bq_ BK145.out) hb);replace HB:=k0_ (below_step (hb2_ HB.out GE142.out GE145.out) hb);(try clear hb);(try clear hb2);(try clear hk);(try clear hi)))
       repeat (go_quiet (first|(go_at_call 38;(with_reducible refine (gridhallref3_Before.calls kj23 a0_0 _ _ l0_1 (wrap64 (x16_1 + 1)) t149 _ ?side1 ?side2 A33.out).mono ?_);(case side1=>repeat (first|exact (Kd.C_below HR0_1.out HB.out)|(with_reducible refine Kd.C_alloc ?_ _)|(with_reducible refine Kd.C_drewN ?_ _)|(with_reducible refine Kd.C_drew ?_)));(case side2=>exact HC0_1.out);rintro e w37 ⟨rfl, hb⟩;replace BK142:=k0_ (blk_below (g:=gb142) (o:=.cells #[.string a0_0, .slice (some ad144) l0_1.length c0_1] 29 (0, 0)) (bq_ BK142.out) hb);replace BK145:=k0_ (blk_below (g:=gb145) (o:=.cells #[.int .i64 ((rd_T41 l0_1 x16_1).f0), .int .i64 ((rd_T41 l0_1 x16_1).f1)] 41 (0, 0)) (bq_ BK145.out) hb);replace HB:=k0_ (below_step (hb2_ HB.out GE142.out GE145.out) hb);(try clear hb);(try clear hb2);(try clear hk);(try clear hi)));try go_wp2_with (first|(go_at_call 38;(with_reducible refine (gridhallref3_Before.calls kj23 a0_0 _ _ l0_1 (wrap64 (x16_1 + 1)) t149 _ ?side1 ?side2 A33.out).mono ?_);(case side1=>repeat (first|exact (Kd.C_below HR0_1.out HB.out)|(with_reducible refine Kd.C_alloc ?_ _)|(with_reducible refine Kd.C_drewN ?_ _)|(with_reducible refine Kd.C_drew ?_)));(case side2=>exact HC0_1.out);rintro e w37 ⟨rfl, hb⟩;replace BK142:=k0_ (blk_below (g:=gb142) (o:=.cells #[.string a0_0, .slice (some ad144) l0_1.length c0_1] 29 (0, 0)) (bq_ BK142.out) hb);replace BK145:=k0_ (blk_below (g:=gb145) (o:=.cells #[.int .i64 ((rd_T41 l0_1 x16_1).f0), .int .i64 ((rd_T41 l0_1 x16_1).f1)] 41 (0, 0)) (bq_ BK145.out) hb);replace HB:=k0_ (below_step (hb2_ HB.out GE142.out GE145.out) hb);(try clear hb);(try clear hb2);(try clear hk);(try clear hi))))
      ·go_ret
       exact ⟨er_, hb2_ HB.out GE142.out GE145.out⟩
      ·go_roundg kj23
       case measure=>have:=HK1.out;have:=HJ11.out;have:=HJ23.out;omega
       case rel=>exact ⟨(wrap64 (x16_1 + 1)),rs_, H', ⟨by have:=HK1.out;have:=HJ11.out;have:=HJ23.out;omega⟩,⟨bq_ BK142.out⟩,⟨hb2_ HB.out GE142.out GE145.out⟩⟩
   ·rw [if_neg c9] at H
    have c9b0:=decide_eq_false c9;clear c9;obtain rfl:=Option.some.inj H;go_wp2
    repeat (go_quiet (fail);try go_wp2)
    go_ret
    exact ⟨er_, hb1_ HB.out GE142.out⟩
 ·replace c3:=Bool.eq_false_iff.mpr c3
  subst c3;have H1 : (some 6) = some r:=by rw [if_neg (show ¬ (false = true) by decide)] at H;exact H
  clear H;have H:=H1;clear H1;obtain rfl:=Option.some.inj H
  go_enter Try.func50, Try.ntmps50
  go_wp2_with (first|((with_reducible refine gate_dst (N:=1) rfl ?_);refine box_event ?hg (N:=1) ?hd (cs:=#[.string a0_0, .slice A0_1 l0_1.length c0_1]) (t:=29) ?hr ?_;(case hd=>rfl);(case hg=>rfl);(case hr=>first|(go_simp;done)|(go_simp;rfl));intro gb142 hg w41 hbox hb;have BK142:=k0_ (hbox);have GW142:=k0_ ((by rw [hg];exact (below_size (hb0_ HB.out)) : w.heap.size ≤ gb142));have GE142:=k0_ ((by rw [hg];exact (below_size (hb0_ HB.out)) : w.heap.size ≤ gb142));replace HB:=k0_ (below_step (hb0_ HB.out) hb);clear hb hbox hg;obtain ⟨hcz42_0,hcz42_1⟩:=bc2_ BK142.out;obtain ⟨hfz42_0,hfz42_1⟩:=bf2_ BK142.out)|(go_at_call 63;(with_reducible refine (gridhallref3_Named.calls k a0_0 false _ A2.out).mono ?_);rintro e w' ⟨rfl, ⟨nd, rfl⟩⟩;(try first|exact ⟨rfl, _, World.drewN_drewN _ _ _⟩|exact ⟨rfl, _, Eq.trans (World.drewN_drewN _ _ _) (congrArg (World.drewN _) (Nat.add_assoc _ _ _))⟩)))
  repeat (go_quiet (first|((with_reducible refine gate_dst (N:=1) rfl ?_);refine box_event ?hg (N:=1) ?hd (cs:=#[.string a0_0, .slice A0_1 l0_1.length c0_1]) (t:=29) ?hr ?_;(case hd=>rfl);(case hg=>rfl);(case hr=>first|(go_simp;done)|(go_simp;rfl));intro gb142 hg w41 hbox hb;have BK142:=k0_ (hbox);have GW142:=k0_ ((by rw [hg];exact (below_size (hb0_ HB.out)) : w.heap.size ≤ gb142));have GE142:=k0_ ((by rw [hg];exact (below_size (hb0_ HB.out)) : w.heap.size ≤ gb142));replace HB:=k0_ (below_step (hb0_ HB.out) hb);clear hb hbox hg;obtain ⟨hcz42_0,hcz42_1⟩:=bc2_ BK142.out;obtain ⟨hfz42_0,hfz42_1⟩:=bf2_ BK142.out)|(go_at_call 63;(with_reducible refine (gridhallref3_Named.calls k a0_0 false _ A2.out).mono ?_);rintro e w' ⟨rfl, ⟨nd, rfl⟩⟩;(try first|exact ⟨rfl, _, World.drewN_drewN _ _ _⟩|exact ⟨rfl, _, Eq.trans (World.drewN_drewN _ _ _) (congrArg (World.drewN _) (Nat.add_assoc _ _ _))⟩)));try go_wp2_with (first|((with_reducible refine gate_dst (N:=1) rfl ?_);refine box_event ?hg (N:=1) ?hd (cs:=#[.string a0_0, .slice A0_1 l0_1.length c0_1]) (t:=29) ?hr ?_;(case hd=>rfl);(case hg=>rfl);(case hr=>first|(go_simp;done)|(go_simp;rfl));intro gb142 hg w41 hbox hb;have BK142:=k0_ (hbox);have GW142:=k0_ ((by rw [hg];exact (below_size (hb0_ HB.out)) : w.heap.size ≤ gb142));have GE142:=k0_ ((by rw [hg];exact (below_size (hb0_ HB.out)) : w.heap.size ≤ gb142));replace HB:=k0_ (below_step (hb0_ HB.out) hb);clear hb hbox hg;obtain ⟨hcz42_0,hcz42_1⟩:=bc2_ BK142.out;obtain ⟨hfz42_0,hfz42_1⟩:=bf2_ BK142.out)|(go_at_call 63;(with_reducible refine (gridhallref3_Named.calls k a0_0 false _ A2.out).mono ?_);rintro e w' ⟨rfl, ⟨nd, rfl⟩⟩;(try first|exact ⟨rfl, _, World.drewN_drewN _ _ _⟩|exact ⟨rfl, _, Eq.trans (World.drewN_drewN _ _ _) (congrArg (World.drewN _) (Nat.add_assoc _ _ _))⟩))))
  go_ret
  exact ⟨er_, hb1_ HB.out GE142.out⟩

end Go.Proofs.Ytekpnmeikibioaa.PHoursChanges
