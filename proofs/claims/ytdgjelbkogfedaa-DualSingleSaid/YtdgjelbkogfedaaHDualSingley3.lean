/- Contracts of functions that DualSingle reaches, a text of this session's own. -/
import Derived.Test.YtdgjelbkogfedaaBox2
import Derived.Test.YtdgjelbkogfedaaHDualSingley0
namespace Go.Proofs.Ytdgjelbkogfedaa.PDualSingle
open Go.RowKit Go.Proofs.YtdgjelbkogfedaaW.PrintWords Go.Proofs.YtdgjelbkogfedaaW.PrintLast Go.Proofs.YtdgjelbkogfedaaW.PrintMore
attribute [local go_sem] max2_int min2_int max_two min_two max_three min_three max_four min_four   -- for this text's walks alone
set_option linter.unusedVariables false
set_option linter.unusedSimpArgs false

/-! ### offer_named: function 86 -/
mutual
def offer_named.j0 : Nat → ByteArray → Bool → Option (Bool)
 | 0, _, _ => none
 | k + 1, x0, x20 => if x20 = true then (some false) else (offer_named.l0 k x0 (x0.size : Int) 0)
def offer_named.l0 : Nat → ByteArray → Int → Int → Option (Bool)
 | 0, _, _, _ => none
 | k + 1, x0, x22, x23 => if x23 < x22 then (if 0 ≤ x23 then (if x23 < (x0.size : Int) then (if (bt x0 x23) < 65 then (if (bt x0 x23) < 48 then (some false) else (if (bt x0 x23) > 57 then (some false) else (offer_named.l0 k x0 x22 (wrap64 (x23 + 1))))) else (if (bt x0 x23) > 90 then (if (bt x0 x23) < 48 then (some false) else (if (bt x0 x23) > 57 then (some false) else (offer_named.l0 k x0 x22 (wrap64 (x23 + 1))))) else (offer_named.l0 k x0 x22 (wrap64 (x23 + 1))))) else (none)) else (none)) else (some true)
end
def offer_named.f (k : Nat) (a0 : ByteArray) : Option (Bool) := if a0.toList = ([] : List UInt8) then (offer_named.j0 k a0 true) else (if (a0.size : Int) > 8 then (offer_named.j0 k a0 true) else (if 0 < (a0.size : Int) then (if (bt a0 0) ≥ 48 then (offer_named.j0 k a0 (decide ((bt a0 0) ≤ 57))) else (offer_named.j0 k a0 false)) else (none)))
theorem offer_named.mono_l : ∀ k, (∀ y0 y1, LeO (offer_named.j0 k y0 y1) (offer_named.j0 (k + 1) y0 y1)) ∧ (∀ y0 y1 y2, LeO (offer_named.l0 k y0 y1 y2) (offer_named.l0 (k + 1) y0 y1 y2))
 | 0 => ⟨fun _ _ r h => by simp [offer_named.j0] at h, fun _ _ _ r h => by simp [offer_named.l0] at h⟩
 | k + 1 => by
  obtain ⟨ih0, ih1⟩:=offer_named.mono_l k
  refine ⟨?_, ?_⟩
  ·intro y0 y1
   unfold offer_named.j0
   repeat' first|(with_reducible first|exact ih0 _ _|exact ih1 _ _ _|exact LeO.refl _|exact LeO.none _|refine LeO.ite ?_ ?_|refine LeO.bind ?_ (fun _=>?_))|exact ih0 _ _|exact ih1 _ _ _|exact LeO.none _|refine LeO.ite ?_ ?_|refine LeO.bind ?_ (fun _=>?_)
  ·intro y0 y1 y2
   unfold offer_named.l0
   repeat' first|(with_reducible first|exact ih0 _ _|exact ih1 _ _ _|exact LeO.refl _|exact LeO.none _|refine LeO.ite ?_ ?_|refine LeO.bind ?_ (fun _=>?_))|exact ih0 _ _|exact ih1 _ _ _|exact LeO.none _|refine LeO.ite ?_ ?_|refine LeO.bind ?_ (fun _=>?_)
theorem offer_named.mono : ∀ a0 k, LeO (offer_named.f k a0) (offer_named.f (k + 1) a0) := by
 intro a0 k
 obtain ⟨ih0, ih1⟩:=offer_named.mono_l k
 unfold offer_named.f
 repeat' first|(with_reducible first|exact ih0 _ _|exact ih1 _ _ _|exact LeO.refl _|exact LeO.none _|refine LeO.ite ?_ ?_|refine LeO.bind ?_ (fun _=>?_))|exact ih0 _ _|exact ih1 _ _ _|exact LeO.none _|refine LeO.ite ?_ ?_|refine LeO.bind ?_ (fun _=>?_)
set_option maxHeartbeats 8000000 in
set_option maxRecDepth 100000 in
theorem offer_named.calls (k : Nat) (a0 : ByteArray) (r : Bool) (w : World) (h : offer_named.f k a0 = some r) :
  Calls Try.prog 86 #[.string a0] w fun e w' => e = .returned (.bool r) ∧ Drawn0 w w' := by
 have H : (if a0.toList = ([] : List UInt8) then (offer_named.j0 k a0 true) else (if (a0.size : Int) > 8 then (offer_named.j0 k a0 true) else (if 0 < (a0.size : Int) then (if (bt a0 0) ≥ 48 then (offer_named.j0 k a0 (decide ((bt a0 0) ≤ 57))) else (offer_named.j0 k a0 false)) else (none)))) = some r:=h;clear h;have HC2:=k0_ H;clear H
 go_enter Try.func86, Try.ntmps86
 go_upto_region 1 with (fail)
 go_cut [20] (fun v20 wc=>∃ (kq : Nat) (x20_1 : Bool), v20 = .bool x20_1∧Aside0 (offer_named.j0 kq a0 x20_1 = some r)∧Aside0 (kq ≤ k)∧Drawn0 w wc)
 case first =>
  have H:=HC2.out;clear HC2
  by_cases c3 : a0.toList = ([] : List UInt8)
  ·rw [if_pos c3] at H
   have c3b0:=beq_iff_eq.mpr c3;have c3b1:=bne_eq_false_iff_eq.mpr c3;clear c3;(first|rw [c3b0]|(simp only [i64_w, i32_w];rw [c3b0])|skip);have H':=k0_ H;clear H;go_wp2
   go_meet
   case rel=>exact ⟨_, (true),rs_, H', ⟨by first|omega|exact Nat.le_refl _⟩, by repeat (first|exact Drawn0.refl _|apply Drawn0.step)⟩
  ·rw [if_neg c3] at H
   have c3b0:=beq_eq_false_iff_ne.mpr c3;have c3b1:=bne_iff_ne.mpr c3;(first|rw [c3b0]|(simp only [i64_w, i32_w];rw [c3b0])|skip)
   by_cases c4 : (a0.size : Int) > 8
   ·rw [if_pos c4] at H
    have c4b0:=decide_eq_true c4;have c4b1 : decide (8 < a0.size) = true:=decide_eq_true (by omega);clear c4;have H':=k0_ H;clear H;go_wp2
    go_meet
    case rel=>exact ⟨_, (true),rs_, H', ⟨by first|omega|exact Nat.le_refl _⟩, by repeat (first|exact Drawn0.refl _|apply Drawn0.step)⟩
   ·rw [if_neg c4] at H
    have c4b0:=decide_eq_false c4;have c4b1 : decide (8 < a0.size) = false:=decide_eq_false (by omega);clear c4
    by_cases c5 : 0 < (a0.size : Int)
    rw [if_pos c5] at H;have c5b0:=decide_eq_true c5;have c5b1 : decide (0 < a0.size) = true:=decide_eq_true (by omega);clear c5
    focus
     by_cases c7 : (bt a0 0) ≥ 48
     rw [if_pos c7] at H;have c7b0:=decide_eq_true c7;clear c7;have H':=k0_ H;clear H;rotate_left;rw [if_neg c7] at H;have c7b0:=decide_eq_false c7;clear c7;have H':=k0_ H;clear H;rotate_left
    rotate_left 2;rw [if_neg c5] at H
    exact absurd H (by simp)
    all_goals
     have p6 : 0 ≤ (0 : Int):=(by omega);have q6 : 0 < a0.size:=(by have : (0 : Int) < (a0.size : Int):=of_decide_eq_true as_;omega);have hx6 : ∀ h : 0 < a0.size, ((a0[0]'h).toNat : Int) = bt a0 0:=bt_at a0 0;clear p6;have qi6 : (0 < (a0.size : Int)) = True:=eq_true (of_decide_eq_true as_);replace q6:=eq_true q6
    ·have p8 : 0 ≤ (0 : Int):=(by omega)
     have q8 : 0 < a0.size:=(by have : (0 : Int) < (a0.size : Int):=of_decide_eq_true as_;omega);have hx8 : ∀ h : 0 < a0.size, ((a0[0]'h).toNat : Int) = bt a0 0:=bt_at a0 0;clear p8;have qi8 : (0 < (a0.size : Int)) = True:=eq_true (of_decide_eq_true as_);replace q8:=eq_true q8;go_wp2
     go_meet
     case rel=>exact ⟨_, (decide ((bt a0 0) ≤ 57)),rs_, H', ⟨by first|omega|exact Nat.le_refl _⟩, by repeat (first|exact Drawn0.refl _|apply Drawn0.step)⟩
    ·go_wp2
     go_meet
     case rel=>exact ⟨_, (false),rs_, H', ⟨by first|omega|exact Nat.le_refl _⟩, by repeat (first|exact Drawn0.refl _|apply Drawn0.step)⟩
 clear HC2;(try clear p2);(try clear c3);(try clear c3b0);(try clear c3b1);(try clear c4);(try clear c4b0);(try clear c4b1);(try clear c5);(try clear c5b0);(try clear c5b1);(try clear p6);(try clear q6);(try clear hx6);(try clear qi6);(try clear c7);(try clear c7b0);(try clear c8);(try clear p8);(try clear q8);(try clear hx8);(try clear qi8);(try clear p6);(try clear p8);(try clear q6);(try clear q8);obtain ⟨kq, x20_1, rfl, HA, HJ1, ⟨mc1, rfl⟩⟩:=hcut;obtain _|kj1:=kq
 ·exact absurd HA.out (by simp [offer_named.j0])
 have H:=HA.out;clear HA;simp only [offer_named.j0] at H
 by_cases c9 : x20_1 = true
 ·subst c9
  have H1 : (some false) = some r:=by rw [if_pos rfl] at H;exact H
  clear H;have H:=H1;clear H1;obtain rfl:=Option.some.inj H;go_wp2
  go_ret
  exact ⟨by first|rfl|(simp;done)|(simp [*];done), by repeat (first|exact Drawn0.refl _|apply Drawn0.step)⟩
 ·replace c9:=Bool.eq_false_iff.mpr c9
  subst c9;have H1 : (offer_named.l0 kj1 a0 (a0.size : Int) 0) = some r:=by rw [if_neg (show ¬ (false = true) by decide)] at H;exact H
  clear H;have H:=H1;clear H1;have H':=k0_ H;clear H;go_wp2;(try simp only [Act.put, q1_,q3_,q2_])
  go_loopg [23] kj1 (fun kq v23 w'=>∃ (x23_2 : Int), v23 = .int .i64 x23_2∧Aside0 (offer_named.l0 kq a0 (a0.size : Int) x23_2 = some r)∧Aside0 (kq ≤ kj1)∧Drawn0 w w')
  case atStart=>exact ⟨(0),rs_, H', ⟨Nat.le_refl _⟩, by repeat (first|exact Drawn0.refl _|apply Drawn0.step)⟩
  clear H';(try clear c1);(try clear p2);(try clear c3);(try clear c3b0);(try clear c3b1);(try clear c4);(try clear c4b0);(try clear c4b1);(try clear c5);(try clear c5b0);(try clear c5b1);(try clear p6);(try clear q6);(try clear hx6);(try clear qi6);(try clear c7);(try clear c7b0);(try clear c8);(try clear p8);(try clear q8);(try clear hx8);(try clear qi8);(try clear c9);(try clear p2);(try clear p6);(try clear p8);(try clear q6);(try clear q8);obtain ⟨x23_2, rfl, HA, HK2, ⟨m2, rfl⟩⟩:=hrel;obtain _|k2:=gk
  ·exact absurd HA.out (by simp [offer_named.l0])
  have H:=HA.out;clear HA;simp only [offer_named.l0] at H
  by_cases c10 : x23_2 < (a0.size : Int)
  ·rw [if_pos c10] at H
   have c10b0:=decide_eq_true c10;clear c10
   by_cases c11 : 0 ≤ x23_2
   rw [if_pos c11] at H;have c11b0:=decide_eq_true c11;clear c11
   focus
    by_cases c12 : x23_2 < (a0.size : Int)
    rw [if_pos c12] at H;have c12b0:=decide_eq_true c12;clear c12
    focus
     by_cases c14 : (bt a0 x23_2) < 65
     rw [if_pos c14] at H;have c14b0:=decide_eq_true c14;clear c14
     focus
      by_cases c16 : (bt a0 x23_2) < 48
      rw [if_pos c16] at H;have c16b0:=decide_eq_true c16;clear c16;obtain rfl:=Option.some.inj H;rotate_left;rw [if_neg c16] at H;have c16b0:=decide_eq_false c16;clear c16
      focus
       by_cases c18 : (bt a0 x23_2) > 57
       rw [if_pos c18] at H;have c18b0:=decide_eq_true c18;clear c18;obtain rfl:=Option.some.inj H;rotate_left;rw [if_neg c18] at H;have c18b0:=decide_eq_false c18;clear c18;have H':=k0_ H;clear H;rotate_left
      rotate_left 2
     rotate_left 3;rw [if_neg c14] at H;have c14b0:=decide_eq_false c14;clear c14
     focus
      by_cases c20 : (bt a0 x23_2) > 90
      rw [if_pos c20] at H;have c20b0:=decide_eq_true c20;clear c20
      focus
       by_cases c22 : (bt a0 x23_2) < 48
       rw [if_pos c22] at H;have c22b0:=decide_eq_true c22;clear c22;obtain rfl:=Option.some.inj H;rotate_left;rw [if_neg c22] at H;have c22b0:=decide_eq_false c22;clear c22
       focus
        by_cases c24 : (bt a0 x23_2) > 57
        rw [if_pos c24] at H;have c24b0:=decide_eq_true c24;clear c24;obtain rfl:=Option.some.inj H;rotate_left;rw [if_neg c24] at H;have c24b0:=decide_eq_false c24;clear c24;have H':=k0_ H;clear H;rotate_left
       rotate_left 2
      rotate_left 3;rw [if_neg c20] at H;have c20b0:=decide_eq_false c20;clear c20;have H':=k0_ H;clear H;rotate_left
     rotate_left 4
    rotate_left 7;rw [if_neg c12] at H
    exact absurd H (by simp)
   rotate_left 7;rw [if_neg c11] at H
   exact absurd H (by simp)
   all_goals
    have p13 : 0 ≤ (x23_2 : Int):=of_decide_eq_true as_;have q13 : x23_2 < (a0.size : Int):=of_decide_eq_true as_;have hx13:=bt_at a0 x23_2;replace p13:=eq_true p13;replace q13:=eq_true q13;have p15 : 0 ≤ (x23_2 : Int):=of_decide_eq_true as_;have q15 : x23_2 < (a0.size : Int):=of_decide_eq_true as_;have hx15:=bt_at a0 x23_2;replace p15:=eq_true p15;replace q15:=eq_true q15
   ·go_wp2
    go_ret
    exact ⟨by first|rfl|(simp;done)|(simp [*];done), by repeat (first|exact Drawn0.refl _|apply Drawn0.step)⟩
   ·have p17 : 0 ≤ (x23_2 : Int):=of_decide_eq_true as_
    have q17 : x23_2 < (a0.size : Int):=of_decide_eq_true as_;have hx17:=bt_at a0 x23_2;replace p17:=eq_true p17;replace q17:=eq_true q17;go_wp2
    go_ret
    exact ⟨by first|rfl|(simp;done)|(simp [*];done), by repeat (first|exact Drawn0.refl _|apply Drawn0.step)⟩
   ·have p17 : 0 ≤ (x23_2 : Int):=of_decide_eq_true as_
    have q17 : x23_2 < (a0.size : Int):=of_decide_eq_true as_;have hx17:=bt_at a0 x23_2;replace p17:=eq_true p17;replace q17:=eq_true q17;go_wp2
    go_roundg k2
    case measure=>have:=HJ1.out;have:=HK2.out;omega
    case rel=>exact ⟨(wrap64 (x23_2 + 1)),rs_, H', ⟨by have:=HJ1.out;have:=HK2.out;omega⟩, by repeat (first|exact Drawn0.refl _|apply Drawn0.step)⟩
   ·have p21 : 0 ≤ (x23_2 : Int):=of_decide_eq_true as_
    have q21 : x23_2 < (a0.size : Int):=of_decide_eq_true as_;have hx21:=bt_at a0 x23_2;replace p21:=eq_true p21;replace q21:=eq_true q21;go_wp2
    go_ret
    exact ⟨by first|rfl|(simp;done)|(simp [*];done), by repeat (first|exact Drawn0.refl _|apply Drawn0.step)⟩
   ·have p21 : 0 ≤ (x23_2 : Int):=of_decide_eq_true as_
    have q21 : x23_2 < (a0.size : Int):=of_decide_eq_true as_;have hx21:=bt_at a0 x23_2;replace p21:=eq_true p21;replace q21:=eq_true q21;have p23 : 0 ≤ (x23_2 : Int):=of_decide_eq_true as_;have q23 : x23_2 < (a0.size : Int):=of_decide_eq_true as_;have hx23:=bt_at a0 x23_2;replace p23:=eq_true p23;replace q23:=eq_true q23;go_wp2
    go_ret
    exact ⟨by first|rfl|(simp;done)|(simp [*];done), by repeat (first|exact Drawn0.refl _|apply Drawn0.step)⟩
   ·have p21 : 0 ≤ (x23_2 : Int):=of_decide_eq_true as_
    have q21 : x23_2 < (a0.size : Int):=of_decide_eq_true as_;have hx21:=bt_at a0 x23_2;replace p21:=eq_true p21;replace q21:=eq_true q21;have p23 : 0 ≤ (x23_2 : Int):=of_decide_eq_true as_;have q23 : x23_2 < (a0.size : Int):=of_decide_eq_true as_;have hx23:=bt_at a0 x23_2;replace p23:=eq_true p23;replace q23:=eq_true q23;go_wp2
    go_roundg k2
    case measure=>have:=HJ1.out;have:=HK2.out;omega
    case rel=>exact ⟨(wrap64 (x23_2 + 1)),rs_, H', ⟨by have:=HJ1.out;have:=HK2.out;omega⟩, by repeat (first|exact Drawn0.refl _|apply Drawn0.step)⟩
   ·go_wp2
    go_roundg k2
    case measure=>have:=HJ1.out;have:=HK2.out;omega
    case rel=>exact ⟨(wrap64 (x23_2 + 1)),rs_, H', ⟨by have:=HJ1.out;have:=HK2.out;omega⟩, by repeat (first|exact Drawn0.refl _|apply Drawn0.step)⟩
  ·rw [if_neg c10] at H
   have c10b0:=decide_eq_false c10;clear c10;obtain rfl:=Option.some.inj H;go_wp2
   go_ret
   exact ⟨by first|rfl|(simp;done)|(simp [*];done), by repeat (first|exact Drawn0.refl _|apply Drawn0.step)⟩

end Go.Proofs.Ytdgjelbkogfedaa.PDualSingle
