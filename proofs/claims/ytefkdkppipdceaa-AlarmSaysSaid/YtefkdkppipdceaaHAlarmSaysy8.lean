/- Contracts of functions that AlarmSays reaches, a text of this session's own. -/
import Derived.Test.YtefkdkppipdceaaBox2
import Derived.Test.YtefkdkppipdceaaHAlarmSaysy0
import Derived.Test.YtefkdkppipdceaaHAlarmSaysy3
import Derived.Test.YtefkdkppipdceaaHAlarmSaysy4
import Derived.Test.YtefkdkppipdceaaHAlarmSaysy7
namespace Go.Proofs.Ytefkdkppipdceaa.PAlarmSays
open Go.RowKit Go.Proofs.YtefkdkppipdceaaW.PrintWords Go.Proofs.YtefkdkppipdceaaW.PrintLast Go.Proofs.YtefkdkppipdceaaW.PrintMore
attribute [local go_sem] max2_int min2_int max_two min_two max_three min_three max_four min_four   -- for this text's walks alone
set_option linter.unusedVariables false
set_option linter.unusedSimpArgs false

/-! ### alarm_Explain: function 28 -/
def alarm_Explain.l0 : Nat → List ByteArray → Int → List (List Bool) → List ByteArray → List ByteArray → Int → Int → Option (List ByteArray × Int)
 | 0, _, _, _, _, _, _, _ => none
 | k + 1, x1, x10, x11, x12, x32, x33, x34 => if x34 < x33 then (if 0 ≤ x34 then (if x34 < (x32.length : Int) then (if 0 ≤ x10 then (if x10 < (x11.length : Int) then ((slices_Index_string_string.f k x1 (rdOf ByteArray.empty x32 x34)).bind fun t203 => (if 0 ≤ t203 then (if t203 < ((rd_L4 x11 x10).length : Int) then (if rdOf false (rd_L4 x11 x10) t203 = true then (if x12.length < 8796093022208 then (alarm_Explain.l0 k x1 x10 x11 (x12 ++ [rdOf ByteArray.empty x32 x34]) x32 x33 (wrap64 (x34 + 1))) else (none)) else (alarm_Explain.l0 k x1 x10 x11 x12 x32 x33 (wrap64 (x34 + 1)))) else (none)) else (none))) else (none)) else (none)) else (none)) else (none)) else (some (x12, 0))
def alarm_Explain.f (k : Nat) (l0 : List (S81)) (l1 : List ByteArray) (a2 : ByteArray) : Option (List ByteArray × Int) := (alarm_Causes.f k l0 l1).bind fun bt193 => (if bt193.2 = 0 then ((slices_Index_string_string.f k l1 a2).bind fun t197 => (if t197 < 0 then (some (([] : List ByteArray), 8)) else ((alarm_reach.f k l0 l1).bind fun t198 => (alarm_Explain.l0 k l1 t197 t198 ([] : List ByteArray) bt193.1 (bt193.1.length : Int) 0)))) else (some (([] : List ByteArray), bt193.2)))
theorem alarm_Explain.mono_l : ∀ k, (∀ y0 y1 y2 y3 y4 y5 y6, LeO (alarm_Explain.l0 k y0 y1 y2 y3 y4 y5 y6) (alarm_Explain.l0 (k + 1) y0 y1 y2 y3 y4 y5 y6))
 | 0 => fun _ _ _ _ _ _ _ r h => by simp [alarm_Explain.l0] at h
 | k + 1 => by
  have ih0:=alarm_Explain.mono_l k
  ·intro y0 y1 y2 y3 y4 y5 y6
   unfold alarm_Explain.l0
   repeat' first|(with_reducible first|exact ih0 _ _ _ _ _ _ _|exact alarm_Causes.mono _ _ _|exact alarm_reach.mono _ _ _|exact slices_Index_string_string.mono _ _ _|exact LeO.refl _|exact LeO.none _|refine LeO.ite ?_ ?_|refine LeO.bind ?_ (fun _=>?_))|exact ih0 _ _ _ _ _ _ _|exact alarm_Causes.mono _ _ _|exact alarm_reach.mono _ _ _|exact slices_Index_string_string.mono _ _ _|exact LeO.none _|refine LeO.ite ?_ ?_|refine LeO.bind ?_ (fun _=>?_)
theorem alarm_Explain.mono : ∀ a0 a1 a2 k, LeO (alarm_Explain.f k a0 a1 a2) (alarm_Explain.f (k + 1) a0 a1 a2) := by
 intro a0 a1 a2 k
 have ih0:=alarm_Explain.mono_l k
 unfold alarm_Explain.f
 repeat' first|(with_reducible first|exact ih0 _ _ _ _ _ _ _|exact alarm_Causes.mono _ _ _|exact alarm_reach.mono _ _ _|exact slices_Index_string_string.mono _ _ _|exact LeO.refl _|exact LeO.none _|refine LeO.ite ?_ ?_|refine LeO.bind ?_ (fun _=>?_))|exact ih0 _ _ _ _ _ _ _|exact alarm_Causes.mono _ _ _|exact alarm_reach.mono _ _ _|exact slices_Index_string_string.mono _ _ _|exact LeO.none _|refine LeO.ite ?_ ?_|refine LeO.bind ?_ (fun _=>?_)
set_option maxHeartbeats 8000000 in
set_option maxRecDepth 100000 in
theorem alarm_Explain.calls (k : Nat) (A0 : Option Addr) (c0 : Nat) (l0 : List (S81)) (A1 : Option Addr) (c1 : Nat) (l1 : List ByteArray) (a2 : ByteArray) (r1 : List ByteArray) (r2 : Int) (w : World) (hr0 : Kd.C k81 w A0 l0.length l0) (hc0 : l0.length ≤ c0) (hr1 : Kd.C Kd.string w A1 l1.length l1) (hc1 : l1.length ≤ c1) (h : alarm_Explain.f k l0 l1 a2 = some (r1, r2)) :
  Calls Try.prog 28 #[.slice A0 l0.length c0, .slice A1 l1.length c1, .string a2] w fun e w' => ∃ v0_ : Value, e = .returned (.tuple #[v0_, .int .i64 r2]) ∧ Kd.R Kd.string 9 w' w.heap.size (fun _ => True) v0_ r1 ∧ Below w.heap.size w w' := by
 have HR0:=k0_ hr0;have HC0:=k0_ hc0;clear hr0 hc0;have HR1:=k0_ hr1;have HC1:=k0_ hc1;clear hr1 hc1;have HB:=k0_ (Below.refl w.heap.size w);have H : ((alarm_Causes.f k l0 l1).bind fun bt193=>(if bt193.2 = 0 then ((slices_Index_string_string.f k l1 a2).bind fun t197=>(if t197 < 0 then (some (([] : List ByteArray), 8)) else ((alarm_reach.f k l0 l1).bind fun t198=>(alarm_Explain.l0 k l1 t197 t198 ([] : List ByteArray) bt193.1 (bt193.1.length : Int) 0)))) else (some (([] : List ByteArray), bt193.2)))) = some (r1, r2):=h;clear h;replace H:=Option.bind_eq_some_iff.mp H;obtain ⟨⟨t193, t194⟩, A40, H⟩:=H;replace H : (if t194 = 0 then ((slices_Index_string_string.f k l1 a2).bind fun t197=>(if t197 < 0 then (some (([] : List ByteArray), 8)) else ((alarm_reach.f k l0 l1).bind fun t198=>(alarm_Explain.l0 k l1 t197 t198 ([] : List ByteArray) t193 (t193.length : Int) 0)))) else (some (([] : List ByteArray), t194))) = some (r1, r2):=H;have A4:=k0_ A40;clear A40
 by_cases c5 : t194 = 0
 ·rw [if_pos c5] at H
  have c5b0:=beq_iff_eq.mpr c5;have c5b1:=bne_eq_false_iff_eq.mpr c5;clear c5;replace H:=Option.bind_eq_some_iff.mp H;obtain ⟨t197, A60, H⟩:=H;replace H : (if t197 < 0 then (some (([] : List ByteArray), 8)) else ((alarm_reach.f k l0 l1).bind fun t198=>(alarm_Explain.l0 k l1 t197 t198 ([] : List ByteArray) t193 (t193.length : Int) 0))) = some (r1, r2):=H;have A6:=k0_ A60;clear A60
  by_cases c7 : t197 < 0
  ·rw [if_pos c7] at H
   have c7b0:=decide_eq_true c7;clear c7;simp only [Option.some.injEq, Prod.mk.injEq] at H;obtain ⟨rfl, rfl⟩:=H
   go_enter Try.func28, Try.ntmps28
   go_wp2_with (first|(go_at_call 26;(with_reducible refine (alarm_Causes.calls k _ _ l0 _ _ l1 t193 t194 _ ?side1 ?side2 ?side3 ?side4 A4.out).mono ?_);(case side1=>repeat (first|exact HR0.out|(with_reducible refine Kd.C_alloc ?_ _)|(with_reducible refine Kd.C_drewN ?_ _)|(with_reducible refine Kd.C_drew ?_)));(case side2=>exact HC0.out);(case side3=>repeat (first|exact HR1.out|(with_reducible refine Kd.C_alloc ?_ _)|(with_reducible refine Kd.C_drewN ?_ _)|(with_reducible refine Kd.C_drew ?_)));(case side4=>exact HC1.out);rintro e w8 ⟨v195, rfl, ho0, hb⟩;have HO196:=k0_ (Kd.R_lower ho0 (below_size (hb0_ HB.out)));replace HB:=k0_ (below_step (hb0_ HB.out) hb);(try clear hb);(try clear hb2);(try clear hk);(try clear hi);(try clear ho0))|(go_at_call 47;(with_reducible refine (slices_Index_string_string.calls k _ _ l1 a2 t197 _ ?side1 ?side2 A6.out).mono ?_);(case side1=>repeat (first|exact (Kd.C_below HR1.out HB.out)|(with_reducible refine Kd.C_alloc ?_ _)|(with_reducible refine Kd.C_drewN ?_ _)|(with_reducible refine Kd.C_drew ?_)));(case side2=>exact HC1.out);rintro e w' ⟨rfl, ⟨nd, rfl⟩⟩;(try first|exact ⟨rfl, _, World.drewN_drewN _ _ _⟩|exact ⟨rfl, _, Eq.trans (World.drewN_drewN _ _ _) (congrArg (World.drewN _) (Nat.add_assoc _ _ _))⟩)))
   repeat (go_quiet (first|(go_at_call 26;(with_reducible refine (alarm_Causes.calls k _ _ l0 _ _ l1 t193 t194 _ ?side1 ?side2 ?side3 ?side4 A4.out).mono ?_);(case side1=>repeat (first|exact HR0.out|(with_reducible refine Kd.C_alloc ?_ _)|(with_reducible refine Kd.C_drewN ?_ _)|(with_reducible refine Kd.C_drew ?_)));(case side2=>exact HC0.out);(case side3=>repeat (first|exact HR1.out|(with_reducible refine Kd.C_alloc ?_ _)|(with_reducible refine Kd.C_drewN ?_ _)|(with_reducible refine Kd.C_drew ?_)));(case side4=>exact HC1.out);rintro e w8 ⟨v195, rfl, ho0, hb⟩;have HO196:=k0_ (Kd.R_lower ho0 (below_size (hb0_ HB.out)));replace HB:=k0_ (below_step (hb0_ HB.out) hb);(try clear hb);(try clear hb2);(try clear hk);(try clear hi);(try clear ho0))|(go_at_call 47;(with_reducible refine (slices_Index_string_string.calls k _ _ l1 a2 t197 _ ?side1 ?side2 A6.out).mono ?_);(case side1=>repeat (first|exact (Kd.C_below HR1.out HB.out)|(with_reducible refine Kd.C_alloc ?_ _)|(with_reducible refine Kd.C_drewN ?_ _)|(with_reducible refine Kd.C_drew ?_)));(case side2=>exact HC1.out);rintro e w' ⟨rfl, ⟨nd, rfl⟩⟩;(try first|exact ⟨rfl, _, World.drewN_drewN _ _ _⟩|exact ⟨rfl, _, Eq.trans (World.drewN_drewN _ _ _) (congrArg (World.drewN _) (Nat.add_assoc _ _ _))⟩)));try go_wp2_with (first|(go_at_call 26;(with_reducible refine (alarm_Causes.calls k _ _ l0 _ _ l1 t193 t194 _ ?side1 ?side2 ?side3 ?side4 A4.out).mono ?_);(case side1=>repeat (first|exact HR0.out|(with_reducible refine Kd.C_alloc ?_ _)|(with_reducible refine Kd.C_drewN ?_ _)|(with_reducible refine Kd.C_drew ?_)));(case side2=>exact HC0.out);(case side3=>repeat (first|exact HR1.out|(with_reducible refine Kd.C_alloc ?_ _)|(with_reducible refine Kd.C_drewN ?_ _)|(with_reducible refine Kd.C_drew ?_)));(case side4=>exact HC1.out);rintro e w8 ⟨v195, rfl, ho0, hb⟩;have HO196:=k0_ (Kd.R_lower ho0 (below_size (hb0_ HB.out)));replace HB:=k0_ (below_step (hb0_ HB.out) hb);(try clear hb);(try clear hb2);(try clear hk);(try clear hi);(try clear ho0))|(go_at_call 47;(with_reducible refine (slices_Index_string_string.calls k _ _ l1 a2 t197 _ ?side1 ?side2 A6.out).mono ?_);(case side1=>repeat (first|exact (Kd.C_below HR1.out HB.out)|(with_reducible refine Kd.C_alloc ?_ _)|(with_reducible refine Kd.C_drewN ?_ _)|(with_reducible refine Kd.C_drew ?_)));(case side2=>exact HC1.out);rintro e w' ⟨rfl, ⟨nd, rfl⟩⟩;(try first|exact ⟨rfl, _, World.drewN_drewN _ _ _⟩|exact ⟨rfl, _, Eq.trans (World.drewN_drewN _ _ _) (congrArg (World.drewN _) (Nat.add_assoc _ _ _))⟩))))
   go_ret2
   exact ⟨_, er_, by first|exact Kd.R_nil _ _ _ _ _|exact Kd.N_nil _ _ _ _ _|exact Kd.V_nil _ _ _ _ _|exact Kd.Q_nil _ _ _ _ _|exact Kd.S_nil _ _ _ _ _, hb0_ HB.out⟩
  ·rw [if_neg c7] at H
   have c7b0:=decide_eq_false c7;clear c7;replace H:=Option.bind_eq_some_iff.mp H;obtain ⟨t198, A90, H⟩:=H;replace H : (alarm_Explain.l0 k l1 t197 t198 ([] : List ByteArray) t193 (t193.length : Int) 0) = some (r1, r2):=H;have A9:=k0_ A90;clear A90;have H':=k0_ H;clear H
   go_enter Try.func28, Try.ntmps28
   go_wp2_with (first|(go_at_call 26;(with_reducible refine (alarm_Causes.calls k _ _ l0 _ _ l1 t193 t194 _ ?side1 ?side2 ?side3 ?side4 A4.out).mono ?_);(case side1=>repeat (first|exact HR0.out|(with_reducible refine Kd.C_alloc ?_ _)|(with_reducible refine Kd.C_drewN ?_ _)|(with_reducible refine Kd.C_drew ?_)));(case side2=>exact HC0.out);(case side3=>repeat (first|exact HR1.out|(with_reducible refine Kd.C_alloc ?_ _)|(with_reducible refine Kd.C_drewN ?_ _)|(with_reducible refine Kd.C_drew ?_)));(case side4=>exact HC1.out);rintro e w10 ⟨v195, rfl, ho0, hb⟩;have HO196:=k0_ (Kd.R_lower ho0 (below_size (hb0_ HB.out)));replace HB:=k0_ (below_step (hb0_ HB.out) hb);(try clear hb);(try clear hb2);(try clear hk);(try clear hi);(try clear ho0))|(go_at_call 47;(with_reducible refine (slices_Index_string_string.calls k _ _ l1 a2 t197 _ ?side1 ?side2 A6.out).mono ?_);(case side1=>repeat (first|exact (Kd.C_below HR1.out HB.out)|(with_reducible refine Kd.C_alloc ?_ _)|(with_reducible refine Kd.C_drewN ?_ _)|(with_reducible refine Kd.C_drew ?_)));(case side2=>exact HC1.out);rintro e w' ⟨rfl, ⟨nd, rfl⟩⟩;(try first|exact ⟨rfl, _, World.drewN_drewN _ _ _⟩|exact ⟨rfl, _, Eq.trans (World.drewN_drewN _ _ _) (congrArg (World.drewN _) (Nat.add_assoc _ _ _))⟩))|(go_at_call 75;(with_reducible refine (alarm_reach.calls k _ _ l0 _ _ l1 t198 _ ?side1 ?side2 ?side3 ?side4 A9.out).mono ?_);(case side1=>repeat (first|exact (Kd.C_below HR0.out (hb0_ HB.out))|(with_reducible refine Kd.C_alloc ?_ _)|(with_reducible refine Kd.C_drewN ?_ _)|(with_reducible refine Kd.C_drew ?_)));(case side2=>exact HC0.out);(case side3=>repeat (first|exact (Kd.C_below HR1.out (hb0_ HB.out))|(with_reducible refine Kd.C_alloc ?_ _)|(with_reducible refine Kd.C_drewN ?_ _)|(with_reducible refine Kd.C_drew ?_)));(case side4=>exact HC1.out);rintro e w11 ⟨v199, rfl, ho0, hb⟩;replace HO196:=k0_ (Kd.R_below (rq_ HO196.out) hb);have HO200:=k0_ (Kd.S_lower ho0 (below_size (hb0_ HB.out)));replace HB:=k0_ (below_step (hb0_ HB.out) hb);(try clear hb);(try clear hb2);(try clear hk);(try clear hi);(try clear ho0);obtain ⟨Ao12, co12, eo12⟩:=Kd.R_slice HO196.out;subst eo12))
   repeat (go_quiet (first|(go_at_call 26;(with_reducible refine (alarm_Causes.calls k _ _ l0 _ _ l1 t193 t194 _ ?side1 ?side2 ?side3 ?side4 A4.out).mono ?_);(case side1=>repeat (first|exact HR0.out|(with_reducible refine Kd.C_alloc ?_ _)|(with_reducible refine Kd.C_drewN ?_ _)|(with_reducible refine Kd.C_drew ?_)));(case side2=>exact HC0.out);(case side3=>repeat (first|exact HR1.out|(with_reducible refine Kd.C_alloc ?_ _)|(with_reducible refine Kd.C_drewN ?_ _)|(with_reducible refine Kd.C_drew ?_)));(case side4=>exact HC1.out);rintro e w10 ⟨v195, rfl, ho0, hb⟩;have HO196:=k0_ (Kd.R_lower ho0 (below_size (hb0_ HB.out)));replace HB:=k0_ (below_step (hb0_ HB.out) hb);(try clear hb);(try clear hb2);(try clear hk);(try clear hi);(try clear ho0))|(go_at_call 47;(with_reducible refine (slices_Index_string_string.calls k _ _ l1 a2 t197 _ ?side1 ?side2 A6.out).mono ?_);(case side1=>repeat (first|exact (Kd.C_below HR1.out HB.out)|(with_reducible refine Kd.C_alloc ?_ _)|(with_reducible refine Kd.C_drewN ?_ _)|(with_reducible refine Kd.C_drew ?_)));(case side2=>exact HC1.out);rintro e w' ⟨rfl, ⟨nd, rfl⟩⟩;(try first|exact ⟨rfl, _, World.drewN_drewN _ _ _⟩|exact ⟨rfl, _, Eq.trans (World.drewN_drewN _ _ _) (congrArg (World.drewN _) (Nat.add_assoc _ _ _))⟩))|(go_at_call 75;(with_reducible refine (alarm_reach.calls k _ _ l0 _ _ l1 t198 _ ?side1 ?side2 ?side3 ?side4 A9.out).mono ?_);(case side1=>repeat (first|exact (Kd.C_below HR0.out (hb0_ HB.out))|(with_reducible refine Kd.C_alloc ?_ _)|(with_reducible refine Kd.C_drewN ?_ _)|(with_reducible refine Kd.C_drew ?_)));(case side2=>exact HC0.out);(case side3=>repeat (first|exact (Kd.C_below HR1.out (hb0_ HB.out))|(with_reducible refine Kd.C_alloc ?_ _)|(with_reducible refine Kd.C_drewN ?_ _)|(with_reducible refine Kd.C_drew ?_)));(case side4=>exact HC1.out);rintro e w11 ⟨v199, rfl, ho0, hb⟩;replace HO196:=k0_ (Kd.R_below (rq_ HO196.out) hb);have HO200:=k0_ (Kd.S_lower ho0 (below_size (hb0_ HB.out)));replace HB:=k0_ (below_step (hb0_ HB.out) hb);(try clear hb);(try clear hb2);(try clear hk);(try clear hi);(try clear ho0);obtain ⟨Ao12, co12, eo12⟩:=Kd.R_slice HO196.out;subst eo12));try go_wp2_with (first|(go_at_call 26;(with_reducible refine (alarm_Causes.calls k _ _ l0 _ _ l1 t193 t194 _ ?side1 ?side2 ?side3 ?side4 A4.out).mono ?_);(case side1=>repeat (first|exact HR0.out|(with_reducible refine Kd.C_alloc ?_ _)|(with_reducible refine Kd.C_drewN ?_ _)|(with_reducible refine Kd.C_drew ?_)));(case side2=>exact HC0.out);(case side3=>repeat (first|exact HR1.out|(with_reducible refine Kd.C_alloc ?_ _)|(with_reducible refine Kd.C_drewN ?_ _)|(with_reducible refine Kd.C_drew ?_)));(case side4=>exact HC1.out);rintro e w10 ⟨v195, rfl, ho0, hb⟩;have HO196:=k0_ (Kd.R_lower ho0 (below_size (hb0_ HB.out)));replace HB:=k0_ (below_step (hb0_ HB.out) hb);(try clear hb);(try clear hb2);(try clear hk);(try clear hi);(try clear ho0))|(go_at_call 47;(with_reducible refine (slices_Index_string_string.calls k _ _ l1 a2 t197 _ ?side1 ?side2 A6.out).mono ?_);(case side1=>repeat (first|exact (Kd.C_below HR1.out HB.out)|(with_reducible refine Kd.C_alloc ?_ _)|(with_reducible refine Kd.C_drewN ?_ _)|(with_reducible refine Kd.C_drew ?_)));(case side2=>exact HC1.out);rintro e w' ⟨rfl, ⟨nd, rfl⟩⟩;(try first|exact ⟨rfl, _, World.drewN_drewN _ _ _⟩|exact ⟨rfl, _, Eq.trans (World.drewN_drewN _ _ _) (congrArg (World.drewN _) (Nat.add_assoc _ _ _))⟩))|(go_at_call 75;(with_reducible refine (alarm_reach.calls k _ _ l0 _ _ l1 t198 _ ?side1 ?side2 ?side3 ?side4 A9.out).mono ?_);(case side1=>repeat (first|exact (Kd.C_below HR0.out (hb0_ HB.out))|(with_reducible refine Kd.C_alloc ?_ _)|(with_reducible refine Kd.C_drewN ?_ _)|(with_reducible refine Kd.C_drew ?_)));(case side2=>exact HC0.out);(case side3=>repeat (first|exact (Kd.C_below HR1.out (hb0_ HB.out))|(with_reducible refine Kd.C_alloc ?_ _)|(with_reducible refine Kd.C_drewN ?_ _)|(with_reducible refine Kd.C_drew ?_)));(case side4=>exact HC1.out);rintro e w11 ⟨v199, rfl, ho0, hb⟩;replace HO196:=k0_ (Kd.R_below (rq_ HO196.out) hb);have HO200:=k0_ (Kd.S_lower ho0 (below_size (hb0_ HB.out)));replace HB:=k0_ (below_step (hb0_ HB.out) hb);(try clear hb);(try clear hb2);(try clear hk);(try clear hi);(try clear ho0);obtain ⟨Ao12, co12, eo12⟩:=Kd.R_slice HO196.out;subst eo12)))
   (try simp only [Act.put, q1_,q3_,q2_])
   go_loopg [12, 34] k (fun kq v12 v34 w'=>∃ (x12_1 : List ByteArray) (x34_1 : Int), v34 = .int .i64 x34_1∧Aside0 (alarm_Explain.l0 kq l1 t197 t198 x12_1 t193 (t193.length : Int) x34_1 = some (r1, r2))∧Aside0 (kq ≤ k)∧Aside0 (Kd.S (Kd.slice 4 Kd.bool) 49 w' w.heap.size (fun _=>True) v199 t198)∧Aside0 (Kd.R Kd.string 9 w' w.heap.size (fun k_=>some k_ ≠ ((.slice Ao12 t193.length co12) : Value).ownBlock) v12 x12_1)∧Aside0 (Kd.R Kd.string 9 w' w.heap.size (fun k_=>some k_ ≠ (v12 : Value).ownBlock) (.slice Ao12 t193.length co12) t193)∧Aside0 (Below w.heap.size w w'))
   case atStart=>exact ⟨(([] : List ByteArray)),(0),rs_, H', ⟨Nat.le_refl _⟩,⟨by (with_reducible repeat (first|apply Kd.S_alloc|apply Kd.S_drewN|apply Kd.S_drew));exact HO200.out⟩,⟨by first|exact Kd.R_nil _ _ _ _ _|exact Kd.N_nil _ _ _ _ _|exact Kd.V_nil _ _ _ _ _|exact Kd.Q_nil _ _ _ _ _|exact Kd.S_nil _ _ _ _ _⟩,⟨by (with_reducible repeat (first|apply Kd.R_alloc|apply Kd.R_drewN|apply Kd.R_drew));exact Kd.R_mono HO196.out (fun _ hk=>(by simp [Value.ownBlock]))⟩,⟨hb0_ HB.out⟩⟩
   clear H';(try clear c1);(try clear c2);(try clear p2);(try clear c5);(try clear c5b0);(try clear c5b1);(try clear c7);(try clear c7b0);obtain ⟨x12_1, x34_1, rfl, HA, HK1, HO_11, HO_12, HO_32, HB⟩:=hrel;obtain _|k1:=gk
   ·exact absurd HA.out (by simp [alarm_Explain.l0])
   have H:=HA.out;clear HA;simp only [alarm_Explain.l0] at H
   by_cases c13 : x34_1 < (t193.length : Int)
   ·rw [if_pos c13] at H
    have c13b0:=decide_eq_true c13;clear c13
    by_cases c14 : 0 ≤ x34_1
    rw [if_pos c14] at H;have c14b0:=decide_eq_true c14;clear c14
    focus
     by_cases c15 : x34_1 < (t193.length : Int)
     rw [if_pos c15] at H;have c15b0:=decide_eq_true c15;clear c15
     focus
      by_cases c16 : 0 ≤ t197
      rw [if_pos c16] at H;have c16b0:=decide_eq_true c16;clear c16
      focus
       by_cases c17 : t197 < (t198.length : Int)
       rw [if_pos c17] at H;have c17b0:=decide_eq_true c17;clear c17;replace H:=Option.bind_eq_some_iff.mp H;obtain ⟨t203, A180, H⟩:=H;replace H : (if 0 ≤ t203 then (if t203 < ((rd_L4 t198 t197).length : Int) then (if rdOf false (rd_L4 t198 t197) t203 = true then (if x12_1.length < 8796093022208 then (alarm_Explain.l0 k1 l1 t197 t198 (x12_1 ++ [rdOf ByteArray.empty t193 x34_1]) t193 (t193.length : Int) (wrap64 (x34_1 + 1))) else (none)) else (alarm_Explain.l0 k1 l1 t197 t198 x12_1 t193 (t193.length : Int) (wrap64 (x34_1 + 1)))) else (none)) else (none)) = some (r1, r2):=H;have A18:=k0_ A180;clear A180
       focus
        by_cases c19 : 0 ≤ t203
        rw [if_pos c19] at H;have c19b0:=decide_eq_true c19;clear c19
        focus
         by_cases c20 : t203 < ((rd_L4 t198 t197).length : Int)
         rw [if_pos c20] at H;have c20b0:=decide_eq_true c20;clear c20;obtain ⟨bq21, hbq21⟩ : ∃ b_ : Bool, b_ = (rdOf false (rd_L4 t198 t197) t203):=⟨_, rfl⟩;replace H : (if bq21 = true then (if x12_1.length < 8796093022208 then (alarm_Explain.l0 k1 l1 t197 t198 (x12_1 ++ [rdOf ByteArray.empty t193 x34_1]) t193 (t193.length : Int) (wrap64 (x34_1 + 1))) else (none)) else (alarm_Explain.l0 k1 l1 t197 t198 x12_1 t193 (t193.length : Int) (wrap64 (x34_1 + 1)))) = some (r1, r2):=by rw [← hbq21] at H;exact H
         have Nbq21:=k0_ hbq21;clear hbq21
         focus
          by_cases c22 : bq21 = true
          subst c22;have H1 : (if x12_1.length < 8796093022208 then (alarm_Explain.l0 k1 l1 t197 t198 (x12_1 ++ [rdOf ByteArray.empty t193 x34_1]) t193 (t193.length : Int) (wrap64 (x34_1 + 1))) else (none)) = some (r1, r2):=by rw [if_pos rfl] at H;exact H
          clear H;have H:=H1;clear H1
          focus
           by_cases c23 : x12_1.length < 8796093022208
           rw [if_pos c23] at H;have LMc23:=k0_ c23;clear c23;obtain ⟨y205, hy205⟩ : ∃ y_ : List ByteArray, y_ = (x12_1 ++ [rdOf ByteArray.empty t193 x34_1]):=⟨_, rfl⟩;replace H : (alarm_Explain.l0 k1 l1 t197 t198 y205 t193 (t193.length : Int) (wrap64 (x34_1 + 1))) = some (r1, r2):=by first|(rw [hy205];with_reducible exact H)|(have H2_:=(Option.bind_some _ _).symm.trans H;rw [hy205];with_reducible exact H2_)|(have H2_:=(Option.bind_some _ _).symm.trans H;with_reducible exact H2_)|with_reducible exact H|(rw [hy205];exact H)|exact H
           have Ny205:=k0_ hy205;clear hy205;have H':=k0_ H;clear H;rotate_left;rw [if_neg c23] at H
           exact absurd H (by simp)
          rotate_left;replace c22:=Bool.eq_false_iff.mpr c22;subst c22;have H1 : (alarm_Explain.l0 k1 l1 t197 t198 x12_1 t193 (t193.length : Int) (wrap64 (x34_1 + 1))) = some (r1, r2):=by rw [if_neg (show ¬ (false = true) by decide)] at H;exact H
          clear H;have H:=H1;clear H1;have H':=k0_ H;clear H;rotate_left
         rotate_left 2;rw [if_neg c20] at H
         exact absurd H (by simp)
        rotate_left 2;rw [if_neg c19] at H
        exact absurd H (by simp)
       rotate_left 2;rw [if_neg c17] at H
       exact absurd H (by simp)
      rotate_left 2;rw [if_neg c16] at H
      exact absurd H (by simp)
     rotate_left 2;rw [if_neg c15] at H
     exact absurd H (by simp)
    rotate_left 2;rw [if_neg c14] at H
    exact absurd H (by simp)
    all_goals
     have p201 : 0 ≤ (x34_1 : Int):=of_decide_eq_true as_;have q201 : x34_1 < (t193.length : Int):=of_decide_eq_true as_;obtain ⟨ad201, e201, hx201_0⟩:=Kd.at_string (Kd.R_reads' HO_32.out).2.2 x34_1 p201 q201;cases e201;replace p201:=eq_true p201;replace q201:=eq_true q201;obtain ⟨Ao24, co24, eo24⟩:=Kd.S_slice HO_11.out;subst eo24;have p202 : 0 ≤ (t197 : Int):=of_decide_eq_true as_;have q202 : t197 < (t198.length : Int):=of_decide_eq_true as_;obtain ⟨ad202, A202_0, c202_0, e202, hx202_0, hl202_0, hi202_0⟩:=at_L4 (Kd.S_reads' HO_11.out).2.2 t197 p202 q202;cases e202;obtain ⟨ce202, hce202, hMe202, hcc202⟩:=Kd.S_get HO_11.out [] t197 p202 (by first|exact q202|exact of_decide_eq_true as_|(have e_:=(Kd.S_reads' HO_11.out).1;omega));obtain ⟨ve202_0, rfl, ge202_0⟩:=hMe202;have hv202_0:=hcc202 0 _ rfl;rw [Nat.add_zero, show ((Kd.slice 4 Kd.bool)).sz = 1 from rfl, Nat.mul_one] at hv202_0;replace hv202_0:=Option.some.inj (hv202_0.symm.trans hx202_0);rw [hv202_0] at ge202_0;have HL202_0:=k0_ (show Kd.R Kd.bool 4 _ _ _ _ (rd_L4 t198 t197) from ge202_0);clear hv202_0 ge202_0;clear hcc202 hce202;have HR202_0:=k0_ hi202_0;have HC202_0:=k0_ hl202_0;clear hi202_0 hl202_0;replace p202:=eq_true p202;replace q202:=eq_true q202
    ·go_wp2_with (first|(go_at_call 47;(with_reducible refine (slices_Index_string_string.calls k1 _ _ l1 (rdOf ByteArray.empty t193 x34_1) t203 _ ?side1 ?side2 A18.out).mono ?_);(case side1=>repeat (first|exact (Kd.C_below HR1.out HB.out)|(with_reducible refine Kd.C_alloc ?_ _)|(with_reducible refine Kd.C_drewN ?_ _)|(with_reducible refine Kd.C_drew ?_)));(case side2=>exact HC1.out);rintro e w' ⟨rfl, ⟨nd, rfl⟩⟩;(try first|exact ⟨rfl, _, World.drewN_drewN _ _ _⟩|exact ⟨rfl, _, Eq.trans (World.drewN_drewN _ _ _) (congrArg (World.drewN _) (Nat.add_assoc _ _ _))⟩);have p204 : 0 ≤ (t203 : Int):=of_decide_eq_true as_;have q204 : t203 < ((rd_L4 t198 t197).length : Int):=of_decide_eq_true as_;obtain ⟨ad204, e204, hx204_0⟩:=Kd.at_bool (by repeat (first|(with_reducible exact HR202_0.out)|(with_reducible refine Kd.C_alloc ?_ _)|(with_reducible refine Kd.C_drewN ?_ _)|(with_reducible refine Kd.C_drew ?_)|exact HR202_0.out)) t203 p204 q204;(try rw [← Nbq21.out] at hx204_0);cases e204;replace p204:=eq_true p204;replace q204:=eq_true q204)|((with_reducible refine gate_builtin (b:=.append) (xs:=#[.tmp 47, .tmp 49]) rfl ?_);at_builtin;refine Kd.R_append Kd.string (w0:=w) w.heap.size rfl (.tmp 47) (.tmp 49) 22 9 (.string ⟨#[]⟩) 16 rfl Try.underlying22 info9 rfl (by decide) (by omega) u12 x12_1 (rdOf ByteArray.empty t193 x34_1) [.string (rdOf ByteArray.empty t193 x34_1)] (fun k_=>some k_ ≠ (.slice (some ad201) t193.length co12 : Value).ownBlock) (fun _=>False) rfl rfl ?aP (fun _ hk=>hk.elim) ?aF ?aO ?aB ?aS ?aL ?_;(case aP=>exact rfl);(case aB=>exact (hb0_ HB.out));(case aF=>exact (fun k_ hk=>Kd.fresh' (Kd.R_lt (rq_ HO_32.out)) k_ hk));(case aO=>exact (rq_ HO_12.out));(case aS=>exact (below_size (hb0_ HB.out)));(case aL=>have:=LMc23.out;omega);intro v206 w25 ho hb hg hat;rw [← Ny205.out] at ho;replace HO_11:=k0_ (Kd.S_over' (by (with_reducible repeat (first|apply Kd.S_alloc|apply Kd.S_drewN|apply Kd.S_drew));exact HO_11.out) (Kd.R_typed (rq_ HO_12.out)) (by decide) hg);replace HO_32:=k0_ (Kd.R_after (ok:=(fun _=>True)) (by (with_reducible repeat (first|apply Kd.R_alloc|apply Kd.R_drewN|apply Kd.R_drew));exact Kd.R_mono HO_32.out (fun _ hk=>⟨trivial, hk⟩)) hg hat);replace HL202_0:=k0_ (Kd.R_over' (rq_ HL202_0.out) (Kd.R_typed (rq_ HO_12.out)) (by decide) hg);replace HB:=k0_ (hb);have HO207:=k0_ (ho);clear HO_12;clear ho hb hg hat))
     repeat (go_quiet (first|(go_at_call 47;(with_reducible refine (slices_Index_string_string.calls k1 _ _ l1 (rdOf ByteArray.empty t193 x34_1) t203 _ ?side1 ?side2 A18.out).mono ?_);(case side1=>repeat (first|exact (Kd.C_below HR1.out HB.out)|(with_reducible refine Kd.C_alloc ?_ _)|(with_reducible refine Kd.C_drewN ?_ _)|(with_reducible refine Kd.C_drew ?_)));(case side2=>exact HC1.out);rintro e w' ⟨rfl, ⟨nd, rfl⟩⟩;(try first|exact ⟨rfl, _, World.drewN_drewN _ _ _⟩|exact ⟨rfl, _, Eq.trans (World.drewN_drewN _ _ _) (congrArg (World.drewN _) (Nat.add_assoc _ _ _))⟩);have p204 : 0 ≤ (t203 : Int):=of_decide_eq_true as_;have q204 : t203 < ((rd_L4 t198 t197).length : Int):=of_decide_eq_true as_;obtain ⟨ad204, e204, hx204_0⟩:=Kd.at_bool (by repeat (first|(with_reducible exact HR202_0.out)|(with_reducible refine Kd.C_alloc ?_ _)|(with_reducible refine Kd.C_drewN ?_ _)|(with_reducible refine Kd.C_drew ?_)|exact HR202_0.out)) t203 p204 q204;(try rw [← Nbq21.out] at hx204_0);cases e204;replace p204:=eq_true p204;replace q204:=eq_true q204)|((with_reducible refine gate_builtin (b:=.append) (xs:=#[.tmp 47, .tmp 49]) rfl ?_);at_builtin;refine Kd.R_append Kd.string (w0:=w) w.heap.size rfl (.tmp 47) (.tmp 49) 22 9 (.string ⟨#[]⟩) 16 rfl Try.underlying22 info9 rfl (by decide) (by omega) u12 x12_1 (rdOf ByteArray.empty t193 x34_1) [.string (rdOf ByteArray.empty t193 x34_1)] (fun k_=>some k_ ≠ (.slice (some ad201) t193.length co12 : Value).ownBlock) (fun _=>False) rfl rfl ?aP (fun _ hk=>hk.elim) ?aF ?aO ?aB ?aS ?aL ?_;(case aP=>exact rfl);(case aB=>exact (hb0_ HB.out));(case aF=>exact (fun k_ hk=>Kd.fresh' (Kd.R_lt (rq_ HO_32.out)) k_ hk));(case aO=>exact (rq_ HO_12.out));(case aS=>exact (below_size (hb0_ HB.out)));(case aL=>have:=LMc23.out;omega);intro v206 w25 ho hb hg hat;rw [← Ny205.out] at ho;replace HO_11:=k0_ (Kd.S_over' (by (with_reducible repeat (first|apply Kd.S_alloc|apply Kd.S_drewN|apply Kd.S_drew));exact HO_11.out) (Kd.R_typed (rq_ HO_12.out)) (by decide) hg);replace HO_32:=k0_ (Kd.R_after (ok:=(fun _=>True)) (by (with_reducible repeat (first|apply Kd.R_alloc|apply Kd.R_drewN|apply Kd.R_drew));exact Kd.R_mono HO_32.out (fun _ hk=>⟨trivial, hk⟩)) hg hat);replace HL202_0:=k0_ (Kd.R_over' (rq_ HL202_0.out) (Kd.R_typed (rq_ HO_12.out)) (by decide) hg);replace HB:=k0_ (hb);have HO207:=k0_ (ho);clear HO_12;clear ho hb hg hat));try go_wp2_with (first|(go_at_call 47;(with_reducible refine (slices_Index_string_string.calls k1 _ _ l1 (rdOf ByteArray.empty t193 x34_1) t203 _ ?side1 ?side2 A18.out).mono ?_);(case side1=>repeat (first|exact (Kd.C_below HR1.out HB.out)|(with_reducible refine Kd.C_alloc ?_ _)|(with_reducible refine Kd.C_drewN ?_ _)|(with_reducible refine Kd.C_drew ?_)));(case side2=>exact HC1.out);rintro e w' ⟨rfl, ⟨nd, rfl⟩⟩;(try first|exact ⟨rfl, _, World.drewN_drewN _ _ _⟩|exact ⟨rfl, _, Eq.trans (World.drewN_drewN _ _ _) (congrArg (World.drewN _) (Nat.add_assoc _ _ _))⟩);have p204 : 0 ≤ (t203 : Int):=of_decide_eq_true as_;have q204 : t203 < ((rd_L4 t198 t197).length : Int):=of_decide_eq_true as_;obtain ⟨ad204, e204, hx204_0⟩:=Kd.at_bool (by repeat (first|(with_reducible exact HR202_0.out)|(with_reducible refine Kd.C_alloc ?_ _)|(with_reducible refine Kd.C_drewN ?_ _)|(with_reducible refine Kd.C_drew ?_)|exact HR202_0.out)) t203 p204 q204;(try rw [← Nbq21.out] at hx204_0);cases e204;replace p204:=eq_true p204;replace q204:=eq_true q204)|((with_reducible refine gate_builtin (b:=.append) (xs:=#[.tmp 47, .tmp 49]) rfl ?_);at_builtin;refine Kd.R_append Kd.string (w0:=w) w.heap.size rfl (.tmp 47) (.tmp 49) 22 9 (.string ⟨#[]⟩) 16 rfl Try.underlying22 info9 rfl (by decide) (by omega) u12 x12_1 (rdOf ByteArray.empty t193 x34_1) [.string (rdOf ByteArray.empty t193 x34_1)] (fun k_=>some k_ ≠ (.slice (some ad201) t193.length co12 : Value).ownBlock) (fun _=>False) rfl rfl ?aP (fun _ hk=>hk.elim) ?aF ?aO ?aB ?aS ?aL ?_;(case aP=>exact rfl);(case aB=>exact (hb0_ HB.out));(case aF=>exact (fun k_ hk=>Kd.fresh' (Kd.R_lt (rq_ HO_32.out)) k_ hk));(case aO=>exact (rq_ HO_12.out));(case aS=>exact (below_size (hb0_ HB.out)));(case aL=>have:=LMc23.out;omega);intro v206 w25 ho hb hg hat;rw [← Ny205.out] at ho;replace HO_11:=k0_ (Kd.S_over' (by (with_reducible repeat (first|apply Kd.S_alloc|apply Kd.S_drewN|apply Kd.S_drew));exact HO_11.out) (Kd.R_typed (rq_ HO_12.out)) (by decide) hg);replace HO_32:=k0_ (Kd.R_after (ok:=(fun _=>True)) (by (with_reducible repeat (first|apply Kd.R_alloc|apply Kd.R_drewN|apply Kd.R_drew));exact Kd.R_mono HO_32.out (fun _ hk=>⟨trivial, hk⟩)) hg hat);replace HL202_0:=k0_ (Kd.R_over' (rq_ HL202_0.out) (Kd.R_typed (rq_ HO_12.out)) (by decide) hg);replace HB:=k0_ (hb);have HO207:=k0_ (ho);clear HO_12;clear ho hb hg hat)))
     go_roundg k1
     case measure=>have:=HK1.out;omega
     case rel=>exact ⟨(y205),(wrap64 (x34_1 + 1)),rs_, H', ⟨by have:=HK1.out;omega⟩,⟨by (with_reducible repeat (first|apply Kd.S_alloc|apply Kd.S_drewN|apply Kd.S_drew));exact HO_11.out⟩,⟨by (with_reducible repeat (first|apply Kd.R_alloc|apply Kd.R_drewN|apply Kd.R_drew));exact HO207.out⟩,⟨by (with_reducible repeat (first|apply Kd.R_alloc|apply Kd.R_drewN|apply Kd.R_drew));exact Kd.R_mono HO_32.out (fun _ hk=>hk.2)⟩,⟨hb0_ HB.out⟩⟩
    ·go_wp2_with (first|(go_at_call 47;(with_reducible refine (slices_Index_string_string.calls k1 _ _ l1 (rdOf ByteArray.empty t193 x34_1) t203 _ ?side1 ?side2 A18.out).mono ?_);(case side1=>repeat (first|exact (Kd.C_below HR1.out HB.out)|(with_reducible refine Kd.C_alloc ?_ _)|(with_reducible refine Kd.C_drewN ?_ _)|(with_reducible refine Kd.C_drew ?_)));(case side2=>exact HC1.out);rintro e w' ⟨rfl, ⟨nd, rfl⟩⟩;(try first|exact ⟨rfl, _, World.drewN_drewN _ _ _⟩|exact ⟨rfl, _, Eq.trans (World.drewN_drewN _ _ _) (congrArg (World.drewN _) (Nat.add_assoc _ _ _))⟩);have p204 : 0 ≤ (t203 : Int):=of_decide_eq_true as_;have q204 : t203 < ((rd_L4 t198 t197).length : Int):=of_decide_eq_true as_;obtain ⟨ad204, e204, hx204_0⟩:=Kd.at_bool (by repeat (first|(with_reducible exact HR202_0.out)|(with_reducible refine Kd.C_alloc ?_ _)|(with_reducible refine Kd.C_drewN ?_ _)|(with_reducible refine Kd.C_drew ?_)|exact HR202_0.out)) t203 p204 q204;(try rw [← Nbq21.out] at hx204_0);cases e204;replace p204:=eq_true p204;replace q204:=eq_true q204))
     repeat (go_quiet (first|(go_at_call 47;(with_reducible refine (slices_Index_string_string.calls k1 _ _ l1 (rdOf ByteArray.empty t193 x34_1) t203 _ ?side1 ?side2 A18.out).mono ?_);(case side1=>repeat (first|exact (Kd.C_below HR1.out HB.out)|(with_reducible refine Kd.C_alloc ?_ _)|(with_reducible refine Kd.C_drewN ?_ _)|(with_reducible refine Kd.C_drew ?_)));(case side2=>exact HC1.out);rintro e w' ⟨rfl, ⟨nd, rfl⟩⟩;(try first|exact ⟨rfl, _, World.drewN_drewN _ _ _⟩|exact ⟨rfl, _, Eq.trans (World.drewN_drewN _ _ _) (congrArg (World.drewN _) (Nat.add_assoc _ _ _))⟩);have p204 : 0 ≤ (t203 : Int):=of_decide_eq_true as_;have q204 : t203 < ((rd_L4 t198 t197).length : Int):=of_decide_eq_true as_;obtain ⟨ad204, e204, hx204_0⟩:=Kd.at_bool (by repeat (first|(with_reducible exact HR202_0.out)|(with_reducible refine Kd.C_alloc ?_ _)|(with_reducible refine Kd.C_drewN ?_ _)|(with_reducible refine Kd.C_drew ?_)|exact HR202_0.out)) t203 p204 q204;(try rw [← Nbq21.out] at hx204_0);cases e204;replace p204:=eq_true p204;replace q204:=eq_true q204));try go_wp2_with (first|(go_at_call 47;(with_reducible refine (slices_Index_string_string.calls k1 _ _ l1 (rdOf ByteArray.empty t193 x34_1) t203 _ ?side1 ?side2 A18.out).mono ?_);(case side1=>repeat (first|exact (Kd.C_below HR1.out HB.out)|(with_reducible refine Kd.C_alloc ?_ _)|(with_reducible refine Kd.C_drewN ?_ _)|(with_reducible refine Kd.C_drew ?_)));(case side2=>exact HC1.out);rintro e w' ⟨rfl, ⟨nd, rfl⟩⟩;(try first|exact ⟨rfl, _, World.drewN_drewN _ _ _⟩|exact ⟨rfl, _, Eq.trans (World.drewN_drewN _ _ _) (congrArg (World.drewN _) (Nat.add_assoc _ _ _))⟩);have p204 : 0 ≤ (t203 : Int):=of_decide_eq_true as_;have q204 : t203 < ((rd_L4 t198 t197).length : Int):=of_decide_eq_true as_;obtain ⟨ad204, e204, hx204_0⟩:=Kd.at_bool (by repeat (first|(with_reducible exact HR202_0.out)|(with_reducible refine Kd.C_alloc ?_ _)|(with_reducible refine Kd.C_drewN ?_ _)|(with_reducible refine Kd.C_drew ?_)|exact HR202_0.out)) t203 p204 q204;(try rw [← Nbq21.out] at hx204_0);cases e204;replace p204:=eq_true p204;replace q204:=eq_true q204)))
     go_roundg k1
     case measure=>have:=HK1.out;omega
     case rel=>exact ⟨(x12_1),(wrap64 (x34_1 + 1)),rs_, H', ⟨by have:=HK1.out;omega⟩,⟨by (with_reducible repeat (first|apply Kd.S_alloc|apply Kd.S_drewN|apply Kd.S_drew));exact HO_11.out⟩,⟨by (with_reducible repeat (first|apply Kd.R_alloc|apply Kd.R_drewN|apply Kd.R_drew));exact HO_12.out⟩,⟨by (with_reducible repeat (first|apply Kd.R_alloc|apply Kd.R_drewN|apply Kd.R_drew));exact HO_32.out⟩,⟨hb0_ HB.out⟩⟩
   ·rw [if_neg c13] at H
    have c13b0:=decide_eq_false c13;clear c13;simp only [Option.some.injEq, Prod.mk.injEq] at H;obtain ⟨rfl, rfl⟩:=H;go_wp2
    repeat (go_quiet (fail);try go_wp2)
    go_ret2
    exact ⟨_, er_, by (with_reducible repeat (first|apply Kd.R_alloc|apply Kd.R_drewN|apply Kd.R_drew));exact Kd.R_mono HO_12.out (fun _ hk=>trivial), hb0_ HB.out⟩
 ·rw [if_neg c5] at H
  have c5b0:=beq_eq_false_iff_ne.mpr c5;have c5b1:=bne_iff_ne.mpr c5;simp only [Option.some.injEq, Prod.mk.injEq] at H;obtain ⟨rfl, rfl⟩:=H
  go_enter Try.func28, Try.ntmps28
  go_wp2_with (first|(go_at_call 26;(with_reducible refine (alarm_Causes.calls k _ _ l0 _ _ l1 t193 t194 _ ?side1 ?side2 ?side3 ?side4 A4.out).mono ?_);(case side1=>repeat (first|exact HR0.out|(with_reducible refine Kd.C_alloc ?_ _)|(with_reducible refine Kd.C_drewN ?_ _)|(with_reducible refine Kd.C_drew ?_)));(case side2=>exact HC0.out);(case side3=>repeat (first|exact HR1.out|(with_reducible refine Kd.C_alloc ?_ _)|(with_reducible refine Kd.C_drewN ?_ _)|(with_reducible refine Kd.C_drew ?_)));(case side4=>exact HC1.out);rintro e w27 ⟨v195, rfl, ho0, hb⟩;have HO196:=k0_ (Kd.R_lower ho0 (below_size (hb0_ HB.out)));replace HB:=k0_ (below_step (hb0_ HB.out) hb);(try clear hb);(try clear hb2);(try clear hk);(try clear hi);(try clear ho0)))
  repeat (go_quiet (first|(go_at_call 26;(with_reducible refine (alarm_Causes.calls k _ _ l0 _ _ l1 t193 t194 _ ?side1 ?side2 ?side3 ?side4 A4.out).mono ?_);(case side1=>repeat (first|exact HR0.out|(with_reducible refine Kd.C_alloc ?_ _)|(with_reducible refine Kd.C_drewN ?_ _)|(with_reducible refine Kd.C_drew ?_)));(case side2=>exact HC0.out);(case side3=>repeat (first|exact HR1.out|(with_reducible refine Kd.C_alloc ?_ _)|(with_reducible refine Kd.C_drewN ?_ _)|(with_reducible refine Kd.C_drew ?_)));(case side4=>exact HC1.out);rintro e w27 ⟨v195, rfl, ho0, hb⟩;have HO196:=k0_ (Kd.R_lower ho0 (below_size (hb0_ HB.out)));replace HB:=k0_ (below_step (hb0_ HB.out) hb);(try clear hb);(try clear hb2);(try clear hk);(try clear hi);(try clear ho0)));try go_wp2_with (first|(go_at_call 26;(with_reducible refine (alarm_Causes.calls k _ _ l0 _ _ l1 t193 t194 _ ?side1 ?side2 ?side3 ?side4 A4.out).mono ?_);(case side1=>repeat (first|exact HR0.out|(with_reducible refine Kd.C_alloc ?_ _)|(with_reducible refine Kd.C_drewN ?_ _)|(with_reducible refine Kd.C_drew ?_)));(case side2=>exact HC0.out);(case side3=>repeat (first|exact HR1.out|(with_reducible refine Kd.C_alloc ?_ _)|(with_reducible refine Kd.C_drewN ?_ _)|(with_reducible refine Kd.C_drew ?_)));(case side4=>exact HC1.out);rintro e w27 ⟨v195, rfl, ho0, hb⟩;have HO196:=k0_ (Kd.R_lower ho0 (below_size (hb0_ HB.out)));replace HB:=k0_ (below_step (hb0_ HB.out) hb);(try clear hb);(try clear hb2);(try clear hk);(try clear hi);(try clear ho0))))
  go_ret2
  exact ⟨_, er_, by first|exact Kd.R_nil _ _ _ _ _|exact Kd.N_nil _ _ _ _ _|exact Kd.V_nil _ _ _ _ _|exact Kd.Q_nil _ _ _ _ _|exact Kd.S_nil _ _ _ _ _, hb0_ HB.out⟩

/-! ### gridhallref4_Index: function 30 -/
def gridhallref4_Index.l0 : Nat → ByteArray → List ByteArray → Int → Int → Option (Int)
 | 0, _, _, _, _ => none
 | k + 1, x1, x7, x8, x9 => if x9 < x8 then (if 0 ≤ x9 then (if x9 < (x7.length : Int) then (if (rdOf ByteArray.empty x7 x9).toList = x1.toList then (some x9) else (gridhallref4_Index.l0 k x1 x7 x8 (wrap64 (x9 + 1)))) else (none)) else (none)) else (some (-1))
def gridhallref4_Index.f (k : Nat) (l0 : List ByteArray) (a1 : ByteArray) : Option (Int) := gridhallref4_Index.l0 k a1 l0 (l0.length : Int) 0
theorem gridhallref4_Index.mono_l : ∀ k, (∀ y0 y1 y2 y3, LeO (gridhallref4_Index.l0 k y0 y1 y2 y3) (gridhallref4_Index.l0 (k + 1) y0 y1 y2 y3))
 | 0 => fun _ _ _ _ r h => by simp [gridhallref4_Index.l0] at h
 | k + 1 => by
  have ih0:=gridhallref4_Index.mono_l k
  ·intro y0 y1 y2 y3
   unfold gridhallref4_Index.l0
   repeat' first|(with_reducible first|exact ih0 _ _ _ _|exact LeO.refl _|exact LeO.none _|refine LeO.ite ?_ ?_|refine LeO.bind ?_ (fun _=>?_))|exact ih0 _ _ _ _|exact LeO.none _|refine LeO.ite ?_ ?_|refine LeO.bind ?_ (fun _=>?_)
theorem gridhallref4_Index.mono : ∀ a0 a1 k, LeO (gridhallref4_Index.f k a0 a1) (gridhallref4_Index.f (k + 1) a0 a1) := by
 intro a0 a1 k
 have ih0:=gridhallref4_Index.mono_l k
 unfold gridhallref4_Index.f
 repeat' first|(with_reducible first|exact ih0 _ _ _ _|exact LeO.refl _|exact LeO.none _|refine LeO.ite ?_ ?_|refine LeO.bind ?_ (fun _=>?_))|exact ih0 _ _ _ _|exact LeO.none _|refine LeO.ite ?_ ?_|refine LeO.bind ?_ (fun _=>?_)
set_option maxHeartbeats 8000000 in
set_option maxRecDepth 100000 in
theorem gridhallref4_Index.calls (k : Nat) (A0 : Option Addr) (c0 : Nat) (l0 : List ByteArray) (a1 : ByteArray) (r : Int) (w : World) (hr0 : Kd.C Kd.string w A0 l0.length l0) (hc0 : l0.length ≤ c0) (h : gridhallref4_Index.f k l0 a1 = some r) :
  Calls Try.prog 30 #[.slice A0 l0.length c0, .string a1] w fun e w' => e = .returned (.int .i64 r) ∧ Drawn0 w w' := by
 have HR0:=k0_ hr0;have HC0:=k0_ hc0;clear hr0 hc0;have H : (gridhallref4_Index.l0 k a1 l0 (l0.length : Int) 0) = some r:=h;clear h;have H':=k0_ H;clear H
 go_enter Try.func30, Try.ntmps30
 go_wp2;(try simp only [Act.put, q1_,q3_,q2_])
 go_loopg [9] k (fun kq v9 w'=>∃ (x9_1 : Int), v9 = .int .i64 x9_1∧Aside0 (gridhallref4_Index.l0 kq a1 l0 (l0.length : Int) x9_1 = some r)∧Aside0 (kq ≤ k)∧Drawn0 w w')
 case atStart=>exact ⟨(0),rs_, H', ⟨Nat.le_refl _⟩, by repeat (first|exact Drawn0.refl _|apply Drawn0.step)⟩
 clear H';(try clear p2);obtain ⟨x9_1, rfl, HA, HK1, ⟨m1, rfl⟩⟩:=hrel;obtain _|k1:=gk
 ·exact absurd HA.out (by simp [gridhallref4_Index.l0])
 have H:=HA.out;clear HA;simp only [gridhallref4_Index.l0] at H
 by_cases c3 : x9_1 < (l0.length : Int)
 ·rw [if_pos c3] at H
  have c3b0:=decide_eq_true c3;clear c3
  by_cases c4 : 0 ≤ x9_1
  rw [if_pos c4] at H;have c4b0:=decide_eq_true c4;clear c4
  focus
   by_cases c5 : x9_1 < (l0.length : Int)
   rw [if_pos c5] at H;have c5b0:=decide_eq_true c5;clear c5
   focus
    by_cases c6 : (rdOf ByteArray.empty l0 x9_1).toList = a1.toList
    rw [if_pos c6] at H;have c6b0:=beq_iff_eq.mpr c6;have c6b1:=bne_eq_false_iff_eq.mpr c6;clear c6;obtain rfl:=Option.some.inj H;rotate_left;rw [if_neg c6] at H;have c6b0:=beq_eq_false_iff_ne.mpr c6;have c6b1:=bne_iff_ne.mpr c6;have H':=k0_ H;clear H;rotate_left
   rotate_left 2;rw [if_neg c5] at H
   exact absurd H (by simp)
  rotate_left 2;rw [if_neg c4] at H
  exact absurd H (by simp)
  all_goals
   have p208 : 0 ≤ (x9_1 : Int):=of_decide_eq_true as_;have q208 : x9_1 < (l0.length : Int):=of_decide_eq_true as_;obtain ⟨ad208, e208, hx208_0⟩:=Kd.at_string HR0.out x9_1 p208 q208;cases e208;replace p208:=eq_true p208;replace q208:=eq_true q208;go_wp2
  ·go_ret
   exact ⟨by first|rfl|(simp;done)|(simp [*];done), by repeat (first|exact Drawn0.refl _|apply Drawn0.step)⟩
  ·go_roundg k1
   case measure=>have:=HK1.out;omega
   case rel=>exact ⟨(wrap64 (x9_1 + 1)),rs_, H', ⟨by have:=HK1.out;omega⟩, by repeat (first|exact Drawn0.refl _|apply Drawn0.step)⟩
 ·rw [if_neg c3] at H
  have c3b0:=decide_eq_false c3;clear c3;obtain rfl:=Option.some.inj H;go_wp2
  go_ret
  exact ⟨by first|rfl|(simp;done)|(simp [*];done), by repeat (first|exact Drawn0.refl _|apply Drawn0.step)⟩

/-! ### gridhallref4_Named: function 78 -/
mutual
def gridhallref4_Named.j0 : Nat → ByteArray → Bool → Option (Bool)
 | 0, _, _ => none
 | k + 1, x0, x23 => if x23 = true then (some false) else (gridhallref4_Named.l0 k x0 (x0.size : Int) 0)
def gridhallref4_Named.l0 : Nat → ByteArray → Int → Int → Option (Bool)
 | 0, _, _, _ => none
 | k + 1, x0, x25, x26 => if x26 < x25 then (if 0 ≤ x26 then (if x26 < (x0.size : Int) then (if (bt x0 x26) ≥ 65 then (if ((bt x0 x26) ≤ 90) then (gridhallref4_Named.l0 k x0 x25 (wrap64 (x26 + 1))) else (if (bt x0 x26) ≥ 48 then (if ((bt x0 x26) ≤ 57) then (gridhallref4_Named.l0 k x0 x25 (wrap64 (x26 + 1))) else (some false)) else (some false))) else (if (bt x0 x26) ≥ 48 then (if ((bt x0 x26) ≤ 57) then (gridhallref4_Named.l0 k x0 x25 (wrap64 (x26 + 1))) else (some false)) else (some false))) else (none)) else (none)) else (some true)
end
def gridhallref4_Named.f (k : Nat) (a0 : ByteArray) : Option (Bool) := if (a0.size : Int) < 1 then (gridhallref4_Named.j0 k a0 true) else (if (a0.size : Int) > 8 then (gridhallref4_Named.j0 k a0 true) else (if 0 < (a0.size : Int) then (if (bt a0 0) ≥ 65 then (gridhallref4_Named.j0 k a0 (!(decide ((bt a0 0) ≤ 90)))) else (gridhallref4_Named.j0 k a0 (!false))) else (none)))
theorem gridhallref4_Named.mono_l : ∀ k, (∀ y0 y1, LeO (gridhallref4_Named.j0 k y0 y1) (gridhallref4_Named.j0 (k + 1) y0 y1)) ∧ (∀ y0 y1 y2, LeO (gridhallref4_Named.l0 k y0 y1 y2) (gridhallref4_Named.l0 (k + 1) y0 y1 y2))
 | 0 => ⟨fun _ _ r h => by simp [gridhallref4_Named.j0] at h, fun _ _ _ r h => by simp [gridhallref4_Named.l0] at h⟩
 | k + 1 => by
  obtain ⟨ih0, ih1⟩:=gridhallref4_Named.mono_l k
  refine ⟨?_, ?_⟩
  ·intro y0 y1
   unfold gridhallref4_Named.j0
   repeat' first|(with_reducible first|exact ih0 _ _|exact ih1 _ _ _|exact LeO.refl _|exact LeO.none _|refine LeO.ite ?_ ?_|refine LeO.bind ?_ (fun _=>?_))|exact ih0 _ _|exact ih1 _ _ _|exact LeO.none _|refine LeO.ite ?_ ?_|refine LeO.bind ?_ (fun _=>?_)
  ·intro y0 y1 y2
   unfold gridhallref4_Named.l0
   repeat' first|(with_reducible first|exact ih0 _ _|exact ih1 _ _ _|exact LeO.refl _|exact LeO.none _|refine LeO.ite ?_ ?_|refine LeO.bind ?_ (fun _=>?_))|exact ih0 _ _|exact ih1 _ _ _|exact LeO.none _|refine LeO.ite ?_ ?_|refine LeO.bind ?_ (fun _=>?_)
theorem gridhallref4_Named.mono : ∀ a0 k, LeO (gridhallref4_Named.f k a0) (gridhallref4_Named.f (k + 1) a0) := by
 intro a0 k
 obtain ⟨ih0, ih1⟩:=gridhallref4_Named.mono_l k
 unfold gridhallref4_Named.f
 repeat' first|(with_reducible first|exact ih0 _ _|exact ih1 _ _ _|exact LeO.refl _|exact LeO.none _|refine LeO.ite ?_ ?_|refine LeO.bind ?_ (fun _=>?_))|exact ih0 _ _|exact ih1 _ _ _|exact LeO.none _|refine LeO.ite ?_ ?_|refine LeO.bind ?_ (fun _=>?_)
set_option maxHeartbeats 8000000 in
set_option maxRecDepth 100000 in
theorem gridhallref4_Named.calls (k : Nat) (a0 : ByteArray) (r : Bool) (w : World) (h : gridhallref4_Named.f k a0 = some r) :
  Calls Try.prog 78 #[.string a0] w fun e w' => e = .returned (.bool r) ∧ Drawn0 w w' := by
 have H : (if (a0.size : Int) < 1 then (gridhallref4_Named.j0 k a0 true) else (if (a0.size : Int) > 8 then (gridhallref4_Named.j0 k a0 true) else (if 0 < (a0.size : Int) then (if (bt a0 0) ≥ 65 then (gridhallref4_Named.j0 k a0 (!(decide ((bt a0 0) ≤ 90)))) else (gridhallref4_Named.j0 k a0 (!false))) else (none)))) = some r:=h;clear h;have HC2:=k0_ H;clear H
 go_enter Try.func78, Try.ntmps78
 go_upto_region 1 with (fail)
 go_cut [23] (fun v23 wc=>∃ (kq : Nat) (x23_1 : Bool), v23 = .bool x23_1∧Aside0 (gridhallref4_Named.j0 kq a0 x23_1 = some r)∧Aside0 (kq ≤ k)∧Drawn0 w wc)
 case first =>
  have H:=HC2.out;clear HC2
  by_cases c3 : (a0.size : Int) < 1
  ·rw [if_pos c3] at H
   have c3b0:=decide_eq_true c3;have c3b1 : decide (a0.size < 1) = true:=decide_eq_true (by omega);clear c3;(first|rw [c3b0]|(simp only [i64_w, i32_w];rw [c3b0])|skip);have H':=k0_ H;clear H;go_wp2
   go_meet
   case rel=>exact ⟨_, (true),rs_, H', ⟨by first|omega|exact Nat.le_refl _⟩, by repeat (first|exact Drawn0.refl _|apply Drawn0.step)⟩
  ·rw [if_neg c3] at H
   have c3b0:=decide_eq_false c3;have c3b1 : decide (a0.size < 1) = false:=decide_eq_false (by omega);clear c3;(first|rw [c3b0]|(simp only [i64_w, i32_w];rw [c3b0])|skip)
   by_cases c4 : (a0.size : Int) > 8
   ·rw [if_pos c4] at H
    have c4b0:=decide_eq_true c4;have c4b1 : decide (8 < a0.size) = true:=decide_eq_true (by omega);clear c4;have H':=k0_ H;clear H;go_wp2
    go_meet
    case rel=>exact ⟨_, (true),rs_, H', ⟨by first|omega|exact Nat.le_refl _⟩, by repeat (first|exact Drawn0.refl _|apply Drawn0.step)⟩
   ·rw [if_neg c4] at H
    have c4b0:=decide_eq_false c4;have c4b1 : decide (8 < a0.size) = false:=decide_eq_false (by omega);clear c4
    by_cases c5 : 0 < (a0.size : Int)
    rw [if_pos c5] at H;have c5b0:=decide_eq_true c5;have c5b1 : decide (0 < a0.size) = true:=decide_eq_true (by omega);clear c5
    focus
     by_cases c7 : (bt a0 0) ≥ 65
     rw [if_pos c7] at H;have c7b0:=decide_eq_true c7;clear c7;have H':=k0_ H;clear H;rotate_left;rw [if_neg c7] at H;have c7b0:=decide_eq_false c7;clear c7;have H':=k0_ H;clear H;rotate_left
    rotate_left 2;rw [if_neg c5] at H
    exact absurd H (by simp)
    all_goals
     have p6 : 0 ≤ (0 : Int):=(by omega);have q6 : 0 < a0.size:=(by have : (0 : Int) < (a0.size : Int):=of_decide_eq_true as_;omega);have hx6 : ∀ h : 0 < a0.size, ((a0[0]'h).toNat : Int) = bt a0 0:=bt_at a0 0;clear p6;have qi6 : (0 < (a0.size : Int)) = True:=eq_true (of_decide_eq_true as_);replace q6:=eq_true q6
    ·have p8 : 0 ≤ (0 : Int):=(by omega)
     have q8 : 0 < a0.size:=(by have : (0 : Int) < (a0.size : Int):=of_decide_eq_true as_;omega);have hx8 : ∀ h : 0 < a0.size, ((a0[0]'h).toNat : Int) = bt a0 0:=bt_at a0 0;clear p8;have qi8 : (0 < (a0.size : Int)) = True:=eq_true (of_decide_eq_true as_);replace q8:=eq_true q8;go_wp2
     go_meet
     case rel=>exact ⟨_, (!(decide ((bt a0 0) ≤ 90))),rs_, H', ⟨by first|omega|exact Nat.le_refl _⟩, by repeat (first|exact Drawn0.refl _|apply Drawn0.step)⟩
    ·go_wp2
     go_meet
     case rel=>exact ⟨_, (!false),rs_, H', ⟨by first|omega|exact Nat.le_refl _⟩, by repeat (first|exact Drawn0.refl _|apply Drawn0.step)⟩
 clear HC2;(try clear p2);(try clear c3);(try clear c3b0);(try clear c3b1);(try clear c4);(try clear c4b0);(try clear c4b1);(try clear c5);(try clear c5b0);(try clear c5b1);(try clear p6);(try clear q6);(try clear hx6);(try clear qi6);(try clear c7);(try clear c7b0);(try clear p8);(try clear q8);(try clear hx8);(try clear qi8);(try clear p6);(try clear p8);(try clear q6);(try clear q8);obtain ⟨kq, x23_1, rfl, HA, HJ1, ⟨mc1, rfl⟩⟩:=hcut;obtain _|kj1:=kq
 ·exact absurd HA.out (by simp [gridhallref4_Named.j0])
 have H:=HA.out;clear HA;simp only [gridhallref4_Named.j0] at H
 by_cases c9 : x23_1 = true
 ·subst c9
  have H1 : (some false) = some r:=by rw [if_pos rfl] at H;exact H
  clear H;have H:=H1;clear H1;obtain rfl:=Option.some.inj H;go_wp2
  go_ret
  exact ⟨by first|rfl|(simp;done)|(simp [*];done), by repeat (first|exact Drawn0.refl _|apply Drawn0.step)⟩
 ·replace c9:=Bool.eq_false_iff.mpr c9
  subst c9;have H1 : (gridhallref4_Named.l0 kj1 a0 (a0.size : Int) 0) = some r:=by rw [if_neg (show ¬ (false = true) by decide)] at H;exact H
  clear H;have H:=H1;clear H1;have H':=k0_ H;clear H;go_wp2;(try simp only [Act.put, q1_,q3_,q2_])
  go_loopg [26] kj1 (fun kq v26 w'=>∃ (x26_2 : Int), v26 = .int .i64 x26_2∧Aside0 (gridhallref4_Named.l0 kq a0 (a0.size : Int) x26_2 = some r)∧Aside0 (kq ≤ kj1)∧Drawn0 w w')
  case atStart=>exact ⟨(0),rs_, H', ⟨Nat.le_refl _⟩, by repeat (first|exact Drawn0.refl _|apply Drawn0.step)⟩
  clear H';(try clear c1);(try clear p2);(try clear c3);(try clear c3b0);(try clear c3b1);(try clear c4);(try clear c4b0);(try clear c4b1);(try clear c5);(try clear c5b0);(try clear c5b1);(try clear p6);(try clear q6);(try clear hx6);(try clear qi6);(try clear c7);(try clear c7b0);(try clear p8);(try clear q8);(try clear hx8);(try clear qi8);(try clear c9);(try clear p2);(try clear p6);(try clear p8);(try clear q6);(try clear q8);obtain ⟨x26_2, rfl, HA, HK2, ⟨m2, rfl⟩⟩:=hrel;obtain _|k2:=gk
  ·exact absurd HA.out (by simp [gridhallref4_Named.l0])
  have H:=HA.out;clear HA;simp only [gridhallref4_Named.l0] at H
  by_cases c10 : x26_2 < (a0.size : Int)
  ·rw [if_pos c10] at H
   have c10b0:=decide_eq_true c10;clear c10
   by_cases c11 : 0 ≤ x26_2
   rw [if_pos c11] at H;have c11b0:=decide_eq_true c11;clear c11
   focus
    by_cases c12 : x26_2 < (a0.size : Int)
    rw [if_pos c12] at H;have c12b0:=decide_eq_true c12;clear c12
    focus
     by_cases c14 : (bt a0 x26_2) ≥ 65
     rw [if_pos c14] at H;have c14b0:=decide_eq_true c14;clear c14
     focus
      by_cases c15 : ((bt a0 x26_2) ≤ 90)
      rw [if_pos c15] at H;have c15b0:=decide_eq_true c15;clear c15;have H':=k0_ H;clear H;rotate_left;rw [if_neg c15] at H;have c15b0:=decide_eq_false c15;clear c15
      focus
       by_cases c16 : (bt a0 x26_2) ≥ 48
       rw [if_pos c16] at H;have c16b0:=decide_eq_true c16;clear c16
       focus
        by_cases c17 : ((bt a0 x26_2) ≤ 57)
        rw [if_pos c17] at H;have c17b0:=decide_eq_true c17;clear c17;have H':=k0_ H;clear H;rotate_left;rw [if_neg c17] at H;have c17b0:=decide_eq_false c17;clear c17;obtain rfl:=Option.some.inj H;rotate_left
       rotate_left 2;rw [if_neg c16] at H;have c16b0:=decide_eq_false c16;clear c16;obtain rfl:=Option.some.inj H;rotate_left
      rotate_left 3
     rotate_left 4;rw [if_neg c14] at H;have c14b0:=decide_eq_false c14;clear c14
     focus
      by_cases c18 : (bt a0 x26_2) ≥ 48
      rw [if_pos c18] at H;have c18b0:=decide_eq_true c18;clear c18
      focus
       by_cases c19 : ((bt a0 x26_2) ≤ 57)
       rw [if_pos c19] at H;have c19b0:=decide_eq_true c19;clear c19;have H':=k0_ H;clear H;rotate_left;rw [if_neg c19] at H;have c19b0:=decide_eq_false c19;clear c19;obtain rfl:=Option.some.inj H;rotate_left
      rotate_left 2;rw [if_neg c18] at H;have c18b0:=decide_eq_false c18;clear c18;obtain rfl:=Option.some.inj H;rotate_left
     rotate_left 3
    rotate_left 7;rw [if_neg c12] at H
    exact absurd H (by simp)
   rotate_left 7;rw [if_neg c11] at H
   exact absurd H (by simp)
   all_goals
    have p13 : 0 ≤ (x26_2 : Int):=of_decide_eq_true as_;have q13 : x26_2 < (a0.size : Int):=of_decide_eq_true as_;have hx13:=bt_at a0 x26_2;replace p13:=eq_true p13;replace q13:=eq_true q13;go_wp2
   ·go_roundg k2
    case measure=>have:=HJ1.out;have:=HK2.out;omega
    case rel=>exact ⟨(wrap64 (x26_2 + 1)),rs_, H', ⟨by have:=HJ1.out;have:=HK2.out;omega⟩, by repeat (first|exact Drawn0.refl _|apply Drawn0.step)⟩
   ·go_roundg k2
    case measure=>have:=HJ1.out;have:=HK2.out;omega
    case rel=>exact ⟨(wrap64 (x26_2 + 1)),rs_, H', ⟨by have:=HJ1.out;have:=HK2.out;omega⟩, by repeat (first|exact Drawn0.refl _|apply Drawn0.step)⟩
   ·go_ret
    exact ⟨by first|rfl|(simp;done)|(simp [*];done), by repeat (first|exact Drawn0.refl _|apply Drawn0.step)⟩
   ·go_ret
    exact ⟨by first|rfl|(simp;done)|(simp [*];done), by repeat (first|exact Drawn0.refl _|apply Drawn0.step)⟩
   ·go_roundg k2
    case measure=>have:=HJ1.out;have:=HK2.out;omega
    case rel=>exact ⟨(wrap64 (x26_2 + 1)),rs_, H', ⟨by have:=HJ1.out;have:=HK2.out;omega⟩, by repeat (first|exact Drawn0.refl _|apply Drawn0.step)⟩
   ·go_ret
    exact ⟨by first|rfl|(simp;done)|(simp [*];done), by repeat (first|exact Drawn0.refl _|apply Drawn0.step)⟩
   ·go_ret
    exact ⟨by first|rfl|(simp;done)|(simp [*];done), by repeat (first|exact Drawn0.refl _|apply Drawn0.step)⟩
  ·rw [if_neg c10] at H
   have c10b0:=decide_eq_false c10;clear c10;obtain rfl:=Option.some.inj H;go_wp2
   go_ret
   exact ⟨by first|rfl|(simp;done)|(simp [*];done), by repeat (first|exact Drawn0.refl _|apply Drawn0.step)⟩

end Go.Proofs.Ytefkdkppipdceaa.PAlarmSays
