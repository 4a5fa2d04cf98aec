/- Contracts of functions that AlarmSays reaches, a text of this session's own. -/
import Derived.Test.YtefkdkppipdceaaBox2
import Derived.Test.YtefkdkppipdceaaHAlarmSaysy0
import Derived.Test.YtefkdkppipdceaaHAlarmSaysy1
namespace Go.Proofs.Ytefkdkppipdceaa.PAlarmSays
open Go.RowKit Go.Proofs.YtefkdkppipdceaaW.PrintWords Go.Proofs.YtefkdkppipdceaaW.PrintLast Go.Proofs.YtefkdkppipdceaaW.PrintMore
attribute [local go_sem] max2_int min2_int max_two min_two max_three min_three max_four min_four   -- for this text's walks alone
set_option linter.unusedVariables false
set_option linter.unusedSimpArgs false

attribute [local go_sem high] eqA81
/-! ### alarm_named: function 105 -/
def alarm_named.l0 : Nat → ByteArray → List Int → Int → Int → Option (Bool)
 | 0, _, _, _, _ => none
 | k + 1, x0, x6, x7, x8 => if x8 < x7 then (if 0 ≤ x8 then (if x8 < (x6.length : Int) then (if (rd x6 x8) ≥ 65 then (if (rd x6 x8) ≤ 90 then (alarm_named.l0 k x0 x6 x7 (wrap64 (x8 + 1))) else (if x8 > 0 then (if (rd x6 x8) ≥ 48 then (if ((rd x6 x8) ≤ 57) then (alarm_named.l0 k x0 x6 x7 (wrap64 (x8 + 1))) else (some false)) else (some false)) else (some false))) else (if x8 > 0 then (if (rd x6 x8) ≥ 48 then (if ((rd x6 x8) ≤ 57) then (alarm_named.l0 k x0 x6 x7 (wrap64 (x8 + 1))) else (some false)) else (some false)) else (some false))) else (none)) else (none)) else (if x0.toList = ([] : List UInt8) then (some false) else (some (decide ((x0.size : Int) ≤ 8))))
def alarm_named.f (k : Nat) (a0 : ByteArray) : Option (Bool) := if a0.size ≤ 9223372036854775807 then (alarm_named.l0 k a0 (bytesOf a0) ((bytesOf a0).length : Int) 0) else (none)
theorem alarm_named.mono_l : ∀ k, (∀ y0 y1 y2 y3, LeO (alarm_named.l0 k y0 y1 y2 y3) (alarm_named.l0 (k + 1) y0 y1 y2 y3))
 | 0 => fun _ _ _ _ r h => by simp [alarm_named.l0] at h
 | k + 1 => by
  have ih0:=alarm_named.mono_l k
  ·intro y0 y1 y2 y3
   unfold alarm_named.l0
   repeat' first|(with_reducible first|exact ih0 _ _ _ _|exact LeO.refl _|exact LeO.none _|refine LeO.ite ?_ ?_|refine LeO.bind ?_ (fun _=>?_))|exact ih0 _ _ _ _|exact LeO.none _|refine LeO.ite ?_ ?_|refine LeO.bind ?_ (fun _=>?_)
theorem alarm_named.mono : ∀ a0 k, LeO (alarm_named.f k a0) (alarm_named.f (k + 1) a0) := by
 intro a0 k
 have ih0:=alarm_named.mono_l k
 unfold alarm_named.f
 repeat' first|(with_reducible first|exact ih0 _ _ _ _|exact LeO.refl _|exact LeO.none _|refine LeO.ite ?_ ?_|refine LeO.bind ?_ (fun _=>?_))|exact ih0 _ _ _ _|exact LeO.none _|refine LeO.ite ?_ ?_|refine LeO.bind ?_ (fun _=>?_)
set_option maxHeartbeats 8000000 in
set_option maxRecDepth 100000 in
theorem alarm_named.calls (k : Nat) (a0 : ByteArray) (r : Bool) (w : World) (h : alarm_named.f k a0 = some r) :
  Calls Try.prog 105 #[.string a0] w fun e w' => e = .returned (.bool r) ∧ Below w.heap.size w w' := by
 have HB:=k0_ (Below.refl w.heap.size w);have H : (if a0.size ≤ 9223372036854775807 then (alarm_named.l0 k a0 (bytesOf a0) ((bytesOf a0).length : Int) 0) else (none)) = some r:=h;clear h
 by_cases c2 : a0.size ≤ 9223372036854775807
 ·rw [if_pos c2] at H
  have c2b0:=eq_true c2;have c2b1:=decide_eq_true c2;(try have c2b2 : (9223372036854775807 < a0.size) = False:=eq_false (Nat.not_lt.2 c2));clear c2;have H':=k0_ H;clear H
  go_enter Try.func105, Try.ntmps105
  go_wp2_with (first|((with_reducible refine gate_dst (N:=6) rfl ?_);(try (refine gate_guard (by rfl) ?_;dsimp only));refine bytes_event ?hg (N:=6) ?hd 9 186 5 (.tmp 5) a0 ?ho ?hx Try.underlying9 Try.underlying186 Try.underlying5 ?hs ?_;(case hd=>rfl);(case hg=>rfl);(case ho=>rfl);(case hx=>rfl);(case hs=>exact of_decide_eq_true as_);intro A101_0 c101_0 hl_ w3 hc_ hb;replace HB:=k0_ (below_step (hb0_ HB.out) hb);have HR101_0:=k0_ (hc_);have HC101_0:=k0_ (hl_);clear hb hc_ hl_))
  (try simp only [Act.put, q1_,q3_,q2_])
  go_loopg [8] k (fun kq v8 w'=>∃ (x8_1 : Int), v8 = .int .i64 x8_1∧Aside0 (alarm_named.l0 kq a0 (bytesOf a0) ((bytesOf a0).length : Int) x8_1 = some r)∧Aside0 (kq ≤ k)∧Aside0 (Kd.C (Kd.int .u8) w' A101_0 (bytesOf a0).length (bytesOf a0))∧Aside0 (Below w.heap.size w w'))
  case atStart=>exact ⟨(0),rs_, H', ⟨Nat.le_refl _⟩,⟨by repeat (first|(with_reducible exact HR101_0.out)|(with_reducible refine Kd.C_alloc ?_ _)|(with_reducible refine Kd.C_drewN ?_ _)|(with_reducible refine Kd.C_drew ?_)|exact HR101_0.out)⟩,⟨hb0_ HB.out⟩⟩
  clear H';(try clear c1);(try clear c2);(try clear c2b0);(try clear c2b1);(try clear c2b2);(try clear p2);obtain ⟨x8_1, rfl, HA, HK1, HR101_0, HB⟩:=hrel;obtain _|k1:=gk
  ·exact absurd HA.out (by simp [alarm_named.l0])
  have H:=HA.out;clear HA;simp only [alarm_named.l0] at H
  by_cases c4 : x8_1 < ((bytesOf a0).length : Int)
  ·rw [if_pos c4] at H
   have c4b0:=decide_eq_true c4;clear c4
   by_cases c5 : 0 ≤ x8_1
   rw [if_pos c5] at H;have c5b0:=decide_eq_true c5;clear c5
   focus
    by_cases c6 : x8_1 < ((bytesOf a0).length : Int)
    rw [if_pos c6] at H;have c6b0:=decide_eq_true c6;clear c6
    focus
     by_cases c7 : (rd (bytesOf a0) x8_1) ≥ 65
     rw [if_pos c7] at H;have c7b0:=decide_eq_true c7;clear c7
     focus
      by_cases c8 : (rd (bytesOf a0) x8_1) ≤ 90
      rw [if_pos c8] at H;have c8b0:=decide_eq_true c8;clear c8;have H':=k0_ H;clear H;rotate_left;rw [if_neg c8] at H;have c8b0:=decide_eq_false c8;clear c8
      focus
       by_cases c9 : x8_1 > 0
       rw [if_pos c9] at H;have c9b0:=decide_eq_true c9;clear c9
       focus
        by_cases c10 : (rd (bytesOf a0) x8_1) ≥ 48
        rw [if_pos c10] at H;have c10b0:=decide_eq_true c10;clear c10
        focus
         by_cases c11 : ((rd (bytesOf a0) x8_1) ≤ 57)
         rw [if_pos c11] at H;have c11b0:=decide_eq_true c11;clear c11;have H':=k0_ H;clear H;rotate_left;rw [if_neg c11] at H;have c11b0:=decide_eq_false c11;clear c11;obtain rfl:=Option.some.inj H;rotate_left
        rotate_left 2;rw [if_neg c10] at H;have c10b0:=decide_eq_false c10;clear c10;obtain rfl:=Option.some.inj H;rotate_left
       rotate_left 3;rw [if_neg c9] at H;have c9b0:=decide_eq_false c9;clear c9;obtain rfl:=Option.some.inj H;rotate_left
      rotate_left 4
     rotate_left 5;rw [if_neg c7] at H;have c7b0:=decide_eq_false c7;clear c7
     focus
      by_cases c12 : x8_1 > 0
      rw [if_pos c12] at H;have c12b0:=decide_eq_true c12;clear c12
      focus
       by_cases c13 : (rd (bytesOf a0) x8_1) ≥ 48
       rw [if_pos c13] at H;have c13b0:=decide_eq_true c13;clear c13
       focus
        by_cases c14 : ((rd (bytesOf a0) x8_1) ≤ 57)
        rw [if_pos c14] at H;have c14b0:=decide_eq_true c14;clear c14;have H':=k0_ H;clear H;rotate_left;rw [if_neg c14] at H;have c14b0:=decide_eq_false c14;clear c14;obtain rfl:=Option.some.inj H;rotate_left
       rotate_left 2;rw [if_neg c13] at H;have c13b0:=decide_eq_false c13;clear c13;obtain rfl:=Option.some.inj H;rotate_left
      rotate_left 3;rw [if_neg c12] at H;have c12b0:=decide_eq_false c12;clear c12;obtain rfl:=Option.some.inj H;rotate_left
     rotate_left 4
    rotate_left 9;rw [if_neg c6] at H
    exact absurd H (by simp)
   rotate_left 9;rw [if_neg c5] at H
   exact absurd H (by simp)
   all_goals
    have p102 : 0 ≤ (x8_1 : Int):=of_decide_eq_true as_;have q102 : x8_1 < ((bytesOf a0).length : Int):=of_decide_eq_true as_;obtain ⟨ad102, e102, hx102_0⟩:=Kd.at_int (by repeat (first|(with_reducible exact HR101_0.out)|(with_reducible refine Kd.C_alloc ?_ _)|(with_reducible refine Kd.C_drewN ?_ _)|(with_reducible refine Kd.C_drew ?_)|exact HR101_0.out)) x8_1 p102 q102;cases e102;replace p102:=eq_true p102;replace q102:=eq_true q102;go_wp2
   ·go_roundg k1
    case measure=>have:=HK1.out;omega
    case rel=>exact ⟨(wrap64 (x8_1 + 1)),rs_, H', ⟨by have:=HK1.out;omega⟩,⟨by repeat (first|(with_reducible exact HR101_0.out)|(with_reducible refine Kd.C_alloc ?_ _)|(with_reducible refine Kd.C_drewN ?_ _)|(with_reducible refine Kd.C_drew ?_)|exact HR101_0.out)⟩,⟨hb0_ HB.out⟩⟩
   ·go_roundg k1
    case measure=>have:=HK1.out;omega
    case rel=>exact ⟨(wrap64 (x8_1 + 1)),rs_, H', ⟨by have:=HK1.out;omega⟩,⟨by repeat (first|(with_reducible exact HR101_0.out)|(with_reducible refine Kd.C_alloc ?_ _)|(with_reducible refine Kd.C_drewN ?_ _)|(with_reducible refine Kd.C_drew ?_)|exact HR101_0.out)⟩,⟨hb0_ HB.out⟩⟩
   ·go_ret
    exact ⟨er_, hb0_ HB.out⟩
   ·go_ret
    exact ⟨er_, hb0_ HB.out⟩
   ·go_ret
    exact ⟨er_, hb0_ HB.out⟩
   ·go_roundg k1
    case measure=>have:=HK1.out;omega
    case rel=>exact ⟨(wrap64 (x8_1 + 1)),rs_, H', ⟨by have:=HK1.out;omega⟩,⟨by repeat (first|(with_reducible exact HR101_0.out)|(with_reducible refine Kd.C_alloc ?_ _)|(with_reducible refine Kd.C_drewN ?_ _)|(with_reducible refine Kd.C_drew ?_)|exact HR101_0.out)⟩,⟨hb0_ HB.out⟩⟩
   ·go_ret
    exact ⟨er_, hb0_ HB.out⟩
   ·go_ret
    exact ⟨er_, hb0_ HB.out⟩
   ·go_ret
    exact ⟨er_, hb0_ HB.out⟩
  ·rw [if_neg c4] at H
   have c4b0:=decide_eq_false c4;clear c4
   by_cases c15 : a0.toList = ([] : List UInt8)
   ·rw [if_pos c15] at H
    have c15b0:=beq_iff_eq.mpr c15;have c15b1:=bne_eq_false_iff_eq.mpr c15;clear c15;obtain rfl:=Option.some.inj H;go_wp2
    go_ret
    exact ⟨er_, hb0_ HB.out⟩
   ·rw [if_neg c15] at H
    have c15b0:=beq_eq_false_iff_ne.mpr c15;have c15b1:=bne_iff_ne.mpr c15;obtain rfl:=Option.some.inj H;go_wp2
    go_ret
    exact ⟨er_, hb0_ HB.out⟩
 ·rw [if_neg c2] at H
  exact absurd H (by simp)

/-! ### api_AlarmCause_118: function 118 -/
def api_AlarmCause_118.l0 : Nat → List (S81) → Int → Int → ByteArray → ByteArray → Option (Int)
 | 0, _, _, _, _, _ => none
 | k + 1, x0, x7, x8, x104000, x104001 => if x8 < x7 then (if 0 ≤ x8 then (if x8 < (x0.length : Int) then (if (x104000.toList == (((rd_T81 x0 x8).f0).toList) && (x104001.toList == (((rd_T81 x0 x8).f1).toList))) = true then (some x8) else (api_AlarmCause_118.l0 k x0 x7 (wrap64 (x8 + 1)) x104000 x104001)) else (none)) else (none)) else (some (-1))
def api_AlarmCause_118.f (k : Nat) (l0 : List (S81)) (a1_0 : ByteArray) (a1_1 : ByteArray) : Option (Int) := api_AlarmCause_118.l0 k l0 (l0.length : Int) 0 a1_0 a1_1
theorem api_AlarmCause_118.mono_l : ∀ k, (∀ y0 y1 y2 y3 y4, LeO (api_AlarmCause_118.l0 k y0 y1 y2 y3 y4) (api_AlarmCause_118.l0 (k + 1) y0 y1 y2 y3 y4))
 | 0 => fun _ _ _ _ _ r h => by simp [api_AlarmCause_118.l0] at h
 | k + 1 => by
  have ih0:=api_AlarmCause_118.mono_l k
  ·intro y0 y1 y2 y3 y4
   unfold api_AlarmCause_118.l0
   repeat' first|(with_reducible first|exact ih0 _ _ _ _ _|exact LeO.refl _|exact LeO.none _|refine LeO.ite ?_ ?_|refine LeO.bind ?_ (fun _=>?_))|exact ih0 _ _ _ _ _|exact LeO.none _|refine LeO.ite ?_ ?_|refine LeO.bind ?_ (fun _=>?_)
theorem api_AlarmCause_118.mono : ∀ a0 a1 a2 k, LeO (api_AlarmCause_118.f k a0 a1 a2) (api_AlarmCause_118.f (k + 1) a0 a1 a2) := by
 intro a0 a1 a2 k
 have ih0:=api_AlarmCause_118.mono_l k
 unfold api_AlarmCause_118.f
 repeat' first|(with_reducible first|exact ih0 _ _ _ _ _|exact LeO.refl _|exact LeO.none _|refine LeO.ite ?_ ?_|refine LeO.bind ?_ (fun _=>?_))|exact ih0 _ _ _ _ _|exact LeO.none _|refine LeO.ite ?_ ?_|refine LeO.bind ?_ (fun _=>?_)
set_option maxHeartbeats 8000000 in
set_option maxRecDepth 100000 in
theorem api_AlarmCause_118.calls (k : Nat) (A0 : Option Addr) (c0 : Nat) (l0 : List (S81)) (a1_0 : ByteArray) (a1_1 : ByteArray) (r : Int) (w : World) (hr0 : Kd.C k81 w A0 l0.length l0) (hc0 : l0.length ≤ c0) (h : api_AlarmCause_118.f k l0 a1_0 a1_1 = some r) :
  Calls Try.prog 118 #[.slice A0 l0.length c0, .agg #[.string a1_0, .string a1_1]] w fun e w' => e = .returned (.int .i64 r) ∧ Below w.heap.size w w' := by
 have hu81:=Try.underlying81;have HR0:=k0_ hr0;have HC0:=k0_ hc0;clear hr0 hc0;have HB:=k0_ (Below.refl w.heap.size w);have H : (api_AlarmCause_118.l0 k l0 (l0.length : Int) 0 a1_0 a1_1) = some r:=h;clear h;have H':=k0_ H;clear H
 go_enter Try.func118, Try.ntmps118
 go_wp2_with (first|((with_reducible refine gate_dst (N:=3) rfl ?_);refine box_event ?hg (N:=3) ?hd (cs:=#[.string a1_0, .string a1_1]) (t:=81) ?hr ?_;(case hd=>rfl);(case hg=>rfl);(case hr=>first|(go_simp;done)|(go_simp;rfl));intro gb103 hg w3 hbox hb;have BK103:=k0_ (hbox);have GW103:=k0_ ((by rw [hg];exact (below_size (hb0_ HB.out)) : w.heap.size ≤ gb103));have GE103:=k0_ ((by rw [hg];exact (below_size (hb0_ HB.out)) : w.heap.size ≤ gb103));replace HB:=k0_ (below_step (hb0_ HB.out) hb);clear hb hbox hg))
 repeat (go_quiet (first|((with_reducible refine gate_dst (N:=3) rfl ?_);refine box_event ?hg (N:=3) ?hd (cs:=#[.string a1_0, .string a1_1]) (t:=81) ?hr ?_;(case hd=>rfl);(case hg=>rfl);(case hr=>first|(go_simp;done)|(go_simp;rfl));intro gb103 hg w3 hbox hb;have BK103:=k0_ (hbox);have GW103:=k0_ ((by rw [hg];exact (below_size (hb0_ HB.out)) : w.heap.size ≤ gb103));have GE103:=k0_ ((by rw [hg];exact (below_size (hb0_ HB.out)) : w.heap.size ≤ gb103));replace HB:=k0_ (below_step (hb0_ HB.out) hb);clear hb hbox hg));try go_wp2_with (first|((with_reducible refine gate_dst (N:=3) rfl ?_);refine box_event ?hg (N:=3) ?hd (cs:=#[.string a1_0, .string a1_1]) (t:=81) ?hr ?_;(case hd=>rfl);(case hg=>rfl);(case hr=>first|(go_simp;done)|(go_simp;rfl));intro gb103 hg w3 hbox hb;have BK103:=k0_ (hbox);have GW103:=k0_ ((by rw [hg];exact (below_size (hb0_ HB.out)) : w.heap.size ≤ gb103));have GE103:=k0_ ((by rw [hg];exact (below_size (hb0_ HB.out)) : w.heap.size ≤ gb103));replace HB:=k0_ (below_step (hb0_ HB.out) hb);clear hb hbox hg)))
 (try simp only [Act.put, q1_,q3_,q2_])
 go_loopg [8] k (fun kq v8 w'=>∃ (x8_1 : Int), v8 = .int .i64 x8_1∧Aside0 (api_AlarmCause_118.l0 kq l0 (l0.length : Int) x8_1 a1_0 a1_1 = some r)∧Aside0 (kq ≤ k)∧Aside0 (w'.heap[gb103]? = some (.cells #[.string a1_0, .string a1_1] 81 (0, 0)))∧Aside0 (Below w.heap.size w w'))
 case atStart=>exact ⟨(0),rs_, H', ⟨Nat.le_refl _⟩,⟨bq_ BK103.out⟩,⟨hb1_ HB.out GE103.out⟩⟩
 clear H';(try clear c1);(try clear p2);obtain ⟨x8_1, rfl, HA, HK1, BK103, HB⟩:=hrel;obtain _|k1:=gk
 ·exact absurd HA.out (by simp [api_AlarmCause_118.l0])
 have H:=HA.out;clear HA;simp only [api_AlarmCause_118.l0] at H
 by_cases c4 : x8_1 < (l0.length : Int)
 ·rw [if_pos c4] at H
  have c4b0:=decide_eq_true c4;clear c4
  by_cases c5 : 0 ≤ x8_1
  rw [if_pos c5] at H;have c5b0:=decide_eq_true c5;clear c5
  focus
   by_cases c6 : x8_1 < (l0.length : Int)
   rw [if_pos c6] at H;have c6b0:=decide_eq_true c6;clear c6
   focus
    by_cases c7 : (a1_0.toList == (((rd_T81 l0 x8_1).f0).toList) && (a1_1.toList == (((rd_T81 l0 x8_1).f1).toList))) = true
    rw [if_pos c7] at H;have c7b0 : (a1_0.toList == (((rd_T81 l0 x8_1).f0).toList) && (a1_1.toList == (((rd_T81 l0 x8_1).f1).toList))) = true:=c7;(try (have c7b1 : decide (a1_0.toList = (((rd_T81 l0 x8_1).f0).toList) && (a1_1.toList == (((rd_T81 l0 x8_1).f1).toList))) = true:=by simpa using c7));(try (have c7b2 : (a1_0.toList == (((rd_T81 l0 x8_1).f0).toList) && (a1_1.toList == (((rd_T81 l0 x8_1).f1).toList))) = true:=by simpa using c7));clear c7;obtain rfl:=Option.some.inj H;rotate_left;rw [if_neg c7] at H;have c7b0 : (a1_0.toList == (((rd_T81 l0 x8_1).f0).toList) && (a1_1.toList == (((rd_T81 l0 x8_1).f1).toList))) = false:=by simpa using c7
    (try (have c7b1 : decide (a1_0.toList = (((rd_T81 l0 x8_1).f0).toList) && (a1_1.toList == (((rd_T81 l0 x8_1).f1).toList))) = false:=by simpa using c7));(try (have c7b2 : (a1_0.toList == (((rd_T81 l0 x8_1).f0).toList) && (a1_1.toList == (((rd_T81 l0 x8_1).f1).toList))) = false:=by simpa using c7));(try (have c7b3 : ¬ (a1_0.toList = (((rd_T81 l0 x8_1).f0).toList) && (a1_1.toList == (((rd_T81 l0 x8_1).f1).toList))):=by simpa using c7));clear c7;have H':=k0_ H;clear H;rotate_left
   rotate_left 2;rw [if_neg c6] at H
   exact absurd H (by simp)
  rotate_left 2;rw [if_neg c5] at H
  exact absurd H (by simp)
  all_goals
   obtain ⟨hcz8_0,hcz8_1⟩:=bc2_ BK103.out;obtain ⟨hfz8_0,hfz8_1⟩:=bf2_ BK103.out;have p104 : 0 ≤ (x8_1 : Int):=of_decide_eq_true as_;have q104 : x8_1 < (l0.length : Int):=of_decide_eq_true as_;obtain ⟨ad104, e104, hx104_0, hx104_1⟩:=at_T81 HR0.out x8_1 p104 q104;cases e104;replace hx104_0:=bt_ HB.out hx104_0;replace hx104_1:=bt_ HB.out hx104_1;replace p104:=eq_true p104;replace q104:=eq_true q104;go_wp2
   repeat (go_quiet (fail);try go_wp2)
  ·go_ret
   exact ⟨er_, hb1_ HB.out GE103.out⟩
  ·go_roundg k1
   case measure=>have:=HK1.out;omega
   case rel=>exact ⟨(wrap64 (x8_1 + 1)),rs_, H', ⟨by have:=HK1.out;omega⟩,⟨bq_ BK103.out⟩,⟨hb1_ HB.out GE103.out⟩⟩
 ·rw [if_neg c4] at H
  have c4b0:=decide_eq_false c4;clear c4;obtain rfl:=Option.some.inj H;go_wp2
  repeat (go_quiet (fail);try go_wp2)
  go_ret
  exact ⟨er_, hb1_ HB.out GE103.out⟩

/-! ### api_AlarmCause_106: function 106 -/
def api_AlarmCause_106.f (k : Nat) (l0 : List (S81)) (a1_0 : ByteArray) (a1_1 : ByteArray) : Option (Bool) := (api_AlarmCause_118.f k l0 a1_0 a1_1).bind fun t106 => (some (decide (t106 ≥ 0)))
theorem api_AlarmCause_106.mono : ∀ a0 a1 a2 k, LeO (api_AlarmCause_106.f k a0 a1 a2) (api_AlarmCause_106.f (k + 1) a0 a1 a2) := by
 intro a0 a1 a2 k
 unfold api_AlarmCause_106.f
 repeat' first|(with_reducible first|exact api_AlarmCause_118.mono _ _ _ _|exact LeO.refl _|exact LeO.none _|refine LeO.ite ?_ ?_|refine LeO.bind ?_ (fun _=>?_))|exact api_AlarmCause_118.mono _ _ _ _|exact LeO.none _|refine LeO.ite ?_ ?_|refine LeO.bind ?_ (fun _=>?_)
set_option maxHeartbeats 8000000 in
set_option maxRecDepth 100000 in
theorem api_AlarmCause_106.calls (k : Nat) (A0 : Option Addr) (c0 : Nat) (l0 : List (S81)) (a1_0 : ByteArray) (a1_1 : ByteArray) (r : Bool) (w : World) (hr0 : Kd.C k81 w A0 l0.length l0) (hc0 : l0.length ≤ c0) (h : api_AlarmCause_106.f k l0 a1_0 a1_1 = some r) :
  Calls Try.prog 106 #[.slice A0 l0.length c0, .agg #[.string a1_0, .string a1_1]] w fun e w' => e = .returned (.bool r) ∧ Below w.heap.size w w' := by
 have hu81:=Try.underlying81;have HR0:=k0_ hr0;have HC0:=k0_ hc0;clear hr0 hc0;have HB:=k0_ (Below.refl w.heap.size w);have H : ((api_AlarmCause_118.f k l0 a1_0 a1_1).bind fun t106=>(some (decide (t106 ≥ 0)))) = some r:=h;clear h;replace H:=Option.bind_eq_some_iff.mp H;obtain ⟨t106, A30, H⟩:=H;replace H : (some (decide (t106 ≥ 0))) = some r:=H;have A3:=k0_ A30;clear A30;obtain rfl:=Option.some.inj H
 go_enter Try.func106, Try.ntmps106
 go_wp2_with (first|((with_reducible refine gate_dst (N:=3) rfl ?_);refine box_event ?hg (N:=3) ?hd (cs:=#[.string a1_0, .string a1_1]) (t:=81) ?hr ?_;(case hd=>rfl);(case hg=>rfl);(case hr=>first|(go_simp;done)|(go_simp;rfl));intro gb105 hg w4 hbox hb;have BK105:=k0_ (hbox);have GW105:=k0_ ((by rw [hg];exact (below_size (hb0_ HB.out)) : w.heap.size ≤ gb105));have GE105:=k0_ ((by rw [hg];exact (below_size (hb0_ HB.out)) : w.heap.size ≤ gb105));replace HB:=k0_ (below_step (hb0_ HB.out) hb);clear hb hbox hg;obtain ⟨hcz5_0,hcz5_1⟩:=bc2_ BK105.out;obtain ⟨hfz5_0,hfz5_1⟩:=bf2_ BK105.out)|((with_reducible refine gate_callee (f:=118) rfl ?_);refine goesL_ (some 7) rfl rfl Try.func118 (by kernel_rfl) rfl #[.slice A0 l0.length c0, .agg #[.string a1_0, .string a1_1]] rfl mt_ ?_;(with_reducible refine (api_AlarmCause_118.calls k _ _ l0 a1_0 a1_1 t106 _ ?side1 ?side2 A3.out).mono ?_);(case side1=>repeat (first|exact (Kd.C_below HR0.out HB.out)|(with_reducible refine Kd.C_alloc ?_ _)|(with_reducible refine Kd.C_drewN ?_ _)|(with_reducible refine Kd.C_drew ?_)));(case side2=>exact HC0.out);rintro e w6 ⟨rfl, hb⟩;refine ⟨_, rfl, ?_⟩;replace BK105:=k0_ (blk_below (g:=gb105) (o:=.cells #[.string a1_0, .string a1_1] 81 (0, 0)) (bq_ BK105.out) hb);replace HB:=k0_ (below_step (hb1_ HB.out GE105.out) hb);(try clear hb);(try clear hb2);(try clear hk);(try clear hi)))
 go_ret
 exact ⟨er_, hb1_ HB.out GE105.out⟩

end Go.Proofs.Ytefkdkppipdceaa.PAlarmSays
