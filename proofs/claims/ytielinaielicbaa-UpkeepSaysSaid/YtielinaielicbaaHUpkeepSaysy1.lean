/- Contracts of functions that UpkeepSays reaches, a text of this session's own. -/
import Derived.Test.YtielinaielicbaaHUpkeepSaysy0
namespace Go.Proofs.Ytielinaielicbaa.PUpkeepSays
open Go.RowKit Go.Proofs.YtielinaielicbaaW.PrintWords Go.Proofs.YtielinaielicbaaW.PrintLast Go.Proofs.YtielinaielicbaaW.PrintMore
attribute [local go_sem] max2_int min2_int max_two min_two max_three min_three max_four min_four   -- for this text's walks alone
set_option linter.unusedVariables false
set_option linter.unusedSimpArgs false

/-! ### upkeep_named: function 62 -/
def upkeep_named.l0 : Nat → ByteArray → List Int → Int → Int → Option (Bool)
 | 0, _, _, _, _ => none
 | k + 1, x0, x6, x7, x8 => if x8 < x7 then (if 0 ≤ x8 then (if x8 < (x6.length : Int) then (if (rd x6 x8) ≥ 65 then (if (rd x6 x8) ≤ 90 then (upkeep_named.l0 k x0 x6 x7 (wrap64 (x8 + 1))) else (if x8 > 0 then (if (rd x6 x8) ≥ 48 then (if ((rd x6 x8) ≤ 57) then (upkeep_named.l0 k x0 x6 x7 (wrap64 (x8 + 1))) else (some false)) else (some false)) else (some false))) else (if x8 > 0 then (if (rd x6 x8) ≥ 48 then (if ((rd x6 x8) ≤ 57) then (upkeep_named.l0 k x0 x6 x7 (wrap64 (x8 + 1))) else (some false)) else (some false)) else (some false))) else (none)) else (none)) else (if x0.toList = ([] : List UInt8) then (some false) else (some (decide ((x0.size : Int) ≤ 8))))
def upkeep_named.f (k : Nat) (a0 : ByteArray) : Option (Bool) := if a0.size ≤ 9223372036854775807 then (upkeep_named.l0 k a0 (bytesOf a0) ((bytesOf a0).length : Int) 0) else (none)
theorem upkeep_named.mono_l : ∀ k, (∀ y0 y1 y2 y3, LeO (upkeep_named.l0 k y0 y1 y2 y3) (upkeep_named.l0 (k + 1) y0 y1 y2 y3))
 | 0 => fun _ _ _ _ r h => by simp [upkeep_named.l0] at h
 | k + 1 => by
  have ih0:=upkeep_named.mono_l k
  ·intro y0 y1 y2 y3
   unfold upkeep_named.l0
   repeat' first
   | (with_reducible exact ih0 _ _ _ _)
   | (with_reducible exact LeO.refl _)
   | (with_reducible exact LeO.none _)
   | (with_reducible refine LeO.ite ?_ ?_)
   | (with_reducible refine LeO.bind ?_ (fun _ => ?_))
   | exact ih0 _ _ _ _
   | exact LeO.none _
   | refine LeO.ite ?_ ?_
   | refine LeO.bind ?_ (fun _ => ?_)
theorem upkeep_named.mono : ∀ a0 k, LeO (upkeep_named.f k a0) (upkeep_named.f (k + 1) a0) := by
 intro a0 k
 have ih0:=upkeep_named.mono_l k
 unfold upkeep_named.f
 repeat' first
   | (with_reducible exact ih0 _ _ _ _)
   | (with_reducible exact LeO.refl _)
   | (with_reducible exact LeO.none _)
   | (with_reducible refine LeO.ite ?_ ?_)
   | (with_reducible refine LeO.bind ?_ (fun _ => ?_))
   | exact ih0 _ _ _ _
   | exact LeO.none _
   | refine LeO.ite ?_ ?_
   | refine LeO.bind ?_ (fun _ => ?_)
set_option maxHeartbeats 8000000 in
set_option maxRecDepth 100000 in
theorem upkeep_named.calls (k : Nat) (a0 : ByteArray) (r : Bool) (w : World) (h : upkeep_named.f k a0 = some r) :
  Calls Try.prog 62 #[.string a0] w fun e w' => e = .returned (.bool r) ∧ Below w.heap.size w w' := by
 have HB:=k0_ (Below.refl w.heap.size w);have H : (if a0.size ≤ 9223372036854775807 then (upkeep_named.l0 k a0 (bytesOf a0) ((bytesOf a0).length : Int) 0) else (none)) = some r:=h;clear h
 by_cases c2 : a0.size ≤ 9223372036854775807
 ·rw [if_pos c2] at H
  have c2b0:=eq_true c2;have c2b1 : decide (a0.size ≤ 9223372036854775807) = true:=decide_eq_true c2;(try have c2b2 : (9223372036854775807 < a0.size) = False:=eq_false (Nat.not_lt.2 c2));clear c2;have H':=k0_ H;clear H
  go_enter Try.func62, Try.ntmps62
  go_wp2_with (first|((with_reducible refine gate_dst (N:=6) rfl ?_);(try (refine gate_guard (by rfl) ?_;dsimp only));refine bytes_event ?hg (N:=6) ?hd 9 142 5 (.tmp 5) a0 ?ho ?hx Try.underlying9 Try.underlying142 Try.underlying5 ?hs ?_;(case hd=>rfl);(case hg=>rfl);(case ho=>rfl);(case hx=>rfl);(case hs=>exact of_decide_eq_true (by first|(with_reducible assumption)|assumption));intro A101_0 c101_0 hl_ w3 hc_ hb;have n0_:=k0_ (below_step (by repeat (first|(with_reducible first|exact HB.out|apply below_alloc|apply pw_below_drewN|apply below_drew1)|exact HB.out)) hb);have n1_:=k0_ (hc_);have n2_:=k0_ (hl_);clear HB;have HB:=n0_;have HR101_0:=n1_;have HC101_0:=n2_;clear n0_ n1_ n2_;clear hb hc_ hl_))
  (try simp only [Act.put, q1_,q3_,q2_])
  go_loopg [8] k (fun kq v8 w'=>∃ (x8_1 : Int), v8 = .int .i64 x8_1∧Aside0 (upkeep_named.l0 kq a0 (bytesOf a0) ((bytesOf a0).length : Int) x8_1 = some r)∧Aside0 (kq ≤ k)∧Aside0 (Kd.C (Kd.int .u8) w' A101_0 (bytesOf a0).length (bytesOf a0))∧Aside0 (Below w.heap.size w w'))
  case atStart=>exact ⟨(0),(by first|rfl|(simp;done)|(simp [*];done)), H', ⟨Nat.le_refl _⟩,⟨by repeat (first|(with_reducible exact HR101_0.out)|(with_reducible refine Kd.C_alloc ?_ _)|(with_reducible refine Kd.C_drewN ?_ _)|(with_reducible refine Kd.C_drew ?_)|exact HR101_0.out)⟩,⟨by repeat (first|(with_reducible first|exact HB.out|apply below_alloc|apply pw_below_drewN|apply below_drew1)|exact HB.out)⟩⟩
  clear H';(try clear c1);(try clear c2);(try clear c2b0);(try clear c2b1);(try clear c2b2);(try clear p2);obtain ⟨x8_1, rfl, HA, HK1, HR101_0, HB⟩:=hrel;obtain _|k1:=gk
  ·exact absurd HA.out (by simp [upkeep_named.l0])
  have H:=HA.out;clear HA;simp only [upkeep_named.l0] at H
  by_cases c4 : x8_1 < ((bytesOf a0).length : Int)
  ·rw [if_pos c4] at H
   have c4b0 : decide (x8_1 < ((bytesOf a0).length : Int)) = true:=decide_eq_true c4;clear c4
   by_cases c5 : 0 ≤ x8_1
   rw [if_pos c5] at H;have c5b0 : decide (0 ≤ x8_1) = true:=decide_eq_true c5;clear c5
   focus
    by_cases c6 : x8_1 < ((bytesOf a0).length : Int)
    rw [if_pos c6] at H;have c6b0 : decide (x8_1 < ((bytesOf a0).length : Int)) = true:=decide_eq_true c6;clear c6
    focus
     by_cases c7 : (rd (bytesOf a0) x8_1) ≥ 65
     rw [if_pos c7] at H;have c7b0 : decide (65 ≤ (rd (bytesOf a0) x8_1)) = true:=decide_eq_true c7;clear c7
     focus
      by_cases c8 : (rd (bytesOf a0) x8_1) ≤ 90
      rw [if_pos c8] at H;have c8b0 : decide ((rd (bytesOf a0) x8_1) ≤ 90) = true:=decide_eq_true c8;clear c8;have H':=k0_ H;clear H;rotate_left;rw [if_neg c8] at H;have c8b0 : decide ((rd (bytesOf a0) x8_1) ≤ 90) = false:=decide_eq_false c8;clear c8
      focus
       by_cases c9 : x8_1 > 0
       rw [if_pos c9] at H;have c9b0 : decide (0 < x8_1) = true:=decide_eq_true c9;clear c9
       focus
        by_cases c10 : (rd (bytesOf a0) x8_1) ≥ 48
        rw [if_pos c10] at H;have c10b0 : decide (48 ≤ (rd (bytesOf a0) x8_1)) = true:=decide_eq_true c10;clear c10
        focus
         by_cases c11 : ((rd (bytesOf a0) x8_1) ≤ 57)
         rw [if_pos c11] at H;have c11b0 : decide ((rd (bytesOf a0) x8_1) ≤ 57) = true:=decide_eq_true c11;clear c11;have H':=k0_ H;clear H;rotate_left;rw [if_neg c11] at H;have c11b0 : decide ((rd (bytesOf a0) x8_1) ≤ 57) = false:=decide_eq_false c11;clear c11;obtain rfl:=Option.some.inj H;rotate_left
        rotate_left 2;rw [if_neg c10] at H;have c10b0 : decide (48 ≤ (rd (bytesOf a0) x8_1)) = false:=decide_eq_false c10;clear c10;obtain rfl:=Option.some.inj H;rotate_left
       rotate_left 3;rw [if_neg c9] at H;have c9b0 : decide (0 < x8_1) = false:=decide_eq_false c9;clear c9;obtain rfl:=Option.some.inj H;rotate_left
      rotate_left 4
     rotate_left 5;rw [if_neg c7] at H;have c7b0 : decide (65 ≤ (rd (bytesOf a0) x8_1)) = false:=decide_eq_false c7;clear c7
     focus
      by_cases c12 : x8_1 > 0
      rw [if_pos c12] at H;have c12b0 : decide (0 < x8_1) = true:=decide_eq_true c12;clear c12
      focus
       by_cases c13 : (rd (bytesOf a0) x8_1) ≥ 48
       rw [if_pos c13] at H;have c13b0 : decide (48 ≤ (rd (bytesOf a0) x8_1)) = true:=decide_eq_true c13;clear c13
       focus
        by_cases c14 : ((rd (bytesOf a0) x8_1) ≤ 57)
        rw [if_pos c14] at H;have c14b0 : decide ((rd (bytesOf a0) x8_1) ≤ 57) = true:=decide_eq_true c14;clear c14;have H':=k0_ H;clear H;rotate_left;rw [if_neg c14] at H;have c14b0 : decide ((rd (bytesOf a0) x8_1) ≤ 57) = false:=decide_eq_false c14;clear c14;obtain rfl:=Option.some.inj H;rotate_left
       rotate_left 2;rw [if_neg c13] at H;have c13b0 : decide (48 ≤ (rd (bytesOf a0) x8_1)) = false:=decide_eq_false c13;clear c13;obtain rfl:=Option.some.inj H;rotate_left
      rotate_left 3;rw [if_neg c12] at H;have c12b0 : decide (0 < x8_1) = false:=decide_eq_false c12;clear c12;obtain rfl:=Option.some.inj H;rotate_left
     rotate_left 4
    rotate_left 9;rw [if_neg c6] at H
    exact absurd H (by simp)
   rotate_left 9;rw [if_neg c5] at H
   exact absurd H (by simp)
   all_goals
    have p102 : 0 ≤ (x8_1 : Int):=of_decide_eq_true (by first|(with_reducible assumption)|assumption);have q102 : x8_1 < ((bytesOf a0).length : Int):=of_decide_eq_true (by first|(with_reducible assumption)|assumption);obtain ⟨ad102, e102, hx102_0⟩:=Kd.at_int (by repeat (first|(with_reducible exact HR101_0.out)|(with_reducible refine Kd.C_alloc ?_ _)|(with_reducible refine Kd.C_drewN ?_ _)|(with_reducible refine Kd.C_drew ?_)|exact HR101_0.out)) x8_1 p102 q102;cases e102;replace p102:=eq_true p102;replace q102:=eq_true q102;go_wp2
   ·go_roundg k1
    case measure=>have:=HK1.out;omega
    case rel=>exact ⟨(wrap64 (x8_1 + 1)),(by first|rfl|(simp;done)|(simp [*];done)), H', ⟨by have:=HK1.out;omega⟩,⟨by repeat (first|(with_reducible exact HR101_0.out)|(with_reducible refine Kd.C_alloc ?_ _)|(with_reducible refine Kd.C_drewN ?_ _)|(with_reducible refine Kd.C_drew ?_)|exact HR101_0.out)⟩,⟨by repeat (first|(with_reducible first|exact HB.out|apply below_alloc|apply pw_below_drewN|apply below_drew1)|exact HB.out)⟩⟩
   ·go_roundg k1
    case measure=>have:=HK1.out;omega
    case rel=>exact ⟨(wrap64 (x8_1 + 1)),(by first|rfl|(simp;done)|(simp [*];done)), H', ⟨by have:=HK1.out;omega⟩,⟨by repeat (first|(with_reducible exact HR101_0.out)|(with_reducible refine Kd.C_alloc ?_ _)|(with_reducible refine Kd.C_drewN ?_ _)|(with_reducible refine Kd.C_drew ?_)|exact HR101_0.out)⟩,⟨by repeat (first|(with_reducible first|exact HB.out|apply below_alloc|apply pw_below_drewN|apply below_drew1)|exact HB.out)⟩⟩
   ·go_ret
    exact ⟨by first|rfl|(simp [errW_none, errW_some] <;> rfl)|(simp [*, errW_none, errW_some] <;> rfl), by repeat (first|(with_reducible first|exact HB.out|apply below_alloc|apply pw_below_drewN|apply below_drew1)|exact HB.out)⟩
   ·go_ret
    exact ⟨by first|rfl|(simp [errW_none, errW_some] <;> rfl)|(simp [*, errW_none, errW_some] <;> rfl), by repeat (first|(with_reducible first|exact HB.out|apply below_alloc|apply pw_below_drewN|apply below_drew1)|exact HB.out)⟩
   ·go_ret
    exact ⟨by first|rfl|(simp [errW_none, errW_some] <;> rfl)|(simp [*, errW_none, errW_some] <;> rfl), by repeat (first|(with_reducible first|exact HB.out|apply below_alloc|apply pw_below_drewN|apply below_drew1)|exact HB.out)⟩
   ·go_roundg k1
    case measure=>have:=HK1.out;omega
    case rel=>exact ⟨(wrap64 (x8_1 + 1)),(by first|rfl|(simp;done)|(simp [*];done)), H', ⟨by have:=HK1.out;omega⟩,⟨by repeat (first|(with_reducible exact HR101_0.out)|(with_reducible refine Kd.C_alloc ?_ _)|(with_reducible refine Kd.C_drewN ?_ _)|(with_reducible refine Kd.C_drew ?_)|exact HR101_0.out)⟩,⟨by repeat (first|(with_reducible first|exact HB.out|apply below_alloc|apply pw_below_drewN|apply below_drew1)|exact HB.out)⟩⟩
   ·go_ret
    exact ⟨by first|rfl|(simp [errW_none, errW_some] <;> rfl)|(simp [*, errW_none, errW_some] <;> rfl), by repeat (first|(with_reducible first|exact HB.out|apply below_alloc|apply pw_below_drewN|apply below_drew1)|exact HB.out)⟩
   ·go_ret
    exact ⟨by first|rfl|(simp [errW_none, errW_some] <;> rfl)|(simp [*, errW_none, errW_some] <;> rfl), by repeat (first|(with_reducible first|exact HB.out|apply below_alloc|apply pw_below_drewN|apply below_drew1)|exact HB.out)⟩
   ·go_ret
    exact ⟨by first|rfl|(simp [errW_none, errW_some] <;> rfl)|(simp [*, errW_none, errW_some] <;> rfl), by repeat (first|(with_reducible first|exact HB.out|apply below_alloc|apply pw_below_drewN|apply below_drew1)|exact HB.out)⟩
  ·rw [if_neg c4] at H
   have c4b0 : decide (x8_1 < ((bytesOf a0).length : Int)) = false:=decide_eq_false c4;clear c4
   by_cases c15 : a0.toList = ([] : List UInt8)
   ·rw [if_pos c15] at H
    have c15b0 : (a0.toList == ([] : List UInt8)) = true:=beq_iff_eq.mpr c15;have c15b1 : (a0.toList != ([] : List UInt8)) = false:=bne_eq_false_iff_eq.mpr c15;clear c15;obtain rfl:=Option.some.inj H;go_wp2
    go_ret
    exact ⟨by first|rfl|(simp [errW_none, errW_some] <;> rfl)|(simp [*, errW_none, errW_some] <;> rfl), by repeat (first|(with_reducible first|exact HB.out|apply below_alloc|apply pw_below_drewN|apply below_drew1)|exact HB.out)⟩
   ·rw [if_neg c15] at H
    have c15b0 : (a0.toList == ([] : List UInt8)) = false:=beq_eq_false_iff_ne.mpr c15;have c15b1 : (a0.toList != ([] : List UInt8)) = true:=bne_iff_ne.mpr c15;obtain rfl:=Option.some.inj H;go_wp2
    go_ret
    exact ⟨by first|rfl|(simp [errW_none, errW_some] <;> rfl)|(simp [*, errW_none, errW_some] <;> rfl), by repeat (first|(with_reducible first|exact HB.out|apply below_alloc|apply pw_below_drewN|apply below_drew1)|exact HB.out)⟩
 ·rw [if_neg c2] at H
  exact absurd H (by simp)

-- NOT PRINTED: function 90 (api_UpkeepJob_90)

-- NOT PRINTED: function 63 (api_UpkeepJob_63)

/-! ### upkeep_Check_1: function 64 -/
def upkeep_Check_1.f (a0_0 : ByteArray) (a0_1 : Int) (a0_2 : Int) (a0_3 : Int) (a0_4 : Int) (l1 : List (S28)) : Option (Bool) := if 0 < (l1.length : Int) then (some (a0_0.toList == ((rd_T28 l1 0).f0).toList)) else (none)
set_option maxHeartbeats 8000000 in
set_option maxRecDepth 100000 in
theorem upkeep_Check_1.calls (a0_0 : ByteArray) (a0_1 : Int) (a0_2 : Int) (a0_3 : Int) (a0_4 : Int) (A1 : Option Addr) (l1 : List (S28)) (r : Bool) (w : World) (hr1 : Kd.C k28 w A1 l1.length l1) (h : upkeep_Check_1.f a0_0 a0_1 a0_2 a0_3 a0_4 l1 = some r) :
  Calls Try.prog 64 #[.agg #[.string a0_0, .int .i64 a0_1, .int .i64 a0_2, .int .i64 a0_3, .int .i64 a0_4], .pointer A1] w fun e w' => e = .returned (.bool r) ∧ Below w.heap.size w w' := by
 have hu28:=Try.underlying28;have HR1:=k0_ hr1;clear hr1;have HB:=k0_ (Below.refl w.heap.size w);have H : (if 0 < (l1.length : Int) then (some (a0_0.toList == ((rd_T28 l1 0).f0).toList)) else (none)) = some r:=h;clear h
 by_cases c3 : 0 < (l1.length : Int)
 ·rw [if_pos c3] at H
  have c3b0 : decide (0 < (l1.length : Int)) = true:=decide_eq_true c3;have c3b1 : decide (0 < l1.length) = true:=decide_eq_true (by omega);clear c3;obtain rfl:=Option.some.inj H
  go_enter Try.func64, Try.ntmps64
  go_wp2_with (first|((with_reducible refine gate_dst (N:=2) rfl ?_);refine box_event ?hg (N:=2) ?hd (cs:=#[.string a0_0, .int .i64 a0_1, .int .i64 a0_2, .int .i64 a0_3, .int .i64 a0_4]) (t:=28) ?hr ?_;(case hd=>rfl);(case hg=>rfl);(case hr=>first|(go_simp;done)|(go_simp;rfl));intro gb103 hg w4 hbox hb;have n0_:=k0_ (below_step (by repeat (first|(with_reducible first|exact HB.out|apply below_alloc|apply pw_below_drewN|apply below_drew1)|exact HB.out)) hb);have n1_:=k0_ (hbox);have n2_:=k0_ ((by rw [hg];exact (below_size (by repeat (first|(with_reducible first|exact HB.out|apply below_alloc|apply pw_below_drewN|apply below_drew1)|exact HB.out))) : w.heap.size ≤ gb103));have n3_:=k0_ ((by rw [hg];exact (below_size (by repeat (first|(with_reducible first|exact HB.out|apply below_alloc|apply pw_below_drewN|apply below_drew1)|exact HB.out))) : w.heap.size ≤ gb103));clear HB;have HB:=n0_;have BK103:=n1_;have GW103:=n2_;have GE103:=n3_;clear n0_ n1_ n2_ n3_;clear hb hbox hg;have hcz5_0 : w4.cell? ⟨gb103, 0, none⟩ = some (.string a0_0):=(blk_cell BK103.out 0).trans rfl;have hcz5_1 : w4.cell? ⟨gb103, 1, none⟩ = some (.int .i64 a0_1):=(blk_cell BK103.out 1).trans rfl;have hcz5_2 : w4.cell? ⟨gb103, 2, none⟩ = some (.int .i64 a0_2):=(blk_cell BK103.out 2).trans rfl;have hcz5_3 : w4.cell? ⟨gb103, 3, none⟩ = some (.int .i64 a0_3):=(blk_cell BK103.out 3).trans rfl;have hcz5_4 : w4.cell? ⟨gb103, 4, none⟩ = some (.int .i64 a0_4):=(blk_cell BK103.out 4).trans rfl;have hfz5_0:=blk_frozen BK103.out 0;have hfz5_1:=blk_frozen BK103.out 1;have hfz5_2:=blk_frozen BK103.out 2;have hfz5_3:=blk_frozen BK103.out 3;have hfz5_4:=blk_frozen BK103.out 4;have p104 : 0 ≤ (0 : Int):=(by omega);have q104 : 0 < (l1.length : Int):=of_decide_eq_true (by first|(with_reducible assumption)|assumption);obtain ⟨ad104, e104, hx104_0, hx104_1, hx104_2, hx104_3, hx104_4⟩:=at_T28 HR1.out 0 p104 q104;cases e104;have qi104 : (0 < l1.length) = True:=eq_true (by omega);(try rw [show ((0 : Int)).toNat = 0 from rfl] at hx104_0);(try rw [show 0 * 5 = 0 from rfl] at hx104_0);(try rw [Addr.add_zero'] at hx104_0);(try rw [show ((0 : Int)).toNat = 0 from rfl] at hx104_1);(try rw [show 0 * 5 = 0 from rfl] at hx104_1);(try rw [Addr.add_zero'] at hx104_1);(try rw [show ((0 : Int)).toNat = 0 from rfl] at hx104_2);(try rw [show 0 * 5 = 0 from rfl] at hx104_2);(try rw [Addr.add_zero'] at hx104_2);(try rw [show ((0 : Int)).toNat = 0 from rfl] at hx104_3);(try rw [show 0 * 5 = 0 from rfl] at hx104_3);(try rw [Addr.add_zero'] at hx104_3);(try rw [show ((0 : Int)).toNat = 0 from rfl] at hx104_4);(try rw [show 0 * 5 = 0 from rfl] at hx104_4);(try rw [Addr.add_zero'] at hx104_4);replace hx104_0:=(HB.out.cell (World.block_lt_of_cell? w _ hx104_0)).trans hx104_0;replace hx104_1:=(HB.out.cell (World.block_lt_of_cell? w _ hx104_1)).trans hx104_1;replace hx104_2:=(HB.out.cell (World.block_lt_of_cell? w _ hx104_2)).trans hx104_2;replace hx104_3:=(HB.out.cell (World.block_lt_of_cell? w _ hx104_3)).trans hx104_3;replace hx104_4:=(HB.out.cell (World.block_lt_of_cell? w _ hx104_4)).trans hx104_4;replace p104:=eq_true p104;replace q104:=eq_true q104))
  go_ret
  exact ⟨by first|rfl|(simp [errW_none, errW_some] <;> rfl)|(simp [*, errW_none, errW_some] <;> rfl), by repeat (first|(with_reducible first|exact HB.out|apply below_alloc|apply pw_below_drewN|apply below_drew1|refine below_set ?_ GE103.out)|exact HB.out)⟩
 ·rw [if_neg c3] at H
  exact absurd H (by simp)

/-! ### slices_IndexFunc_of_Check_1: function 131 -/
def slices_IndexFunc_of_Check_1.l0 : Nat → List (S28) → Int → Int → List (S28) → Option (Int)
 | 0, _, _, _, _ => none
 | k + 1, x0, x7, x8, x610 => if x8 < x7 then (if 0 ≤ x8 then (if x8 < (x0.length : Int) then ((upkeep_Check_1.f ((rd_T28 x0 x8).f0) ((rd_T28 x0 x8).f1) ((rd_T28 x0 x8).f2) ((rd_T28 x0 x8).f3) ((rd_T28 x0 x8).f4) x610).bind fun t106 => (if t106 = true then (some x8) else (slices_IndexFunc_of_Check_1.l0 k x0 x7 (wrap64 (x8 + 1)) x610))) else (none)) else (none)) else (some (-1))
def slices_IndexFunc_of_Check_1.f (k : Nat) (l0 : List (S28)) (l1_0 : List (S28)) : Option (Int) := slices_IndexFunc_of_Check_1.l0 k l0 (l0.length : Int) 0 l1_0
theorem slices_IndexFunc_of_Check_1.mono_l : ∀ k, (∀ y0 y1 y2 y3, LeO (slices_IndexFunc_of_Check_1.l0 k y0 y1 y2 y3) (slices_IndexFunc_of_Check_1.l0 (k + 1) y0 y1 y2 y3))
 | 0 => fun _ _ _ _ r h => by simp [slices_IndexFunc_of_Check_1.l0] at h
 | k + 1 => by
  have ih0:=slices_IndexFunc_of_Check_1.mono_l k
  ·intro y0 y1 y2 y3
   unfold slices_IndexFunc_of_Check_1.l0
   repeat' first
   | (with_reducible exact ih0 _ _ _ _)
   | (with_reducible exact LeO.refl _)
   | (with_reducible exact LeO.none _)
   | (with_reducible refine LeO.ite ?_ ?_)
   | (with_reducible refine LeO.bind ?_ (fun _ => ?_))
   | exact ih0 _ _ _ _
   | exact LeO.none _
   | refine LeO.ite ?_ ?_
   | refine LeO.bind ?_ (fun _ => ?_)
theorem slices_IndexFunc_of_Check_1.mono : ∀ a0 a1 k, LeO (slices_IndexFunc_of_Check_1.f k a0 a1) (slices_IndexFunc_of_Check_1.f (k + 1) a0 a1) := by
 intro a0 a1 k
 have ih0:=slices_IndexFunc_of_Check_1.mono_l k
 unfold slices_IndexFunc_of_Check_1.f
 repeat' first
   | (with_reducible exact ih0 _ _ _ _)
   | (with_reducible exact LeO.refl _)
   | (with_reducible exact LeO.none _)
   | (with_reducible refine LeO.ite ?_ ?_)
   | (with_reducible refine LeO.bind ?_ (fun _ => ?_))
   | exact ih0 _ _ _ _
   | exact LeO.none _
   | refine LeO.ite ?_ ?_
   | refine LeO.bind ?_ (fun _ => ?_)
set_option maxHeartbeats 8000000 in
set_option maxRecDepth 100000 in
theorem slices_IndexFunc_of_Check_1.calls (k : Nat) (A0 : Option Addr) (c0 : Nat) (l0 : List (S28)) (A1_0 : Option Addr) (l1_0 : List (S28)) (r : Int) (w : World) (hr0 : Kd.C k28 w A0 l0.length l0) (hc0 : l0.length ≤ c0) (hr1_0 : Kd.C k28 w A1_0 l1_0.length l1_0) (h : slices_IndexFunc_of_Check_1.f k l0 l1_0 = some r) :
  Calls Try.prog 90 #[.slice A0 l0.length c0, .func (.func 64) #[] #[.pointer A1_0]] w fun e w' => e = .returned (.int .i64 r) ∧ Below w.heap.size w w' := by
 have hu28:=Try.underlying28;have HR0:=k0_ hr0;have HC0:=k0_ hc0;clear hr0 hc0;have HR1_0:=k0_ hr1_0;clear hr1_0;have HB:=k0_ (Below.refl w.heap.size w);have H : (slices_IndexFunc_of_Check_1.l0 k l0 (l0.length : Int) 0 l1_0) = some r:=h;clear h;have H':=k0_ H;clear H
 go_enter Try.func90, Try.ntmps90
 go_wp2;(try simp only [Act.put, q1_,q3_,q2_])
 go_loopg [8] k (fun kq v8 w'=>∃ (x8_1 : Int), v8 = .int .i64 x8_1∧Aside0 (slices_IndexFunc_of_Check_1.l0 kq l0 (l0.length : Int) x8_1 l1_0 = some r)∧Aside0 (kq ≤ k)∧Aside0 (Below w.heap.size w w'))
 case atStart=>exact ⟨(0),(by first|rfl|(simp;done)|(simp [*];done)), H', ⟨Nat.le_refl _⟩,⟨by repeat (first|(with_reducible first|exact HB.out|apply below_alloc|apply pw_below_drewN|apply below_drew1)|exact HB.out)⟩⟩
 clear H';(try clear p2);obtain ⟨x8_1, rfl, HA, HK1, HB⟩:=hrel;obtain _|k1:=gk
 ·exact absurd HA.out (by simp [slices_IndexFunc_of_Check_1.l0])
 have H:=HA.out;clear HA;simp only [slices_IndexFunc_of_Check_1.l0] at H
 by_cases c3 : x8_1 < (l0.length : Int)
 ·rw [if_pos c3] at H
  have c3b0 : decide (x8_1 < (l0.length : Int)) = true:=decide_eq_true c3;clear c3
  by_cases c4 : 0 ≤ x8_1
  rw [if_pos c4] at H;have c4b0 : decide (0 ≤ x8_1) = true:=decide_eq_true c4;clear c4
  focus
   by_cases c5 : x8_1 < (l0.length : Int)
   rw [if_pos c5] at H;have c5b0 : decide (x8_1 < (l0.length : Int)) = true:=decide_eq_true c5;clear c5;replace H:=Option.bind_eq_some_iff.mp H;obtain ⟨t106, A60, H⟩:=H;replace H : (if t106 = true then (some x8_1) else (slices_IndexFunc_of_Check_1.l0 k1 l0 (l0.length : Int) (wrap64 (x8_1 + 1)) l1_0)) = some r:=H;have A6:=k0_ A60;clear A60
   focus
    by_cases c7 : t106 = true
    subst c7;have H1 : (some x8_1) = some r:=by rw [if_pos rfl] at H;exact H
    clear H;have H:=H1;clear H1;obtain rfl:=Option.some.inj H;rotate_left;replace c7:=Bool.eq_false_iff.mpr c7;subst c7;have H1 : (slices_IndexFunc_of_Check_1.l0 k1 l0 (l0.length : Int) (wrap64 (x8_1 + 1)) l1_0) = some r:=by rw [if_neg (show ¬ (false = true) by decide)] at H;exact H
    clear H;have H:=H1;clear H1;have H':=k0_ H;clear H;rotate_left
   rotate_left 2;rw [if_neg c5] at H
   exact absurd H (by simp)
  rotate_left 2;rw [if_neg c4] at H
  exact absurd H (by simp)
  all_goals
   have p105 : 0 ≤ (x8_1 : Int):=of_decide_eq_true (by first|(with_reducible assumption)|assumption);have q105 : x8_1 < (l0.length : Int):=of_decide_eq_true (by first|(with_reducible assumption)|assumption);obtain ⟨ad105, e105, hx105_0, hx105_1, hx105_2, hx105_3, hx105_4⟩:=at_T28 HR0.out x8_1 p105 q105;cases e105;replace hx105_0:=(HB.out.cell (World.block_lt_of_cell? w _ hx105_0)).trans hx105_0;replace hx105_1:=(HB.out.cell (World.block_lt_of_cell? w _ hx105_1)).trans hx105_1;replace hx105_2:=(HB.out.cell (World.block_lt_of_cell? w _ hx105_2)).trans hx105_2;replace hx105_3:=(HB.out.cell (World.block_lt_of_cell? w _ hx105_3)).trans hx105_3;replace hx105_4:=(HB.out.cell (World.block_lt_of_cell? w _ hx105_4)).trans hx105_4;replace p105:=eq_true p105;replace q105:=eq_true q105
  ·go_wp2_with (first|(go_at_call 64;(with_reducible refine (upkeep_Check_1.calls ((rd_T28 l0 x8_1).f0) ((rd_T28 l0 x8_1).f1) ((rd_T28 l0 x8_1).f2) ((rd_T28 l0 x8_1).f3) ((rd_T28 l0 x8_1).f4) _ l1_0 true _ ?side1 A6.out).mono ?_);(case side1=>repeat (first|exact (Kd.C_below HR1_0.out HB.out)|(with_reducible refine Kd.C_alloc ?_ _)|(with_reducible refine Kd.C_drewN ?_ _)|(with_reducible refine Kd.C_drew ?_)));rintro e w8 ⟨rfl, hb⟩;have n0_:=k0_ (below_step (by repeat (first|(with_reducible first|exact HB.out|apply below_alloc|apply pw_below_drewN|apply below_drew1)|exact HB.out)) hb);clear HB;have HB:=n0_;clear n0_;(try clear hb);(try clear hb2);(try clear hk);(try clear hi)))
   go_ret
   exact ⟨by first|rfl|(simp [errW_none, errW_some] <;> rfl)|(simp [*, errW_none, errW_some] <;> rfl), by repeat (first|(with_reducible first|exact HB.out|apply below_alloc|apply pw_below_drewN|apply below_drew1)|exact HB.out)⟩
  ·go_wp2_with (first|(go_at_call 64;(with_reducible refine (upkeep_Check_1.calls ((rd_T28 l0 x8_1).f0) ((rd_T28 l0 x8_1).f1) ((rd_T28 l0 x8_1).f2) ((rd_T28 l0 x8_1).f3) ((rd_T28 l0 x8_1).f4) _ l1_0 false _ ?side1 A6.out).mono ?_);(case side1=>repeat (first|exact (Kd.C_below HR1_0.out HB.out)|(with_reducible refine Kd.C_alloc ?_ _)|(with_reducible refine Kd.C_drewN ?_ _)|(with_reducible refine Kd.C_drew ?_)));rintro e w9 ⟨rfl, hb⟩;have n0_:=k0_ (below_step (by repeat (first|(with_reducible first|exact HB.out|apply below_alloc|apply pw_below_drewN|apply below_drew1)|exact HB.out)) hb);clear HB;have HB:=n0_;clear n0_;(try clear hb);(try clear hb2);(try clear hk);(try clear hi)))
   go_roundg k1
   case measure=>have:=HK1.out;omega
   case rel=>exact ⟨(wrap64 (x8_1 + 1)),(by first|rfl|(simp;done)|(simp [*];done)), H', ⟨by have:=HK1.out;omega⟩,⟨by repeat (first|(with_reducible first|exact HB.out|apply below_alloc|apply pw_below_drewN|apply below_drew1)|exact HB.out)⟩⟩
 ·rw [if_neg c3] at H
  have c3b0 : decide (x8_1 < (l0.length : Int)) = false:=decide_eq_false c3;clear c3;obtain rfl:=Option.some.inj H;go_wp2
  go_ret
  exact ⟨by first|rfl|(simp [errW_none, errW_some] <;> rfl)|(simp [*, errW_none, errW_some] <;> rfl), by repeat (first|(with_reducible first|exact HB.out|apply below_alloc|apply pw_below_drewN|apply below_drew1)|exact HB.out)⟩

/-! ### slices_ContainsFunc_of_Check_1: function 130 -/
def slices_ContainsFunc_of_Check_1.f (k : Nat) (l0 : List (S28)) (l1_0 : List (S28)) : Option (Bool) := (slices_IndexFunc_of_Check_1.f k l0 l1_0).bind fun t107 => (some (decide (t107 ≥ 0)))
theorem slices_ContainsFunc_of_Check_1.mono : ∀ a0 a1 k, LeO (slices_ContainsFunc_of_Check_1.f k a0 a1) (slices_ContainsFunc_of_Check_1.f (k + 1) a0 a1) := by
 intro a0 a1 k
 unfold slices_ContainsFunc_of_Check_1.f
 repeat' first
   | (with_reducible exact slices_IndexFunc_of_Check_1.mono _ _ _)
   | (with_reducible exact LeO.refl _)
   | (with_reducible exact LeO.none _)
   | (with_reducible refine LeO.ite ?_ ?_)
   | (with_reducible refine LeO.bind ?_ (fun _ => ?_))
   | exact slices_IndexFunc_of_Check_1.mono _ _ _
   | exact LeO.none _
   | refine LeO.ite ?_ ?_
   | refine LeO.bind ?_ (fun _ => ?_)
set_option maxHeartbeats 8000000 in
set_option maxRecDepth 100000 in
theorem slices_ContainsFunc_of_Check_1.calls (k : Nat) (A0 : Option Addr) (c0 : Nat) (l0 : List (S28)) (A1_0 : Option Addr) (l1_0 : List (S28)) (r : Bool) (w : World) (hr0 : Kd.C k28 w A0 l0.length l0) (hc0 : l0.length ≤ c0) (hr1_0 : Kd.C k28 w A1_0 l1_0.length l1_0) (h : slices_ContainsFunc_of_Check_1.f k l0 l1_0 = some r) :
  Calls Try.prog 63 #[.slice A0 l0.length c0, .func (.func 64) #[] #[.pointer A1_0]] w fun e w' => e = .returned (.bool r) ∧ Below w.heap.size w w' := by
 have HR0:=k0_ hr0;have HC0:=k0_ hc0;clear hr0 hc0;have HR1_0:=k0_ hr1_0;clear hr1_0;have HB:=k0_ (Below.refl w.heap.size w);have H : ((slices_IndexFunc_of_Check_1.f k l0 l1_0).bind fun t107=>(some (decide (t107 ≥ 0)))) = some r:=h;clear h;replace H:=Option.bind_eq_some_iff.mp H;obtain ⟨t107, A30, H⟩:=H;replace H : (some (decide (t107 ≥ 0))) = some r:=H;have A3:=k0_ A30;clear A30;obtain rfl:=Option.some.inj H
 go_enter Try.func63, Try.ntmps63
 go_wp2_with (first|((with_reducible refine gate_callee (f:=90) rfl ?_);refine goesL_ (some 7) rfl rfl Try.func90 (by kernel_rfl) rfl #[.slice A0 l0.length c0, .func (.func 64) #[] #[.pointer A1_0]] rfl (by (try simp only [List.map_toArray, List.map_cons, List.map_nil]);first|done|rfl|(simp only [List.length_drop, List.length_take];rfl)) ?_;(with_reducible refine (slices_IndexFunc_of_Check_1.calls k _ _ l0 _ l1_0 t107 _ ?side1 ?side2 ?side3 A3.out).mono ?_);(case side1=>repeat (first|exact HR0.out|(with_reducible refine Kd.C_alloc ?_ _)|(with_reducible refine Kd.C_drewN ?_ _)|(with_reducible refine Kd.C_drew ?_)));(case side2=>exact HC0.out);(case side3=>repeat (first|exact HR1_0.out|(with_reducible refine Kd.C_alloc ?_ _)|(with_reducible refine Kd.C_drewN ?_ _)|(with_reducible refine Kd.C_drew ?_)));rintro e w4 ⟨rfl, hb⟩;refine ⟨_, rfl, ?_⟩;have n0_:=k0_ (below_step (by repeat (first|(with_reducible first|exact HB.out|apply below_alloc|apply pw_below_drewN|apply below_drew1)|exact HB.out)) hb);clear HB;have HB:=n0_;clear n0_;(try clear hb);(try clear hb2);(try clear hk);(try clear hi)))
 go_ret
 exact ⟨by first|rfl|(simp [errW_none, errW_some] <;> rfl)|(simp [*, errW_none, errW_some] <;> rfl), by repeat (first|(with_reducible first|exact HB.out|apply below_alloc|apply pw_below_drewN|apply below_drew1)|exact HB.out)⟩

end Go.Proofs.Ytielinaielicbaa.PUpkeepSays
