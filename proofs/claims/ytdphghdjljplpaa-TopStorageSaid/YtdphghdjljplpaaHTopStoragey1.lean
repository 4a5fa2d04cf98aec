/- Contracts of functions that TopStorage reaches, a text of this session's own. -/
import Derived.Test.YtdphghdjljplpaaBox2
import Derived.Test.YtdphghdjljplpaaHTopStoragey0
namespace Go.Proofs.Ytdphghdjljplpaa.PTopStorage
open Go.RowKit Go.Proofs.YtdphghdjljplpaaW.PrintWords Go.Proofs.YtdphghdjljplpaaW.PrintLast Go.Proofs.YtdphghdjljplpaaW.PrintMore
attribute [local go_sem] max2_int min2_int max_two min_two max_three min_three max_four min_four   -- for this text's walks alone
set_option linter.unusedVariables false
set_option linter.unusedSimpArgs false

/-! ### storage_Check: function 49 -/
def storage_Check.f (a0_0 : Int) (a0_1 : Int) (a0_2 : Int) (a0_3 : Int) (a0_4 : Int) : Option (Int) := if a0_0 < 0 then (some 4) else (if a0_0 > 100000 then (some 4) else (if a0_1 < 0 then (some 4) else (if a0_1 > 100000 then (some 4) else (if a0_2 < 0 then (some 4) else (if a0_2 > 100000 then (some 4) else (if a0_3 < 0 then (some 4) else (if a0_3 > a0_2 then (some 4) else (if a0_4 < 0 then (some 4) else (if a0_4 > a0_2 then (some 4) else (some 0))))))))))
set_option maxHeartbeats 8000000 in
set_option maxRecDepth 100000 in
theorem storage_Check.calls (a0_0 : Int) (a0_1 : Int) (a0_2 : Int) (a0_3 : Int) (a0_4 : Int) (r : Int) (w : World) (h : storage_Check.f a0_0 a0_1 a0_2 a0_3 a0_4 = some r) :
  Calls Try.prog 49 #[.agg #[.int .i64 a0_0, .int .i64 a0_1, .int .i64 a0_2, .int .i64 a0_3, .int .i64 a0_4]] w fun e w' => e = .returned (.int .i64 r) ∧ Below w.heap.size w w' := by
 have hu40:=Try.underlying40;have HB:=k0_ (Below.refl w.heap.size w);have H : (if a0_0 < 0 then (some 4) else (if a0_0 > 100000 then (some 4) else (if a0_1 < 0 then (some 4) else (if a0_1 > 100000 then (some 4) else (if a0_2 < 0 then (some 4) else (if a0_2 > 100000 then (some 4) else (if a0_3 < 0 then (some 4) else (if a0_3 > a0_2 then (some 4) else (if a0_4 < 0 then (some 4) else (if a0_4 > a0_2 then (some 4) else (some 0))))))))))) = some r:=h;clear h
 by_cases c2 : a0_0 < 0
 rw [if_pos c2] at H;have c2b0:=decide_eq_true c2;clear c2;obtain rfl:=Option.some.inj H;rotate_left;rw [if_neg c2] at H;have c2b0:=decide_eq_false c2;clear c2
 focus
  by_cases c5 : a0_0 > 100000
  rw [if_pos c5] at H;have c5b0:=decide_eq_true c5;clear c5;obtain rfl:=Option.some.inj H;rotate_left;rw [if_neg c5] at H;have c5b0:=decide_eq_false c5;clear c5
  focus
   by_cases c8 : a0_1 < 0
   rw [if_pos c8] at H;have c8b0:=decide_eq_true c8;clear c8;obtain rfl:=Option.some.inj H;rotate_left;rw [if_neg c8] at H;have c8b0:=decide_eq_false c8;clear c8
   focus
    by_cases c11 : a0_1 > 100000
    rw [if_pos c11] at H;have c11b0:=decide_eq_true c11;clear c11;obtain rfl:=Option.some.inj H;rotate_left;rw [if_neg c11] at H;have c11b0:=decide_eq_false c11;clear c11
    focus
     by_cases c14 : a0_2 < 0
     rw [if_pos c14] at H;have c14b0:=decide_eq_true c14;clear c14;obtain rfl:=Option.some.inj H;rotate_left;rw [if_neg c14] at H;have c14b0:=decide_eq_false c14;clear c14
     focus
      by_cases c17 : a0_2 > 100000
      rw [if_pos c17] at H;have c17b0:=decide_eq_true c17;clear c17;obtain rfl:=Option.some.inj H;rotate_left;rw [if_neg c17] at H;have c17b0:=decide_eq_false c17;clear c17
      focus
       by_cases c20 : a0_3 < 0
       rw [if_pos c20] at H;have c20b0:=decide_eq_true c20;clear c20;obtain rfl:=Option.some.inj H;rotate_left;rw [if_neg c20] at H;have c20b0:=decide_eq_false c20;clear c20
       focus
        by_cases c23 : a0_3 > a0_2
        rw [if_pos c23] at H;have c23b0:=decide_eq_true c23;clear c23;obtain rfl:=Option.some.inj H;rotate_left;rw [if_neg c23] at H;have c23b0:=decide_eq_false c23;clear c23
        focus
         by_cases c26 : a0_4 < 0
         rw [if_pos c26] at H;have c26b0:=decide_eq_true c26;clear c26;obtain rfl:=Option.some.inj H;rotate_left;rw [if_neg c26] at H;have c26b0:=decide_eq_false c26;clear c26
         focus
          by_cases c29 : a0_4 > a0_2
          rw [if_pos c29] at H;have c29b0:=decide_eq_true c29;clear c29;obtain rfl:=Option.some.inj H;rotate_left;rw [if_neg c29] at H;have c29b0:=decide_eq_false c29;clear c29;obtain rfl:=Option.some.inj H;rotate_left
         rotate_left 2
        rotate_left 3
       rotate_left 4
      rotate_left 5
     rotate_left 6
    rotate_left 7
   rotate_left 8
  rotate_left 9
 rotate_left 10
 all_goals
  go_enter Try.func49, Try.ntmps49
  go_wp2_with (first|((with_reducible refine gate_dst (N:=1) rfl ?_);refine box_event ?hg (N:=1) ?hd (cs:=#[.int .i64 a0_0, .int .i64 a0_1, .int .i64 a0_2, .int .i64 a0_3, .int .i64 a0_4]) (t:=40) ?hr ?_;(case hd=>rfl);(case hg=>rfl);(case hr=>first|(go_simp;done)|(go_simp;rfl));intro gb101 hg w3 hbox hb;have BK101:=k0_ (hbox);have GW101:=k0_ ((by rw [hg];exact (below_size (hb0_ HB.out)) : w.heap.size ≤ gb101));have GE101:=k0_ ((by rw [hg];exact (below_size (hb0_ HB.out)) : w.heap.size ≤ gb101));replace HB:=k0_ (below_step (hb0_ HB.out) hb);clear hb hbox hg;obtain ⟨hcz4_0,hcz4_1,hcz4_2,hcz4_3,hcz4_4⟩:=bc5_ BK101.out;obtain ⟨hfz4_0,hfz4_1,hfz4_2,hfz4_3,hfz4_4⟩:=bf5_ BK101.out))
  go_ret
 ·exact ⟨er_, hb1_ HB.out GE101.out⟩
 ·exact ⟨er_, hb1_ HB.out GE101.out⟩
 ·exact ⟨er_, hb1_ HB.out GE101.out⟩
 ·exact ⟨er_, hb1_ HB.out GE101.out⟩
 ·exact ⟨er_, hb1_ HB.out GE101.out⟩
 ·exact ⟨er_, hb1_ HB.out GE101.out⟩
 ·exact ⟨er_, hb1_ HB.out GE101.out⟩
 ·exact ⟨er_, hb1_ HB.out GE101.out⟩
 ·exact ⟨er_, hb1_ HB.out GE101.out⟩
 ·exact ⟨er_, hb1_ HB.out GE101.out⟩
 ·exact ⟨er_, hb1_ HB.out GE101.out⟩

/-! ### storage_checkPrices: function 50 -/
def storage_checkPrices.l0 : Nat → List Int → Int → Int → Option (Int)
 | 0, _, _, _ => none
 | k + 1, x8, x9, x10 => if x10 < x9 then (if 0 ≤ x10 then (if x10 < (x8.length : Int) then (if (rd x8 x10) < (-1000000) then (some 4) else (if (rd x8 x10) > 1000000 then (some 4) else (storage_checkPrices.l0 k x8 x9 (wrap64 (x10 + 1))))) else (none)) else (none)) else (some 0)
def storage_checkPrices.f (k : Nat) (l0 : List Int) : Option (Int) := if (l0.length : Int) > 24 then (some 2) else (storage_checkPrices.l0 k l0 (l0.length : Int) 0)
theorem storage_checkPrices.mono_l : ∀ k, (∀ y0 y1 y2, LeO (storage_checkPrices.l0 k y0 y1 y2) (storage_checkPrices.l0 (k + 1) y0 y1 y2))
 | 0 => fun _ _ _ r h => by simp [storage_checkPrices.l0] at h
 | k + 1 => by
  have ih0:=storage_checkPrices.mono_l k
  ·intro y0 y1 y2
   unfold storage_checkPrices.l0
   repeat' first|(with_reducible first|exact ih0 _ _ _|exact LeO.refl _|exact LeO.none _|refine LeO.ite ?_ ?_|refine LeO.bind ?_ (fun _=>?_))|exact ih0 _ _ _|exact LeO.none _|refine LeO.ite ?_ ?_|refine LeO.bind ?_ (fun _=>?_)
theorem storage_checkPrices.mono : ∀ a0 k, LeO (storage_checkPrices.f k a0) (storage_checkPrices.f (k + 1) a0) := by
 intro a0 k
 have ih0:=storage_checkPrices.mono_l k
 unfold storage_checkPrices.f
 repeat' first|(with_reducible first|exact ih0 _ _ _|exact LeO.refl _|exact LeO.none _|refine LeO.ite ?_ ?_|refine LeO.bind ?_ (fun _=>?_))|exact ih0 _ _ _|exact LeO.none _|refine LeO.ite ?_ ?_|refine LeO.bind ?_ (fun _=>?_)
set_option maxHeartbeats 8000000 in
set_option maxRecDepth 100000 in
theorem storage_checkPrices.calls (k : Nat) (A0 : Option Addr) (c0 : Nat) (l0 : List Int) (r : Int) (w : World) (hr0 : Kd.C (Kd.int .i64) w A0 l0.length l0) (hc0 : l0.length ≤ c0) (h : storage_checkPrices.f k l0 = some r) :
  Calls Try.prog 50 #[.slice A0 l0.length c0] w fun e w' => e = .returned (.int .i64 r) ∧ Drawn0 w w' := by
 have HR0:=k0_ hr0;have HC0:=k0_ hc0;clear hr0 hc0;have H : (if (l0.length : Int) > 24 then (some 2) else (storage_checkPrices.l0 k l0 (l0.length : Int) 0)) = some r:=h;clear h
 by_cases c2 : (l0.length : Int) > 24
 ·rw [if_pos c2] at H
  have c2b0:=decide_eq_true c2;have c2b1 : decide (24 < l0.length) = true:=decide_eq_true (by omega);clear c2;obtain rfl:=Option.some.inj H
  go_enter Try.func50, Try.ntmps50
  go_wp2
  go_ret
  exact ⟨by first|rfl|(simp;done)|(simp [*];done), by repeat (first|exact Drawn0.refl _|apply Drawn0.step)⟩
 ·rw [if_neg c2] at H
  have c2b0:=decide_eq_false c2;have c2b1 : decide (24 < l0.length) = false:=decide_eq_false (by omega);clear c2;have H':=k0_ H;clear H
  go_enter Try.func50, Try.ntmps50
  go_wp2;(try simp only [Act.put, q1_,q3_,q2_])
  go_loopg [10] k (fun kq v10 w'=>∃ (x10_1 : Int), v10 = .int .i64 x10_1∧Aside0 (storage_checkPrices.l0 kq l0 (l0.length : Int) x10_1 = some r)∧Aside0 (kq ≤ k)∧Drawn0 w w')
  case atStart=>exact ⟨(0),rs_, H', ⟨Nat.le_refl _⟩, by repeat (first|exact Drawn0.refl _|apply Drawn0.step)⟩
  clear H' c2b0 c2b1;obtain ⟨x10_1, rfl, HA, HK1, ⟨m1, rfl⟩⟩:=hrel;obtain _|k1:=gk
  ·exact absurd HA.out (by simp [storage_checkPrices.l0])
  have H:=HA.out;clear HA;simp only [storage_checkPrices.l0] at H
  by_cases c3 : x10_1 < (l0.length : Int)
  ·rw [if_pos c3] at H
   have c3b0:=decide_eq_true c3;clear c3
   by_cases c4 : 0 ≤ x10_1
   rw [if_pos c4] at H;have c4b0:=decide_eq_true c4;clear c4
   focus
    by_cases c5 : x10_1 < (l0.length : Int)
    rw [if_pos c5] at H;have c5b0:=decide_eq_true c5;clear c5
    focus
     by_cases c6 : (rd l0 x10_1) < (-1000000)
     rw [if_pos c6] at H;have c6b0:=decide_eq_true c6;clear c6;obtain rfl:=Option.some.inj H;rotate_left;rw [if_neg c6] at H;have c6b0:=decide_eq_false c6;clear c6
     focus
      by_cases c7 : (rd l0 x10_1) > 1000000
      rw [if_pos c7] at H;have c7b0:=decide_eq_true c7;clear c7;obtain rfl:=Option.some.inj H;rotate_left;rw [if_neg c7] at H;have c7b0:=decide_eq_false c7;clear c7;have H':=k0_ H;clear H;rotate_left
     rotate_left 2
    rotate_left 3;rw [if_neg c5] at H
    exact absurd H (by simp)
   rotate_left 3;rw [if_neg c4] at H
   exact absurd H (by simp)
   all_goals
    have p102 : 0 ≤ (x10_1 : Int):=of_decide_eq_true as_;have q102 : x10_1 < (l0.length : Int):=of_decide_eq_true as_;obtain ⟨ad102, e102, hx102_0⟩:=Kd.at_int HR0.out x10_1 p102 q102;cases e102;replace p102:=eq_true p102;replace q102:=eq_true q102;go_wp2
   ·go_ret
    exact ⟨by first|rfl|(simp;done)|(simp [*];done), by repeat (first|exact Drawn0.refl _|apply Drawn0.step)⟩
   ·go_ret
    exact ⟨by first|rfl|(simp;done)|(simp [*];done), by repeat (first|exact Drawn0.refl _|apply Drawn0.step)⟩
   ·go_roundg k1
    case measure=>have:=HK1.out;omega
    case rel=>exact ⟨(wrap64 (x10_1 + 1)),rs_, H', ⟨by have:=HK1.out;omega⟩, by repeat (first|exact Drawn0.refl _|apply Drawn0.step)⟩
  ·rw [if_neg c3] at H
   have c3b0:=decide_eq_false c3;clear c3;obtain rfl:=Option.some.inj H;go_wp2
   go_ret
   exact ⟨by first|rfl|(simp;done)|(simp [*];done), by repeat (first|exact Drawn0.refl _|apply Drawn0.step)⟩

end Go.Proofs.Ytdphghdjljplpaa.PTopStorage
