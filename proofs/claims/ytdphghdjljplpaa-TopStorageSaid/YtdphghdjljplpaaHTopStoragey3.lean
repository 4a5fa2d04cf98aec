/- Contracts of functions that TopStorage reaches, a text of this session's own. -/
import Derived.Test.YtdphghdjljplpaaBox2
import Derived.Test.YtdphghdjljplpaaHTopStoragey0
namespace Go.Proofs.Ytdphghdjljplpaa.PTopStorage
open Go.RowKit Go.Proofs.YtdphghdjljplpaaW.PrintWords Go.Proofs.YtdphghdjljplpaaW.PrintLast Go.Proofs.YtdphghdjljplpaaW.PrintMore
attribute [local go_sem] max2_int min2_int max_two min_two max_three min_three max_four min_four   -- for this text's walks alone
set_option linter.unusedVariables false
set_option linter.unusedSimpArgs false

/-! ### convexpl_high: function 85 -/
def convexpl_high.l0 : Nat → Int → List (S158) → Int → Int → Option (Int)
 | 0, _, _, _, _ => none
 | k + 1, x3, x9, x10, x11 => if x11 < x10 then (if 0 ≤ x11 then (if x11 < (x9.length : Int) then (convexpl_high.l0 k (wrap64 (x3 + ((rd_T158 x9 x11).f0))) x9 x10 (wrap64 (x11 + 1))) else (none)) else (none)) else (some x3)
def convexpl_high.f (k : Nat) (a0_0 : Int) (a0_1 : Int) (l0_2 : List (S158)) : Option (Int) := convexpl_high.l0 k a0_0 l0_2 (l0_2.length : Int) 0
theorem convexpl_high.mono_l : ∀ k, (∀ y0 y1 y2 y3, LeO (convexpl_high.l0 k y0 y1 y2 y3) (convexpl_high.l0 (k + 1) y0 y1 y2 y3))
 | 0 => fun _ _ _ _ r h => by simp [convexpl_high.l0] at h
 | k + 1 => by
  have ih0:=convexpl_high.mono_l k
  ·intro y0 y1 y2 y3
   unfold convexpl_high.l0
   repeat' first|(with_reducible first|exact ih0 _ _ _ _|exact LeO.refl _|exact LeO.none _|refine LeO.ite ?_ ?_|refine LeO.bind ?_ (fun _=>?_))|exact ih0 _ _ _ _|exact LeO.none _|refine LeO.ite ?_ ?_|refine LeO.bind ?_ (fun _=>?_)
theorem convexpl_high.mono : ∀ a0 a1 a2 k, LeO (convexpl_high.f k a0 a1 a2) (convexpl_high.f (k + 1) a0 a1 a2) := by
 intro a0 a1 a2 k
 have ih0:=convexpl_high.mono_l k
 unfold convexpl_high.f
 repeat' first|(with_reducible first|exact ih0 _ _ _ _|exact LeO.refl _|exact LeO.none _|refine LeO.ite ?_ ?_|refine LeO.bind ?_ (fun _=>?_))|exact ih0 _ _ _ _|exact LeO.none _|refine LeO.ite ?_ ?_|refine LeO.bind ?_ (fun _=>?_)
set_option maxHeartbeats 8000000 in
set_option maxRecDepth 100000 in
theorem convexpl_high.calls (k : Nat) (a0_0 : Int) (a0_1 : Int) (A0_2 : Option Addr) (c0_2 : Nat) (l0_2 : List (S158)) (r : Int) (w : World) (hr0_2 : Kd.C k158 w A0_2 l0_2.length l0_2) (hc0_2 : l0_2.length ≤ c0_2) (h : convexpl_high.f k a0_0 a0_1 l0_2 = some r) :
  Calls Try.prog 85 #[.agg #[.int .i64 a0_0, .int .i64 a0_1, .slice A0_2 l0_2.length c0_2]] w fun e w' => e = .returned (.int .i64 r) ∧ Below w.heap.size w w' := by
 have hu83:=Try.underlying83;have hu158:=Try.underlying158;have HR0_2:=k0_ hr0_2;have HC0_2:=k0_ hc0_2;clear hr0_2 hc0_2;have HB:=k0_ (Below.refl w.heap.size w);have H : (convexpl_high.l0 k a0_0 l0_2 (l0_2.length : Int) 0) = some r:=h;clear h;have H':=k0_ H;clear H
 go_enter Try.func85, Try.ntmps85
 go_wp2_with (first|((with_reducible refine gate_dst (N:=1) rfl ?_);refine box_event ?hg (N:=1) ?hd (cs:=#[.int .i64 a0_0, .int .i64 a0_1, .slice A0_2 l0_2.length c0_2]) (t:=83) ?hr ?_;(case hd=>rfl);(case hg=>rfl);(case hr=>first|(go_simp;done)|(go_simp;rfl));intro gb107 hg w2 hbox hb;have BK107:=k0_ (hbox);have GW107:=k0_ ((by rw [hg];exact (below_size (hb0_ HB.out)) : w.heap.size ≤ gb107));have GE107:=k0_ ((by rw [hg];exact (below_size (hb0_ HB.out)) : w.heap.size ≤ gb107));replace HB:=k0_ (below_step (hb0_ HB.out) hb);clear hb hbox hg;obtain ⟨hcz3_0,hcz3_1,hcz3_2⟩:=bc3_ BK107.out;obtain ⟨hfz3_0,hfz3_1,hfz3_2⟩:=bf3_ BK107.out))
 (try simp only [Act.put, q1_,q3_,q2_])
 go_loopg [3, 11] k (fun kq v3 v11 w'=>∃ (x3_1 : Int) (x11_1 : Int), v3 = .int .i64 x3_1∧v11 = .int .i64 x11_1∧Aside0 (convexpl_high.l0 kq x3_1 l0_2 (l0_2.length : Int) x11_1 = some r)∧Aside0 (kq ≤ k)∧Aside0 (w'.heap[gb107]? = some (.cells #[.int .i64 a0_0, .int .i64 a0_1, (.slice A0_2 l0_2.length c0_2)] 83 (0, 0)))∧Aside0 (Below w.heap.size w w'))
 case atStart=>exact ⟨(a0_0),(0),rs_,rs_, H', ⟨Nat.le_refl _⟩,⟨bq_ BK107.out⟩,⟨hb1_ HB.out GE107.out⟩⟩
 clear H' hcz3_0 hcz3_1 hcz3_2 hfz3_0 hfz3_1 hfz3_2;obtain ⟨x3_1, x11_1, rfl, rfl, HA, HK1, BK107, HB⟩:=hrel;obtain _|k1:=gk
 ·exact absurd HA.out (by simp [convexpl_high.l0])
 have H:=HA.out;clear HA;simp only [convexpl_high.l0] at H
 by_cases c4 : x11_1 < (l0_2.length : Int)
 ·rw [if_pos c4] at H
  have c4b0:=decide_eq_true c4;clear c4
  obtain ⟨c5,H⟩:=gi_ H;have c5b0:=decide_eq_true c5;clear c5
  obtain ⟨c6,H⟩:=gi_ H;have c6b0:=decide_eq_true c6;clear c6;have H':=k0_ H;clear H;have p108 : 0 ≤ (x11_1 : Int):=of_decide_eq_true as_;have q108 : x11_1 < (l0_2.length : Int):=of_decide_eq_true as_;obtain ⟨ad108, e108, hx108_0, hx108_1⟩:=at_T158 HR0_2.out x11_1 p108 q108;cases e108;replace hx108_0:=bt_ HB.out hx108_0;replace hx108_1:=bt_ HB.out hx108_1;replace p108:=eq_true p108;replace q108:=eq_true q108
  go_wp2_with (first|((with_reducible refine gate_dst (N:=5) rfl ?_);refine box_event ?hg (N:=5) ?hd (cs:=#[.int .i64 0, .int .i64 0]) (t:=158) ?hr ?_;(case hd=>rfl);(case hg=>rfl);(case hr=>first|(go_simp;done)|(go_simp;rfl));intro gb109 hg w7 hbox hb;have BK109:=k0_ (hbox);have GW109:=k0_ ((by rw [hg];exact (below_size (hb1_ HB.out GE107.out)) : w.heap.size ≤ gb109));have GE109:=k0_ ((by rw [hg];exact (below_size (hb1_ HB.out GE107.out)) : w.heap.size ≤ gb109));replace HB:=k0_ (below_step (hb1_ HB.out GE107.out) hb);have NB107_109:=k0_ ((by rw [hg];exact Nat.ne_of_lt (blk_lt (bg_ BK107.out)) : gb107 ≠ gb109));have NB109_107:=k0_ ((by rw [hg];exact Nat.ne_of_gt (blk_lt (bg_ BK107.out)) : gb109 ≠ gb107));replace BK107:=k0_ (blk_below (bg_ BK107.out) hb);clear hb hbox hg;have hnb8:=NB109_107.out;have hnc8:=NB107_109.out;obtain ⟨hcz9_0,hcz9_1⟩:=bc2_ BK109.out;obtain ⟨hfz9_0,hfz9_1⟩:=bf2_ BK109.out))
  go_roundg k1
  case measure=>have:=HK1.out;omega
  case rel=>exact ⟨(wrap64 (x3_1 + ((rd_T158 l0_2 x11_1).f0))),(wrap64 (x11_1 + 1)),rs_,rs_, H', ⟨by have:=HK1.out;omega⟩,⟨by (with_reducible repeat (first|refine blk_drewN ?_ _|refine blk_drew ?_|refine blk_alloc ?_ _));refine blk_far ?_ NB107_109.out _;(with_reducible repeat (first|refine blk_drewN ?_ _|refine blk_drew ?_|refine blk_alloc ?_ _));refine blk_far ?_ NB107_109.out _;(with_reducible repeat (first|refine blk_drewN ?_ _|refine blk_drew ?_|refine blk_alloc ?_ _));exact BK107.out⟩,⟨hb2_ HB.out GE107.out GE109.out⟩⟩
 ·rw [if_neg c4] at H
  have c4b0:=decide_eq_false c4;clear c4;obtain rfl:=Option.some.inj H;go_wp2
  go_ret
  exact ⟨er_, hb1_ HB.out GE107.out⟩

-- NOT PRINTED: function 125 (api_ConvexPiece_125)

-- NOT PRINTED: function 128 (api_ConvexPiece_128)

-- NOT PRINTED: function 127 (api_ConvexPiece_127)

-- NOT PRINTED: function 126 (api_ConvexPiece_126)

-- NOT PRINTED: function 121 (api_ConvexPiece_121)

-- NOT PRINTED: function 110 (api_ConvexPiece_110)

/-! ### cmp_isNaN_int: function 80 -/
def cmp_isNaN_int.f (a0 : Int) : Option (Bool) := some (a0 != a0)
set_option maxHeartbeats 8000000 in
set_option maxRecDepth 100000 in
theorem cmp_isNaN_int.calls (a0 : Int) (r : Bool) (w : World) (h : cmp_isNaN_int.f a0 = some r) :
  Calls Try.prog 80 #[.int .i64 a0] w fun e w' => e = .returned (.bool r) ∧ Drawn0 w w' := by
 have H : (some (a0 != a0)) = some r:=h;clear h;obtain rfl:=Option.some.inj H
 go_enter Try.func80, Try.ntmps80
 go_wp2
 go_ret
 exact ⟨by first|rfl|(simp;done)|(simp [*];done), by repeat (first|exact Drawn0.refl _|apply Drawn0.step)⟩

/-! ### cmp_Compare_int: function 39 -/
def cmp_Compare_int.f (a0 : Int) (a1 : Int) : Option (Int) := (cmp_isNaN_int.f a0).bind fun t110 => ((cmp_isNaN_int.f a1).bind fun t111 => (if t110 = true then (if t111 = true then (some 0) else (some (-1))) else (if t111 = true then (some 1) else (if a0 < a1 then (some (-1)) else (if a0 > a1 then (some 1) else (some 0))))))
set_option maxHeartbeats 8000000 in
set_option maxRecDepth 100000 in
theorem cmp_Compare_int.calls (a0 : Int) (a1 : Int) (r : Int) (w : World) (h : cmp_Compare_int.f a0 a1 = some r) :
  Calls Try.prog 39 #[.int .i64 a0, .int .i64 a1] w fun e w' => e = .returned (.int .i64 r) ∧ Drawn0 w w' := by
 have H : ((cmp_isNaN_int.f a0).bind fun t110=>((cmp_isNaN_int.f a1).bind fun t111=>(if t110 = true then (if t111 = true then (some 0) else (some (-1))) else (if t111 = true then (some 1) else (if a0 < a1 then (some (-1)) else (if a0 > a1 then (some 1) else (some 0))))))) = some r:=h;clear h;replace H:=Option.bind_eq_some_iff.mp H;obtain ⟨t110, A30, H⟩:=H;replace H : ((cmp_isNaN_int.f a1).bind fun t111=>(if t110 = true then (if t111 = true then (some 0) else (some (-1))) else (if t111 = true then (some 1) else (if a0 < a1 then (some (-1)) else (if a0 > a1 then (some 1) else (some 0)))))) = some r:=H;have A3:=k0_ A30;clear A30;replace H:=Option.bind_eq_some_iff.mp H;obtain ⟨t111, A40, H⟩:=H;replace H : (if t110 = true then (if t111 = true then (some 0) else (some (-1))) else (if t111 = true then (some 1) else (if a0 < a1 then (some (-1)) else (if a0 > a1 then (some 1) else (some 0))))) = some r:=H;have A4:=k0_ A40;clear A40
 by_cases c5 : t110 = true
 ·subst c5
  have H1 : (if t111 = true then (some 0) else (some (-1))) = some r:=by rw [if_pos rfl] at H;exact H
  clear H;have H:=H1;clear H1
  by_cases c6 : t111 = true
  ·subst c6
   have H1 : (some 0) = some r:=by rw [if_pos rfl] at H;exact H
   clear H;have H:=H1;clear H1;obtain rfl:=Option.some.inj H
   go_enter Try.func39, Try.ntmps39
   go_wp2_with (first|((with_reducible refine gate_callee (f:=80) rfl ?_);refine goesL_ (some 8) rfl rfl Try.func80 (by kernel_rfl) rfl #[.int .i64 a0] rfl mt_ ?_;(with_reducible refine (cmp_isNaN_int.calls a0 true _ A3.out).mono ?_);rintro e w' ⟨rfl, ⟨nd, rfl⟩⟩;refine ⟨_, rfl, ?_⟩)|((with_reducible refine gate_callee (f:=80) rfl ?_);refine goesL_ (some 10) rfl rfl Try.func80 (by kernel_rfl) rfl #[.int .i64 a1] rfl mt_ ?_;(with_reducible refine (cmp_isNaN_int.calls a1 true _ A4.out).mono ?_);rintro e w' ⟨rfl, ⟨nd, rfl⟩⟩;refine ⟨_, rfl, ?_⟩))
   go_ret
   exact ⟨by first|rfl|(simp;done)|(simp [*];done), by repeat (first|exact Drawn0.refl _|apply Drawn0.step)⟩
  ·replace c6:=Bool.eq_false_iff.mpr c6
   subst c6;have H1 : (some (-1)) = some r:=by rw [if_neg (show ¬ (false = true) by decide)] at H;exact H
   clear H;have H:=H1;clear H1;obtain rfl:=Option.some.inj H
   go_enter Try.func39, Try.ntmps39
   go_wp2_with (first|((with_reducible refine gate_callee (f:=80) rfl ?_);refine goesL_ (some 8) rfl rfl Try.func80 (by kernel_rfl) rfl #[.int .i64 a0] rfl mt_ ?_;(with_reducible refine (cmp_isNaN_int.calls a0 true _ A3.out).mono ?_);rintro e w' ⟨rfl, ⟨nd, rfl⟩⟩;refine ⟨_, rfl, ?_⟩)|((with_reducible refine gate_callee (f:=80) rfl ?_);refine goesL_ (some 10) rfl rfl Try.func80 (by kernel_rfl) rfl #[.int .i64 a1] rfl mt_ ?_;(with_reducible refine (cmp_isNaN_int.calls a1 false _ A4.out).mono ?_);rintro e w' ⟨rfl, ⟨nd, rfl⟩⟩;refine ⟨_, rfl, ?_⟩))
   go_ret
   exact ⟨by first|rfl|(simp;done)|(simp [*];done), by repeat (first|exact Drawn0.refl _|apply Drawn0.step)⟩
 ·replace c5:=Bool.eq_false_iff.mpr c5
  subst c5;have H1 : (if t111 = true then (some 1) else (if a0 < a1 then (some (-1)) else (if a0 > a1 then (some 1) else (some 0)))) = some r:=by rw [if_neg (show ¬ (false = true) by decide)] at H;exact H
  clear H;have H:=H1;clear H1
  by_cases c7 : t111 = true
  ·subst c7
   have H1 : (some 1) = some r:=by rw [if_pos rfl] at H;exact H
   clear H;have H:=H1;clear H1;obtain rfl:=Option.some.inj H
   go_enter Try.func39, Try.ntmps39
   go_wp2_with (first|((with_reducible refine gate_callee (f:=80) rfl ?_);refine goesL_ (some 8) rfl rfl Try.func80 (by kernel_rfl) rfl #[.int .i64 a0] rfl mt_ ?_;(with_reducible refine (cmp_isNaN_int.calls a0 false _ A3.out).mono ?_);rintro e w' ⟨rfl, ⟨nd, rfl⟩⟩;refine ⟨_, rfl, ?_⟩)|((with_reducible refine gate_callee (f:=80) rfl ?_);refine goesL_ (some 10) rfl rfl Try.func80 (by kernel_rfl) rfl #[.int .i64 a1] rfl mt_ ?_;(with_reducible refine (cmp_isNaN_int.calls a1 true _ A4.out).mono ?_);rintro e w' ⟨rfl, ⟨nd, rfl⟩⟩;refine ⟨_, rfl, ?_⟩))
   go_ret
   exact ⟨by first|rfl|(simp;done)|(simp [*];done), by repeat (first|exact Drawn0.refl _|apply Drawn0.step)⟩
  ·replace c7:=Bool.eq_false_iff.mpr c7
   subst c7;have H1 : (if a0 < a1 then (some (-1)) else (if a0 > a1 then (some 1) else (some 0))) = some r:=by rw [if_neg (show ¬ (false = true) by decide)] at H;exact H
   clear H;have H:=H1;clear H1
   by_cases c8 : a0 < a1
   rw [if_pos c8] at H;have c8b0:=decide_eq_true c8;clear c8;obtain rfl:=Option.some.inj H;rotate_left;rw [if_neg c8] at H;have c8b0:=decide_eq_false c8;clear c8
   focus
    by_cases c9 : a0 > a1
    rw [if_pos c9] at H;have c9b0:=decide_eq_true c9;clear c9;obtain rfl:=Option.some.inj H;rotate_left;rw [if_neg c9] at H;have c9b0:=decide_eq_false c9;clear c9;obtain rfl:=Option.some.inj H;rotate_left
   rotate_left 2
   all_goals
    go_enter Try.func39, Try.ntmps39
    go_wp2_with (first|((with_reducible refine gate_callee (f:=80) rfl ?_);refine goesL_ (some 8) rfl rfl Try.func80 (by kernel_rfl) rfl #[.int .i64 a0] rfl mt_ ?_;(with_reducible refine (cmp_isNaN_int.calls a0 false _ A3.out).mono ?_);rintro e w' ⟨rfl, ⟨nd, rfl⟩⟩;refine ⟨_, rfl, ?_⟩)|((with_reducible refine gate_callee (f:=80) rfl ?_);refine goesL_ (some 10) rfl rfl Try.func80 (by kernel_rfl) rfl #[.int .i64 a1] rfl mt_ ?_;(with_reducible refine (cmp_isNaN_int.calls a1 false _ A4.out).mono ?_);rintro e w' ⟨rfl, ⟨nd, rfl⟩⟩;refine ⟨_, rfl, ?_⟩))
    go_ret
   ·exact ⟨by first|rfl|(simp;done)|(simp [*];done), by repeat (first|exact Drawn0.refl _|apply Drawn0.step)⟩
   ·exact ⟨by first|rfl|(simp;done)|(simp [*];done), by repeat (first|exact Drawn0.refl _|apply Drawn0.step)⟩
   ·exact ⟨by first|rfl|(simp;done)|(simp [*];done), by repeat (first|exact Drawn0.refl _|apply Drawn0.step)⟩

/-! ### convexpl_made_1: function 111 -/
def convexpl_made_1.f (a0_0 : Int) (a0_1 : Int) (a1_0 : Int) (a1_1 : Int) : Option (Int) := (cmp_Compare_int.f a0_1 a1_1).bind fun t114 => (some t114)
set_option maxHeartbeats 8000000 in
set_option maxRecDepth 100000 in
theorem convexpl_made_1.calls (a0_0 : Int) (a0_1 : Int) (a1_0 : Int) (a1_1 : Int) (r : Int) (w : World) (h : convexpl_made_1.f a0_0 a0_1 a1_0 a1_1 = some r) :
  Calls Try.prog 111 #[.agg #[.int .i64 a0_0, .int .i64 a0_1], .agg #[.int .i64 a1_0, .int .i64 a1_1]] w fun e w' => e = .returned (.int .i64 r) ∧ Below w.heap.size w w' := by
 have hu158:=Try.underlying158;have HB:=k0_ (Below.refl w.heap.size w);have H : ((cmp_Compare_int.f a0_1 a1_1).bind fun t114=>(some t114)) = some r:=h;clear h;replace H:=Option.bind_eq_some_iff.mp H;obtain ⟨t114, A30, H⟩:=H;replace H : (some t114) = some r:=H;have A3:=k0_ A30;clear A30;obtain rfl:=Option.some.inj H
 go_enter Try.func111, Try.ntmps111
 go_wp2_with (first|((with_reducible refine gate_dst (N:=2) rfl ?_);refine box_event ?hg (N:=2) ?hd (cs:=#[.int .i64 a0_0, .int .i64 a0_1]) (t:=158) ?hr ?_;(case hd=>rfl);(case hg=>rfl);(case hr=>first|(go_simp;done)|(go_simp;rfl));intro gb112 hg w4 hbox hb;have BK112:=k0_ (hbox);have GW112:=k0_ ((by rw [hg];exact (below_size (hb0_ HB.out)) : w.heap.size ≤ gb112));have GE112:=k0_ ((by rw [hg];exact (below_size (hb0_ HB.out)) : w.heap.size ≤ gb112));replace HB:=k0_ (below_step (hb0_ HB.out) hb);clear hb hbox hg)|((with_reducible refine gate_dst (N:=3) rfl ?_);refine box_event ?hg (N:=3) ?hd (cs:=#[.int .i64 a1_0, .int .i64 a1_1]) (t:=158) ?hr ?_;(case hd=>rfl);(case hg=>rfl);(case hr=>first|(go_simp;done)|(go_simp;rfl));intro gb113 hg w5 hbox hb;have BK113:=k0_ (hbox);have GW113:=k0_ ((by rw [hg];exact (below_size (hb1_ HB.out GE112.out)) : w.heap.size ≤ gb113));have GE113:=k0_ ((by rw [hg];exact (below_size (hb1_ HB.out GE112.out)) : w.heap.size ≤ gb113));replace HB:=k0_ (below_step (hb1_ HB.out GE112.out) hb);have NB112_113:=k0_ ((by rw [hg];exact Nat.ne_of_lt (blk_lt (bg_ BK112.out)) : gb112 ≠ gb113));have NB113_112:=k0_ ((by rw [hg];exact Nat.ne_of_gt (blk_lt (bg_ BK112.out)) : gb113 ≠ gb112));replace BK112:=k0_ (blk_below (bg_ BK112.out) hb);clear hb hbox hg;have hnb6:=NB112_113.out;have hnc6:=NB113_112.out;obtain ⟨hcz7_0,hcz7_1⟩:=bc2_ BK112.out;obtain ⟨hfz7_0,hfz7_1⟩:=bf2_ BK112.out;obtain ⟨hcz8_0,hcz8_1⟩:=bc2_ BK113.out;obtain ⟨hfz8_0,hfz8_1⟩:=bf2_ BK113.out)|((with_reducible refine gate_callee (f:=39) rfl ?_);refine goesL_ (some 9) rfl rfl Try.func39 (by kernel_rfl) rfl #[.int .i64 a0_1, .int .i64 a1_1] rfl mt_ ?_;(with_reducible refine (cmp_Compare_int.calls a0_1 a1_1 t114 _ A3.out).mono ?_);rintro e w' ⟨rfl, ⟨nd, rfl⟩⟩;refine ⟨_, rfl, ?_⟩))
 go_ret
 exact ⟨er_, hb2_ HB.out GE112.out GE113.out⟩

end Go.Proofs.Ytdphghdjljplpaa.PTopStorage
