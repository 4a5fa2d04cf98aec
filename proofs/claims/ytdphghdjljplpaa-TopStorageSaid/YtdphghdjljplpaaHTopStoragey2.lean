/- Contracts of functions that TopStorage reaches, a text of this session's own. -/
import Derived.Test.YtdphghdjljplpaaBox2
import Derived.Test.YtdphghdjljplpaaHTopStoragey0
namespace Go.Proofs.Ytdphghdjljplpaa.PTopStorage
open Go.RowKit Go.Proofs.YtdphghdjljplpaaW.PrintWords Go.Proofs.YtdphghdjljplpaaW.PrintLast Go.Proofs.YtdphghdjljplpaaW.PrintMore
attribute [local go_sem] max2_int min2_int max_two min_two max_three min_three max_four min_four   -- for this text's walks alone
set_option linter.unusedVariables false
set_option linter.unusedSimpArgs false

/-! ### convexpl_Check: function 84 -/
mutual
def convexpl_Check.j0 : Nat → Bool → Int → Int → List (S158) → Option (Int)
 | 0, _, _, _, _ => none
 | k + 1, x28, x104000, x104001, x104002 => if x28 = true then (some 4) else (convexpl_Check.l0 k x104000 x104001 x104002 (x104002.length : Int) 0 x104000 x104001 x104002)
def convexpl_Check.l0 : Nat → Int → Int → List (S158) → Int → Int → Int → Int → List (S158) → Option (Int)
 | 0, _, _, _, _, _, _, _, _ => none
 | k + 1, x3, x4, x34, x35, x36, x104000, x104001, x104002 => if x36 < x35 then (if 0 ≤ x36 then (if x36 < (x34.length : Int) then (if ((rd_T158 x34 x36).f0) < 1 then (convexpl_Check.j2 k x3 x4 x36 x34 x35 x36 true x104000 x104001 x104002 ((rd_T158 x34 x36).f0) ((rd_T158 x34 x36).f1)) else (if ((rd_T158 x34 x36).f0) > 2000000 then (convexpl_Check.j2 k x3 x4 x36 x34 x35 x36 true x104000 x104001 x104002 ((rd_T158 x34 x36).f0) ((rd_T158 x34 x36).f1)) else (if ((rd_T158 x34 x36).f1) < (-10000000) then (convexpl_Check.j2 k x3 x4 x36 x34 x35 x36 true x104000 x104001 x104002 ((rd_T158 x34 x36).f0) ((rd_T158 x34 x36).f1)) else (convexpl_Check.j2 k x3 x4 x36 x34 x35 x36 (decide (((rd_T158 x34 x36).f1) > 10000000)) x104000 x104001 x104002 ((rd_T158 x34 x36).f0) ((rd_T158 x34 x36).f1))))) else (none)) else (none)) else (some 0)
def convexpl_Check.j2 : Nat → Int → Int → Int → List (S158) → Int → Int → Bool → Int → Int → List (S158) → Int → Int → Option (Int)
 | 0, _, _, _, _, _, _, _, _, _, _, _, _ => none
 | k + 1, x3, x4, x5, x34, x35, x36, x41, x104000, x104001, x104002, x106000, x106001 => if x41 = true then (some 4) else (if x5 > 0 then (if 0 ≤ (wrap64 (x5 - 1)) then (if (wrap64 (x5 - 1)) < (x104002.length : Int) then (convexpl_Check.j3 k x3 x4 x34 x35 x36 (decide (x106001 ≤ ((rd_T158 x104002 (wrap64 (x5 - 1))).f1))) x104000 x104001 x104002 x106000 x106001) else (none)) else (none)) else (convexpl_Check.j3 k x3 x4 x34 x35 x36 false x104000 x104001 x104002 x106000 x106001))
def convexpl_Check.j3 : Nat → Int → Int → List (S158) → Int → Int → Bool → Int → Int → List (S158) → Int → Int → Option (Int)
 | 0, _, _, _, _, _, _, _, _, _, _, _ => none
 | k + 1, x3, x4, x34, x35, x36, x60, x104000, x104001, x104002, x106000, x106001 => if x60 = true then (some 3) else (if (wrap64 (x3 + x106000)) > 1000000 then (some 4) else (if (wrap64 (x4 + (wrap64 (x106000 * x106001)))) < (-1000000000000000) then (some 4) else (if (wrap64 (x4 + (wrap64 (x106000 * x106001)))) > 1000000000000000 then (some 4) else (convexpl_Check.l0 k (wrap64 (x3 + x106000)) (wrap64 (x4 + (wrap64 (x106000 * x106001)))) x34 x35 (wrap64 (x36 + 1)) x104000 x104001 x104002))))
end
def convexpl_Check.f (k : Nat) (a0_0 : Int) (a0_1 : Int) (l0_2 : List (S158)) : Option (Int) := if (l0_2.length : Int) > 64 then (some 2) else (if a0_0 < (-1000000) then (convexpl_Check.j0 k true a0_0 a0_1 l0_2) else (if a0_0 > 1000000 then (convexpl_Check.j0 k true a0_0 a0_1 l0_2) else (if a0_1 < (-1000000000000000) then (convexpl_Check.j0 k true a0_0 a0_1 l0_2) else (convexpl_Check.j0 k (decide (a0_1 > 1000000000000000)) a0_0 a0_1 l0_2))))
theorem convexpl_Check.mono_l : ∀ k, (∀ y0 y1 y2 y3, LeO (convexpl_Check.j0 k y0 y1 y2 y3) (convexpl_Check.j0 (k + 1) y0 y1 y2 y3)) ∧ (∀ y0 y1 y2 y3 y4 y5 y6 y7, LeO (convexpl_Check.l0 k y0 y1 y2 y3 y4 y5 y6 y7) (convexpl_Check.l0 (k + 1) y0 y1 y2 y3 y4 y5 y6 y7)) ∧ (∀ y0 y1 y2 y3 y4 y5 y6 y7 y8 y9 y10 y11, LeO (convexpl_Check.j2 k y0 y1 y2 y3 y4 y5 y6 y7 y8 y9 y10 y11) (convexpl_Check.j2 (k + 1) y0 y1 y2 y3 y4 y5 y6 y7 y8 y9 y10 y11)) ∧ (∀ y0 y1 y2 y3 y4 y5 y6 y7 y8 y9 y10, LeO (convexpl_Check.j3 k y0 y1 y2 y3 y4 y5 y6 y7 y8 y9 y10) (convexpl_Check.j3 (k + 1) y0 y1 y2 y3 y4 y5 y6 y7 y8 y9 y10))
 | 0 => ⟨fun _ _ _ _ r h => by simp [convexpl_Check.j0] at h, fun _ _ _ _ _ _ _ _ r h => by simp [convexpl_Check.l0] at h, fun _ _ _ _ _ _ _ _ _ _ _ _ r h => by simp [convexpl_Check.j2] at h, fun _ _ _ _ _ _ _ _ _ _ _ r h => by simp [convexpl_Check.j3] at h⟩
 | k + 1 => by
  obtain ⟨ih0, ih1, ih2, ih3⟩:=convexpl_Check.mono_l k
  refine ⟨?_, ?_, ?_, ?_⟩
  ·intro y0 y1 y2 y3
   unfold convexpl_Check.j0
   repeat' first|(with_reducible first|exact ih0 _ _ _ _|exact ih1 _ _ _ _ _ _ _ _|exact ih2 _ _ _ _ _ _ _ _ _ _ _ _|exact ih3 _ _ _ _ _ _ _ _ _ _ _|exact LeO.refl _|exact LeO.none _|refine LeO.ite ?_ ?_|refine LeO.bind ?_ (fun _=>?_))|exact ih0 _ _ _ _|exact ih1 _ _ _ _ _ _ _ _|exact ih2 _ _ _ _ _ _ _ _ _ _ _ _|exact ih3 _ _ _ _ _ _ _ _ _ _ _|exact LeO.none _|refine LeO.ite ?_ ?_|refine LeO.bind ?_ (fun _=>?_)
  ·intro y0 y1 y2 y3 y4 y5 y6 y7
   unfold convexpl_Check.l0
   repeat' first|(with_reducible first|exact ih0 _ _ _ _|exact ih1 _ _ _ _ _ _ _ _|exact ih2 _ _ _ _ _ _ _ _ _ _ _ _|exact ih3 _ _ _ _ _ _ _ _ _ _ _|exact LeO.refl _|exact LeO.none _|refine LeO.ite ?_ ?_|refine LeO.bind ?_ (fun _=>?_))|exact ih0 _ _ _ _|exact ih1 _ _ _ _ _ _ _ _|exact ih2 _ _ _ _ _ _ _ _ _ _ _ _|exact ih3 _ _ _ _ _ _ _ _ _ _ _|exact LeO.none _|refine LeO.ite ?_ ?_|refine LeO.bind ?_ (fun _=>?_)
  ·intro y0 y1 y2 y3 y4 y5 y6 y7 y8 y9 y10 y11
   unfold convexpl_Check.j2
   repeat' first|(with_reducible first|exact ih0 _ _ _ _|exact ih1 _ _ _ _ _ _ _ _|exact ih2 _ _ _ _ _ _ _ _ _ _ _ _|exact ih3 _ _ _ _ _ _ _ _ _ _ _|exact LeO.refl _|exact LeO.none _|refine LeO.ite ?_ ?_|refine LeO.bind ?_ (fun _=>?_))|exact ih0 _ _ _ _|exact ih1 _ _ _ _ _ _ _ _|exact ih2 _ _ _ _ _ _ _ _ _ _ _ _|exact ih3 _ _ _ _ _ _ _ _ _ _ _|exact LeO.none _|refine LeO.ite ?_ ?_|refine LeO.bind ?_ (fun _=>?_)
  ·intro y0 y1 y2 y3 y4 y5 y6 y7 y8 y9 y10
   unfold convexpl_Check.j3
   repeat' first|(with_reducible first|exact ih0 _ _ _ _|exact ih1 _ _ _ _ _ _ _ _|exact ih2 _ _ _ _ _ _ _ _ _ _ _ _|exact ih3 _ _ _ _ _ _ _ _ _ _ _|exact LeO.refl _|exact LeO.none _|refine LeO.ite ?_ ?_|refine LeO.bind ?_ (fun _=>?_))|exact ih0 _ _ _ _|exact ih1 _ _ _ _ _ _ _ _|exact ih2 _ _ _ _ _ _ _ _ _ _ _ _|exact ih3 _ _ _ _ _ _ _ _ _ _ _|exact LeO.none _|refine LeO.ite ?_ ?_|refine LeO.bind ?_ (fun _=>?_)
theorem convexpl_Check.mono : ∀ a0 a1 a2 k, LeO (convexpl_Check.f k a0 a1 a2) (convexpl_Check.f (k + 1) a0 a1 a2) := by
 intro a0 a1 a2 k
 obtain ⟨ih0, ih1, ih2, ih3⟩:=convexpl_Check.mono_l k
 unfold convexpl_Check.f
 repeat' first|(with_reducible first|exact ih0 _ _ _ _|exact ih1 _ _ _ _ _ _ _ _|exact ih2 _ _ _ _ _ _ _ _ _ _ _ _|exact ih3 _ _ _ _ _ _ _ _ _ _ _|exact LeO.refl _|exact LeO.none _|refine LeO.ite ?_ ?_|refine LeO.bind ?_ (fun _=>?_))|exact ih0 _ _ _ _|exact ih1 _ _ _ _ _ _ _ _|exact ih2 _ _ _ _ _ _ _ _ _ _ _ _|exact ih3 _ _ _ _ _ _ _ _ _ _ _|exact LeO.none _|refine LeO.ite ?_ ?_|refine LeO.bind ?_ (fun _=>?_)
set_option maxHeartbeats 8000000 in
set_option maxRecDepth 100000 in
theorem convexpl_Check.calls (k : Nat) (a0_0 : Int) (a0_1 : Int) (A0_2 : Option Addr) (c0_2 : Nat) (l0_2 : List (S158)) (r : Int) (w : World) (hr0_2 : Kd.C k158 w A0_2 l0_2.length l0_2) (hc0_2 : l0_2.length ≤ c0_2) (h : convexpl_Check.f k a0_0 a0_1 l0_2 = some r) :
  Calls Try.prog 84 #[.agg #[.int .i64 a0_0, .int .i64 a0_1, .slice A0_2 l0_2.length c0_2]] w fun e w' => e = .returned (.int .i64 r) ∧ Below w.heap.size w w' := by
 have hu83:=Try.underlying83;have hu158:=Try.underlying158;have HR0_2:=k0_ hr0_2;have HC0_2:=k0_ hc0_2;clear hr0_2 hc0_2;have HB:=k0_ (Below.refl w.heap.size w);have H : (if (l0_2.length : Int) > 64 then (some 2) else (if a0_0 < (-1000000) then (convexpl_Check.j0 k true a0_0 a0_1 l0_2) else (if a0_0 > 1000000 then (convexpl_Check.j0 k true a0_0 a0_1 l0_2) else (if a0_1 < (-1000000000000000) then (convexpl_Check.j0 k true a0_0 a0_1 l0_2) else (convexpl_Check.j0 k (decide (a0_1 > 1000000000000000)) a0_0 a0_1 l0_2))))) = some r:=h;clear h
 by_cases c2 : (l0_2.length : Int) > 64
 ·rw [if_pos c2] at H
  have c2b0:=decide_eq_true c2;have c2b1 : decide (64 < l0_2.length) = true:=decide_eq_true (by omega);clear c2;obtain rfl:=Option.some.inj H
  go_enter Try.func84, Try.ntmps84
  go_wp2_with (first|((with_reducible refine gate_dst (N:=1) rfl ?_);refine box_event ?hg (N:=1) ?hd (cs:=#[.int .i64 a0_0, .int .i64 a0_1, .slice A0_2 l0_2.length c0_2]) (t:=83) ?hr ?_;(case hd=>rfl);(case hg=>rfl);(case hr=>first|(go_simp;done)|(go_simp;rfl));intro gb103 hg w3 hbox hb;have BK103:=k0_ (hbox);have GW103:=k0_ ((by rw [hg];exact (below_size (hb0_ HB.out)) : w.heap.size ≤ gb103));have GE103:=k0_ ((by rw [hg];exact (below_size (hb0_ HB.out)) : w.heap.size ≤ gb103));replace HB:=k0_ (below_step (hb0_ HB.out) hb);clear hb hbox hg;obtain ⟨hcz4_0,hcz4_1,hcz4_2⟩:=bc3_ BK103.out;obtain ⟨hfz4_0,hfz4_1,hfz4_2⟩:=bf3_ BK103.out))
  go_ret
  exact ⟨er_, hb1_ HB.out GE103.out⟩
 ·rw [if_neg c2] at H
  have c2b0:=decide_eq_false c2;have c2b1 : decide (64 < l0_2.length) = false:=decide_eq_false (by omega);clear c2;have HC5:=k0_ H;clear H
  go_enter Try.func84, Try.ntmps84
  go_upto_region 3 with (first|((with_reducible refine gate_dst (N:=1) rfl ?_);refine box_event ?hg (N:=1) ?hd (cs:=#[.int .i64 a0_0, .int .i64 a0_1, .slice A0_2 l0_2.length c0_2]) (t:=83) ?hr ?_;(case hd=>rfl);(case hg=>rfl);(case hr=>first|(go_simp;done)|(go_simp;rfl));intro gb103 hg w6 hbox hb;have BK103:=k0_ (hbox);have GW103:=k0_ ((by rw [hg];exact (below_size (hb0_ HB.out)) : w.heap.size ≤ gb103));have GE103:=k0_ ((by rw [hg];exact (below_size (hb0_ HB.out)) : w.heap.size ≤ gb103));replace HB:=k0_ (below_step (hb0_ HB.out) hb);clear hb hbox hg;obtain ⟨hcz7_0,hcz7_1,hcz7_2⟩:=bc3_ BK103.out;obtain ⟨hfz7_0,hfz7_1,hfz7_2⟩:=bf3_ BK103.out))
  (try simp only [Act.put, q1_,q2_,q3_])
  go_cut [28] (fun v28 wc=>∃ (kq : Nat) (x28_4 : Bool), v28 = .bool x28_4∧Aside0 (convexpl_Check.j0 kq x28_4 a0_0 a0_1 l0_2 = some r)∧Aside0 (kq ≤ k)∧Aside0 (wc.heap[gb103]? = some (.cells #[.int .i64 a0_0, .int .i64 a0_1, (.slice A0_2 l0_2.length c0_2)] 83 (0, 0)))∧Aside0 (Below w.heap.size w wc))
  case first =>
   have H:=HC5.out;clear HC5
   by_cases c8 : a0_0 < (-1000000)
   rw [if_pos c8] at H;have c8b0:=decide_eq_true c8;clear c8;(first|rw [c8b0]|(simp only [i64_w, i32_w];rw [c8b0])|skip);have H':=k0_ H;clear H;rotate_left;rw [if_neg c8] at H;have c8b0:=decide_eq_false c8;clear c8;(first|rw [c8b0]|(simp only [i64_w, i32_w];rw [c8b0])|skip)
   focus
    by_cases c10 : a0_0 > 1000000
    rw [if_pos c10] at H;have c10b0:=decide_eq_true c10;clear c10;have H':=k0_ H;clear H;rotate_left;rw [if_neg c10] at H;have c10b0:=decide_eq_false c10;clear c10
    focus
     by_cases c12 : a0_1 < (-1000000000000000)
     rw [if_pos c12] at H;have c12b0:=decide_eq_true c12;clear c12;have H':=k0_ H;clear H;rotate_left;rw [if_neg c12] at H;have c12b0:=decide_eq_false c12;clear c12;have H':=k0_ H;clear H;rotate_left
    rotate_left 2
   rotate_left 3
   all_goals
    obtain ⟨hcz9_0,hcz9_1,hcz9_2⟩:=bc3_ BK103.out;obtain ⟨hfz9_0,hfz9_1,hfz9_2⟩:=bf3_ BK103.out;go_wp2
   ·go_meet
    case rel=>exact ⟨_, (true),rs_, H', ⟨by first|omega|exact Nat.le_refl _⟩,⟨bq_ BK103.out⟩,⟨hb1_ HB.out GE103.out⟩⟩
   ·go_meet
    case rel=>exact ⟨_, (true),rs_, H', ⟨by first|omega|exact Nat.le_refl _⟩,⟨bq_ BK103.out⟩,⟨hb1_ HB.out GE103.out⟩⟩
   ·go_meet
    case rel=>exact ⟨_, (true),rs_, H', ⟨by first|omega|exact Nat.le_refl _⟩,⟨bq_ BK103.out⟩,⟨hb1_ HB.out GE103.out⟩⟩
   ·go_meet
    case rel=>exact ⟨_, (decide (a0_1 > 1000000000000000)),rs_, H', ⟨by first|omega|exact Nat.le_refl _⟩,⟨bq_ BK103.out⟩,⟨hb1_ HB.out GE103.out⟩⟩
  clear HC5;clear c2b0 c2b1 hcz7_0 hcz7_1 hcz7_2 hfz7_0 hfz7_1 hfz7_2;obtain ⟨kq, x28_4, rfl, HA, HJ4, BK103, HB⟩:=hcut;obtain _|kj4:=kq
  ·exact absurd HA.out (by simp [convexpl_Check.j0])
  have H:=HA.out;clear HA;simp only [convexpl_Check.j0] at H
  by_cases c15 : x28_4 = true
  ·subst c15
   have H1 : (some 4) = some r:=by rw [if_pos rfl] at H;exact H
   clear H;have H:=H1;clear H1;obtain rfl:=Option.some.inj H;go_wp2
   go_ret
   exact ⟨er_, hb1_ HB.out GE103.out⟩
  ·replace c15:=Bool.eq_false_iff.mpr c15
   subst c15;have H1 : (convexpl_Check.l0 kj4 a0_0 a0_1 l0_2 (l0_2.length : Int) 0 a0_0 a0_1 l0_2) = some r:=by rw [if_neg (show ¬ (false = true) by decide)] at H;exact H
   clear H;have H:=H1;clear H1;have H':=k0_ H;clear H;obtain ⟨hcz16_0,hcz16_1,hcz16_2⟩:=bc3_ BK103.out;obtain ⟨hfz16_0,hfz16_1,hfz16_2⟩:=bf3_ BK103.out;go_wp2
   repeat (go_quiet (fail);try go_wp2)
   (try simp only [Act.put, q1_,q3_,q2_])
   go_loopg [3, 4, 36] kj4 (fun kq v3 v4 v36 w'=>∃ (x3_2 : Int) (x4_2 : Int) (x36_2 : Int), v3 = .int .i64 x3_2∧v4 = .int .i64 x4_2∧v36 = .int .i64 x36_2∧Aside0 (convexpl_Check.l0 kq x3_2 x4_2 l0_2 (l0_2.length : Int) x36_2 a0_0 a0_1 l0_2 = some r)∧Aside0 (kq ≤ kj4)∧Aside0 (w'.heap[gb103]? = some (.cells #[.int .i64 a0_0, .int .i64 a0_1, (.slice A0_2 l0_2.length c0_2)] 83 (0, 0)))∧Aside0 (Below w.heap.size w w'))
   case atStart=>exact ⟨(a0_0),(a0_1),(0),rs_,rs_,rs_, H', ⟨Nat.le_refl _⟩,⟨bq_ BK103.out⟩,⟨hb1_ HB.out GE103.out⟩⟩
   clear H' hcz16_0 hcz16_1 hcz16_2 hfz16_0 hfz16_1 hfz16_2;obtain ⟨x3_2, x4_2, x36_2, rfl, rfl, rfl, HA, HK2, BK103, HB⟩:=hrel;obtain _|k2:=gk
   ·exact absurd HA.out (by simp [convexpl_Check.l0])
   have H:=HA.out;clear HA;simp only [convexpl_Check.l0] at H
   by_cases c17 : x36_2 < (l0_2.length : Int)
   ·rw [if_pos c17] at H
    have c17b0:=decide_eq_true c17;clear c17
    obtain ⟨c18,H⟩:=gi_ H;have c18b0:=decide_eq_true c18;clear c18
    obtain ⟨c19,H⟩:=gi_ H;have c19b0:=decide_eq_true c19;clear c19;have HC20:=k0_ H;clear H;have p104 : 0 ≤ (x36_2 : Int):=of_decide_eq_true as_;have q104 : x36_2 < (l0_2.length : Int):=of_decide_eq_true as_;obtain ⟨ad104, e104, hx104_0, hx104_1⟩:=at_T158 HR0_2.out x36_2 p104 q104;cases e104;replace hx104_0:=bt_ HB.out hx104_0;replace hx104_1:=bt_ HB.out hx104_1;replace p104:=eq_true p104;replace q104:=eq_true q104
    go_upto_region 9 with (first|((with_reducible refine gate_dst (N:=6) rfl ?_);refine box_event ?hg (N:=6) ?hd (cs:=#[.int .i64 0, .int .i64 0]) (t:=158) ?hr ?_;(case hd=>rfl);(case hg=>rfl);(case hr=>first|(go_simp;done)|(go_simp;rfl));intro gb105 hg w21 hbox hb;have BK105:=k0_ (hbox);have GW105:=k0_ ((by rw [hg];exact (below_size (hb1_ HB.out GE103.out)) : w.heap.size ≤ gb105));have GE105:=k0_ ((by rw [hg];exact (below_size (hb1_ HB.out GE103.out)) : w.heap.size ≤ gb105));replace HB:=k0_ (below_step (hb1_ HB.out GE103.out) hb);have NB103_105:=k0_ ((by rw [hg];exact Nat.ne_of_lt (blk_lt (bg_ BK103.out)) : gb103 ≠ gb105));have NB105_103:=k0_ ((by rw [hg];exact Nat.ne_of_gt (blk_lt (bg_ BK103.out)) : gb105 ≠ gb103));replace BK103:=k0_ (blk_below (bg_ BK103.out) hb);clear hb hbox hg;have hnb22:=NB105_103.out;have hnc22:=NB103_105.out;obtain ⟨hcz23_0,hcz23_1⟩:=bc2_ BK105.out;obtain ⟨hfz23_0,hfz23_1⟩:=bf2_ BK105.out))
    (try simp only [Act.put, q1_,q2_,q3_])
    go_cut [41] (fun v41 wc=>∃ (kq : Nat) (x41_19 : Bool), v41 = .bool x41_19∧Aside0 (convexpl_Check.j2 kq x3_2 x4_2 x36_2 l0_2 (l0_2.length : Int) x36_2 x41_19 a0_0 a0_1 l0_2 ((rd_T158 l0_2 x36_2).f0) ((rd_T158 l0_2 x36_2).f1) = some r)∧Aside0 (kq ≤ k2)∧Aside0 (wc.heap[gb103]? = some (.cells #[.int .i64 a0_0, .int .i64 a0_1, (.slice (some ad104) l0_2.length c0_2)] 83 (0, 0)))∧Aside0 (wc.heap[gb105]? = some (.cells #[.int .i64 ((rd_T158 l0_2 x36_2).f0), .int .i64 ((rd_T158 l0_2 x36_2).f1)] 158 (0, 0)))∧Aside0 (Below w.heap.size w wc))
    case first =>
     have H:=HC20.out;clear HC20
     by_cases c24 : ((rd_T158 l0_2 x36_2).f0) < 1
     rw [if_pos c24] at H;have c24b0:=decide_eq_true c24;clear c24;(first|rw [c24b0]|(simp only [i64_w, i32_w];rw [c24b0])|skip);have H':=k0_ H;clear H;rotate_left;rw [if_neg c24] at H;have c24b0:=decide_eq_false c24;clear c24;(first|rw [c24b0]|(simp only [i64_w, i32_w];rw [c24b0])|skip)
     focus
      by_cases c27 : ((rd_T158 l0_2 x36_2).f0) > 2000000
      rw [if_pos c27] at H;have c27b0:=decide_eq_true c27;clear c27;have H':=k0_ H;clear H;rotate_left;rw [if_neg c27] at H;have c27b0:=decide_eq_false c27;clear c27
      focus
       by_cases c30 : ((rd_T158 l0_2 x36_2).f1) < (-10000000)
       rw [if_pos c30] at H;have c30b0:=decide_eq_true c30;clear c30;have H':=k0_ H;clear H;rotate_left;rw [if_neg c30] at H;have c30b0:=decide_eq_false c30;clear c30;have H':=k0_ H;clear H;rotate_left
      rotate_left 2
     rotate_left 3
     all_goals
      have hnb25:=NB105_103.out;have hnc25:=NB103_105.out;obtain ⟨hcz26_0,hcz26_1⟩:=bc2_ BK105.out;obtain ⟨hfz26_0,hfz26_1⟩:=bf2_ BK105.out;go_wp2
     ·go_meet
      case rel=>exact ⟨_, (true),rs_, H', ⟨by have:=HJ4.out;have:=HK2.out;first|omega|exact Nat.le_refl _⟩,⟨by (with_reducible repeat (first|refine blk_drewN ?_ _|refine blk_drew ?_|refine blk_alloc ?_ _));refine blk_far ?_ NB103_105.out _;(with_reducible repeat (first|refine blk_drewN ?_ _|refine blk_drew ?_|refine blk_alloc ?_ _));refine blk_far ?_ NB103_105.out _;(with_reducible repeat (first|refine blk_drewN ?_ _|refine blk_drew ?_|refine blk_alloc ?_ _));exact BK103.out⟩,⟨by (with_reducible repeat (first|refine blk_drewN ?_ _|refine blk_drew ?_|refine blk_alloc ?_ _));refine blk_put (cs:=#[.int .i64 ((rd_T158 l0_2 x36_2).f0), .int .i64 0]) ?_ 1 _ rfl;(with_reducible repeat (first|refine blk_drewN ?_ _|refine blk_drew ?_|refine blk_alloc ?_ _));refine blk_put (cs:=#[.int .i64 0, .int .i64 0]) ?_ 0 _ rfl;(with_reducible repeat (first|refine blk_drewN ?_ _|refine blk_drew ?_|refine blk_alloc ?_ _));exact BK105.out⟩,⟨hb2_ HB.out GE103.out GE105.out⟩⟩
     ·go_meet
      case rel=>exact ⟨_, (true),rs_, H', ⟨by have:=HJ4.out;have:=HK2.out;first|omega|exact Nat.le_refl _⟩,⟨by (with_reducible repeat (first|refine blk_drewN ?_ _|refine blk_drew ?_|refine blk_alloc ?_ _));refine blk_far ?_ NB103_105.out _;(with_reducible repeat (first|refine blk_drewN ?_ _|refine blk_drew ?_|refine blk_alloc ?_ _));refine blk_far ?_ NB103_105.out _;(with_reducible repeat (first|refine blk_drewN ?_ _|refine blk_drew ?_|refine blk_alloc ?_ _));exact BK103.out⟩,⟨by (with_reducible repeat (first|refine blk_drewN ?_ _|refine blk_drew ?_|refine blk_alloc ?_ _));refine blk_put (cs:=#[.int .i64 ((rd_T158 l0_2 x36_2).f0), .int .i64 0]) ?_ 1 _ rfl;(with_reducible repeat (first|refine blk_drewN ?_ _|refine blk_drew ?_|refine blk_alloc ?_ _));refine blk_put (cs:=#[.int .i64 0, .int .i64 0]) ?_ 0 _ rfl;(with_reducible repeat (first|refine blk_drewN ?_ _|refine blk_drew ?_|refine blk_alloc ?_ _));exact BK105.out⟩,⟨hb2_ HB.out GE103.out GE105.out⟩⟩
     ·go_meet
      case rel=>exact ⟨_, (true),rs_, H', ⟨by have:=HJ4.out;have:=HK2.out;first|omega|exact Nat.le_refl _⟩,⟨by (with_reducible repeat (first|refine blk_drewN ?_ _|refine blk_drew ?_|refine blk_alloc ?_ _));refine blk_far ?_ NB103_105.out _;(with_reducible repeat (first|refine blk_drewN ?_ _|refine blk_drew ?_|refine blk_alloc ?_ _));refine blk_far ?_ NB103_105.out _;(with_reducible repeat (first|refine blk_drewN ?_ _|refine blk_drew ?_|refine blk_alloc ?_ _));exact BK103.out⟩,⟨by (with_reducible repeat (first|refine blk_drewN ?_ _|refine blk_drew ?_|refine blk_alloc ?_ _));refine blk_put (cs:=#[.int .i64 ((rd_T158 l0_2 x36_2).f0), .int .i64 0]) ?_ 1 _ rfl;(with_reducible repeat (first|refine blk_drewN ?_ _|refine blk_drew ?_|refine blk_alloc ?_ _));refine blk_put (cs:=#[.int .i64 0, .int .i64 0]) ?_ 0 _ rfl;(with_reducible repeat (first|refine blk_drewN ?_ _|refine blk_drew ?_|refine blk_alloc ?_ _));exact BK105.out⟩,⟨hb2_ HB.out GE103.out GE105.out⟩⟩
     ·go_meet
      case rel=>exact ⟨_, (decide (((rd_T158 l0_2 x36_2).f1) > 10000000)),rs_, H', ⟨by have:=HJ4.out;have:=HK2.out;first|omega|exact Nat.le_refl _⟩,⟨by (with_reducible repeat (first|refine blk_drewN ?_ _|refine blk_drew ?_|refine blk_alloc ?_ _));refine blk_far ?_ NB103_105.out _;(with_reducible repeat (first|refine blk_drewN ?_ _|refine blk_drew ?_|refine blk_alloc ?_ _));refine blk_far ?_ NB103_105.out _;(with_reducible repeat (first|refine blk_drewN ?_ _|refine blk_drew ?_|refine blk_alloc ?_ _));exact BK103.out⟩,⟨by (with_reducible repeat (first|refine blk_drewN ?_ _|refine blk_drew ?_|refine blk_alloc ?_ _));refine blk_put (cs:=#[.int .i64 ((rd_T158 l0_2 x36_2).f0), .int .i64 0]) ?_ 1 _ rfl;(with_reducible repeat (first|refine blk_drewN ?_ _|refine blk_drew ?_|refine blk_alloc ?_ _));refine blk_put (cs:=#[.int .i64 0, .int .i64 0]) ?_ 0 _ rfl;(with_reducible repeat (first|refine blk_drewN ?_ _|refine blk_drew ?_|refine blk_alloc ?_ _));exact BK105.out⟩,⟨hb2_ HB.out GE103.out GE105.out⟩⟩
    clear HC20;clear c17b0 c18b0 c19b0 hcz23_0 hcz23_1 hfz23_0 hfz23_1 hx104_0 hx104_1 p104 q104;obtain ⟨kq, x41_19, rfl, HA, HJ19, BK103, BK105, HB⟩:=hcut;obtain _|kj19:=kq
    ·exact absurd HA.out (by simp [convexpl_Check.j2])
    have H:=HA.out;clear HA;simp only [convexpl_Check.j2] at H
    by_cases c35 : x41_19 = true
    ·subst c35
     have H1 : (some 4) = some r:=by rw [if_pos rfl] at H;exact H
     clear H;have H:=H1;clear H1;obtain rfl:=Option.some.inj H;go_wp2
     go_ret
     exact ⟨er_, hb2_ HB.out GE103.out GE105.out⟩
    ·replace c35:=Bool.eq_false_iff.mpr c35
     subst c35;have H1 : (if x36_2 > 0 then (if 0 ≤ (wrap64 (x36_2 - 1)) then (if (wrap64 (x36_2 - 1)) < (l0_2.length : Int) then (convexpl_Check.j3 kj19 x3_2 x4_2 l0_2 (l0_2.length : Int) x36_2 (decide (((rd_T158 l0_2 x36_2).f1) ≤ ((rd_T158 l0_2 (wrap64 (x36_2 - 1))).f1))) a0_0 a0_1 l0_2 ((rd_T158 l0_2 x36_2).f0) ((rd_T158 l0_2 x36_2).f1)) else (none)) else (none)) else (convexpl_Check.j3 kj19 x3_2 x4_2 l0_2 (l0_2.length : Int) x36_2 false a0_0 a0_1 l0_2 ((rd_T158 l0_2 x36_2).f0) ((rd_T158 l0_2 x36_2).f1))) = some r:=by rw [if_neg (show ¬ (false = true) by decide)] at H;exact H
     clear H;have H:=H1;clear H1;have HC36:=k0_ H;clear H
     go_upto_region 11 with (fail)
     go_cut [60] (fun v60 wc=>∃ (kq : Nat) (x60_35 : Bool), v60 = .bool x60_35∧Aside0 (convexpl_Check.j3 kq x3_2 x4_2 l0_2 (l0_2.length : Int) x36_2 x60_35 a0_0 a0_1 l0_2 ((rd_T158 l0_2 x36_2).f0) ((rd_T158 l0_2 x36_2).f1) = some r)∧Aside0 (kq ≤ kj19)∧Aside0 (wc.heap[gb103]? = some (.cells #[.int .i64 a0_0, .int .i64 a0_1, (.slice (some ad104) l0_2.length c0_2)] 83 (0, 0)))∧Aside0 (wc.heap[gb105]? = some (.cells #[.int .i64 ((rd_T158 l0_2 x36_2).f0), .int .i64 ((rd_T158 l0_2 x36_2).f1)] 158 (0, 0)))∧Aside0 (Below w.heap.size w wc))
     case first =>
      have H:=HC36.out;clear HC36
      by_cases c37 : x36_2 > 0
      ·rw [if_pos c37] at H
       have c37b0:=decide_eq_true c37;clear c37;(first|rw [c37b0]|(simp only [i64_w, i32_w];rw [c37b0])|skip);obtain ⟨ji38, hji38⟩ : ∃ j_ : Int, (wrap64 (x36_2 - 1)) = j_:=⟨_, rfl⟩;replace H : (if 0 ≤ (ji38) then (if (ji38) < (l0_2.length : Int) then (convexpl_Check.j3 kj19 x3_2 x4_2 l0_2 (l0_2.length : Int) x36_2 (decide (((rd_T158 l0_2 x36_2).f1) ≤ ((rd_T158 l0_2 (ji38)).f1))) a0_0 a0_1 l0_2 ((rd_T158 l0_2 x36_2).f0) ((rd_T158 l0_2 x36_2).f1)) else (none)) else (none)) = some r:=by first|(rw [hji38] at H;exact H)|(simp only [hji38] at H ⊢;exact H)
       have hji38w : (IntKind.i64.wrap (x36_2 - 1)) = ji38:=(i64_w _).trans hji38
       obtain ⟨c39,H⟩:=gi_ H;have c39b0:=decide_eq_true c39;clear c39
       obtain ⟨c40,H⟩:=gi_ H;have c40b0:=decide_eq_true c40;clear c40;have H':=k0_ H;clear H;have hnb41:=NB105_103.out;have hnc41:=NB103_105.out;obtain ⟨hcz42_0,hcz42_1⟩:=bc2_ BK105.out;obtain ⟨hfz42_0,hfz42_1⟩:=bf2_ BK105.out;obtain ⟨hcz43_0,hcz43_1,hcz43_2⟩:=bc3_ BK103.out;obtain ⟨hfz43_0,hfz43_1,hfz43_2⟩:=bf3_ BK103.out;have p106 : 0 ≤ ((ji38) : Int):=of_decide_eq_true as_;have q106 : (ji38) < (l0_2.length : Int):=of_decide_eq_true as_;obtain ⟨ad106, e106, hx106_0, hx106_1⟩:=at_T158 HR0_2.out (ji38) p106 q106;obtain rfl : ad104 = ad106:=(by injection e106);replace hx106_0:=bt_ HB.out hx106_0;replace hx106_1:=bt_ HB.out hx106_1;replace p106:=eq_true p106;replace q106:=eq_true q106;go_wp2
       repeat (go_quiet (fail);try go_wp2)
       go_meet
       case rel=>exact ⟨_, (decide (((rd_T158 l0_2 x36_2).f1) ≤ ((rd_T158 l0_2 (ji38)).f1))),(by first|rfl|(simp;done)|(simp only [← hji38] <;> (first|rfl|simp))|(simp [*];done)), H', ⟨by have:=HJ4.out;have:=HK2.out;have:=HJ19.out;first|omega|exact Nat.le_refl _⟩,⟨bq_ BK103.out⟩,⟨bq_ BK105.out⟩,⟨hb2_ HB.out GE103.out GE105.out⟩⟩
      ·rw [if_neg c37] at H
       have c37b0:=decide_eq_false c37;clear c37;(first|rw [c37b0]|(simp only [i64_w, i32_w];rw [c37b0])|skip);have H':=k0_ H;clear H;go_wp2
       repeat (go_quiet (fail);try go_wp2)
       go_meet
       case rel=>exact ⟨_, (false),rs_, H', ⟨by have:=HJ4.out;have:=HK2.out;have:=HJ19.out;first|omega|exact Nat.le_refl _⟩,⟨bq_ BK103.out⟩,⟨bq_ BK105.out⟩,⟨hb2_ HB.out GE103.out GE105.out⟩⟩
     clear HC36;obtain ⟨kq, x60_35, rfl, HA, HJ35, BK103, BK105, HB⟩:=hcut;obtain _|kj35:=kq
     ·exact absurd HA.out (by simp [convexpl_Check.j3])
     have H:=HA.out;clear HA;simp only [convexpl_Check.j3] at H
     by_cases c44 : x60_35 = true
     ·subst c44
      have H1 : (some 3) = some r:=by rw [if_pos rfl] at H;exact H
      clear H;have H:=H1;clear H1;obtain rfl:=Option.some.inj H;go_wp2
      go_ret
      exact ⟨er_, hb2_ HB.out GE103.out GE105.out⟩
     ·replace c44:=Bool.eq_false_iff.mpr c44
      subst c44;have H1 : (if (wrap64 (x3_2 + ((rd_T158 l0_2 x36_2).f0))) > 1000000 then (some 4) else (if (wrap64 (x4_2 + (wrap64 (((rd_T158 l0_2 x36_2).f0) * ((rd_T158 l0_2 x36_2).f1))))) < (-1000000000000000) then (some 4) else (if (wrap64 (x4_2 + (wrap64 (((rd_T158 l0_2 x36_2).f0) * ((rd_T158 l0_2 x36_2).f1))))) > 1000000000000000 then (some 4) else (convexpl_Check.l0 kj35 (wrap64 (x3_2 + ((rd_T158 l0_2 x36_2).f0))) (wrap64 (x4_2 + (wrap64 (((rd_T158 l0_2 x36_2).f0) * ((rd_T158 l0_2 x36_2).f1))))) l0_2 (l0_2.length : Int) (wrap64 (x36_2 + 1)) a0_0 a0_1 l0_2)))) = some r:=by rw [if_neg (show ¬ (false = true) by decide)] at H;exact H
      clear H;have H:=H1;clear H1
      by_cases c45 : (wrap64 (x3_2 + ((rd_T158 l0_2 x36_2).f0))) > 1000000
      rw [if_pos c45] at H;have c45b0:=decide_eq_true c45;clear c45;obtain rfl:=Option.some.inj H;rotate_left;rw [if_neg c45] at H;have c45b0:=decide_eq_false c45;clear c45
      focus
       by_cases c48 : (wrap64 (x4_2 + (wrap64 (((rd_T158 l0_2 x36_2).f0) * ((rd_T158 l0_2 x36_2).f1))))) < (-1000000000000000)
       rw [if_pos c48] at H;have c48b0:=decide_eq_true c48;clear c48;obtain rfl:=Option.some.inj H;rotate_left;rw [if_neg c48] at H;have c48b0:=decide_eq_false c48;clear c48
       focus
        by_cases c51 : (wrap64 (x4_2 + (wrap64 (((rd_T158 l0_2 x36_2).f0) * ((rd_T158 l0_2 x36_2).f1))))) > 1000000000000000
        rw [if_pos c51] at H;have c51b0:=decide_eq_true c51;clear c51;obtain rfl:=Option.some.inj H;rotate_left;rw [if_neg c51] at H;have c51b0:=decide_eq_false c51;clear c51;have H':=k0_ H;clear H;rotate_left
       rotate_left 2
      rotate_left 3
      all_goals
       have hnb46:=NB105_103.out;have hnc46:=NB103_105.out;obtain ⟨hcz47_0,hcz47_1⟩:=bc2_ BK105.out;obtain ⟨hfz47_0,hfz47_1⟩:=bf2_ BK105.out;go_wp2
       repeat (go_quiet (fail);try go_wp2)
      ·go_ret
       exact ⟨er_, hb2_ HB.out GE103.out GE105.out⟩
      ·go_ret
       exact ⟨er_, hb2_ HB.out GE103.out GE105.out⟩
      ·go_ret
       exact ⟨er_, hb2_ HB.out GE103.out GE105.out⟩
      ·go_roundg kj35
       case measure=>have:=HJ4.out;have:=HK2.out;have:=HJ19.out;have:=HJ35.out;omega
       case rel=>exact ⟨(wrap64 (x3_2 + ((rd_T158 l0_2 x36_2).f0))),(wrap64 (x4_2 + (wrap64 (((rd_T158 l0_2 x36_2).f0) * ((rd_T158 l0_2 x36_2).f1))))),(wrap64 (x36_2 + 1)),rs_,rs_,rs_, H', ⟨by have:=HJ4.out;have:=HK2.out;have:=HJ19.out;have:=HJ35.out;omega⟩,⟨bq_ BK103.out⟩,⟨hb2_ HB.out GE103.out GE105.out⟩⟩
   ·rw [if_neg c17] at H
    have c17b0:=decide_eq_false c17;clear c17;obtain rfl:=Option.some.inj H;go_wp2
    go_ret
    exact ⟨er_, hb1_ HB.out GE103.out⟩

end Go.Proofs.Ytdphghdjljplpaa.PTopStorage
