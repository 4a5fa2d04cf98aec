/- Contracts of functions that TopHours reaches, a text of this session's own. -/
import Derived.Test.YtdphghdjljplpaaBox2
import Derived.Test.YtdphghdjljplpaaHTopHoursy0
import Derived.Test.YtdphghdjljplpaaHTopHoursy2
namespace Go.Proofs.Ytdphghdjljplpaa.PTopHours
open Go.RowKit Go.Proofs.YtdphghdjljplpaaW.PrintWords Go.Proofs.YtdphghdjljplpaaW.PrintLast Go.Proofs.YtdphghdjljplpaaW.PrintMore
attribute [local go_sem] max2_int min2_int max_two min_two max_three min_three max_four min_four   -- for this text's walks alone
set_option linter.unusedVariables false
set_option linter.unusedSimpArgs false

/-! ### offer_Most: function 36 -/
def offer_Most.l0 : Nat → Int → List (S96) → Int → Int → Option (Int)
 | 0, _, _, _, _ => none
 | k + 1, x3, x7, x8, x9 => if x9 < x8 then (if 0 ≤ x9 then (if x9 < (x7.length : Int) then (offer_Most.l0 k (wrap64 (x3 + ((rd_T96 x7 x9).f0))) x7 x8 (wrap64 (x9 + 1))) else (none)) else (none)) else (some x3)
def offer_Most.f (k : Nat) (a0_0 : ByteArray) (l0_1 : List (S96)) : Option (Int) := offer_Most.l0 k 0 l0_1 (l0_1.length : Int) 0
theorem offer_Most.mono_l : ∀ k, (∀ y0 y1 y2 y3, LeO (offer_Most.l0 k y0 y1 y2 y3) (offer_Most.l0 (k + 1) y0 y1 y2 y3))
 | 0 => fun _ _ _ _ r h => by simp [offer_Most.l0] at h
 | k + 1 => by
  have ih0:=offer_Most.mono_l k
  ·intro y0 y1 y2 y3
   unfold offer_Most.l0
   repeat' first|(with_reducible first|exact ih0 _ _ _ _|exact LeO.refl _|exact LeO.none _|refine LeO.ite ?_ ?_|refine LeO.bind ?_ (fun _=>?_))|exact ih0 _ _ _ _|exact LeO.none _|refine LeO.ite ?_ ?_|refine LeO.bind ?_ (fun _=>?_)
theorem offer_Most.mono : ∀ a0 a1 k, LeO (offer_Most.f k a0 a1) (offer_Most.f (k + 1) a0 a1) := by
 intro a0 a1 k
 have ih0:=offer_Most.mono_l k
 unfold offer_Most.f
 repeat' first|(with_reducible first|exact ih0 _ _ _ _|exact LeO.refl _|exact LeO.none _|refine LeO.ite ?_ ?_|refine LeO.bind ?_ (fun _=>?_))|exact ih0 _ _ _ _|exact LeO.none _|refine LeO.ite ?_ ?_|refine LeO.bind ?_ (fun _=>?_)
set_option maxHeartbeats 8000000 in
set_option maxRecDepth 100000 in
theorem offer_Most.calls (k : Nat) (a0_0 : ByteArray) (A0_1 : Option Addr) (c0_1 : Nat) (l0_1 : List (S96)) (r : Int) (w : World) (hr0_1 : Kd.C k96 w A0_1 l0_1.length l0_1) (hc0_1 : l0_1.length ≤ c0_1) (h : offer_Most.f k a0_0 l0_1 = some r) :
  Calls Try.prog 36 #[.agg #[.string a0_0, .slice A0_1 l0_1.length c0_1]] w fun e w' => e = .returned (.int .i64 r) ∧ Below w.heap.size w w' := by
 have hu31:=Try.underlying31;have hu96:=Try.underlying96;have HR0_1:=k0_ hr0_1;have HC0_1:=k0_ hc0_1;clear hr0_1 hc0_1;have HB:=k0_ (Below.refl w.heap.size w);have H : (offer_Most.l0 k 0 l0_1 (l0_1.length : Int) 0) = some r:=h;clear h;have H':=k0_ H;clear H
 go_enter Try.func36, Try.ntmps36
 go_wp2_with (first|((with_reducible refine gate_dst (N:=1) rfl ?_);refine box_event ?hg (N:=1) ?hd (cs:=#[.string a0_0, .slice A0_1 l0_1.length c0_1]) (t:=31) ?hr ?_;(case hd=>rfl);(case hg=>rfl);(case hr=>first|(go_simp;done)|(go_simp;rfl));intro gb115 hg w2 hbox hb;have BK115:=k0_ (hbox);have GW115:=k0_ ((by rw [hg];exact (below_size (hb0_ HB.out)) : w.heap.size ≤ gb115));have GE115:=k0_ ((by rw [hg];exact (below_size (hb0_ HB.out)) : w.heap.size ≤ gb115));replace HB:=k0_ (below_step (hb0_ HB.out) hb);clear hb hbox hg;obtain ⟨hcz3_0,hcz3_1⟩:=bc2_ BK115.out;obtain ⟨hfz3_0,hfz3_1⟩:=bf2_ BK115.out))
 (try simp only [Act.put, q1_,q3_,q2_])
 go_loopg [3, 9] k (fun kq v3 v9 w'=>∃ (x3_1 : Int) (x9_1 : Int), v3 = .int .i64 x3_1∧v9 = .int .i64 x9_1∧Aside0 (offer_Most.l0 kq x3_1 l0_1 (l0_1.length : Int) x9_1 = some r)∧Aside0 (kq ≤ k)∧Aside0 (w'.heap[gb115]? = some (.cells #[.string a0_0, (.slice A0_1 l0_1.length c0_1)] 31 (0, 0)))∧Aside0 (Below w.heap.size w w'))
 case atStart=>exact ⟨(0),(0),rs_,rs_, H', ⟨Nat.le_refl _⟩,⟨bq_ BK115.out⟩,⟨hb1_ HB.out GE115.out⟩⟩
 clear H';(try clear p2);(try clear c3);(try clear hcz3_0);(try clear hcz3_1);(try clear hfz3_0);(try clear hfz3_1);obtain ⟨x3_1, x9_1, rfl, rfl, HA, HK1, BK115, HB⟩:=hrel;obtain _|k1:=gk
 ·exact absurd HA.out (by simp [offer_Most.l0])
 have H:=HA.out;clear HA;simp only [offer_Most.l0] at H
 by_cases c4 : x9_1 < (l0_1.length : Int)
 ·rw [if_pos c4] at H
  have c4b0:=decide_eq_true c4;clear c4
  obtain ⟨c5,H⟩:=gi_ H;have c5b0:=decide_eq_true c5;clear c5
  obtain ⟨c6,H⟩:=gi_ H;have c6b0:=decide_eq_true c6;clear c6;have H':=k0_ H;clear H;have p116 : 0 ≤ (x9_1 : Int):=of_decide_eq_true as_;have q116 : x9_1 < (l0_1.length : Int):=of_decide_eq_true as_;obtain ⟨ad116, e116, hx116_0, hx116_1⟩:=at_T96 HR0_1.out x9_1 p116 q116;cases e116;replace hx116_0:=bt_ HB.out hx116_0;replace hx116_1:=bt_ HB.out hx116_1;replace p116:=eq_true p116;replace q116:=eq_true q116
  go_wp2_with (first|((with_reducible refine gate_dst (N:=5) rfl ?_);refine box_event ?hg (N:=5) ?hd (cs:=#[.int .i64 0, .int .i64 0]) (t:=96) ?hr ?_;(case hd=>rfl);(case hg=>rfl);(case hr=>first|(go_simp;done)|(go_simp;rfl));intro gb117 hg w7 hbox hb;have BK117:=k0_ (hbox);have GW117:=k0_ ((by rw [hg];exact (below_size (hb1_ HB.out GE115.out)) : w.heap.size ≤ gb117));have GE117:=k0_ ((by rw [hg];exact (below_size (hb1_ HB.out GE115.out)) : w.heap.size ≤ gb117));replace HB:=k0_ (below_step (hb1_ HB.out GE115.out) hb);have NB115_117:=k0_ ((by rw [hg];exact Nat.ne_of_lt (blk_lt (g:=gb115) (o:=.cells #[.string a0_0, .slice (some ad116) l0_1.length c0_1] 31 (0, 0)) (bq_ BK115.out)) : gb115 ≠ gb117));have NB117_115:=k0_ ((by rw [hg];exact Nat.ne_of_gt (blk_lt (g:=gb115) (o:=.cells #[.string a0_0, .slice (some ad116) l0_1.length c0_1] 31 (0, 0)) (bq_ BK115.out)) : gb117 ≠ gb115));replace BK115:=k0_ (blk_below (g:=gb115) (o:=.cells #[.string a0_0, .slice (some ad116) l0_1.length c0_1] 31 (0, 0)) (bq_ BK115.out) hb);clear hb hbox hg;have hnb8:=NB117_115.out;have hnc8:=NB115_117.out;obtain ⟨hcz9_0,hcz9_1⟩:=bc2_ BK117.out;obtain ⟨hfz9_0,hfz9_1⟩:=bf2_ BK117.out))
  go_roundg k1
  case measure=>have:=HK1.out;omega
  case rel=>exact ⟨(wrap64 (x3_1 + ((rd_T96 l0_1 x9_1).f0))),(wrap64 (x9_1 + 1)),rs_,rs_, H', ⟨by have:=HK1.out;omega⟩,⟨by (with_reducible repeat (first|refine blk_drewN ?_ _|refine blk_drew ?_|refine blk_alloc ?_ _));refine blk_far ?_ NB115_117.out _;(with_reducible repeat (first|refine blk_drewN ?_ _|refine blk_drew ?_|refine blk_alloc ?_ _));refine blk_far ?_ NB115_117.out _;(with_reducible repeat (first|refine blk_drewN ?_ _|refine blk_drew ?_|refine blk_alloc ?_ _));exact BK115.out⟩,⟨hb2_ HB.out GE115.out GE117.out⟩⟩
 ·rw [if_neg c4] at H
  have c4b0:=decide_eq_false c4;clear c4;obtain rfl:=Option.some.inj H;go_wp2
  go_ret
  exact ⟨er_, hb1_ HB.out GE115.out⟩

-- NOT PRINTED: function 107 (hours_step_107)

-- NOT PRINTED: function 124 (hours_step_124)

-- NOT PRINTED: function 119 (hours_step_119)

-- NOT PRINTED: function 108 (hours_step_108)

-- NOT PRINTED: function 79 (hours_step_79)

-- NOT PRINTED: function 37 (hours_step_37)

/-! ### offer_Cost: function 40 -/
mutual
def offer_Cost.j0 : Nat → Int → Bool → ByteArray → List (S96) → Option (Int × Int)
 | 0, _, _, _, _ => none
 | k + 1, x1, x23, x119000, x119001 => if x23 = true then (some (0, 4)) else (offer_Cost.l0 k x1 0 x119001 (x119001.length : Int) 0)
def offer_Cost.l0 : Nat → Int → Int → List (S96) → Int → Int → Option (Int × Int)
 | 0, _, _, _, _, _ => none
 | k + 1, x1, x7, x25, x26, x27 => if x27 < x26 then (if 0 ≤ x27 then (if x27 < (x25.length : Int) then (offer_Cost.l0 k (wrap64 (x1 - (mn x1 ((rd_T96 x25 x27).f0)))) (wrap64 (x7 + (wrap64 ((mn x1 ((rd_T96 x25 x27).f0)) * ((rd_T96 x25 x27).f1))))) x25 x26 (wrap64 (x27 + 1))) else (none)) else (none)) else (some (x7, 0))
end
def offer_Cost.f (k : Nat) (a0_0 : ByteArray) (l0_1 : List (S96)) (a1 : Int) : Option (Int × Int) := (offer_Check.f k a0_0 l0_1).bind fun t119 => (if t119 = 0 then (if a1 < 0 then (offer_Cost.j0 k a1 true a0_0 l0_1) else ((offer_Most.f k a0_0 l0_1).bind fun t120 => (offer_Cost.j0 k a1 (decide (a1 > t120)) a0_0 l0_1))) else (some (0, t119)))
theorem offer_Cost.mono_l : ∀ k, (∀ y0 y1 y2 y3, LeO (offer_Cost.j0 k y0 y1 y2 y3) (offer_Cost.j0 (k + 1) y0 y1 y2 y3)) ∧ (∀ y0 y1 y2 y3 y4, LeO (offer_Cost.l0 k y0 y1 y2 y3 y4) (offer_Cost.l0 (k + 1) y0 y1 y2 y3 y4))
 | 0 => ⟨fun _ _ _ _ r h => by simp [offer_Cost.j0] at h, fun _ _ _ _ _ r h => by simp [offer_Cost.l0] at h⟩
 | k + 1 => by
  obtain ⟨ih0, ih1⟩:=offer_Cost.mono_l k
  refine ⟨?_, ?_⟩
  ·intro y0 y1 y2 y3
   unfold offer_Cost.j0
   repeat' first|(with_reducible first|exact ih0 _ _ _ _|exact ih1 _ _ _ _ _|exact offer_Check.mono _ _ _|exact offer_Most.mono _ _ _|exact LeO.refl _|exact LeO.none _|refine LeO.ite ?_ ?_|refine LeO.bind ?_ (fun _=>?_))|exact ih0 _ _ _ _|exact ih1 _ _ _ _ _|exact offer_Check.mono _ _ _|exact offer_Most.mono _ _ _|exact LeO.none _|refine LeO.ite ?_ ?_|refine LeO.bind ?_ (fun _=>?_)
  ·intro y0 y1 y2 y3 y4
   unfold offer_Cost.l0
   repeat' first|(with_reducible first|exact ih0 _ _ _ _|exact ih1 _ _ _ _ _|exact offer_Check.mono _ _ _|exact offer_Most.mono _ _ _|exact LeO.refl _|exact LeO.none _|refine LeO.ite ?_ ?_|refine LeO.bind ?_ (fun _=>?_))|exact ih0 _ _ _ _|exact ih1 _ _ _ _ _|exact offer_Check.mono _ _ _|exact offer_Most.mono _ _ _|exact LeO.none _|refine LeO.ite ?_ ?_|refine LeO.bind ?_ (fun _=>?_)
theorem offer_Cost.mono : ∀ a0 a1 a2 k, LeO (offer_Cost.f k a0 a1 a2) (offer_Cost.f (k + 1) a0 a1 a2) := by
 intro a0 a1 a2 k
 obtain ⟨ih0, ih1⟩:=offer_Cost.mono_l k
 unfold offer_Cost.f
 repeat' first|(with_reducible first|exact ih0 _ _ _ _|exact ih1 _ _ _ _ _|exact offer_Check.mono _ _ _|exact offer_Most.mono _ _ _|exact LeO.refl _|exact LeO.none _|refine LeO.ite ?_ ?_|refine LeO.bind ?_ (fun _=>?_))|exact ih0 _ _ _ _|exact ih1 _ _ _ _ _|exact offer_Check.mono _ _ _|exact offer_Most.mono _ _ _|exact LeO.none _|refine LeO.ite ?_ ?_|refine LeO.bind ?_ (fun _=>?_)
set_option maxHeartbeats 8000000 in
set_option maxRecDepth 100000 in
theorem offer_Cost.calls (k : Nat) (a0_0 : ByteArray) (A0_1 : Option Addr) (c0_1 : Nat) (l0_1 : List (S96)) (a1 : Int) (r1 : Int) (r2 : Int) (w : World) (hr0_1 : Kd.C k96 w A0_1 l0_1.length l0_1) (hc0_1 : l0_1.length ≤ c0_1) (h : offer_Cost.f k a0_0 l0_1 a1 = some (r1, r2)) :
  Calls Try.prog 40 #[.agg #[.string a0_0, .slice A0_1 l0_1.length c0_1], .int .i64 a1] w fun e w' => e = .returned (.tuple #[.int .i64 r1, .int .i64 r2]) ∧ Below w.heap.size w w' := by
 have hu31:=Try.underlying31;have hu96:=Try.underlying96;have HR0_1:=k0_ hr0_1;have HC0_1:=k0_ hc0_1;clear hr0_1 hc0_1;have HB:=k0_ (Below.refl w.heap.size w);have H : ((offer_Check.f k a0_0 l0_1).bind fun t119=>(if t119 = 0 then (if a1 < 0 then (offer_Cost.j0 k a1 true a0_0 l0_1) else ((offer_Most.f k a0_0 l0_1).bind fun t120=>(offer_Cost.j0 k a1 (decide (a1 > t120)) a0_0 l0_1))) else (some (0, t119)))) = some (r1, r2):=h;clear h;replace H:=Option.bind_eq_some_iff.mp H;obtain ⟨t119, A30, H⟩:=H;replace H : (if t119 = 0 then (if a1 < 0 then (offer_Cost.j0 k a1 true a0_0 l0_1) else ((offer_Most.f k a0_0 l0_1).bind fun t120=>(offer_Cost.j0 k a1 (decide (a1 > t120)) a0_0 l0_1))) else (some (0, t119))) = some (r1, r2):=H;have A3:=k0_ A30;clear A30
 by_cases c4 : t119 = 0
 ·rw [if_pos c4] at H
  have c4b0:=beq_iff_eq.mpr c4;have c4b1:=bne_eq_false_iff_eq.mpr c4;clear c4;have HC5:=k0_ H;clear H
  go_enter Try.func40, Try.ntmps40
  go_upto_region 4 with (first|((with_reducible refine gate_dst (N:=2) rfl ?_);refine box_event ?hg (N:=2) ?hd (cs:=#[.string a0_0, .slice A0_1 l0_1.length c0_1]) (t:=31) ?hr ?_;(case hd=>rfl);(case hg=>rfl);(case hr=>first|(go_simp;done)|(go_simp;rfl));intro gb118 hg w6 hbox hb;have BK118:=k0_ (hbox);have GW118:=k0_ ((by rw [hg];exact (below_size (hb0_ HB.out)) : w.heap.size ≤ gb118));have GE118:=k0_ ((by rw [hg];exact (below_size (hb0_ HB.out)) : w.heap.size ≤ gb118));replace HB:=k0_ (below_step (hb0_ HB.out) hb);clear hb hbox hg;obtain ⟨hcz7_0,hcz7_1⟩:=bc2_ BK118.out;obtain ⟨hfz7_0,hfz7_1⟩:=bf2_ BK118.out)|((with_reducible refine gate_callee (f:=78) rfl ?_);refine goesL_ (some 12) rfl rfl Try.func78 (by kernel_rfl) rfl #[.agg #[.string a0_0, .slice A0_1 l0_1.length c0_1]] rfl mt_ ?_;(with_reducible refine (offer_Check.calls k a0_0 _ _ l0_1 t119 _ ?side1 ?side2 A3.out).mono ?_);(case side1=>repeat (first|exact (Kd.C_below HR0_1.out HB.out)|(with_reducible refine Kd.C_alloc ?_ _)|(with_reducible refine Kd.C_drewN ?_ _)|(with_reducible refine Kd.C_drew ?_)));(case side2=>exact HC0_1.out);rintro e w8 ⟨rfl, hb⟩;refine ⟨_, rfl, ?_⟩;replace BK118:=k0_ (blk_below (g:=gb118) (o:=.cells #[.string a0_0, .slice A0_1 l0_1.length c0_1] 31 (0, 0)) (bq_ BK118.out) hb);replace HB:=k0_ (below_step (hb1_ HB.out GE118.out) hb);(try clear hb);(try clear hb2);(try clear hk);(try clear hi)))
  (try simp only [Act.put, q1_,q2_,q3_])
  go_cut [23] (fun v23 wc=>∃ (kq : Nat) (x23_4 : Bool), v23 = .bool x23_4∧Aside0 (offer_Cost.j0 kq a1 x23_4 a0_0 l0_1 = some (r1, r2))∧Aside0 (kq ≤ k)∧Aside0 (wc.heap[gb118]? = some (.cells #[.string a0_0, (.slice A0_1 l0_1.length c0_1)] 31 (0, 0)))∧Aside0 (Below w.heap.size w wc))
  case first =>
   have H:=HC5.out;clear HC5
   by_cases c9 : a1 < 0
   ·rw [if_pos c9] at H
    have c9b0:=decide_eq_true c9;clear c9;(first|rw [c9b0]|(simp only [i64_w, i32_w];rw [c9b0])|skip);have H':=k0_ H;clear H;go_wp2
    go_meet
    case rel=>exact ⟨_, (true),rs_, H', ⟨by first|omega|exact Nat.le_refl _⟩,⟨bq_ BK118.out⟩,⟨hb1_ HB.out GE118.out⟩⟩
   ·rw [if_neg c9] at H
    have c9b0:=decide_eq_false c9;clear c9;(first|rw [c9b0]|(simp only [i64_w, i32_w];rw [c9b0])|skip);replace H:=Option.bind_eq_some_iff.mp H;obtain ⟨t120, A100, H⟩:=H;replace H : (offer_Cost.j0 k a1 (decide (a1 > t120)) a0_0 l0_1) = some (r1, r2):=H;have A10:=k0_ A100;clear A100;have H':=k0_ H;clear H;obtain ⟨hcz11_0,hcz11_1⟩:=bc2_ BK118.out;obtain ⟨hfz11_0,hfz11_1⟩:=bf2_ BK118.out
    go_wp2_with (first|(go_at_call 36;(with_reducible refine (offer_Most.calls k a0_0 _ _ l0_1 t120 _ ?side1 ?side2 A10.out).mono ?_);(case side1=>repeat (first|exact (Kd.C_below HR0_1.out HB.out)|(with_reducible refine Kd.C_alloc ?_ _)|(with_reducible refine Kd.C_drewN ?_ _)|(with_reducible refine Kd.C_drew ?_)));(case side2=>exact HC0_1.out);rintro e w12 ⟨rfl, hb⟩;replace BK118:=k0_ (blk_below (g:=gb118) (o:=.cells #[.string a0_0, .slice A0_1 l0_1.length c0_1] 31 (0, 0)) (bq_ BK118.out) hb);replace HB:=k0_ (below_step (hb1_ HB.out GE118.out) hb);(try clear hb);(try clear hb2);(try clear hk);(try clear hi)))
    go_meet
    case rel=>exact ⟨_, (decide (a1 > t120)),rs_, H', ⟨by first|omega|exact Nat.le_refl _⟩,⟨bq_ BK118.out⟩,⟨hb1_ HB.out GE118.out⟩⟩
  clear HC5;(try clear p2);(try clear c4);(try clear c4b0);(try clear c4b1);(try clear c7);(try clear c9);(try clear c9b0);(try clear hcz11_0);(try clear hcz11_1);(try clear hcz7_0);(try clear hcz7_1);(try clear hfz11_0);(try clear hfz11_1);(try clear hfz7_0);(try clear hfz7_1);obtain ⟨kq, x23_4, rfl, HA, HJ4, BK118, HB⟩:=hcut;obtain _|kj4:=kq
  ·exact absurd HA.out (by simp [offer_Cost.j0])
  have H:=HA.out;clear HA;simp only [offer_Cost.j0] at H
  by_cases c13 : x23_4 = true
  ·subst c13
   have H1 : (some (0, 4)) = some (r1, r2):=by rw [if_pos rfl] at H;exact H
   clear H;have H:=H1;clear H1;simp only [Option.some.injEq, Prod.mk.injEq] at H;obtain ⟨rfl, rfl⟩:=H;go_wp2
   go_ret2
   exact ⟨er_, hb1_ HB.out GE118.out⟩
  ·replace c13:=Bool.eq_false_iff.mpr c13
   subst c13;have H1 : (offer_Cost.l0 kj4 a1 0 l0_1 (l0_1.length : Int) 0) = some (r1, r2):=by rw [if_neg (show ¬ (false = true) by decide)] at H;exact H
   clear H;have H:=H1;clear H1;have H':=k0_ H;clear H;obtain ⟨hcz14_0,hcz14_1⟩:=bc2_ BK118.out;obtain ⟨hfz14_0,hfz14_1⟩:=bf2_ BK118.out;go_wp2;(try simp only [Act.put, q1_,q3_,q2_])
   go_loopg [1, 7, 27] kj4 (fun kq v1 v7 v27 w'=>∃ (x1_2 : Int) (x7_2 : Int) (x27_2 : Int), v1 = .int .i64 x1_2∧v7 = .int .i64 x7_2∧v27 = .int .i64 x27_2∧Aside0 (offer_Cost.l0 kq x1_2 x7_2 l0_1 (l0_1.length : Int) x27_2 = some (r1, r2))∧Aside0 (kq ≤ kj4)∧Aside0 (w'.heap[gb118]? = some (.cells #[.string a0_0, (.slice A0_1 l0_1.length c0_1)] 31 (0, 0)))∧Aside0 (Below w.heap.size w w'))
   case atStart=>exact ⟨(a1),(0),(0),rs_,rs_,rs_, H', ⟨Nat.le_refl _⟩,⟨bq_ BK118.out⟩,⟨hb1_ HB.out GE118.out⟩⟩
   clear H';(try clear c1);(try clear p2);(try clear c4);(try clear c4b0);(try clear c4b1);(try clear c7);(try clear c9);(try clear c9b0);(try clear c13);(try clear hcz11_0);(try clear hcz11_1);(try clear hcz14_0);(try clear hcz14_1);(try clear hcz7_0);(try clear hcz7_1);(try clear hfz11_0);(try clear hfz11_1);(try clear hfz14_0);(try clear hfz14_1);(try clear hfz7_0);(try clear hfz7_1);(try clear p2);obtain ⟨x1_2, x7_2, x27_2, rfl, rfl, rfl, HA, HK2, BK118, HB⟩:=hrel;obtain _|k2:=gk
   ·exact absurd HA.out (by simp [offer_Cost.l0])
   have H:=HA.out;clear HA;simp only [offer_Cost.l0] at H
   by_cases c15 : x27_2 < (l0_1.length : Int)
   ·rw [if_pos c15] at H
    have c15b0:=decide_eq_true c15;clear c15
    obtain ⟨c16,H⟩:=gi_ H;have c16b0:=decide_eq_true c16;clear c16
    obtain ⟨c17,H⟩:=gi_ H;have c17b0:=decide_eq_true c17;clear c17;obtain ⟨ji18, hji18⟩ : ∃ j_ : Int, (mn x1_2 ((rd_T96 l0_1 x27_2).f0)) = j_:=⟨_, rfl⟩;replace H : (offer_Cost.l0 k2 (wrap64 (x1_2 - (ji18))) (wrap64 (x7_2 + (wrap64 ((ji18) * ((rd_T96 l0_1 x27_2).f1))))) l0_1 (l0_1.length : Int) (wrap64 (x27_2 + 1))) = some (r1, r2):=by first|(rw [hji18] at H;exact H)|(simp only [hji18] at H ⊢;exact H)
    have hji18_ : (if ((rd_T96 l0_1 x27_2).f0) < x1_2 then ((rd_T96 l0_1 x27_2).f0) else x1_2) = ji18:=hji18;have H':=k0_ H;clear H;have p121 : 0 ≤ (x27_2 : Int):=of_decide_eq_true as_;have q121 : x27_2 < (l0_1.length : Int):=of_decide_eq_true as_;obtain ⟨ad121, e121, hx121_0, hx121_1⟩:=at_T96 HR0_1.out x27_2 p121 q121;cases e121;replace hx121_0:=bt_ HB.out hx121_0;replace hx121_1:=bt_ HB.out hx121_1;replace p121:=eq_true p121;replace q121:=eq_true q121
    go_wp2_with (first|((with_reducible refine gate_dst (N:=9) rfl ?_);refine box_event ?hg (N:=9) ?hd (cs:=#[.int .i64 0, .int .i64 0]) (t:=96) ?hr ?_;(case hd=>rfl);(case hg=>rfl);(case hr=>first|(go_simp;done)|(go_simp;rfl));intro gb122 hg w19 hbox hb;have BK122:=k0_ (hbox);have GW122:=k0_ ((by rw [hg];exact (below_size (hb1_ HB.out GE118.out)) : w.heap.size ≤ gb122));have GE122:=k0_ ((by rw [hg];exact (below_size (hb1_ HB.out GE118.out)) : w.heap.size ≤ gb122));replace HB:=k0_ (below_step (hb1_ HB.out GE118.out) hb);have NB118_122:=k0_ ((by rw [hg];exact Nat.ne_of_lt (blk_lt (g:=gb118) (o:=.cells #[.string a0_0, .slice (some ad121) l0_1.length c0_1] 31 (0, 0)) (bq_ BK118.out)) : gb118 ≠ gb122));have NB122_118:=k0_ ((by rw [hg];exact Nat.ne_of_gt (blk_lt (g:=gb118) (o:=.cells #[.string a0_0, .slice (some ad121) l0_1.length c0_1] 31 (0, 0)) (bq_ BK118.out)) : gb122 ≠ gb118));replace BK118:=k0_ (blk_below (g:=gb118) (o:=.cells #[.string a0_0, .slice (some ad121) l0_1.length c0_1] 31 (0, 0)) (bq_ BK118.out) hb);clear hb hbox hg;have hnb20:=NB122_118.out;have hnc20:=NB118_122.out;obtain ⟨hcz21_0,hcz21_1⟩:=bc2_ BK122.out;obtain ⟨hfz21_0,hfz21_1⟩:=bf2_ BK122.out))
    go_roundg k2
    case measure=>have:=HJ4.out;have:=HK2.out;omega
    case rel=>exact ⟨(wrap64 (x1_2 - (ji18))),(wrap64 (x7_2 + (wrap64 ((ji18) * ((rd_T96 l0_1 x27_2).f1))))),(wrap64 (x27_2 + 1)),(by first|rfl|(simp;done)|(simp only [← hji18] <;> (first|rfl|simp))|(simp [*];done)),(by first|rfl|(simp;done)|(simp only [← hji18] <;> (first|rfl|simp))|(simp [*];done)),rs_, H', ⟨by have:=HJ4.out;have:=HK2.out;omega⟩,⟨by (with_reducible repeat (first|refine blk_drewN ?_ _|refine blk_drew ?_|refine blk_alloc ?_ _));refine blk_far ?_ NB118_122.out _;(with_reducible repeat (first|refine blk_drewN ?_ _|refine blk_drew ?_|refine blk_alloc ?_ _));refine blk_far ?_ NB118_122.out _;(with_reducible repeat (first|refine blk_drewN ?_ _|refine blk_drew ?_|refine blk_alloc ?_ _));exact BK118.out⟩,⟨hb2_ HB.out GE118.out GE122.out⟩⟩
   ·rw [if_neg c15] at H
    have c15b0:=decide_eq_false c15;clear c15;simp only [Option.some.injEq, Prod.mk.injEq] at H;obtain ⟨rfl, rfl⟩:=H;go_wp2
    go_ret2
    exact ⟨er_, hb1_ HB.out GE118.out⟩
 ·rw [if_neg c4] at H
  have c4b0:=beq_eq_false_iff_ne.mpr c4;have c4b1:=bne_iff_ne.mpr c4;simp only [Option.some.injEq, Prod.mk.injEq] at H;obtain ⟨rfl, rfl⟩:=H
  go_enter Try.func40, Try.ntmps40
  go_wp2_with (first|((with_reducible refine gate_dst (N:=2) rfl ?_);refine box_event ?hg (N:=2) ?hd (cs:=#[.string a0_0, .slice A0_1 l0_1.length c0_1]) (t:=31) ?hr ?_;(case hd=>rfl);(case hg=>rfl);(case hr=>first|(go_simp;done)|(go_simp;rfl));intro gb118 hg w22 hbox hb;have BK118:=k0_ (hbox);have GW118:=k0_ ((by rw [hg];exact (below_size (hb0_ HB.out)) : w.heap.size ≤ gb118));have GE118:=k0_ ((by rw [hg];exact (below_size (hb0_ HB.out)) : w.heap.size ≤ gb118));replace HB:=k0_ (below_step (hb0_ HB.out) hb);clear hb hbox hg;obtain ⟨hcz23_0,hcz23_1⟩:=bc2_ BK118.out;obtain ⟨hfz23_0,hfz23_1⟩:=bf2_ BK118.out)|((with_reducible refine gate_callee (f:=78) rfl ?_);refine goesL_ (some 12) rfl rfl Try.func78 (by kernel_rfl) rfl #[.agg #[.string a0_0, .slice A0_1 l0_1.length c0_1]] rfl mt_ ?_;(with_reducible refine (offer_Check.calls k a0_0 _ _ l0_1 t119 _ ?side1 ?side2 A3.out).mono ?_);(case side1=>repeat (first|exact (Kd.C_below HR0_1.out HB.out)|(with_reducible refine Kd.C_alloc ?_ _)|(with_reducible refine Kd.C_drewN ?_ _)|(with_reducible refine Kd.C_drew ?_)));(case side2=>exact HC0_1.out);rintro e w24 ⟨rfl, hb⟩;refine ⟨_, rfl, ?_⟩;replace BK118:=k0_ (blk_below (g:=gb118) (o:=.cells #[.string a0_0, .slice A0_1 l0_1.length c0_1] 31 (0, 0)) (bq_ BK118.out) hb);replace HB:=k0_ (below_step (hb1_ HB.out GE118.out) hb);(try clear hb);(try clear hb2);(try clear hk);(try clear hi)))
  go_ret2
  exact ⟨er_, hb1_ HB.out GE118.out⟩

/-! ### cmp_isNaN_int: function 80 -/
def cmp_isNaN_int.f (a0 : Int) : Option (Bool) := some (a0 != a0)
set_option maxHeartbeats 8000000 in
set_option maxRecDepth 100000 in
theorem cmp_isNaN_int.calls (a0 : Int) (r : Bool) (w : World) (h : cmp_isNaN_int.f a0 = some r) :
  Calls Try.prog 80 #[.int .i64 a0] w fun e w' => e = .returned (.bool r) ∧ Drawn0 w w' := by
 have H : (some (a0 != a0)) = some r:=h;clear h;obtain rfl:=Option.some.inj H
 go_enter Try.func80, Try.ntmps80
 go_wp2
 go_ret
 exact ⟨by first|rfl|(simp;done)|(simp [*];done), by repeat (first|exact Drawn0.refl _|apply Drawn0.step)⟩

/-! ### cmp_Compare_int: function 39 -/
def cmp_Compare_int.f (a0 : Int) (a1 : Int) : Option (Int) := (cmp_isNaN_int.f a0).bind fun t123 => ((cmp_isNaN_int.f a1).bind fun t124 => (if t123 = true then (if t124 = true then (some 0) else (some (-1))) else (if t124 = true then (some 1) else (if a0 < a1 then (some (-1)) else (if a0 > a1 then (some 1) else (some 0))))))
set_option maxHeartbeats 8000000 in
set_option maxRecDepth 100000 in
theorem cmp_Compare_int.calls (a0 : Int) (a1 : Int) (r : Int) (w : World) (h : cmp_Compare_int.f a0 a1 = some r) :
  Calls Try.prog 39 #[.int .i64 a0, .int .i64 a1] w fun e w' => e = .returned (.int .i64 r) ∧ Drawn0 w w' := by
 have H : ((cmp_isNaN_int.f a0).bind fun t123=>((cmp_isNaN_int.f a1).bind fun t124=>(if t123 = true then (if t124 = true then (some 0) else (some (-1))) else (if t124 = true then (some 1) else (if a0 < a1 then (some (-1)) else (if a0 > a1 then (some 1) else (some 0))))))) = some r:=h;clear h;replace H:=Option.bind_eq_some_iff.mp H;obtain ⟨t123, A30, H⟩:=H;replace H : ((cmp_isNaN_int.f a1).bind fun t124=>(if t123 = true then (if t124 = true then (some 0) else (some (-1))) else (if t124 = true then (some 1) else (if a0 < a1 then (some (-1)) else (if a0 > a1 then (some 1) else (some 0)))))) = some r:=H;have A3:=k0_ A30;clear A30;replace H:=Option.bind_eq_some_iff.mp H;obtain ⟨t124, A40, H⟩:=H;replace H : (if t123 = true then (if t124 = true then (some 0) else (some (-1))) else (if t124 = true then (some 1) else (if a0 < a1 then (some (-1)) else (if a0 > a1 then (some 1) else (some 0))))) = some r:=H;have A4:=k0_ A40;clear A40
 by_cases c5 : t123 = true
 ·subst c5
  have H1 : (if t124 = true then (some 0) else (some (-1))) = some r:=by rw [if_pos rfl] at H;exact H
  clear H;have H:=H1;clear H1
  by_cases c6 : t124 = true
  ·subst c6
   have H1 : (some 0) = some r:=by rw [if_pos rfl] at H;exact H
   clear H;have H:=H1;clear H1;obtain rfl:=Option.some.inj H
   go_enter Try.func39, Try.ntmps39
   go_wp2_with (first|((with_reducible refine gate_callee (f:=80) rfl ?_);refine goesL_ (some 8) rfl rfl Try.func80 (by kernel_rfl) rfl #[.int .i64 a0] rfl mt_ ?_;(with_reducible refine (cmp_isNaN_int.calls a0 true _ A3.out).mono ?_);rintro e w' ⟨rfl, ⟨nd, rfl⟩⟩;refine ⟨_, rfl, ?_⟩)|((with_reducible refine gate_callee (f:=80) rfl ?_);refine goesL_ (some 10) rfl rfl Try.func80 (by kernel_rfl) rfl #[.int .i64 a1] rfl mt_ ?_;(with_reducible refine (cmp_isNaN_int.calls a1 true _ A4.out).mono ?_);rintro e w' ⟨rfl, ⟨nd, rfl⟩⟩;refine ⟨_, rfl, ?_⟩))
   go_ret
   exact ⟨by first|rfl|(simp;done)|(simp [*];done), by repeat (first|exact Drawn0.refl _|apply Drawn0.step)⟩
  ·replace c6:=Bool.eq_false_iff.mpr c6
   subst c6;have H1 : (some (-1)) = some r:=by rw [if_neg (show ¬ (false = true) by decide)] at H;exact H
   clear H;have H:=H1;clear H1;obtain rfl:=Option.some.inj H
   go_enter Try.func39, Try.ntmps39
   go_wp2_with (first|((with_reducible refine gate_callee (f:=80) rfl ?_);refine goesL_ (some 8) rfl rfl Try.func80 (by kernel_rfl) rfl #[.int .i64 a0] rfl mt_ ?_;(with_reducible refine (cmp_isNaN_int.calls a0 true _ A3.out).mono ?_);rintro e w' ⟨rfl, ⟨nd, rfl⟩⟩;refine ⟨_, rfl, ?_⟩)|((with_reducible refine gate_callee (f:=80) rfl ?_);refine goesL_ (some 10) rfl rfl Try.func80 (by kernel_rfl) rfl #[.int .i64 a1] rfl mt_ ?_;(with_reducible refine (cmp_isNaN_int.calls a1 false _ A4.out).mono ?_);rintro e w' ⟨rfl, ⟨nd, rfl⟩⟩;refine ⟨_, rfl, ?_⟩))
   go_ret
   exact ⟨by first|rfl|(simp;done)|(simp [*];done), by repeat (first|exact Drawn0.refl _|apply Drawn0.step)⟩
 ·replace c5:=Bool.eq_false_iff.mpr c5
  subst c5;have H1 : (if t124 = true then (some 1) else (if a0 < a1 then (some (-1)) else (if a0 > a1 then (some 1) else (some 0)))) = some r:=by rw [if_neg (show ¬ (false = true) by decide)] at H;exact H
  clear H;have H:=H1;clear H1
  by_cases c7 : t124 = true
  ·subst c7
   have H1 : (some 1) = some r:=by rw [if_pos rfl] at H;exact H
   clear H;have H:=H1;clear H1;obtain rfl:=Option.some.inj H
   go_enter Try.func39, Try.ntmps39
   go_wp2_with (first|((with_reducible refine gate_callee (f:=80) rfl ?_);refine goesL_ (some 8) rfl rfl Try.func80 (by kernel_rfl) rfl #[.int .i64 a0] rfl mt_ ?_;(with_reducible refine (cmp_isNaN_int.calls a0 false _ A3.out).mono ?_);rintro e w' ⟨rfl, ⟨nd, rfl⟩⟩;refine ⟨_, rfl, ?_⟩)|((with_reducible refine gate_callee (f:=80) rfl ?_);refine goesL_ (some 10) rfl rfl Try.func80 (by kernel_rfl) rfl #[.int .i64 a1] rfl mt_ ?_;(with_reducible refine (cmp_isNaN_int.calls a1 true _ A4.out).mono ?_);rintro e w' ⟨rfl, ⟨nd, rfl⟩⟩;refine ⟨_, rfl, ?_⟩))
   go_ret
   exact ⟨by first|rfl|(simp;done)|(simp [*];done), by repeat (first|exact Drawn0.refl _|apply Drawn0.step)⟩
  ·replace c7:=Bool.eq_false_iff.mpr c7
   subst c7;have H1 : (if a0 < a1 then (some (-1)) else (if a0 > a1 then (some 1) else (some 0))) = some r:=by rw [if_neg (show ¬ (false = true) by decide)] at H;exact H
   clear H;have H:=H1;clear H1
   by_cases c8 : a0 < a1
   rw [if_pos c8] at H;have c8b0:=decide_eq_true c8;clear c8;obtain rfl:=Option.some.inj H;rotate_left;rw [if_neg c8] at H;have c8b0:=decide_eq_false c8;clear c8
   focus
    by_cases c9 : a0 > a1
    rw [if_pos c9] at H;have c9b0:=decide_eq_true c9;clear c9;obtain rfl:=Option.some.inj H;rotate_left;rw [if_neg c9] at H;have c9b0:=decide_eq_false c9;clear c9;obtain rfl:=Option.some.inj H;rotate_left
   rotate_left 2
   all_goals
    go_enter Try.func39, Try.ntmps39
    go_wp2_with (first|((with_reducible refine gate_callee (f:=80) rfl ?_);refine goesL_ (some 8) rfl rfl Try.func80 (by kernel_rfl) rfl #[.int .i64 a0] rfl mt_ ?_;(with_reducible refine (cmp_isNaN_int.calls a0 false _ A3.out).mono ?_);rintro e w' ⟨rfl, ⟨nd, rfl⟩⟩;refine ⟨_, rfl, ?_⟩)|((with_reducible refine gate_callee (f:=80) rfl ?_);refine goesL_ (some 10) rfl rfl Try.func80 (by kernel_rfl) rfl #[.int .i64 a1] rfl mt_ ?_;(with_reducible refine (cmp_isNaN_int.calls a1 false _ A4.out).mono ?_);rintro e w' ⟨rfl, ⟨nd, rfl⟩⟩;refine ⟨_, rfl, ?_⟩))
    go_ret
   ·exact ⟨by first|rfl|(simp;done)|(simp [*];done), by repeat (first|exact Drawn0.refl _|apply Drawn0.step)⟩
   ·exact ⟨by first|rfl|(simp;done)|(simp [*];done), by repeat (first|exact Drawn0.refl _|apply Drawn0.step)⟩
   ·exact ⟨by first|rfl|(simp;done)|(simp [*];done), by repeat (first|exact Drawn0.refl _|apply Drawn0.step)⟩

/-! ### hours_Change_1: function 38 -/
def hours_Change_1.f (a0_0 : Int) (a0_1 : Int) (a0_2 : Int) (a1_0 : Int) (a1_1 : Int) (a1_2 : Int) : Option (Int) := (cmp_Compare_int.f a0_2 a1_2).bind fun t127 => (some t127)
set_option maxHeartbeats 8000000 in
set_option maxRecDepth 100000 in
theorem hours_Change_1.calls (a0_0 : Int) (a0_1 : Int) (a0_2 : Int) (a1_0 : Int) (a1_1 : Int) (a1_2 : Int) (r : Int) (w : World) (h : hours_Change_1.f a0_0 a0_1 a0_2 a1_0 a1_1 a1_2 = some r) :
  Calls Try.prog 38 #[.agg #[.int .i64 a0_0, .int .i64 a0_1, .int .i64 a0_2], .agg #[.int .i64 a1_0, .int .i64 a1_1, .int .i64 a1_2]] w fun e w' => e = .returned (.int .i64 r) ∧ Below w.heap.size w w' := by
 have hu98:=Try.underlying98;have HB:=k0_ (Below.refl w.heap.size w);have H : ((cmp_Compare_int.f a0_2 a1_2).bind fun t127=>(some t127)) = some r:=h;clear h;replace H:=Option.bind_eq_some_iff.mp H;obtain ⟨t127, A30, H⟩:=H;replace H : (some t127) = some r:=H;have A3:=k0_ A30;clear A30;obtain rfl:=Option.some.inj H
 go_enter Try.func38, Try.ntmps38
 go_wp2_with (first|((with_reducible refine gate_dst (N:=2) rfl ?_);refine box_event ?hg (N:=2) ?hd (cs:=#[.int .i64 a0_0, .int .i64 a0_1, .int .i64 a0_2]) (t:=98) ?hr ?_;(case hd=>rfl);(case hg=>rfl);(case hr=>first|(go_simp;done)|(go_simp;rfl));intro gb125 hg w4 hbox hb;have BK125:=k0_ (hbox);have GW125:=k0_ ((by rw [hg];exact (below_size (hb0_ HB.out)) : w.heap.size ≤ gb125));have GE125:=k0_ ((by rw [hg];exact (below_size (hb0_ HB.out)) : w.heap.size ≤ gb125));replace HB:=k0_ (below_step (hb0_ HB.out) hb);clear hb hbox hg)|((with_reducible refine gate_dst (N:=3) rfl ?_);refine box_event ?hg (N:=3) ?hd (cs:=#[.int .i64 a1_0, .int .i64 a1_1, .int .i64 a1_2]) (t:=98) ?hr ?_;(case hd=>rfl);(case hg=>rfl);(case hr=>first|(go_simp;done)|(go_simp;rfl));intro gb126 hg w5 hbox hb;have BK126:=k0_ (hbox);have GW126:=k0_ ((by rw [hg];exact (below_size (hb1_ HB.out GE125.out)) : w.heap.size ≤ gb126));have GE126:=k0_ ((by rw [hg];exact (below_size (hb1_ HB.out GE125.out)) : w.heap.size ≤ gb126));replace HB:=k0_ (below_step (hb1_ HB.out GE125.out) hb);have NB125_126:=k0_ ((by rw [hg];exact Nat.ne_of_lt (blk_lt (g:=gb125) (o:=.cells #[.int .i64 a0_0, .int .i64 a0_1, .int .i64 a0_2] 98 (0, 0)) (bq_ BK125.out)) : gb125 ≠ gb126));have NB126_125:=k0_ ((by rw [hg];exact Nat.ne_of_gt (blk_lt (g:=gb125) (o:=.cells #[.int .i64 a0_0, .int .i64 a0_1, .int .i64 a0_2] 98 (0, 0)) (bq_ BK125.out)) : gb126 ≠ gb125));replace BK125:=k0_ (blk_below (g:=gb125) (o:=.cells #[.int .i64 a0_0, .int .i64 a0_1, .int .i64 a0_2] 98 (0, 0)) (bq_ BK125.out) hb);clear hb hbox hg;have hnb6:=NB125_126.out;have hnc6:=NB126_125.out;obtain ⟨hcz7_0,hcz7_1,hcz7_2⟩:=bc3_ BK125.out;obtain ⟨hfz7_0,hfz7_1,hfz7_2⟩:=bf3_ BK125.out;obtain ⟨hcz8_0,hcz8_1,hcz8_2⟩:=bc3_ BK126.out;obtain ⟨hfz8_0,hfz8_1,hfz8_2⟩:=bf3_ BK126.out)|((with_reducible refine gate_callee (f:=39) rfl ?_);refine goesL_ (some 9) rfl rfl Try.func39 (by kernel_rfl) rfl #[.int .i64 a0_2, .int .i64 a1_2] rfl mt_ ?_;(with_reducible refine (cmp_Compare_int.calls a0_2 a1_2 t127 _ A3.out).mono ?_);rintro e w' ⟨rfl, ⟨nd, rfl⟩⟩;refine ⟨_, rfl, ?_⟩))
 go_ret
 exact ⟨er_, hb2_ HB.out GE125.out GE126.out⟩

end Go.Proofs.Ytdphghdjljplpaa.PTopHours
