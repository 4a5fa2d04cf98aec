/- Contracts of functions that CommitServes reaches, a text of this session's own. -/
import Derived.Test.YtefkdkppipdceaaBox2
import Derived.Test.YtefkdkppipdceaaHCommitServesy0
import Derived.Test.YtefkdkppipdceaaHCommitServesy14
namespace Go.Proofs.Ytefkdkppipdceaa.PCommitServes
open Go.RowKit Go.Proofs.YtefkdkppipdceaaW.PrintWords Go.Proofs.YtefkdkppipdceaaW.PrintLast Go.Proofs.YtefkdkppipdceaaW.PrintMore
attribute [local go_sem] max2_int min2_int max_two min_two max_three min_three max_four min_four   -- for this text's walks alone
set_option linter.unusedVariables false
set_option linter.unusedSimpArgs false

/-! ### gridhallref3_Cost: function 22 -/
def gridhallref3_Cost.l0 : Nat → Int → Int → List (S132) → Int → Int → ByteArray → List (S132) → Option (Int)
 | 0, _, _, _, _, _, _, _ => none
 | k + 1, x1, x5, x10, x11, x12, x235000, x235001 => if x12 < x11 then (if 0 ≤ x12 then (if x12 < (x10.length : Int) then ((gridhallref3_Before.f k x235000 x235001 x12).bind fun t237 => (gridhallref3_Cost.l0 k x1 (wrap64 (x5 + (wrap64 (((rd_T132 x10 x12).f1) * (wrap64 ((mn (mx x1 t237) (wrap64 (t237 + ((rd_T132 x10 x12).f0)))) - t237)))))) x10 x11 (wrap64 (x12 + 1)) x235000 x235001)) else (none)) else (none)) else (some x5)
def gridhallref3_Cost.f (k : Nat) (a0_0 : ByteArray) (l0_1 : List (S132)) (a1 : Int) : Option (Int) := gridhallref3_Cost.l0 k a1 0 l0_1 (l0_1.length : Int) 0 a0_0 l0_1
theorem gridhallref3_Cost.mono_l : ∀ k, (∀ y0 y1 y2 y3 y4 y5 y6, LeO (gridhallref3_Cost.l0 k y0 y1 y2 y3 y4 y5 y6) (gridhallref3_Cost.l0 (k + 1) y0 y1 y2 y3 y4 y5 y6))
 | 0 => fun _ _ _ _ _ _ _ r h => by simp [gridhallref3_Cost.l0] at h
 | k + 1 => by
  have ih0:=gridhallref3_Cost.mono_l k
  ·intro y0 y1 y2 y3 y4 y5 y6
   unfold gridhallref3_Cost.l0
   repeat' first|(with_reducible first|exact ih0 _ _ _ _ _ _ _|exact gridhallref3_Before.mono _ _ _ _|exact LeO.refl _|exact LeO.none _|refine LeO.ite ?_ ?_|refine LeO.bind ?_ (fun _=>?_))|exact ih0 _ _ _ _ _ _ _|exact gridhallref3_Before.mono _ _ _ _|exact LeO.none _|refine LeO.ite ?_ ?_|refine LeO.bind ?_ (fun _=>?_)
theorem gridhallref3_Cost.mono : ∀ a0 a1 a2 k, LeO (gridhallref3_Cost.f k a0 a1 a2) (gridhallref3_Cost.f (k + 1) a0 a1 a2) := by
 intro a0 a1 a2 k
 have ih0:=gridhallref3_Cost.mono_l k
 unfold gridhallref3_Cost.f
 repeat' first|(with_reducible first|exact ih0 _ _ _ _ _ _ _|exact gridhallref3_Before.mono _ _ _ _|exact LeO.refl _|exact LeO.none _|refine LeO.ite ?_ ?_|refine LeO.bind ?_ (fun _=>?_))|exact ih0 _ _ _ _ _ _ _|exact gridhallref3_Before.mono _ _ _ _|exact LeO.none _|refine LeO.ite ?_ ?_|refine LeO.bind ?_ (fun _=>?_)
set_option maxHeartbeats 8000000 in
set_option maxRecDepth 100000 in
theorem gridhallref3_Cost.calls (k : Nat) (a0_0 : ByteArray) (A0_1 : Option Addr) (c0_1 : Nat) (l0_1 : List (S132)) (a1 : Int) (r : Int) (w : World) (hr0_1 : Kd.C k132 w A0_1 l0_1.length l0_1) (hc0_1 : l0_1.length ≤ c0_1) (h : gridhallref3_Cost.f k a0_0 l0_1 a1 = some r) :
  Calls Try.prog 22 #[.agg #[.string a0_0, .slice A0_1 l0_1.length c0_1], .int .i64 a1] w fun e w' => e = .returned (.int .i64 r) ∧ Below w.heap.size w w' := by
 have hu57:=Try.underlying57;have hu132:=Try.underlying132;have HR0_1:=k0_ hr0_1;have HC0_1:=k0_ hc0_1;clear hr0_1 hc0_1;have HB:=k0_ (Below.refl w.heap.size w);have H : (gridhallref3_Cost.l0 k a1 0 l0_1 (l0_1.length : Int) 0 a0_0 l0_1) = some r:=h;clear h;have H':=k0_ H;clear H
 go_enter Try.func22, Try.ntmps22
 go_wp2_with (first|((with_reducible refine gate_dst (N:=2) rfl ?_);refine box_event ?hg (N:=2) ?hd (cs:=#[.string a0_0, .slice A0_1 l0_1.length c0_1]) (t:=57) ?hr ?_;(case hd=>rfl);(case hg=>rfl);(case hr=>first|(go_simp;done)|(go_simp;rfl));intro gb234 hg w3 hbox hb;have BK234:=k0_ (hbox);have GW234:=k0_ ((by rw [hg];exact (below_size (hb0_ HB.out)) : w.heap.size ≤ gb234));have GE234:=k0_ ((by rw [hg];exact (below_size (hb0_ HB.out)) : w.heap.size ≤ gb234));replace HB:=k0_ (below_step (hb0_ HB.out) hb);clear hb hbox hg;obtain ⟨hcz4_0,hcz4_1⟩:=bc2_ BK234.out;obtain ⟨hfz4_0,hfz4_1⟩:=bf2_ BK234.out))
 (try simp only [Act.put, q1_,q3_,q2_])
 go_loopg [5, 12] k (fun kq v5 v12 w'=>∃ (x5_1 : Int) (x12_1 : Int), v5 = .int .i64 x5_1∧v12 = .int .i64 x12_1∧Aside0 (gridhallref3_Cost.l0 kq a1 x5_1 l0_1 (l0_1.length : Int) x12_1 a0_0 l0_1 = some r)∧Aside0 (kq ≤ k)∧Aside0 (w'.heap[gb234]? = some (.cells #[.string a0_0, (.slice A0_1 l0_1.length c0_1)] 57 (0, 0)))∧Aside0 (Below w.heap.size w w'))
 case atStart=>exact ⟨(0),(0),rs_,rs_, H', ⟨Nat.le_refl _⟩,⟨bq_ BK234.out⟩,⟨hb1_ HB.out GE234.out⟩⟩
 clear H' hcz4_0 hcz4_1 hfz4_0 hfz4_1;obtain ⟨x5_1, x12_1, rfl, rfl, HA, HK1, BK234, HB⟩:=hrel;obtain _|k1:=gk
 ·exact absurd HA.out (by simp [gridhallref3_Cost.l0])
 have H:=HA.out;clear HA;simp only [gridhallref3_Cost.l0] at H
 by_cases c5 : x12_1 < (l0_1.length : Int)
 ·rw [if_pos c5] at H
  have c5b0:=decide_eq_true c5;clear c5
  obtain ⟨c6,H⟩:=gi_ H;have c6b0:=decide_eq_true c6;clear c6
  obtain ⟨c7,H⟩:=gi_ H;have c7b0:=decide_eq_true c7;clear c7;replace H:=Option.bind_eq_some_iff.mp H;obtain ⟨t237, A80, H⟩:=H;replace H : (gridhallref3_Cost.l0 k1 a1 (wrap64 (x5_1 + (wrap64 (((rd_T132 l0_1 x12_1).f1) * (wrap64 ((mn (mx a1 t237) (wrap64 (t237 + ((rd_T132 l0_1 x12_1).f0)))) - t237)))))) l0_1 (l0_1.length : Int) (wrap64 (x12_1 + 1)) a0_0 l0_1) = some r:=H;have A8:=k0_ A80;clear A80;obtain ⟨ji9, hji9⟩ : ∃ j_ : Int, (mx a1 t237) = j_:=⟨_, rfl⟩;replace H : (gridhallref3_Cost.l0 k1 a1 (wrap64 (x5_1 + (wrap64 (((rd_T132 l0_1 x12_1).f1) * (wrap64 ((mn (ji9) (wrap64 (t237 + ((rd_T132 l0_1 x12_1).f0)))) - t237)))))) l0_1 (l0_1.length : Int) (wrap64 (x12_1 + 1)) a0_0 l0_1) = some r:=by first|(rw [hji9] at H;exact H)|(simp only [hji9] at H ⊢;exact H)
  (try rw [hji9] at A8);have hji9_ : (if a1 < t237 then t237 else a1) = ji9:=hji9;obtain ⟨ji10, hji10⟩ : ∃ j_ : Int, (mn (ji9) (wrap64 (t237 + ((rd_T132 l0_1 x12_1).f0)))) = j_:=⟨_, rfl⟩;replace H : (gridhallref3_Cost.l0 k1 a1 (wrap64 (x5_1 + (wrap64 (((rd_T132 l0_1 x12_1).f1) * (wrap64 ((ji10) - t237)))))) l0_1 (l0_1.length : Int) (wrap64 (x12_1 + 1)) a0_0 l0_1) = some r:=by first|(rw [hji10] at H;exact H)|(simp only [hji10] at H ⊢;exact H)
  (try rw [hji10] at A8);have hji10_ : (if (wrap64 (t237 + ((rd_T132 l0_1 x12_1).f0))) < (ji9) then (wrap64 (t237 + ((rd_T132 l0_1 x12_1).f0))) else (ji9)) = ji10:=hji10;have H':=k0_ H;clear H;have p235 : 0 ≤ (x12_1 : Int):=of_decide_eq_true as_;have q235 : x12_1 < (l0_1.length : Int):=of_decide_eq_true as_;obtain ⟨ad235, e235, hx235_0, hx235_1⟩:=at_T132 HR0_1.out x12_1 p235 q235;cases e235;replace hx235_0:=bt_ HB.out hx235_0;replace hx235_1:=bt_ HB.out hx235_1;replace p235:=eq_true p235;replace q235:=eq_true q235
  go_wp2_with (first|((with_reducible refine gate_dst (N:=7) rfl ?_);refine box_event ?hg (N:=7) ?hd (cs:=#[.int .i64 0, .int .i64 0]) (t:=132) ?hr ?_;(case hd=>rfl);(case hg=>rfl);(case hr=>first|(go_simp;done)|(go_simp;rfl));intro gb236 hg w11 hbox hb;have BK236:=k0_ (hbox);have GW236:=k0_ ((by rw [hg];exact (below_size (hb1_ HB.out GE234.out)) : w.heap.size ≤ gb236));have GE236:=k0_ ((by rw [hg];exact (below_size (hb1_ HB.out GE234.out)) : w.heap.size ≤ gb236));replace HB:=k0_ (below_step (hb1_ HB.out GE234.out) hb);have NB234_236:=k0_ ((by rw [hg];exact Nat.ne_of_lt (blk_lt (g:=gb234) (o:=.cells #[.string a0_0, .slice (some ad235) l0_1.length c0_1] 57 (0, 0)) (bq_ BK234.out)) : gb234 ≠ gb236));have NB236_234:=k0_ ((by rw [hg];exact Nat.ne_of_gt (blk_lt (g:=gb234) (o:=.cells #[.string a0_0, .slice (some ad235) l0_1.length c0_1] 57 (0, 0)) (bq_ BK234.out)) : gb236 ≠ gb234));replace BK234:=k0_ (blk_below (g:=gb234) (o:=.cells #[.string a0_0, .slice (some ad235) l0_1.length c0_1] 57 (0, 0)) (bq_ BK234.out) hb);clear hb hbox hg;have hnb12:=NB236_234.out;have hnc12:=NB234_236.out;obtain ⟨hcz13_0,hcz13_1⟩:=bc2_ BK236.out;obtain ⟨hfz13_0,hfz13_1⟩:=bf2_ BK236.out;obtain ⟨hcz14_0,hcz14_1⟩:=bc2_ BK234.out;obtain ⟨hfz14_0,hfz14_1⟩:=bf2_ BK234.out)|((with_reducible refine gate_callee (f:=66) rfl ?_);refine goesL_ (some 19) rfl rfl Try.func66 (by kernel_rfl) rfl #[.agg #[.string a0_0, .slice (some ad235) l0_1.length c0_1], .int .i64 x12_1] rfl mt_ ?_;(with_reducible refine (gridhallref3_Before.calls k1 a0_0 _ _ l0_1 x12_1 t237 _ ?side1 ?side2 A8.out).mono ?_);(case side1=>exact Kd.C_below HR0_1.out (hb2_ HB.out GE234.out GE236.out));(case side2=>exact HC0_1.out);rintro e w15 ⟨rfl, hb⟩;refine ⟨_, rfl, ?_⟩;replace BK234:=k0_ (blk_below (g:=gb234) (o:=.cells #[.string a0_0, .slice (some ad235) l0_1.length c0_1] 57 (0, 0)) (by (with_reducible repeat (first|refine blk_drewN ?_ _|refine blk_drew ?_|refine blk_alloc ?_ _));refine blk_far ?_ NB234_236.out _;(with_reducible repeat (first|refine blk_drewN ?_ _|refine blk_drew ?_|refine blk_alloc ?_ _));refine blk_far ?_ NB234_236.out _;(with_reducible repeat (first|refine blk_drewN ?_ _|refine blk_drew ?_|refine blk_alloc ?_ _));exact BK234.out) hb);replace BK236:=k0_ (blk_below (g:=gb236) (o:=.cells #[.int .i64 ((rd_T132 l0_1 x12_1).f0), .int .i64 ((rd_T132 l0_1 x12_1).f1)] 132 (0, 0)) (by (with_reducible repeat (first|refine blk_drewN ?_ _|refine blk_drew ?_|refine blk_alloc ?_ _));refine blk_put (cs:=#[.int .i64 ((rd_T132 l0_1 x12_1).f0), .int .i64 0]) ?_ 1 _ rfl;(with_reducible repeat (first|refine blk_drewN ?_ _|refine blk_drew ?_|refine blk_alloc ?_ _));refine blk_put (cs:=#[.int .i64 0, .int .i64 0]) ?_ 0 _ rfl;(with_reducible repeat (first|refine blk_drewN ?_ _|refine blk_drew ?_|refine blk_alloc ?_ _));exact BK236.out) hb);replace HB:=k0_ (below_step (hb2_ HB.out GE234.out GE236.out) hb);clear hb;obtain ⟨hcz16_0,hcz16_1⟩:=bc2_ BK236.out;obtain ⟨hfz16_0,hfz16_1⟩:=bf2_ BK236.out))
  go_roundg k1
  case measure=>have:=HK1.out;omega
  case rel=>exact ⟨(wrap64 (x5_1 + (wrap64 (((rd_T132 l0_1 x12_1).f1) * (wrap64 ((ji10) - t237)))))),(wrap64 (x12_1 + 1)),(by first|rfl|(simp;done)|(simp only [← hji10] <;> (first|rfl|simp))|(simp [*];done)),rs_, H', ⟨by have:=HK1.out;omega⟩,⟨bq_ BK234.out⟩,⟨hb2_ HB.out GE234.out GE236.out⟩⟩
 ·rw [if_neg c5] at H
  have c5b0:=decide_eq_false c5;clear c5;obtain rfl:=Option.some.inj H;go_wp2
  go_ret
  exact ⟨er_, hb1_ HB.out GE234.out⟩

/-! ### gridhallref3_Unit: function 65 -/
def gridhallref3_Unit.l0 : Nat → Int → List (S132) → Int → Int → ByteArray → List (S132) → Option (Int)
 | 0, _, _, _, _, _, _ => none
 | k + 1, x1, x8, x9, x10, x239000, x239001 => if x10 < x9 then (if 0 ≤ x10 then (if x10 < (x8.length : Int) then ((gridhallref3_Before.f k x239000 x239001 x10).bind fun t241 => (if x1 < (wrap64 (t241 + ((rd_T132 x8 x10).f0))) then (some ((rd_T132 x8 x10).f1)) else (gridhallref3_Unit.l0 k x1 x8 x9 (wrap64 (x10 + 1)) x239000 x239001))) else (none)) else (none)) else (some 2000000)
def gridhallref3_Unit.f (k : Nat) (a0_0 : ByteArray) (l0_1 : List (S132)) (a1 : Int) : Option (Int) := gridhallref3_Unit.l0 k a1 l0_1 (l0_1.length : Int) 0 a0_0 l0_1
theorem gridhallref3_Unit.mono_l : ∀ k, (∀ y0 y1 y2 y3 y4 y5, LeO (gridhallref3_Unit.l0 k y0 y1 y2 y3 y4 y5) (gridhallref3_Unit.l0 (k + 1) y0 y1 y2 y3 y4 y5))
 | 0 => fun _ _ _ _ _ _ r h => by simp [gridhallref3_Unit.l0] at h
 | k + 1 => by
  have ih0:=gridhallref3_Unit.mono_l k
  ·intro y0 y1 y2 y3 y4 y5
   unfold gridhallref3_Unit.l0
   repeat' first|(with_reducible first|exact ih0 _ _ _ _ _ _|exact gridhallref3_Before.mono _ _ _ _|exact LeO.refl _|exact LeO.none _|refine LeO.ite ?_ ?_|refine LeO.bind ?_ (fun _=>?_))|exact ih0 _ _ _ _ _ _|exact gridhallref3_Before.mono _ _ _ _|exact LeO.none _|refine LeO.ite ?_ ?_|refine LeO.bind ?_ (fun _=>?_)
theorem gridhallref3_Unit.mono : ∀ a0 a1 a2 k, LeO (gridhallref3_Unit.f k a0 a1 a2) (gridhallref3_Unit.f (k + 1) a0 a1 a2) := by
 intro a0 a1 a2 k
 have ih0:=gridhallref3_Unit.mono_l k
 unfold gridhallref3_Unit.f
 repeat' first|(with_reducible first|exact ih0 _ _ _ _ _ _|exact gridhallref3_Before.mono _ _ _ _|exact LeO.refl _|exact LeO.none _|refine LeO.ite ?_ ?_|refine LeO.bind ?_ (fun _=>?_))|exact ih0 _ _ _ _ _ _|exact gridhallref3_Before.mono _ _ _ _|exact LeO.none _|refine LeO.ite ?_ ?_|refine LeO.bind ?_ (fun _=>?_)
def gridhallref3_Unit.T4 : Bool × List (List Nat × List Nat) := (true, [([], []), ([], []), ([], []), ([1, 2], [1, 2]), ([], []), ([4], [4]), ([3, 5], [3, 5]), ([0, 6], [0, 6])])
def gridhallref3_Unit.B4 : List Nat := [0, 0, 0, 6, 0, 16, 62, 127]
theorem gridhallref3_Unit.tab4 : rtab .any (opsOf Try.f65 4) = gridhallref3_Unit.T4 := by kernel_rfl
theorem gridhallref3_Unit.bits4 : waitsOk gridhallref3_Unit.T4.2 gridhallref3_Unit.B4 = true := by kernel_rfl
set_option maxHeartbeats 8000000 in
set_option maxRecDepth 100000 in
theorem gridhallref3_Unit.calls (k : Nat) (a0_0 : ByteArray) (A0_1 : Option Addr) (c0_1 : Nat) (l0_1 : List (S132)) (a1 : Int) (r : Int) (w : World) (hr0_1 : Kd.C k132 w A0_1 l0_1.length l0_1) (hc0_1 : l0_1.length ≤ c0_1) (h : gridhallref3_Unit.f k a0_0 l0_1 a1 = some r) :
  Calls Try.prog 65 #[.agg #[.string a0_0, .slice A0_1 l0_1.length c0_1], .int .i64 a1] w fun e w' => e = .returned (.int .i64 r) ∧ Below w.heap.size w w' := by
 have hu57:=Try.underlying57;have hu132:=Try.underlying132;have HR0_1:=k0_ hr0_1;have HC0_1:=k0_ hc0_1;clear hr0_1 hc0_1;have HB:=k0_ (Below.refl w.heap.size w);have H : (gridhallref3_Unit.l0 k a1 l0_1 (l0_1.length : Int) 0 a0_0 l0_1) = some r:=h;clear h;have H':=k0_ H;clear H
 go_enter Try.func65, Try.ntmps65
 go_wp2_with (first|((with_reducible refine gate_dst (N:=2) rfl ?_);refine box_event ?hg (N:=2) ?hd (cs:=#[.string a0_0, .slice A0_1 l0_1.length c0_1]) (t:=57) ?hr ?_;(case hd=>rfl);(case hg=>rfl);(case hr=>first|(go_simp;done)|(go_simp;rfl));intro gb238 hg w3 hbox hb;have BK238:=k0_ (hbox);have GW238:=k0_ ((by rw [hg];exact (below_size (hb0_ HB.out)) : w.heap.size ≤ gb238));have GE238:=k0_ ((by rw [hg];exact (below_size (hb0_ HB.out)) : w.heap.size ≤ gb238));replace HB:=k0_ (below_step (hb0_ HB.out) hb);clear hb hbox hg;obtain ⟨hcz4_0,hcz4_1⟩:=bc2_ BK238.out;obtain ⟨hfz4_0,hfz4_1⟩:=bf2_ BK238.out))
 (try simp only [Act.put, q1_,q3_,q2_])
 go_loopg [10] k (fun kq v10 w'=>∃ (x10_1 : Int), v10 = .int .i64 x10_1∧Aside0 (gridhallref3_Unit.l0 kq a1 l0_1 (l0_1.length : Int) x10_1 a0_0 l0_1 = some r)∧Aside0 (kq ≤ k)∧Aside0 (w'.heap[gb238]? = some (.cells #[.string a0_0, (.slice A0_1 l0_1.length c0_1)] 57 (0, 0)))∧Aside0 (Below w.heap.size w w'))
 case atStart=>exact ⟨(0),rs_, H', ⟨Nat.le_refl _⟩,⟨bq_ BK238.out⟩,⟨hb1_ HB.out GE238.out⟩⟩
 clear H' hcz4_0 hcz4_1 hfz4_0 hfz4_1;obtain ⟨x10_1, rfl, HA, HK1, BK238, HB⟩:=hrel;obtain _|k1:=gk
 ·exact absurd HA.out (by simp [gridhallref3_Unit.l0])
 have H:=HA.out;clear HA;simp only [gridhallref3_Unit.l0] at H
 by_cases c5 : x10_1 < (l0_1.length : Int)
 ·rw [if_pos c5] at H
  have c5b0:=decide_eq_true c5;clear c5
  by_cases c6 : 0 ≤ x10_1
  rw [if_pos c6] at H;have c6b0:=decide_eq_true c6;clear c6
  focus
   by_cases c7 : x10_1 < (l0_1.length : Int)
   rw [if_pos c7] at H;have c7b0:=decide_eq_true c7;clear c7;replace H:=Option.bind_eq_some_iff.mp H;obtain ⟨t241, A80, H⟩:=H;replace H : (if a1 < (wrap64 (t241 + ((rd_T132 l0_1 x10_1).f0))) then (some ((rd_T132 l0_1 x10_1).f1)) else (gridhallref3_Unit.l0 k1 a1 l0_1 (l0_1.length : Int) (wrap64 (x10_1 + 1)) a0_0 l0_1)) = some r:=H;have A8:=k0_ A80;clear A80
   focus
    by_cases c9 : a1 < (wrap64 (t241 + ((rd_T132 l0_1 x10_1).f0)))
    rw [if_pos c9] at H;have c9b0:=decide_eq_true c9;clear c9;obtain rfl:=Option.some.inj H;rotate_left;rw [if_neg c9] at H;have c9b0:=decide_eq_false c9;clear c9;have H':=k0_ H;clear H;rotate_left
   rotate_left 2;rw [if_neg c7] at H
   exact absurd H (by simp)
  rotate_left 2;rw [if_neg c6] at H
  exact absurd H (by simp)
  all_goals
   have p239 : 0 ≤ (x10_1 : Int):=of_decide_eq_true as_;have q239 : x10_1 < (l0_1.length : Int):=of_decide_eq_true as_;obtain ⟨ad239, e239, hx239_0, hx239_1⟩:=at_T132 HR0_1.out x10_1 p239 q239;cases e239;replace hx239_0:=bt_ HB.out hx239_0;replace hx239_1:=bt_ HB.out hx239_1;replace p239:=eq_true p239;replace q239:=eq_true q239
   try go_wp2_with (first|((with_reducible refine gate_dst (N:=6) rfl ?_);refine box_event ?hg (N:=6) ?hd (cs:=#[.int .i64 0, .int .i64 0]) (t:=132) ?hr ?_;(case hd=>rfl);(case hg=>rfl);(case hr=>first|(go_simp;done)|(go_simp;rfl));intro gb240 hg w10 hbox hb;have BK240:=k0_ (hbox);have GW240:=k0_ ((by rw [hg];exact (below_size (hb1_ HB.out GE238.out)) : w.heap.size ≤ gb240));have GE240:=k0_ ((by rw [hg];exact (below_size (hb1_ HB.out GE238.out)) : w.heap.size ≤ gb240));replace HB:=k0_ (below_step (hb1_ HB.out GE238.out) hb);have NB238_240:=k0_ ((by rw [hg];exact Nat.ne_of_lt (blk_lt (g:=gb238) (o:=.cells #[.string a0_0, .slice (some ad239) l0_1.length c0_1] 57 (0, 0)) (bq_ BK238.out)) : gb238 ≠ gb240));have NB240_238:=k0_ ((by rw [hg];exact Nat.ne_of_gt (blk_lt (g:=gb238) (o:=.cells #[.string a0_0, .slice (some ad239) l0_1.length c0_1] 57 (0, 0)) (bq_ BK238.out)) : gb240 ≠ gb238));replace BK238:=k0_ (blk_below (g:=gb238) (o:=.cells #[.string a0_0, .slice (some ad239) l0_1.length c0_1] 57 (0, 0)) (bq_ BK238.out) hb);clear hb hbox hg;have hnb11:=NB240_238.out;have hnc11:=NB238_240.out;obtain ⟨hcz12_0,hcz12_1⟩:=bc2_ BK240.out;obtain ⟨hfz12_0,hfz12_1⟩:=bf2_ BK240.out))
   have n0_ : Aside0 (((w10.setCell ⟨gb240, 0, none⟩ (.int .i64 ((rd_T132 l0_1 x10_1).f0))).setCell ⟨gb240, 1, none⟩ (.int .i64 ((rd_T132 l0_1 x10_1).f1))).heap[gb238]? = some (.cells #[.string a0_0, .slice (some ad239) l0_1.length c0_1] 57 (0, 0))):=⟨by (with_reducible repeat (first|refine blk_drewN ?_ _|refine blk_drew ?_|refine blk_alloc ?_ _));refine blk_far ?_ NB238_240.out _;(with_reducible repeat (first|refine blk_drewN ?_ _|refine blk_drew ?_|refine blk_alloc ?_ _));refine blk_far ?_ NB238_240.out _;(with_reducible repeat (first|refine blk_drewN ?_ _|refine blk_drew ?_|refine blk_alloc ?_ _));exact BK238.out⟩;have n1_ : Aside0 (((w10.setCell ⟨gb240, 0, none⟩ (.int .i64 ((rd_T132 l0_1 x10_1).f0))).setCell ⟨gb240, 1, none⟩ (.int .i64 ((rd_T132 l0_1 x10_1).f1))).heap[gb240]? = some (.cells #[.int .i64 ((rd_T132 l0_1 x10_1).f0), .int .i64 ((rd_T132 l0_1 x10_1).f1)] 132 (0, 0))):=⟨by (with_reducible repeat (first|refine blk_drewN ?_ _|refine blk_drew ?_|refine blk_alloc ?_ _));refine blk_put (cs:=#[.int .i64 ((rd_T132 l0_1 x10_1).f0), .int .i64 0]) ?_ 1 _ rfl;(with_reducible repeat (first|refine blk_drewN ?_ _|refine blk_drew ?_|refine blk_alloc ?_ _));refine blk_put (cs:=#[.int .i64 0, .int .i64 0]) ?_ 0 _ rfl;(with_reducible repeat (first|refine blk_drewN ?_ _|refine blk_drew ?_|refine blk_alloc ?_ _));exact BK240.out⟩;have n2_ : Aside0 (Below w.heap.size w ((w10.setCell ⟨gb240, 0, none⟩ (.int .i64 ((rd_T132 l0_1 x10_1).f0))).setCell ⟨gb240, 1, none⟩ (.int .i64 ((rd_T132 l0_1 x10_1).f1)))):=⟨hb2_ HB.out GE238.out GE240.out⟩;clear BK238 BK240 HB;generalize ((w10.setCell ⟨gb240, 0, none⟩ (.int .i64 ((rd_T132 l0_1 x10_1).f0))).setCell ⟨gb240, 1, none⟩ (.int .i64 ((rd_T132 l0_1 x10_1).f1))) = w13 at n0_ n1_ n2_ ⊢;have BK238:=n0_;have BK240:=n1_;have HB:=n2_;clear n0_ n1_ n2_;replace BK238:=k0_ (blk_drew BK238.out);replace BK240:=k0_ (blk_drew BK240.out);replace HB:=k0_ (below_drew1 HB.out);refine start_ (n:=8) (S:=fun w'=>w'.cell? ⟨gb238, 0, none⟩ = some (.string a0_0)∧w'.cell? ⟨gb238, 1, none⟩ = some (.slice (some ad239) l0_1.length c0_1)∧w'.cell? ⟨gb240, 0, none⟩ = some (.int .i64 ((rd_T132 l0_1 x10_1).f0))∧w'.cell? ⟨gb240, 1, none⟩ = some (.int .i64 ((rd_T132 l0_1 x10_1).f1))) (ds:=[]) (mb_ 8 0) (by kernel_rfl) rfl rfl ⟨(blk_cell BK238.out 0).trans rfl, (blk_cell BK238.out 1).trans rfl, (blk_cell BK240.out 0).trans rfl, (blk_cell BK240.out 1).trans rfl⟩ (fun hHeld=>?_);refine with_tabW gridhallref3_Unit.tab4 gridhallref3_Unit.bits4 (fun HT_ HW_=>?_);generalize w13.drew = w14 at BK238 BK240 HB hHeld ⊢;refine pu_ 0 15 HT_.out (h:=?_);refine pu_ 2 17 HT_.out (h:=?_);refine pu_ 4 19 HT_.out (h:=?_);refine tk_ 1 16 HT_.out HW_.out hHeld (h:=?_);refine tk_ 5 20 HT_.out HW_.out hHeld (h:=?_);refine on_ 3 (some 18) HT_.out (h:=fun K hK=>?_);refine goes_ Try.func66 (by kernel_rfl) rfl #[.agg #[.string a0_0, .slice (some ad239) l0_1.length c0_1], .int .i64 x10_1] (by rfl) rfl rfl mt_ ?_
   with_reducible refine (gridhallref3_Before.calls k1 a0_0 _ _ l0_1 x10_1 t241 _ ?side1 ?side2 A8.out).mono ?_
   (case side1=>repeat (first|exact (Kd.C_below HR0_1.out HB.out)|(with_reducible refine Kd.C_alloc ?_ _)|(with_reducible refine Kd.C_drewN ?_ _)|(with_reducible refine Kd.C_drew ?_)))
   (case side2=>exact HC0_1.out)
   rintro e w15 ⟨rfl, hb⟩;refine ⟨_, rfl, ?_⟩;replace BK238:=k0_ (blk_below (g:=gb238) (o:=.cells #[.string a0_0, .slice (some ad239) l0_1.length c0_1] 57 (0, 0)) (bq_ BK238.out) hb);replace BK240:=k0_ (blk_below (g:=gb240) (o:=.cells #[.int .i64 ((rd_T132 l0_1 x10_1).f0), .int .i64 ((rd_T132 l0_1 x10_1).f1)] 132 (0, 0)) (bq_ BK240.out) hb);replace HB:=k0_ (below_step (hb2_ HB.out GE238.out GE240.out) hb);clear hb;refine hK.out _ _ ⟨(blk_cell BK238.out 0).trans rfl, (blk_cell BK238.out 1).trans rfl, (blk_cell BK240.out 0).trans rfl, (blk_cell BK240.out 1).trans rfl⟩ (fun hHeld=>?_);clear hK K;refine norm_ (a':=?_) ?_ ?_;rotate_left
   ·show Act.put _ (some 18) _ = _
    simp only [Act.put, q1_,q2_,q3_,i64_w,i32_w];rfl
   refine pu_ 6 21 HT_.out (h:=?_);refine pu_ 7 22 HT_.out (h:=?_);refine done_ (done_of HT_.out (by kernel_rfl)) ?_
  ·obtain ⟨hcz16_0,hcz16_1⟩:=bc2_ BK240.out;obtain ⟨hfz16_0,hfz16_1⟩:=bf2_ BK240.out
   try go_wp2
   go_ret
   exact ⟨er_, hb2_ HB.out GE238.out GE240.out⟩
  ·try go_wp2
   go_roundg k1
   case measure=>have:=HK1.out;omega
   case rel=>exact ⟨(wrap64 (x10_1 + 1)),rs_, H', ⟨by have:=HK1.out;omega⟩,⟨bq_ BK238.out⟩,⟨hb2_ HB.out GE238.out GE240.out⟩⟩
 ·rw [if_neg c5] at H
  have c5b0:=decide_eq_false c5;clear c5;obtain rfl:=Option.some.inj H;go_wp2
  go_ret
  exact ⟨er_, hb1_ HB.out GE238.out⟩

end Go.Proofs.Ytefkdkppipdceaa.PCommitServes
