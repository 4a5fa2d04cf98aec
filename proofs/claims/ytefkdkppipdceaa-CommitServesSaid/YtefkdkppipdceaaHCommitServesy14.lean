/- Contracts of functions that CommitServes reaches, a text of this session's own. -/
import Derived.Test.YtefkdkppipdceaaBox2
import Derived.Test.YtefkdkppipdceaaHCommitServesy0
import Derived.Test.YtefkdkppipdceaaHCommitServesy13
namespace Go.Proofs.Ytefkdkppipdceaa.PCommitServes
open Go.RowKit Go.Proofs.YtefkdkppipdceaaW.PrintWords Go.Proofs.YtefkdkppipdceaaW.PrintLast Go.Proofs.YtefkdkppipdceaaW.PrintMore
attribute [local go_sem] max2_int min2_int max_two min_two max_three min_three max_four min_four   -- for this text's walks alone
set_option linter.unusedVariables false
set_option linter.unusedSimpArgs false

/-! ### gridhallref3_StateError: function 96 -/
def gridhallref3_StateError.j0 : Nat → Bool → Bool → Int → Int → Option (Int)
 | 0, _, _, _, _ => none
 | k + 1, x28, x199000, x199001, x199002 => if x28 = true then (some 4) else (if x199000 = true then (some 0) else (if x199002 = 0 then (some 0) else (some 3)))
def gridhallref3_StateError.f (k : Nat) (a0_0 : ByteArray) (a0_1 : Int) (a0_2 : Int) (a0_3 : Int) (a0_4 : Int) (a0_5 : Int) (a0_6 : Int) (a0_7 : Int) (a1_0 : Bool) (a1_1 : Int) (a1_2 : Int) : Option (Int) := (gridhallref3_RuleError.f k a0_0 a0_1 a0_2 a0_3 a0_4 a0_5 a0_6 a0_7).bind fun t199 => (if t199 = 0 then ((gridhallref3_In.f a1_1 1 200000).bind fun t200 => (if t200 = true then (if a1_0 = true then ((gridhallref3_In.f a1_2 a0_1 a0_2).bind fun t201 => (gridhallref3_StateError.j0 k (!t201) a1_0 a1_1 a1_2)) else (gridhallref3_StateError.j0 k false a1_0 a1_1 a1_2)) else (gridhallref3_StateError.j0 k true a1_0 a1_1 a1_2))) else (some t199))
theorem gridhallref3_StateError.mono_l : ∀ k, (∀ y0 y1 y2 y3, LeO (gridhallref3_StateError.j0 k y0 y1 y2 y3) (gridhallref3_StateError.j0 (k + 1) y0 y1 y2 y3))
 | 0 => fun _ _ _ _ r h => by simp [gridhallref3_StateError.j0] at h
 | k + 1 => by
  have ih0:=gridhallref3_StateError.mono_l k
  ·intro y0 y1 y2 y3
   unfold gridhallref3_StateError.j0
   repeat' first|(with_reducible first|exact ih0 _ _ _ _|exact gridhallref3_RuleError.mono _ _ _ _ _ _ _ _ _|exact LeO.refl _|exact LeO.none _|refine LeO.ite ?_ ?_|refine LeO.bind ?_ (fun _=>?_))|exact ih0 _ _ _ _|exact gridhallref3_RuleError.mono _ _ _ _ _ _ _ _ _|exact LeO.none _|refine LeO.ite ?_ ?_|refine LeO.bind ?_ (fun _=>?_)
theorem gridhallref3_StateError.mono : ∀ a0 a1 a2 a3 a4 a5 a6 a7 a8 a9 a10 k, LeO (gridhallref3_StateError.f k a0 a1 a2 a3 a4 a5 a6 a7 a8 a9 a10) (gridhallref3_StateError.f (k + 1) a0 a1 a2 a3 a4 a5 a6 a7 a8 a9 a10) := by
 intro a0 a1 a2 a3 a4 a5 a6 a7 a8 a9 a10 k
 have ih0:=gridhallref3_StateError.mono_l k
 unfold gridhallref3_StateError.f
 repeat' first|(with_reducible first|exact ih0 _ _ _ _|exact gridhallref3_RuleError.mono _ _ _ _ _ _ _ _ _|exact LeO.refl _|exact LeO.none _|refine LeO.ite ?_ ?_|refine LeO.bind ?_ (fun _=>?_))|exact ih0 _ _ _ _|exact gridhallref3_RuleError.mono _ _ _ _ _ _ _ _ _|exact LeO.none _|refine LeO.ite ?_ ?_|refine LeO.bind ?_ (fun _=>?_)
set_option maxHeartbeats 8000000 in
set_option maxRecDepth 100000 in
theorem gridhallref3_StateError.calls (k : Nat) (a0_0 : ByteArray) (a0_1 : Int) (a0_2 : Int) (a0_3 : Int) (a0_4 : Int) (a0_5 : Int) (a0_6 : Int) (a0_7 : Int) (a1_0 : Bool) (a1_1 : Int) (a1_2 : Int) (r : Int) (w : World) (h : gridhallref3_StateError.f k a0_0 a0_1 a0_2 a0_3 a0_4 a0_5 a0_6 a0_7 a1_0 a1_1 a1_2 = some r) :
  Calls Try.prog 96 #[.agg #[.string a0_0, .int .i64 a0_1, .int .i64 a0_2, .int .i64 a0_3, .int .i64 a0_4, .int .i64 a0_5, .int .i64 a0_6, .int .i64 a0_7], .agg #[.bool a1_0, .int .i64 a1_1, .int .i64 a1_2]] w fun e w' => e = .returned (.int .i64 r) ∧ Below w.heap.size w w' := by
 have hu54:=Try.underlying54;have hu59:=Try.underlying59;have HB:=k0_ (Below.refl w.heap.size w);have H : ((gridhallref3_RuleError.f k a0_0 a0_1 a0_2 a0_3 a0_4 a0_5 a0_6 a0_7).bind fun t199=>(if t199 = 0 then ((gridhallref3_In.f a1_1 1 200000).bind fun t200=>(if t200 = true then (if a1_0 = true then ((gridhallref3_In.f a1_2 a0_1 a0_2).bind fun t201=>(gridhallref3_StateError.j0 k (!t201) a1_0 a1_1 a1_2)) else (gridhallref3_StateError.j0 k false a1_0 a1_1 a1_2)) else (gridhallref3_StateError.j0 k true a1_0 a1_1 a1_2))) else (some t199))) = some r:=h;clear h;replace H:=Option.bind_eq_some_iff.mp H;obtain ⟨t199, A30, H⟩:=H;replace H : (if t199 = 0 then ((gridhallref3_In.f a1_1 1 200000).bind fun t200=>(if t200 = true then (if a1_0 = true then ((gridhallref3_In.f a1_2 a0_1 a0_2).bind fun t201=>(gridhallref3_StateError.j0 k (!t201) a1_0 a1_1 a1_2)) else (gridhallref3_StateError.j0 k false a1_0 a1_1 a1_2)) else (gridhallref3_StateError.j0 k true a1_0 a1_1 a1_2))) else (some t199)) = some r:=H;have A3:=k0_ A30;clear A30
 by_cases c4 : t199 = 0
 ·rw [if_pos c4] at H
  have c4b0:=beq_iff_eq.mpr c4;have c4b1:=bne_eq_false_iff_eq.mpr c4;clear c4;have HC5:=k0_ H;clear H
  go_enter Try.func96, Try.ntmps96
  go_upto_region 4 with (first|((with_reducible refine gate_dst (N:=2) rfl ?_);refine box_event ?hg (N:=2) ?hd (cs:=#[.string a0_0, .int .i64 a0_1, .int .i64 a0_2, .int .i64 a0_3, .int .i64 a0_4, .int .i64 a0_5, .int .i64 a0_6, .int .i64 a0_7]) (t:=54) ?hr ?_;(case hd=>rfl);(case hg=>rfl);(case hr=>first|(go_simp;done)|(go_simp;rfl));intro gb197 hg w6 hbox hb;have BK197:=k0_ (hbox);have GW197:=k0_ ((by rw [hg];exact (below_size (hb0_ HB.out)) : w.heap.size ≤ gb197));have GE197:=k0_ ((by rw [hg];exact (below_size (hb0_ HB.out)) : w.heap.size ≤ gb197));replace HB:=k0_ (below_step (hb0_ HB.out) hb);clear hb hbox hg)|((with_reducible refine gate_dst (N:=3) rfl ?_);refine box_event ?hg (N:=3) ?hd (cs:=#[.bool a1_0, .int .i64 a1_1, .int .i64 a1_2]) (t:=59) ?hr ?_;(case hd=>rfl);(case hg=>rfl);(case hr=>first|(go_simp;done)|(go_simp;rfl));intro gb198 hg w7 hbox hb;have BK198:=k0_ (hbox);have GW198:=k0_ ((by rw [hg];exact (below_size (hb1_ HB.out GE197.out)) : w.heap.size ≤ gb198));have GE198:=k0_ ((by rw [hg];exact (below_size (hb1_ HB.out GE197.out)) : w.heap.size ≤ gb198));replace HB:=k0_ (below_step (hb1_ HB.out GE197.out) hb);have NB197_198:=k0_ ((by rw [hg];exact Nat.ne_of_lt (blk_lt (g:=gb197) (o:=.cells #[.string a0_0, .int .i64 a0_1, .int .i64 a0_2, .int .i64 a0_3, .int .i64 a0_4, .int .i64 a0_5, .int .i64 a0_6, .int .i64 a0_7] 54 (0, 0)) (bq_ BK197.out)) : gb197 ≠ gb198));have NB198_197:=k0_ ((by rw [hg];exact Nat.ne_of_gt (blk_lt (g:=gb197) (o:=.cells #[.string a0_0, .int .i64 a0_1, .int .i64 a0_2, .int .i64 a0_3, .int .i64 a0_4, .int .i64 a0_5, .int .i64 a0_6, .int .i64 a0_7] 54 (0, 0)) (bq_ BK197.out)) : gb198 ≠ gb197));replace BK197:=k0_ (blk_below (g:=gb197) (o:=.cells #[.string a0_0, .int .i64 a0_1, .int .i64 a0_2, .int .i64 a0_3, .int .i64 a0_4, .int .i64 a0_5, .int .i64 a0_6, .int .i64 a0_7] 54 (0, 0)) (bq_ BK197.out) hb);clear hb hbox hg;have hnb8:=NB197_198.out;have hnc8:=NB198_197.out;obtain ⟨hcz9_0,hcz9_1,hcz9_2,hcz9_3,hcz9_4,hcz9_5,hcz9_6,hcz9_7⟩:=bc8_ BK197.out;obtain ⟨hfz9_0,hfz9_1,hfz9_2,hfz9_3,hfz9_4,hfz9_5,hfz9_6,hfz9_7⟩:=bf8_ BK197.out)|((with_reducible refine gate_callee (f:=114) rfl ?_);refine goesL_ (some 7) rfl rfl Try.func114 (by kernel_rfl) rfl #[.agg #[.string a0_0, .int .i64 a0_1, .int .i64 a0_2, .int .i64 a0_3, .int .i64 a0_4, .int .i64 a0_5, .int .i64 a0_6, .int .i64 a0_7]] rfl mt_ ?_;(with_reducible refine (gridhallref3_RuleError.calls k a0_0 a0_1 a0_2 a0_3 a0_4 a0_5 a0_6 a0_7 t199 _ A3.out).mono ?_);rintro e w10 ⟨rfl, hb⟩;refine ⟨_, rfl, ?_⟩;replace BK197:=k0_ (blk_below (g:=gb197) (o:=.cells #[.string a0_0, .int .i64 a0_1, .int .i64 a0_2, .int .i64 a0_3, .int .i64 a0_4, .int .i64 a0_5, .int .i64 a0_6, .int .i64 a0_7] 54 (0, 0)) (bq_ BK197.out) hb);replace BK198:=k0_ (blk_below (g:=gb198) (o:=.cells #[.bool a1_0, .int .i64 a1_1, .int .i64 a1_2] 59 (0, 0)) (bq_ BK198.out) hb);replace HB:=k0_ (below_step (hb2_ HB.out GE197.out GE198.out) hb);clear hb))
  (try simp only [Act.put, q1_,q2_,q3_])
  go_cut [28] (fun v28 wc=>∃ (kq : Nat) (x28_4 : Bool), v28 = .bool x28_4∧Aside0 (gridhallref3_StateError.j0 kq x28_4 a1_0 a1_1 a1_2 = some r)∧Aside0 (kq ≤ k)∧Aside0 (wc.heap[gb197]? = some (.cells #[.string a0_0, .int .i64 a0_1, .int .i64 a0_2, .int .i64 a0_3, .int .i64 a0_4, .int .i64 a0_5, .int .i64 a0_6, .int .i64 a0_7] 54 (0, 0)))∧Aside0 (wc.heap[gb198]? = some (.cells #[.bool a1_0, .int .i64 a1_1, .int .i64 a1_2] 59 (0, 0)))∧Aside0 (Below w.heap.size w wc))
  case first =>
   have H:=HC5.out;clear HC5;replace H:=Option.bind_eq_some_iff.mp H;obtain ⟨t200, A110, H⟩:=H;replace H : (if t200 = true then (if a1_0 = true then ((gridhallref3_In.f a1_2 a0_1 a0_2).bind fun t201=>(gridhallref3_StateError.j0 k (!t201) a1_0 a1_1 a1_2)) else (gridhallref3_StateError.j0 k false a1_0 a1_1 a1_2)) else (gridhallref3_StateError.j0 k true a1_0 a1_1 a1_2)) = some r:=H;have A11:=k0_ A110;clear A110
   by_cases c12 : t200 = true
   ·subst c12
    have H1 : (if a1_0 = true then ((gridhallref3_In.f a1_2 a0_1 a0_2).bind fun t201=>(gridhallref3_StateError.j0 k (!t201) a1_0 a1_1 a1_2)) else (gridhallref3_StateError.j0 k false a1_0 a1_1 a1_2)) = some r:=by rw [if_pos rfl] at H;exact H
    clear H;have H:=H1;clear H1
    by_cases c13 : a1_0 = true
    ·subst c13
     have H1 : ((gridhallref3_In.f a1_2 a0_1 a0_2).bind fun t201=>(gridhallref3_StateError.j0 k (!t201) true a1_1 a1_2)) = some r:=by rw [if_pos rfl] at H;exact H
     clear H;have H:=H1;clear H1;replace H:=Option.bind_eq_some_iff.mp H;obtain ⟨t201, A140, H⟩:=H;replace H : (gridhallref3_StateError.j0 k (!t201) true a1_1 a1_2) = some r:=H;have A14:=k0_ A140;clear A140;have H':=k0_ H;clear H;have hnb15:=NB198_197.out;have hnc15:=NB197_198.out;obtain ⟨hcz16_0,hcz16_1,hcz16_2⟩:=bc3_ BK198.out;obtain ⟨hfz16_0,hfz16_1,hfz16_2⟩:=bf3_ BK198.out
     go_wp2_with (first|((with_reducible refine gate_callee (f:=21) rfl ?_);refine goesL_ (some 13) rfl rfl Try.func21 (by kernel_rfl) rfl #[.int .i64 a1_1, .int .i64 1, .int .i64 200000] rfl mt_ ?_;(with_reducible refine (gridhallref3_In.calls a1_1 1 200000 true _ A11.out).mono ?_);rintro e w' ⟨rfl, ⟨nd, rfl⟩⟩;refine ⟨_, rfl, ?_⟩;obtain ⟨hcz17_0,hcz17_1,hcz17_2,hcz17_3,hcz17_4,hcz17_5,hcz17_6,hcz17_7⟩:=bc8_ BK197.out;obtain ⟨hfz17_0,hfz17_1,hfz17_2,hfz17_3,hfz17_4,hfz17_5,hfz17_6,hfz17_7⟩:=bf8_ BK197.out)|(go_at_call 21;(with_reducible refine (gridhallref3_In.calls a1_2 a0_1 a0_2 t201 _ A14.out).mono ?_);rintro e w' ⟨rfl, ⟨nd, rfl⟩⟩))
     go_meet
     case rel=>exact ⟨_, (!t201),rs_, H', ⟨by first|omega|exact Nat.le_refl _⟩,⟨bq_ BK197.out⟩,⟨bq_ BK198.out⟩,⟨hb2_ HB.out GE197.out GE198.out⟩⟩
    ·replace c13:=Bool.eq_false_iff.mpr c13
     subst c13;have H1 : (gridhallref3_StateError.j0 k false false a1_1 a1_2) = some r:=by rw [if_neg (show ¬ (false = true) by decide)] at H;exact H
     clear H;have H:=H1;clear H1;have H':=k0_ H;clear H;have hnb18:=NB198_197.out;have hnc18:=NB197_198.out;obtain ⟨hcz19_0,hcz19_1,hcz19_2⟩:=bc3_ BK198.out;obtain ⟨hfz19_0,hfz19_1,hfz19_2⟩:=bf3_ BK198.out
     go_wp2_with (first|((with_reducible refine gate_callee (f:=21) rfl ?_);refine goesL_ (some 13) rfl rfl Try.func21 (by kernel_rfl) rfl #[.int .i64 a1_1, .int .i64 1, .int .i64 200000] rfl mt_ ?_;(with_reducible refine (gridhallref3_In.calls a1_1 1 200000 true _ A11.out).mono ?_);rintro e w' ⟨rfl, ⟨nd, rfl⟩⟩;refine ⟨_, rfl, ?_⟩))
     go_meet
     case rel=>exact ⟨_, (false),rs_, H', ⟨by first|omega|exact Nat.le_refl _⟩,⟨bq_ BK197.out⟩,⟨bq_ BK198.out⟩,⟨hb2_ HB.out GE197.out GE198.out⟩⟩
   ·replace c12:=Bool.eq_false_iff.mpr c12
    subst c12;have H1 : (gridhallref3_StateError.j0 k true a1_0 a1_1 a1_2) = some r:=by rw [if_neg (show ¬ (false = true) by decide)] at H;exact H
    clear H;have H:=H1;clear H1;have H':=k0_ H;clear H;have hnb20:=NB198_197.out;have hnc20:=NB197_198.out;obtain ⟨hcz21_0,hcz21_1,hcz21_2⟩:=bc3_ BK198.out;obtain ⟨hfz21_0,hfz21_1,hfz21_2⟩:=bf3_ BK198.out
    go_wp2_with (first|((with_reducible refine gate_callee (f:=21) rfl ?_);refine goesL_ (some 13) rfl rfl Try.func21 (by kernel_rfl) rfl #[.int .i64 a1_1, .int .i64 1, .int .i64 200000] rfl mt_ ?_;(with_reducible refine (gridhallref3_In.calls a1_1 1 200000 false _ A11.out).mono ?_);rintro e w' ⟨rfl, ⟨nd, rfl⟩⟩;refine ⟨_, rfl, ?_⟩))
    go_meet
    case rel=>exact ⟨_, (true),rs_, H', ⟨by first|omega|exact Nat.le_refl _⟩,⟨bq_ BK197.out⟩,⟨bq_ BK198.out⟩,⟨hb2_ HB.out GE197.out GE198.out⟩⟩
  clear HC5;clear c4b0 c4b1 hcz9_0 hcz9_1 hcz9_2 hcz9_3 hcz9_4 hcz9_5 hcz9_6 hcz9_7 hfz9_0 hfz9_1 hfz9_2 hfz9_3 hfz9_4 hfz9_5 hfz9_6 hfz9_7;obtain ⟨kq, x28_4, rfl, HA, HJ4, BK197, BK198, HB⟩:=hcut;obtain _|kj4:=kq
  ·exact absurd HA.out (by simp [gridhallref3_StateError.j0])
  have H:=HA.out;clear HA;simp only [gridhallref3_StateError.j0] at H
  by_cases c22 : x28_4 = true
  ·subst c22
   have H1 : (some 4) = some r:=by rw [if_pos rfl] at H;exact H
   clear H;have H:=H1;clear H1;obtain rfl:=Option.some.inj H;go_wp2
   go_ret
   exact ⟨er_, hb2_ HB.out GE197.out GE198.out⟩
  ·replace c22:=Bool.eq_false_iff.mpr c22
   subst c22;have H1 : (if a1_0 = true then (some 0) else (if a1_2 = 0 then (some 0) else (some 3))) = some r:=by rw [if_neg (show ¬ (false = true) by decide)] at H;exact H
   clear H;have H:=H1;clear H1
   by_cases c23 : a1_0 = true
   ·subst c23
    have H1 : (some 0) = some r:=by rw [if_pos rfl] at H;exact H
    clear H;have H:=H1;clear H1;obtain rfl:=Option.some.inj H;have hnb24:=NB198_197.out;have hnc24:=NB197_198.out;obtain ⟨hcz25_0,hcz25_1,hcz25_2⟩:=bc3_ BK198.out;obtain ⟨hfz25_0,hfz25_1,hfz25_2⟩:=bf3_ BK198.out;go_wp2
    go_ret
    exact ⟨er_, hb2_ HB.out GE197.out GE198.out⟩
   ·replace c23:=Bool.eq_false_iff.mpr c23
    subst c23;have H1 : (if a1_2 = 0 then (some 0) else (some 3)) = some r:=by rw [if_neg (show ¬ (false = true) by decide)] at H;exact H
    clear H;have H:=H1;clear H1
    by_cases c26 : a1_2 = 0
    rw [if_pos c26] at H;have c26b0:=beq_iff_eq.mpr c26;have c26b1:=bne_eq_false_iff_eq.mpr c26;clear c26;obtain rfl:=Option.some.inj H;rotate_left;rw [if_neg c26] at H;have c26b0:=beq_eq_false_iff_ne.mpr c26;have c26b1:=bne_iff_ne.mpr c26;obtain rfl:=Option.some.inj H;rotate_left
    all_goals
     have hnb27:=NB198_197.out;have hnc27:=NB197_198.out;obtain ⟨hcz28_0,hcz28_1,hcz28_2⟩:=bc3_ BK198.out;obtain ⟨hfz28_0,hfz28_1,hfz28_2⟩:=bf3_ BK198.out;go_wp2
     go_ret
    ·exact ⟨er_, hb2_ HB.out GE197.out GE198.out⟩
    ·exact ⟨er_, hb2_ HB.out GE197.out GE198.out⟩
 ·rw [if_neg c4] at H
  have c4b0:=beq_eq_false_iff_ne.mpr c4;have c4b1:=bne_iff_ne.mpr c4;obtain rfl:=Option.some.inj H
  go_enter Try.func96, Try.ntmps96
  go_wp2_with (first|((with_reducible refine gate_dst (N:=2) rfl ?_);refine box_event ?hg (N:=2) ?hd (cs:=#[.string a0_0, .int .i64 a0_1, .int .i64 a0_2, .int .i64 a0_3, .int .i64 a0_4, .int .i64 a0_5, .int .i64 a0_6, .int .i64 a0_7]) (t:=54) ?hr ?_;(case hd=>rfl);(case hg=>rfl);(case hr=>first|(go_simp;done)|(go_simp;rfl));intro gb197 hg w31 hbox hb;have BK197:=k0_ (hbox);have GW197:=k0_ ((by rw [hg];exact (below_size (hb0_ HB.out)) : w.heap.size ≤ gb197));have GE197:=k0_ ((by rw [hg];exact (below_size (hb0_ HB.out)) : w.heap.size ≤ gb197));replace HB:=k0_ (below_step (hb0_ HB.out) hb);clear hb hbox hg)|((with_reducible refine gate_dst (N:=3) rfl ?_);refine box_event ?hg (N:=3) ?hd (cs:=#[.bool a1_0, .int .i64 a1_1, .int .i64 a1_2]) (t:=59) ?hr ?_;(case hd=>rfl);(case hg=>rfl);(case hr=>first|(go_simp;done)|(go_simp;rfl));intro gb198 hg w32 hbox hb;have BK198:=k0_ (hbox);have GW198:=k0_ ((by rw [hg];exact (below_size (hb1_ HB.out GE197.out)) : w.heap.size ≤ gb198));have GE198:=k0_ ((by rw [hg];exact (below_size (hb1_ HB.out GE197.out)) : w.heap.size ≤ gb198));replace HB:=k0_ (below_step (hb1_ HB.out GE197.out) hb);have NB197_198:=k0_ ((by rw [hg];exact Nat.ne_of_lt (blk_lt (g:=gb197) (o:=.cells #[.string a0_0, .int .i64 a0_1, .int .i64 a0_2, .int .i64 a0_3, .int .i64 a0_4, .int .i64 a0_5, .int .i64 a0_6, .int .i64 a0_7] 54 (0, 0)) (bq_ BK197.out)) : gb197 ≠ gb198));have NB198_197:=k0_ ((by rw [hg];exact Nat.ne_of_gt (blk_lt (g:=gb197) (o:=.cells #[.string a0_0, .int .i64 a0_1, .int .i64 a0_2, .int .i64 a0_3, .int .i64 a0_4, .int .i64 a0_5, .int .i64 a0_6, .int .i64 a0_7] 54 (0, 0)) (bq_ BK197.out)) : gb198 ≠ gb197));replace BK197:=k0_ (blk_below (g:=gb197) (o:=.cells #[.string a0_0, .int .i64 a0_1, .int .i64 a0_2, .int .i64 a0_3, .int .i64 a0_4, .int .i64 a0_5, .int .i64 a0_6, .int .i64 a0_7] 54 (0, 0)) (bq_ BK197.out) hb);clear hb hbox hg;have hnb33:=NB197_198.out;have hnc33:=NB198_197.out;obtain ⟨hcz34_0,hcz34_1,hcz34_2,hcz34_3,hcz34_4,hcz34_5,hcz34_6,hcz34_7⟩:=bc8_ BK197.out;obtain ⟨hfz34_0,hfz34_1,hfz34_2,hfz34_3,hfz34_4,hfz34_5,hfz34_6,hfz34_7⟩:=bf8_ BK197.out)|((with_reducible refine gate_callee (f:=114) rfl ?_);refine goesL_ (some 7) rfl rfl Try.func114 (by kernel_rfl) rfl #[.agg #[.string a0_0, .int .i64 a0_1, .int .i64 a0_2, .int .i64 a0_3, .int .i64 a0_4, .int .i64 a0_5, .int .i64 a0_6, .int .i64 a0_7]] rfl mt_ ?_;(with_reducible refine (gridhallref3_RuleError.calls k a0_0 a0_1 a0_2 a0_3 a0_4 a0_5 a0_6 a0_7 t199 _ A3.out).mono ?_);rintro e w35 ⟨rfl, hb⟩;refine ⟨_, rfl, ?_⟩;replace BK197:=k0_ (blk_below (g:=gb197) (o:=.cells #[.string a0_0, .int .i64 a0_1, .int .i64 a0_2, .int .i64 a0_3, .int .i64 a0_4, .int .i64 a0_5, .int .i64 a0_6, .int .i64 a0_7] 54 (0, 0)) (bq_ BK197.out) hb);replace BK198:=k0_ (blk_below (g:=gb198) (o:=.cells #[.bool a1_0, .int .i64 a1_1, .int .i64 a1_2] 59 (0, 0)) (bq_ BK198.out) hb);replace HB:=k0_ (below_step (hb2_ HB.out GE197.out GE198.out) hb);clear hb))
  go_ret
  exact ⟨er_, hb2_ HB.out GE197.out GE198.out⟩

/-! ### gridhallref3_Before: function 66 -/
def gridhallref3_Before.l0 : Nat → Int → List (S132) → Int → Int → Option (Int)
 | 0, _, _, _, _ => none
 | k + 1, x5, x11, x12, x13 => if x13 < x12 then (if 0 ≤ x13 then (if x13 < (x11.length : Int) then (gridhallref3_Before.l0 k (wrap64 (x5 + ((rd_T132 x11 x13).f0))) x11 x12 (wrap64 (x13 + 1))) else (none)) else (none)) else (some x5)
def gridhallref3_Before.f (k : Nat) (a0_0 : ByteArray) (l0_1 : List (S132)) (a1 : Int) : Option (Int) := if 0 ≤ a1 then (if a1 ≤ (l0_1.length : Int) then ((some (l0_1.take (a1 : Int).toNat : List (S132))).bind fun y203 => (gridhallref3_Before.l0 k 0 y203 (y203.length : Int) 0)) else (none)) else (none)
theorem gridhallref3_Before.mono_l : ∀ k, (∀ y0 y1 y2 y3, LeO (gridhallref3_Before.l0 k y0 y1 y2 y3) (gridhallref3_Before.l0 (k + 1) y0 y1 y2 y3))
 | 0 => fun _ _ _ _ r h => by simp [gridhallref3_Before.l0] at h
 | k + 1 => by
  have ih0:=gridhallref3_Before.mono_l k
  ·intro y0 y1 y2 y3
   unfold gridhallref3_Before.l0
   repeat' first|(with_reducible first|exact ih0 _ _ _ _|exact LeO.refl _|exact LeO.none _|refine LeO.ite ?_ ?_|refine LeO.bind ?_ (fun _=>?_))|exact ih0 _ _ _ _|exact LeO.none _|refine LeO.ite ?_ ?_|refine LeO.bind ?_ (fun _=>?_)
theorem gridhallref3_Before.mono : ∀ a0 a1 a2 k, LeO (gridhallref3_Before.f k a0 a1 a2) (gridhallref3_Before.f (k + 1) a0 a1 a2) := by
 intro a0 a1 a2 k
 have ih0:=gridhallref3_Before.mono_l k
 unfold gridhallref3_Before.f
 repeat' first|(with_reducible first|exact ih0 _ _ _ _|exact LeO.refl _|exact LeO.none _|refine LeO.ite ?_ ?_|refine LeO.bind ?_ (fun _=>?_))|exact ih0 _ _ _ _|exact LeO.none _|refine LeO.ite ?_ ?_|refine LeO.bind ?_ (fun _=>?_)
set_option maxHeartbeats 8000000 in
set_option maxRecDepth 100000 in
theorem gridhallref3_Before.calls (k : Nat) (a0_0 : ByteArray) (A0_1 : Option Addr) (c0_1 : Nat) (l0_1 : List (S132)) (a1 : Int) (r : Int) (w : World) (hr0_1 : Kd.C k132 w A0_1 l0_1.length l0_1) (hc0_1 : l0_1.length ≤ c0_1) (h : gridhallref3_Before.f k a0_0 l0_1 a1 = some r) :
  Calls Try.prog 66 #[.agg #[.string a0_0, .slice A0_1 l0_1.length c0_1], .int .i64 a1] w fun e w' => e = .returned (.int .i64 r) ∧ Below w.heap.size w w' := by
 have hu57:=Try.underlying57;have hu132:=Try.underlying132;have HR0_1:=k0_ hr0_1;have HC0_1:=k0_ hc0_1;clear hr0_1 hc0_1;have HB:=k0_ (Below.refl w.heap.size w);have H : (if 0 ≤ a1 then (if a1 ≤ (l0_1.length : Int) then ((some (l0_1.take (a1 : Int).toNat : List (S132))).bind fun y203=>(gridhallref3_Before.l0 k 0 y203 (y203.length : Int) 0)) else (none)) else (none)) = some r:=h;clear h
 by_cases c3 : 0 ≤ a1
 ·rw [if_pos c3] at H
  have c3b0:=eq_true c3;have c3b1:=decide_eq_true c3;clear c3
  obtain ⟨c4,H⟩:=gi_ H;have c4b0:=eq_true c4;have c4b1:=decide_eq_true c4;clear c4;obtain ⟨y203, hy203⟩ : ∃ y_ : List (S132), y_ = (l0_1.take (a1 : Int).toNat):=⟨_, rfl⟩;replace H : (gridhallref3_Before.l0 k 0 y203 (y203.length : Int) 0) = some r:=by first|(rw [hy203];with_reducible exact H)|(have H2_:=(Option.bind_some _ _).symm.trans H;rw [hy203];with_reducible exact H2_)|(have H2_:=(Option.bind_some _ _).symm.trans H;with_reducible exact H2_)|with_reducible exact H|(rw [hy203];exact H)|exact H
  have Ny203:=k0_ hy203;clear hy203;have H':=k0_ H;clear H
  go_enter Try.func66, Try.ntmps66
  go_wp2_with (first|((with_reducible refine gate_dst (N:=2) rfl ?_);refine box_event ?hg (N:=2) ?hd (cs:=#[.string a0_0, .slice A0_1 l0_1.length c0_1]) (t:=57) ?hr ?_;(case hd=>rfl);(case hg=>rfl);(case hr=>first|(go_simp;done)|(go_simp;rfl));intro gb202 hg w5 hbox hb;have BK202:=k0_ (hbox);have GW202:=k0_ ((by rw [hg];exact (below_size (hb0_ HB.out)) : w.heap.size ≤ gb202));have GE202:=k0_ ((by rw [hg];exact (below_size (hb0_ HB.out)) : w.heap.size ≤ gb202));replace HB:=k0_ (below_step (hb0_ HB.out) hb);clear hb hbox hg;obtain ⟨hcz6_0,hcz6_1⟩:=bc2_ BK202.out;obtain ⟨hfz6_0,hfz6_1⟩:=bf2_ BK202.out;have q7 : (a1 : Int) ≤ ((l0_1.length : Int) : Int):=of_decide_eq_true as_;obtain ⟨i07, hi07, _, hsz7, _⟩:=info_parts info132;have hroom7 : l0_1.length ≤ c0_1:=HC0_1.out;have hC7 : Kd.C k132 _ A0_1 l0_1.length l0_1:=HR0_1.out;have hcut7:=cut_to (P:=Try.prog) 55 132 .i64 Try.underlying55 hi07 A0_1 l0_1.length c0_1 a1 (of_decide_eq_true as_) q7 hroom7;have hr7:=Kd.C_take (m:=(a1 : Int).toNat) hC7 (by omega);have hy7 : y203.length = (a1 : Int).toNat:=(by rw [Ny203.out, List.length_take];omega);rw [← Ny203.out] at hr7;rw [← hy7] at hcut7;have HR206:=k0_ hr7;have HC206:=k0_ (show y203.length ≤ c0_1 from by omega);clear hr7 hC7 hroom7 hi07 hsz7;have KY7:=k0_ hy7;clear hy7;replace q7:=eq_true q7))
  (try simp only [Act.put, q1_,q3_,q2_])
  go_loopg [5, 13] k (fun kq v5 v13 w'=>∃ (x5_1 : Int) (x13_1 : Int), v5 = .int .i64 x5_1∧v13 = .int .i64 x13_1∧Aside0 (gridhallref3_Before.l0 kq x5_1 y203 (y203.length : Int) x13_1 = some r)∧Aside0 (kq ≤ k)∧Aside0 (w'.heap[gb202]? = some (.cells #[.string a0_0, (.slice A0_1 l0_1.length c0_1)] 57 (0, 0)))∧Aside0 (Below w.heap.size w w'))
  case atStart=>exact ⟨(0),(0),rs_,rs_, H', ⟨Nat.le_refl _⟩,⟨bq_ BK202.out⟩,⟨hb1_ HB.out GE202.out⟩⟩
  clear H' c3b0 c3b1 c4b0 c4b1 q7 hcz6_0 hcz6_1 hfz6_0 hfz6_1;obtain ⟨x5_1, x13_1, rfl, rfl, HA, HK1, BK202, HB⟩:=hrel;obtain _|k1:=gk
  ·exact absurd HA.out (by simp [gridhallref3_Before.l0])
  have H:=HA.out;clear HA;simp only [gridhallref3_Before.l0] at H
  by_cases c8 : x13_1 < (y203.length : Int)
  ·rw [if_pos c8] at H
   have c8b0:=decide_eq_true c8;clear c8
   obtain ⟨c9,H⟩:=gi_ H;have c9b0:=decide_eq_true c9;clear c9
   obtain ⟨c10,H⟩:=gi_ H;have c10b0:=decide_eq_true c10;clear c10;have H':=k0_ H;clear H;have p207 : 0 ≤ (x13_1 : Int):=of_decide_eq_true as_;have q207 : x13_1 < (y203.length : Int):=of_decide_eq_true as_;obtain ⟨ad207, e207, hx207_0, hx207_1⟩:=at_T132 HR206.out x13_1 p207 q207;cases e207;replace hx207_0:=bt_ HB.out hx207_0;replace hx207_1:=bt_ HB.out hx207_1;replace p207:=eq_true p207;replace q207:=eq_true q207
   go_wp2_with (first|((with_reducible refine gate_dst (N:=7) rfl ?_);refine box_event ?hg (N:=7) ?hd (cs:=#[.int .i64 0, .int .i64 0]) (t:=132) ?hr ?_;(case hd=>rfl);(case hg=>rfl);(case hr=>first|(go_simp;done)|(go_simp;rfl));intro gb208 hg w11 hbox hb;have BK208:=k0_ (hbox);have GW208:=k0_ ((by rw [hg];exact (below_size (hb1_ HB.out GE202.out)) : w.heap.size ≤ gb208));have GE208:=k0_ ((by rw [hg];exact (below_size (hb1_ HB.out GE202.out)) : w.heap.size ≤ gb208));replace HB:=k0_ (below_step (hb1_ HB.out GE202.out) hb);have NB202_208:=k0_ ((by rw [hg];exact Nat.ne_of_lt (blk_lt (g:=gb202) (o:=.cells #[.string a0_0, .slice (some ad207) l0_1.length c0_1] 57 (0, 0)) (bq_ BK202.out)) : gb202 ≠ gb208));have NB208_202:=k0_ ((by rw [hg];exact Nat.ne_of_gt (blk_lt (g:=gb202) (o:=.cells #[.string a0_0, .slice (some ad207) l0_1.length c0_1] 57 (0, 0)) (bq_ BK202.out)) : gb208 ≠ gb202));replace BK202:=k0_ (blk_below (g:=gb202) (o:=.cells #[.string a0_0, .slice (some ad207) l0_1.length c0_1] 57 (0, 0)) (bq_ BK202.out) hb);clear hb hbox hg;have hnb12:=NB208_202.out;have hnc12:=NB202_208.out;obtain ⟨hcz13_0,hcz13_1⟩:=bc2_ BK208.out;obtain ⟨hfz13_0,hfz13_1⟩:=bf2_ BK208.out))
   go_roundg k1
   case measure=>have:=HK1.out;omega
   case rel=>exact ⟨(wrap64 (x5_1 + ((rd_T132 y203 x13_1).f0))),(wrap64 (x13_1 + 1)),rs_,rs_, H', ⟨by have:=HK1.out;omega⟩,⟨by (with_reducible repeat (first|refine blk_drewN ?_ _|refine blk_drew ?_|refine blk_alloc ?_ _));refine blk_far ?_ NB202_208.out _;(with_reducible repeat (first|refine blk_drewN ?_ _|refine blk_drew ?_|refine blk_alloc ?_ _));refine blk_far ?_ NB202_208.out _;(with_reducible repeat (first|refine blk_drewN ?_ _|refine blk_drew ?_|refine blk_alloc ?_ _));exact BK202.out⟩,⟨hb2_ HB.out GE202.out GE208.out⟩⟩
  ·rw [if_neg c8] at H
   have c8b0:=decide_eq_false c8;clear c8;obtain rfl:=Option.some.inj H;go_wp2
   go_ret
   exact ⟨er_, hb1_ HB.out GE202.out⟩
 ·rw [if_neg c3] at H
  exact absurd H (by simp)

end Go.Proofs.Ytefkdkppipdceaa.PCommitServes
