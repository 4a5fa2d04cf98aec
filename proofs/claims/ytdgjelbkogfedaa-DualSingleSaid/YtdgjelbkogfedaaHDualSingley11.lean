/- Contracts of functions that DualSingle reaches, a text of this session's own. -/
import Derived.Test.YtdgjelbkogfedaaBox2
import Derived.Test.YtdgjelbkogfedaaHDualSingley0
import Derived.Test.YtdgjelbkogfedaaHDualSingley10
namespace Go.Proofs.Ytdgjelbkogfedaa.PDualSingle
open Go.RowKit Go.Proofs.YtdgjelbkogfedaaW.PrintWords Go.Proofs.YtdgjelbkogfedaaW.PrintLast Go.Proofs.YtdgjelbkogfedaaW.PrintMore
attribute [local go_sem] max2_int min2_int max_two min_two max_three min_three max_four min_four   -- for this text's walks alone
set_option linter.unusedVariables false
set_option linter.unusedSimpArgs false

/-! ### gridhallref3_StateError: function 49 -/
def gridhallref3_StateError.j0 : Nat → Bool → Bool → Int → Int → Option (Int)
 | 0, _, _, _, _ => none
 | k + 1, x28, x232000, x232001, x232002 => if x28 = true then (some 4) else (if x232000 = true then (some 0) else (if x232002 = 0 then (some 0) else (some 3)))
def gridhallref3_StateError.f (k : Nat) (a0_0 : ByteArray) (a0_1 : Int) (a0_2 : Int) (a0_3 : Int) (a0_4 : Int) (a0_5 : Int) (a0_6 : Int) (a0_7 : Int) (a1_0 : Bool) (a1_1 : Int) (a1_2 : Int) : Option (Int) := (gridhallref3_RuleError.f k a0_0 a0_1 a0_2 a0_3 a0_4 a0_5 a0_6 a0_7).bind fun t232 => (if t232 = 0 then ((gridhallref3_In.f a1_1 1 200000).bind fun t233 => (if t233 = true then (if a1_0 = true then ((gridhallref3_In.f a1_2 a0_1 a0_2).bind fun t234 => (gridhallref3_StateError.j0 k (!t234) a1_0 a1_1 a1_2)) else (gridhallref3_StateError.j0 k false a1_0 a1_1 a1_2)) else (gridhallref3_StateError.j0 k true a1_0 a1_1 a1_2))) else (some t232))
theorem gridhallref3_StateError.mono_l : ∀ k, (∀ y0 y1 y2 y3, LeO (gridhallref3_StateError.j0 k y0 y1 y2 y3) (gridhallref3_StateError.j0 (k + 1) y0 y1 y2 y3))
 | 0 => fun _ _ _ _ r h => by simp [gridhallref3_StateError.j0] at h
 | k + 1 => by
  have ih0:=gridhallref3_StateError.mono_l k
  ·intro y0 y1 y2 y3
   unfold gridhallref3_StateError.j0
   repeat' first|(with_reducible first|exact ih0 _ _ _ _|exact gridhallref3_RuleError.mono _ _ _ _ _ _ _ _ _|exact LeO.refl _|exact LeO.none _|refine LeO.ite ?_ ?_|refine LeO.bind ?_ (fun _=>?_))|exact ih0 _ _ _ _|exact gridhallref3_RuleError.mono _ _ _ _ _ _ _ _ _|exact LeO.none _|refine LeO.ite ?_ ?_|refine LeO.bind ?_ (fun _=>?_)
theorem gridhallref3_StateError.mono : ∀ a0 a1 a2 a3 a4 a5 a6 a7 a8 a9 a10 k, LeO (gridhallref3_StateError.f k a0 a1 a2 a3 a4 a5 a6 a7 a8 a9 a10) (gridhallref3_StateError.f (k + 1) a0 a1 a2 a3 a4 a5 a6 a7 a8 a9 a10) := by
 intro a0 a1 a2 a3 a4 a5 a6 a7 a8 a9 a10 k
 have ih0:=gridhallref3_StateError.mono_l k
 unfold gridhallref3_StateError.f
 repeat' first|(with_reducible first|exact ih0 _ _ _ _|exact gridhallref3_RuleError.mono _ _ _ _ _ _ _ _ _|exact LeO.refl _|exact LeO.none _|refine LeO.ite ?_ ?_|refine LeO.bind ?_ (fun _=>?_))|exact ih0 _ _ _ _|exact gridhallref3_RuleError.mono _ _ _ _ _ _ _ _ _|exact LeO.none _|refine LeO.ite ?_ ?_|refine LeO.bind ?_ (fun _=>?_)
set_option maxHeartbeats 8000000 in
set_option maxRecDepth 100000 in
theorem gridhallref3_StateError.calls (k : Nat) (a0_0 : ByteArray) (a0_1 : Int) (a0_2 : Int) (a0_3 : Int) (a0_4 : Int) (a0_5 : Int) (a0_6 : Int) (a0_7 : Int) (a1_0 : Bool) (a1_1 : Int) (a1_2 : Int) (r : Int) (w : World) (h : gridhallref3_StateError.f k a0_0 a0_1 a0_2 a0_3 a0_4 a0_5 a0_6 a0_7 a1_0 a1_1 a1_2 = some r) :
  Calls Try.prog 49 #[.agg #[.string a0_0, .int .i64 a0_1, .int .i64 a0_2, .int .i64 a0_3, .int .i64 a0_4, .int .i64 a0_5, .int .i64 a0_6, .int .i64 a0_7], .agg #[.bool a1_0, .int .i64 a1_1, .int .i64 a1_2]] w fun e w' => e = .returned (.int .i64 r) ∧ Below w.heap.size w w' := by
 have hu23:=Try.underlying23;have hu28:=Try.underlying28;have HB:=k0_ (Below.refl w.heap.size w);have H : ((gridhallref3_RuleError.f k a0_0 a0_1 a0_2 a0_3 a0_4 a0_5 a0_6 a0_7).bind fun t232=>(if t232 = 0 then ((gridhallref3_In.f a1_1 1 200000).bind fun t233=>(if t233 = true then (if a1_0 = true then ((gridhallref3_In.f a1_2 a0_1 a0_2).bind fun t234=>(gridhallref3_StateError.j0 k (!t234) a1_0 a1_1 a1_2)) else (gridhallref3_StateError.j0 k false a1_0 a1_1 a1_2)) else (gridhallref3_StateError.j0 k true a1_0 a1_1 a1_2))) else (some t232))) = some r:=h;clear h;replace H:=Option.bind_eq_some_iff.mp H;obtain ⟨t232, A30, H⟩:=H;replace H : (if t232 = 0 then ((gridhallref3_In.f a1_1 1 200000).bind fun t233=>(if t233 = true then (if a1_0 = true then ((gridhallref3_In.f a1_2 a0_1 a0_2).bind fun t234=>(gridhallref3_StateError.j0 k (!t234) a1_0 a1_1 a1_2)) else (gridhallref3_StateError.j0 k false a1_0 a1_1 a1_2)) else (gridhallref3_StateError.j0 k true a1_0 a1_1 a1_2))) else (some t232)) = some r:=H;have A3:=k0_ A30;clear A30
 by_cases c4 : t232 = 0
 ·rw [if_pos c4] at H
  have c4b0:=beq_iff_eq.mpr c4;have c4b1:=bne_eq_false_iff_eq.mpr c4;clear c4;have HC5:=k0_ H;clear H
  go_enter Try.func49, Try.ntmps49
  go_upto_region 4 with (first|((with_reducible refine gate_dst (N:=2) rfl ?_);refine box_event ?hg (N:=2) ?hd (cs:=#[.string a0_0, .int .i64 a0_1, .int .i64 a0_2, .int .i64 a0_3, .int .i64 a0_4, .int .i64 a0_5, .int .i64 a0_6, .int .i64 a0_7]) (t:=23) ?hr ?_;(case hd=>rfl);(case hg=>rfl);(case hr=>first|(go_simp;done)|(go_simp;rfl));intro gb230 hg w6 hbox hb;have BK230:=k0_ (hbox);have GW230:=k0_ ((by rw [hg];exact (below_size (hb0_ HB.out)) : w.heap.size ≤ gb230));have GE230:=k0_ ((by rw [hg];exact (below_size (hb0_ HB.out)) : w.heap.size ≤ gb230));replace HB:=k0_ (below_step (hb0_ HB.out) hb);clear hb hbox hg)|((with_reducible refine gate_dst (N:=3) rfl ?_);refine box_event ?hg (N:=3) ?hd (cs:=#[.bool a1_0, .int .i64 a1_1, .int .i64 a1_2]) (t:=28) ?hr ?_;(case hd=>rfl);(case hg=>rfl);(case hr=>first|(go_simp;done)|(go_simp;rfl));intro gb231 hg w7 hbox hb;have BK231:=k0_ (hbox);have GW231:=k0_ ((by rw [hg];exact (below_size (hb1_ HB.out GE230.out)) : w.heap.size ≤ gb231));have GE231:=k0_ ((by rw [hg];exact (below_size (hb1_ HB.out GE230.out)) : w.heap.size ≤ gb231));replace HB:=k0_ (below_step (hb1_ HB.out GE230.out) hb);have NB230_231:=k0_ ((by rw [hg];exact Nat.ne_of_lt (blk_lt (g:=gb230) (o:=.cells #[.string a0_0, .int .i64 a0_1, .int .i64 a0_2, .int .i64 a0_3, .int .i64 a0_4, .int .i64 a0_5, .int .i64 a0_6, .int .i64 a0_7] 23 (0, 0)) (bq_ BK230.out)) : gb230 ≠ gb231));have NB231_230:=k0_ ((by rw [hg];exact Nat.ne_of_gt (blk_lt (g:=gb230) (o:=.cells #[.string a0_0, .int .i64 a0_1, .int .i64 a0_2, .int .i64 a0_3, .int .i64 a0_4, .int .i64 a0_5, .int .i64 a0_6, .int .i64 a0_7] 23 (0, 0)) (bq_ BK230.out)) : gb231 ≠ gb230));replace BK230:=k0_ (blk_below (g:=gb230) (o:=.cells #[.string a0_0, .int .i64 a0_1, .int .i64 a0_2, .int .i64 a0_3, .int .i64 a0_4, .int .i64 a0_5, .int .i64 a0_6, .int .i64 a0_7] 23 (0, 0)) (bq_ BK230.out) hb);clear hb hbox hg;have hnb8:=NB230_231.out;have hnc8:=NB231_230.out;obtain ⟨hcz9_0,hcz9_1,hcz9_2,hcz9_3,hcz9_4,hcz9_5,hcz9_6,hcz9_7⟩:=bc8_ BK230.out;obtain ⟨hfz9_0,hfz9_1,hfz9_2,hfz9_3,hfz9_4,hfz9_5,hfz9_6,hfz9_7⟩:=bf8_ BK230.out)|((with_reducible refine gate_callee (f:=84) rfl ?_);refine goesL_ (some 7) rfl rfl Try.func84 (by kernel_rfl) rfl #[.agg #[.string a0_0, .int .i64 a0_1, .int .i64 a0_2, .int .i64 a0_3, .int .i64 a0_4, .int .i64 a0_5, .int .i64 a0_6, .int .i64 a0_7]] rfl mt_ ?_;(with_reducible refine (gridhallref3_RuleError.calls k a0_0 a0_1 a0_2 a0_3 a0_4 a0_5 a0_6 a0_7 t232 _ A3.out).mono ?_);rintro e w10 ⟨rfl, hb⟩;refine ⟨_, rfl, ?_⟩;replace BK230:=k0_ (blk_below (g:=gb230) (o:=.cells #[.string a0_0, .int .i64 a0_1, .int .i64 a0_2, .int .i64 a0_3, .int .i64 a0_4, .int .i64 a0_5, .int .i64 a0_6, .int .i64 a0_7] 23 (0, 0)) (bq_ BK230.out) hb);replace BK231:=k0_ (blk_below (g:=gb231) (o:=.cells #[.bool a1_0, .int .i64 a1_1, .int .i64 a1_2] 28 (0, 0)) (bq_ BK231.out) hb);replace HB:=k0_ (below_step (hb2_ HB.out GE230.out GE231.out) hb);(try clear hb);(try clear hb2);(try clear hk);(try clear hi)))
  (try simp only [Act.put, q1_,q2_,q3_])
  go_cut [28] (fun v28 wc=>∃ (kq : Nat) (x28_4 : Bool), v28 = .bool x28_4∧Aside0 (gridhallref3_StateError.j0 kq x28_4 a1_0 a1_1 a1_2 = some r)∧Aside0 (kq ≤ k)∧Aside0 (wc.heap[gb230]? = some (.cells #[.string a0_0, .int .i64 a0_1, .int .i64 a0_2, .int .i64 a0_3, .int .i64 a0_4, .int .i64 a0_5, .int .i64 a0_6, .int .i64 a0_7] 23 (0, 0)))∧Aside0 (wc.heap[gb231]? = some (.cells #[.bool a1_0, .int .i64 a1_1, .int .i64 a1_2] 28 (0, 0)))∧Aside0 (Below w.heap.size w wc))
  case first =>
   have H:=HC5.out;clear HC5;replace H:=Option.bind_eq_some_iff.mp H;obtain ⟨t233, A110, H⟩:=H;replace H : (if t233 = true then (if a1_0 = true then ((gridhallref3_In.f a1_2 a0_1 a0_2).bind fun t234=>(gridhallref3_StateError.j0 k (!t234) a1_0 a1_1 a1_2)) else (gridhallref3_StateError.j0 k false a1_0 a1_1 a1_2)) else (gridhallref3_StateError.j0 k true a1_0 a1_1 a1_2)) = some r:=H;have A11:=k0_ A110;clear A110
   by_cases c12 : t233 = true
   ·subst c12
    have H1 : (if a1_0 = true then ((gridhallref3_In.f a1_2 a0_1 a0_2).bind fun t234=>(gridhallref3_StateError.j0 k (!t234) a1_0 a1_1 a1_2)) else (gridhallref3_StateError.j0 k false a1_0 a1_1 a1_2)) = some r:=by rw [if_pos rfl] at H;exact H
    clear H;have H:=H1;clear H1
    by_cases c13 : a1_0 = true
    ·subst c13
     have H1 : ((gridhallref3_In.f a1_2 a0_1 a0_2).bind fun t234=>(gridhallref3_StateError.j0 k (!t234) true a1_1 a1_2)) = some r:=by rw [if_pos rfl] at H;exact H
     clear H;have H:=H1;clear H1;replace H:=Option.bind_eq_some_iff.mp H;obtain ⟨t234, A140, H⟩:=H;replace H : (gridhallref3_StateError.j0 k (!t234) true a1_1 a1_2) = some r:=H;have A14:=k0_ A140;clear A140;have H':=k0_ H;clear H;have hnb15:=NB231_230.out;have hnc15:=NB230_231.out;obtain ⟨hcz16_0,hcz16_1,hcz16_2⟩:=bc3_ BK231.out;obtain ⟨hfz16_0,hfz16_1,hfz16_2⟩:=bf3_ BK231.out
     go_wp2_with (first|((with_reducible refine gate_callee (f:=14) rfl ?_);refine goesL_ (some 13) rfl rfl Try.func14 (by kernel_rfl) rfl #[.int .i64 a1_1, .int .i64 1, .int .i64 200000] rfl mt_ ?_;(with_reducible refine (gridhallref3_In.calls a1_1 1 200000 true _ A11.out).mono ?_);rintro e w' ⟨rfl, ⟨nd, rfl⟩⟩;refine ⟨_, rfl, ?_⟩;obtain ⟨hcz17_0,hcz17_1,hcz17_2,hcz17_3,hcz17_4,hcz17_5,hcz17_6,hcz17_7⟩:=bc8_ BK230.out;obtain ⟨hfz17_0,hfz17_1,hfz17_2,hfz17_3,hfz17_4,hfz17_5,hfz17_6,hfz17_7⟩:=bf8_ BK230.out)|(go_at_call 14;(with_reducible refine (gridhallref3_In.calls a1_2 a0_1 a0_2 t234 _ A14.out).mono ?_);rintro e w' ⟨rfl, ⟨nd, rfl⟩⟩))
     go_meet
     case rel=>exact ⟨_, (!t234),rs_, H', ⟨by first|omega|exact Nat.le_refl _⟩,⟨bq_ BK230.out⟩,⟨bq_ BK231.out⟩,⟨hb2_ HB.out GE230.out GE231.out⟩⟩
    ·replace c13:=Bool.eq_false_iff.mpr c13
     subst c13;have H1 : (gridhallref3_StateError.j0 k false false a1_1 a1_2) = some r:=by rw [if_neg (show ¬ (false = true) by decide)] at H;exact H
     clear H;have H:=H1;clear H1;have H':=k0_ H;clear H;have hnb18:=NB231_230.out;have hnc18:=NB230_231.out;obtain ⟨hcz19_0,hcz19_1,hcz19_2⟩:=bc3_ BK231.out;obtain ⟨hfz19_0,hfz19_1,hfz19_2⟩:=bf3_ BK231.out
     go_wp2_with (first|((with_reducible refine gate_callee (f:=14) rfl ?_);refine goesL_ (some 13) rfl rfl Try.func14 (by kernel_rfl) rfl #[.int .i64 a1_1, .int .i64 1, .int .i64 200000] rfl mt_ ?_;(with_reducible refine (gridhallref3_In.calls a1_1 1 200000 true _ A11.out).mono ?_);rintro e w' ⟨rfl, ⟨nd, rfl⟩⟩;refine ⟨_, rfl, ?_⟩))
     go_meet
     case rel=>exact ⟨_, (false),rs_, H', ⟨by first|omega|exact Nat.le_refl _⟩,⟨bq_ BK230.out⟩,⟨bq_ BK231.out⟩,⟨hb2_ HB.out GE230.out GE231.out⟩⟩
   ·replace c12:=Bool.eq_false_iff.mpr c12
    subst c12;have H1 : (gridhallref3_StateError.j0 k true a1_0 a1_1 a1_2) = some r:=by rw [if_neg (show ¬ (false = true) by decide)] at H;exact H
    clear H;have H:=H1;clear H1;have H':=k0_ H;clear H;have hnb20:=NB231_230.out;have hnc20:=NB230_231.out;obtain ⟨hcz21_0,hcz21_1,hcz21_2⟩:=bc3_ BK231.out;obtain ⟨hfz21_0,hfz21_1,hfz21_2⟩:=bf3_ BK231.out
    go_wp2_with (first|((with_reducible refine gate_callee (f:=14) rfl ?_);refine goesL_ (some 13) rfl rfl Try.func14 (by kernel_rfl) rfl #[.int .i64 a1_1, .int .i64 1, .int .i64 200000] rfl mt_ ?_;(with_reducible refine (gridhallref3_In.calls a1_1 1 200000 false _ A11.out).mono ?_);rintro e w' ⟨rfl, ⟨nd, rfl⟩⟩;refine ⟨_, rfl, ?_⟩))
    go_meet
    case rel=>exact ⟨_, (true),rs_, H', ⟨by first|omega|exact Nat.le_refl _⟩,⟨bq_ BK230.out⟩,⟨bq_ BK231.out⟩,⟨hb2_ HB.out GE230.out GE231.out⟩⟩
  clear HC5;(try clear c1);(try clear c2);(try clear p2);(try clear c4);(try clear c4b0);(try clear c4b1);(try clear c8);(try clear c12);(try clear c13);(try clear c14);(try clear c15);(try clear c18);(try clear c20);(try clear hcz16_0);(try clear hcz16_1);(try clear hcz16_2);(try clear hcz17_0);(try clear hcz17_1);(try clear hcz17_2);(try clear hcz17_3);(try clear hcz17_4);(try clear hcz17_5);(try clear hcz17_6);(try clear hcz17_7);(try clear hcz19_0);(try clear hcz19_1);(try clear hcz19_2);(try clear hcz21_0);(try clear hcz21_1);(try clear hcz21_2);(try clear hcz9_0);(try clear hcz9_1);(try clear hcz9_2);(try clear hcz9_3);(try clear hcz9_4);(try clear hcz9_5);(try clear hcz9_6);(try clear hcz9_7);(try clear hfz16_0);(try clear hfz16_1);(try clear hfz16_2);(try clear hfz17_0);(try clear hfz17_1);(try clear hfz17_2);(try clear hfz17_3);(try clear hfz17_4);(try clear hfz17_5);(try clear hfz17_6);(try clear hfz17_7);(try clear hfz19_0);(try clear hfz19_1);(try clear hfz19_2);(try clear hfz21_0);(try clear hfz21_1);(try clear hfz21_2);(try clear hfz9_0);(try clear hfz9_1);(try clear hfz9_2);(try clear hfz9_3);(try clear hfz9_4);(try clear hfz9_5);(try clear hfz9_6);(try clear hfz9_7);obtain ⟨kq, x28_4, rfl, HA, HJ4, BK230, BK231, HB⟩:=hcut;obtain _|kj4:=kq
  ·exact absurd HA.out (by simp [gridhallref3_StateError.j0])
  have H:=HA.out;clear HA;simp only [gridhallref3_StateError.j0] at H
  by_cases c22 : x28_4 = true
  ·subst c22
   have H1 : (some 4) = some r:=by rw [if_pos rfl] at H;exact H
   clear H;have H:=H1;clear H1;obtain rfl:=Option.some.inj H;go_wp2
   go_ret
   exact ⟨er_, hb2_ HB.out GE230.out GE231.out⟩
  ·replace c22:=Bool.eq_false_iff.mpr c22
   subst c22;have H1 : (if a1_0 = true then (some 0) else (if a1_2 = 0 then (some 0) else (some 3))) = some r:=by rw [if_neg (show ¬ (false = true) by decide)] at H;exact H
   clear H;have H:=H1;clear H1
   by_cases c23 : a1_0 = true
   ·subst c23
    have H1 : (some 0) = some r:=by rw [if_pos rfl] at H;exact H
    clear H;have H:=H1;clear H1;obtain rfl:=Option.some.inj H;have hnb24:=NB231_230.out;have hnc24:=NB230_231.out;obtain ⟨hcz25_0,hcz25_1,hcz25_2⟩:=bc3_ BK231.out;obtain ⟨hfz25_0,hfz25_1,hfz25_2⟩:=bf3_ BK231.out;go_wp2
    go_ret
    exact ⟨er_, hb2_ HB.out GE230.out GE231.out⟩
   ·replace c23:=Bool.eq_false_iff.mpr c23
    subst c23;have H1 : (if a1_2 = 0 then (some 0) else (some 3)) = some r:=by rw [if_neg (show ¬ (false = true) by decide)] at H;exact H
    clear H;have H:=H1;clear H1
    by_cases c26 : a1_2 = 0
    rw [if_pos c26] at H;have c26b0:=beq_iff_eq.mpr c26;have c26b1:=bne_eq_false_iff_eq.mpr c26;clear c26;obtain rfl:=Option.some.inj H;rotate_left;rw [if_neg c26] at H;have c26b0:=beq_eq_false_iff_ne.mpr c26;have c26b1:=bne_iff_ne.mpr c26;obtain rfl:=Option.some.inj H;rotate_left
    all_goals
     have hnb27:=NB231_230.out;have hnc27:=NB230_231.out;obtain ⟨hcz28_0,hcz28_1,hcz28_2⟩:=bc3_ BK231.out;obtain ⟨hfz28_0,hfz28_1,hfz28_2⟩:=bf3_ BK231.out;go_wp2
     go_ret
    ·exact ⟨er_, hb2_ HB.out GE230.out GE231.out⟩
    ·exact ⟨er_, hb2_ HB.out GE230.out GE231.out⟩
 ·rw [if_neg c4] at H
  have c4b0:=beq_eq_false_iff_ne.mpr c4;have c4b1:=bne_iff_ne.mpr c4;obtain rfl:=Option.some.inj H
  go_enter Try.func49, Try.ntmps49
  go_wp2_with (first|((with_reducible refine gate_dst (N:=2) rfl ?_);refine box_event ?hg (N:=2) ?hd (cs:=#[.string a0_0, .int .i64 a0_1, .int .i64 a0_2, .int .i64 a0_3, .int .i64 a0_4, .int .i64 a0_5, .int .i64 a0_6, .int .i64 a0_7]) (t:=23) ?hr ?_;(case hd=>rfl);(case hg=>rfl);(case hr=>first|(go_simp;done)|(go_simp;rfl));intro gb230 hg w31 hbox hb;have BK230:=k0_ (hbox);have GW230:=k0_ ((by rw [hg];exact (below_size (hb0_ HB.out)) : w.heap.size ≤ gb230));have GE230:=k0_ ((by rw [hg];exact (below_size (hb0_ HB.out)) : w.heap.size ≤ gb230));replace HB:=k0_ (below_step (hb0_ HB.out) hb);clear hb hbox hg)|((with_reducible refine gate_dst (N:=3) rfl ?_);refine box_event ?hg (N:=3) ?hd (cs:=#[.bool a1_0, .int .i64 a1_1, .int .i64 a1_2]) (t:=28) ?hr ?_;(case hd=>rfl);(case hg=>rfl);(case hr=>first|(go_simp;done)|(go_simp;rfl));intro gb231 hg w32 hbox hb;have BK231:=k0_ (hbox);have GW231:=k0_ ((by rw [hg];exact (below_size (hb1_ HB.out GE230.out)) : w.heap.size ≤ gb231));have GE231:=k0_ ((by rw [hg];exact (below_size (hb1_ HB.out GE230.out)) : w.heap.size ≤ gb231));replace HB:=k0_ (below_step (hb1_ HB.out GE230.out) hb);have NB230_231:=k0_ ((by rw [hg];exact Nat.ne_of_lt (blk_lt (g:=gb230) (o:=.cells #[.string a0_0, .int .i64 a0_1, .int .i64 a0_2, .int .i64 a0_3, .int .i64 a0_4, .int .i64 a0_5, .int .i64 a0_6, .int .i64 a0_7] 23 (0, 0)) (bq_ BK230.out)) : gb230 ≠ gb231));have NB231_230:=k0_ ((by rw [hg];exact Nat.ne_of_gt (blk_lt (g:=gb230) (o:=.cells #[.string a0_0, .int .i64 a0_1, .int .i64 a0_2, .int .i64 a0_3, .int .i64 a0_4, .int .i64 a0_5, .int .i64 a0_6, .int .i64 a0_7] 23 (0, 0)) (bq_ BK230.out)) : gb231 ≠ gb230));replace BK230:=k0_ (blk_below (g:=gb230) (o:=.cells #[.string a0_0, .int .i64 a0_1, .int .i64 a0_2, .int .i64 a0_3, .int .i64 a0_4, .int .i64 a0_5, .int .i64 a0_6, .int .i64 a0_7] 23 (0, 0)) (bq_ BK230.out) hb);clear hb hbox hg;have hnb33:=NB230_231.out;have hnc33:=NB231_230.out;obtain ⟨hcz34_0,hcz34_1,hcz34_2,hcz34_3,hcz34_4,hcz34_5,hcz34_6,hcz34_7⟩:=bc8_ BK230.out;obtain ⟨hfz34_0,hfz34_1,hfz34_2,hfz34_3,hfz34_4,hfz34_5,hfz34_6,hfz34_7⟩:=bf8_ BK230.out)|((with_reducible refine gate_callee (f:=84) rfl ?_);refine goesL_ (some 7) rfl rfl Try.func84 (by kernel_rfl) rfl #[.agg #[.string a0_0, .int .i64 a0_1, .int .i64 a0_2, .int .i64 a0_3, .int .i64 a0_4, .int .i64 a0_5, .int .i64 a0_6, .int .i64 a0_7]] rfl mt_ ?_;(with_reducible refine (gridhallref3_RuleError.calls k a0_0 a0_1 a0_2 a0_3 a0_4 a0_5 a0_6 a0_7 t232 _ A3.out).mono ?_);rintro e w35 ⟨rfl, hb⟩;refine ⟨_, rfl, ?_⟩;replace BK230:=k0_ (blk_below (g:=gb230) (o:=.cells #[.string a0_0, .int .i64 a0_1, .int .i64 a0_2, .int .i64 a0_3, .int .i64 a0_4, .int .i64 a0_5, .int .i64 a0_6, .int .i64 a0_7] 23 (0, 0)) (bq_ BK230.out) hb);replace BK231:=k0_ (blk_below (g:=gb231) (o:=.cells #[.bool a1_0, .int .i64 a1_1, .int .i64 a1_2] 28 (0, 0)) (bq_ BK231.out) hb);replace HB:=k0_ (below_step (hb2_ HB.out GE230.out GE231.out) hb);(try clear hb);(try clear hb2);(try clear hk);(try clear hi)))
  go_ret
  exact ⟨er_, hb2_ HB.out GE230.out GE231.out⟩

/-! ### gridhallref3_Before: function 17 -/
def gridhallref3_Before.l0 : Nat → Int → List (S116) → Int → Int → Option (Int)
 | 0, _, _, _, _ => none
 | k + 1, x5, x11, x12, x13 => if x13 < x12 then (if 0 ≤ x13 then (if x13 < (x11.length : Int) then (gridhallref3_Before.l0 k (wrap64 (x5 + ((rd_T116 x11 x13).f0))) x11 x12 (wrap64 (x13 + 1))) else (none)) else (none)) else (some x5)
def gridhallref3_Before.f (k : Nat) (a0_0 : ByteArray) (l0_1 : List (S116)) (a1 : Int) : Option (Int) := if 0 ≤ a1 then (if a1 ≤ (l0_1.length : Int) then ((some (l0_1.take (a1 : Int).toNat : List (S116))).bind fun y236 => (gridhallref3_Before.l0 k 0 y236 (y236.length : Int) 0)) else (none)) else (none)
theorem gridhallref3_Before.mono_l : ∀ k, (∀ y0 y1 y2 y3, LeO (gridhallref3_Before.l0 k y0 y1 y2 y3) (gridhallref3_Before.l0 (k + 1) y0 y1 y2 y3))
 | 0 => fun _ _ _ _ r h => by simp [gridhallref3_Before.l0] at h
 | k + 1 => by
  have ih0:=gridhallref3_Before.mono_l k
  ·intro y0 y1 y2 y3
   unfold gridhallref3_Before.l0
   repeat' first|(with_reducible first|exact ih0 _ _ _ _|exact LeO.refl _|exact LeO.none _|refine LeO.ite ?_ ?_|refine LeO.bind ?_ (fun _=>?_))|exact ih0 _ _ _ _|exact LeO.none _|refine LeO.ite ?_ ?_|refine LeO.bind ?_ (fun _=>?_)
theorem gridhallref3_Before.mono : ∀ a0 a1 a2 k, LeO (gridhallref3_Before.f k a0 a1 a2) (gridhallref3_Before.f (k + 1) a0 a1 a2) := by
 intro a0 a1 a2 k
 have ih0:=gridhallref3_Before.mono_l k
 unfold gridhallref3_Before.f
 repeat' first|(with_reducible first|exact ih0 _ _ _ _|exact LeO.refl _|exact LeO.none _|refine LeO.ite ?_ ?_|refine LeO.bind ?_ (fun _=>?_))|exact ih0 _ _ _ _|exact LeO.none _|refine LeO.ite ?_ ?_|refine LeO.bind ?_ (fun _=>?_)
set_option maxHeartbeats 8000000 in
set_option maxRecDepth 100000 in
theorem gridhallref3_Before.calls (k : Nat) (a0_0 : ByteArray) (A0_1 : Option Addr) (c0_1 : Nat) (l0_1 : List (S116)) (a1 : Int) (r : Int) (w : World) (hr0_1 : Kd.C k116 w A0_1 l0_1.length l0_1) (hc0_1 : l0_1.length ≤ c0_1) (h : gridhallref3_Before.f k a0_0 l0_1 a1 = some r) :
  Calls Try.prog 17 #[.agg #[.string a0_0, .slice A0_1 l0_1.length c0_1], .int .i64 a1] w fun e w' => e = .returned (.int .i64 r) ∧ Below w.heap.size w w' := by
 have hu26:=Try.underlying26;have hu116:=Try.underlying116;have HR0_1:=k0_ hr0_1;have HC0_1:=k0_ hc0_1;clear hr0_1 hc0_1;have HB:=k0_ (Below.refl w.heap.size w);have H : (if 0 ≤ a1 then (if a1 ≤ (l0_1.length : Int) then ((some (l0_1.take (a1 : Int).toNat : List (S116))).bind fun y236=>(gridhallref3_Before.l0 k 0 y236 (y236.length : Int) 0)) else (none)) else (none)) = some r:=h;clear h
 by_cases c3 : 0 ≤ a1
 ·rw [if_pos c3] at H
  have c3b0:=eq_true c3;have c3b1:=decide_eq_true c3;clear c3
  obtain ⟨c4,H⟩:=gi_ H;have c4b0:=eq_true c4;have c4b1:=decide_eq_true c4;clear c4;obtain ⟨y236, hy236⟩ : ∃ y_ : List (S116), y_ = (l0_1.take (a1 : Int).toNat):=⟨_, rfl⟩;replace H : (gridhallref3_Before.l0 k 0 y236 (y236.length : Int) 0) = some r:=by first|(rw [hy236];with_reducible exact H)|(have H2_:=(Option.bind_some _ _).symm.trans H;rw [hy236];with_reducible exact H2_)|(have H2_:=(Option.bind_some _ _).symm.trans H;with_reducible exact H2_)|with_reducible exact H|(rw [hy236];exact H)|exact H
  have Ny236:=k0_ hy236;clear hy236;have H':=k0_ H;clear H
  go_enter Try.func17, Try.ntmps17
  go_wp2_with (first|((with_reducible refine gate_dst (N:=2) rfl ?_);refine box_event ?hg (N:=2) ?hd (cs:=#[.string a0_0, .slice A0_1 l0_1.length c0_1]) (t:=26) ?hr ?_;(case hd=>rfl);(case hg=>rfl);(case hr=>first|(go_simp;done)|(go_simp;rfl));intro gb235 hg w5 hbox hb;have BK235:=k0_ (hbox);have GW235:=k0_ ((by rw [hg];exact (below_size (hb0_ HB.out)) : w.heap.size ≤ gb235));have GE235:=k0_ ((by rw [hg];exact (below_size (hb0_ HB.out)) : w.heap.size ≤ gb235));replace HB:=k0_ (below_step (hb0_ HB.out) hb);clear hb hbox hg;obtain ⟨hcz6_0,hcz6_1⟩:=bc2_ BK235.out;obtain ⟨hfz6_0,hfz6_1⟩:=bf2_ BK235.out;have q7 : (a1 : Int) ≤ ((l0_1.length : Int) : Int):=of_decide_eq_true as_;obtain ⟨i07, hi07, _, hsz7, _⟩:=info_parts info116;have hroom7 : l0_1.length ≤ c0_1:=HC0_1.out;have hC7 : Kd.C k116 _ A0_1 l0_1.length l0_1:=HR0_1.out;have hcut7:=cut_to (P:=Try.prog) 24 116 .i64 Try.underlying24 hi07 A0_1 l0_1.length c0_1 a1 (of_decide_eq_true as_) q7 hroom7;have hr7:=Kd.C_take (m:=(a1 : Int).toNat) hC7 (by omega);have hy7 : y236.length = (a1 : Int).toNat:=(by rw [Ny236.out, List.length_take];omega);rw [← Ny236.out] at hr7;rw [← hy7] at hcut7;have HR239:=k0_ hr7;have HC239:=k0_ (show y236.length ≤ c0_1 from by omega);clear hr7 hC7 hroom7 hi07 hsz7;have KY7:=k0_ hy7;clear hy7;replace q7:=eq_true q7))
  (try simp only [Act.put, q1_,q3_,q2_])
  go_loopg [5, 13] k (fun kq v5 v13 w'=>∃ (x5_1 : Int) (x13_1 : Int), v5 = .int .i64 x5_1∧v13 = .int .i64 x13_1∧Aside0 (gridhallref3_Before.l0 kq x5_1 y236 (y236.length : Int) x13_1 = some r)∧Aside0 (kq ≤ k)∧Aside0 (w'.heap[gb235]? = some (.cells #[.string a0_0, (.slice A0_1 l0_1.length c0_1)] 26 (0, 0)))∧Aside0 (Below w.heap.size w w'))
  case atStart=>exact ⟨(0),(0),rs_,rs_, H', ⟨Nat.le_refl _⟩,⟨bq_ BK235.out⟩,⟨hb1_ HB.out GE235.out⟩⟩
  clear H';(try clear c1);(try clear p2);(try clear c3);(try clear c3b0);(try clear c3b1);(try clear c4);(try clear c4b0);(try clear c4b1);(try clear q7);(try clear hcz6_0);(try clear hcz6_1);(try clear hfz6_0);(try clear hfz6_1);(try clear q7);obtain ⟨x5_1, x13_1, rfl, rfl, HA, HK1, BK235, HB⟩:=hrel;obtain _|k1:=gk
  ·exact absurd HA.out (by simp [gridhallref3_Before.l0])
  have H:=HA.out;clear HA;simp only [gridhallref3_Before.l0] at H
  by_cases c8 : x13_1 < (y236.length : Int)
  ·rw [if_pos c8] at H
   have c8b0:=decide_eq_true c8;clear c8
   obtain ⟨c9,H⟩:=gi_ H;have c9b0:=decide_eq_true c9;clear c9
   obtain ⟨c10,H⟩:=gi_ H;have c10b0:=decide_eq_true c10;clear c10;have H':=k0_ H;clear H;have p240 : 0 ≤ (x13_1 : Int):=of_decide_eq_true as_;have q240 : x13_1 < (y236.length : Int):=of_decide_eq_true as_;obtain ⟨ad240, e240, hx240_0, hx240_1⟩:=at_T116 HR239.out x13_1 p240 q240;cases e240;replace hx240_0:=bt_ HB.out hx240_0;replace hx240_1:=bt_ HB.out hx240_1;replace p240:=eq_true p240;replace q240:=eq_true q240
   go_wp2_with (first|((with_reducible refine gate_dst (N:=7) rfl ?_);refine box_event ?hg (N:=7) ?hd (cs:=#[.int .i64 0, .int .i64 0]) (t:=116) ?hr ?_;(case hd=>rfl);(case hg=>rfl);(case hr=>first|(go_simp;done)|(go_simp;rfl));intro gb241 hg w11 hbox hb;have BK241:=k0_ (hbox);have GW241:=k0_ ((by rw [hg];exact (below_size (hb1_ HB.out GE235.out)) : w.heap.size ≤ gb241));have GE241:=k0_ ((by rw [hg];exact (below_size (hb1_ HB.out GE235.out)) : w.heap.size ≤ gb241));replace HB:=k0_ (below_step (hb1_ HB.out GE235.out) hb);have NB235_241:=k0_ ((by rw [hg];exact Nat.ne_of_lt (blk_lt (g:=gb235) (o:=.cells #[.string a0_0, .slice (some ad240) l0_1.length c0_1] 26 (0, 0)) (bq_ BK235.out)) : gb235 ≠ gb241));have NB241_235:=k0_ ((by rw [hg];exact Nat.ne_of_gt (blk_lt (g:=gb235) (o:=.cells #[.string a0_0, .slice (some ad240) l0_1.length c0_1] 26 (0, 0)) (bq_ BK235.out)) : gb241 ≠ gb235));replace BK235:=k0_ (blk_below (g:=gb235) (o:=.cells #[.string a0_0, .slice (some ad240) l0_1.length c0_1] 26 (0, 0)) (bq_ BK235.out) hb);clear hb hbox hg;have hnb12:=NB241_235.out;have hnc12:=NB235_241.out;obtain ⟨hcz13_0,hcz13_1⟩:=bc2_ BK241.out;obtain ⟨hfz13_0,hfz13_1⟩:=bf2_ BK241.out))
   go_roundg k1
   case measure=>have:=HK1.out;omega
   case rel=>exact ⟨(wrap64 (x5_1 + ((rd_T116 y236 x13_1).f0))),(wrap64 (x13_1 + 1)),rs_,rs_, H', ⟨by have:=HK1.out;omega⟩,⟨by (with_reducible repeat (first|refine blk_drewN ?_ _|refine blk_drew ?_|refine blk_alloc ?_ _));refine blk_far ?_ NB235_241.out _;(with_reducible repeat (first|refine blk_drewN ?_ _|refine blk_drew ?_|refine blk_alloc ?_ _));refine blk_far ?_ NB235_241.out _;(with_reducible repeat (first|refine blk_drewN ?_ _|refine blk_drew ?_|refine blk_alloc ?_ _));exact BK235.out⟩,⟨hb2_ HB.out GE235.out GE241.out⟩⟩
  ·rw [if_neg c8] at H
   have c8b0:=decide_eq_false c8;clear c8;obtain rfl:=Option.some.inj H;go_wp2
   go_ret
   exact ⟨er_, hb1_ HB.out GE235.out⟩
 ·rw [if_neg c3] at H
  exact absurd H (by simp)

end Go.Proofs.Ytdgjelbkogfedaa.PDualSingle
