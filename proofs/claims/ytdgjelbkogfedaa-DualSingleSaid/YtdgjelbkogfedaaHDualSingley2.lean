/- Contracts of functions that DualSingle reaches, a text of this session's own. -/
import Derived.Test.YtdgjelbkogfedaaBox2
import Derived.Test.YtdgjelbkogfedaaHDualSingley0
import Derived.Test.YtdgjelbkogfedaaHDualSingley1
namespace Go.Proofs.Ytdgjelbkogfedaa.PDualSingle
open Go.RowKit Go.Proofs.YtdgjelbkogfedaaW.PrintWords Go.Proofs.YtdgjelbkogfedaaW.PrintLast Go.Proofs.YtdgjelbkogfedaaW.PrintMore
attribute [local go_sem] max2_int min2_int max_two min_two max_three min_three max_four min_four   -- for this text's walks alone
set_option linter.unusedVariables false
set_option linter.unusedSimpArgs false

/-! ### unit_CheckState: function 52 -/
mutual
def unit_CheckState.j0 : Nat → Bool → ByteArray → Int → Int → Int → Int → Int → Int → Int → Bool → Int → Int → Option (Int)
 | 0, _, _, _, _, _, _, _, _, _, _, _, _ => none
 | k + 1, x11, x104000, x104001, x104002, x104003, x104004, x104005, x104006, x104007, x105000, x105001, x105002 => if x11 = true then (some 4) else (if x105000 = true then (if x105002 < x104001 then (unit_CheckState.j1 k true x105000 x105001 x105002) else (unit_CheckState.j1 k (decide (x105002 > x104002)) x105000 x105001 x105002)) else (unit_CheckState.j1 k false x105000 x105001 x105002))
def unit_CheckState.j1 : Nat → Bool → Bool → Int → Int → Option (Int)
 | 0, _, _, _, _ => none
 | k + 1, x20, x105000, x105001, x105002 => if x20 = true then (some 4) else (if x105000 = true then (some 0) else (if x105002 = 0 then (some 0) else (some 3)))
end
def unit_CheckState.f (k : Nat) (a0_0 : ByteArray) (a0_1 : Int) (a0_2 : Int) (a0_3 : Int) (a0_4 : Int) (a0_5 : Int) (a0_6 : Int) (a0_7 : Int) (a1_0 : Bool) (a1_1 : Int) (a1_2 : Int) : Option (Int) := (unit_Check.f k a0_0 a0_1 a0_2 a0_3 a0_4 a0_5 a0_6 a0_7).bind fun t105 => (if t105 = 0 then (if a1_1 < 1 then (unit_CheckState.j0 k true a0_0 a0_1 a0_2 a0_3 a0_4 a0_5 a0_6 a0_7 a1_0 a1_1 a1_2) else (unit_CheckState.j0 k (decide (a1_1 > 200000)) a0_0 a0_1 a0_2 a0_3 a0_4 a0_5 a0_6 a0_7 a1_0 a1_1 a1_2)) else (some t105))
theorem unit_CheckState.mono_l : ∀ k, (∀ y0 y1 y2 y3 y4 y5 y6 y7 y8 y9 y10 y11, LeO (unit_CheckState.j0 k y0 y1 y2 y3 y4 y5 y6 y7 y8 y9 y10 y11) (unit_CheckState.j0 (k + 1) y0 y1 y2 y3 y4 y5 y6 y7 y8 y9 y10 y11)) ∧ (∀ y0 y1 y2 y3, LeO (unit_CheckState.j1 k y0 y1 y2 y3) (unit_CheckState.j1 (k + 1) y0 y1 y2 y3))
 | 0 => ⟨fun _ _ _ _ _ _ _ _ _ _ _ _ r h => by simp [unit_CheckState.j0] at h, fun _ _ _ _ r h => by simp [unit_CheckState.j1] at h⟩
 | k + 1 => by
  obtain ⟨ih0, ih1⟩:=unit_CheckState.mono_l k
  refine ⟨?_, ?_⟩
  ·intro y0 y1 y2 y3 y4 y5 y6 y7 y8 y9 y10 y11
   unfold unit_CheckState.j0
   repeat' first|(with_reducible first|exact ih0 _ _ _ _ _ _ _ _ _ _ _ _|exact ih1 _ _ _ _|exact unit_Check.mono _ _ _ _ _ _ _ _ _|exact LeO.refl _|exact LeO.none _|refine LeO.ite ?_ ?_|refine LeO.bind ?_ (fun _=>?_))|exact ih0 _ _ _ _ _ _ _ _ _ _ _ _|exact ih1 _ _ _ _|exact unit_Check.mono _ _ _ _ _ _ _ _ _|exact LeO.none _|refine LeO.ite ?_ ?_|refine LeO.bind ?_ (fun _=>?_)
  ·intro y0 y1 y2 y3
   unfold unit_CheckState.j1
   repeat' first|(with_reducible first|exact ih0 _ _ _ _ _ _ _ _ _ _ _ _|exact ih1 _ _ _ _|exact unit_Check.mono _ _ _ _ _ _ _ _ _|exact LeO.refl _|exact LeO.none _|refine LeO.ite ?_ ?_|refine LeO.bind ?_ (fun _=>?_))|exact ih0 _ _ _ _ _ _ _ _ _ _ _ _|exact ih1 _ _ _ _|exact unit_Check.mono _ _ _ _ _ _ _ _ _|exact LeO.none _|refine LeO.ite ?_ ?_|refine LeO.bind ?_ (fun _=>?_)
theorem unit_CheckState.mono : ∀ a0 a1 a2 a3 a4 a5 a6 a7 a8 a9 a10 k, LeO (unit_CheckState.f k a0 a1 a2 a3 a4 a5 a6 a7 a8 a9 a10) (unit_CheckState.f (k + 1) a0 a1 a2 a3 a4 a5 a6 a7 a8 a9 a10) := by
 intro a0 a1 a2 a3 a4 a5 a6 a7 a8 a9 a10 k
 obtain ⟨ih0, ih1⟩:=unit_CheckState.mono_l k
 unfold unit_CheckState.f
 repeat' first|(with_reducible first|exact ih0 _ _ _ _ _ _ _ _ _ _ _ _|exact ih1 _ _ _ _|exact unit_Check.mono _ _ _ _ _ _ _ _ _|exact LeO.refl _|exact LeO.none _|refine LeO.ite ?_ ?_|refine LeO.bind ?_ (fun _=>?_))|exact ih0 _ _ _ _ _ _ _ _ _ _ _ _|exact ih1 _ _ _ _|exact unit_Check.mono _ _ _ _ _ _ _ _ _|exact LeO.none _|refine LeO.ite ?_ ?_|refine LeO.bind ?_ (fun _=>?_)
set_option maxHeartbeats 8000000 in
set_option maxRecDepth 100000 in
theorem unit_CheckState.calls (k : Nat) (a0_0 : ByteArray) (a0_1 : Int) (a0_2 : Int) (a0_3 : Int) (a0_4 : Int) (a0_5 : Int) (a0_6 : Int) (a0_7 : Int) (a1_0 : Bool) (a1_1 : Int) (a1_2 : Int) (r : Int) (w : World) (h : unit_CheckState.f k a0_0 a0_1 a0_2 a0_3 a0_4 a0_5 a0_6 a0_7 a1_0 a1_1 a1_2 = some r) :
  Calls Try.prog 52 #[.agg #[.string a0_0, .int .i64 a0_1, .int .i64 a0_2, .int .i64 a0_3, .int .i64 a0_4, .int .i64 a0_5, .int .i64 a0_6, .int .i64 a0_7], .agg #[.bool a1_0, .int .i64 a1_1, .int .i64 a1_2]] w fun e w' => e = .returned (.int .i64 r) ∧ Below w.heap.size w w' := by
 have hu23:=Try.underlying23;have hu28:=Try.underlying28;have HB:=k0_ (Below.refl w.heap.size w);have H : ((unit_Check.f k a0_0 a0_1 a0_2 a0_3 a0_4 a0_5 a0_6 a0_7).bind fun t105=>(if t105 = 0 then (if a1_1 < 1 then (unit_CheckState.j0 k true a0_0 a0_1 a0_2 a0_3 a0_4 a0_5 a0_6 a0_7 a1_0 a1_1 a1_2) else (unit_CheckState.j0 k (decide (a1_1 > 200000)) a0_0 a0_1 a0_2 a0_3 a0_4 a0_5 a0_6 a0_7 a1_0 a1_1 a1_2)) else (some t105))) = some r:=h;clear h;replace H:=Option.bind_eq_some_iff.mp H;obtain ⟨t105, A30, H⟩:=H;replace H : (if t105 = 0 then (if a1_1 < 1 then (unit_CheckState.j0 k true a0_0 a0_1 a0_2 a0_3 a0_4 a0_5 a0_6 a0_7 a1_0 a1_1 a1_2) else (unit_CheckState.j0 k (decide (a1_1 > 200000)) a0_0 a0_1 a0_2 a0_3 a0_4 a0_5 a0_6 a0_7 a1_0 a1_1 a1_2)) else (some t105)) = some r:=H;have A3:=k0_ A30;clear A30
 by_cases c4 : t105 = 0
 ·rw [if_pos c4] at H
  have c4b0:=beq_iff_eq.mpr c4;have c4b1:=bne_eq_false_iff_eq.mpr c4;clear c4;have HC5:=k0_ H;clear H
  go_enter Try.func52, Try.ntmps52
  go_upto_region 4 with (first|((with_reducible refine gate_dst (N:=2) rfl ?_);refine box_event ?hg (N:=2) ?hd (cs:=#[.string a0_0, .int .i64 a0_1, .int .i64 a0_2, .int .i64 a0_3, .int .i64 a0_4, .int .i64 a0_5, .int .i64 a0_6, .int .i64 a0_7]) (t:=23) ?hr ?_;(case hd=>rfl);(case hg=>rfl);(case hr=>first|(go_simp;done)|(go_simp;rfl));intro gb103 hg w6 hbox hb;have BK103:=k0_ (hbox);have GW103:=k0_ ((by rw [hg];exact (below_size (hb0_ HB.out)) : w.heap.size ≤ gb103));have GE103:=k0_ ((by rw [hg];exact (below_size (hb0_ HB.out)) : w.heap.size ≤ gb103));replace HB:=k0_ (below_step (hb0_ HB.out) hb);clear hb hbox hg)|((with_reducible refine gate_dst (N:=3) rfl ?_);refine box_event ?hg (N:=3) ?hd (cs:=#[.bool a1_0, .int .i64 a1_1, .int .i64 a1_2]) (t:=28) ?hr ?_;(case hd=>rfl);(case hg=>rfl);(case hr=>first|(go_simp;done)|(go_simp;rfl));intro gb104 hg w7 hbox hb;have BK104:=k0_ (hbox);have GW104:=k0_ ((by rw [hg];exact (below_size (hb1_ HB.out GE103.out)) : w.heap.size ≤ gb104));have GE104:=k0_ ((by rw [hg];exact (below_size (hb1_ HB.out GE103.out)) : w.heap.size ≤ gb104));replace HB:=k0_ (below_step (hb1_ HB.out GE103.out) hb);have NB103_104:=k0_ ((by rw [hg];exact Nat.ne_of_lt (blk_lt (g:=gb103) (o:=.cells #[.string a0_0, .int .i64 a0_1, .int .i64 a0_2, .int .i64 a0_3, .int .i64 a0_4, .int .i64 a0_5, .int .i64 a0_6, .int .i64 a0_7] 23 (0, 0)) (bq_ BK103.out)) : gb103 ≠ gb104));have NB104_103:=k0_ ((by rw [hg];exact Nat.ne_of_gt (blk_lt (g:=gb103) (o:=.cells #[.string a0_0, .int .i64 a0_1, .int .i64 a0_2, .int .i64 a0_3, .int .i64 a0_4, .int .i64 a0_5, .int .i64 a0_6, .int .i64 a0_7] 23 (0, 0)) (bq_ BK103.out)) : gb104 ≠ gb103));replace BK103:=k0_ (blk_below (g:=gb103) (o:=.cells #[.string a0_0, .int .i64 a0_1, .int .i64 a0_2, .int .i64 a0_3, .int .i64 a0_4, .int .i64 a0_5, .int .i64 a0_6, .int .i64 a0_7] 23 (0, 0)) (bq_ BK103.out) hb);clear hb hbox hg;have hnb8:=NB103_104.out;have hnc8:=NB104_103.out;obtain ⟨hcz9_0,hcz9_1,hcz9_2,hcz9_3,hcz9_4,hcz9_5,hcz9_6,hcz9_7⟩:=bc8_ BK103.out;obtain ⟨hfz9_0,hfz9_1,hfz9_2,hfz9_3,hfz9_4,hfz9_5,hfz9_6,hfz9_7⟩:=bf8_ BK103.out)|((with_reducible refine gate_callee (f:=85) rfl ?_);refine goesL_ (some 7) rfl rfl Try.func85 (by kernel_rfl) rfl #[.agg #[.string a0_0, .int .i64 a0_1, .int .i64 a0_2, .int .i64 a0_3, .int .i64 a0_4, .int .i64 a0_5, .int .i64 a0_6, .int .i64 a0_7]] rfl mt_ ?_;(with_reducible refine (unit_Check.calls k a0_0 a0_1 a0_2 a0_3 a0_4 a0_5 a0_6 a0_7 t105 _ A3.out).mono ?_);rintro e w10 ⟨rfl, hb⟩;refine ⟨_, rfl, ?_⟩;replace BK103:=k0_ (blk_below (g:=gb103) (o:=.cells #[.string a0_0, .int .i64 a0_1, .int .i64 a0_2, .int .i64 a0_3, .int .i64 a0_4, .int .i64 a0_5, .int .i64 a0_6, .int .i64 a0_7] 23 (0, 0)) (bq_ BK103.out) hb);replace BK104:=k0_ (blk_below (g:=gb104) (o:=.cells #[.bool a1_0, .int .i64 a1_1, .int .i64 a1_2] 28 (0, 0)) (bq_ BK104.out) hb);replace HB:=k0_ (below_step (hb2_ HB.out GE103.out GE104.out) hb);(try clear hb);(try clear hb2);(try clear hk);(try clear hi)))
  (try simp only [Act.put, q1_,q2_,q3_])
  go_cut [11] (fun v11 wc=>∃ (kq : Nat) (x11_4 : Bool), v11 = .bool x11_4∧Aside0 (unit_CheckState.j0 kq x11_4 a0_0 a0_1 a0_2 a0_3 a0_4 a0_5 a0_6 a0_7 a1_0 a1_1 a1_2 = some r)∧Aside0 (kq ≤ k)∧Aside0 (wc.heap[gb103]? = some (.cells #[.string a0_0, .int .i64 a0_1, .int .i64 a0_2, .int .i64 a0_3, .int .i64 a0_4, .int .i64 a0_5, .int .i64 a0_6, .int .i64 a0_7] 23 (0, 0)))∧Aside0 (wc.heap[gb104]? = some (.cells #[.bool a1_0, .int .i64 a1_1, .int .i64 a1_2] 28 (0, 0)))∧Aside0 (Below w.heap.size w wc))
  case first =>
   have H:=HC5.out;clear HC5
   by_cases c11 : a1_1 < 1
   rw [if_pos c11] at H;have c11b0:=decide_eq_true c11;clear c11;(first|rw [c11b0]|(simp only [i64_w, i32_w];rw [c11b0])|skip);have H':=k0_ H;clear H;rotate_left;rw [if_neg c11] at H;have c11b0:=decide_eq_false c11;clear c11;(first|rw [c11b0]|(simp only [i64_w, i32_w];rw [c11b0])|skip);have H':=k0_ H;clear H;rotate_left
   all_goals
    have hnb12:=NB104_103.out;have hnc12:=NB103_104.out;obtain ⟨hcz13_0,hcz13_1,hcz13_2⟩:=bc3_ BK104.out;obtain ⟨hfz13_0,hfz13_1,hfz13_2⟩:=bf3_ BK104.out;go_wp2
   ·go_meet
    case rel=>exact ⟨_, (true),rs_, H', ⟨by first|omega|exact Nat.le_refl _⟩,⟨bq_ BK103.out⟩,⟨bq_ BK104.out⟩,⟨hb2_ HB.out GE103.out GE104.out⟩⟩
   ·go_meet
    case rel=>exact ⟨_, (decide (a1_1 > 200000)),rs_, H', ⟨by first|omega|exact Nat.le_refl _⟩,⟨bq_ BK103.out⟩,⟨bq_ BK104.out⟩,⟨hb2_ HB.out GE103.out GE104.out⟩⟩
  clear HC5;(try clear c1);(try clear p2);(try clear c4);(try clear c4b0);(try clear c4b1);(try clear c5);(try clear c8);(try clear c11);(try clear c11b0);(try clear c12);(try clear c14);(try clear hcz13_0);(try clear hcz13_1);(try clear hcz13_2);(try clear hcz15_0);(try clear hcz15_1);(try clear hcz15_2);(try clear hcz9_0);(try clear hcz9_1);(try clear hcz9_2);(try clear hcz9_3);(try clear hcz9_4);(try clear hcz9_5);(try clear hcz9_6);(try clear hcz9_7);(try clear hfz13_0);(try clear hfz13_1);(try clear hfz13_2);(try clear hfz15_0);(try clear hfz15_1);(try clear hfz15_2);(try clear hfz9_0);(try clear hfz9_1);(try clear hfz9_2);(try clear hfz9_3);(try clear hfz9_4);(try clear hfz9_5);(try clear hfz9_6);(try clear hfz9_7);obtain ⟨kq, x11_4, rfl, HA, HJ4, BK103, BK104, HB⟩:=hcut;obtain _|kj4:=kq
  ·exact absurd HA.out (by simp [unit_CheckState.j0])
  have H:=HA.out;clear HA;simp only [unit_CheckState.j0] at H
  by_cases c16 : x11_4 = true
  ·subst c16
   have H1 : (some 4) = some r:=by rw [if_pos rfl] at H;exact H
   clear H;have H:=H1;clear H1;obtain rfl:=Option.some.inj H;go_wp2
   go_ret
   exact ⟨er_, hb2_ HB.out GE103.out GE104.out⟩
  ·replace c16:=Bool.eq_false_iff.mpr c16
   subst c16;have H1 : (if a1_0 = true then (if a1_2 < a0_1 then (unit_CheckState.j1 kj4 true a1_0 a1_1 a1_2) else (unit_CheckState.j1 kj4 (decide (a1_2 > a0_2)) a1_0 a1_1 a1_2)) else (unit_CheckState.j1 kj4 false a1_0 a1_1 a1_2)) = some r:=by rw [if_neg (show ¬ (false = true) by decide)] at H;exact H
   clear H;have H:=H1;clear H1;have HC17:=k0_ H;clear H
   go_upto_region 6 with (fail)
   go_cut [20] (fun v20 wc=>∃ (kq : Nat) (x20_16 : Bool), v20 = .bool x20_16∧Aside0 (unit_CheckState.j1 kq x20_16 a1_0 a1_1 a1_2 = some r)∧Aside0 (kq ≤ kj4)∧Aside0 (wc.heap[gb103]? = some (.cells #[.string a0_0, .int .i64 a0_1, .int .i64 a0_2, .int .i64 a0_3, .int .i64 a0_4, .int .i64 a0_5, .int .i64 a0_6, .int .i64 a0_7] 23 (0, 0)))∧Aside0 (wc.heap[gb104]? = some (.cells #[.bool a1_0, .int .i64 a1_1, .int .i64 a1_2] 28 (0, 0)))∧Aside0 (Below w.heap.size w wc))
   case first =>
    have H:=HC17.out;clear HC17
    by_cases c18 : a1_0 = true
    ·subst c18
     have H1 : (if a1_2 < a0_1 then (unit_CheckState.j1 kj4 true true a1_1 a1_2) else (unit_CheckState.j1 kj4 (decide (a1_2 > a0_2)) true a1_1 a1_2)) = some r:=by rw [if_pos rfl] at H;exact H
     clear H;have H:=H1;clear H1
     by_cases c19 : a1_2 < a0_1
     rw [if_pos c19] at H;have c19b0:=decide_eq_true c19;clear c19;(first|rw [c19b0]|(simp only [i64_w, i32_w];rw [c19b0])|skip);have H':=k0_ H;clear H;rotate_left;rw [if_neg c19] at H;have c19b0:=decide_eq_false c19;clear c19;(first|rw [c19b0]|(simp only [i64_w, i32_w];rw [c19b0])|skip);have H':=k0_ H;clear H;rotate_left
     all_goals
      have hnb20:=NB104_103.out;have hnc20:=NB103_104.out;obtain ⟨hcz21_0,hcz21_1,hcz21_2⟩:=bc3_ BK104.out;obtain ⟨hfz21_0,hfz21_1,hfz21_2⟩:=bf3_ BK104.out;obtain ⟨hcz22_0,hcz22_1,hcz22_2,hcz22_3,hcz22_4,hcz22_5,hcz22_6,hcz22_7⟩:=bc8_ BK103.out;obtain ⟨hfz22_0,hfz22_1,hfz22_2,hfz22_3,hfz22_4,hfz22_5,hfz22_6,hfz22_7⟩:=bf8_ BK103.out;go_wp2
     ·go_meet
      case rel=>exact ⟨_, (true),rs_, H', ⟨by have:=HJ4.out;first|omega|exact Nat.le_refl _⟩,⟨bq_ BK103.out⟩,⟨bq_ BK104.out⟩,⟨hb2_ HB.out GE103.out GE104.out⟩⟩
     ·go_meet
      case rel=>exact ⟨_, (decide (a1_2 > a0_2)),rs_, H', ⟨by have:=HJ4.out;first|omega|exact Nat.le_refl _⟩,⟨bq_ BK103.out⟩,⟨bq_ BK104.out⟩,⟨hb2_ HB.out GE103.out GE104.out⟩⟩
    ·replace c18:=Bool.eq_false_iff.mpr c18
     subst c18;have H1 : (unit_CheckState.j1 kj4 false false a1_1 a1_2) = some r:=by rw [if_neg (show ¬ (false = true) by decide)] at H;exact H
     clear H;have H:=H1;clear H1;have H':=k0_ H;clear H;have hnb26:=NB104_103.out;have hnc26:=NB103_104.out;obtain ⟨hcz27_0,hcz27_1,hcz27_2⟩:=bc3_ BK104.out;obtain ⟨hfz27_0,hfz27_1,hfz27_2⟩:=bf3_ BK104.out;go_wp2
     go_meet
     case rel=>exact ⟨_, (false),rs_, H', ⟨by have:=HJ4.out;first|omega|exact Nat.le_refl _⟩,⟨bq_ BK103.out⟩,⟨bq_ BK104.out⟩,⟨hb2_ HB.out GE103.out GE104.out⟩⟩
   clear HC17;(try clear c1);(try clear c2);(try clear p2);(try clear c4);(try clear c4b0);(try clear c4b1);(try clear c5);(try clear c8);(try clear c11);(try clear c11b0);(try clear c12);(try clear c14);(try clear c16);(try clear c18);(try clear c19);(try clear c19b0);(try clear c20);(try clear c23);(try clear c26);(try clear hcz13_0);(try clear hcz13_1);(try clear hcz13_2);(try clear hcz15_0);(try clear hcz15_1);(try clear hcz15_2);(try clear hcz21_0);(try clear hcz21_1);(try clear hcz21_2);(try clear hcz22_0);(try clear hcz22_1);(try clear hcz22_2);(try clear hcz22_3);(try clear hcz22_4);(try clear hcz22_5);(try clear hcz22_6);(try clear hcz22_7);(try clear hcz24_0);(try clear hcz24_1);(try clear hcz24_2);(try clear hcz25_0);(try clear hcz25_1);(try clear hcz25_2);(try clear hcz25_3);(try clear hcz25_4);(try clear hcz25_5);(try clear hcz25_6);(try clear hcz25_7);(try clear hcz27_0);(try clear hcz27_1);(try clear hcz27_2);(try clear hcz9_0);(try clear hcz9_1);(try clear hcz9_2);(try clear hcz9_3);(try clear hcz9_4);(try clear hcz9_5);(try clear hcz9_6);(try clear hcz9_7);(try clear hfz13_0);(try clear hfz13_1);(try clear hfz13_2);(try clear hfz15_0);(try clear hfz15_1);(try clear hfz15_2);(try clear hfz21_0);(try clear hfz21_1);(try clear hfz21_2);(try clear hfz22_0);(try clear hfz22_1);(try clear hfz22_2);(try clear hfz22_3);(try clear hfz22_4);(try clear hfz22_5);(try clear hfz22_6);(try clear hfz22_7);(try clear hfz24_0);(try clear hfz24_1);(try clear hfz24_2);(try clear hfz25_0);(try clear hfz25_1);(try clear hfz25_2);(try clear hfz25_3);(try clear hfz25_4);(try clear hfz25_5);(try clear hfz25_6);(try clear hfz25_7);(try clear hfz27_0);(try clear hfz27_1);(try clear hfz27_2);(try clear hfz9_0);(try clear hfz9_1);(try clear hfz9_2);(try clear hfz9_3);(try clear hfz9_4);(try clear hfz9_5);(try clear hfz9_6);(try clear hfz9_7);(try clear p2);obtain ⟨kq, x20_16, rfl, HA, HJ16, BK103, BK104, HB⟩:=hcut;obtain _|kj16:=kq
   ·exact absurd HA.out (by simp [unit_CheckState.j1])
   have H:=HA.out;clear HA;simp only [unit_CheckState.j1] at H
   by_cases c28 : x20_16 = true
   ·subst c28
    have H1 : (some 4) = some r:=by rw [if_pos rfl] at H;exact H
    clear H;have H:=H1;clear H1;obtain rfl:=Option.some.inj H;go_wp2
    go_ret
    exact ⟨er_, hb2_ HB.out GE103.out GE104.out⟩
   ·replace c28:=Bool.eq_false_iff.mpr c28
    subst c28;have H1 : (if a1_0 = true then (some 0) else (if a1_2 = 0 then (some 0) else (some 3))) = some r:=by rw [if_neg (show ¬ (false = true) by decide)] at H;exact H
    clear H;have H:=H1;clear H1
    by_cases c29 : a1_0 = true
    ·subst c29
     have H1 : (some 0) = some r:=by rw [if_pos rfl] at H;exact H
     clear H;have H:=H1;clear H1;obtain rfl:=Option.some.inj H;have hnb30:=NB104_103.out;have hnc30:=NB103_104.out;obtain ⟨hcz31_0,hcz31_1,hcz31_2⟩:=bc3_ BK104.out;obtain ⟨hfz31_0,hfz31_1,hfz31_2⟩:=bf3_ BK104.out;go_wp2
     go_ret
     exact ⟨er_, hb2_ HB.out GE103.out GE104.out⟩
    ·replace c29:=Bool.eq_false_iff.mpr c29
     subst c29;have H1 : (if a1_2 = 0 then (some 0) else (some 3)) = some r:=by rw [if_neg (show ¬ (false = true) by decide)] at H;exact H
     clear H;have H:=H1;clear H1
     by_cases c32 : a1_2 = 0
     rw [if_pos c32] at H;have c32b0:=beq_iff_eq.mpr c32;have c32b1:=bne_eq_false_iff_eq.mpr c32;clear c32;obtain rfl:=Option.some.inj H;rotate_left;rw [if_neg c32] at H;have c32b0:=beq_eq_false_iff_ne.mpr c32;have c32b1:=bne_iff_ne.mpr c32;obtain rfl:=Option.some.inj H;rotate_left
     all_goals
      have hnb33:=NB104_103.out;have hnc33:=NB103_104.out;obtain ⟨hcz34_0,hcz34_1,hcz34_2⟩:=bc3_ BK104.out;obtain ⟨hfz34_0,hfz34_1,hfz34_2⟩:=bf3_ BK104.out;go_wp2
      go_ret
     ·exact ⟨er_, hb2_ HB.out GE103.out GE104.out⟩
     ·exact ⟨er_, hb2_ HB.out GE103.out GE104.out⟩
 ·rw [if_neg c4] at H
  have c4b0:=beq_eq_false_iff_ne.mpr c4;have c4b1:=bne_iff_ne.mpr c4;obtain rfl:=Option.some.inj H
  go_enter Try.func52, Try.ntmps52
  go_wp2_with (first|((with_reducible refine gate_dst (N:=2) rfl ?_);refine box_event ?hg (N:=2) ?hd (cs:=#[.string a0_0, .int .i64 a0_1, .int .i64 a0_2, .int .i64 a0_3, .int .i64 a0_4, .int .i64 a0_5, .int .i64 a0_6, .int .i64 a0_7]) (t:=23) ?hr ?_;(case hd=>rfl);(case hg=>rfl);(case hr=>first|(go_simp;done)|(go_simp;rfl));intro gb103 hg w37 hbox hb;have BK103:=k0_ (hbox);have GW103:=k0_ ((by rw [hg];exact (below_size (hb0_ HB.out)) : w.heap.size ≤ gb103));have GE103:=k0_ ((by rw [hg];exact (below_size (hb0_ HB.out)) : w.heap.size ≤ gb103));replace HB:=k0_ (below_step (hb0_ HB.out) hb);clear hb hbox hg)|((with_reducible refine gate_dst (N:=3) rfl ?_);refine box_event ?hg (N:=3) ?hd (cs:=#[.bool a1_0, .int .i64 a1_1, .int .i64 a1_2]) (t:=28) ?hr ?_;(case hd=>rfl);(case hg=>rfl);(case hr=>first|(go_simp;done)|(go_simp;rfl));intro gb104 hg w38 hbox hb;have BK104:=k0_ (hbox);have GW104:=k0_ ((by rw [hg];exact (below_size (hb1_ HB.out GE103.out)) : w.heap.size ≤ gb104));have GE104:=k0_ ((by rw [hg];exact (below_size (hb1_ HB.out GE103.out)) : w.heap.size ≤ gb104));replace HB:=k0_ (below_step (hb1_ HB.out GE103.out) hb);have NB103_104:=k0_ ((by rw [hg];exact Nat.ne_of_lt (blk_lt (g:=gb103) (o:=.cells #[.string a0_0, .int .i64 a0_1, .int .i64 a0_2, .int .i64 a0_3, .int .i64 a0_4, .int .i64 a0_5, .int .i64 a0_6, .int .i64 a0_7] 23 (0, 0)) (bq_ BK103.out)) : gb103 ≠ gb104));have NB104_103:=k0_ ((by rw [hg];exact Nat.ne_of_gt (blk_lt (g:=gb103) (o:=.cells #[.string a0_0, .int .i64 a0_1, .int .i64 a0_2, .int .i64 a0_3, .int .i64 a0_4, .int .i64 a0_5, .int .i64 a0_6, .int .i64 a0_7] 23 (0, 0)) (bq_ BK103.out)) : gb104 ≠ gb103));replace BK103:=k0_ (blk_below (g:=gb103) (o:=.cells #[.string a0_0, .int .i64 a0_1, .int .i64 a0_2, .int .i64 a0_3, .int .i64 a0_4, .int .i64 a0_5, .int .i64 a0_6, .int .i64 a0_7] 23 (0, 0)) (bq_ BK103.out) hb);clear hb hbox hg;have hnb39:=NB103_104.out;have hnc39:=NB104_103.out;obtain ⟨hcz40_0,hcz40_1,hcz40_2,hcz40_3,hcz40_4,hcz40_5,hcz40_6,hcz40_7⟩:=bc8_ BK103.out;obtain ⟨hfz40_0,hfz40_1,hfz40_2,hfz40_3,hfz40_4,hfz40_5,hfz40_6,hfz40_7⟩:=bf8_ BK103.out)|((with_reducible refine gate_callee (f:=85) rfl ?_);refine goesL_ (some 7) rfl rfl Try.func85 (by kernel_rfl) rfl #[.agg #[.string a0_0, .int .i64 a0_1, .int .i64 a0_2, .int .i64 a0_3, .int .i64 a0_4, .int .i64 a0_5, .int .i64 a0_6, .int .i64 a0_7]] rfl mt_ ?_;(with_reducible refine (unit_Check.calls k a0_0 a0_1 a0_2 a0_3 a0_4 a0_5 a0_6 a0_7 t105 _ A3.out).mono ?_);rintro e w41 ⟨rfl, hb⟩;refine ⟨_, rfl, ?_⟩;replace BK103:=k0_ (blk_below (g:=gb103) (o:=.cells #[.string a0_0, .int .i64 a0_1, .int .i64 a0_2, .int .i64 a0_3, .int .i64 a0_4, .int .i64 a0_5, .int .i64 a0_6, .int .i64 a0_7] 23 (0, 0)) (bq_ BK103.out) hb);replace BK104:=k0_ (blk_below (g:=gb104) (o:=.cells #[.bool a1_0, .int .i64 a1_1, .int .i64 a1_2] 28 (0, 0)) (bq_ BK104.out) hb);replace HB:=k0_ (below_step (hb2_ HB.out GE103.out GE104.out) hb);(try clear hb);(try clear hb2);(try clear hk);(try clear hi)))
  go_ret
  exact ⟨er_, hb2_ HB.out GE103.out GE104.out⟩

end Go.Proofs.Ytdgjelbkogfedaa.PDualSingle
