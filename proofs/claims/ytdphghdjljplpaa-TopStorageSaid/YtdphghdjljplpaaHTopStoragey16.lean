/- Contracts of functions that TopStorage reaches, a text of this session's own. -/
import Derived.Test.YtdphghdjljplpaaBox2
import Derived.Test.YtdphghdjljplpaaHTopStoragey0
import Derived.Test.YtdphghdjljplpaaHTopStoragey14
import Derived.Test.YtdphghdjljplpaaHTopStoragey15
namespace Go.Proofs.Ytdphghdjljplpaa.PTopStorage
open Go.RowKit Go.Proofs.YtdphghdjljplpaaW.PrintWords Go.Proofs.YtdphghdjljplpaaW.PrintLast Go.Proofs.YtdphghdjljplpaaW.PrintMore
attribute [local go_sem] max2_int min2_int max_two min_two max_three min_three max_four min_four   -- for this text's walks alone
set_option linter.unusedVariables false
set_option linter.unusedSimpArgs false

/-! ### gridhalltop_TopStorage: function 4 -/
def gridhalltop_TopStorage.j0 : Nat → List Int → Int → Bool → Int → Int → Int → Int → Int → Option (Bool)
 | 0, _, _, _, _, _, _, _, _ => none
 | k + 1, x1, x2, x28, x359000, x359001, x359002, x359003, x359004 => if x28 = true then (some false) else (if x359004 > x359003 then (some true) else ((storage_Best.f k x359000 x359001 x359002 x359003 x359004 x1).bind fun bt367 => ((slices_Clone_int_int.f x1).bind fun t372 => ((gridhalltop_bWithin.f x2 (-1000) 1000).bind fun t375 => (if t372.length < 17592186044416 then ((storage_Best.f k x359000 x359001 x359002 x359003 x359004 (t372 ++ [t375])).bind fun bt379 => (if bt367.2.2 = 0 then (if bt367.2.1 ≤ 0 then (if bt379.2.2 = 0 then (some (decide (bt379.2.1 ≤ bt367.2.1))) else (some true)) else (some false)) else (some true))) else (none))))))
def gridhalltop_TopStorage.f (k : Nat) (a0_0 : Int) (a0_1 : Int) (a0_2 : Int) (a0_3 : Int) (a0_4 : Int) (l1 : List Int) (a2 : Int) : Option (Bool) := (storage_Best.f k 10 10 10 0 0 (([2, 5] : List Int))).bind fun bt362 => (if bt362.2.2 = 0 then (gridhalltop_TopStorage.j0 k l1 a2 (bt362.2.1 != (-30)) a0_0 a0_1 a0_2 a0_3 a0_4) else (gridhalltop_TopStorage.j0 k l1 a2 true a0_0 a0_1 a0_2 a0_3 a0_4))
theorem gridhalltop_TopStorage.mono_l : ∀ k, (∀ y0 y1 y2 y3 y4 y5 y6 y7, LeO (gridhalltop_TopStorage.j0 k y0 y1 y2 y3 y4 y5 y6 y7) (gridhalltop_TopStorage.j0 (k + 1) y0 y1 y2 y3 y4 y5 y6 y7))
 | 0 => fun _ _ _ _ _ _ _ _ r h => by simp [gridhalltop_TopStorage.j0] at h
 | k + 1 => by
  have ih0:=gridhalltop_TopStorage.mono_l k
  ·intro y0 y1 y2 y3 y4 y5 y6 y7
   unfold gridhalltop_TopStorage.j0
   repeat' first|(with_reducible first|exact ih0 _ _ _ _ _ _ _ _|exact storage_Best.mono _ _ _ _ _ _ _|exact LeO.refl _|exact LeO.none _|refine LeO.ite ?_ ?_|refine LeO.bind ?_ (fun _=>?_))|exact ih0 _ _ _ _ _ _ _ _|exact storage_Best.mono _ _ _ _ _ _ _|exact LeO.none _|refine LeO.ite ?_ ?_|refine LeO.bind ?_ (fun _=>?_)
theorem gridhalltop_TopStorage.mono : ∀ a0 a1 a2 a3 a4 a5 a6 k, LeO (gridhalltop_TopStorage.f k a0 a1 a2 a3 a4 a5 a6) (gridhalltop_TopStorage.f (k + 1) a0 a1 a2 a3 a4 a5 a6) := by
 intro a0 a1 a2 a3 a4 a5 a6 k
 have ih0:=gridhalltop_TopStorage.mono_l k
 unfold gridhalltop_TopStorage.f
 repeat' first|(with_reducible first|exact ih0 _ _ _ _ _ _ _ _|exact storage_Best.mono _ _ _ _ _ _ _|exact LeO.refl _|exact LeO.none _|refine LeO.ite ?_ ?_|refine LeO.bind ?_ (fun _=>?_))|exact ih0 _ _ _ _ _ _ _ _|exact storage_Best.mono _ _ _ _ _ _ _|exact LeO.none _|refine LeO.ite ?_ ?_|refine LeO.bind ?_ (fun _=>?_)
def gridhalltop_TopStorage.T7 : Bool × List (List Nat × List Nat) := (true, [([], []), ([], []), ([1], [1]), ([], []), ([3, 2], [3]), ([4], [4]), ([2, 5, 4], [2, 5]), ([0, 6, 6], [0, 6]), ([7], [7]), ([8], [8]), ([8], [8]), ([8], [8]), ([9, 7, 0, 1, 2, 3, 4, 5, 6, 7, 8, 9], [9]), ([10, 12, 0, 1, 2, 3, 4, 5, 6, 7, 8, 9, 10, 12], [10]), ([11, 13, 0, 1, 2, 3, 4, 5, 6, 7, 8, 9, 10, 11, 12, 13], [11])])
def gridhalltop_TopStorage.B7 : List Nat := [0, 0, 2, 0, 14, 30, 62, 127, 255, 511, 511, 511, 1023, 6143, 16383]
theorem gridhalltop_TopStorage.tab7 : rtab .any (opsOf Try.f4 7) = gridhalltop_TopStorage.T7 := by kernel_rfl
theorem gridhalltop_TopStorage.bits7 : waitsOk gridhalltop_TopStorage.T7.2 gridhalltop_TopStorage.B7 = true := by kernel_rfl
set_option maxHeartbeats 8000000 in
set_option maxRecDepth 100000 in
theorem gridhalltop_TopStorage.calls (k : Nat) (a0_0 : Int) (a0_1 : Int) (a0_2 : Int) (a0_3 : Int) (a0_4 : Int) (A1 : Option Addr) (c1 : Nat) (l1 : List Int) (a2 : Int) (r : Bool) (w : World) (hr1 : Kd.C (Kd.int .i64) w A1 l1.length l1) (hc1 : l1.length ≤ c1) (h : gridhalltop_TopStorage.f k a0_0 a0_1 a0_2 a0_3 a0_4 l1 a2 = some r) :
  Calls Try.prog 4 #[.agg #[.int .i64 a0_0, .int .i64 a0_1, .int .i64 a0_2, .int .i64 a0_3, .int .i64 a0_4], .slice A1 l1.length c1, .int .i64 a2] w fun e w' => e = .returned (.bool r) ∧ Below w.heap.size w w' := by
 have hu40:=Try.underlying40;have HR1:=k0_ hr1;have HC1:=k0_ hc1;clear hr1 hc1;have HB:=k0_ (Below.refl w.heap.size w);have H : ((storage_Best.f k 10 10 10 0 0 (([2, 5] : List Int))).bind fun bt362=>(if bt362.2.2 = 0 then (gridhalltop_TopStorage.j0 k l1 a2 (bt362.2.1 != (-30)) a0_0 a0_1 a0_2 a0_3 a0_4) else (gridhalltop_TopStorage.j0 k l1 a2 true a0_0 a0_1 a0_2 a0_3 a0_4))) = some r:=h;clear h;obtain ⟨y359, hy359⟩ : ∃ y_ : List Int, y_ = (([2, 5] : List Int)):=⟨_, rfl⟩;replace H : ((storage_Best.f k 10 10 10 0 0 y359).bind fun bt362=>(if bt362.2.2 = 0 then (gridhalltop_TopStorage.j0 k l1 a2 (bt362.2.1 != (-30)) a0_0 a0_1 a0_2 a0_3 a0_4) else (gridhalltop_TopStorage.j0 k l1 a2 true a0_0 a0_1 a0_2 a0_3 a0_4))) = some r:=by first|(rw [hy359];with_reducible exact H)|(have H2_:=(Option.bind_some _ _).symm.trans H;rw [hy359];with_reducible exact H2_)|(have H2_:=(Option.bind_some _ _).symm.trans H;with_reducible exact H2_)|with_reducible exact H|(rw [hy359];exact H)|exact H
 have Ny359:=k0_ hy359;clear hy359;replace H:=Option.bind_eq_some_iff.mp H;obtain ⟨⟨t362, t365, t366⟩, A40, H⟩:=H;replace H : (if t366 = 0 then (gridhalltop_TopStorage.j0 k l1 a2 (t365 != (-30)) a0_0 a0_1 a0_2 a0_3 a0_4) else (gridhalltop_TopStorage.j0 k l1 a2 true a0_0 a0_1 a0_2 a0_3 a0_4)) = some r:=H;have A4:=k0_ A40;clear A40;have HC5:=k0_ H;clear H
 go_enter Try.func4, Try.ntmps4
 go_upto_region 2 with (first|((with_reducible refine gate_dst (N:=3) rfl ?_);refine box_event ?hg (N:=3) ?hd (cs:=#[.int .i64 a0_0, .int .i64 a0_1, .int .i64 a0_2, .int .i64 a0_3, .int .i64 a0_4]) (t:=40) ?hr ?_;(case hd=>rfl);(case hg=>rfl);(case hr=>first|(go_simp;done)|(go_simp;rfl));intro gb358 hg w6 hbox hb;have BK358:=k0_ (hbox);have GW358:=k0_ ((by rw [hg];exact (below_size (hb0_ HB.out)) : w.heap.size ≤ gb358));have GE358:=k0_ ((by rw [hg];exact (below_size (hb0_ HB.out)) : w.heap.size ≤ gb358));replace HB:=k0_ (below_step (hb0_ HB.out) hb);clear hb hbox hg)|((with_reducible refine gate_dst (N:=18) rfl ?_);refine Kd.R_lit (Kd.int .i64) _ 3 ?hg (N:=18) ?hd (xs:=([2, 5] : List Int)) (inner:=[.int .i64 2, .int .i64 5]) (ok:=fun _=>True) (okp:=fun _=>True) ?hr ?hp (fun _ hk=>hk) trivial (Below.refl _ _) (Nat.le_refl _) (by simp) ?_;(case hd=>rfl);(case hg=>rfl);(case hr=>first|(go_simp;done)|(go_simp;rfl));(case hp=>exact (Reps.one (show Kd.M (Kd.int .i64) _ _ _ 2 [.int .i64 2] from rfl) (Reps.one (show Kd.M (Kd.int .i64) _ _ _ 5 [.int .i64 5] from rfl) (Reps.none _ _))));intro v360 w7 ho8 hb hg_ hnew_;clear hg_ hnew_;(first|rw [← Ny359.out] at ho8|(simp only [Int.reduceToNat] at ho8;rw [← Ny359.out] at ho8));have HO361:=k0_ (Kd.R_lower ho8 (below_size (hb1_ HB.out GE358.out)));replace BK358:=k0_ (blk_below (bg_ BK358.out) hb);replace HB:=k0_ (below_step (hb1_ HB.out GE358.out) hb);clear hb ho8;obtain ⟨Ao9, co9, eo9⟩:=Kd.R_slice HO361.out;subst eo9)|((with_reducible refine gate_callee (f:=13) rfl ?_);refine goesL_ (some 19) rfl rfl Try.func13 (by kernel_rfl) rfl #[.agg #[.int .i64 10, .int .i64 10, .int .i64 10, .int .i64 0, .int .i64 0], .slice Ao9 y359.length co9] rfl mt_ ?_;(with_reducible refine (storage_Best.calls k 10 10 10 0 0 _ _ y359 t362 t365 t366 _ ?side1 ?side2 A4.out).mono ?_);(case side1=>repeat (first|exact (Kd.R_reads' HO361.out).2.2|(with_reducible refine Kd.C_alloc ?_ _)|(with_reducible refine Kd.C_drewN ?_ _)|(with_reducible refine Kd.C_drew ?_)));(case side2=>exact (Kd.R_reads' HO361.out).2.1);rintro e w10 ⟨v363, rfl, ho0, hb⟩;refine ⟨_, rfl, ?_⟩;have HO364:=k0_ (Kd.R_lower (Kd.R_new' ho0 (Kd.R_lt (rq_ HO361.out))) (below_size (hb1_ HB.out GE358.out)));replace HO361:=k0_ (Kd.R_elder' (rq_ HO361.out) (Kd.R_base ho0) hb);replace BK358:=k0_ (blk_below (bg_ BK358.out) hb);replace HB:=k0_ (below_step (hb1_ HB.out GE358.out) hb);clear hb ho0))
 (try simp only [Act.put, q1_,q2_,q3_])
 go_cut [28] (fun v28 wc=>∃ (kq : Nat) (x28_4 : Bool), v28 = .bool x28_4∧Aside0 (gridhalltop_TopStorage.j0 kq l1 a2 x28_4 a0_0 a0_1 a0_2 a0_3 a0_4 = some r)∧Aside0 (kq ≤ k)∧Aside0 (wc.heap[gb358]? = some (.cells #[.int .i64 a0_0, .int .i64 a0_1, .int .i64 a0_2, .int .i64 a0_3, .int .i64 a0_4] 40 (0, 0)))∧Aside0 (Below w.heap.size w wc))
 case first =>
  have H:=HC5.out;clear HC5
  by_cases c11 : t366 = 0
  ·rw [if_pos c11] at H
   have c11b0:=beq_iff_eq.mpr c11;have c11b1:=bne_eq_false_iff_eq.mpr c11;clear c11;(first|rw [c11b0]|(simp only [i64_w, i32_w];rw [c11b0])|skip)
   as_aux_lemma =>
    have H':=k0_ H;clear H;go_wp2
    go_meet
    case rel=>exact ⟨_, ((t365 != (-30))),rs_, H', ⟨by first|omega|exact Nat.le_refl _⟩,⟨bq_ BK358.out⟩,⟨hb1_ HB.out GE358.out⟩⟩
  ·rw [if_neg c11] at H
   have c11b0:=beq_eq_false_iff_ne.mpr c11;have c11b1:=bne_iff_ne.mpr c11;(first|rw [c11b0]|(simp only [i64_w, i32_w];rw [c11b0])|skip)
   as_aux_lemma =>
    have H':=k0_ H;clear H;go_wp2
    go_meet
    case rel=>exact ⟨_, (true),rs_, H', ⟨by first|omega|exact Nat.le_refl _⟩,⟨bq_ BK358.out⟩,⟨hb1_ HB.out GE358.out⟩⟩
 clear HC5;obtain ⟨kq, x28_4, rfl, HA, HJ4, BK358, HB⟩:=hcut;obtain _|kj4:=kq
 ·exact absurd HA.out (by simp [gridhalltop_TopStorage.j0])
 have H:=HA.out;clear HA;simp only [gridhalltop_TopStorage.j0] at H
 by_cases c12 : x28_4 = true
 ·subst c12
  have H1 : (some false) = some r:=by rw [if_pos rfl] at H;exact H
  clear H;have H:=H1;clear H1
  as_aux_lemma =>
   obtain rfl:=Option.some.inj H;go_wp2
   go_ret
   exact ⟨er_, hb1_ HB.out GE358.out⟩
 ·replace c12:=Bool.eq_false_iff.mpr c12
  subst c12;have H1 : (if a0_4 > a0_3 then (some true) else ((storage_Best.f kj4 a0_0 a0_1 a0_2 a0_3 a0_4 l1).bind fun bt367=>((slices_Clone_int_int.f l1).bind fun t372=>((gridhalltop_bWithin.f a2 (-1000) 1000).bind fun t375=>(if t372.length < 17592186044416 then ((storage_Best.f kj4 a0_0 a0_1 a0_2 a0_3 a0_4 (t372 ++ [t375])).bind fun bt379=>(if bt367.2.2 = 0 then (if bt367.2.1 ≤ 0 then (if bt379.2.2 = 0 then (some (decide (bt379.2.1 ≤ bt367.2.1))) else (some true)) else (some false)) else (some true))) else (none)))))) = some r:=by rw [if_neg (show ¬ (false = true) by decide)] at H;exact H
  clear H;have H:=H1;clear H1
  by_cases c13 : a0_4 > a0_3
  ·rw [if_pos c13] at H
   have c13b0:=decide_eq_true c13;clear c13
   as_aux_lemma =>
    obtain rfl:=Option.some.inj H;obtain ⟨hcz14_0,hcz14_1,hcz14_2,hcz14_3,hcz14_4⟩:=bc5_ BK358.out;obtain ⟨hfz14_0,hfz14_1,hfz14_2,hfz14_3,hfz14_4⟩:=bf5_ BK358.out;go_wp2
    go_ret
    exact ⟨er_, hb1_ HB.out GE358.out⟩
  ·rw [if_neg c13] at H
   have c13b0:=decide_eq_false c13;clear c13;replace H:=Option.bind_eq_some_iff.mp H;obtain ⟨⟨t367, t370, t371⟩, A150, H⟩:=H;replace H : ((slices_Clone_int_int.f l1).bind fun t372=>((gridhalltop_bWithin.f a2 (-1000) 1000).bind fun t375=>(if t372.length < 17592186044416 then ((storage_Best.f kj4 a0_0 a0_1 a0_2 a0_3 a0_4 (t372 ++ [t375])).bind fun bt379=>(if t371 = 0 then (if t370 ≤ 0 then (if bt379.2.2 = 0 then (some (decide (bt379.2.1 ≤ t370))) else (some true)) else (some false)) else (some true))) else (none)))) = some r:=H;have A15:=k0_ A150;clear A150;replace H:=Option.bind_eq_some_iff.mp H;obtain ⟨t372, A160, H⟩:=H;replace H : ((gridhalltop_bWithin.f a2 (-1000) 1000).bind fun t375=>(if t372.length < 17592186044416 then ((storage_Best.f kj4 a0_0 a0_1 a0_2 a0_3 a0_4 (t372 ++ [t375])).bind fun bt379=>(if t371 = 0 then (if t370 ≤ 0 then (if bt379.2.2 = 0 then (some (decide (bt379.2.1 ≤ t370))) else (some true)) else (some false)) else (some true))) else (none))) = some r:=H;have A16:=k0_ A160;clear A160;replace H:=Option.bind_eq_some_iff.mp H;obtain ⟨t375, A170, H⟩:=H;replace H : (if t372.length < 17592186044416 then ((storage_Best.f kj4 a0_0 a0_1 a0_2 a0_3 a0_4 (t372 ++ [t375])).bind fun bt379=>(if t371 = 0 then (if t370 ≤ 0 then (if bt379.2.2 = 0 then (some (decide (bt379.2.1 ≤ t370))) else (some true)) else (some false)) else (some true))) else (none)) = some r:=H;have A17:=k0_ A170;clear A170
   by_cases c18 : t372.length < 17592186044416
   ·rw [if_pos c18] at H
    have LMc18:=k0_ c18;clear c18;obtain ⟨y376, hy376⟩ : ∃ y_ : List Int, y_ = (t372 ++ [t375]):=⟨_, rfl⟩;replace H : ((storage_Best.f kj4 a0_0 a0_1 a0_2 a0_3 a0_4 y376).bind fun bt379=>(if t371 = 0 then (if t370 ≤ 0 then (if bt379.2.2 = 0 then (some (decide (bt379.2.1 ≤ t370))) else (some true)) else (some false)) else (some true))) = some r:=by first|(rw [hy376];with_reducible exact H)|(have H2_:=(Option.bind_some _ _).symm.trans H;rw [hy376];with_reducible exact H2_)|(have H2_:=(Option.bind_some _ _).symm.trans H;with_reducible exact H2_)|with_reducible exact H|(rw [hy376];exact H)|exact H
    have Ny376:=k0_ hy376;clear hy376;replace H:=Option.bind_eq_some_iff.mp H;obtain ⟨⟨t379, t382, t383⟩, A190, H⟩:=H;replace H : (if t371 = 0 then (if t370 ≤ 0 then (if t383 = 0 then (some (decide (t382 ≤ t370))) else (some true)) else (some false)) else (some true)) = some r:=H;have A19:=k0_ A190;clear A190
    by_cases c20 : t371 = 0
    rw [if_pos c20] at H;have c20b0:=beq_iff_eq.mpr c20;have c20b1:=bne_eq_false_iff_eq.mpr c20;clear c20
    focus
     by_cases c21 : t370 ≤ 0
     rw [if_pos c21] at H;have c21b0:=decide_eq_true c21;clear c21
     focus
      by_cases c22 : t383 = 0
      rw [if_pos c22] at H;have c22b0:=beq_iff_eq.mpr c22;have c22b1:=bne_eq_false_iff_eq.mpr c22;clear c22;obtain rfl:=Option.some.inj H;rotate_left;rw [if_neg c22] at H;have c22b0:=beq_eq_false_iff_ne.mpr c22;have c22b1:=bne_iff_ne.mpr c22;obtain rfl:=Option.some.inj H;rotate_left
     rotate_left 2;rw [if_neg c21] at H;have c21b0:=decide_eq_false c21;clear c21;obtain rfl:=Option.some.inj H;rotate_left
    rotate_left 3;rw [if_neg c20] at H;have c20b0:=beq_eq_false_iff_ne.mpr c20;have c20b1:=bne_iff_ne.mpr c20;obtain rfl:=Option.some.inj H;rotate_left
    all_goals
     obtain ⟨hcz23_0,hcz23_1,hcz23_2,hcz23_3,hcz23_4⟩:=bc5_ BK358.out;obtain ⟨hfz23_0,hfz23_1,hfz23_2,hfz23_3,hfz23_4⟩:=bf5_ BK358.out
     try go_wp2_with (first|((with_reducible refine gate_callee (f:=13) rfl ?_);refine goesL_ (some 37) rfl rfl Try.func13 (by kernel_rfl) rfl #[.agg #[.int .i64 a0_0, .int .i64 a0_1, .int .i64 a0_2, .int .i64 a0_3, .int .i64 a0_4], .slice A1 l1.length c1] rfl mt_ ?_;(with_reducible refine (storage_Best.calls kj4 a0_0 a0_1 a0_2 a0_3 a0_4 _ _ l1 t367 t370 t371 _ ?side1 ?side2 A15.out).mono ?_);(case side1=>repeat (first|exact (Kd.C_below HR1.out HB.out)|(with_reducible refine Kd.C_alloc ?_ _)|(with_reducible refine Kd.C_drewN ?_ _)|(with_reducible refine Kd.C_drew ?_)));(case side2=>exact HC1.out);rintro e w24 ⟨v368, rfl, ho0, hb⟩;refine ⟨_, rfl, ?_⟩;have HO369:=k0_ (Kd.R_lower ho0 (below_size (hb1_ HB.out GE358.out)));replace BK358:=k0_ (blk_below (bg_ BK358.out) hb);replace HB:=k0_ (below_step (hb1_ HB.out GE358.out) hb);clear hb ho0))
     replace HO369:=k0_ (Kd.R_drew HO369.out);replace BK358:=k0_ (blk_drew BK358.out);replace HB:=k0_ (below_drew1 HB.out);refine start_ (n:=15) (S:=fun w'=>w'.cell? ⟨gb358, 0, none⟩ = some (.int .i64 a0_0)∧w'.cell? ⟨gb358, 1, none⟩ = some (.int .i64 a0_1)∧w'.cell? ⟨gb358, 2, none⟩ = some (.int .i64 a0_2)∧w'.cell? ⟨gb358, 3, none⟩ = some (.int .i64 a0_3)∧w'.cell? ⟨gb358, 4, none⟩ = some (.int .i64 a0_4)) (ds:=[]) (mb_ 15 0) (by kernel_rfl) rfl rfl ⟨(blk_cell BK358.out 0).trans rfl, (blk_cell BK358.out 1).trans rfl, (blk_cell BK358.out 2).trans rfl, (blk_cell BK358.out 3).trans rfl, (blk_cell BK358.out 4).trans rfl⟩ (fun hHeld=>?_);refine with_tabW gridhalltop_TopStorage.tab7 gridhalltop_TopStorage.bits7 (fun HT_ HW_=>?_);generalize w24.drew = w25 at HO369 BK358 HB hHeld ⊢;refine pu_ 1 43 HT_.out (h:=?_);refine pu_ 3 45 HT_.out (h:=?_);refine tk_ 0 42 HT_.out HW_.out hHeld (h:=?_);refine on_ 2 (some 44) HT_.out (h:=fun K hK=>?_);refine goes_ Try.func14 (by kernel_rfl) rfl #[.slice A1 l1.length c1] (by rfl) rfl rfl mt_ ?_
     with_reducible refine (slices_Clone_int_int.calls _ _ l1 t372 _ ?side1 ?side2 A16.out).mono ?_
     (case side1=>repeat (first|exact (Kd.C_below HR1.out HB.out)|(with_reducible refine Kd.C_alloc ?_ _)|(with_reducible refine Kd.C_drewN ?_ _)|(with_reducible refine Kd.C_drew ?_)))
     (case side2=>exact HC1.out)
     rintro e w26 ⟨v373, rfl, ho0, hb⟩;refine ⟨_, rfl, ?_⟩;have HO374:=k0_ (Kd.R_lower (Kd.R_new' ho0 (Kd.R_lt (rq_ HO369.out))) (below_size (hb1_ HB.out GE358.out)));replace HO369:=k0_ (Kd.R_elder' (rq_ HO369.out) (Kd.R_base ho0) hb);replace BK358:=k0_ (blk_below (bg_ BK358.out) hb);replace HB:=k0_ (below_step (hb1_ HB.out GE358.out) hb);clear hb ho0;refine hK.out _ _ ⟨(blk_cell BK358.out 0).trans rfl, (blk_cell BK358.out 1).trans rfl, (blk_cell BK358.out 2).trans rfl, (blk_cell BK358.out 3).trans rfl, (blk_cell BK358.out 4).trans rfl⟩ (fun hHeld=>?_);clear hK K;refine norm_ (a':=?_) ?_ ?_;rotate_left
     ·show Act.put _ (some 44) _ = _
      simp only [Act.put, q1_,q2_,q3_,i64_w,i32_w];rfl
     refine on_ 4 (some 46) HT_.out (h:=fun K hK=>?_);refine goes_ Try.func15 (by kernel_rfl) rfl #[.int .i64 a2, .int .i64 (-1000), .int .i64 1000] (by rfl) rfl rfl mt_ ?_
     with_reducible refine (gridhalltop_bWithin.calls a2 (-1000) 1000 t375 _ A17.out).mono ?_
     rintro e w' ⟨rfl, ⟨nd, rfl⟩⟩;refine ⟨_, rfl, ?_⟩;refine hK.out _ _ ⟨(blk_cell BK358.out 0).trans rfl, (blk_cell BK358.out 1).trans rfl, (blk_cell BK358.out 2).trans rfl, (blk_cell BK358.out 3).trans rfl, (blk_cell BK358.out 4).trans rfl⟩ (fun hHeld=>?_);clear hK K;refine norm_ (a':=?_) ?_ ?_;rotate_left
     ·show Act.put _ (some 46) _ = _
      simp only [Act.put, q1_,q2_,q3_,i64_w,i32_w];rfl
     refine on_ 5 (some 47) HT_.out (h:=fun K hK=>?_);refine value_ (w1:=?_) (v:=?_) (by rfl) rfl ?_ ?_;rotate_left 2
     ·go_simp
      constructor
      ·rfl
      ·rfl
     refine hK.out _ _ ⟨(blk_cell (blk_alloc BK358.out _) 0).trans rfl, (blk_cell (blk_alloc BK358.out _) 1).trans rfl, (blk_cell (blk_alloc BK358.out _) 2).trans rfl, (blk_cell (blk_alloc BK358.out _) 3).trans rfl, (blk_cell (blk_alloc BK358.out _) 4).trans rfl⟩ (fun hHeld=>?_);clear hK K;refine norm_ (a':=?_) ?_ ?_;rotate_left
     ·show Act.put _ (some 47) _ = _
      simp only [Act.put, q1_,q2_,q3_,i64_w,i32_w];rfl
     refine on_ 6 (some 48) HT_.out (h:=fun K hK=>?_);refine Kd.R_append_step (Kd.int .i64) (w0:=w) w.heap.size (by rfl) (.tmp 44) (.tmp 47) 23 3 (.int .i64 0) 8 rfl Try.underlying23 info3 rfl (by decide) (by omega) v373 t372 t375 [.int .i64 t375] (fun k_=>some k_ ≠ (v368 : Value).ownBlock) (fun _=>False) rfl rfl ?aP (fun _ hk=>hk.elim) ?aF ?aO ?aB ?aS ?aL ?_
     (case aP=>exact rfl)
     (case aB=>exact (hb1_ HB.out GE358.out))
     (case aF=>exact (fun k_ hk=>Kd.fresh' (Kd.R_lt (rq_ HO369.out)) k_ hk))
     (case aO=>exact (by (with_reducible repeat (first|apply Kd.R_alloc|apply Kd.R_drewN|apply Kd.R_drew));exact Kd.R_mono HO374.out (fun _ hk=>hk.2)))
     (case aS=>exact (below_size (hb1_ HB.out GE358.out)))
     (case aL=>have:=LMc18.out;omega)
     intro v377 w27 ho hb hg hat;rw [← Ny376.out] at ho;replace BK358:=k0_ (blk_grown (bg_ BK358.out) hg (Kd.R_ne HO374.out BK358.out (by decide)));replace HO369:=k0_ (Kd.R_after (ok:=(fun _=>True)) (rq_ HO369.out) hg hat);replace HB:=k0_ (hb);have HO378:=k0_ (ho);clear HO374;clear ho hb hg hat;obtain ⟨Ao28, co28, eo28⟩:=Kd.R_slice HO378.out;(first|subst eo28|(injection eo28 with f1_ f2_ f3_;have f4_:=f1_.symm;have f5_:=f3_.symm;clear f1_ f2_ f3_;subst f4_;subst f5_));refine hK.out _ _ ⟨(blk_cell BK358.out 0).trans rfl, (blk_cell BK358.out 1).trans rfl, (blk_cell BK358.out 2).trans rfl, (blk_cell BK358.out 3).trans rfl, (blk_cell BK358.out 4).trans rfl⟩ (fun hHeld=>?_);clear hK K;refine norm_ (a':=?_) ?_ ?_;rotate_left
     ·show Act.put _ (some 48) _ = _
      simp only [Act.put, q1_,q2_,q3_,i64_w,i32_w];rfl
     refine on_ 7 (some 49) HT_.out (h:=fun K hK=>?_);refine goes_ Try.func13 (by kernel_rfl) rfl #[.agg #[.int .i64 a0_0, .int .i64 a0_1, .int .i64 a0_2, .int .i64 a0_3, .int .i64 a0_4], .slice Ao28 y376.length co28] (by rfl) rfl rfl mt_ ?_
     with_reducible refine (storage_Best.calls kj4 a0_0 a0_1 a0_2 a0_3 a0_4 _ _ y376 t379 t382 t383 _ ?side1 ?side2 A19.out).mono ?_
     (case side1=>repeat (first|exact (Kd.R_reads' HO378.out).2.2|(with_reducible refine Kd.C_alloc ?_ _)|(with_reducible refine Kd.C_drewN ?_ _)|(with_reducible refine Kd.C_drew ?_)))
     (case side2=>exact (Kd.R_reads' HO378.out).2.1)
     rintro e w29 ⟨v380, rfl, ho0, hb⟩;refine ⟨_, rfl, ?_⟩;have HO381:=k0_ (Kd.R_lower (Kd.R_new' (Kd.R_new' ho0 (Kd.R_lt (rq_ HO369.out))) (Kd.R_lt (rq_ HO378.out))) (below_size (hb1_ HB.out GE358.out)));replace HO369:=k0_ (Kd.R_elder' (rq_ HO369.out) (Kd.R_base ho0) hb);replace HO378:=k0_ (Kd.R_elder' (rq_ HO378.out) (Kd.R_base ho0) hb);replace BK358:=k0_ (blk_below (bg_ BK358.out) hb);replace HB:=k0_ (below_step (hb1_ HB.out GE358.out) hb);clear hb ho0;refine hK.out _ _ ⟨(blk_cell BK358.out 0).trans rfl, (blk_cell BK358.out 1).trans rfl, (blk_cell BK358.out 2).trans rfl, (blk_cell BK358.out 3).trans rfl, (blk_cell BK358.out 4).trans rfl⟩ (fun hHeld=>?_);clear hK K;refine norm_ (a':=?_) ?_ ?_;rotate_left
     ·show Act.put _ (some 49) _ = _
      simp only [Act.put, q1_,q2_,q3_,i64_w,i32_w];rfl
     refine pu_ 8 41 HT_.out (h:=?_);refine pu_ 9 50 HT_.out (h:=?_);refine pu_ 10 51 HT_.out (h:=?_);refine pu_ 11 52 HT_.out (h:=?_);refine pu_ 12 13 HT_.out (h:=?_);refine pu_ 13 14 HT_.out (h:=?_);refine pu_ 14 15 HT_.out (h:=?_);refine done_ (done_of HT_.out (by kernel_rfl)) ?_
     try go_wp2
     go_ret
    ·as_aux_lemma =>
      exact ⟨er_, hb1_ HB.out GE358.out⟩
    ·as_aux_lemma =>
      exact ⟨er_, hb1_ HB.out GE358.out⟩
    ·as_aux_lemma =>
      exact ⟨er_, hb1_ HB.out GE358.out⟩
    ·as_aux_lemma =>
      exact ⟨er_, hb1_ HB.out GE358.out⟩
   ·rw [if_neg c18] at H
    exact absurd H (by simp)

end Go.Proofs.Ytdphghdjljplpaa.PTopStorage
