/- Contracts of functions that ReserveBest reaches, a text of this session's own. -/
import Derived.Test.YtekpnmeikibioaaBox2
import Derived.Test.YtekpnmeikibioaaHReserveBesty0
import Derived.Test.YtekpnmeikibioaaHReserveBesty5
namespace Go.Proofs.Ytekpnmeikibioaa.PReserveBest
open Go.RowKit Go.Proofs.YtekpnmeikibioaaW.PrintWords Go.Proofs.YtekpnmeikibioaaW.PrintLast Go.Proofs.YtekpnmeikibioaaW.PrintMore
attribute [local go_sem] max2_int min2_int max_two min_two max_three min_three max_four min_four   -- for this text's walks alone
set_option linter.unusedVariables false
set_option linter.unusedSimpArgs false

/-! ### cmp_Or_int: function 61 -/
def cmp_Or_int.l0 : Nat → Int → List Int → Int → Int → Option (Int)
 | 0, _, _, _, _ => none
 | k + 1, x3, x6, x7, x8 => if x8 < x7 then (if 0 ≤ x8 then (if x8 < (x6.length : Int) then (if (rd x6 x8) = x3 then (cmp_Or_int.l0 k x3 x6 x7 (wrap64 (x8 + 1))) else (some (rd x6 x8))) else (none)) else (none)) else (some x3)
def cmp_Or_int.f (k : Nat) (l0 : List Int) : Option (Int) := cmp_Or_int.l0 k 0 l0 (l0.length : Int) 0
theorem cmp_Or_int.mono_l : ∀ k, (∀ y0 y1 y2 y3, LeO (cmp_Or_int.l0 k y0 y1 y2 y3) (cmp_Or_int.l0 (k + 1) y0 y1 y2 y3))
 | 0 => fun _ _ _ _ r h => by simp [cmp_Or_int.l0] at h
 | k + 1 => by
  have ih0:=cmp_Or_int.mono_l k
  ·intro y0 y1 y2 y3
   unfold cmp_Or_int.l0
   repeat' first|(with_reducible first|exact ih0 _ _ _ _|exact LeO.refl _|exact LeO.none _|refine LeO.ite ?_ ?_|refine LeO.bind ?_ (fun _=>?_))|exact ih0 _ _ _ _|exact LeO.none _|refine LeO.ite ?_ ?_|refine LeO.bind ?_ (fun _=>?_)
theorem cmp_Or_int.mono : ∀ a0 k, LeO (cmp_Or_int.f k a0) (cmp_Or_int.f (k + 1) a0) := by
 intro a0 k
 have ih0:=cmp_Or_int.mono_l k
 unfold cmp_Or_int.f
 repeat' first|(with_reducible first|exact ih0 _ _ _ _|exact LeO.refl _|exact LeO.none _|refine LeO.ite ?_ ?_|refine LeO.bind ?_ (fun _=>?_))|exact ih0 _ _ _ _|exact LeO.none _|refine LeO.ite ?_ ?_|refine LeO.bind ?_ (fun _=>?_)
set_option maxHeartbeats 8000000 in
set_option maxRecDepth 100000 in
theorem cmp_Or_int.calls (k : Nat) (A0 : Option Addr) (c0 : Nat) (l0 : List Int) (r : Int) (w : World) (hr0 : Kd.C (Kd.int .i64) w A0 l0.length l0) (hc0 : l0.length ≤ c0) (h : cmp_Or_int.f k l0 = some r) :
  Calls Try.prog 61 #[.slice A0 l0.length c0] w fun e w' => e = .returned (.int .i64 r) ∧ Drawn0 w w' := by
 have HR0:=k0_ hr0;have HC0:=k0_ hc0;clear hr0 hc0;have H : (cmp_Or_int.l0 k 0 l0 (l0.length : Int) 0) = some r:=h;clear h;have H':=k0_ H;clear H
 go_enter Try.func61, Try.ntmps61
 go_wp2;(try simp only [Act.put, q1_,q3_,q2_])
 go_loopg [8] k (fun kq v8 w'=>∃ (x8_1 : Int), v8 = .int .i64 x8_1∧Aside0 (cmp_Or_int.l0 kq 0 l0 (l0.length : Int) x8_1 = some r)∧Aside0 (kq ≤ k)∧Drawn0 w w')
 case atStart=>exact ⟨(0),rs_, H', ⟨Nat.le_refl _⟩, by repeat (first|exact Drawn0.refl _|apply Drawn0.step)⟩
 clear H';obtain ⟨x8_1, rfl, HA, HK1, ⟨m1, rfl⟩⟩:=hrel;obtain _|k1:=gk
 ·exact absurd HA.out (by simp [cmp_Or_int.l0])
 have H:=HA.out;clear HA;simp only [cmp_Or_int.l0] at H
 by_cases c2 : x8_1 < (l0.length : Int)
 ·rw [if_pos c2] at H
  have c2b0:=decide_eq_true c2;clear c2
  by_cases c3 : 0 ≤ x8_1
  rw [if_pos c3] at H;have c3b0:=decide_eq_true c3;clear c3
  focus
   by_cases c4 : x8_1 < (l0.length : Int)
   rw [if_pos c4] at H;have c4b0:=decide_eq_true c4;clear c4
   focus
    by_cases c5 : (rd l0 x8_1) = 0
    rw [if_pos c5] at H;have c5b0:=beq_iff_eq.mpr c5;have c5b1:=bne_eq_false_iff_eq.mpr c5;clear c5;have H':=k0_ H;clear H;rotate_left;rw [if_neg c5] at H;have c5b0:=beq_eq_false_iff_ne.mpr c5;have c5b1:=bne_iff_ne.mpr c5;obtain rfl:=Option.some.inj H;rotate_left
   rotate_left 2;rw [if_neg c4] at H
   exact absurd H (by simp)
  rotate_left 2;rw [if_neg c3] at H
  exact absurd H (by simp)
  all_goals
   have p170 : 0 ≤ (x8_1 : Int):=of_decide_eq_true as_;have q170 : x8_1 < (l0.length : Int):=of_decide_eq_true as_;obtain ⟨ad170, e170, hx170_0⟩:=Kd.at_int HR0.out x8_1 p170 q170;cases e170;replace p170:=eq_true p170;replace q170:=eq_true q170;go_wp2
  ·go_roundg k1
   case measure=>have:=HK1.out;omega
   case rel=>exact ⟨(wrap64 (x8_1 + 1)),rs_, H', ⟨by have:=HK1.out;omega⟩, by repeat (first|exact Drawn0.refl _|apply Drawn0.step)⟩
  ·go_ret
   exact ⟨by first|rfl|(simp;done)|(simp [*];done), by repeat (first|exact Drawn0.refl _|apply Drawn0.step)⟩
 ·rw [if_neg c2] at H
  have c2b0:=decide_eq_false c2;clear c2;obtain rfl:=Option.some.inj H;go_wp2
  go_ret
  exact ⟨by first|rfl|(simp;done)|(simp [*];done), by repeat (first|exact Drawn0.refl _|apply Drawn0.step)⟩

/-! ### reserve_parts_1: function 60 -/
def reserve_parts_1.f (k : Nat) (a0_0 : Int) (a0_1 : Int) (a0_2 : Int) (a1_0 : Int) (a1_1 : Int) (a1_2 : Int) : Option (Int) := (cmp_Compare_int.f a0_2 a1_2).bind fun t173 => ((cmp_Compare_int.f a0_0 a1_0).bind fun t174 => ((cmp_Or_int.f k (([t173, t174] : List Int))).bind fun t178 => (some t178)))
theorem reserve_parts_1.mono : ∀ a0 a1 a2 a3 a4 a5 k, LeO (reserve_parts_1.f k a0 a1 a2 a3 a4 a5) (reserve_parts_1.f (k + 1) a0 a1 a2 a3 a4 a5) := by
 intro a0 a1 a2 a3 a4 a5 k
 unfold reserve_parts_1.f
 repeat' first|(with_reducible first|exact cmp_Or_int.mono _ _|exact LeO.refl _|exact LeO.none _|refine LeO.ite ?_ ?_|refine LeO.bind ?_ (fun _=>?_))|exact cmp_Or_int.mono _ _|exact LeO.none _|refine LeO.ite ?_ ?_|refine LeO.bind ?_ (fun _=>?_)
def reserve_parts_1.T1 : Bool × List (List Nat × List Nat) := (true, [([], []), ([0], [0]), ([], []), ([2], [2]), ([1, 3], [1, 3]), ([], []), ([5], [5]), ([], []), ([7], [7]), ([6, 8, 4], [6, 8]), ([4, 9], [4, 9]), ([10, 9], [10]), ([11, 11, 0, 1, 2, 3, 4, 5, 6, 7, 8, 9, 10, 11], [11])])
def reserve_parts_1.B1 : List Nat := [0, 1, 0, 4, 15, 0, 32, 0, 128, 511, 1023, 2047, 4095]
theorem reserve_parts_1.tab1 : rtab .any (opsOf Try.f60 1) = reserve_parts_1.T1 := by kernel_rfl
theorem reserve_parts_1.bits1 : waitsOk reserve_parts_1.T1.2 reserve_parts_1.B1 = true := by kernel_rfl
set_option maxHeartbeats 8000000 in
set_option maxRecDepth 100000 in
theorem reserve_parts_1.calls (k : Nat) (a0_0 : Int) (a0_1 : Int) (a0_2 : Int) (a1_0 : Int) (a1_1 : Int) (a1_2 : Int) (r : Int) (w : World) (h : reserve_parts_1.f k a0_0 a0_1 a0_2 a1_0 a1_1 a1_2 = some r) :
  Calls Try.prog 60 #[.agg #[.int .i64 a0_0, .int .i64 a0_1, .int .i64 a0_2], .agg #[.int .i64 a1_0, .int .i64 a1_1, .int .i64 a1_2]] w fun e w' => e = .returned (.int .i64 r) ∧ Below w.heap.size w w' := by
 have hu82:=Try.underlying82;have HB:=k0_ (Below.refl w.heap.size w);have H : ((cmp_Compare_int.f a0_2 a1_2).bind fun t173=>((cmp_Compare_int.f a0_0 a1_0).bind fun t174=>((cmp_Or_int.f k (([t173, t174] : List Int))).bind fun t178=>(some t178)))) = some r:=h;clear h;replace H:=Option.bind_eq_some_iff.mp H;obtain ⟨t173, A30, H⟩:=H;replace H : ((cmp_Compare_int.f a0_0 a1_0).bind fun t174=>((cmp_Or_int.f k (([t173, t174] : List Int))).bind fun t178=>(some t178))) = some r:=H;have A3:=k0_ A30;clear A30;replace H:=Option.bind_eq_some_iff.mp H;obtain ⟨t174, A40, H⟩:=H;replace H : ((cmp_Or_int.f k (([t173, t174] : List Int))).bind fun t178=>(some t178)) = some r:=H;have A4:=k0_ A40;clear A40;obtain ⟨y175, hy175⟩ : ∃ y_ : List Int, y_ = (([t173, t174] : List Int)):=⟨_, rfl⟩;replace H : ((cmp_Or_int.f k y175).bind fun t178=>(some t178)) = some r:=by first|(rw [hy175];with_reducible exact H)|(have H2_:=(Option.bind_some _ _).symm.trans H;rw [hy175];with_reducible exact H2_)|(have H2_:=(Option.bind_some _ _).symm.trans H;with_reducible exact H2_)|with_reducible exact H|(rw [hy175];exact H)|exact H
 have Ny175:=k0_ hy175;clear hy175;replace H:=Option.bind_eq_some_iff.mp H;obtain ⟨t178, A50, H⟩:=H;replace H : (some t178) = some r:=H;have A5:=k0_ A50;clear A50;obtain rfl:=Option.some.inj H
 go_enter Try.func60, Try.ntmps60
 try go_wp2_with (first|((with_reducible refine gate_dst (N:=2) rfl ?_);refine box_event ?hg (N:=2) ?hd (cs:=#[.int .i64 a0_0, .int .i64 a0_1, .int .i64 a0_2]) (t:=82) ?hr ?_;(case hd=>rfl);(case hg=>rfl);(case hr=>first|(go_simp;done)|(go_simp;rfl));intro gb171 hg w6 hbox hb;have BK171:=k0_ (hbox);have GW171:=k0_ ((by rw [hg];exact (below_size (hb0_ HB.out)) : w.heap.size ≤ gb171));have GE171:=k0_ ((by rw [hg];exact (below_size (hb0_ HB.out)) : w.heap.size ≤ gb171));replace HB:=k0_ (below_step (hb0_ HB.out) hb);clear hb hbox hg)|((with_reducible refine gate_dst (N:=3) rfl ?_);refine box_event ?hg (N:=3) ?hd (cs:=#[.int .i64 a1_0, .int .i64 a1_1, .int .i64 a1_2]) (t:=82) ?hr ?_;(case hd=>rfl);(case hg=>rfl);(case hr=>first|(go_simp;done)|(go_simp;rfl));intro gb172 hg w7 hbox hb;have BK172:=k0_ (hbox);have GW172:=k0_ ((by rw [hg];exact (below_size (hb1_ HB.out GE171.out)) : w.heap.size ≤ gb172));have GE172:=k0_ ((by rw [hg];exact (below_size (hb1_ HB.out GE171.out)) : w.heap.size ≤ gb172));replace HB:=k0_ (below_step (hb1_ HB.out GE171.out) hb);have NB171_172:=k0_ ((by rw [hg];exact Nat.ne_of_lt (blk_lt (g:=gb171) (o:=.cells #[.int .i64 a0_0, .int .i64 a0_1, .int .i64 a0_2] 82 (0, 0)) (bq_ BK171.out)) : gb171 ≠ gb172));have NB172_171:=k0_ ((by rw [hg];exact Nat.ne_of_gt (blk_lt (g:=gb171) (o:=.cells #[.int .i64 a0_0, .int .i64 a0_1, .int .i64 a0_2] 82 (0, 0)) (bq_ BK171.out)) : gb172 ≠ gb171));replace BK171:=k0_ (blk_below (g:=gb171) (o:=.cells #[.int .i64 a0_0, .int .i64 a0_1, .int .i64 a0_2] 82 (0, 0)) (bq_ BK171.out) hb);clear hb hbox hg))
 replace BK171:=k0_ (blk_drew BK171.out);replace BK172:=k0_ (blk_drew BK172.out);replace HB:=k0_ (below_drew1 HB.out);refine start_ (n:=13) (S:=fun w'=>w'.cell? ⟨gb171, 0, none⟩ = some (.int .i64 a0_0)∧w'.cell? ⟨gb171, 1, none⟩ = some (.int .i64 a0_1)∧w'.cell? ⟨gb171, 2, none⟩ = some (.int .i64 a0_2)∧w'.cell? ⟨gb172, 0, none⟩ = some (.int .i64 a1_0)∧w'.cell? ⟨gb172, 1, none⟩ = some (.int .i64 a1_1)∧w'.cell? ⟨gb172, 2, none⟩ = some (.int .i64 a1_2)) (ds:=[]) (mb_ 13 0) (by kernel_rfl) rfl rfl ⟨(blk_cell BK171.out 0).trans rfl, (blk_cell BK171.out 1).trans rfl, (blk_cell BK171.out 2).trans rfl, (blk_cell BK172.out 0).trans rfl, (blk_cell BK172.out 1).trans rfl, (blk_cell BK172.out 2).trans rfl⟩ (fun hHeld=>?_);refine with_tabW reserve_parts_1.tab1 reserve_parts_1.bits1 (fun HT_ HW_=>?_);generalize w7.drew = w8 at BK171 BK172 HB hHeld ⊢;refine pu_ 0 5 HT_.out (h:=?_);refine pu_ 2 7 HT_.out (h:=?_);refine pu_ 5 10 HT_.out (h:=?_);refine pu_ 7 12 HT_.out (h:=?_);refine tk_ 1 6 HT_.out HW_.out hHeld (h:=?_);refine tk_ 3 8 HT_.out HW_.out hHeld (h:=?_);refine tk_ 6 11 HT_.out HW_.out hHeld (h:=?_);refine tk_ 8 13 HT_.out HW_.out hHeld (h:=?_);refine on_ 4 (some 9) HT_.out (h:=fun K hK=>?_);refine goes_ Try.func55 (by kernel_rfl) rfl #[.int .i64 a0_2, .int .i64 a1_2] (by rfl) rfl rfl mt_ ?_
 with_reducible refine (cmp_Compare_int.calls a0_2 a1_2 t173 _ A3.out).mono ?_
 rintro e w' ⟨rfl, ⟨nd, rfl⟩⟩;refine ⟨_, rfl, ?_⟩;refine hK.out _ _ ⟨(blk_cell BK171.out 0).trans rfl, (blk_cell BK171.out 1).trans rfl, (blk_cell BK171.out 2).trans rfl, (blk_cell BK172.out 0).trans rfl, (blk_cell BK172.out 1).trans rfl, (blk_cell BK172.out 2).trans rfl⟩ (fun hHeld=>?_);clear hK K;refine norm_ (a':=?_) ?_ ?_;rotate_left
 ·show Act.put _ (some 9) _ = _
  simp only [Act.put, q1_,q2_,q3_,i64_w,i32_w];rfl
 refine on_ 9 (some 14) HT_.out (h:=fun K hK=>?_);refine goes_ Try.func55 (by kernel_rfl) rfl #[.int .i64 a0_0, .int .i64 a1_0] (by rfl) rfl rfl mt_ ?_
 with_reducible refine (cmp_Compare_int.calls a0_0 a1_0 t174 _ A4.out).mono ?_
 rintro e w' ⟨rfl, ⟨nd, rfl⟩⟩;refine ⟨_, rfl, ?_⟩;refine hK.out _ _ ⟨(blk_cell BK171.out 0).trans rfl, (blk_cell BK171.out 1).trans rfl, (blk_cell BK171.out 2).trans rfl, (blk_cell BK172.out 0).trans rfl, (blk_cell BK172.out 1).trans rfl, (blk_cell BK172.out 2).trans rfl⟩ (fun hHeld=>?_);clear hK K;refine norm_ (a':=?_) ?_ ?_;rotate_left
 ·show Act.put _ (some 14) _ = _
  simp only [Act.put, q1_,q2_,q3_,i64_w,i32_w];rfl
 refine on_ 10 (some 15) HT_.out (h:=fun K hK=>?_);refine Kd.R_lit_step (Kd.int .i64) _ 3 ?hg (N:=15) ?hd (xs:=([t173, t174] : List Int)) (inner:=[.int .i64 t173, .int .i64 t174]) (ok:=fun _=>True) (okp:=fun _=>True) ?hr ?hp (fun _ hk=>hk) trivial (Below.refl _ _) (Nat.le_refl _) (by simp) ?_;(case hd=>rfl);(case hg=>rfl);(case hr=>first|(go_simp;done)|(go_simp;rfl));(case hp=>exact (Reps.one (show Kd.M (Kd.int .i64) _ _ _ t173 [.int .i64 t173] from rfl) (Reps.one (show Kd.M (Kd.int .i64) _ _ _ t174 [.int .i64 t174] from rfl) (Reps.none _ _))));intro v176 w9 ho10 hb hg_ hnew_;clear hg_ hnew_;(first|rw [← Ny175.out] at ho10|(simp only [Int.reduceToNat] at ho10;rw [← Ny175.out] at ho10));have HO177:=k0_ (Kd.R_lower ho10 (below_size (hb2_ HB.out GE171.out GE172.out)));replace BK171:=k0_ (blk_below (g:=gb171) (o:=.cells #[.int .i64 a0_0, .int .i64 a0_1, .int .i64 a0_2] 82 (0, 0)) (bq_ BK171.out) hb);replace BK172:=k0_ (blk_below (g:=gb172) (o:=.cells #[.int .i64 a1_0, .int .i64 a1_1, .int .i64 a1_2] 82 (0, 0)) (bq_ BK172.out) hb);replace HB:=k0_ (below_step (hb2_ HB.out GE171.out GE172.out) hb);clear hb ho10;obtain ⟨Ao11, co11, eo11⟩:=Kd.R_slice HO177.out;(first|subst eo11|(injection eo11 with f1_ f2_ f3_;have f4_:=f1_.symm;have f5_:=f3_.symm;clear f1_ f2_ f3_;subst f4_;subst f5_));refine hK.out _ _ ⟨(blk_cell BK171.out 0).trans rfl, (blk_cell BK171.out 1).trans rfl, (blk_cell BK171.out 2).trans rfl, (blk_cell BK172.out 0).trans rfl, (blk_cell BK172.out 1).trans rfl, (blk_cell BK172.out 2).trans rfl⟩ (fun hHeld=>?_);clear hK K;refine norm_ (a':=?_) ?_ ?_;rotate_left
 ·show Act.put _ (some 15) _ = _
  simp only [Act.put, q1_,q2_,q3_,i64_w,i32_w];rfl
 refine on_ 11 (some 16) HT_.out (h:=fun K hK=>?_);refine goes_ Try.func61 (by kernel_rfl) rfl #[.slice Ao11 y175.length co11] (by rfl) rfl rfl mt_ ?_
 with_reducible refine (cmp_Or_int.calls k _ _ y175 t178 _ ?side1 ?side2 A5.out).mono ?_
 (case side1=>repeat (first|exact (Kd.R_reads' HO177.out).2.2|(with_reducible refine Kd.C_alloc ?_ _)|(with_reducible refine Kd.C_drewN ?_ _)|(with_reducible refine Kd.C_drew ?_)))
 (case side2=>exact (Kd.R_reads' HO177.out).2.1)
 rintro e w' ⟨rfl, ⟨nd, rfl⟩⟩;refine ⟨_, rfl, ?_⟩;refine hK.out _ _ ⟨(blk_cell BK171.out 0).trans rfl, (blk_cell BK171.out 1).trans rfl, (blk_cell BK171.out 2).trans rfl, (blk_cell BK172.out 0).trans rfl, (blk_cell BK172.out 1).trans rfl, (blk_cell BK172.out 2).trans rfl⟩ (fun hHeld=>?_);clear hK K;refine norm_ (a':=?_) ?_ ?_;rotate_left
 ·show Act.put _ (some 16) _ = _
  simp only [Act.put, q1_,q2_,q3_,i64_w,i32_w];rfl
 refine pu_ 12 4 HT_.out (h:=?_);refine done_ (done_of HT_.out (by kernel_rfl)) ?_
 try go_wp2
 go_ret
 exact ⟨er_, hb2_ HB.out GE171.out GE172.out⟩

end Go.Proofs.Ytekpnmeikibioaa.PReserveBest
