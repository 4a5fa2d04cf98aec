/- Contracts of functions that TopHours reaches, a text of this session's own. -/
import Derived.Test.YtdphghdjljplpaaBox2
import Derived.Test.YtdphghdjljplpaaHTopHoursy0
import Derived.Test.YtdphghdjljplpaaHTopHoursy2
import Derived.Test.YtdphghdjljplpaaHTopHoursy3
namespace Go.Proofs.Ytdphghdjljplpaa.PTopHours
open Go.RowKit Go.Proofs.YtdphghdjljplpaaW.PrintWords Go.Proofs.YtdphghdjljplpaaW.PrintLast Go.Proofs.YtdphghdjljplpaaW.PrintMore
attribute [local go_sem] max2_int min2_int max_two min_two max_three min_three max_four min_four   -- for this text's walks alone
set_option linter.unusedVariables false
set_option linter.unusedSimpArgs false

/-! ### gridhalltop_bTwo: function 9 -/
def gridhalltop_bTwo.f (a0 : ByteArray) : Option (ByteArray × (List (S96))) := some (a0, (([(⟨10, 5⟩ : S96), (⟨10, 8⟩ : S96)] : List (S96))))
set_option maxHeartbeats 8000000 in
set_option maxRecDepth 100000 in
theorem gridhalltop_bTwo.calls (a0 : ByteArray) (r1 : ByteArray) (r2 : List (S96)) (w : World) (h : gridhalltop_bTwo.f a0 = some (r1, r2)) :
  Calls Try.prog 9 #[.string a0] w fun e w' => ∃ v1_ : Value, e = .returned (.agg #[.string r1, v1_]) ∧ Kd.R k96 96 w' w.heap.size (fun _ => True) v1_ r2 ∧ Below w.heap.size w w' := by
 have hu31:=Try.underlying31;have hu96:=Try.underlying96;have HB:=k0_ (Below.refl w.heap.size w);have H : (some (a0, (([(⟨10, 5⟩ : S96),(⟨10, 8⟩ : S96)] : List (S96))))) = some (r1, r2):=h;clear h;obtain ⟨y171, hy171⟩ : ∃ y_ : List (S96), y_ = (([(⟨10, 5⟩ : S96),(⟨10, 8⟩ : S96)] : List (S96))):=⟨_, rfl⟩;replace H : (some (a0, y171)) = some (r1, r2):=by first|(rw [hy171];with_reducible exact H)|(have H2_:=(Option.bind_some _ _).symm.trans H;rw [hy171];with_reducible exact H2_)|(have H2_:=(Option.bind_some _ _).symm.trans H;with_reducible exact H2_)|with_reducible exact H|(rw [hy171];exact H)|exact H
 have Ny171:=k0_ hy171;clear hy171;simp only [Option.some.injEq, Prod.mk.injEq] at H;obtain ⟨rfl, rfl⟩:=H
 go_enter Try.func9, Try.ntmps9
 go_wp2_with (first|((with_reducible refine gate_dst (N:=2) rfl ?_);refine box_event ?hg (N:=2) ?hd (cs:=#[.string (⟨#[]⟩ : ByteArray), .slice none 0 0]) (t:=31) ?hr ?_;(case hd=>rfl);(case hg=>rfl);(case hr=>first|(go_simp;done)|(go_simp;rfl));intro gb170 hg w2 hbox hb;have BK170:=k0_ (hbox);have GW170:=k0_ ((by rw [hg];exact (below_size (hb0_ HB.out)) : w.heap.size ≤ gb170));have GE170:=k0_ ((by rw [hg];exact (below_size (hb0_ HB.out)) : w.heap.size ≤ gb170));replace HB:=k0_ (below_step (hb0_ HB.out) hb);clear hb hbox hg)|((with_reducible refine gate_dst (N:=6) rfl ?_);refine Kd.R_lit k96 _ 96 ?hg (N:=6) ?hd (xs:=([(⟨10, 5⟩ : S96),(⟨10, 8⟩ : S96)] : List (S96))) (inner:=[.int .i64 10, .int .i64 5, .int .i64 10, .int .i64 8]) (ok:=fun _=>True) (okp:=fun _=>True) ?hr ?hp (fun _ hk=>hk) trivial (Below.refl _ _) (Nat.le_refl _) (by simp) ?_;(case hd=>rfl);(case hg=>rfl);(case hr=>first|(go_simp;done)|(go_simp;rfl));(case hp=>exact (Reps.c2 (show Kd.M k96 _ _ _ (⟨10, 5⟩ : S96) [.int .i64 10, .int .i64 5] from (k96_mkM _ _ _ (⟨10, 5⟩ : S96) )) (Reps.c2 (show Kd.M k96 _ _ _ (⟨10, 8⟩ : S96) [.int .i64 10, .int .i64 8] from (k96_mkM _ _ _ (⟨10, 8⟩ : S96) )) (Reps.none _ _))));intro v172 w3 ho4 hb hg_ hnew_;clear hg_ hnew_;(first|rw [← Ny171.out] at ho4|(simp only [Int.reduceToNat] at ho4;rw [← Ny171.out] at ho4));have HO173:=k0_ (Kd.R_lower ho4 (below_size (hb1_ HB.out GE170.out)));replace BK170:=k0_ (blk_below (g:=gb170) (o:=.cells #[.string (⟨#[]⟩ : ByteArray), .slice none 0 0] 31 (0, 0)) (bq_ BK170.out) hb);replace HB:=k0_ (below_step (hb1_ HB.out GE170.out) hb);clear hb ho4;obtain ⟨Ao5, co5, eo5⟩:=Kd.R_slice HO173.out;subst eo5;obtain ⟨hcz6_0,hcz6_1⟩:=bc2_ BK170.out;obtain ⟨hfz6_0,hfz6_1⟩:=bf2_ BK170.out))
 refine bodyPost_ret (results_cell_row rfl _ _ gb170 31 #[.string a0, .slice Ao5 y171.length co5] (0, 0) _ rfl (by (with_reducible repeat (first|refine blk_drewN ?_ _|refine blk_drew ?_|refine blk_alloc ?_ _));refine blk_put (cs:=#[.string a0, .slice none 0 0]) ?_ 1 _ rfl;(with_reducible repeat (first|refine blk_drewN ?_ _|refine blk_drew ?_|refine blk_alloc ?_ _));refine blk_put (cs:=#[.string (⟨#[]⟩ : ByteArray), .slice none 0 0]) ?_ 0 _ rfl;(with_reducible repeat (first|refine blk_drewN ?_ _|refine blk_drew ?_|refine blk_alloc ?_ _));exact BK170.out) Try.underlying31 rfl (by kernel_rfl)) rfl ?_
 exact ⟨_, er_, by (with_reducible repeat (first|apply Kd.R_alloc|apply Kd.R_drewN|apply Kd.R_drew));exact Kd.R_mono (Kd.R_far (p:=⟨gb170, 1, none⟩) (Kd.R_far (p:=⟨gb170, 0, none⟩) (Kd.R_types HO173.out BK170.out (by decide)) (fun _ hk=>hk.2) (.string a0)) (fun _ hk=>hk.2) (.slice Ao5 y171.length co5)) (fun _ hk=>trivial), hb1_ HB.out GE170.out⟩

/-! ### dispatch_sum: function 81 -/
def dispatch_sum.l0 : Nat → Int → List (S31) → Int → Int → Option (Int)
 | 0, _, _, _, _ => none
 | k + 1, x3, x6, x7, x8 => if x8 < x7 then (if 0 ≤ x8 then (if x8 < (x6.length : Int) then ((offer_Most.f k ((rd_T31 x6 x8).f0) ((rd_T31 x6 x8).f1)).bind fun t176 => (dispatch_sum.l0 k (wrap64 (x3 + t176)) x6 x7 (wrap64 (x8 + 1)))) else (none)) else (none)) else (some x3)
def dispatch_sum.f (k : Nat) (l0 : List (S31)) : Option (Int) := dispatch_sum.l0 k 0 l0 (l0.length : Int) 0
theorem dispatch_sum.mono_l : ∀ k, (∀ y0 y1 y2 y3, LeO (dispatch_sum.l0 k y0 y1 y2 y3) (dispatch_sum.l0 (k + 1) y0 y1 y2 y3))
 | 0 => fun _ _ _ _ r h => by simp [dispatch_sum.l0] at h
 | k + 1 => by
  have ih0:=dispatch_sum.mono_l k
  ·intro y0 y1 y2 y3
   unfold dispatch_sum.l0
   repeat' first|(with_reducible first|exact ih0 _ _ _ _|exact offer_Most.mono _ _ _|exact LeO.refl _|exact LeO.none _|refine LeO.ite ?_ ?_|refine LeO.bind ?_ (fun _=>?_))|exact ih0 _ _ _ _|exact offer_Most.mono _ _ _|exact LeO.none _|refine LeO.ite ?_ ?_|refine LeO.bind ?_ (fun _=>?_)
theorem dispatch_sum.mono : ∀ a0 k, LeO (dispatch_sum.f k a0) (dispatch_sum.f (k + 1) a0) := by
 intro a0 k
 have ih0:=dispatch_sum.mono_l k
 unfold dispatch_sum.f
 repeat' first|(with_reducible first|exact ih0 _ _ _ _|exact offer_Most.mono _ _ _|exact LeO.refl _|exact LeO.none _|refine LeO.ite ?_ ?_|refine LeO.bind ?_ (fun _=>?_))|exact ih0 _ _ _ _|exact offer_Most.mono _ _ _|exact LeO.none _|refine LeO.ite ?_ ?_|refine LeO.bind ?_ (fun _=>?_)
set_option maxHeartbeats 8000000 in
set_option maxRecDepth 100000 in
theorem dispatch_sum.calls (k : Nat) (A0 : Option Addr) (c0 : Nat) (l0 : List (S31)) (r : Int) (w : World) (hr0 : Kd.C k31 w A0 l0.length l0) (hc0 : l0.length ≤ c0) (h : dispatch_sum.f k l0 = some r) :
  Calls Try.prog 81 #[.slice A0 l0.length c0] w fun e w' => e = .returned (.int .i64 r) ∧ Below w.heap.size w w' := by
 have hu31:=Try.underlying31;have HR0:=k0_ hr0;have HC0:=k0_ hc0;clear hr0 hc0;have HB:=k0_ (Below.refl w.heap.size w);have H : (dispatch_sum.l0 k 0 l0 (l0.length : Int) 0) = some r:=h;clear h;have H':=k0_ H;clear H
 go_enter Try.func81, Try.ntmps81
 go_wp2;(try simp only [Act.put, q1_,q3_,q2_])
 go_loopg [3, 8] k (fun kq v3 v8 w'=>∃ (x3_1 : Int) (x8_1 : Int), v3 = .int .i64 x3_1∧v8 = .int .i64 x8_1∧Aside0 (dispatch_sum.l0 kq x3_1 l0 (l0.length : Int) x8_1 = some r)∧Aside0 (kq ≤ k)∧Aside0 (Below w.heap.size w w'))
 case atStart=>exact ⟨(0),(0),rs_,rs_, H', ⟨Nat.le_refl _⟩,⟨hb0_ HB.out⟩⟩
 clear H';obtain ⟨x3_1, x8_1, rfl, rfl, HA, HK1, HB⟩:=hrel;obtain _|k1:=gk
 ·exact absurd HA.out (by simp [dispatch_sum.l0])
 have H:=HA.out;clear HA;simp only [dispatch_sum.l0] at H
 by_cases c2 : x8_1 < (l0.length : Int)
 ·rw [if_pos c2] at H
  have c2b0:=decide_eq_true c2;clear c2
  obtain ⟨c3,H⟩:=gi_ H;have c3b0:=decide_eq_true c3;clear c3
  obtain ⟨c4,H⟩:=gi_ H;have c4b0:=decide_eq_true c4;clear c4;replace H:=Option.bind_eq_some_iff.mp H;obtain ⟨t176, A50, H⟩:=H;replace H : (dispatch_sum.l0 k1 (wrap64 (x3_1 + t176)) l0 (l0.length : Int) (wrap64 (x8_1 + 1))) = some r:=H;have A5:=k0_ A50;clear A50;have H':=k0_ H;clear H;have p174 : 0 ≤ (x8_1 : Int):=of_decide_eq_true as_;have q174 : x8_1 < (l0.length : Int):=of_decide_eq_true as_;obtain ⟨ad174, A174_1, c174_1, e174, hx174_0, hx174_1, hl174_1, hi174_1⟩:=at_T31 HR0.out x8_1 p174 q174;cases e174;replace hx174_0:=bt_ HB.out hx174_0;replace hx174_1:=bt_ HB.out hx174_1;have HR174_1:=k0_ hi174_1;have HC174_1:=k0_ hl174_1;clear hi174_1 hl174_1;replace p174:=eq_true p174;replace q174:=eq_true q174
  go_wp2_with (first|((with_reducible refine gate_dst (N:=5) rfl ?_);refine box_event ?hg (N:=5) ?hd (cs:=#[.string (⟨#[]⟩ : ByteArray), .slice none 0 0]) (t:=31) ?hr ?_;(case hd=>rfl);(case hg=>rfl);(case hr=>first|(go_simp;done)|(go_simp;rfl));intro gb175 hg w6 hbox hb;have BK175:=k0_ (hbox);have GW175:=k0_ ((by rw [hg];exact (below_size (hb0_ HB.out)) : w.heap.size ≤ gb175));have GE175:=k0_ ((by rw [hg];exact (below_size (hb0_ HB.out)) : w.heap.size ≤ gb175));replace HB:=k0_ (below_step (hb0_ HB.out) hb);clear hb hbox hg;obtain ⟨hcz7_0,hcz7_1⟩:=bc2_ BK175.out;obtain ⟨hfz7_0,hfz7_1⟩:=bf2_ BK175.out)|((with_reducible refine gate_callee (f:=36) rfl ?_);refine goesL_ (some 14) rfl rfl Try.func36 (by kernel_rfl) rfl #[.agg #[.string ((rd_T31 l0 x8_1).f0), .slice A174_1 ((rd_T31 l0 x8_1).f1).length c174_1]] rfl mt_ ?_;(with_reducible refine (offer_Most.calls k1 ((rd_T31 l0 x8_1).f0) _ _ ((rd_T31 l0 x8_1).f1) t176 _ ?side1 ?side2 A5.out).mono ?_);(case side1=>exact Kd.C_below HR174_1.out (hb1_ HB.out GE175.out));(case side2=>exact HC174_1.out);rintro e w8 ⟨rfl, hb⟩;refine ⟨_, rfl, ?_⟩;replace BK175:=k0_ (blk_below (g:=gb175) (o:=.cells #[.string ((rd_T31 l0 x8_1).f0), .slice A174_1 ((rd_T31 l0 x8_1).f1).length c174_1] 31 (0, 0)) (by (with_reducible repeat (first|refine blk_drewN ?_ _|refine blk_drew ?_|refine blk_alloc ?_ _));refine blk_put (cs:=#[.string ((rd_T31 l0 x8_1).f0), .slice none 0 0]) ?_ 1 _ rfl;(with_reducible repeat (first|refine blk_drewN ?_ _|refine blk_drew ?_|refine blk_alloc ?_ _));refine blk_put (cs:=#[.string (⟨#[]⟩ : ByteArray), .slice none 0 0]) ?_ 0 _ rfl;(with_reducible repeat (first|refine blk_drewN ?_ _|refine blk_drew ?_|refine blk_alloc ?_ _));exact BK175.out) hb);replace HB:=k0_ (below_step (hb1_ HB.out GE175.out) hb);(try clear hb);(try clear hb2);(try clear hk);(try clear hi)))
  go_roundg k1
  case measure=>have:=HK1.out;omega
  case rel=>exact ⟨(wrap64 (x3_1 + t176)),(wrap64 (x8_1 + 1)),rs_,rs_, H', ⟨by have:=HK1.out;omega⟩,⟨hb1_ HB.out GE175.out⟩⟩
 ·rw [if_neg c2] at H
  have c2b0:=decide_eq_false c2;clear c2;obtain rfl:=Option.some.inj H;go_wp2
  go_ret
  exact ⟨er_, hb0_ HB.out⟩

/-! ### dispatch_check: function 41 -/
def dispatch_check.j0 : Nat → List (S31) → Int → Bool → Option (Int)
 | 0, _, _, _ => none
 | k + 1, x0, x1, x16 => if x16 = true then (some 4) else ((dispatch_sum.f k x0).bind fun t178 => (if x1 > t178 then (some 8) else (some 0)))
def dispatch_check.f (k : Nat) (l0 : List (S31)) (a1 : Int) : Option (Int) := (offer_CheckAll.f k l0).bind fun t177 => (if t177 = 0 then (if a1 < 0 then (dispatch_check.j0 k l0 a1 true) else (dispatch_check.j0 k l0 a1 (decide (a1 > 1000000)))) else (some t177))
theorem dispatch_check.mono_l : ∀ k, (∀ y0 y1 y2, LeO (dispatch_check.j0 k y0 y1 y2) (dispatch_check.j0 (k + 1) y0 y1 y2))
 | 0 => fun _ _ _ r h => by simp [dispatch_check.j0] at h
 | k + 1 => by
  have ih0:=dispatch_check.mono_l k
  ·intro y0 y1 y2
   unfold dispatch_check.j0
   repeat' first|(with_reducible first|exact ih0 _ _ _|exact dispatch_sum.mono _ _|exact offer_CheckAll.mono _ _|exact LeO.refl _|exact LeO.none _|refine LeO.ite ?_ ?_|refine LeO.bind ?_ (fun _=>?_))|exact ih0 _ _ _|exact dispatch_sum.mono _ _|exact offer_CheckAll.mono _ _|exact LeO.none _|refine LeO.ite ?_ ?_|refine LeO.bind ?_ (fun _=>?_)
theorem dispatch_check.mono : ∀ a0 a1 k, LeO (dispatch_check.f k a0 a1) (dispatch_check.f (k + 1) a0 a1) := by
 intro a0 a1 k
 have ih0:=dispatch_check.mono_l k
 unfold dispatch_check.f
 repeat' first|(with_reducible first|exact ih0 _ _ _|exact dispatch_sum.mono _ _|exact offer_CheckAll.mono _ _|exact LeO.refl _|exact LeO.none _|refine LeO.ite ?_ ?_|refine LeO.bind ?_ (fun _=>?_))|exact ih0 _ _ _|exact dispatch_sum.mono _ _|exact offer_CheckAll.mono _ _|exact LeO.none _|refine LeO.ite ?_ ?_|refine LeO.bind ?_ (fun _=>?_)
set_option maxHeartbeats 8000000 in
set_option maxRecDepth 100000 in
theorem dispatch_check.calls (k : Nat) (A0 : Option Addr) (c0 : Nat) (l0 : List (S31)) (a1 : Int) (r : Int) (w : World) (hr0 : Kd.C k31 w A0 l0.length l0) (hc0 : l0.length ≤ c0) (h : dispatch_check.f k l0 a1 = some r) :
  Calls Try.prog 41 #[.slice A0 l0.length c0, .int .i64 a1] w fun e w' => e = .returned (.int .i64 r) ∧ Below w.heap.size w w' := by
 have HR0:=k0_ hr0;have HC0:=k0_ hc0;clear hr0 hc0;have HB:=k0_ (Below.refl w.heap.size w);have H : ((offer_CheckAll.f k l0).bind fun t177=>(if t177 = 0 then (if a1 < 0 then (dispatch_check.j0 k l0 a1 true) else (dispatch_check.j0 k l0 a1 (decide (a1 > 1000000)))) else (some t177))) = some r:=h;clear h;replace H:=Option.bind_eq_some_iff.mp H;obtain ⟨t177, A30, H⟩:=H;replace H : (if t177 = 0 then (if a1 < 0 then (dispatch_check.j0 k l0 a1 true) else (dispatch_check.j0 k l0 a1 (decide (a1 > 1000000)))) else (some t177)) = some r:=H;have A3:=k0_ A30;clear A30
 by_cases c4 : t177 = 0
 ·rw [if_pos c4] at H
  have c4b0:=beq_iff_eq.mpr c4;have c4b1:=bne_eq_false_iff_eq.mpr c4;clear c4;have HC5:=k0_ H;clear H
  go_enter Try.func41, Try.ntmps41
  go_upto_region 4 with (first|((with_reducible refine gate_callee (f:=35) rfl ?_);refine goesL_ (some 7) rfl rfl Try.func35 (by kernel_rfl) rfl #[.slice A0 l0.length c0] rfl mt_ ?_;(with_reducible refine (offer_CheckAll.calls k _ _ l0 t177 _ ?side1 ?side2 A3.out).mono ?_);(case side1=>repeat (first|exact HR0.out|(with_reducible refine Kd.C_alloc ?_ _)|(with_reducible refine Kd.C_drewN ?_ _)|(with_reducible refine Kd.C_drew ?_)));(case side2=>exact HC0.out);rintro e w6 ⟨rfl, hb⟩;refine ⟨_, rfl, ?_⟩;replace HB:=k0_ (below_step (hb0_ HB.out) hb);(try clear hb);(try clear hb2);(try clear hk);(try clear hi)))
  (try simp only [Act.put, q1_,q2_,q3_])
  go_cut [16] (fun v16 wc=>∃ (kq : Nat) (x16_4 : Bool), v16 = .bool x16_4∧Aside0 (dispatch_check.j0 kq l0 a1 x16_4 = some r)∧Aside0 (kq ≤ k)∧Aside0 (Below w.heap.size w wc))
  case first =>
   have H:=HC5.out;clear HC5
   by_cases c7 : a1 < 0
   ·rw [if_pos c7] at H
    have c7b0:=decide_eq_true c7;clear c7;(first|rw [c7b0]|(simp only [i64_w, i32_w];rw [c7b0])|skip);have H':=k0_ H;clear H;go_wp2
    go_meet
    case rel=>exact ⟨_, (true),rs_, H', ⟨by first|omega|exact Nat.le_refl _⟩,⟨hb0_ HB.out⟩⟩
   ·rw [if_neg c7] at H
    have c7b0:=decide_eq_false c7;clear c7;(first|rw [c7b0]|(simp only [i64_w, i32_w];rw [c7b0])|skip);have H':=k0_ H;clear H;go_wp2
    go_meet
    case rel=>exact ⟨_, (decide (a1 > 1000000)),rs_, H', ⟨by first|omega|exact Nat.le_refl _⟩,⟨hb0_ HB.out⟩⟩
  clear HC5;(try clear p2);(try clear c3);(try clear c4);(try clear c4b0);(try clear c4b1);(try clear c7);(try clear c7b0);obtain ⟨kq, x16_4, rfl, HA, HJ4, HB⟩:=hcut;obtain _|kj4:=kq
  ·exact absurd HA.out (by simp [dispatch_check.j0])
  have H:=HA.out;clear HA;simp only [dispatch_check.j0] at H
  by_cases c8 : x16_4 = true
  ·subst c8
   have H1 : (some 4) = some r:=by rw [if_pos rfl] at H;exact H
   clear H;have H:=H1;clear H1;obtain rfl:=Option.some.inj H;go_wp2
   go_ret
   exact ⟨er_, hb0_ HB.out⟩
  ·replace c8:=Bool.eq_false_iff.mpr c8
   subst c8;have H1 : ((dispatch_sum.f kj4 l0).bind fun t178=>(if a1 > t178 then (some 8) else (some 0))) = some r:=by rw [if_neg (show ¬ (false = true) by decide)] at H;exact H
   clear H;have H:=H1;clear H1;replace H:=Option.bind_eq_some_iff.mp H;obtain ⟨t178, A90, H⟩:=H;replace H : (if a1 > t178 then (some 8) else (some 0)) = some r:=H;have A9:=k0_ A90;clear A90
   by_cases c10 : a1 > t178
   ·rw [if_pos c10] at H
    have c10b0:=decide_eq_true c10;clear c10;obtain rfl:=Option.some.inj H
    go_wp2_with (first|((with_reducible refine gate_callee (f:=81) rfl ?_);refine goesL_ (some 19) rfl rfl Try.func81 (by kernel_rfl) rfl #[.slice A0 l0.length c0] rfl mt_ ?_;(with_reducible refine (dispatch_sum.calls kj4 _ _ l0 t178 _ ?side1 ?side2 A9.out).mono ?_);(case side1=>repeat (first|exact (Kd.C_below HR0.out HB.out)|(with_reducible refine Kd.C_alloc ?_ _)|(with_reducible refine Kd.C_drewN ?_ _)|(with_reducible refine Kd.C_drew ?_)));(case side2=>exact HC0.out);rintro e w11 ⟨rfl, hb⟩;refine ⟨_, rfl, ?_⟩;replace HB:=k0_ (below_step (hb0_ HB.out) hb);(try clear hb);(try clear hb2);(try clear hk);(try clear hi)))
    go_ret
    exact ⟨er_, hb0_ HB.out⟩
   ·rw [if_neg c10] at H
    have c10b0:=decide_eq_false c10;clear c10;obtain rfl:=Option.some.inj H
    go_wp2_with (first|((with_reducible refine gate_callee (f:=81) rfl ?_);refine goesL_ (some 19) rfl rfl Try.func81 (by kernel_rfl) rfl #[.slice A0 l0.length c0] rfl mt_ ?_;(with_reducible refine (dispatch_sum.calls kj4 _ _ l0 t178 _ ?side1 ?side2 A9.out).mono ?_);(case side1=>repeat (first|exact (Kd.C_below HR0.out HB.out)|(with_reducible refine Kd.C_alloc ?_ _)|(with_reducible refine Kd.C_drewN ?_ _)|(with_reducible refine Kd.C_drew ?_)));(case side2=>exact HC0.out);rintro e w12 ⟨rfl, hb⟩;refine ⟨_, rfl, ?_⟩;replace HB:=k0_ (below_step (hb0_ HB.out) hb);(try clear hb);(try clear hb2);(try clear hk);(try clear hi)))
    go_ret
    exact ⟨er_, hb0_ HB.out⟩
 ·rw [if_neg c4] at H
  have c4b0:=beq_eq_false_iff_ne.mpr c4;have c4b1:=bne_iff_ne.mpr c4;obtain rfl:=Option.some.inj H
  go_enter Try.func41, Try.ntmps41
  go_wp2_with (first|((with_reducible refine gate_callee (f:=35) rfl ?_);refine goesL_ (some 7) rfl rfl Try.func35 (by kernel_rfl) rfl #[.slice A0 l0.length c0] rfl mt_ ?_;(with_reducible refine (offer_CheckAll.calls k _ _ l0 t177 _ ?side1 ?side2 A3.out).mono ?_);(case side1=>repeat (first|exact HR0.out|(with_reducible refine Kd.C_alloc ?_ _)|(with_reducible refine Kd.C_drewN ?_ _)|(with_reducible refine Kd.C_drew ?_)));(case side2=>exact HC0.out);rintro e w13 ⟨rfl, hb⟩;refine ⟨_, rfl, ?_⟩;replace HB:=k0_ (below_step (hb0_ HB.out) hb);(try clear hb);(try clear hb2);(try clear hk);(try clear hi)))
  go_ret
  exact ⟨er_, hb0_ HB.out⟩

/-! ### dispatch_offered: function 43 -/
mutual
def dispatch_offered.l0 : Nat → Int → Bool → Int → List (S31) → Int → Int → Option (Int)
 | 0, _, _, _, _, _, _ => none
 | k + 1, x1, x2, x7, x12, x13, x14 => if x14 < x13 then (if 0 ≤ x14 then (if x14 < (x12.length : Int) then (dispatch_offered.l1 k x1 x2 x7 x12 x13 x14 ((rd_T31 x12 x14).f1) (((rd_T31 x12 x14).f1).length : Int) 0) else (none)) else (none)) else (some x7)
def dispatch_offered.l1 : Nat → Int → Bool → Int → List (S31) → Int → Int → List (S96) → Int → Int → Option (Int)
 | 0, _, _, _, _, _, _, _, _, _ => none
 | k + 1, x1, x2, x7, x12, x13, x14, x19, x20, x21 => if x21 < x20 then (if 0 ≤ x21 then (if x21 < (x19.length : Int) then (if ((rd_T96 x19 x21).f1) < x1 then (dispatch_offered.l1 k x1 x2 (wrap64 (x7 + ((rd_T96 x19 x21).f0))) x12 x13 x14 x19 x20 (wrap64 (x21 + 1))) else (if x2 = true then (if ((rd_T96 x19 x21).f1) = x1 then (dispatch_offered.l1 k x1 x2 (wrap64 (x7 + ((rd_T96 x19 x21).f0))) x12 x13 x14 x19 x20 (wrap64 (x21 + 1))) else (dispatch_offered.l1 k x1 x2 x7 x12 x13 x14 x19 x20 (wrap64 (x21 + 1)))) else (dispatch_offered.l1 k x1 x2 x7 x12 x13 x14 x19 x20 (wrap64 (x21 + 1))))) else (none)) else (none)) else (dispatch_offered.l0 k x1 x2 x7 x12 x13 (wrap64 (x14 + 1)))
end
def dispatch_offered.f (k : Nat) (l0 : List (S31)) (a1 : Int) (a2 : Bool) : Option (Int) := dispatch_offered.l0 k a1 a2 0 l0 (l0.length : Int) 0
theorem dispatch_offered.mono_l : ∀ k, (∀ y0 y1 y2 y3 y4 y5, LeO (dispatch_offered.l0 k y0 y1 y2 y3 y4 y5) (dispatch_offered.l0 (k + 1) y0 y1 y2 y3 y4 y5)) ∧ (∀ y0 y1 y2 y3 y4 y5 y6 y7 y8, LeO (dispatch_offered.l1 k y0 y1 y2 y3 y4 y5 y6 y7 y8) (dispatch_offered.l1 (k + 1) y0 y1 y2 y3 y4 y5 y6 y7 y8))
 | 0 => ⟨fun _ _ _ _ _ _ r h => by simp [dispatch_offered.l0] at h, fun _ _ _ _ _ _ _ _ _ r h => by simp [dispatch_offered.l1] at h⟩
 | k + 1 => by
  obtain ⟨ih0, ih1⟩:=dispatch_offered.mono_l k
  refine ⟨?_, ?_⟩
  ·intro y0 y1 y2 y3 y4 y5
   unfold dispatch_offered.l0
   repeat' first|(with_reducible first|exact ih0 _ _ _ _ _ _|exact ih1 _ _ _ _ _ _ _ _ _|exact LeO.refl _|exact LeO.none _|refine LeO.ite ?_ ?_|refine LeO.bind ?_ (fun _=>?_))|exact ih0 _ _ _ _ _ _|exact ih1 _ _ _ _ _ _ _ _ _|exact LeO.none _|refine LeO.ite ?_ ?_|refine LeO.bind ?_ (fun _=>?_)
  ·intro y0 y1 y2 y3 y4 y5 y6 y7 y8
   unfold dispatch_offered.l1
   repeat' first|(with_reducible first|exact ih0 _ _ _ _ _ _|exact ih1 _ _ _ _ _ _ _ _ _|exact LeO.refl _|exact LeO.none _|refine LeO.ite ?_ ?_|refine LeO.bind ?_ (fun _=>?_))|exact ih0 _ _ _ _ _ _|exact ih1 _ _ _ _ _ _ _ _ _|exact LeO.none _|refine LeO.ite ?_ ?_|refine LeO.bind ?_ (fun _=>?_)
theorem dispatch_offered.mono : ∀ a0 a1 a2 k, LeO (dispatch_offered.f k a0 a1 a2) (dispatch_offered.f (k + 1) a0 a1 a2) := by
 intro a0 a1 a2 k
 obtain ⟨ih0, ih1⟩:=dispatch_offered.mono_l k
 unfold dispatch_offered.f
 repeat' first|(with_reducible first|exact ih0 _ _ _ _ _ _|exact ih1 _ _ _ _ _ _ _ _ _|exact LeO.refl _|exact LeO.none _|refine LeO.ite ?_ ?_|refine LeO.bind ?_ (fun _=>?_))|exact ih0 _ _ _ _ _ _|exact ih1 _ _ _ _ _ _ _ _ _|exact LeO.none _|refine LeO.ite ?_ ?_|refine LeO.bind ?_ (fun _=>?_)
set_option maxHeartbeats 8000000 in
set_option maxRecDepth 100000 in
theorem dispatch_offered.calls (k : Nat) (A0 : Option Addr) (c0 : Nat) (l0 : List (S31)) (a1 : Int) (a2 : Bool) (r : Int) (w : World) (hr0 : Kd.C k31 w A0 l0.length l0) (hc0 : l0.length ≤ c0) (h : dispatch_offered.f k l0 a1 a2 = some r) :
  Calls Try.prog 43 #[.slice A0 l0.length c0, .int .i64 a1, .bool a2] w fun e w' => e = .returned (.int .i64 r) ∧ Below w.heap.size w w' := by
 have hu31:=Try.underlying31;have hu96:=Try.underlying96;have HR0:=k0_ hr0;have HC0:=k0_ hc0;clear hr0 hc0;have HB:=k0_ (Below.refl w.heap.size w);have H : (dispatch_offered.l0 k a1 a2 0 l0 (l0.length : Int) 0) = some r:=h;clear h;have H':=k0_ H;clear H
 go_enter Try.func43, Try.ntmps43
 go_wp2;(try simp only [Act.put, q1_,q3_,q2_])
 go_loopg [7, 14] k (fun kq v7 v14 w'=>∃ (x7_1 : Int) (x14_1 : Int), v7 = .int .i64 x7_1∧v14 = .int .i64 x14_1∧Aside0 (dispatch_offered.l0 kq a1 a2 x7_1 l0 (l0.length : Int) x14_1 = some r)∧Aside0 (kq ≤ k)∧Aside0 (Below w.heap.size w w'))
 case atStart=>exact ⟨(0),(0),rs_,rs_, H', ⟨Nat.le_refl _⟩,⟨hb0_ HB.out⟩⟩
 clear H';(try clear p2);obtain ⟨x7_1, x14_1, rfl, rfl, HA, HK1, HB⟩:=hrel;obtain _|k1:=gk
 ·exact absurd HA.out (by simp [dispatch_offered.l0])
 have H:=HA.out;clear HA;simp only [dispatch_offered.l0] at H
 by_cases c4 : x14_1 < (l0.length : Int)
 ·rw [if_pos c4] at H
  have c4b0:=decide_eq_true c4;clear c4
  obtain ⟨c5,H⟩:=gi_ H;have c5b0:=decide_eq_true c5;clear c5
  obtain ⟨c6,H⟩:=gi_ H;have c6b0:=decide_eq_true c6;clear c6;have H':=k0_ H;clear H;have p179 : 0 ≤ (x14_1 : Int):=of_decide_eq_true as_;have q179 : x14_1 < (l0.length : Int):=of_decide_eq_true as_;obtain ⟨ad179, A179_1, c179_1, e179, hx179_0, hx179_1, hl179_1, hi179_1⟩:=at_T31 HR0.out x14_1 p179 q179;cases e179;replace hx179_0:=bt_ HB.out hx179_0;replace hx179_1:=bt_ HB.out hx179_1;have HR179_1:=k0_ hi179_1;have HC179_1:=k0_ hl179_1;clear hi179_1 hl179_1;replace p179:=eq_true p179;replace q179:=eq_true q179
  go_wp2_with (first|((with_reducible refine gate_dst (N:=9) rfl ?_);refine box_event ?hg (N:=9) ?hd (cs:=#[.string (⟨#[]⟩ : ByteArray), .slice none 0 0]) (t:=31) ?hr ?_;(case hd=>rfl);(case hg=>rfl);(case hr=>first|(go_simp;done)|(go_simp;rfl));intro gb180 hg w7 hbox hb;have BK180:=k0_ (hbox);have GW180:=k0_ ((by rw [hg];exact (below_size (hb0_ HB.out)) : w.heap.size ≤ gb180));have GE180:=k0_ ((by rw [hg];exact (below_size (hb0_ HB.out)) : w.heap.size ≤ gb180));replace HB:=k0_ (below_step (hb0_ HB.out) hb);clear hb hbox hg;obtain ⟨hcz8_0,hcz8_1⟩:=bc2_ BK180.out;obtain ⟨hfz8_0,hfz8_1⟩:=bf2_ BK180.out))
  (try simp only [Act.put, q1_,q3_,q2_])
  go_loopg [7, 21] k1 (fun kq v7 v21 w'=>∃ (x7_2 : Int) (x21_2 : Int), v7 = .int .i64 x7_2∧v21 = .int .i64 x21_2∧Aside0 (dispatch_offered.l1 kq a1 a2 x7_2 l0 (l0.length : Int) x14_1 ((rd_T31 l0 x14_1).f1) (((rd_T31 l0 x14_1).f1).length : Int) x21_2 = some r)∧Aside0 (kq ≤ k1)∧Aside0 (w'.heap[gb180]? = some (.cells #[.string ((rd_T31 l0 x14_1).f0),(.slice A179_1 ((rd_T31 l0 x14_1).f1).length c179_1)] 31 (0, 0)))∧Aside0 (Below w.heap.size w w'))
  case atStart=>exact ⟨(x7_1),(0),rs_,rs_, H', ⟨Nat.le_refl _⟩,⟨by (with_reducible repeat (first|refine blk_drewN ?_ _|refine blk_drew ?_|refine blk_alloc ?_ _));refine blk_put (cs:=#[.string ((rd_T31 l0 x14_1).f0), .slice none 0 0]) ?_ 1 _ rfl;(with_reducible repeat (first|refine blk_drewN ?_ _|refine blk_drew ?_|refine blk_alloc ?_ _));refine blk_put (cs:=#[.string (⟨#[]⟩ : ByteArray), .slice none 0 0]) ?_ 0 _ rfl;(with_reducible repeat (first|refine blk_drewN ?_ _|refine blk_drew ?_|refine blk_alloc ?_ _));exact BK180.out⟩,⟨hb1_ HB.out GE180.out⟩⟩
  clear H';(try clear c1);(try clear p1);(try clear q1);(try clear hx1);(try clear p2);(try clear c4);(try clear c4b0);(try clear c5);(try clear c5b0);(try clear c6);(try clear c6b0);(try clear hcz8_0);(try clear hcz8_1);(try clear hfz8_0);(try clear hfz8_1);(try clear hx179_0);(try clear hx179_1);(try clear p179);(try clear p2);(try clear q179);obtain ⟨x7_2, x21_2, rfl, rfl, HA, HK2, BK180, HB⟩:=hrel;obtain _|k2:=gk
  ·exact absurd HA.out (by simp [dispatch_offered.l1])
  have H:=HA.out;clear HA;simp only [dispatch_offered.l1] at H
  by_cases c9 : x21_2 < (((rd_T31 l0 x14_1).f1).length : Int)
  ·rw [if_pos c9] at H
   have c9b0:=decide_eq_true c9;clear c9
   by_cases c10 : 0 ≤ x21_2
   rw [if_pos c10] at H;have c10b0:=decide_eq_true c10;clear c10
   focus
    by_cases c11 : x21_2 < (((rd_T31 l0 x14_1).f1).length : Int)
    rw [if_pos c11] at H;have c11b0:=decide_eq_true c11;clear c11
    focus
     by_cases c12 : ((rd_T96 ((rd_T31 l0 x14_1).f1) x21_2).f1) < a1
     rw [if_pos c12] at H;have c12b0:=decide_eq_true c12;clear c12;have H':=k0_ H;clear H;rotate_left;rw [if_neg c12] at H;have c12b0:=decide_eq_false c12;clear c12
     focus
      by_cases c16 : a2 = true
      subst c16;have H1 : (if ((rd_T96 ((rd_T31 l0 x14_1).f1) x21_2).f1) = a1 then (dispatch_offered.l1 k2 a1 true (wrap64 (x7_2 + ((rd_T96 ((rd_T31 l0 x14_1).f1) x21_2).f0))) l0 (l0.length : Int) x14_1 ((rd_T31 l0 x14_1).f1) (((rd_T31 l0 x14_1).f1).length : Int) (wrap64 (x21_2 + 1))) else (dispatch_offered.l1 k2 a1 true x7_2 l0 (l0.length : Int) x14_1 ((rd_T31 l0 x14_1).f1) (((rd_T31 l0 x14_1).f1).length : Int) (wrap64 (x21_2 + 1)))) = some r:=by rw [if_pos rfl] at H;exact H
      clear H;have H:=H1;clear H1
      focus
       by_cases c17 : ((rd_T96 ((rd_T31 l0 x14_1).f1) x21_2).f1) = a1
       rw [if_pos c17] at H;have c17b0:=beq_iff_eq.mpr c17;have c17b1:=bne_eq_false_iff_eq.mpr c17;clear c17;have H':=k0_ H;clear H;rotate_left;rw [if_neg c17] at H;have c17b0:=beq_eq_false_iff_ne.mpr c17;have c17b1:=bne_iff_ne.mpr c17;have H':=k0_ H;clear H;rotate_left
      rotate_left 2;replace c16:=Bool.eq_false_iff.mpr c16;subst c16;have H1 : (dispatch_offered.l1 k2 a1 false x7_2 l0 (l0.length : Int) x14_1 ((rd_T31 l0 x14_1).f1) (((rd_T31 l0 x14_1).f1).length : Int) (wrap64 (x21_2 + 1))) = some r:=by rw [if_neg (show ¬ (false = true) by decide)] at H;exact H
      clear H;have H:=H1;clear H1;have H':=k0_ H;clear H;rotate_left
     rotate_left 3
    rotate_left 4;rw [if_neg c11] at H
    exact absurd H (by simp)
   rotate_left 4;rw [if_neg c10] at H
   exact absurd H (by simp)
   all_goals
    have p181 : 0 ≤ (x21_2 : Int):=of_decide_eq_true as_;have q181 : x21_2 < (((rd_T31 l0 x14_1).f1).length : Int):=of_decide_eq_true as_;obtain ⟨ad181, e181, hx181_0, hx181_1⟩:=at_T96 HR179_1.out x21_2 p181 q181;cases e181;replace hx181_0:=bt_ HB.out hx181_0;replace hx181_1:=bt_ HB.out hx181_1;replace p181:=eq_true p181;replace q181:=eq_true q181
    go_wp2_with (first|((with_reducible refine gate_dst (N:=11) rfl ?_);refine box_event ?hg (N:=11) ?hd (cs:=#[.int .i64 0, .int .i64 0]) (t:=96) ?hr ?_;(case hd=>rfl);(case hg=>rfl);(case hr=>first|(go_simp;done)|(go_simp;rfl));intro gb182 hg w13 hbox hb;have BK182:=k0_ (hbox);have GW182:=k0_ ((by rw [hg];exact (below_size (hb1_ HB.out GE180.out)) : w.heap.size ≤ gb182));have GE182:=k0_ ((by rw [hg];exact (below_size (hb1_ HB.out GE180.out)) : w.heap.size ≤ gb182));replace HB:=k0_ (below_step (hb1_ HB.out GE180.out) hb);have NB180_182:=k0_ ((by rw [hg];exact Nat.ne_of_lt (blk_lt (g:=gb180) (o:=.cells #[.string ((rd_T31 l0 x14_1).f0), .slice (some ad181) ((rd_T31 l0 x14_1).f1).length c179_1] 31 (0, 0)) (bq_ BK180.out)) : gb180 ≠ gb182));have NB182_180:=k0_ ((by rw [hg];exact Nat.ne_of_gt (blk_lt (g:=gb180) (o:=.cells #[.string ((rd_T31 l0 x14_1).f0), .slice (some ad181) ((rd_T31 l0 x14_1).f1).length c179_1] 31 (0, 0)) (bq_ BK180.out)) : gb182 ≠ gb180));replace BK180:=k0_ (blk_below (g:=gb180) (o:=.cells #[.string ((rd_T31 l0 x14_1).f0), .slice (some ad181) ((rd_T31 l0 x14_1).f1).length c179_1] 31 (0, 0)) (bq_ BK180.out) hb);clear hb hbox hg;have hnb14:=NB182_180.out;have hnc14:=NB180_182.out;obtain ⟨hcz15_0,hcz15_1⟩:=bc2_ BK182.out;obtain ⟨hfz15_0,hfz15_1⟩:=bf2_ BK182.out))
   ·go_roundg k2
    case measure=>have:=HK1.out;have:=HK2.out;omega
    case rel=>exact ⟨(wrap64 (x7_2 + ((rd_T96 ((rd_T31 l0 x14_1).f1) x21_2).f0))),(wrap64 (x21_2 + 1)),rs_,rs_, H', ⟨by have:=HK1.out;have:=HK2.out;omega⟩,⟨by (with_reducible repeat (first|refine blk_drewN ?_ _|refine blk_drew ?_|refine blk_alloc ?_ _));refine blk_far ?_ NB180_182.out _;(with_reducible repeat (first|refine blk_drewN ?_ _|refine blk_drew ?_|refine blk_alloc ?_ _));refine blk_far ?_ NB180_182.out _;(with_reducible repeat (first|refine blk_drewN ?_ _|refine blk_drew ?_|refine blk_alloc ?_ _));exact BK180.out⟩,⟨hb2_ HB.out GE180.out GE182.out⟩⟩
   ·go_roundg k2
    case measure=>have:=HK1.out;have:=HK2.out;omega
    case rel=>exact ⟨(wrap64 (x7_2 + ((rd_T96 ((rd_T31 l0 x14_1).f1) x21_2).f0))),(wrap64 (x21_2 + 1)),rs_,rs_, H', ⟨by have:=HK1.out;have:=HK2.out;omega⟩,⟨by (with_reducible repeat (first|refine blk_drewN ?_ _|refine blk_drew ?_|refine blk_alloc ?_ _));refine blk_far ?_ NB180_182.out _;(with_reducible repeat (first|refine blk_drewN ?_ _|refine blk_drew ?_|refine blk_alloc ?_ _));refine blk_far ?_ NB180_182.out _;(with_reducible repeat (first|refine blk_drewN ?_ _|refine blk_drew ?_|refine blk_alloc ?_ _));exact BK180.out⟩,⟨hb2_ HB.out GE180.out GE182.out⟩⟩
   ·go_roundg k2
    case measure=>have:=HK1.out;have:=HK2.out;omega
    case rel=>exact ⟨(x7_2),(wrap64 (x21_2 + 1)),rs_,rs_, H', ⟨by have:=HK1.out;have:=HK2.out;omega⟩,⟨by (with_reducible repeat (first|refine blk_drewN ?_ _|refine blk_drew ?_|refine blk_alloc ?_ _));refine blk_far ?_ NB180_182.out _;(with_reducible repeat (first|refine blk_drewN ?_ _|refine blk_drew ?_|refine blk_alloc ?_ _));refine blk_far ?_ NB180_182.out _;(with_reducible repeat (first|refine blk_drewN ?_ _|refine blk_drew ?_|refine blk_alloc ?_ _));exact BK180.out⟩,⟨hb2_ HB.out GE180.out GE182.out⟩⟩
   ·go_roundg k2
    case measure=>have:=HK1.out;have:=HK2.out;omega
    case rel=>exact ⟨(x7_2),(wrap64 (x21_2 + 1)),rs_,rs_, H', ⟨by have:=HK1.out;have:=HK2.out;omega⟩,⟨by (with_reducible repeat (first|refine blk_drewN ?_ _|refine blk_drew ?_|refine blk_alloc ?_ _));refine blk_far ?_ NB180_182.out _;(with_reducible repeat (first|refine blk_drewN ?_ _|refine blk_drew ?_|refine blk_alloc ?_ _));refine blk_far ?_ NB180_182.out _;(with_reducible repeat (first|refine blk_drewN ?_ _|refine blk_drew ?_|refine blk_alloc ?_ _));exact BK180.out⟩,⟨hb2_ HB.out GE180.out GE182.out⟩⟩
  ·rw [if_neg c9] at H
   have c9b0:=decide_eq_false c9;clear c9;have H':=k0_ H;clear H;go_wp2
   go_roundg k2
   case measure=>have:=HK1.out;have:=HK2.out;omega
   case rel=>exact ⟨(x7_2),(wrap64 (x14_1 + 1)),rs_,rs_, H', ⟨by have:=HK1.out;have:=HK2.out;omega⟩,⟨hb1_ HB.out GE180.out⟩⟩
 ·rw [if_neg c4] at H
  have c4b0:=decide_eq_false c4;clear c4;obtain rfl:=Option.some.inj H;go_wp2
  go_ret
  exact ⟨er_, hb0_ HB.out⟩

/-! ### dispatch_marginal: function 42 -/
mutual
def dispatch_marginal.l0 : Nat → List (S31) → Int → Int → List (S31) → Int → Int → Option (Int)
 | 0, _, _, _, _, _, _ => none
 | k + 1, x0, x1, x5, x10, x11, x12 => if x12 < x11 then (if 0 ≤ x12 then (if x12 < (x10.length : Int) then (dispatch_marginal.l1 k x0 x1 x5 x10 x11 x12 ((rd_T31 x10 x12).f1) (((rd_T31 x10 x12).f1).length : Int) 0) else (none)) else (none)) else (some x5)
def dispatch_marginal.l1 : Nat → List (S31) → Int → Int → List (S31) → Int → Int → List (S96) → Int → Int → Option (Int)
 | 0, _, _, _, _, _, _, _, _, _ => none
 | k + 1, x0, x1, x5, x10, x11, x12, x17, x18, x19 => if x19 < x18 then (if 0 ≤ x19 then (if x19 < (x17.length : Int) then (if ((rd_T96 x17 x19).f1) < x5 then ((dispatch_offered.f k x0 ((rd_T96 x17 x19).f1) true).bind fun t187 => (if t187 ≥ x1 then (dispatch_marginal.l1 k x0 x1 ((rd_T96 x17 x19).f1) x10 x11 x12 x17 x18 (wrap64 (x19 + 1))) else (dispatch_marginal.l1 k x0 x1 x5 x10 x11 x12 x17 x18 (wrap64 (x19 + 1))))) else (dispatch_marginal.l1 k x0 x1 x5 x10 x11 x12 x17 x18 (wrap64 (x19 + 1)))) else (none)) else (none)) else (dispatch_marginal.l0 k x0 x1 x5 x10 x11 (wrap64 (x12 + 1)))
end
def dispatch_marginal.f (k : Nat) (l0 : List (S31)) (a1 : Int) : Option (Int) := dispatch_marginal.l0 k l0 a1 2000000 l0 (l0.length : Int) 0
theorem dispatch_marginal.mono_l : ∀ k, (∀ y0 y1 y2 y3 y4 y5, LeO (dispatch_marginal.l0 k y0 y1 y2 y3 y4 y5) (dispatch_marginal.l0 (k + 1) y0 y1 y2 y3 y4 y5)) ∧ (∀ y0 y1 y2 y3 y4 y5 y6 y7 y8, LeO (dispatch_marginal.l1 k y0 y1 y2 y3 y4 y5 y6 y7 y8) (dispatch_marginal.l1 (k + 1) y0 y1 y2 y3 y4 y5 y6 y7 y8))
 | 0 => ⟨fun _ _ _ _ _ _ r h => by simp [dispatch_marginal.l0] at h, fun _ _ _ _ _ _ _ _ _ r h => by simp [dispatch_marginal.l1] at h⟩
 | k + 1 => by
  obtain ⟨ih0, ih1⟩:=dispatch_marginal.mono_l k
  refine ⟨?_, ?_⟩
  ·intro y0 y1 y2 y3 y4 y5
   unfold dispatch_marginal.l0
   repeat' first|(with_reducible first|exact ih0 _ _ _ _ _ _|exact ih1 _ _ _ _ _ _ _ _ _|exact dispatch_offered.mono _ _ _ _|exact LeO.refl _|exact LeO.none _|refine LeO.ite ?_ ?_|refine LeO.bind ?_ (fun _=>?_))|exact ih0 _ _ _ _ _ _|exact ih1 _ _ _ _ _ _ _ _ _|exact dispatch_offered.mono _ _ _ _|exact LeO.none _|refine LeO.ite ?_ ?_|refine LeO.bind ?_ (fun _=>?_)
  ·intro y0 y1 y2 y3 y4 y5 y6 y7 y8
   unfold dispatch_marginal.l1
   repeat' first|(with_reducible first|exact ih0 _ _ _ _ _ _|exact ih1 _ _ _ _ _ _ _ _ _|exact dispatch_offered.mono _ _ _ _|exact LeO.refl _|exact LeO.none _|refine LeO.ite ?_ ?_|refine LeO.bind ?_ (fun _=>?_))|exact ih0 _ _ _ _ _ _|exact ih1 _ _ _ _ _ _ _ _ _|exact dispatch_offered.mono _ _ _ _|exact LeO.none _|refine LeO.ite ?_ ?_|refine LeO.bind ?_ (fun _=>?_)
theorem dispatch_marginal.mono : ∀ a0 a1 k, LeO (dispatch_marginal.f k a0 a1) (dispatch_marginal.f (k + 1) a0 a1) := by
 intro a0 a1 k
 obtain ⟨ih0, ih1⟩:=dispatch_marginal.mono_l k
 unfold dispatch_marginal.f
 repeat' first|(with_reducible first|exact ih0 _ _ _ _ _ _|exact ih1 _ _ _ _ _ _ _ _ _|exact dispatch_offered.mono _ _ _ _|exact LeO.refl _|exact LeO.none _|refine LeO.ite ?_ ?_|refine LeO.bind ?_ (fun _=>?_))|exact ih0 _ _ _ _ _ _|exact ih1 _ _ _ _ _ _ _ _ _|exact dispatch_offered.mono _ _ _ _|exact LeO.none _|refine LeO.ite ?_ ?_|refine LeO.bind ?_ (fun _=>?_)
set_option maxHeartbeats 8000000 in
set_option maxRecDepth 100000 in
theorem dispatch_marginal.calls (k : Nat) (A0 : Option Addr) (c0 : Nat) (l0 : List (S31)) (a1 : Int) (r : Int) (w : World) (hr0 : Kd.C k31 w A0 l0.length l0) (hc0 : l0.length ≤ c0) (h : dispatch_marginal.f k l0 a1 = some r) :
  Calls Try.prog 42 #[.slice A0 l0.length c0, .int .i64 a1] w fun e w' => e = .returned (.int .i64 r) ∧ Below w.heap.size w w' := by
 have hu31:=Try.underlying31;have hu96:=Try.underlying96;have HR0:=k0_ hr0;have HC0:=k0_ hc0;clear hr0 hc0;have HB:=k0_ (Below.refl w.heap.size w);have H : (dispatch_marginal.l0 k l0 a1 2000000 l0 (l0.length : Int) 0) = some r:=h;clear h;have H':=k0_ H;clear H
 go_enter Try.func42, Try.ntmps42
 go_wp2;(try simp only [Act.put, q1_,q3_,q2_])
 go_loopg [5, 12] k (fun kq v5 v12 w'=>∃ (x5_1 : Int) (x12_1 : Int), v5 = .int .i64 x5_1∧v12 = .int .i64 x12_1∧Aside0 (dispatch_marginal.l0 kq l0 a1 x5_1 l0 (l0.length : Int) x12_1 = some r)∧Aside0 (kq ≤ k)∧Aside0 (Below w.heap.size w w'))
 case atStart=>exact ⟨(2000000),(0),rs_,rs_, H', ⟨Nat.le_refl _⟩,⟨hb0_ HB.out⟩⟩
 clear H';(try clear p2);obtain ⟨x5_1, x12_1, rfl, rfl, HA, HK1, HB⟩:=hrel;obtain _|k1:=gk
 ·exact absurd HA.out (by simp [dispatch_marginal.l0])
 have H:=HA.out;clear HA;simp only [dispatch_marginal.l0] at H
 by_cases c3 : x12_1 < (l0.length : Int)
 ·rw [if_pos c3] at H
  have c3b0:=decide_eq_true c3;clear c3
  obtain ⟨c4,H⟩:=gi_ H;have c4b0:=decide_eq_true c4;clear c4
  obtain ⟨c5,H⟩:=gi_ H;have c5b0:=decide_eq_true c5;clear c5;have H':=k0_ H;clear H;have p183 : 0 ≤ (x12_1 : Int):=of_decide_eq_true as_;have q183 : x12_1 < (l0.length : Int):=of_decide_eq_true as_;obtain ⟨ad183, A183_1, c183_1, e183, hx183_0, hx183_1, hl183_1, hi183_1⟩:=at_T31 HR0.out x12_1 p183 q183;cases e183;replace hx183_0:=bt_ HB.out hx183_0;replace hx183_1:=bt_ HB.out hx183_1;have HR183_1:=k0_ hi183_1;have HC183_1:=k0_ hl183_1;clear hi183_1 hl183_1;replace p183:=eq_true p183;replace q183:=eq_true q183
  go_wp2_with (first|((with_reducible refine gate_dst (N:=7) rfl ?_);refine box_event ?hg (N:=7) ?hd (cs:=#[.string (⟨#[]⟩ : ByteArray), .slice none 0 0]) (t:=31) ?hr ?_;(case hd=>rfl);(case hg=>rfl);(case hr=>first|(go_simp;done)|(go_simp;rfl));intro gb184 hg w6 hbox hb;have BK184:=k0_ (hbox);have GW184:=k0_ ((by rw [hg];exact (below_size (hb0_ HB.out)) : w.heap.size ≤ gb184));have GE184:=k0_ ((by rw [hg];exact (below_size (hb0_ HB.out)) : w.heap.size ≤ gb184));replace HB:=k0_ (below_step (hb0_ HB.out) hb);clear hb hbox hg;obtain ⟨hcz7_0,hcz7_1⟩:=bc2_ BK184.out;obtain ⟨hfz7_0,hfz7_1⟩:=bf2_ BK184.out))
  (try simp only [Act.put, q1_,q3_,q2_])
  go_loopg [5, 19] k1 (fun kq v5 v19 w'=>∃ (x5_2 : Int) (x19_2 : Int), v5 = .int .i64 x5_2∧v19 = .int .i64 x19_2∧Aside0 (dispatch_marginal.l1 kq l0 a1 x5_2 l0 (l0.length : Int) x12_1 ((rd_T31 l0 x12_1).f1) (((rd_T31 l0 x12_1).f1).length : Int) x19_2 = some r)∧Aside0 (kq ≤ k1)∧Aside0 (w'.heap[gb184]? = some (.cells #[.string ((rd_T31 l0 x12_1).f0),(.slice A183_1 ((rd_T31 l0 x12_1).f1).length c183_1)] 31 (0, 0)))∧Aside0 (Below w.heap.size w w'))
  case atStart=>exact ⟨(x5_1),(0),rs_,rs_, H', ⟨Nat.le_refl _⟩,⟨by (with_reducible repeat (first|refine blk_drewN ?_ _|refine blk_drew ?_|refine blk_alloc ?_ _));refine blk_put (cs:=#[.string ((rd_T31 l0 x12_1).f0), .slice none 0 0]) ?_ 1 _ rfl;(with_reducible repeat (first|refine blk_drewN ?_ _|refine blk_drew ?_|refine blk_alloc ?_ _));refine blk_put (cs:=#[.string (⟨#[]⟩ : ByteArray), .slice none 0 0]) ?_ 0 _ rfl;(with_reducible repeat (first|refine blk_drewN ?_ _|refine blk_drew ?_|refine blk_alloc ?_ _));exact BK184.out⟩,⟨hb1_ HB.out GE184.out⟩⟩
  clear H';(try clear c1);(try clear p1);(try clear q1);(try clear hx1);(try clear p2);(try clear c3);(try clear c3b0);(try clear c4);(try clear c4b0);(try clear c5);(try clear c5b0);(try clear hcz7_0);(try clear hcz7_1);(try clear hfz7_0);(try clear hfz7_1);(try clear hx183_0);(try clear hx183_1);(try clear p183);(try clear p2);(try clear q183);obtain ⟨x5_2, x19_2, rfl, rfl, HA, HK2, BK184, HB⟩:=hrel;obtain _|k2:=gk
  ·exact absurd HA.out (by simp [dispatch_marginal.l1])
  have H:=HA.out;clear HA;simp only [dispatch_marginal.l1] at H
  by_cases c8 : x19_2 < (((rd_T31 l0 x12_1).f1).length : Int)
  ·rw [if_pos c8] at H
   have c8b0:=decide_eq_true c8;clear c8
   by_cases c9 : 0 ≤ x19_2
   rw [if_pos c9] at H;have c9b0:=decide_eq_true c9;clear c9
   focus
    by_cases c10 : x19_2 < (((rd_T31 l0 x12_1).f1).length : Int)
    rw [if_pos c10] at H;have c10b0:=decide_eq_true c10;clear c10
    focus
     by_cases c11 : ((rd_T96 ((rd_T31 l0 x12_1).f1) x19_2).f1) < x5_2
     rw [if_pos c11] at H;have c11b0:=decide_eq_true c11;clear c11;replace H:=Option.bind_eq_some_iff.mp H;obtain ⟨t187, A120, H⟩:=H;replace H : (if t187 ≥ a1 then (dispatch_marginal.l1 k2 l0 a1 ((rd_T96 ((rd_T31 l0 x12_1).f1) x19_2).f1) l0 (l0.length : Int) x12_1 ((rd_T31 l0 x12_1).f1) (((rd_T31 l0 x12_1).f1).length : Int) (wrap64 (x19_2 + 1))) else (dispatch_marginal.l1 k2 l0 a1 x5_2 l0 (l0.length : Int) x12_1 ((rd_T31 l0 x12_1).f1) (((rd_T31 l0 x12_1).f1).length : Int) (wrap64 (x19_2 + 1)))) = some r:=H;have A12:=k0_ A120;clear A120
     focus
      by_cases c13 : t187 ≥ a1
      rw [if_pos c13] at H;have c13b0:=decide_eq_true c13;clear c13;have H':=k0_ H;clear H;rotate_left;rw [if_neg c13] at H;have c13b0:=decide_eq_false c13;clear c13;have H':=k0_ H;clear H;rotate_left
     rotate_left 2;rw [if_neg c11] at H;have c11b0:=decide_eq_false c11;clear c11;have H':=k0_ H;clear H;rotate_left
    rotate_left 3;rw [if_neg c10] at H
    exact absurd H (by simp)
   rotate_left 3;rw [if_neg c9] at H
   exact absurd H (by simp)
   all_goals
    have p185 : 0 ≤ (x19_2 : Int):=of_decide_eq_true as_;have q185 : x19_2 < (((rd_T31 l0 x12_1).f1).length : Int):=of_decide_eq_true as_;obtain ⟨ad185, e185, hx185_0, hx185_1⟩:=at_T96 HR183_1.out x19_2 p185 q185;cases e185;replace hx185_0:=bt_ HB.out hx185_0;replace hx185_1:=bt_ HB.out hx185_1;replace p185:=eq_true p185;replace q185:=eq_true q185
   ·go_wp2_with (first|((with_reducible refine gate_dst (N:=9) rfl ?_);refine box_event ?hg (N:=9) ?hd (cs:=#[.int .i64 0, .int .i64 0]) (t:=96) ?hr ?_;(case hd=>rfl);(case hg=>rfl);(case hr=>first|(go_simp;done)|(go_simp;rfl));intro gb186 hg w14 hbox hb;have BK186:=k0_ (hbox);have GW186:=k0_ ((by rw [hg];exact (below_size (hb1_ HB.out GE184.out)) : w.heap.size ≤ gb186));have GE186:=k0_ ((by rw [hg];exact (below_size (hb1_ HB.out GE184.out)) : w.heap.size ≤ gb186));replace HB:=k0_ (below_step (hb1_ HB.out GE184.out) hb);have NB184_186:=k0_ ((by rw [hg];exact Nat.ne_of_lt (blk_lt (g:=gb184) (o:=.cells #[.string ((rd_T31 l0 x12_1).f0), .slice (some ad185) ((rd_T31 l0 x12_1).f1).length c183_1] 31 (0, 0)) (bq_ BK184.out)) : gb184 ≠ gb186));have NB186_184:=k0_ ((by rw [hg];exact Nat.ne_of_gt (blk_lt (g:=gb184) (o:=.cells #[.string ((rd_T31 l0 x12_1).f0), .slice (some ad185) ((rd_T31 l0 x12_1).f1).length c183_1] 31 (0, 0)) (bq_ BK184.out)) : gb186 ≠ gb184));replace BK184:=k0_ (blk_below (g:=gb184) (o:=.cells #[.string ((rd_T31 l0 x12_1).f0), .slice (some ad185) ((rd_T31 l0 x12_1).f1).length c183_1] 31 (0, 0)) (bq_ BK184.out) hb);clear hb hbox hg;have hnb15:=NB186_184.out;have hnc15:=NB184_186.out;obtain ⟨hcz16_0,hcz16_1⟩:=bc2_ BK186.out;obtain ⟨hfz16_0,hfz16_1⟩:=bf2_ BK186.out)|(go_at_call 43;(with_reducible refine (dispatch_offered.calls k2 _ _ l0 ((rd_T96 ((rd_T31 l0 x12_1).f1) x19_2).f1) true t187 _ ?side1 ?side2 A12.out).mono ?_);(case side1=>exact Kd.C_below HR0.out (hb2_ HB.out GE184.out GE186.out));(case side2=>exact HC0.out);rintro e w17 ⟨rfl, hb⟩;replace BK184:=k0_ (blk_below (g:=gb184) (o:=.cells #[.string ((rd_T31 l0 x12_1).f0), .slice (some ad185) ((rd_T31 l0 x12_1).f1).length c183_1] 31 (0, 0)) (by (with_reducible repeat (first|refine blk_drewN ?_ _|refine blk_drew ?_|refine blk_alloc ?_ _));refine blk_far ?_ NB184_186.out _;(with_reducible repeat (first|refine blk_drewN ?_ _|refine blk_drew ?_|refine blk_alloc ?_ _));refine blk_far ?_ NB184_186.out _;(with_reducible repeat (first|refine blk_drewN ?_ _|refine blk_drew ?_|refine blk_alloc ?_ _));exact BK184.out) hb);replace BK186:=k0_ (blk_below (g:=gb186) (o:=.cells #[.int .i64 ((rd_T96 ((rd_T31 l0 x12_1).f1) x19_2).f0), .int .i64 ((rd_T96 ((rd_T31 l0 x12_1).f1) x19_2).f1)] 96 (0, 0)) (by (with_reducible repeat (first|refine blk_drewN ?_ _|refine blk_drew ?_|refine blk_alloc ?_ _));refine blk_put (cs:=#[.int .i64 ((rd_T96 ((rd_T31 l0 x12_1).f1) x19_2).f0), .int .i64 0]) ?_ 1 _ rfl;(with_reducible repeat (first|refine blk_drewN ?_ _|refine blk_drew ?_|refine blk_alloc ?_ _));refine blk_put (cs:=#[.int .i64 0, .int .i64 0]) ?_ 0 _ rfl;(with_reducible repeat (first|refine blk_drewN ?_ _|refine blk_drew ?_|refine blk_alloc ?_ _));exact BK186.out) hb);replace HB:=k0_ (below_step (hb2_ HB.out GE184.out GE186.out) hb);(try clear hb);(try clear hb2);(try clear hk);(try clear hi);obtain ⟨hcz18_0,hcz18_1⟩:=bc2_ BK186.out;obtain ⟨hfz18_0,hfz18_1⟩:=bf2_ BK186.out))
    go_roundg k2
    case measure=>have:=HK1.out;have:=HK2.out;omega
    case rel=>exact ⟨((rd_T96 ((rd_T31 l0 x12_1).f1) x19_2).f1),(wrap64 (x19_2 + 1)),rs_,rs_, H', ⟨by have:=HK1.out;have:=HK2.out;omega⟩,⟨bq_ BK184.out⟩,⟨hb2_ HB.out GE184.out GE186.out⟩⟩
   ·go_wp2_with (first|((with_reducible refine gate_dst (N:=9) rfl ?_);refine box_event ?hg (N:=9) ?hd (cs:=#[.int .i64 0, .int .i64 0]) (t:=96) ?hr ?_;(case hd=>rfl);(case hg=>rfl);(case hr=>first|(go_simp;done)|(go_simp;rfl));intro gb186 hg w19 hbox hb;have BK186:=k0_ (hbox);have GW186:=k0_ ((by rw [hg];exact (below_size (hb1_ HB.out GE184.out)) : w.heap.size ≤ gb186));have GE186:=k0_ ((by rw [hg];exact (below_size (hb1_ HB.out GE184.out)) : w.heap.size ≤ gb186));replace HB:=k0_ (below_step (hb1_ HB.out GE184.out) hb);have NB184_186:=k0_ ((by rw [hg];exact Nat.ne_of_lt (blk_lt (g:=gb184) (o:=.cells #[.string ((rd_T31 l0 x12_1).f0), .slice (some ad185) ((rd_T31 l0 x12_1).f1).length c183_1] 31 (0, 0)) (bq_ BK184.out)) : gb184 ≠ gb186));have NB186_184:=k0_ ((by rw [hg];exact Nat.ne_of_gt (blk_lt (g:=gb184) (o:=.cells #[.string ((rd_T31 l0 x12_1).f0), .slice (some ad185) ((rd_T31 l0 x12_1).f1).length c183_1] 31 (0, 0)) (bq_ BK184.out)) : gb186 ≠ gb184));replace BK184:=k0_ (blk_below (g:=gb184) (o:=.cells #[.string ((rd_T31 l0 x12_1).f0), .slice (some ad185) ((rd_T31 l0 x12_1).f1).length c183_1] 31 (0, 0)) (bq_ BK184.out) hb);clear hb hbox hg;have hnb20:=NB186_184.out;have hnc20:=NB184_186.out;obtain ⟨hcz21_0,hcz21_1⟩:=bc2_ BK186.out;obtain ⟨hfz21_0,hfz21_1⟩:=bf2_ BK186.out)|(go_at_call 43;(with_reducible refine (dispatch_offered.calls k2 _ _ l0 ((rd_T96 ((rd_T31 l0 x12_1).f1) x19_2).f1) true t187 _ ?side1 ?side2 A12.out).mono ?_);(case side1=>exact Kd.C_below HR0.out (hb2_ HB.out GE184.out GE186.out));(case side2=>exact HC0.out);rintro e w22 ⟨rfl, hb⟩;replace BK184:=k0_ (blk_below (g:=gb184) (o:=.cells #[.string ((rd_T31 l0 x12_1).f0), .slice (some ad185) ((rd_T31 l0 x12_1).f1).length c183_1] 31 (0, 0)) (by (with_reducible repeat (first|refine blk_drewN ?_ _|refine blk_drew ?_|refine blk_alloc ?_ _));refine blk_far ?_ NB184_186.out _;(with_reducible repeat (first|refine blk_drewN ?_ _|refine blk_drew ?_|refine blk_alloc ?_ _));refine blk_far ?_ NB184_186.out _;(with_reducible repeat (first|refine blk_drewN ?_ _|refine blk_drew ?_|refine blk_alloc ?_ _));exact BK184.out) hb);replace BK186:=k0_ (blk_below (g:=gb186) (o:=.cells #[.int .i64 ((rd_T96 ((rd_T31 l0 x12_1).f1) x19_2).f0), .int .i64 ((rd_T96 ((rd_T31 l0 x12_1).f1) x19_2).f1)] 96 (0, 0)) (by (with_reducible repeat (first|refine blk_drewN ?_ _|refine blk_drew ?_|refine blk_alloc ?_ _));refine blk_put (cs:=#[.int .i64 ((rd_T96 ((rd_T31 l0 x12_1).f1) x19_2).f0), .int .i64 0]) ?_ 1 _ rfl;(with_reducible repeat (first|refine blk_drewN ?_ _|refine blk_drew ?_|refine blk_alloc ?_ _));refine blk_put (cs:=#[.int .i64 0, .int .i64 0]) ?_ 0 _ rfl;(with_reducible repeat (first|refine blk_drewN ?_ _|refine blk_drew ?_|refine blk_alloc ?_ _));exact BK186.out) hb);replace HB:=k0_ (below_step (hb2_ HB.out GE184.out GE186.out) hb);(try clear hb);(try clear hb2);(try clear hk);(try clear hi)))
    go_roundg k2
    case measure=>have:=HK1.out;have:=HK2.out;omega
    case rel=>exact ⟨(x5_2),(wrap64 (x19_2 + 1)),rs_,rs_, H', ⟨by have:=HK1.out;have:=HK2.out;omega⟩,⟨bq_ BK184.out⟩,⟨hb2_ HB.out GE184.out GE186.out⟩⟩
   ·go_wp2_with (first|((with_reducible refine gate_dst (N:=9) rfl ?_);refine box_event ?hg (N:=9) ?hd (cs:=#[.int .i64 0, .int .i64 0]) (t:=96) ?hr ?_;(case hd=>rfl);(case hg=>rfl);(case hr=>first|(go_simp;done)|(go_simp;rfl));intro gb186 hg w23 hbox hb;have BK186:=k0_ (hbox);have GW186:=k0_ ((by rw [hg];exact (below_size (hb1_ HB.out GE184.out)) : w.heap.size ≤ gb186));have GE186:=k0_ ((by rw [hg];exact (below_size (hb1_ HB.out GE184.out)) : w.heap.size ≤ gb186));replace HB:=k0_ (below_step (hb1_ HB.out GE184.out) hb);have NB184_186:=k0_ ((by rw [hg];exact Nat.ne_of_lt (blk_lt (g:=gb184) (o:=.cells #[.string ((rd_T31 l0 x12_1).f0), .slice (some ad185) ((rd_T31 l0 x12_1).f1).length c183_1] 31 (0, 0)) (bq_ BK184.out)) : gb184 ≠ gb186));have NB186_184:=k0_ ((by rw [hg];exact Nat.ne_of_gt (blk_lt (g:=gb184) (o:=.cells #[.string ((rd_T31 l0 x12_1).f0), .slice (some ad185) ((rd_T31 l0 x12_1).f1).length c183_1] 31 (0, 0)) (bq_ BK184.out)) : gb186 ≠ gb184));replace BK184:=k0_ (blk_below (g:=gb184) (o:=.cells #[.string ((rd_T31 l0 x12_1).f0), .slice (some ad185) ((rd_T31 l0 x12_1).f1).length c183_1] 31 (0, 0)) (bq_ BK184.out) hb);clear hb hbox hg;have hnb24:=NB186_184.out;have hnc24:=NB184_186.out;obtain ⟨hcz25_0,hcz25_1⟩:=bc2_ BK186.out;obtain ⟨hfz25_0,hfz25_1⟩:=bf2_ BK186.out))
    go_roundg k2
    case measure=>have:=HK1.out;have:=HK2.out;omega
    case rel=>exact ⟨(x5_2),(wrap64 (x19_2 + 1)),rs_,rs_, H', ⟨by have:=HK1.out;have:=HK2.out;omega⟩,⟨by (with_reducible repeat (first|refine blk_drewN ?_ _|refine blk_drew ?_|refine blk_alloc ?_ _));refine blk_far ?_ NB184_186.out _;(with_reducible repeat (first|refine blk_drewN ?_ _|refine blk_drew ?_|refine blk_alloc ?_ _));refine blk_far ?_ NB184_186.out _;(with_reducible repeat (first|refine blk_drewN ?_ _|refine blk_drew ?_|refine blk_alloc ?_ _));exact BK184.out⟩,⟨hb2_ HB.out GE184.out GE186.out⟩⟩
  ·rw [if_neg c8] at H
   have c8b0:=decide_eq_false c8;clear c8;have H':=k0_ H;clear H;go_wp2
   go_roundg k2
   case measure=>have:=HK1.out;have:=HK2.out;omega
   case rel=>exact ⟨(x5_2),(wrap64 (x12_1 + 1)),rs_,rs_, H', ⟨by have:=HK1.out;have:=HK2.out;omega⟩,⟨hb1_ HB.out GE184.out⟩⟩
 ·rw [if_neg c3] at H
  have c3b0:=decide_eq_false c3;clear c3;obtain rfl:=Option.some.inj H;go_wp2
  go_ret
  exact ⟨er_, hb0_ HB.out⟩

end Go.Proofs.Ytdphghdjljplpaa.PTopHours
