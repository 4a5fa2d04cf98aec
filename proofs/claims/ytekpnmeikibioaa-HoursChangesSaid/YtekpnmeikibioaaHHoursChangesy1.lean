/- Contracts of functions that HoursChanges reaches, a text of this session's own. -/
import Derived.Test.YtekpnmeikibioaaBox2
import Derived.Test.YtekpnmeikibioaaHHoursChangesy0
namespace Go.Proofs.Ytekpnmeikibioaa.PHoursChanges
open Go.RowKit Go.Proofs.YtekpnmeikibioaaW.PrintWords Go.Proofs.YtekpnmeikibioaaW.PrintLast Go.Proofs.YtekpnmeikibioaaW.PrintMore
attribute [local go_sem] max2_int min2_int max_two min_two max_three min_three max_four min_four   -- for this text's walks alone
set_option linter.unusedVariables false
set_option linter.unusedSimpArgs false

/-! ### gridhalllaw3_two: function 10 -/
def gridhalllaw3_two.f (a0 : ByteArray) : Option (ByteArray × (List (S41))) := some (a0, (([(⟨10, 5⟩ : S41), (⟨10, 8⟩ : S41)] : List (S41))))
set_option maxHeartbeats 8000000 in
set_option maxRecDepth 100000 in
theorem gridhalllaw3_two.calls (a0 : ByteArray) (r1 : ByteArray) (r2 : List (S41)) (w : World) (h : gridhalllaw3_two.f a0 = some (r1, r2)) :
  Calls Try.prog 10 #[.string a0] w fun e w' => ∃ v1_ : Value, e = .returned (.agg #[.string r1, v1_]) ∧ Kd.R k41 41 w' w.heap.size (fun _ => True) v1_ r2 ∧ Below w.heap.size w w' := by
 have hu29:=Try.underlying29;have hu41:=Try.underlying41;have HB:=k0_ (Below.refl w.heap.size w);have H : (some (a0, (([(⟨10, 5⟩ : S41),(⟨10, 8⟩ : S41)] : List (S41))))) = some (r1, r2):=h;clear h;obtain ⟨y102, hy102⟩ : ∃ y_ : List (S41), y_ = (([(⟨10, 5⟩ : S41),(⟨10, 8⟩ : S41)] : List (S41))):=⟨_, rfl⟩;replace H : (some (a0, y102)) = some (r1, r2):=by first|(rw [hy102];with_reducible exact H)|(have H2_:=(Option.bind_some _ _).symm.trans H;rw [hy102];with_reducible exact H2_)|(have H2_:=(Option.bind_some _ _).symm.trans H;with_reducible exact H2_)|with_reducible exact H|(rw [hy102];exact H)|exact H
 have Ny102:=k0_ hy102;clear hy102;simp only [Option.some.injEq, Prod.mk.injEq] at H;obtain ⟨rfl, rfl⟩:=H
 go_enter Try.func10, Try.ntmps10
 go_wp2_with (first|((with_reducible refine gate_dst (N:=2) rfl ?_);refine box_event ?hg (N:=2) ?hd (cs:=#[.string (⟨#[]⟩ : ByteArray), .slice none 0 0]) (t:=29) ?hr ?_;(case hd=>rfl);(case hg=>rfl);(case hr=>first|(go_simp;done)|(go_simp;rfl));intro gb101 hg w2 hbox hb;have BK101:=k0_ (hbox);have GW101:=k0_ ((by rw [hg];exact (below_size (hb0_ HB.out)) : w.heap.size ≤ gb101));have GE101:=k0_ ((by rw [hg];exact (below_size (hb0_ HB.out)) : w.heap.size ≤ gb101));replace HB:=k0_ (below_step (hb0_ HB.out) hb);clear hb hbox hg)|((with_reducible refine gate_dst (N:=6) rfl ?_);refine Kd.R_lit k41 _ 41 ?hg (N:=6) ?hd (xs:=([(⟨10, 5⟩ : S41),(⟨10, 8⟩ : S41)] : List (S41))) (inner:=[.int .i64 10, .int .i64 5, .int .i64 10, .int .i64 8]) (ok:=fun _=>True) (okp:=fun _=>True) ?hr ?hp (fun _ hk=>hk) trivial (Below.refl _ _) (Nat.le_refl _) (by simp) ?_;(case hd=>rfl);(case hg=>rfl);(case hr=>first|(go_simp;done)|(go_simp;rfl));(case hp=>exact (Reps.c2 (show Kd.M k41 _ _ _ (⟨10, 5⟩ : S41) [.int .i64 10, .int .i64 5] from (k41_mkM _ _ _ (⟨10, 5⟩ : S41) )) (Reps.c2 (show Kd.M k41 _ _ _ (⟨10, 8⟩ : S41) [.int .i64 10, .int .i64 8] from (k41_mkM _ _ _ (⟨10, 8⟩ : S41) )) (Reps.none _ _))));intro v103 w3 ho4 hb hg_ hnew_;clear hg_ hnew_;(first|rw [← Ny102.out] at ho4|(simp only [Int.reduceToNat] at ho4;rw [← Ny102.out] at ho4));have HO104:=k0_ (Kd.R_lower ho4 (below_size (hb1_ HB.out GE101.out)));replace BK101:=k0_ (blk_below (g:=gb101) (o:=.cells #[.string (⟨#[]⟩ : ByteArray), .slice none 0 0] 29 (0, 0)) (bq_ BK101.out) hb);replace HB:=k0_ (below_step (hb1_ HB.out GE101.out) hb);clear hb ho4;obtain ⟨Ao5, co5, eo5⟩:=Kd.R_slice HO104.out;subst eo5;obtain ⟨hcz6_0,hcz6_1⟩:=bc2_ BK101.out;obtain ⟨hfz6_0,hfz6_1⟩:=bf2_ BK101.out))
 refine bodyPost_ret (results_cell_row rfl _ _ gb101 29 #[.string a0, .slice Ao5 y102.length co5] (0, 0) _ rfl (by (with_reducible repeat (first|refine blk_drewN ?_ _|refine blk_drew ?_|refine blk_alloc ?_ _));refine blk_put (cs:=#[.string a0, .slice none 0 0]) ?_ 1 _ rfl;(with_reducible repeat (first|refine blk_drewN ?_ _|refine blk_drew ?_|refine blk_alloc ?_ _));refine blk_put (cs:=#[.string (⟨#[]⟩ : ByteArray), .slice none 0 0]) ?_ 0 _ rfl;(with_reducible repeat (first|refine blk_drewN ?_ _|refine blk_drew ?_|refine blk_alloc ?_ _));exact BK101.out) Try.underlying29 rfl (by kernel_rfl)) rfl ?_
 exact ⟨_, er_, by (with_reducible repeat (first|apply Kd.R_alloc|apply Kd.R_drewN|apply Kd.R_drew));exact Kd.R_mono (Kd.R_far (p:=⟨gb101, 1, none⟩) (Kd.R_far (p:=⟨gb101, 0, none⟩) (Kd.R_types HO104.out BK101.out (by decide)) (fun _ hk=>hk.2) (.string a0)) (fun _ hk=>hk.2) (.slice Ao5 y102.length co5)) (fun _ hk=>trivial), hb1_ HB.out GE101.out⟩

/-! ### gridhallref3_Before: function 38 -/
def gridhallref3_Before.l0 : Nat → Int → List (S41) → Int → Int → Option (Int)
 | 0, _, _, _, _ => none
 | k + 1, x5, x11, x12, x13 => if x13 < x12 then (if 0 ≤ x13 then (if x13 < (x11.length : Int) then (gridhallref3_Before.l0 k (wrap64 (x5 + ((rd_T41 x11 x13).f0))) x11 x12 (wrap64 (x13 + 1))) else (none)) else (none)) else (some x5)
def gridhallref3_Before.f (k : Nat) (a0_0 : ByteArray) (l0_1 : List (S41)) (a1 : Int) : Option (Int) := if 0 ≤ a1 then (if a1 ≤ (l0_1.length : Int) then ((some (l0_1.take (a1 : Int).toNat : List (S41))).bind fun y106 => (gridhallref3_Before.l0 k 0 y106 (y106.length : Int) 0)) else (none)) else (none)
theorem gridhallref3_Before.mono_l : ∀ k, (∀ y0 y1 y2 y3, LeO (gridhallref3_Before.l0 k y0 y1 y2 y3) (gridhallref3_Before.l0 (k + 1) y0 y1 y2 y3))
 | 0 => fun _ _ _ _ r h => by simp [gridhallref3_Before.l0] at h
 | k + 1 => by
  have ih0:=gridhallref3_Before.mono_l k
  ·intro y0 y1 y2 y3
   unfold gridhallref3_Before.l0
   repeat' first|(with_reducible first|exact ih0 _ _ _ _|exact LeO.refl _|exact LeO.none _|refine LeO.ite ?_ ?_|refine LeO.bind ?_ (fun _=>?_))|exact ih0 _ _ _ _|exact LeO.none _|refine LeO.ite ?_ ?_|refine LeO.bind ?_ (fun _=>?_)
theorem gridhallref3_Before.mono : ∀ a0 a1 a2 k, LeO (gridhallref3_Before.f k a0 a1 a2) (gridhallref3_Before.f (k + 1) a0 a1 a2) := by
 intro a0 a1 a2 k
 have ih0:=gridhallref3_Before.mono_l k
 unfold gridhallref3_Before.f
 repeat' first|(with_reducible first|exact ih0 _ _ _ _|exact LeO.refl _|exact LeO.none _|refine LeO.ite ?_ ?_|refine LeO.bind ?_ (fun _=>?_))|exact ih0 _ _ _ _|exact LeO.none _|refine LeO.ite ?_ ?_|refine LeO.bind ?_ (fun _=>?_)
set_option maxHeartbeats 8000000 in
set_option maxRecDepth 100000 in
theorem gridhallref3_Before.calls (k : Nat) (a0_0 : ByteArray) (A0_1 : Option Addr) (c0_1 : Nat) (l0_1 : List (S41)) (a1 : Int) (r : Int) (w : World) (hr0_1 : Kd.C k41 w A0_1 l0_1.length l0_1) (hc0_1 : l0_1.length ≤ c0_1) (h : gridhallref3_Before.f k a0_0 l0_1 a1 = some r) :
  Calls Try.prog 38 #[.agg #[.string a0_0, .slice A0_1 l0_1.length c0_1], .int .i64 a1] w fun e w' => e = .returned (.int .i64 r) ∧ Below w.heap.size w w' := by
 have hu29:=Try.underlying29;have hu41:=Try.underlying41;have HR0_1:=k0_ hr0_1;have HC0_1:=k0_ hc0_1;clear hr0_1 hc0_1;have HB:=k0_ (Below.refl w.heap.size w);have H : (if 0 ≤ a1 then (if a1 ≤ (l0_1.length : Int) then ((some (l0_1.take (a1 : Int).toNat : List (S41))).bind fun y106=>(gridhallref3_Before.l0 k 0 y106 (y106.length : Int) 0)) else (none)) else (none)) = some r:=h;clear h
 by_cases c3 : 0 ≤ a1
 ·rw [if_pos c3] at H
  have c3b0:=eq_true c3;have c3b1:=decide_eq_true c3;clear c3
  obtain ⟨c4,H⟩:=gi_ H;have c4b0:=eq_true c4;have c4b1:=decide_eq_true c4;clear c4;obtain ⟨y106, hy106⟩ : ∃ y_ : List (S41), y_ = (l0_1.take (a1 : Int).toNat):=⟨_, rfl⟩;replace H : (gridhallref3_Before.l0 k 0 y106 (y106.length : Int) 0) = some r:=by first|(rw [hy106];with_reducible exact H)|(have H2_:=(Option.bind_some _ _).symm.trans H;rw [hy106];with_reducible exact H2_)|(have H2_:=(Option.bind_some _ _).symm.trans H;with_reducible exact H2_)|with_reducible exact H|(rw [hy106];exact H)|exact H
  have Ny106:=k0_ hy106;clear hy106;have H':=k0_ H;clear H
  go_enter Try.func38, Try.ntmps38
  go_wp2_with (first|((with_reducible refine gate_dst (N:=2) rfl ?_);refine box_event ?hg (N:=2) ?hd (cs:=#[.string a0_0, .slice A0_1 l0_1.length c0_1]) (t:=29) ?hr ?_;(case hd=>rfl);(case hg=>rfl);(case hr=>first|(go_simp;done)|(go_simp;rfl));intro gb105 hg w5 hbox hb;have BK105:=k0_ (hbox);have GW105:=k0_ ((by rw [hg];exact (below_size (hb0_ HB.out)) : w.heap.size ≤ gb105));have GE105:=k0_ ((by rw [hg];exact (below_size (hb0_ HB.out)) : w.heap.size ≤ gb105));replace HB:=k0_ (below_step (hb0_ HB.out) hb);clear hb hbox hg;obtain ⟨hcz6_0,hcz6_1⟩:=bc2_ BK105.out;obtain ⟨hfz6_0,hfz6_1⟩:=bf2_ BK105.out;have q7 : (a1 : Int) ≤ ((l0_1.length : Int) : Int):=of_decide_eq_true as_;obtain ⟨i07, hi07, _, hsz7, _⟩:=info_parts info41;have hroom7 : l0_1.length ≤ c0_1:=HC0_1.out;have hC7 : Kd.C k41 _ A0_1 l0_1.length l0_1:=HR0_1.out;have hcut7:=cut_to (P:=Try.prog) 27 41 .i64 Try.underlying27 hi07 A0_1 l0_1.length c0_1 a1 (of_decide_eq_true as_) q7 hroom7;have hr7:=Kd.C_take (m:=(a1 : Int).toNat) hC7 (by omega);have hy7 : y106.length = (a1 : Int).toNat:=(by rw [Ny106.out, List.length_take];omega);rw [← Ny106.out] at hr7;rw [← hy7] at hcut7;have HR109:=k0_ hr7;have HC109:=k0_ (show y106.length ≤ c0_1 from by omega);clear hr7 hC7 hroom7 hi07 hsz7;have KY7:=k0_ hy7;clear hy7;replace q7:=eq_true q7))
  (try simp only [Act.put, q1_,q3_,q2_])
  go_loopg [5, 13] k (fun kq v5 v13 w'=>∃ (x5_1 : Int) (x13_1 : Int), v5 = .int .i64 x5_1∧v13 = .int .i64 x13_1∧Aside0 (gridhallref3_Before.l0 kq x5_1 y106 (y106.length : Int) x13_1 = some r)∧Aside0 (kq ≤ k)∧Aside0 (w'.heap[gb105]? = some (.cells #[.string a0_0, (.slice A0_1 l0_1.length c0_1)] 29 (0, 0)))∧Aside0 (Below w.heap.size w w'))
  case atStart=>exact ⟨(0),(0),rs_,rs_, H', ⟨Nat.le_refl _⟩,⟨bq_ BK105.out⟩,⟨hb1_ HB.out GE105.out⟩⟩
  clear H';(try clear p2);(try clear c3);(try clear c3b0);(try clear c3b1);(try clear c4);(try clear c4b0);(try clear c4b1);(try clear q7);(try clear hcz6_0);(try clear hcz6_1);(try clear hfz6_0);(try clear hfz6_1);(try clear q7);obtain ⟨x5_1, x13_1, rfl, rfl, HA, HK1, BK105, HB⟩:=hrel;obtain _|k1:=gk
  ·exact absurd HA.out (by simp [gridhallref3_Before.l0])
  have H:=HA.out;clear HA;simp only [gridhallref3_Before.l0] at H
  by_cases c8 : x13_1 < (y106.length : Int)
  ·rw [if_pos c8] at H
   have c8b0:=decide_eq_true c8;clear c8
   obtain ⟨c9,H⟩:=gi_ H;have c9b0:=decide_eq_true c9;clear c9
   obtain ⟨c10,H⟩:=gi_ H;have c10b0:=decide_eq_true c10;clear c10;have H':=k0_ H;clear H;have p110 : 0 ≤ (x13_1 : Int):=of_decide_eq_true as_;have q110 : x13_1 < (y106.length : Int):=of_decide_eq_true as_;obtain ⟨ad110, e110, hx110_0, hx110_1⟩:=at_T41 HR109.out x13_1 p110 q110;cases e110;replace hx110_0:=bt_ HB.out hx110_0;replace hx110_1:=bt_ HB.out hx110_1;replace p110:=eq_true p110;replace q110:=eq_true q110
   go_wp2_with (first|((with_reducible refine gate_dst (N:=7) rfl ?_);refine box_event ?hg (N:=7) ?hd (cs:=#[.int .i64 0, .int .i64 0]) (t:=41) ?hr ?_;(case hd=>rfl);(case hg=>rfl);(case hr=>first|(go_simp;done)|(go_simp;rfl));intro gb111 hg w11 hbox hb;have BK111:=k0_ (hbox);have GW111:=k0_ ((by rw [hg];exact (below_size (hb1_ HB.out GE105.out)) : w.heap.size ≤ gb111));have GE111:=k0_ ((by rw [hg];exact (below_size (hb1_ HB.out GE105.out)) : w.heap.size ≤ gb111));replace HB:=k0_ (below_step (hb1_ HB.out GE105.out) hb);have NB105_111:=k0_ ((by rw [hg];exact Nat.ne_of_lt (blk_lt (g:=gb105) (o:=.cells #[.string a0_0, .slice (some ad110) l0_1.length c0_1] 29 (0, 0)) (bq_ BK105.out)) : gb105 ≠ gb111));have NB111_105:=k0_ ((by rw [hg];exact Nat.ne_of_gt (blk_lt (g:=gb105) (o:=.cells #[.string a0_0, .slice (some ad110) l0_1.length c0_1] 29 (0, 0)) (bq_ BK105.out)) : gb111 ≠ gb105));replace BK105:=k0_ (blk_below (g:=gb105) (o:=.cells #[.string a0_0, .slice (some ad110) l0_1.length c0_1] 29 (0, 0)) (bq_ BK105.out) hb);clear hb hbox hg;have hnb12:=NB111_105.out;have hnc12:=NB105_111.out;obtain ⟨hcz13_0,hcz13_1⟩:=bc2_ BK111.out;obtain ⟨hfz13_0,hfz13_1⟩:=bf2_ BK111.out))
   go_roundg k1
   case measure=>have:=HK1.out;omega
   case rel=>exact ⟨(wrap64 (x5_1 + ((rd_T41 y106 x13_1).f0))),(wrap64 (x13_1 + 1)),rs_,rs_, H', ⟨by have:=HK1.out;omega⟩,⟨by (with_reducible repeat (first|refine blk_drewN ?_ _|refine blk_drew ?_|refine blk_alloc ?_ _));refine blk_far ?_ NB105_111.out _;(with_reducible repeat (first|refine blk_drewN ?_ _|refine blk_drew ?_|refine blk_alloc ?_ _));refine blk_far ?_ NB105_111.out _;(with_reducible repeat (first|refine blk_drewN ?_ _|refine blk_drew ?_|refine blk_alloc ?_ _));exact BK105.out⟩,⟨hb2_ HB.out GE105.out GE111.out⟩⟩
  ·rw [if_neg c8] at H
   have c8b0:=decide_eq_false c8;clear c8;obtain rfl:=Option.some.inj H;go_wp2
   go_ret
   exact ⟨er_, hb1_ HB.out GE105.out⟩
 ·rw [if_neg c3] at H
  exact absurd H (by simp)

/-! ### gridhallref3_All: function 15 -/
def gridhallref3_All.f (k : Nat) (a0_0 : ByteArray) (l0_1 : List (S41)) : Option (Int) := (gridhallref3_Before.f k a0_0 l0_1 (l0_1.length : Int)).bind fun t113 => (some t113)
theorem gridhallref3_All.mono : ∀ a0 a1 k, LeO (gridhallref3_All.f k a0 a1) (gridhallref3_All.f (k + 1) a0 a1) := by
 intro a0 a1 k
 unfold gridhallref3_All.f
 repeat' first|(with_reducible first|exact gridhallref3_Before.mono _ _ _ _|exact LeO.refl _|exact LeO.none _|refine LeO.ite ?_ ?_|refine LeO.bind ?_ (fun _=>?_))|exact gridhallref3_Before.mono _ _ _ _|exact LeO.none _|refine LeO.ite ?_ ?_|refine LeO.bind ?_ (fun _=>?_)
set_option maxHeartbeats 8000000 in
set_option maxRecDepth 100000 in
theorem gridhallref3_All.calls (k : Nat) (a0_0 : ByteArray) (A0_1 : Option Addr) (c0_1 : Nat) (l0_1 : List (S41)) (r : Int) (w : World) (hr0_1 : Kd.C k41 w A0_1 l0_1.length l0_1) (hc0_1 : l0_1.length ≤ c0_1) (h : gridhallref3_All.f k a0_0 l0_1 = some r) :
  Calls Try.prog 15 #[.agg #[.string a0_0, .slice A0_1 l0_1.length c0_1]] w fun e w' => e = .returned (.int .i64 r) ∧ Below w.heap.size w w' := by
 have hu29:=Try.underlying29;have HR0_1:=k0_ hr0_1;have HC0_1:=k0_ hc0_1;clear hr0_1 hc0_1;have HB:=k0_ (Below.refl w.heap.size w);have H : ((gridhallref3_Before.f k a0_0 l0_1 (l0_1.length : Int)).bind fun t113=>(some t113)) = some r:=h;clear h;replace H:=Option.bind_eq_some_iff.mp H;obtain ⟨t113, A20, H⟩:=H;replace H : (some t113) = some r:=H;have A2:=k0_ A20;clear A20;obtain rfl:=Option.some.inj H
 go_enter Try.func15, Try.ntmps15
 go_wp2_with (first|((with_reducible refine gate_dst (N:=1) rfl ?_);refine box_event ?hg (N:=1) ?hd (cs:=#[.string a0_0, .slice A0_1 l0_1.length c0_1]) (t:=29) ?hr ?_;(case hd=>rfl);(case hg=>rfl);(case hr=>first|(go_simp;done)|(go_simp;rfl));intro gb112 hg w3 hbox hb;have BK112:=k0_ (hbox);have GW112:=k0_ ((by rw [hg];exact (below_size (hb0_ HB.out)) : w.heap.size ≤ gb112));have GE112:=k0_ ((by rw [hg];exact (below_size (hb0_ HB.out)) : w.heap.size ≤ gb112));replace HB:=k0_ (below_step (hb0_ HB.out) hb);clear hb hbox hg;obtain ⟨hcz4_0,hcz4_1⟩:=bc2_ BK112.out;obtain ⟨hfz4_0,hfz4_1⟩:=bf2_ BK112.out)|((with_reducible refine gate_callee (f:=38) rfl ?_);refine goesL_ (some 7) rfl rfl Try.func38 (by kernel_rfl) rfl #[.agg #[.string a0_0, .slice A0_1 l0_1.length c0_1], .int .i64 (l0_1.length : Int)] rfl mt_ ?_;(with_reducible refine (gridhallref3_Before.calls k a0_0 _ _ l0_1 (l0_1.length : Int) t113 _ ?side1 ?side2 A2.out).mono ?_);(case side1=>repeat (first|exact (Kd.C_below HR0_1.out HB.out)|(with_reducible refine Kd.C_alloc ?_ _)|(with_reducible refine Kd.C_drewN ?_ _)|(with_reducible refine Kd.C_drew ?_)));(case side2=>exact HC0_1.out);rintro e w5 ⟨rfl, hb⟩;refine ⟨_, rfl, ?_⟩;replace BK112:=k0_ (blk_below (g:=gb112) (o:=.cells #[.string a0_0, .slice A0_1 l0_1.length c0_1] 29 (0, 0)) (bq_ BK112.out) hb);replace HB:=k0_ (below_step (hb1_ HB.out GE112.out) hb);(try clear hb);(try clear hb2);(try clear hk);(try clear hi)))
 go_ret
 exact ⟨er_, hb1_ HB.out GE112.out⟩

/-! ### gridhallref3_In: function 16 -/
def gridhallref3_In.f (a0 : Int) (a1 : Int) (a2 : Int) : Option (Bool) := if a0 ≥ a1 then (some (decide (a0 ≤ a2))) else (some false)
set_option maxHeartbeats 8000000 in
set_option maxRecDepth 100000 in
theorem gridhallref3_In.calls (a0 : Int) (a1 : Int) (a2 : Int) (r : Bool) (w : World) (h : gridhallref3_In.f a0 a1 a2 = some r) :
  Calls Try.prog 16 #[.int .i64 a0, .int .i64 a1, .int .i64 a2] w fun e w' => e = .returned (.bool r) ∧ Drawn0 w w' := by
 have H : (if a0 ≥ a1 then (some (decide (a0 ≤ a2))) else (some false)) = some r:=h;clear h
 by_cases c4 : a0 ≥ a1
 ·rw [if_pos c4] at H
  have c4b0:=decide_eq_true c4;clear c4;obtain rfl:=Option.some.inj H
  go_enter Try.func16, Try.ntmps16
  go_wp2
  go_ret
  exact ⟨by first|rfl|(simp;done)|(simp [*];done), by repeat (first|exact Drawn0.refl _|apply Drawn0.step)⟩
 ·rw [if_neg c4] at H
  have c4b0:=decide_eq_false c4;clear c4;obtain rfl:=Option.some.inj H
  go_enter Try.func16, Try.ntmps16
  go_wp2
  go_ret
  exact ⟨by first|rfl|(simp;done)|(simp [*];done), by repeat (first|exact Drawn0.refl _|apply Drawn0.step)⟩

/-! ### gridhallref3_Cost: function 19 -/
def gridhallref3_Cost.l0 : Nat → Int → Int → List (S41) → Int → Int → ByteArray → List (S41) → Option (Int)
 | 0, _, _, _, _, _, _, _ => none
 | k + 1, x1, x5, x10, x11, x12, x115000, x115001 => if x12 < x11 then (if 0 ≤ x12 then (if x12 < (x10.length : Int) then ((gridhallref3_Before.f k x115000 x115001 x12).bind fun t117 => (gridhallref3_Cost.l0 k x1 (wrap64 (x5 + (wrap64 (((rd_T41 x10 x12).f1) * (wrap64 ((mn (mx x1 t117) (wrap64 (t117 + ((rd_T41 x10 x12).f0)))) - t117)))))) x10 x11 (wrap64 (x12 + 1)) x115000 x115001)) else (none)) else (none)) else (some x5)
def gridhallref3_Cost.f (k : Nat) (a0_0 : ByteArray) (l0_1 : List (S41)) (a1 : Int) : Option (Int) := gridhallref3_Cost.l0 k a1 0 l0_1 (l0_1.length : Int) 0 a0_0 l0_1
theorem gridhallref3_Cost.mono_l : ∀ k, (∀ y0 y1 y2 y3 y4 y5 y6, LeO (gridhallref3_Cost.l0 k y0 y1 y2 y3 y4 y5 y6) (gridhallref3_Cost.l0 (k + 1) y0 y1 y2 y3 y4 y5 y6))
 | 0 => fun _ _ _ _ _ _ _ r h => by simp [gridhallref3_Cost.l0] at h
 | k + 1 => by
  have ih0:=gridhallref3_Cost.mono_l k
  ·intro y0 y1 y2 y3 y4 y5 y6
   unfold gridhallref3_Cost.l0
   repeat' first|(with_reducible first|exact ih0 _ _ _ _ _ _ _|exact gridhallref3_Before.mono _ _ _ _|exact LeO.refl _|exact LeO.none _|refine LeO.ite ?_ ?_|refine LeO.bind ?_ (fun _=>?_))|exact ih0 _ _ _ _ _ _ _|exact gridhallref3_Before.mono _ _ _ _|exact LeO.none _|refine LeO.ite ?_ ?_|refine LeO.bind ?_ (fun _=>?_)
theorem gridhallref3_Cost.mono : ∀ a0 a1 a2 k, LeO (gridhallref3_Cost.f k a0 a1 a2) (gridhallref3_Cost.f (k + 1) a0 a1 a2) := by
 intro a0 a1 a2 k
 have ih0:=gridhallref3_Cost.mono_l k
 unfold gridhallref3_Cost.f
 repeat' first|(with_reducible first|exact ih0 _ _ _ _ _ _ _|exact gridhallref3_Before.mono _ _ _ _|exact LeO.refl _|exact LeO.none _|refine LeO.ite ?_ ?_|refine LeO.bind ?_ (fun _=>?_))|exact ih0 _ _ _ _ _ _ _|exact gridhallref3_Before.mono _ _ _ _|exact LeO.none _|refine LeO.ite ?_ ?_|refine LeO.bind ?_ (fun _=>?_)
set_option maxHeartbeats 8000000 in
set_option maxRecDepth 100000 in
theorem gridhallref3_Cost.calls (k : Nat) (a0_0 : ByteArray) (A0_1 : Option Addr) (c0_1 : Nat) (l0_1 : List (S41)) (a1 : Int) (r : Int) (w : World) (hr0_1 : Kd.C k41 w A0_1 l0_1.length l0_1) (hc0_1 : l0_1.length ≤ c0_1) (h : gridhallref3_Cost.f k a0_0 l0_1 a1 = some r) :
  Calls Try.prog 19 #[.agg #[.string a0_0, .slice A0_1 l0_1.length c0_1], .int .i64 a1] w fun e w' => e = .returned (.int .i64 r) ∧ Below w.heap.size w w' := by
 have hu29:=Try.underlying29;have hu41:=Try.underlying41;have HR0_1:=k0_ hr0_1;have HC0_1:=k0_ hc0_1;clear hr0_1 hc0_1;have HB:=k0_ (Below.refl w.heap.size w);have H : (gridhallref3_Cost.l0 k a1 0 l0_1 (l0_1.length : Int) 0 a0_0 l0_1) = some r:=h;clear h;have H':=k0_ H;clear H
 go_enter Try.func19, Try.ntmps19
 go_wp2_with (first|((with_reducible refine gate_dst (N:=2) rfl ?_);refine box_event ?hg (N:=2) ?hd (cs:=#[.string a0_0, .slice A0_1 l0_1.length c0_1]) (t:=29) ?hr ?_;(case hd=>rfl);(case hg=>rfl);(case hr=>first|(go_simp;done)|(go_simp;rfl));intro gb114 hg w3 hbox hb;have BK114:=k0_ (hbox);have GW114:=k0_ ((by rw [hg];exact (below_size (hb0_ HB.out)) : w.heap.size ≤ gb114));have GE114:=k0_ ((by rw [hg];exact (below_size (hb0_ HB.out)) : w.heap.size ≤ gb114));replace HB:=k0_ (below_step (hb0_ HB.out) hb);clear hb hbox hg;obtain ⟨hcz4_0,hcz4_1⟩:=bc2_ BK114.out;obtain ⟨hfz4_0,hfz4_1⟩:=bf2_ BK114.out))
 (try simp only [Act.put, q1_,q3_,q2_])
 go_loopg [5, 12] k (fun kq v5 v12 w'=>∃ (x5_1 : Int) (x12_1 : Int), v5 = .int .i64 x5_1∧v12 = .int .i64 x12_1∧Aside0 (gridhallref3_Cost.l0 kq a1 x5_1 l0_1 (l0_1.length : Int) x12_1 a0_0 l0_1 = some r)∧Aside0 (kq ≤ k)∧Aside0 (w'.heap[gb114]? = some (.cells #[.string a0_0, (.slice A0_1 l0_1.length c0_1)] 29 (0, 0)))∧Aside0 (Below w.heap.size w w'))
 case atStart=>exact ⟨(0),(0),rs_,rs_, H', ⟨Nat.le_refl _⟩,⟨bq_ BK114.out⟩,⟨hb1_ HB.out GE114.out⟩⟩
 clear H';(try clear c1);(try clear p2);(try clear hcz4_0);(try clear hcz4_1);(try clear hfz4_0);(try clear hfz4_1);obtain ⟨x5_1, x12_1, rfl, rfl, HA, HK1, BK114, HB⟩:=hrel;obtain _|k1:=gk
 ·exact absurd HA.out (by simp [gridhallref3_Cost.l0])
 have H:=HA.out;clear HA;simp only [gridhallref3_Cost.l0] at H
 by_cases c5 : x12_1 < (l0_1.length : Int)
 ·rw [if_pos c5] at H
  have c5b0:=decide_eq_true c5;clear c5
  obtain ⟨c6,H⟩:=gi_ H;have c6b0:=decide_eq_true c6;clear c6
  obtain ⟨c7,H⟩:=gi_ H;have c7b0:=decide_eq_true c7;clear c7;replace H:=Option.bind_eq_some_iff.mp H;obtain ⟨t117, A80, H⟩:=H;replace H : (gridhallref3_Cost.l0 k1 a1 (wrap64 (x5_1 + (wrap64 (((rd_T41 l0_1 x12_1).f1) * (wrap64 ((mn (mx a1 t117) (wrap64 (t117 + ((rd_T41 l0_1 x12_1).f0)))) - t117)))))) l0_1 (l0_1.length : Int) (wrap64 (x12_1 + 1)) a0_0 l0_1) = some r:=H;have A8:=k0_ A80;clear A80;obtain ⟨ji9, hji9⟩ : ∃ j_ : Int, (mx a1 t117) = j_:=⟨_, rfl⟩;replace H : (gridhallref3_Cost.l0 k1 a1 (wrap64 (x5_1 + (wrap64 (((rd_T41 l0_1 x12_1).f1) * (wrap64 ((mn (ji9) (wrap64 (t117 + ((rd_T41 l0_1 x12_1).f0)))) - t117)))))) l0_1 (l0_1.length : Int) (wrap64 (x12_1 + 1)) a0_0 l0_1) = some r:=by first|(rw [hji9] at H;exact H)|(simp only [hji9] at H ⊢;exact H)
  (try rw [hji9] at A8);have hji9_ : (if a1 < t117 then t117 else a1) = ji9:=hji9;obtain ⟨ji10, hji10⟩ : ∃ j_ : Int, (mn (ji9) (wrap64 (t117 + ((rd_T41 l0_1 x12_1).f0)))) = j_:=⟨_, rfl⟩;replace H : (gridhallref3_Cost.l0 k1 a1 (wrap64 (x5_1 + (wrap64 (((rd_T41 l0_1 x12_1).f1) * (wrap64 ((ji10) - t117)))))) l0_1 (l0_1.length : Int) (wrap64 (x12_1 + 1)) a0_0 l0_1) = some r:=by first|(rw [hji10] at H;exact H)|(simp only [hji10] at H ⊢;exact H)
  (try rw [hji10] at A8);have hji10_ : (if (wrap64 (t117 + ((rd_T41 l0_1 x12_1).f0))) < (ji9) then (wrap64 (t117 + ((rd_T41 l0_1 x12_1).f0))) else (ji9)) = ji10:=hji10;have H':=k0_ H;clear H;have p115 : 0 ≤ (x12_1 : Int):=of_decide_eq_true as_;have q115 : x12_1 < (l0_1.length : Int):=of_decide_eq_true as_;obtain ⟨ad115, e115, hx115_0, hx115_1⟩:=at_T41 HR0_1.out x12_1 p115 q115;cases e115;replace hx115_0:=bt_ HB.out hx115_0;replace hx115_1:=bt_ HB.out hx115_1;replace p115:=eq_true p115;replace q115:=eq_true q115
  go_wp2_with (first|((with_reducible refine gate_dst (N:=7) rfl ?_);refine box_event ?hg (N:=7) ?hd (cs:=#[.int .i64 0, .int .i64 0]) (t:=41) ?hr ?_;(case hd=>rfl);(case hg=>rfl);(case hr=>first|(go_simp;done)|(go_simp;rfl));intro gb116 hg w11 hbox hb;have BK116:=k0_ (hbox);have GW116:=k0_ ((by rw [hg];exact (below_size (hb1_ HB.out GE114.out)) : w.heap.size ≤ gb116));have GE116:=k0_ ((by rw [hg];exact (below_size (hb1_ HB.out GE114.out)) : w.heap.size ≤ gb116));replace HB:=k0_ (below_step (hb1_ HB.out GE114.out) hb);have NB114_116:=k0_ ((by rw [hg];exact Nat.ne_of_lt (blk_lt (g:=gb114) (o:=.cells #[.string a0_0, .slice (some ad115) l0_1.length c0_1] 29 (0, 0)) (bq_ BK114.out)) : gb114 ≠ gb116));have NB116_114:=k0_ ((by rw [hg];exact Nat.ne_of_gt (blk_lt (g:=gb114) (o:=.cells #[.string a0_0, .slice (some ad115) l0_1.length c0_1] 29 (0, 0)) (bq_ BK114.out)) : gb116 ≠ gb114));replace BK114:=k0_ (blk_below (g:=gb114) (o:=.cells #[.string a0_0, .slice (some ad115) l0_1.length c0_1] 29 (0, 0)) (bq_ BK114.out) hb);clear hb hbox hg;have hnb12:=NB116_114.out;have hnc12:=NB114_116.out;obtain ⟨hcz13_0,hcz13_1⟩:=bc2_ BK116.out;obtain ⟨hfz13_0,hfz13_1⟩:=bf2_ BK116.out;obtain ⟨hcz14_0,hcz14_1⟩:=bc2_ BK114.out;obtain ⟨hfz14_0,hfz14_1⟩:=bf2_ BK114.out)|((with_reducible refine gate_callee (f:=38) rfl ?_);refine goesL_ (some 19) rfl rfl Try.func38 (by kernel_rfl) rfl #[.agg #[.string a0_0, .slice (some ad115) l0_1.length c0_1], .int .i64 x12_1] rfl mt_ ?_;(with_reducible refine (gridhallref3_Before.calls k1 a0_0 _ _ l0_1 x12_1 t117 _ ?side1 ?side2 A8.out).mono ?_);(case side1=>exact Kd.C_below HR0_1.out (hb2_ HB.out GE114.out GE116.out));(case side2=>exact HC0_1.out);rintro e w15 ⟨rfl, hb⟩;refine ⟨_, rfl, ?_⟩;replace BK114:=k0_ (blk_below (g:=gb114) (o:=.cells #[.string a0_0, .slice (some ad115) l0_1.length c0_1] 29 (0, 0)) (by (with_reducible repeat (first|refine blk_drewN ?_ _|refine blk_drew ?_|refine blk_alloc ?_ _));refine blk_far ?_ NB114_116.out _;(with_reducible repeat (first|refine blk_drewN ?_ _|refine blk_drew ?_|refine blk_alloc ?_ _));refine blk_far ?_ NB114_116.out _;(with_reducible repeat (first|refine blk_drewN ?_ _|refine blk_drew ?_|refine blk_alloc ?_ _));exact BK114.out) hb);replace BK116:=k0_ (blk_below (g:=gb116) (o:=.cells #[.int .i64 ((rd_T41 l0_1 x12_1).f0), .int .i64 ((rd_T41 l0_1 x12_1).f1)] 41 (0, 0)) (by (with_reducible repeat (first|refine blk_drewN ?_ _|refine blk_drew ?_|refine blk_alloc ?_ _));refine blk_put (cs:=#[.int .i64 ((rd_T41 l0_1 x12_1).f0), .int .i64 0]) ?_ 1 _ rfl;(with_reducible repeat (first|refine blk_drewN ?_ _|refine blk_drew ?_|refine blk_alloc ?_ _));refine blk_put (cs:=#[.int .i64 0, .int .i64 0]) ?_ 0 _ rfl;(with_reducible repeat (first|refine blk_drewN ?_ _|refine blk_drew ?_|refine blk_alloc ?_ _));exact BK116.out) hb);replace HB:=k0_ (below_step (hb2_ HB.out GE114.out GE116.out) hb);(try clear hb);(try clear hb2);(try clear hk);(try clear hi);obtain ⟨hcz16_0,hcz16_1⟩:=bc2_ BK116.out;obtain ⟨hfz16_0,hfz16_1⟩:=bf2_ BK116.out))
  go_roundg k1
  case measure=>have:=HK1.out;omega
  case rel=>exact ⟨(wrap64 (x5_1 + (wrap64 (((rd_T41 l0_1 x12_1).f1) * (wrap64 ((ji10) - t117)))))),(wrap64 (x12_1 + 1)),(by first|rfl|(simp;done)|(simp only [← hji10] <;> (first|rfl|simp))|(simp [*];done)),rs_, H', ⟨by have:=HK1.out;omega⟩,⟨bq_ BK114.out⟩,⟨hb2_ HB.out GE114.out GE116.out⟩⟩
 ·rw [if_neg c5] at H
  have c5b0:=decide_eq_false c5;clear c5;obtain rfl:=Option.some.inj H;go_wp2
  go_ret
  exact ⟨er_, hb1_ HB.out GE114.out⟩

/-! ### gridhallref3_Lists: function 20 -/
mutual
def gridhallref3_Lists.l0 : Nat → List Int → Int → List (List Int) → Int → Option ((List (List Int)))
 | 0, _, _, _, _ => none
 | k + 1, x0, x1, x5, x6 => if 0 < (x0.length : Int) then (if x6 ≤ (mn (rd x0 0) x1) then (if 1 ≤ (x0.length : Int) then ((gridhallref3_Lists.f k (x0.drop 1) (wrap64 (x1 - x6))).bind fun t126 => (gridhallref3_Lists.l1 k x0 x1 x5 x6 t126 (t126.length : Int) 0)) else (none)) else (some x5)) else (none)
def gridhallref3_Lists.l1 : Nat → List Int → Int → List (List Int) → Int → List (List Int) → Int → Int → Option ((List (List Int)))
 | 0, _, _, _, _, _, _, _ => none
 | k + 1, x0, x1, x5, x6, x30, x31, x32 => if x32 < x31 then (if 0 ≤ x32 then (if x32 < (x30.length : Int) then ((some (([x6] : List Int) : List Int)).bind fun y130 => (if y130.length + (rd_L2 x30 x32).length < 17592186044416 then (if x5.length < 5864062014805 then (gridhallref3_Lists.l1 k x0 x1 (x5 ++ [(y130 ++ (rd_L2 x30 x32))]) x6 x30 x31 (wrap64 (x32 + 1))) else (none)) else (none))) else (none)) else (none)) else (gridhallref3_Lists.l0 k x0 x1 x5 (wrap64 (x6 + 1)))
def gridhallref3_Lists.f : Nat → List Int → Int → Option ((List (List Int)))
 | 0, _, _ => none
 | k + 1, l0, a1 => if (l0.length : Int) = 0 then (if a1 = 0 then (some (([(([] : List Int))] : List (List Int)))) else (some ([] : List (List Int)))) else (gridhallref3_Lists.l0 k l0 a1 ([] : List (List Int)) 0)
end
theorem gridhallref3_Lists.mono_l : ∀ k, (∀ y0 y1, LeO (gridhallref3_Lists.f k y0 y1) (gridhallref3_Lists.f (k + 1) y0 y1)) ∧ (∀ y0 y1 y2 y3, LeO (gridhallref3_Lists.l0 k y0 y1 y2 y3) (gridhallref3_Lists.l0 (k + 1) y0 y1 y2 y3)) ∧ (∀ y0 y1 y2 y3 y4 y5 y6, LeO (gridhallref3_Lists.l1 k y0 y1 y2 y3 y4 y5 y6) (gridhallref3_Lists.l1 (k + 1) y0 y1 y2 y3 y4 y5 y6))
 | 0 => ⟨fun _ _ r h => by simp [gridhallref3_Lists.f] at h, fun _ _ _ _ r h => by simp [gridhallref3_Lists.l0] at h, fun _ _ _ _ _ _ _ r h => by simp [gridhallref3_Lists.l1] at h⟩
 | k + 1 => by
  obtain ⟨ih0, ih1, ih2⟩:=gridhallref3_Lists.mono_l k
  refine ⟨?_, ?_, ?_⟩
  ·intro y0 y1
   unfold gridhallref3_Lists.f
   repeat' first|(with_reducible first|exact ih0 _ _|exact ih1 _ _ _ _|exact ih2 _ _ _ _ _ _ _|exact LeO.refl _|exact LeO.none _|refine LeO.ite ?_ ?_|refine LeO.bind ?_ (fun _=>?_))|exact ih0 _ _|exact ih1 _ _ _ _|exact ih2 _ _ _ _ _ _ _|exact LeO.none _|refine LeO.ite ?_ ?_|refine LeO.bind ?_ (fun _=>?_)
  ·intro y0 y1 y2 y3
   unfold gridhallref3_Lists.l0
   repeat' first|(with_reducible first|exact ih0 _ _|exact ih1 _ _ _ _|exact ih2 _ _ _ _ _ _ _|exact LeO.refl _|exact LeO.none _|refine LeO.ite ?_ ?_|refine LeO.bind ?_ (fun _=>?_))|exact ih0 _ _|exact ih1 _ _ _ _|exact ih2 _ _ _ _ _ _ _|exact LeO.none _|refine LeO.ite ?_ ?_|refine LeO.bind ?_ (fun _=>?_)
  ·intro y0 y1 y2 y3 y4 y5 y6
   unfold gridhallref3_Lists.l1
   repeat' first|(with_reducible first|exact ih0 _ _|exact ih1 _ _ _ _|exact ih2 _ _ _ _ _ _ _|exact LeO.refl _|exact LeO.none _|refine LeO.ite ?_ ?_|refine LeO.bind ?_ (fun _=>?_))|exact ih0 _ _|exact ih1 _ _ _ _|exact ih2 _ _ _ _ _ _ _|exact LeO.none _|refine LeO.ite ?_ ?_|refine LeO.bind ?_ (fun _=>?_)
theorem gridhallref3_Lists.mono : ∀ a0 a1 k, LeO (gridhallref3_Lists.f k a0 a1) (gridhallref3_Lists.f (k + 1) a0 a1) := by
 intro a0 a1 k
 obtain ⟨ih0, ih1, ih2⟩:=gridhallref3_Lists.mono_l k
 exact ih0 a0 a1
set_option maxHeartbeats 8000000 in
set_option maxRecDepth 100000 in
theorem gridhallref3_Lists.calls (k : Nat) : ∀ (A0 : Option Addr) (c0 : Nat) (l0 : List Int) (a1 : Int) (r : List (List Int)) (w : World) (hr0 : Kd.C (Kd.int .i64) w A0 l0.length l0) (hc0 : l0.length ≤ c0) (h : gridhallref3_Lists.f k l0 a1 = some r),
  Calls Try.prog 20 #[.slice A0 l0.length c0, .int .i64 a1] w fun e w' => ∃ v0_ : Value, e = .returned (v0_) ∧ Kd.N (Kd.slice 3 (Kd.int .i64)) 23 w' w.heap.size (fun k_ => (w.heap.size ≤ k_)) v0_ r ∧ Below w.heap.size w w' := by
 induction k using Nat.strongRecOn with
 | _ k ih =>
 intro A0 c0 l0 a1 r w hr0 hc0 h
 cases k with
 | zero => exact absurd h (by simp [gridhallref3_Lists.f])
 | succ k =>
 simp only [gridhallref3_Lists.f] at h;have HR0:=k0_ hr0;have HC0:=k0_ hc0;clear hr0 hc0;have HB:=k0_ (Below.refl w.heap.size w);have H : (if (l0.length : Int) = 0 then (if a1 = 0 then (some (([(([] : List Int))] : List (List Int)))) else (some ([] : List (List Int)))) else (gridhallref3_Lists.l0 k l0 a1 ([] : List (List Int)) 0)) = some r:=h;clear h
 by_cases c3 : (l0.length : Int) = 0
 ·rw [if_pos c3] at H
  have c3b0:=beq_iff_eq.mpr c3;have c3b1:=bne_eq_false_iff_eq.mpr c3;clear c3
  by_cases c4 : a1 = 0
  ·rw [if_pos c4] at H
   have c4b0:=beq_iff_eq.mpr c4;have c4b1:=bne_eq_false_iff_eq.mpr c4;clear c4;obtain ⟨y118, hy118⟩ : ∃ y_ : List Int, y_ = (([] : List Int)):=⟨_, rfl⟩;replace H : (some (([y118] : List (List Int)))) = some r:=by first|(rw [hy118];with_reducible exact H)|(have H2_:=(Option.bind_some _ _).symm.trans H;rw [hy118];with_reducible exact H2_)|(have H2_:=(Option.bind_some _ _).symm.trans H;with_reducible exact H2_)|with_reducible exact H|(rw [hy118];exact H)|exact H
   have Ny118:=k0_ hy118;clear hy118;obtain ⟨y121, hy121⟩ : ∃ y_ : List (List Int), y_ = (([y118] : List (List Int))):=⟨_, rfl⟩;replace H : (some y121) = some r:=by first|(rw [hy121];with_reducible exact H)|(have H2_:=(Option.bind_some _ _).symm.trans H;rw [hy121];with_reducible exact H2_)|(have H2_:=(Option.bind_some _ _).symm.trans H;with_reducible exact H2_)|with_reducible exact H|(rw [hy121];exact H)|exact H
   have Ny121:=k0_ hy121;clear hy121;obtain rfl:=Option.some.inj H
   go_enter Try.func20, Try.ntmps20
   go_wp2_with (first|((with_reducible refine gate_dst (N:=14) rfl ?_);refine Kd.R_lit (Kd.int .i64) _ 3 ?hg (N:=14) ?hd (xs:=([] : List Int)) (inner:=[]) (ok:=fun _=>True) (okp:=fun _=>True) ?hr ?hp (fun _ hk=>hk) trivial (Below.refl _ _) (Nat.le_refl _) (by simp) ?_;(case hd=>rfl);(case hg=>rfl);(case hr=>first|(go_simp;done)|(go_simp;rfl));(case hp=>exact (Reps.none _ _));intro v119 w5 ho6 hb hg_ hnew_;clear hg_ hnew_;(first|rw [← Ny118.out] at ho6|(simp only [Int.reduceToNat] at ho6;rw [← Ny118.out] at ho6));have HO120:=k0_ (Kd.R_lower (Kd.R_newM (M:=fun k_=>(w.heap.size ≤ k_)) ho6 (below_size (hb0_ HB.out)) (fun k_ h_=>h_)) (below_size (hb0_ HB.out)));replace HB:=k0_ (below_step (hb0_ HB.out) hb);clear hb ho6;obtain ⟨Ao7, co7, eo7⟩:=Kd.R_slice HO120.out;subst eo7)|((with_reducible refine gate_dst (N:=15) rfl ?_);refine Kd.N_lit (Kd.slice 3 (Kd.int .i64)) _ 23 ?hg (N':=15) ?hd (xs:=([y118] : List (List Int))) (inner:=[.slice Ao7 y118.length co7]) (ok:=(fun k_=>(w.heap.size ≤ k_))) (okp:=(fun k_=>(w.heap.size ≤ k_))) ?hr ?hp (fun _ hk=>hk) ((show ∀ k_, w5.heap.size ≤ k_ → (fun k_=>(w.heap.size ≤ k_)) k_ from fun k_ hk=>(Nat.le_trans (below_size (hb0_ HB.out)) hk)) _ (Nat.le_refl _)) (Below.refl _ _) (Nat.le_refl _) (by simp) ?_;(case hd=>rfl);(case hg=>rfl);(case hr=>first|(go_simp;done)|(go_simp;rfl));(case hp=>exact (Reps.one (show Kd.FK (Kd.slice 3 (Kd.int .i64)) _ _ y118 [.slice Ao7 y118.length co7] from (Kd.FK_slice_mk (Kd.R_reads' (Kd.R_mono (ok':=(fun k_=>(w.heap.size ≤ k_))) (HO120.out) (fun k_ hk=>hk.1))).2.1 (Kd.R_F (Kd.R_mono (ok':=(fun k_=>(w.heap.size ≤ k_))) (HO120.out) (fun k_ hk=>hk.1))))) (Reps.none _ _)));intro v122 w8 ho9 hb hg_ hnew_;clear hg_ hnew_;(first|rw [← Ny121.out] at ho9|(simp only [Int.reduceToNat] at ho9;rw [← Ny121.out] at ho9));have HO123:=k0_ (Kd.N_lower ho9 (below_size (hb0_ HB.out)));replace HB:=k0_ (below_step (hb0_ HB.out) hb);clear HO120;clear hb ho9))
   go_ret
   exact ⟨_, er_, by (with_reducible repeat (first|apply Kd.N_alloc|apply Kd.N_drewN|apply Kd.N_drew));exact HO123.out, hb0_ HB.out⟩
  ·rw [if_neg c4] at H
   have c4b0:=beq_eq_false_iff_ne.mpr c4;have c4b1:=bne_iff_ne.mpr c4;obtain rfl:=Option.some.inj H
   go_enter Try.func20, Try.ntmps20
   go_wp2
   go_ret
   exact ⟨_, er_, by first|exact Kd.S_nil _ _ _ _ _|exact Kd.N_nil _ _ _ _ _|exact Kd.V_nil _ _ _ _ _|exact Kd.Q_nil _ _ _ _ _|exact Kd.R_nil _ _ _ _ _, hb0_ HB.out⟩
 ·rw [if_neg c3] at H
  have c3b0:=beq_eq_false_iff_ne.mpr c3;have c3b1:=bne_iff_ne.mpr c3;have c3b2 : ¬ (l0 = []):=fun h_=>c3 (by rw [h_];rfl)
  have H':=k0_ H;clear H
  go_enter Try.func20, Try.ntmps20
  go_wp2;(try simp only [Act.put, q1_,q3_,q2_])
  go_loopg [5, 6] k (fun kq v5 v6 w'=>∃ (x5_1 : List (List Int)) (x6_1 : Int), v6 = .int .i64 x6_1∧Aside0 (gridhallref3_Lists.l0 kq l0 a1 x5_1 x6_1 = some r)∧Aside0 (kq ≤ k)∧Aside0 (Kd.N (Kd.slice 3 (Kd.int .i64)) 23 w' w.heap.size (fun k_=>(w.heap.size ≤ k_)) v5 x5_1)∧Aside0 (Below w.heap.size w w'))
  case atStart=>exact ⟨(([] : List (List Int))),(0),rs_, H', ⟨Nat.le_refl _⟩,⟨by first|exact Kd.S_nil _ _ _ _ _|exact Kd.N_nil _ _ _ _ _|exact Kd.V_nil _ _ _ _ _|exact Kd.Q_nil _ _ _ _ _|exact Kd.R_nil _ _ _ _ _⟩,⟨hb0_ HB.out⟩⟩
  clear H';(try clear c2);(try clear p2);(try clear c3);(try clear c3b0);(try clear c3b1);(try clear c3b2);(try clear c4);(try clear c4b0);(try clear c4b1);obtain ⟨x5_1, x6_1, rfl, HA, HK1, HO_5, HB⟩:=hrel;obtain _|k1:=gk
  ·exact absurd HA.out (by simp [gridhallref3_Lists.l0])
  have H:=HA.out;clear HA;simp only [gridhallref3_Lists.l0] at H
  by_cases c10 : 0 < (l0.length : Int)
  ·rw [if_pos c10] at H
   have c10b0:=decide_eq_true c10;have c10b1 : decide (0 < l0.length) = true:=decide_eq_true (by omega);clear c10;obtain ⟨ji11, hji11⟩ : ∃ j_ : Int, (mn (rd l0 0) a1) = j_:=⟨_, rfl⟩;replace H : (if x6_1 ≤ (ji11) then (if 1 ≤ (l0.length : Int) then ((gridhallref3_Lists.f k1 (l0.drop 1) (wrap64 (a1 - x6_1))).bind fun t126=>(gridhallref3_Lists.l1 k1 l0 a1 x5_1 x6_1 t126 (t126.length : Int) 0)) else (none)) else (some x5_1)) = some r:=by first|(rw [hji11] at H;exact H)|(simp only [hji11] at H ⊢;exact H)
   have hji11_ : (if a1 < (rd l0 0) then a1 else (rd l0 0)) = ji11:=hji11
   by_cases c12 : x6_1 ≤ (ji11)
   rw [if_pos c12] at H;have c12b0:=decide_eq_true c12;clear c12
   focus
    by_cases c13 : 1 ≤ (l0.length : Int)
    rw [if_pos c13] at H;have c13b0:=eq_true c13;have c13b1:=decide_eq_true c13;clear c13;replace H:=Option.bind_eq_some_iff.mp H;obtain ⟨t126, A140, H⟩:=H;replace H : (gridhallref3_Lists.l1 k1 l0 a1 x5_1 x6_1 t126 (t126.length : Int) 0) = some r:=H;have A14:=k0_ A140;clear A140;have H':=k0_ H;clear H;rotate_left;rw [if_neg c13] at H
    exact absurd H (by simp)
   rotate_left;rw [if_neg c12] at H;have c12b0:=decide_eq_false c12;clear c12;obtain rfl:=Option.some.inj H;rotate_left
   all_goals
    have p124 : 0 ≤ (0 : Int):=(by omega);have q124 : 0 < (l0.length : Int):=of_decide_eq_true as_;obtain ⟨ad124, e124, hx124_0⟩:=Kd.at_int HR0.out 0 p124 q124;cases e124;have qi124 : (0 < l0.length) = True:=eq_true (by omega);(try rw [show ((0 : Int)).toNat = 0 from rfl] at hx124_0);(try rw [Addr.add_zero'] at hx124_0);replace hx124_0:=bt_ HB.out hx124_0;replace p124:=eq_true p124;replace q124:=eq_true q124
   ·obtain ⟨i015, hi015, _, hsz15, _⟩:=info_parts info3
    obtain ⟨A15, hcut15, hA15, hC15⟩:=print_drop_of (P:=Try.prog) (Value.int .i64) 0 23 3 .i64 Try.underlying23 hi015 hsz15 (some ad124) c0 l0 1 (by omega) (of_decide_eq_true as_) HC0.out;have HR125:=k0_ (Kd.C_of_reads (h1:=fun _=>rfl) (hA15 _ (Kd.reads_of_C HR0.out)));have HC125:=k0_ hC15;clear hA15 hC15 hi015 hsz15
    go_wp2_with (first|((with_reducible refine gate_callee (f:=20) rfl ?_);refine goesL_ (some 30) rfl rfl Try.func20 (by kernel_rfl) rfl #[.slice A15 (l0.drop 1).length (c0 - 1), .int .i64 (wrap64 (a1 - x6_1))] rfl (by (try simp only [List.map_toArray, List.map_cons, List.map_nil]);first|done|(rw [show (l0.drop 1).length = (l0.length - 1) from List.length_drop] <;> rfl)|rfl|(simp only [List.length_drop, List.length_take];rfl)) ?_;(with_reducible refine (ih k1 (by have:=HK1.out;omega) _ _ (l0.drop 1) (wrap64 (a1 - x6_1)) t126 _ ?side1 ?side2 A14.out).mono ?_);(case side1=>repeat (first|exact (Kd.C_below HR125.out HB.out)|(with_reducible refine Kd.C_alloc ?_ _)|(with_reducible refine Kd.C_drewN ?_ _)|(with_reducible refine Kd.C_drew ?_)));(case side2=>exact HC125.out);rintro e w16 ⟨v127, rfl, ho0, hb⟩;refine ⟨_, rfl, ?_⟩;have HO128:=k0_ (Kd.N_lower (Kd.N_mono (ok':=fun k_=>(w.heap.size ≤ k_)∧some k_ ≠ (u5 : Value).ownBlock) ho0 (fun k_ hk_=>⟨(Nat.le_trans (below_size (hb0_ HB.out)) hk_),(Kd.fresh' (Kd.N_lt (nq_ HO_5.out)) k_ hk_)⟩)) (below_size (hb0_ HB.out)));replace HO_5:=k0_ (Kd.N_elder' (nq_ HO_5.out) (Kd.N_base ho0) hb);replace HB:=k0_ (below_step (hb0_ HB.out) hb);(try clear hb);(try clear hb2);(try clear hk);(try clear hi);(try clear ho0);obtain ⟨Ao17, co17, eo17⟩:=Kd.N_slice HO128.out;subst eo17))
    (try simp only [Act.put, q1_,q3_,q2_])
    go_loopg [5, 32] k1 (fun kq v5 v32 w'=>∃ (x5_2 : List (List Int)) (x32_2 : Int), v32 = .int .i64 x32_2∧Aside0 (gridhallref3_Lists.l1 kq l0 a1 x5_2 x6_1 t126 (t126.length : Int) x32_2 = some r)∧Aside0 (kq ≤ k1)∧Aside0 (Kd.N (Kd.slice 3 (Kd.int .i64)) 23 w' w.heap.size (fun k_=>(w.heap.size ≤ k_)∧some k_ ≠ ((.slice Ao17 t126.length co17) : Value).ownBlock) v5 x5_2)∧Aside0 (Kd.N (Kd.slice 3 (Kd.int .i64)) 23 w' w.heap.size (fun k_=>(w.heap.size ≤ k_)∧some k_ ≠ (v5 : Value).ownBlock) (.slice Ao17 t126.length co17) t126)∧Aside0 (Below w.heap.size w w'))
    case atStart=>exact ⟨(x5_1),(0),rs_, H', ⟨Nat.le_refl _⟩,⟨by (with_reducible repeat (first|apply Kd.N_alloc|apply Kd.N_drewN|apply Kd.N_drew));exact HO_5.out⟩,⟨by (with_reducible repeat (first|apply Kd.N_alloc|apply Kd.N_drewN|apply Kd.N_drew));exact HO128.out⟩,⟨hb0_ HB.out⟩⟩
    clear H';(try clear c1);(try clear p1);(try clear q1);(try clear hx1);(try clear qi1);(try clear c2);(try clear p2);(try clear c3);(try clear c3b0);(try clear c3b1);(try clear c3b2);(try clear c4);(try clear c4b0);(try clear c4b1);(try clear p6);(try clear c10);(try clear c10b0);(try clear c10b1);(try clear c12);(try clear c12b0);(try clear p12);(try clear q12);(try clear hx12);(try clear qi12);(try clear c13);(try clear c13b0);(try clear c13b1);(try clear hx124_0);(try clear p124);(try clear p2);(try clear q124);obtain ⟨x5_2, x32_2, rfl, HA, HK2, HO_5, HO_30, HB⟩:=hrel;obtain _|k2:=gk
    ·exact absurd HA.out (by simp [gridhallref3_Lists.l1])
    have H:=HA.out;clear HA;simp only [gridhallref3_Lists.l1] at H
    by_cases c18 : x32_2 < (t126.length : Int)
    ·rw [if_pos c18] at H
     have c18b0:=decide_eq_true c18;clear c18
     obtain ⟨c19,H⟩:=gi_ H;have c19b0:=decide_eq_true c19;clear c19
     obtain ⟨c20,H⟩:=gi_ H;have c20b0:=decide_eq_true c20;clear c20;obtain ⟨y130, hy130⟩ : ∃ y_ : List Int, y_ = (([x6_1] : List Int)):=⟨_, rfl⟩;replace H : (if y130.length + (rd_L2 t126 x32_2).length < 17592186044416 then (if x5_2.length < 5864062014805 then (gridhallref3_Lists.l1 k2 l0 a1 (x5_2 ++ [(y130 ++ (rd_L2 t126 x32_2))]) x6_1 t126 (t126.length : Int) (wrap64 (x32_2 + 1))) else (none)) else (none)) = some r:=by first|(rw [hy130];with_reducible exact H)|(have H2_:=(Option.bind_some _ _).symm.trans H;rw [hy130];with_reducible exact H2_)|(have H2_:=(Option.bind_some _ _).symm.trans H;with_reducible exact H2_)|with_reducible exact H|(rw [hy130];exact H)|exact H
     have Ny130:=k0_ hy130;clear hy130
     obtain ⟨c21,H⟩:=gi_ H;have LMc21:=k0_ c21;clear c21;obtain ⟨y133, hy133⟩ : ∃ y_ : List Int, y_ = (y130 ++ (rd_L2 t126 x32_2)):=⟨_, rfl⟩;replace H : (if x5_2.length < 5864062014805 then (gridhallref3_Lists.l1 k2 l0 a1 (x5_2 ++ [y133]) x6_1 t126 (t126.length : Int) (wrap64 (x32_2 + 1))) else (none)) = some r:=by first|(rw [hy133];with_reducible exact H)|(have H2_:=(Option.bind_some _ _).symm.trans H;rw [hy133];with_reducible exact H2_)|(have H2_:=(Option.bind_some _ _).symm.trans H;with_reducible exact H2_)|with_reducible exact H|(rw [hy133];exact H)|exact H
     have Ny133:=k0_ hy133;clear hy133
     obtain ⟨c22,H⟩:=gi_ H;have LMc22:=k0_ c22;clear c22;obtain ⟨y136, hy136⟩ : ∃ y_ : List (List Int), y_ = (x5_2 ++ [y133]):=⟨_, rfl⟩;replace H : (gridhallref3_Lists.l1 k2 l0 a1 y136 x6_1 t126 (t126.length : Int) (wrap64 (x32_2 + 1))) = some r:=by first|(rw [hy136];with_reducible exact H)|(have H2_:=(Option.bind_some _ _).symm.trans H;rw [hy136];with_reducible exact H2_)|(have H2_:=(Option.bind_some _ _).symm.trans H;with_reducible exact H2_)|with_reducible exact H|(rw [hy136];exact H)|exact H
     have Ny136:=k0_ hy136;clear hy136;have H':=k0_ H;clear H;have p129 : 0 ≤ (x32_2 : Int):=of_decide_eq_true as_;have q129 : x32_2 < (t126.length : Int):=of_decide_eq_true as_;obtain ⟨ad129, A129_0, c129_0, e129, hx129_0, hl129_0, hi129_0⟩:=at_L2 (Kd.N_reads' HO_30.out).2.2 x32_2 p129 q129;cases e129;obtain ⟨ce129, hce129, hMe129, hcc129⟩:=Kd.N_get HO_30.out [] x32_2 p129 (by first|exact q129|exact of_decide_eq_true as_|(have e_:=(Kd.N_reads' HO_30.out).1;omega));obtain ⟨ua129_0, uc129_0, rfl, ul129_0, ge129_0⟩:=Kd.FK_slice_open hMe129;have hv129_0:=hcc129 0 _ rfl;rw [Nat.add_zero, show ((Kd.slice 3 (Kd.int .i64))).sz = 1 from rfl, Nat.mul_one] at hv129_0;replace hv129_0:=Option.some.inj (hv129_0.symm.trans hx129_0)
     injection hv129_0 with hva_ hvn_ hvc_
     rw [hva_] at ge129_0;rw [hvc_] at ul129_0;have HL129_0:=k0_ (show Kd.V (Kd.int .i64) 3 _ w.heap.size _ _ (rd_L2 t126 x32_2) from Kd.V_mk ul129_0 ge129_0);clear hva_ hvn_ hvc_ ge129_0 ul129_0;clear hcc129 hce129;have HR129_0:=k0_ hi129_0;have HC129_0:=k0_ hl129_0;clear hi129_0 hl129_0;replace p129:=eq_true p129;replace q129:=eq_true q129
     go_wp2_with (first|((with_reducible refine gate_dst (N:=38) rfl ?_);refine Kd.R_lit (Kd.int .i64) _ 3 ?hg (N:=38) ?hd (xs:=([x6_1] : List Int)) (inner:=[.int .i64 x6_1]) (ok:=fun _=>True) (okp:=fun _=>True) ?hr ?hp (fun _ hk=>hk) trivial (Below.refl _ _) (Nat.le_refl _) (by simp) ?_;(case hd=>rfl);(case hg=>rfl);(case hr=>first|(go_simp;done)|(go_simp;rfl));(case hp=>exact (Reps.one (show Kd.M (Kd.int .i64) _ _ _ x6_1 [.int .i64 x6_1] from rfl) (Reps.none _ _)));intro v131 w23 ho24 hb hg_ hnew_;clear hg_ hnew_;(first|rw [← Ny130.out] at ho24|(simp only [Int.reduceToNat] at ho24;rw [← Ny130.out] at ho24));replace HO_5:=k0_ (Kd.N_elder' (nq_ HO_5.out) (Kd.R_base ho24) hb);replace HO_30:=k0_ (Kd.N_elder' (nq_ HO_30.out) (Kd.R_base ho24) hb);replace HL129_0:=k0_ (Kd.V_elder' (vq_ HL129_0.out) (Kd.R_base ho24) hb);have HO132:=k0_ (Kd.R_lower (Kd.R_newM (M:=fun k_=>(w.heap.size ≤ k_)) ho24 (below_size (hb0_ HB.out)) (fun k_ h_=>h_)) (below_size (hb0_ HB.out)));replace HR129_0:=k0_ (Kd.C_below (by repeat (first|(with_reducible exact HR129_0.out)|(with_reducible refine Kd.C_alloc ?_ _)|(with_reducible refine Kd.C_drewN ?_ _)|(with_reducible refine Kd.C_drew ?_)|exact HR129_0.out)) hb);replace HB:=k0_ (below_step (hb0_ HB.out) hb);clear hb ho24)|((with_reducible refine gate_builtin (b:=.append) (xs:=#[.tmp 38, .tmp 39]) rfl ?_);at_builtin;refine Kd.R_append_rows (Kd.int .i64) (w0:=w) w.heap.size rfl (.tmp 38) (.tmp 39) 23 3 (.int .i64 0) 8 rfl Try.underlying23 info3 rfl (by decide) (by omega) v131 y130 (rd_L2 t126 x32_2) _ _ _ (fun k_=>(w.heap.size ≤ k_)) (fun _=>False) rfl rfl ?aO ?aR (fun _ _ h=>h) (fun _ h=>h.elim) ?aF ?aB ?aS ?aL ?_;(case aR=>repeat (first|exact (by repeat (first|(with_reducible exact HR129_0.out)|(with_reducible refine Kd.C_alloc ?_ _)|(with_reducible refine Kd.C_drewN ?_ _)|(with_reducible refine Kd.C_drew ?_)|exact HR129_0.out))|(with_reducible refine Kd.C_alloc ?_ _)|(with_reducible refine Kd.C_drewN ?_ _)|(with_reducible refine Kd.C_drew ?_)));(case aB=>exact (hb0_ HB.out));(case aF=>exact (fun k_ hk=>(Nat.le_trans (below_size (hb0_ HB.out)) hk)));(case aO=>exact (by (with_reducible repeat (first|apply Kd.R_alloc|apply Kd.R_drewN|apply Kd.R_drew));exact Kd.R_mono HO132.out (fun _ hk=>hk.1)));(case aS=>exact (below_size (hb0_ HB.out)));(case aL=>have:=LMc21.out;omega);intro v134 w25 ho hb hg hat;rw [← Ny133.out] at ho;replace HO_5:=k0_ (Kd.N_afterv (ok:=(fun k_=>(w.heap.size ≤ k_)∧some k_ ≠ (.slice (some ad129) t126.length co17 : Value).ownBlock)) (nq_ HO_5.out) hg hat);replace HO_30:=k0_ (Kd.N_afterv (ok:=(fun k_=>(w.heap.size ≤ k_)∧some k_ ≠ (u5 : Value).ownBlock)) (nq_ HO_30.out) hg hat);replace HL129_0:=k0_ (Kd.V_afterv (ok:=(fun k_=>(w.heap.size ≤ k_)∧some k_ ≠ (u5 : Value).ownBlock∧some k_ ≠ (.slice (some ad129) t126.length co17 : Value).ownBlock)) (by (with_reducible repeat (first|apply Kd.V_alloc|apply Kd.V_drewN|apply Kd.V_drew));exact Kd.V_mono HL129_0.out (fun _ hk=>⟨⟨hk.1.1.1, ⟨hk.1.1.2, hk.1.2⟩⟩, hk.2⟩)) hg hat);replace HB:=k0_ (hb);have HO135:=k0_ (ho);clear HO132;clear ho hb hg hat;obtain ⟨Ao27, co27, eo27⟩:=Kd.R_slice HO135.out;subst eo27)|((with_reducible refine gate_builtin (b:=.append) (xs:=#[.tmp 36, .tmp 41]) rfl ?_);at_builtin;refine Kd.N_append (Kd.slice 3 (Kd.int .i64)) (w0:=w) w.heap.size rfl (.tmp 36) (.tmp 41) 46 23 (.slice none 0 0) 24 rfl Try.underlying46 info23 rfl (by decide) (by omega) u5 x5_2 y133 [.slice Ao27 y133.length co27] (fun k_=>(w.heap.size ≤ k_)∧some k_ ≠ (.slice (some ad129) t126.length co17 : Value).ownBlock) (fun k_=>((fun k_=>(w.heap.size ≤ k_)∧some k_ ≠ (.slice (some ad129) t126.length co17 : Value).ownBlock)) k_∧some k_ ≠ (u5 : Value).ownBlock) rfl rfl ?aP (fun _ hk=>hk) ?aF ?aO ?aB ?aS ?aL ?_;(case aP=>exact (Kd.FK_slice_mk (Kd.R_reads' (Kd.R_mono (ok':=(fun k_=>((fun k_=>(w.heap.size ≤ k_)∧some k_ ≠ (.slice (some ad129) t126.length co17 : Value).ownBlock)) k_∧some k_ ≠ (u5 : Value).ownBlock)) (Kd.R_apart' (Kd.R_apart' (HO135.out) (Kd.N_typed HO_30.out) (by decide)) (Kd.N_typed HO_5.out) (by decide)) (fun k_ hk=>⟨⟨hk.1.1, hk.1.2⟩, hk.2⟩))).2.1 (Kd.R_F (Kd.R_mono (ok':=(fun k_=>((fun k_=>(w.heap.size ≤ k_)∧some k_ ≠ (.slice (some ad129) t126.length co17 : Value).ownBlock)) k_∧some k_ ≠ (u5 : Value).ownBlock)) (Kd.R_apart' (Kd.R_apart' (HO135.out) (Kd.N_typed HO_30.out) (by decide)) (Kd.N_typed HO_5.out) (by decide)) (fun k_ hk=>⟨⟨hk.1.1, hk.1.2⟩, hk.2⟩)))));(case aB=>exact (hb0_ HB.out));(case aF=>exact (fun k_ hk=>⟨(Nat.le_trans (below_size (hb0_ HB.out)) hk), Kd.fresh' (Kd.N_lt (nq_ HO_30.out)) k_ hk⟩));(case aO=>exact (by (with_reducible repeat (first|apply Kd.N_alloc|apply Kd.N_drewN|apply Kd.N_drew));exact Kd.N_mono HO_5.out (fun _ hk=>⟨hk.1.1, hk.1.2⟩)));(case aS=>exact (below_size (hb0_ HB.out)));(case aL=>have:=LMc22.out;omega);intro v137 w26 ho hb hg hat;rw [← Ny136.out] at ho;replace HO_30:=k0_ (Kd.N_afterv (ok:=(fun k_=>(w.heap.size ≤ k_)∧some k_ ≠ (.slice Ao27 y133.length co27 : Value).ownBlock)) (by (with_reducible repeat (first|apply Kd.N_alloc|apply Kd.N_drewN|apply Kd.N_drew));exact Kd.N_mono HO_30.out (fun _ hk=>⟨⟨hk.1.1, hk.2⟩, hk.1.2⟩)) hg hat);replace HL129_0:=k0_ (Kd.V_afterv (ok:=(fun k_=>(w.heap.size ≤ k_)∧some k_ ≠ (.slice (some ad129) t126.length co17 : Value).ownBlock∧some k_ ≠ (.slice Ao27 y133.length co27 : Value).ownBlock)) (by (with_reducible repeat (first|apply Kd.V_alloc|apply Kd.V_drewN|apply Kd.V_drew));exact Kd.V_mono HL129_0.out (fun _ hk=>⟨⟨hk.1.1, ⟨hk.1.2.2, hk.2⟩⟩, hk.1.2.1⟩)) hg hat);replace HB:=k0_ (hb);have HO138:=k0_ (ho);clear HO_5;clear HO135;clear ho hb hg hat))
     go_roundg k2
     case measure=>have:=HK1.out;have:=HK2.out;omega
     case rel=>exact ⟨(y136),(wrap64 (x32_2 + 1)),rs_, H', ⟨by have:=HK1.out;have:=HK2.out;omega⟩,⟨by (with_reducible repeat (first|apply Kd.N_alloc|apply Kd.N_drewN|apply Kd.N_drew));exact HO138.out⟩,⟨by (with_reducible repeat (first|apply Kd.N_alloc|apply Kd.N_drewN|apply Kd.N_drew));exact Kd.N_mono HO_30.out (fun _ hk=>⟨hk.1.1, hk.2⟩)⟩,⟨hb0_ HB.out⟩⟩
    ·rw [if_neg c18] at H
     have c18b0:=decide_eq_false c18;clear c18;have H':=k0_ H;clear H;go_wp2
     go_roundg k2
     case measure=>have:=HK1.out;have:=HK2.out;omega
     case rel=>exact ⟨(x5_2),(wrap64 (x6_1 + 1)),rs_, H', ⟨by have:=HK1.out;have:=HK2.out;omega⟩,⟨by (with_reducible repeat (first|apply Kd.N_alloc|apply Kd.N_drewN|apply Kd.N_drew));exact Kd.N_mono HO_5.out (fun _ hk=>hk.1)⟩,⟨hb0_ HB.out⟩⟩
   ·go_wp2
    go_ret
    exact ⟨_, by first|rfl|(simp [errW_none, errW_some] <;> rfl)|(simp only [← hji11];first|rfl|(simp [errW_none, errW_some] <;> rfl))|(simp [*, errW_none, errW_some] <;> rfl), by (with_reducible repeat (first|apply Kd.N_alloc|apply Kd.N_drewN|apply Kd.N_drew));exact HO_5.out, hb0_ HB.out⟩
  ·rw [if_neg c10] at H
   exact absurd H (by simp)

end Go.Proofs.Ytekpnmeikibioaa.PHoursChanges
