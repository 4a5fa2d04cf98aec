/- Contracts of functions that HoursChanges reaches, a text of this session's own. -/
import Derived.Test.YtekpnmeikibioaaBox2
import Derived.Test.YtekpnmeikibioaaHHoursChangesy0
import Derived.Test.YtekpnmeikibioaaHHoursChangesy3
import Derived.Test.YtekpnmeikibioaaHHoursChangesy4
namespace Go.Proofs.Ytekpnmeikibioaa.PHoursChanges
open Go.RowKit Go.Proofs.YtekpnmeikibioaaW.PrintWords Go.Proofs.YtekpnmeikibioaaW.PrintLast Go.Proofs.YtekpnmeikibioaaW.PrintMore
attribute [local go_sem] max2_int min2_int max_two min_two max_three min_three max_four min_four   -- for this text's walks alone
set_option linter.unusedVariables false
set_option linter.unusedSimpArgs false

/-! ### offer_Cost: function 43 -/
mutual
def offer_Cost.j0 : Nat → Int → Bool → ByteArray → List (S41) → Option (Int × Int)
 | 0, _, _, _, _ => none
 | k + 1, x1, x23, x177000, x177001 => if x23 = true then (some (0, 4)) else (offer_Cost.l0 k x1 0 x177001 (x177001.length : Int) 0)
def offer_Cost.l0 : Nat → Int → Int → List (S41) → Int → Int → Option (Int × Int)
 | 0, _, _, _, _, _ => none
 | k + 1, x1, x7, x25, x26, x27 => if x27 < x26 then (if 0 ≤ x27 then (if x27 < (x25.length : Int) then (offer_Cost.l0 k (wrap64 (x1 - (mn x1 ((rd_T41 x25 x27).f0)))) (wrap64 (x7 + (wrap64 ((mn x1 ((rd_T41 x25 x27).f0)) * ((rd_T41 x25 x27).f1))))) x25 x26 (wrap64 (x27 + 1))) else (none)) else (none)) else (some (x7, 0))
end
def offer_Cost.f (k : Nat) (a0_0 : ByteArray) (l0_1 : List (S41)) (a1 : Int) : Option (Int × Int) := (offer_Check.f k a0_0 l0_1).bind fun t177 => (if t177 = 0 then (if a1 < 0 then (offer_Cost.j0 k a1 true a0_0 l0_1) else ((offer_Most.f k a0_0 l0_1).bind fun t178 => (offer_Cost.j0 k a1 (decide (a1 > t178)) a0_0 l0_1))) else (some (0, t177)))
theorem offer_Cost.mono_l : ∀ k, (∀ y0 y1 y2 y3, LeO (offer_Cost.j0 k y0 y1 y2 y3) (offer_Cost.j0 (k + 1) y0 y1 y2 y3)) ∧ (∀ y0 y1 y2 y3 y4, LeO (offer_Cost.l0 k y0 y1 y2 y3 y4) (offer_Cost.l0 (k + 1) y0 y1 y2 y3 y4))
 | 0 => ⟨fun _ _ _ _ r h => by simp [offer_Cost.j0] at h, fun _ _ _ _ _ r h => by simp [offer_Cost.l0] at h⟩
 | k + 1 => by
  obtain ⟨ih0, ih1⟩:=offer_Cost.mono_l k
  refine ⟨?_, ?_⟩
  ·intro y0 y1 y2 y3
   unfold offer_Cost.j0
   repeat' first|(with_reducible first|exact ih0 _ _ _ _|exact ih1 _ _ _ _ _|exact offer_Check.mono _ _ _|exact offer_Most.mono _ _ _|exact LeO.refl _|exact LeO.none _|refine LeO.ite ?_ ?_|refine LeO.bind ?_ (fun _=>?_))|exact ih0 _ _ _ _|exact ih1 _ _ _ _ _|exact offer_Check.mono _ _ _|exact offer_Most.mono _ _ _|exact LeO.none _|refine LeO.ite ?_ ?_|refine LeO.bind ?_ (fun _=>?_)
  ·intro y0 y1 y2 y3 y4
   unfold offer_Cost.l0
   repeat' first|(with_reducible first|exact ih0 _ _ _ _|exact ih1 _ _ _ _ _|exact offer_Check.mono _ _ _|exact offer_Most.mono _ _ _|exact LeO.refl _|exact LeO.none _|refine LeO.ite ?_ ?_|refine LeO.bind ?_ (fun _=>?_))|exact ih0 _ _ _ _|exact ih1 _ _ _ _ _|exact offer_Check.mono _ _ _|exact offer_Most.mono _ _ _|exact LeO.none _|refine LeO.ite ?_ ?_|refine LeO.bind ?_ (fun _=>?_)
theorem offer_Cost.mono : ∀ a0 a1 a2 k, LeO (offer_Cost.f k a0 a1 a2) (offer_Cost.f (k + 1) a0 a1 a2) := by
 intro a0 a1 a2 k
 obtain ⟨ih0, ih1⟩:=offer_Cost.mono_l k
 unfold offer_Cost.f
 repeat' first|(with_reducible first|exact ih0 _ _ _ _|exact ih1 _ _ _ _ _|exact offer_Check.mono _ _ _|exact offer_Most.mono _ _ _|exact LeO.refl _|exact LeO.none _|refine LeO.ite ?_ ?_|refine LeO.bind ?_ (fun _=>?_))|exact ih0 _ _ _ _|exact ih1 _ _ _ _ _|exact offer_Check.mono _ _ _|exact offer_Most.mono _ _ _|exact LeO.none _|refine LeO.ite ?_ ?_|refine LeO.bind ?_ (fun _=>?_)
set_option maxHeartbeats 8000000 in
set_option maxRecDepth 100000 in
theorem offer_Cost.calls (k : Nat) (a0_0 : ByteArray) (A0_1 : Option Addr) (c0_1 : Nat) (l0_1 : List (S41)) (a1 : Int) (r1 : Int) (r2 : Int) (w : World) (hr0_1 : Kd.C k41 w A0_1 l0_1.length l0_1) (hc0_1 : l0_1.length ≤ c0_1) (h : offer_Cost.f k a0_0 l0_1 a1 = some (r1, r2)) :
  Calls Try.prog 43 #[.agg #[.string a0_0, .slice A0_1 l0_1.length c0_1], .int .i64 a1] w fun e w' => e = .returned (.tuple #[.int .i64 r1, .int .i64 r2]) ∧ Below w.heap.size w w' := by
 have hu29:=Try.underlying29;have hu41:=Try.underlying41;have HR0_1:=k0_ hr0_1;have HC0_1:=k0_ hc0_1;clear hr0_1 hc0_1;have HB:=k0_ (Below.refl w.heap.size w);have H : ((offer_Check.f k a0_0 l0_1).bind fun t177=>(if t177 = 0 then (if a1 < 0 then (offer_Cost.j0 k a1 true a0_0 l0_1) else ((offer_Most.f k a0_0 l0_1).bind fun t178=>(offer_Cost.j0 k a1 (decide (a1 > t178)) a0_0 l0_1))) else (some (0, t177)))) = some (r1, r2):=h;clear h;replace H:=Option.bind_eq_some_iff.mp H;obtain ⟨t177, A30, H⟩:=H;replace H : (if t177 = 0 then (if a1 < 0 then (offer_Cost.j0 k a1 true a0_0 l0_1) else ((offer_Most.f k a0_0 l0_1).bind fun t178=>(offer_Cost.j0 k a1 (decide (a1 > t178)) a0_0 l0_1))) else (some (0, t177))) = some (r1, r2):=H;have A3:=k0_ A30;clear A30
 by_cases c4 : t177 = 0
 ·rw [if_pos c4] at H
  have c4b0:=beq_iff_eq.mpr c4;have c4b1:=bne_eq_false_iff_eq.mpr c4;clear c4;have HC5:=k0_ H;clear H
  go_enter Try.func43, Try.ntmps43
  go_upto_region 4 with (first|((with_reducible refine gate_dst (N:=2) rfl ?_);refine box_event ?hg (N:=2) ?hd (cs:=#[.string a0_0, .slice A0_1 l0_1.length c0_1]) (t:=29) ?hr ?_;(case hd=>rfl);(case hg=>rfl);(case hr=>first|(go_simp;done)|(go_simp;rfl));intro gb176 hg w6 hbox hb;have BK176:=k0_ (hbox);have GW176:=k0_ ((by rw [hg];exact (below_size (hb0_ HB.out)) : w.heap.size ≤ gb176));have GE176:=k0_ ((by rw [hg];exact (below_size (hb0_ HB.out)) : w.heap.size ≤ gb176));replace HB:=k0_ (below_step (hb0_ HB.out) hb);clear hb hbox hg;obtain ⟨hcz7_0,hcz7_1⟩:=bc2_ BK176.out;obtain ⟨hfz7_0,hfz7_1⟩:=bf2_ BK176.out)|((with_reducible refine gate_callee (f:=59) rfl ?_);refine goesL_ (some 12) rfl rfl Try.func59 (by kernel_rfl) rfl #[.agg #[.string a0_0, .slice A0_1 l0_1.length c0_1]] rfl mt_ ?_;(with_reducible refine (offer_Check.calls k a0_0 _ _ l0_1 t177 _ ?side1 ?side2 A3.out).mono ?_);(case side1=>repeat (first|exact (Kd.C_below HR0_1.out HB.out)|(with_reducible refine Kd.C_alloc ?_ _)|(with_reducible refine Kd.C_drewN ?_ _)|(with_reducible refine Kd.C_drew ?_)));(case side2=>exact HC0_1.out);rintro e w8 ⟨rfl, hb⟩;refine ⟨_, rfl, ?_⟩;replace BK176:=k0_ (blk_below (g:=gb176) (o:=.cells #[.string a0_0, .slice A0_1 l0_1.length c0_1] 29 (0, 0)) (bq_ BK176.out) hb);replace HB:=k0_ (below_step (hb1_ HB.out GE176.out) hb);(try clear hb);(try clear hb2);(try clear hk);(try clear hi)))
  (try simp only [Act.put, q1_,q2_,q3_])
  go_cut [23] (fun v23 wc=>∃ (kq : Nat) (x23_4 : Bool), v23 = .bool x23_4∧Aside0 (offer_Cost.j0 kq a1 x23_4 a0_0 l0_1 = some (r1, r2))∧Aside0 (kq ≤ k)∧Aside0 (wc.heap[gb176]? = some (.cells #[.string a0_0, (.slice A0_1 l0_1.length c0_1)] 29 (0, 0)))∧Aside0 (Below w.heap.size w wc))
  case first =>
   have H:=HC5.out;clear HC5
   by_cases c9 : a1 < 0
   ·rw [if_pos c9] at H
    have c9b0:=decide_eq_true c9;clear c9;(first|rw [c9b0]|(simp only [i64_w, i32_w];rw [c9b0])|skip);have H':=k0_ H;clear H;go_wp2
    go_meet
    case rel=>exact ⟨_, (true),rs_, H', ⟨by first|omega|exact Nat.le_refl _⟩,⟨bq_ BK176.out⟩,⟨hb1_ HB.out GE176.out⟩⟩
   ·rw [if_neg c9] at H
    have c9b0:=decide_eq_false c9;clear c9;(first|rw [c9b0]|(simp only [i64_w, i32_w];rw [c9b0])|skip);replace H:=Option.bind_eq_some_iff.mp H;obtain ⟨t178, A100, H⟩:=H;replace H : (offer_Cost.j0 k a1 (decide (a1 > t178)) a0_0 l0_1) = some (r1, r2):=H;have A10:=k0_ A100;clear A100;have H':=k0_ H;clear H;obtain ⟨hcz11_0,hcz11_1⟩:=bc2_ BK176.out;obtain ⟨hfz11_0,hfz11_1⟩:=bf2_ BK176.out
    go_wp2_with (first|(go_at_call 35;(with_reducible refine (offer_Most.calls k a0_0 _ _ l0_1 t178 _ ?side1 ?side2 A10.out).mono ?_);(case side1=>repeat (first|exact (Kd.C_below HR0_1.out HB.out)|(with_reducible refine Kd.C_alloc ?_ _)|(with_reducible refine Kd.C_drewN ?_ _)|(with_reducible refine Kd.C_drew ?_)));(case side2=>exact HC0_1.out);rintro e w12 ⟨rfl, hb⟩;replace BK176:=k0_ (blk_below (g:=gb176) (o:=.cells #[.string a0_0, .slice A0_1 l0_1.length c0_1] 29 (0, 0)) (bq_ BK176.out) hb);replace HB:=k0_ (below_step (hb1_ HB.out GE176.out) hb);(try clear hb);(try clear hb2);(try clear hk);(try clear hi)))
    go_meet
    case rel=>exact ⟨_, (decide (a1 > t178)),rs_, H', ⟨by first|omega|exact Nat.le_refl _⟩,⟨bq_ BK176.out⟩,⟨hb1_ HB.out GE176.out⟩⟩
  clear HC5;(try clear p2);(try clear c4);(try clear c4b0);(try clear c4b1);(try clear c5);(try clear c9);(try clear c9b0);(try clear hcz11_0);(try clear hcz11_1);(try clear hcz7_0);(try clear hcz7_1);(try clear hfz11_0);(try clear hfz11_1);(try clear hfz7_0);(try clear hfz7_1);obtain ⟨kq, x23_4, rfl, HA, HJ4, BK176, HB⟩:=hcut;obtain _|kj4:=kq
  ·exact absurd HA.out (by simp [offer_Cost.j0])
  have H:=HA.out;clear HA;simp only [offer_Cost.j0] at H
  by_cases c13 : x23_4 = true
  ·subst c13
   have H1 : (some (0, 4)) = some (r1, r2):=by rw [if_pos rfl] at H;exact H
   clear H;have H:=H1;clear H1;simp only [Option.some.injEq, Prod.mk.injEq] at H;obtain ⟨rfl, rfl⟩:=H;go_wp2
   go_ret2
   exact ⟨er_, hb1_ HB.out GE176.out⟩
  ·replace c13:=Bool.eq_false_iff.mpr c13
   subst c13;have H1 : (offer_Cost.l0 kj4 a1 0 l0_1 (l0_1.length : Int) 0) = some (r1, r2):=by rw [if_neg (show ¬ (false = true) by decide)] at H;exact H
   clear H;have H:=H1;clear H1;have H':=k0_ H;clear H;obtain ⟨hcz14_0,hcz14_1⟩:=bc2_ BK176.out;obtain ⟨hfz14_0,hfz14_1⟩:=bf2_ BK176.out;go_wp2;(try simp only [Act.put, q1_,q3_,q2_])
   go_loopg [1, 7, 27] kj4 (fun kq v1 v7 v27 w'=>∃ (x1_2 : Int) (x7_2 : Int) (x27_2 : Int), v1 = .int .i64 x1_2∧v7 = .int .i64 x7_2∧v27 = .int .i64 x27_2∧Aside0 (offer_Cost.l0 kq x1_2 x7_2 l0_1 (l0_1.length : Int) x27_2 = some (r1, r2))∧Aside0 (kq ≤ kj4)∧Aside0 (w'.heap[gb176]? = some (.cells #[.string a0_0, (.slice A0_1 l0_1.length c0_1)] 29 (0, 0)))∧Aside0 (Below w.heap.size w w'))
   case atStart=>exact ⟨(a1),(0),(0),rs_,rs_,rs_, H', ⟨Nat.le_refl _⟩,⟨bq_ BK176.out⟩,⟨hb1_ HB.out GE176.out⟩⟩
   clear H';(try clear c1);(try clear p2);(try clear c4);(try clear c4b0);(try clear c4b1);(try clear c5);(try clear c9);(try clear c9b0);(try clear c13);(try clear hcz11_0);(try clear hcz11_1);(try clear hcz14_0);(try clear hcz14_1);(try clear hcz7_0);(try clear hcz7_1);(try clear hfz11_0);(try clear hfz11_1);(try clear hfz14_0);(try clear hfz14_1);(try clear hfz7_0);(try clear hfz7_1);(try clear p2);obtain ⟨x1_2, x7_2, x27_2, rfl, rfl, rfl, HA, HK2, BK176, HB⟩:=hrel;obtain _|k2:=gk
   ·exact absurd HA.out (by simp [offer_Cost.l0])
   have H:=HA.out;clear HA;simp only [offer_Cost.l0] at H
   by_cases c15 : x27_2 < (l0_1.length : Int)
   ·rw [if_pos c15] at H
    have c15b0:=decide_eq_true c15;clear c15
    obtain ⟨c16,H⟩:=gi_ H;have c16b0:=decide_eq_true c16;clear c16
    obtain ⟨c17,H⟩:=gi_ H;have c17b0:=decide_eq_true c17;clear c17;obtain ⟨ji18, hji18⟩ : ∃ j_ : Int, (mn x1_2 ((rd_T41 l0_1 x27_2).f0)) = j_:=⟨_, rfl⟩;replace H : (offer_Cost.l0 k2 (wrap64 (x1_2 - (ji18))) (wrap64 (x7_2 + (wrap64 ((ji18) * ((rd_T41 l0_1 x27_2).f1))))) l0_1 (l0_1.length : Int) (wrap64 (x27_2 + 1))) = some (r1, r2):=by first|(rw [hji18] at H;exact H)|(simp only [hji18] at H ⊢;exact H)
    have hji18_ : (if ((rd_T41 l0_1 x27_2).f0) < x1_2 then ((rd_T41 l0_1 x27_2).f0) else x1_2) = ji18:=hji18;have H':=k0_ H;clear H;have p179 : 0 ≤ (x27_2 : Int):=of_decide_eq_true as_;have q179 : x27_2 < (l0_1.length : Int):=of_decide_eq_true as_;obtain ⟨ad179, e179, hx179_0, hx179_1⟩:=at_T41 HR0_1.out x27_2 p179 q179;cases e179;replace hx179_0:=bt_ HB.out hx179_0;replace hx179_1:=bt_ HB.out hx179_1;replace p179:=eq_true p179;replace q179:=eq_true q179
    go_wp2_with (first|((with_reducible refine gate_dst (N:=9) rfl ?_);refine box_event ?hg (N:=9) ?hd (cs:=#[.int .i64 0, .int .i64 0]) (t:=41) ?hr ?_;(case hd=>rfl);(case hg=>rfl);(case hr=>first|(go_simp;done)|(go_simp;rfl));intro gb180 hg w19 hbox hb;have BK180:=k0_ (hbox);have GW180:=k0_ ((by rw [hg];exact (below_size (hb1_ HB.out GE176.out)) : w.heap.size ≤ gb180));have GE180:=k0_ ((by rw [hg];exact (below_size (hb1_ HB.out GE176.out)) : w.heap.size ≤ gb180));replace HB:=k0_ (below_step (hb1_ HB.out GE176.out) hb);have NB176_180:=k0_ ((by rw [hg];exact Nat.ne_of_lt (blk_lt (g:=gb176) (o:=.cells #[.string a0_0, .slice (some ad179) l0_1.length c0_1] 29 (0, 0)) (bq_ BK176.out)) : gb176 ≠ gb180));have NB180_176:=k0_ ((by rw [hg];exact Nat.ne_of_gt (blk_lt (g:=gb176) (o:=.cells #[.string a0_0, .slice (some ad179) l0_1.length c0_1] 29 (0, 0)) (bq_ BK176.out)) : gb180 ≠ gb176));replace BK176:=k0_ (blk_below (g:=gb176) (o:=.cells #[.string a0_0, .slice (some ad179) l0_1.length c0_1] 29 (0, 0)) (bq_ BK176.out) hb);clear hb hbox hg;have hnb20:=NB180_176.out;have hnc20:=NB176_180.out;obtain ⟨hcz21_0,hcz21_1⟩:=bc2_ BK180.out;obtain ⟨hfz21_0,hfz21_1⟩:=bf2_ BK180.out))
    go_roundg k2
    case measure=>have:=HJ4.out;have:=HK2.out;omega
    case rel=>exact ⟨(wrap64 (x1_2 - (ji18))),(wrap64 (x7_2 + (wrap64 ((ji18) * ((rd_T41 l0_1 x27_2).f1))))),(wrap64 (x27_2 + 1)),(by first|rfl|(simp;done)|(simp only [← hji18] <;> (first|rfl|simp))|(simp [*];done)),(by first|rfl|(simp;done)|(simp only [← hji18] <;> (first|rfl|simp))|(simp [*];done)),rs_, H', ⟨by have:=HJ4.out;have:=HK2.out;omega⟩,⟨by (with_reducible repeat (first|refine blk_drewN ?_ _|refine blk_drew ?_|refine blk_alloc ?_ _));refine blk_far ?_ NB176_180.out _;(with_reducible repeat (first|refine blk_drewN ?_ _|refine blk_drew ?_|refine blk_alloc ?_ _));refine blk_far ?_ NB176_180.out _;(with_reducible repeat (first|refine blk_drewN ?_ _|refine blk_drew ?_|refine blk_alloc ?_ _));exact BK176.out⟩,⟨hb2_ HB.out GE176.out GE180.out⟩⟩
   ·rw [if_neg c15] at H
    have c15b0:=decide_eq_false c15;clear c15;simp only [Option.some.injEq, Prod.mk.injEq] at H;obtain ⟨rfl, rfl⟩:=H;go_wp2
    go_ret2
    exact ⟨er_, hb1_ HB.out GE176.out⟩
 ·rw [if_neg c4] at H
  have c4b0:=beq_eq_false_iff_ne.mpr c4;have c4b1:=bne_iff_ne.mpr c4;simp only [Option.some.injEq, Prod.mk.injEq] at H;obtain ⟨rfl, rfl⟩:=H
  go_enter Try.func43, Try.ntmps43
  go_wp2_with (first|((with_reducible refine gate_dst (N:=2) rfl ?_);refine box_event ?hg (N:=2) ?hd (cs:=#[.string a0_0, .slice A0_1 l0_1.length c0_1]) (t:=29) ?hr ?_;(case hd=>rfl);(case hg=>rfl);(case hr=>first|(go_simp;done)|(go_simp;rfl));intro gb176 hg w22 hbox hb;have BK176:=k0_ (hbox);have GW176:=k0_ ((by rw [hg];exact (below_size (hb0_ HB.out)) : w.heap.size ≤ gb176));have GE176:=k0_ ((by rw [hg];exact (below_size (hb0_ HB.out)) : w.heap.size ≤ gb176));replace HB:=k0_ (below_step (hb0_ HB.out) hb);clear hb hbox hg;obtain ⟨hcz23_0,hcz23_1⟩:=bc2_ BK176.out;obtain ⟨hfz23_0,hfz23_1⟩:=bf2_ BK176.out)|((with_reducible refine gate_callee (f:=59) rfl ?_);refine goesL_ (some 12) rfl rfl Try.func59 (by kernel_rfl) rfl #[.agg #[.string a0_0, .slice A0_1 l0_1.length c0_1]] rfl mt_ ?_;(with_reducible refine (offer_Check.calls k a0_0 _ _ l0_1 t177 _ ?side1 ?side2 A3.out).mono ?_);(case side1=>repeat (first|exact (Kd.C_below HR0_1.out HB.out)|(with_reducible refine Kd.C_alloc ?_ _)|(with_reducible refine Kd.C_drewN ?_ _)|(with_reducible refine Kd.C_drew ?_)));(case side2=>exact HC0_1.out);rintro e w24 ⟨rfl, hb⟩;refine ⟨_, rfl, ?_⟩;replace BK176:=k0_ (blk_below (g:=gb176) (o:=.cells #[.string a0_0, .slice A0_1 l0_1.length c0_1] 29 (0, 0)) (bq_ BK176.out) hb);replace HB:=k0_ (below_step (hb1_ HB.out GE176.out) hb);(try clear hb);(try clear hb2);(try clear hk);(try clear hi)))
  go_ret2
  exact ⟨er_, hb1_ HB.out GE176.out⟩

-- NOT PRINTED: function 72 (hours_step_72)

-- NOT PRINTED: function 80 (hours_step_80)

-- NOT PRINTED: function 77 (hours_step_77)

-- NOT PRINTED: function 73 (hours_step_73)

-- NOT PRINTED: function 67 (hours_step_67)

-- NOT PRINTED: function 57 (hours_step_57)

/-! ### cmp_isNaN_int: function 65 -/
def cmp_isNaN_int.f (a0 : Int) : Option (Bool) := some (a0 != a0)
set_option maxHeartbeats 8000000 in
set_option maxRecDepth 100000 in
theorem cmp_isNaN_int.calls (a0 : Int) (r : Bool) (w : World) (h : cmp_isNaN_int.f a0 = some r) :
  Calls Try.prog 65 #[.int .i64 a0] w fun e w' => e = .returned (.bool r) ∧ Drawn0 w w' := by
 have H : (some (a0 != a0)) = some r:=h;clear h;obtain rfl:=Option.some.inj H
 go_enter Try.func65, Try.ntmps65
 go_wp2
 go_ret
 exact ⟨by first|rfl|(simp;done)|(simp [*];done), by repeat (first|exact Drawn0.refl _|apply Drawn0.step)⟩

/-! ### cmp_Compare_int: function 55 -/
def cmp_Compare_int.f (a0 : Int) (a1 : Int) : Option (Int) := (cmp_isNaN_int.f a0).bind fun t181 => ((cmp_isNaN_int.f a1).bind fun t182 => (if t181 = true then (if t182 = true then (some 0) else (some (-1))) else (if t182 = true then (some 1) else (if a0 < a1 then (some (-1)) else (if a0 > a1 then (some 1) else (some 0))))))
set_option maxHeartbeats 8000000 in
set_option maxRecDepth 100000 in
theorem cmp_Compare_int.calls (a0 : Int) (a1 : Int) (r : Int) (w : World) (h : cmp_Compare_int.f a0 a1 = some r) :
  Calls Try.prog 55 #[.int .i64 a0, .int .i64 a1] w fun e w' => e = .returned (.int .i64 r) ∧ Drawn0 w w' := by
 have H : ((cmp_isNaN_int.f a0).bind fun t181=>((cmp_isNaN_int.f a1).bind fun t182=>(if t181 = true then (if t182 = true then (some 0) else (some (-1))) else (if t182 = true then (some 1) else (if a0 < a1 then (some (-1)) else (if a0 > a1 then (some 1) else (some 0))))))) = some r:=h;clear h;replace H:=Option.bind_eq_some_iff.mp H;obtain ⟨t181, A30, H⟩:=H;replace H : ((cmp_isNaN_int.f a1).bind fun t182=>(if t181 = true then (if t182 = true then (some 0) else (some (-1))) else (if t182 = true then (some 1) else (if a0 < a1 then (some (-1)) else (if a0 > a1 then (some 1) else (some 0)))))) = some r:=H;have A3:=k0_ A30;clear A30;replace H:=Option.bind_eq_some_iff.mp H;obtain ⟨t182, A40, H⟩:=H;replace H : (if t181 = true then (if t182 = true then (some 0) else (some (-1))) else (if t182 = true then (some 1) else (if a0 < a1 then (some (-1)) else (if a0 > a1 then (some 1) else (some 0))))) = some r:=H;have A4:=k0_ A40;clear A40
 by_cases c5 : t181 = true
 ·subst c5
  have H1 : (if t182 = true then (some 0) else (some (-1))) = some r:=by rw [if_pos rfl] at H;exact H
  clear H;have H:=H1;clear H1
  by_cases c6 : t182 = true
  ·subst c6
   have H1 : (some 0) = some r:=by rw [if_pos rfl] at H;exact H
   clear H;have H:=H1;clear H1;obtain rfl:=Option.some.inj H
   go_enter Try.func55, Try.ntmps55
   go_wp2_with (first|((with_reducible refine gate_callee (f:=65) rfl ?_);refine goesL_ (some 8) rfl rfl Try.func65 (by kernel_rfl) rfl #[.int .i64 a0] rfl mt_ ?_;(with_reducible refine (cmp_isNaN_int.calls a0 true _ A3.out).mono ?_);rintro e w' ⟨rfl, ⟨nd, rfl⟩⟩;refine ⟨_, rfl, ?_⟩)|((with_reducible refine gate_callee (f:=65) rfl ?_);refine goesL_ (some 10) rfl rfl Try.func65 (by kernel_rfl) rfl #[.int .i64 a1] rfl mt_ ?_;(with_reducible refine (cmp_isNaN_int.calls a1 true _ A4.out).mono ?_);rintro e w' ⟨rfl, ⟨nd, rfl⟩⟩;refine ⟨_, rfl, ?_⟩))
   go_ret
   exact ⟨by first|rfl|(simp;done)|(simp [*];done), by repeat (first|exact Drawn0.refl _|apply Drawn0.step)⟩
  ·replace c6:=Bool.eq_false_iff.mpr c6
   subst c6;have H1 : (some (-1)) = some r:=by rw [if_neg (show ¬ (false = true) by decide)] at H;exact H
   clear H;have H:=H1;clear H1;obtain rfl:=Option.some.inj H
   go_enter Try.func55, Try.ntmps55
   go_wp2_with (first|((with_reducible refine gate_callee (f:=65) rfl ?_);refine goesL_ (some 8) rfl rfl Try.func65 (by kernel_rfl) rfl #[.int .i64 a0] rfl mt_ ?_;(with_reducible refine (cmp_isNaN_int.calls a0 true _ A3.out).mono ?_);rintro e w' ⟨rfl, ⟨nd, rfl⟩⟩;refine ⟨_, rfl, ?_⟩)|((with_reducible refine gate_callee (f:=65) rfl ?_);refine goesL_ (some 10) rfl rfl Try.func65 (by kernel_rfl) rfl #[.int .i64 a1] rfl mt_ ?_;(with_reducible refine (cmp_isNaN_int.calls a1 false _ A4.out).mono ?_);rintro e w' ⟨rfl, ⟨nd, rfl⟩⟩;refine ⟨_, rfl, ?_⟩))
   go_ret
   exact ⟨by first|rfl|(simp;done)|(simp [*];done), by repeat (first|exact Drawn0.refl _|apply Drawn0.step)⟩
 ·replace c5:=Bool.eq_false_iff.mpr c5
  subst c5;have H1 : (if t182 = true then (some 1) else (if a0 < a1 then (some (-1)) else (if a0 > a1 then (some 1) else (some 0)))) = some r:=by rw [if_neg (show ¬ (false = true) by decide)] at H;exact H
  clear H;have H:=H1;clear H1
  by_cases c7 : t182 = true
  ·subst c7
   have H1 : (some 1) = some r:=by rw [if_pos rfl] at H;exact H
   clear H;have H:=H1;clear H1;obtain rfl:=Option.some.inj H
   go_enter Try.func55, Try.ntmps55
   go_wp2_with (first|((with_reducible refine gate_callee (f:=65) rfl ?_);refine goesL_ (some 8) rfl rfl Try.func65 (by kernel_rfl) rfl #[.int .i64 a0] rfl mt_ ?_;(with_reducible refine (cmp_isNaN_int.calls a0 false _ A3.out).mono ?_);rintro e w' ⟨rfl, ⟨nd, rfl⟩⟩;refine ⟨_, rfl, ?_⟩)|((with_reducible refine gate_callee (f:=65) rfl ?_);refine goesL_ (some 10) rfl rfl Try.func65 (by kernel_rfl) rfl #[.int .i64 a1] rfl mt_ ?_;(with_reducible refine (cmp_isNaN_int.calls a1 true _ A4.out).mono ?_);rintro e w' ⟨rfl, ⟨nd, rfl⟩⟩;refine ⟨_, rfl, ?_⟩))
   go_ret
   exact ⟨by first|rfl|(simp;done)|(simp [*];done), by repeat (first|exact Drawn0.refl _|apply Drawn0.step)⟩
  ·replace c7:=Bool.eq_false_iff.mpr c7
   subst c7;have H1 : (if a0 < a1 then (some (-1)) else (if a0 > a1 then (some 1) else (some 0))) = some r:=by rw [if_neg (show ¬ (false = true) by decide)] at H;exact H
   clear H;have H:=H1;clear H1
   by_cases c8 : a0 < a1
   rw [if_pos c8] at H;have c8b0:=decide_eq_true c8;clear c8;obtain rfl:=Option.some.inj H;rotate_left;rw [if_neg c8] at H;have c8b0:=decide_eq_false c8;clear c8
   focus
    by_cases c9 : a0 > a1
    rw [if_pos c9] at H;have c9b0:=decide_eq_true c9;clear c9;obtain rfl:=Option.some.inj H;rotate_left;rw [if_neg c9] at H;have c9b0:=decide_eq_false c9;clear c9;obtain rfl:=Option.some.inj H;rotate_left
   rotate_left 2
   all_goals
    go_enter Try.func55, Try.ntmps55
    go_wp2_with (first|((with_reducible refine gate_callee (f:=65) rfl ?_);refine goesL_ (some 8) rfl rfl Try.func65 (by kernel_rfl) rfl #[.int .i64 a0] rfl mt_ ?_;(with_reducible refine (cmp_isNaN_int.calls a0 false _ A3.out).mono ?_);rintro e w' ⟨rfl, ⟨nd, rfl⟩⟩;refine ⟨_, rfl, ?_⟩)|((with_reducible refine gate_callee (f:=65) rfl ?_);refine goesL_ (some 10) rfl rfl Try.func65 (by kernel_rfl) rfl #[.int .i64 a1] rfl mt_ ?_;(with_reducible refine (cmp_isNaN_int.calls a1 false _ A4.out).mono ?_);rintro e w' ⟨rfl, ⟨nd, rfl⟩⟩;refine ⟨_, rfl, ?_⟩))
    go_ret
   ·exact ⟨by first|rfl|(simp;done)|(simp [*];done), by repeat (first|exact Drawn0.refl _|apply Drawn0.step)⟩
   ·exact ⟨by first|rfl|(simp;done)|(simp [*];done), by repeat (first|exact Drawn0.refl _|apply Drawn0.step)⟩
   ·exact ⟨by first|rfl|(simp;done)|(simp [*];done), by repeat (first|exact Drawn0.refl _|apply Drawn0.step)⟩

/-! ### hours_Change_1: function 58 -/
def hours_Change_1.f (a0_0 : Int) (a0_1 : Int) (a0_2 : Int) (a1_0 : Int) (a1_1 : Int) (a1_2 : Int) : Option (Int) := (cmp_Compare_int.f a0_2 a1_2).bind fun t185 => (some t185)
set_option maxHeartbeats 8000000 in
set_option maxRecDepth 100000 in
theorem hours_Change_1.calls (a0_0 : Int) (a0_1 : Int) (a0_2 : Int) (a1_0 : Int) (a1_1 : Int) (a1_2 : Int) (r : Int) (w : World) (h : hours_Change_1.f a0_0 a0_1 a0_2 a1_0 a1_1 a1_2 = some r) :
  Calls Try.prog 58 #[.agg #[.int .i64 a0_0, .int .i64 a0_1, .int .i64 a0_2], .agg #[.int .i64 a1_0, .int .i64 a1_1, .int .i64 a1_2]] w fun e w' => e = .returned (.int .i64 r) ∧ Below w.heap.size w w' := by
 have hu99:=Try.underlying99;have HB:=k0_ (Below.refl w.heap.size w);have H : ((cmp_Compare_int.f a0_2 a1_2).bind fun t185=>(some t185)) = some r:=h;clear h;replace H:=Option.bind_eq_some_iff.mp H;obtain ⟨t185, A30, H⟩:=H;replace H : (some t185) = some r:=H;have A3:=k0_ A30;clear A30;obtain rfl:=Option.some.inj H
 go_enter Try.func58, Try.ntmps58
 go_wp2_with (first|((with_reducible refine gate_dst (N:=2) rfl ?_);refine box_event ?hg (N:=2) ?hd (cs:=#[.int .i64 a0_0, .int .i64 a0_1, .int .i64 a0_2]) (t:=99) ?hr ?_;(case hd=>rfl);(case hg=>rfl);(case hr=>first|(go_simp;done)|(go_simp;rfl));intro gb183 hg w4 hbox hb;have BK183:=k0_ (hbox);have GW183:=k0_ ((by rw [hg];exact (below_size (hb0_ HB.out)) : w.heap.size ≤ gb183));have GE183:=k0_ ((by rw [hg];exact (below_size (hb0_ HB.out)) : w.heap.size ≤ gb183));replace HB:=k0_ (below_step (hb0_ HB.out) hb);clear hb hbox hg)|((with_reducible refine gate_dst (N:=3) rfl ?_);refine box_event ?hg (N:=3) ?hd (cs:=#[.int .i64 a1_0, .int .i64 a1_1, .int .i64 a1_2]) (t:=99) ?hr ?_;(case hd=>rfl);(case hg=>rfl);(case hr=>first|(go_simp;done)|(go_simp;rfl));intro gb184 hg w5 hbox hb;have BK184:=k0_ (hbox);have GW184:=k0_ ((by rw [hg];exact (below_size (hb1_ HB.out GE183.out)) : w.heap.size ≤ gb184));have GE184:=k0_ ((by rw [hg];exact (below_size (hb1_ HB.out GE183.out)) : w.heap.size ≤ gb184));replace HB:=k0_ (below_step (hb1_ HB.out GE183.out) hb);have NB183_184:=k0_ ((by rw [hg];exact Nat.ne_of_lt (blk_lt (g:=gb183) (o:=.cells #[.int .i64 a0_0, .int .i64 a0_1, .int .i64 a0_2] 99 (0, 0)) (bq_ BK183.out)) : gb183 ≠ gb184));have NB184_183:=k0_ ((by rw [hg];exact Nat.ne_of_gt (blk_lt (g:=gb183) (o:=.cells #[.int .i64 a0_0, .int .i64 a0_1, .int .i64 a0_2] 99 (0, 0)) (bq_ BK183.out)) : gb184 ≠ gb183));replace BK183:=k0_ (blk_below (g:=gb183) (o:=.cells #[.int .i64 a0_0, .int .i64 a0_1, .int .i64 a0_2] 99 (0, 0)) (bq_ BK183.out) hb);clear hb hbox hg;have hnb6:=NB183_184.out;have hnc6:=NB184_183.out;obtain ⟨hcz7_0,hcz7_1,hcz7_2⟩:=bc3_ BK183.out;obtain ⟨hfz7_0,hfz7_1,hfz7_2⟩:=bf3_ BK183.out;obtain ⟨hcz8_0,hcz8_1,hcz8_2⟩:=bc3_ BK184.out;obtain ⟨hfz8_0,hfz8_1,hfz8_2⟩:=bf3_ BK184.out)|((with_reducible refine gate_callee (f:=55) rfl ?_);refine goesL_ (some 9) rfl rfl Try.func55 (by kernel_rfl) rfl #[.int .i64 a0_2, .int .i64 a1_2] rfl mt_ ?_;(with_reducible refine (cmp_Compare_int.calls a0_2 a1_2 t185 _ A3.out).mono ?_);rintro e w' ⟨rfl, ⟨nd, rfl⟩⟩;refine ⟨_, rfl, ?_⟩))
 go_ret
 exact ⟨er_, hb2_ HB.out GE183.out GE184.out⟩

end Go.Proofs.Ytekpnmeikibioaa.PHoursChanges
