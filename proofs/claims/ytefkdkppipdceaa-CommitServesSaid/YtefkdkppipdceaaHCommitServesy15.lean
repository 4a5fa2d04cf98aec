/- Contracts of functions that CommitServes reaches, a text of this session's own. -/
import Derived.Test.YtefkdkppipdceaaBox2
import Derived.Test.YtefkdkppipdceaaHCommitServesy0
import Derived.Test.YtefkdkppipdceaaHCommitServesy13
import Derived.Test.YtefkdkppipdceaaHCommitServesy14
namespace Go.Proofs.Ytefkdkppipdceaa.PCommitServes
open Go.RowKit Go.Proofs.YtefkdkppipdceaaW.PrintWords Go.Proofs.YtefkdkppipdceaaW.PrintLast Go.Proofs.YtefkdkppipdceaaW.PrintMore
attribute [local go_sem] max2_int min2_int max_two min_two max_three min_three max_four min_four   -- for this text's walks alone
set_option linter.unusedVariables false
set_option linter.unusedSimpArgs false

/-! ### gridhallref3_OfferError: function 97 -/
mutual
def gridhallref3_OfferError.l0 : Nat → List (S132) → Int → Int → ByteArray → List (S132) → Option (Int)
 | 0, _, _, _, _, _ => none
 | k + 1, x14, x15, x16, x210000, x210001 => if x16 < x15 then (if 0 ≤ x16 then (if x16 < (x14.length : Int) then ((gridhallref3_In.f ((rd_T132 x14 x16).f0) 1 100000).bind fun t213 => (if t213 = true then ((gridhallref3_In.f ((rd_T132 x14 x16).f1) (-1000000) 1000000).bind fun t214 => (gridhallref3_OfferError.j1 k x16 x14 x15 x16 (!t214) x210000 x210001 ((rd_T132 x14 x16).f0) ((rd_T132 x14 x16).f1))) else (gridhallref3_OfferError.j1 k x16 x14 x15 x16 true x210000 x210001 ((rd_T132 x14 x16).f0) ((rd_T132 x14 x16).f1)))) else (none)) else (none)) else (some 0)
def gridhallref3_OfferError.j1 : Nat → Int → List (S132) → Int → Int → Bool → ByteArray → List (S132) → Int → Int → Option (Int)
 | 0, _, _, _, _, _, _, _, _, _ => none
 | k + 1, x3, x14, x15, x16, x30, x210000, x210001, x213000, x213001 => if x30 = true then (some 4) else (if x3 > 0 then (if 0 ≤ (wrap64 (x3 - 1)) then (if (wrap64 (x3 - 1)) < (x210001.length : Int) then (gridhallref3_OfferError.j2 k x3 x14 x15 x16 (decide (((rd_T132 x210001 (wrap64 (x3 - 1))).f1) > x213001)) x210000 x210001) else (none)) else (none)) else (gridhallref3_OfferError.j2 k x3 x14 x15 x16 false x210000 x210001))
def gridhallref3_OfferError.j2 : Nat → Int → List (S132) → Int → Int → Bool → ByteArray → List (S132) → Option (Int)
 | 0, _, _, _, _, _, _, _ => none
 | k + 1, x3, x14, x15, x16, x44, x210000, x210001 => if x44 = true then (some 3) else ((gridhallref3_Before.f k x210000 x210001 (wrap64 (x3 + 1))).bind fun t216 => (if t216 > 100000 then (some 2) else (gridhallref3_OfferError.l0 k x14 x15 (wrap64 (x16 + 1)) x210000 x210001)))
end
def gridhallref3_OfferError.f (k : Nat) (a0_0 : ByteArray) (l0_1 : List (S132)) : Option (Int) := (gridhallref3_Named.f k a0_0).bind fun t210 => (if t210 = true then (if (l0_1.length : Int) > 12 then (some 2) else (gridhallref3_OfferError.l0 k l0_1 (l0_1.length : Int) 0 a0_0 l0_1)) else (some 6))
theorem gridhallref3_OfferError.mono_l : ∀ k, (∀ y0 y1 y2 y3 y4, LeO (gridhallref3_OfferError.l0 k y0 y1 y2 y3 y4) (gridhallref3_OfferError.l0 (k + 1) y0 y1 y2 y3 y4)) ∧ (∀ y0 y1 y2 y3 y4 y5 y6 y7 y8, LeO (gridhallref3_OfferError.j1 k y0 y1 y2 y3 y4 y5 y6 y7 y8) (gridhallref3_OfferError.j1 (k + 1) y0 y1 y2 y3 y4 y5 y6 y7 y8)) ∧ (∀ y0 y1 y2 y3 y4 y5 y6, LeO (gridhallref3_OfferError.j2 k y0 y1 y2 y3 y4 y5 y6) (gridhallref3_OfferError.j2 (k + 1) y0 y1 y2 y3 y4 y5 y6))
 | 0 => ⟨fun _ _ _ _ _ r h => by simp [gridhallref3_OfferError.l0] at h, fun _ _ _ _ _ _ _ _ _ r h => by simp [gridhallref3_OfferError.j1] at h, fun _ _ _ _ _ _ _ r h => by simp [gridhallref3_OfferError.j2] at h⟩
 | k + 1 => by
  obtain ⟨ih0, ih1, ih2⟩:=gridhallref3_OfferError.mono_l k
  refine ⟨?_, ?_, ?_⟩
  ·intro y0 y1 y2 y3 y4
   unfold gridhallref3_OfferError.l0
   repeat' first|(with_reducible first|exact ih0 _ _ _ _ _|exact ih1 _ _ _ _ _ _ _ _ _|exact ih2 _ _ _ _ _ _ _|exact gridhallref3_Before.mono _ _ _ _|exact gridhallref3_Named.mono _ _|exact LeO.refl _|exact LeO.none _|refine LeO.ite ?_ ?_|refine LeO.bind ?_ (fun _=>?_))|exact ih0 _ _ _ _ _|exact ih1 _ _ _ _ _ _ _ _ _|exact ih2 _ _ _ _ _ _ _|exact gridhallref3_Before.mono _ _ _ _|exact gridhallref3_Named.mono _ _|exact LeO.none _|refine LeO.ite ?_ ?_|refine LeO.bind ?_ (fun _=>?_)
  ·intro y0 y1 y2 y3 y4 y5 y6 y7 y8
   unfold gridhallref3_OfferError.j1
   repeat' first|(with_reducible first|exact ih0 _ _ _ _ _|exact ih1 _ _ _ _ _ _ _ _ _|exact ih2 _ _ _ _ _ _ _|exact gridhallref3_Before.mono _ _ _ _|exact gridhallref3_Named.mono _ _|exact LeO.refl _|exact LeO.none _|refine LeO.ite ?_ ?_|refine LeO.bind ?_ (fun _=>?_))|exact ih0 _ _ _ _ _|exact ih1 _ _ _ _ _ _ _ _ _|exact ih2 _ _ _ _ _ _ _|exact gridhallref3_Before.mono _ _ _ _|exact gridhallref3_Named.mono _ _|exact LeO.none _|refine LeO.ite ?_ ?_|refine LeO.bind ?_ (fun _=>?_)
  ·intro y0 y1 y2 y3 y4 y5 y6
   unfold gridhallref3_OfferError.j2
   repeat' first|(with_reducible first|exact ih0 _ _ _ _ _|exact ih1 _ _ _ _ _ _ _ _ _|exact ih2 _ _ _ _ _ _ _|exact gridhallref3_Before.mono _ _ _ _|exact gridhallref3_Named.mono _ _|exact LeO.refl _|exact LeO.none _|refine LeO.ite ?_ ?_|refine LeO.bind ?_ (fun _=>?_))|exact ih0 _ _ _ _ _|exact ih1 _ _ _ _ _ _ _ _ _|exact ih2 _ _ _ _ _ _ _|exact gridhallref3_Before.mono _ _ _ _|exact gridhallref3_Named.mono _ _|exact LeO.none _|refine LeO.ite ?_ ?_|refine LeO.bind ?_ (fun _=>?_)
theorem gridhallref3_OfferError.mono : ∀ a0 a1 k, LeO (gridhallref3_OfferError.f k a0 a1) (gridhallref3_OfferError.f (k + 1) a0 a1) := by
 intro a0 a1 k
 obtain ⟨ih0, ih1, ih2⟩:=gridhallref3_OfferError.mono_l k
 unfold gridhallref3_OfferError.f
 repeat' first|(with_reducible first|exact ih0 _ _ _ _ _|exact ih1 _ _ _ _ _ _ _ _ _|exact ih2 _ _ _ _ _ _ _|exact gridhallref3_Before.mono _ _ _ _|exact gridhallref3_Named.mono _ _|exact LeO.refl _|exact LeO.none _|refine LeO.ite ?_ ?_|refine LeO.bind ?_ (fun _=>?_))|exact ih0 _ _ _ _ _|exact ih1 _ _ _ _ _ _ _ _ _|exact ih2 _ _ _ _ _ _ _|exact gridhallref3_Before.mono _ _ _ _|exact gridhallref3_Named.mono _ _|exact LeO.none _|refine LeO.ite ?_ ?_|refine LeO.bind ?_ (fun _=>?_)
set_option maxHeartbeats 8000000 in
set_option maxRecDepth 100000 in
theorem gridhallref3_OfferError.calls (k : Nat) (a0_0 : ByteArray) (A0_1 : Option Addr) (c0_1 : Nat) (l0_1 : List (S132)) (r : Int) (w : World) (hr0_1 : Kd.C k132 w A0_1 l0_1.length l0_1) (hc0_1 : l0_1.length ≤ c0_1) (h : gridhallref3_OfferError.f k a0_0 l0_1 = some r) :
  Calls Try.prog 97 #[.agg #[.string a0_0, .slice A0_1 l0_1.length c0_1]] w fun e w' => e = .returned (.int .i64 r) ∧ Below w.heap.size w w' := by
 have hu57:=Try.underlying57;have hu132:=Try.underlying132;have HR0_1:=k0_ hr0_1;have HC0_1:=k0_ hc0_1;clear hr0_1 hc0_1;have HB:=k0_ (Below.refl w.heap.size w);have H : ((gridhallref3_Named.f k a0_0).bind fun t210=>(if t210 = true then (if (l0_1.length : Int) > 12 then (some 2) else (gridhallref3_OfferError.l0 k l0_1 (l0_1.length : Int) 0 a0_0 l0_1)) else (some 6))) = some r:=h;clear h;replace H:=Option.bind_eq_some_iff.mp H;obtain ⟨t210, A20, H⟩:=H;replace H : (if t210 = true then (if (l0_1.length : Int) > 12 then (some 2) else (gridhallref3_OfferError.l0 k l0_1 (l0_1.length : Int) 0 a0_0 l0_1)) else (some 6)) = some r:=H;have A2:=k0_ A20;clear A20
 by_cases c3 : t210 = true
 ·subst c3
  have H1 : (if (l0_1.length : Int) > 12 then (some 2) else (gridhallref3_OfferError.l0 k l0_1 (l0_1.length : Int) 0 a0_0 l0_1)) = some r:=by rw [if_pos rfl] at H;exact H
  clear H;have H:=H1;clear H1
  by_cases c4 : (l0_1.length : Int) > 12
  rw [if_pos c4] at H;have c4b0:=decide_eq_true c4;have c4b1 : decide (12 < l0_1.length) = true:=decide_eq_true (by omega);clear c4;obtain rfl:=Option.some.inj H;rotate_left;rw [if_neg c4] at H;have c4b0:=decide_eq_false c4;have c4b1 : decide (12 < l0_1.length) = false:=decide_eq_false (by omega);clear c4;have H':=k0_ H;clear H;rotate_left
  all_goals
   go_enter Try.func97, Try.ntmps97
   go_wp2_with (first|((with_reducible refine gate_dst (N:=1) rfl ?_);refine box_event ?hg (N:=1) ?hd (cs:=#[.string a0_0, .slice A0_1 l0_1.length c0_1]) (t:=57) ?hr ?_;(case hd=>rfl);(case hg=>rfl);(case hr=>first|(go_simp;done)|(go_simp;rfl));intro gb209 hg w5 hbox hb;have BK209:=k0_ (hbox);have GW209:=k0_ ((by rw [hg];exact (below_size (hb0_ HB.out)) : w.heap.size ≤ gb209));have GE209:=k0_ ((by rw [hg];exact (below_size (hb0_ HB.out)) : w.heap.size ≤ gb209));replace HB:=k0_ (below_step (hb0_ HB.out) hb);clear hb hbox hg;obtain ⟨hcz6_0,hcz6_1⟩:=bc2_ BK209.out;obtain ⟨hfz6_0,hfz6_1⟩:=bf2_ BK209.out)|(go_at_call 115;(with_reducible refine (gridhallref3_Named.calls k a0_0 true _ A2.out).mono ?_);rintro e w' ⟨rfl, ⟨nd, rfl⟩⟩;(try first|exact ⟨rfl, _, World.drewN_drewN _ _ _⟩|exact ⟨rfl, _, Eq.trans (World.drewN_drewN _ _ _) (congrArg (World.drewN _) (Nat.add_assoc _ _ _))⟩)))
  ·go_ret
   exact ⟨er_, hb1_ HB.out GE209.out⟩
  ·try simp only [Act.put, q1_,q3_,q2_]
   go_loopg [16] k (fun kq v16 w'=>∃ (x16_1 : Int), v16 = .int .i64 x16_1∧Aside0 (gridhallref3_OfferError.l0 kq l0_1 (l0_1.length : Int) x16_1 a0_0 l0_1 = some r)∧Aside0 (kq ≤ k)∧Aside0 (w'.heap[gb209]? = some (.cells #[.string a0_0, (.slice A0_1 l0_1.length c0_1)] 57 (0, 0)))∧Aside0 (Below w.heap.size w w'))
   case atStart=>exact ⟨(0),rs_, H', ⟨Nat.le_refl _⟩,⟨bq_ BK209.out⟩,⟨hb1_ HB.out GE209.out⟩⟩
   clear H' c4b0 c4b1 hcz6_0 hcz6_1 hfz6_0 hfz6_1;obtain ⟨x16_1, rfl, HA, HK1, BK209, HB⟩:=hrel;obtain _|k1:=gk
   ·exact absurd HA.out (by simp [gridhallref3_OfferError.l0])
   have H:=HA.out;clear HA;simp only [gridhallref3_OfferError.l0] at H
   by_cases c9 : x16_1 < (l0_1.length : Int)
   ·rw [if_pos c9] at H
    have c9b0:=decide_eq_true c9;clear c9
    obtain ⟨c10,H⟩:=gi_ H;have c10b0:=decide_eq_true c10;clear c10
    obtain ⟨c11,H⟩:=gi_ H;have c11b0:=decide_eq_true c11;clear c11;have HC12:=k0_ H;clear H;have p211 : 0 ≤ (x16_1 : Int):=of_decide_eq_true as_;have q211 : x16_1 < (l0_1.length : Int):=of_decide_eq_true as_;obtain ⟨ad211, e211, hx211_0, hx211_1⟩:=at_T132 HR0_1.out x16_1 p211 q211;cases e211;replace hx211_0:=bt_ HB.out hx211_0;replace hx211_1:=bt_ HB.out hx211_1;replace p211:=eq_true p211;replace q211:=eq_true q211
    go_upto_region 8 with (first|((with_reducible refine gate_dst (N:=4) rfl ?_);refine box_event ?hg (N:=4) ?hd (cs:=#[.int .i64 0, .int .i64 0]) (t:=132) ?hr ?_;(case hd=>rfl);(case hg=>rfl);(case hr=>first|(go_simp;done)|(go_simp;rfl));intro gb212 hg w13 hbox hb;have BK212:=k0_ (hbox);have GW212:=k0_ ((by rw [hg];exact (below_size (hb1_ HB.out GE209.out)) : w.heap.size ≤ gb212));have GE212:=k0_ ((by rw [hg];exact (below_size (hb1_ HB.out GE209.out)) : w.heap.size ≤ gb212));replace HB:=k0_ (below_step (hb1_ HB.out GE209.out) hb);have NB209_212:=k0_ ((by rw [hg];exact Nat.ne_of_lt (blk_lt (g:=gb209) (o:=.cells #[.string a0_0, .slice (some ad211) l0_1.length c0_1] 57 (0, 0)) (bq_ BK209.out)) : gb209 ≠ gb212));have NB212_209:=k0_ ((by rw [hg];exact Nat.ne_of_gt (blk_lt (g:=gb209) (o:=.cells #[.string a0_0, .slice (some ad211) l0_1.length c0_1] 57 (0, 0)) (bq_ BK209.out)) : gb212 ≠ gb209));replace BK209:=k0_ (blk_below (g:=gb209) (o:=.cells #[.string a0_0, .slice (some ad211) l0_1.length c0_1] 57 (0, 0)) (bq_ BK209.out) hb);clear hb hbox hg;have hnb14:=NB212_209.out;have hnc14:=NB209_212.out;obtain ⟨hcz15_0,hcz15_1⟩:=bc2_ BK212.out;obtain ⟨hfz15_0,hfz15_1⟩:=bf2_ BK212.out))
    (try simp only [Act.put, q1_,q2_,q3_])
    go_cut [30] (fun v30 wc=>∃ (kq : Nat) (x30_11 : Bool), v30 = .bool x30_11∧Aside0 (gridhallref3_OfferError.j1 kq x16_1 l0_1 (l0_1.length : Int) x16_1 x30_11 a0_0 l0_1 ((rd_T132 l0_1 x16_1).f0) ((rd_T132 l0_1 x16_1).f1) = some r)∧Aside0 (kq ≤ k1)∧Aside0 (wc.heap[gb209]? = some (.cells #[.string a0_0, (.slice (some ad211) l0_1.length c0_1)] 57 (0, 0)))∧Aside0 (wc.heap[gb212]? = some (.cells #[.int .i64 ((rd_T132 l0_1 x16_1).f0), .int .i64 ((rd_T132 l0_1 x16_1).f1)] 132 (0, 0)))∧Aside0 (Below w.heap.size w wc))
    case first =>
     have H:=HC12.out;clear HC12;replace H:=Option.bind_eq_some_iff.mp H;obtain ⟨t213, A160, H⟩:=H;replace H : (if t213 = true then ((gridhallref3_In.f ((rd_T132 l0_1 x16_1).f1) (-1000000) 1000000).bind fun t214=>(gridhallref3_OfferError.j1 k1 x16_1 l0_1 (l0_1.length : Int) x16_1 (!t214) a0_0 l0_1 ((rd_T132 l0_1 x16_1).f0) ((rd_T132 l0_1 x16_1).f1))) else (gridhallref3_OfferError.j1 k1 x16_1 l0_1 (l0_1.length : Int) x16_1 true a0_0 l0_1 ((rd_T132 l0_1 x16_1).f0) ((rd_T132 l0_1 x16_1).f1))) = some r:=H;have A16:=k0_ A160;clear A160
     by_cases c17 : t213 = true
     ·subst c17
      have H1 : ((gridhallref3_In.f ((rd_T132 l0_1 x16_1).f1) (-1000000) 1000000).bind fun t214=>(gridhallref3_OfferError.j1 k1 x16_1 l0_1 (l0_1.length : Int) x16_1 (!t214) a0_0 l0_1 ((rd_T132 l0_1 x16_1).f0) ((rd_T132 l0_1 x16_1).f1))) = some r:=by rw [if_pos rfl] at H;exact H
      clear H;have H:=H1;clear H1;replace H:=Option.bind_eq_some_iff.mp H;obtain ⟨t214, A180, H⟩:=H;replace H : (gridhallref3_OfferError.j1 k1 x16_1 l0_1 (l0_1.length : Int) x16_1 (!t214) a0_0 l0_1 ((rd_T132 l0_1 x16_1).f0) ((rd_T132 l0_1 x16_1).f1)) = some r:=H;have A18:=k0_ A180;clear A180;have H':=k0_ H;clear H;have hnb19:=NB212_209.out;have hnc19:=NB209_212.out;obtain ⟨hcz20_0,hcz20_1⟩:=bc2_ BK212.out;obtain ⟨hfz20_0,hfz20_1⟩:=bf2_ BK212.out
      go_wp2_with (first|(go_at_call 21;(with_reducible refine (gridhallref3_In.calls ((rd_T132 l0_1 x16_1).f0) 1 100000 true _ A16.out).mono ?_);rintro e w' ⟨rfl, ⟨nd, rfl⟩⟩;(try first|exact ⟨rfl, _, World.drewN_drewN _ _ _⟩|exact ⟨rfl, _, Eq.trans (World.drewN_drewN _ _ _) (congrArg (World.drewN _) (Nat.add_assoc _ _ _))⟩))|(go_at_call 21;(with_reducible refine (gridhallref3_In.calls ((rd_T132 l0_1 x16_1).f1) (-1000000) 1000000 t214 _ A18.out).mono ?_);rintro e w' ⟨rfl, ⟨nd, rfl⟩⟩;(try first|exact ⟨rfl, _, World.drewN_drewN _ _ _⟩|exact ⟨rfl, _, Eq.trans (World.drewN_drewN _ _ _) (congrArg (World.drewN _) (Nat.add_assoc _ _ _))⟩)))
      go_meet
      case rel=>exact ⟨_, (!t214),rs_, H', ⟨by have:=HK1.out;first|omega|exact Nat.le_refl _⟩,⟨by (with_reducible repeat (first|refine blk_drewN ?_ _|refine blk_drew ?_|refine blk_alloc ?_ _));refine blk_far ?_ NB209_212.out _;(with_reducible repeat (first|refine blk_drewN ?_ _|refine blk_drew ?_|refine blk_alloc ?_ _));refine blk_far ?_ NB209_212.out _;(with_reducible repeat (first|refine blk_drewN ?_ _|refine blk_drew ?_|refine blk_alloc ?_ _));exact BK209.out⟩,⟨by (with_reducible repeat (first|refine blk_drewN ?_ _|refine blk_drew ?_|refine blk_alloc ?_ _));refine blk_put (cs:=#[.int .i64 ((rd_T132 l0_1 x16_1).f0), .int .i64 0]) ?_ 1 _ rfl;(with_reducible repeat (first|refine blk_drewN ?_ _|refine blk_drew ?_|refine blk_alloc ?_ _));refine blk_put (cs:=#[.int .i64 0, .int .i64 0]) ?_ 0 _ rfl;(with_reducible repeat (first|refine blk_drewN ?_ _|refine blk_drew ?_|refine blk_alloc ?_ _));exact BK212.out⟩,⟨hb2_ HB.out GE209.out GE212.out⟩⟩
     ·replace c17:=Bool.eq_false_iff.mpr c17
      subst c17;have H1 : (gridhallref3_OfferError.j1 k1 x16_1 l0_1 (l0_1.length : Int) x16_1 true a0_0 l0_1 ((rd_T132 l0_1 x16_1).f0) ((rd_T132 l0_1 x16_1).f1)) = some r:=by rw [if_neg (show ¬ (false = true) by decide)] at H;exact H
      clear H;have H:=H1;clear H1;have H':=k0_ H;clear H;have hnb21:=NB212_209.out;have hnc21:=NB209_212.out;obtain ⟨hcz22_0,hcz22_1⟩:=bc2_ BK212.out;obtain ⟨hfz22_0,hfz22_1⟩:=bf2_ BK212.out
      go_wp2_with (first|(go_at_call 21;(with_reducible refine (gridhallref3_In.calls ((rd_T132 l0_1 x16_1).f0) 1 100000 false _ A16.out).mono ?_);rintro e w' ⟨rfl, ⟨nd, rfl⟩⟩;(try first|exact ⟨rfl, _, World.drewN_drewN _ _ _⟩|exact ⟨rfl, _, Eq.trans (World.drewN_drewN _ _ _) (congrArg (World.drewN _) (Nat.add_assoc _ _ _))⟩)))
      go_meet
      case rel=>exact ⟨_, (true),rs_, H', ⟨by have:=HK1.out;first|omega|exact Nat.le_refl _⟩,⟨by (with_reducible repeat (first|refine blk_drewN ?_ _|refine blk_drew ?_|refine blk_alloc ?_ _));refine blk_far ?_ NB209_212.out _;(with_reducible repeat (first|refine blk_drewN ?_ _|refine blk_drew ?_|refine blk_alloc ?_ _));refine blk_far ?_ NB209_212.out _;(with_reducible repeat (first|refine blk_drewN ?_ _|refine blk_drew ?_|refine blk_alloc ?_ _));exact BK209.out⟩,⟨by (with_reducible repeat (first|refine blk_drewN ?_ _|refine blk_drew ?_|refine blk_alloc ?_ _));refine blk_put (cs:=#[.int .i64 ((rd_T132 l0_1 x16_1).f0), .int .i64 0]) ?_ 1 _ rfl;(with_reducible repeat (first|refine blk_drewN ?_ _|refine blk_drew ?_|refine blk_alloc ?_ _));refine blk_put (cs:=#[.int .i64 0, .int .i64 0]) ?_ 0 _ rfl;(with_reducible repeat (first|refine blk_drewN ?_ _|refine blk_drew ?_|refine blk_alloc ?_ _));exact BK212.out⟩,⟨hb2_ HB.out GE209.out GE212.out⟩⟩
    clear HC12;clear c9b0 c10b0 c11b0 hcz15_0 hcz15_1 hfz15_0 hfz15_1 hx211_0 hx211_1 p211 q211;obtain ⟨kq, x30_11, rfl, HA, HJ11, BK209, BK212, HB⟩:=hcut;obtain _|kj11:=kq
    ·exact absurd HA.out (by simp [gridhallref3_OfferError.j1])
    have H:=HA.out;clear HA;simp only [gridhallref3_OfferError.j1] at H
    by_cases c23 : x30_11 = true
    ·subst c23
     have H1 : (some 4) = some r:=by rw [if_pos rfl] at H;exact H
     clear H;have H:=H1;clear H1;obtain rfl:=Option.some.inj H;go_wp2
     go_ret
     exact ⟨er_, hb2_ HB.out GE209.out GE212.out⟩
    ·replace c23:=Bool.eq_false_iff.mpr c23
     subst c23;have H1 : (if x16_1 > 0 then (if 0 ≤ (wrap64 (x16_1 - 1)) then (if (wrap64 (x16_1 - 1)) < (l0_1.length : Int) then (gridhallref3_OfferError.j2 kj11 x16_1 l0_1 (l0_1.length : Int) x16_1 (decide (((rd_T132 l0_1 (wrap64 (x16_1 - 1))).f1) > ((rd_T132 l0_1 x16_1).f1))) a0_0 l0_1) else (none)) else (none)) else (gridhallref3_OfferError.j2 kj11 x16_1 l0_1 (l0_1.length : Int) x16_1 false a0_0 l0_1)) = some r:=by rw [if_neg (show ¬ (false = true) by decide)] at H;exact H
     clear H;have H:=H1;clear H1;have HC24:=k0_ H;clear H
     go_upto_region 10 with (fail)
     go_cut [44] (fun v44 wc=>∃ (kq : Nat) (x44_23 : Bool), v44 = .bool x44_23∧Aside0 (gridhallref3_OfferError.j2 kq x16_1 l0_1 (l0_1.length : Int) x16_1 x44_23 a0_0 l0_1 = some r)∧Aside0 (kq ≤ kj11)∧Aside0 (wc.heap[gb209]? = some (.cells #[.string a0_0, (.slice (some ad211) l0_1.length c0_1)] 57 (0, 0)))∧Aside0 (wc.heap[gb212]? = some (.cells #[.int .i64 ((rd_T132 l0_1 x16_1).f0), .int .i64 ((rd_T132 l0_1 x16_1).f1)] 132 (0, 0)))∧Aside0 (Below w.heap.size w wc))
     case first =>
      have H:=HC24.out;clear HC24
      by_cases c25 : x16_1 > 0
      ·rw [if_pos c25] at H
       have c25b0:=decide_eq_true c25;clear c25;(first|rw [c25b0]|(simp only [i64_w, i32_w];rw [c25b0])|skip);obtain ⟨ji26, hji26⟩ : ∃ j_ : Int, (wrap64 (x16_1 - 1)) = j_:=⟨_, rfl⟩;replace H : (if 0 ≤ (ji26) then (if (ji26) < (l0_1.length : Int) then (gridhallref3_OfferError.j2 kj11 x16_1 l0_1 (l0_1.length : Int) x16_1 (decide (((rd_T132 l0_1 (ji26)).f1) > ((rd_T132 l0_1 x16_1).f1))) a0_0 l0_1) else (none)) else (none)) = some r:=by first|(rw [hji26] at H;exact H)|(simp only [hji26] at H ⊢;exact H)
       have hji26w : (IntKind.i64.wrap (x16_1 - 1)) = ji26:=(i64_w _).trans hji26
       obtain ⟨c27,H⟩:=gi_ H;have c27b0:=decide_eq_true c27;clear c27
       obtain ⟨c28,H⟩:=gi_ H;have c28b0:=decide_eq_true c28;clear c28;have H':=k0_ H;clear H;have hnb29:=NB209_212.out;have hnc29:=NB212_209.out;obtain ⟨hcz30_0,hcz30_1⟩:=bc2_ BK209.out;obtain ⟨hfz30_0,hfz30_1⟩:=bf2_ BK209.out;have p215 : 0 ≤ ((ji26) : Int):=of_decide_eq_true as_;have q215 : (ji26) < (l0_1.length : Int):=of_decide_eq_true as_;obtain ⟨ad215, e215, hx215_0, hx215_1⟩:=at_T132 HR0_1.out (ji26) p215 q215;obtain rfl : ad211 = ad215:=(by injection e215);replace hx215_0:=bt_ HB.out hx215_0;replace hx215_1:=bt_ HB.out hx215_1;replace p215:=eq_true p215;replace q215:=eq_true q215;obtain ⟨hcz31_0,hcz31_1⟩:=bc2_ BK212.out;obtain ⟨hfz31_0,hfz31_1⟩:=bf2_ BK212.out;go_wp2
       repeat (go_quiet (fail);try go_wp2)
       go_meet
       case rel=>exact ⟨_, (decide (((rd_T132 l0_1 (ji26)).f1) > ((rd_T132 l0_1 x16_1).f1))),(by first|rfl|(simp;done)|(simp only [← hji26] <;> (first|rfl|simp))|(simp [*];done)), H', ⟨by have:=HK1.out;have:=HJ11.out;first|omega|exact Nat.le_refl _⟩,⟨bq_ BK209.out⟩,⟨bq_ BK212.out⟩,⟨hb2_ HB.out GE209.out GE212.out⟩⟩
      ·rw [if_neg c25] at H
       have c25b0:=decide_eq_false c25;clear c25;(first|rw [c25b0]|(simp only [i64_w, i32_w];rw [c25b0])|skip);have H':=k0_ H;clear H;go_wp2
       repeat (go_quiet (fail);try go_wp2)
       go_meet
       case rel=>exact ⟨_, (false),rs_, H', ⟨by have:=HK1.out;have:=HJ11.out;first|omega|exact Nat.le_refl _⟩,⟨bq_ BK209.out⟩,⟨bq_ BK212.out⟩,⟨hb2_ HB.out GE209.out GE212.out⟩⟩
     clear HC24;obtain ⟨kq, x44_23, rfl, HA, HJ23, BK209, BK212, HB⟩:=hcut;obtain _|kj23:=kq
     ·exact absurd HA.out (by simp [gridhallref3_OfferError.j2])
     have H:=HA.out;clear HA;simp only [gridhallref3_OfferError.j2] at H
     by_cases c32 : x44_23 = true
     ·subst c32
      have H1 : (some 3) = some r:=by rw [if_pos rfl] at H;exact H
      clear H;have H:=H1;clear H1;obtain rfl:=Option.some.inj H;go_wp2
      go_ret
      exact ⟨er_, hb2_ HB.out GE209.out GE212.out⟩
     ·replace c32:=Bool.eq_false_iff.mpr c32
      subst c32;have H1 : ((gridhallref3_Before.f kj23 a0_0 l0_1 (wrap64 (x16_1 + 1))).bind fun t216=>(if t216 > 100000 then (some 2) else (gridhallref3_OfferError.l0 kj23 l0_1 (l0_1.length : Int) (wrap64 (x16_1 + 1)) a0_0 l0_1))) = some r:=by rw [if_neg (show ¬ (false = true) by decide)] at H;exact H
      clear H;have H:=H1;clear H1;replace H:=Option.bind_eq_some_iff.mp H;obtain ⟨t216, A330, H⟩:=H;replace H : (if t216 > 100000 then (some 2) else (gridhallref3_OfferError.l0 kj23 l0_1 (l0_1.length : Int) (wrap64 (x16_1 + 1)) a0_0 l0_1)) = some r:=H;have A33:=k0_ A330;clear A330
      by_cases c34 : t216 > 100000
      rw [if_pos c34] at H;have c34b0:=decide_eq_true c34;clear c34;obtain rfl:=Option.some.inj H;rotate_left;rw [if_neg c34] at H;have c34b0:=decide_eq_false c34;clear c34;have H':=k0_ H;clear H;rotate_left
      all_goals
       have hnb35:=NB209_212.out;have hnc35:=NB212_209.out;obtain ⟨hcz36_0,hcz36_1⟩:=bc2_ BK209.out;obtain ⟨hfz36_0,hfz36_1⟩:=bf2_ BK209.out
       go_wp2_with (first|(go_at_call 66;(with_reducible refine (gridhallref3_Before.calls kj23 a0_0 _ _ l0_1 (wrap64 (x16_1 + 1)) t216 _ ?side1 ?side2 A33.out).mono ?_);(case side1=>repeat (first|exact (Kd.C_below HR0_1.out HB.out)|(with_reducible refine Kd.C_alloc ?_ _)|(with_reducible refine Kd.C_drewN ?_ _)|(with_reducible refine Kd.C_drew ?_)));(case side2=>exact HC0_1.out);rintro e w37 ⟨rfl, hb⟩;replace BK209:=k0_ (blk_below (g:=gb209) (o:=.cells #[.string a0_0, .slice (some ad211) l0_1.length c0_1] 57 (0, 0)) (bq_ BK209.out) hb);replace BK212:=k0_ (blk_below (g:=gb212) (o:=.cells #[.int .i64 ((rd_T132 l0_1 x16_1).f0), .int .i64 ((rd_T132 l0_1 x16_1).f1)] 132 (0, 0)) (bq_ BK212.out) hb);replace HB:=k0_ (below_step (hb2_ HB.out GE209.out GE212.out) hb);clear hb))
      ·go_ret
       exact ⟨er_, hb2_ HB.out GE209.out GE212.out⟩
      ·go_roundg kj23
       case measure=>have:=HK1.out;have:=HJ11.out;have:=HJ23.out;omega
       case rel=>exact ⟨(wrap64 (x16_1 + 1)),rs_, H', ⟨by have:=HK1.out;have:=HJ11.out;have:=HJ23.out;omega⟩,⟨bq_ BK209.out⟩,⟨hb2_ HB.out GE209.out GE212.out⟩⟩
   ·rw [if_neg c9] at H
    have c9b0:=decide_eq_false c9;clear c9;obtain rfl:=Option.some.inj H;go_wp2
    go_ret
    exact ⟨er_, hb1_ HB.out GE209.out⟩
 ·replace c3:=Bool.eq_false_iff.mpr c3
  subst c3;have H1 : (some 6) = some r:=by rw [if_neg (show ¬ (false = true) by decide)] at H;exact H
  clear H;have H:=H1;clear H1;obtain rfl:=Option.some.inj H
  go_enter Try.func97, Try.ntmps97
  go_wp2_with (first|((with_reducible refine gate_dst (N:=1) rfl ?_);refine box_event ?hg (N:=1) ?hd (cs:=#[.string a0_0, .slice A0_1 l0_1.length c0_1]) (t:=57) ?hr ?_;(case hd=>rfl);(case hg=>rfl);(case hr=>first|(go_simp;done)|(go_simp;rfl));intro gb209 hg w41 hbox hb;have BK209:=k0_ (hbox);have GW209:=k0_ ((by rw [hg];exact (below_size (hb0_ HB.out)) : w.heap.size ≤ gb209));have GE209:=k0_ ((by rw [hg];exact (below_size (hb0_ HB.out)) : w.heap.size ≤ gb209));replace HB:=k0_ (below_step (hb0_ HB.out) hb);clear hb hbox hg;obtain ⟨hcz42_0,hcz42_1⟩:=bc2_ BK209.out;obtain ⟨hfz42_0,hfz42_1⟩:=bf2_ BK209.out)|(go_at_call 115;(with_reducible refine (gridhallref3_Named.calls k a0_0 false _ A2.out).mono ?_);rintro e w' ⟨rfl, ⟨nd, rfl⟩⟩;(try first|exact ⟨rfl, _, World.drewN_drewN _ _ _⟩|exact ⟨rfl, _, Eq.trans (World.drewN_drewN _ _ _) (congrArg (World.drewN _) (Nat.add_assoc _ _ _))⟩)))
  go_ret
  exact ⟨er_, hb1_ HB.out GE209.out⟩

/-! ### gridhallref3_All: function 98 -/
def gridhallref3_All.f (k : Nat) (a0_0 : ByteArray) (l0_1 : List (S132)) : Option (Int) := (gridhallref3_Before.f k a0_0 l0_1 (l0_1.length : Int)).bind fun t218 => (some t218)
theorem gridhallref3_All.mono : ∀ a0 a1 k, LeO (gridhallref3_All.f k a0 a1) (gridhallref3_All.f (k + 1) a0 a1) := by
 intro a0 a1 k
 unfold gridhallref3_All.f
 repeat' first|(with_reducible first|exact gridhallref3_Before.mono _ _ _ _|exact LeO.refl _|exact LeO.none _|refine LeO.ite ?_ ?_|refine LeO.bind ?_ (fun _=>?_))|exact gridhallref3_Before.mono _ _ _ _|exact LeO.none _|refine LeO.ite ?_ ?_|refine LeO.bind ?_ (fun _=>?_)
set_option maxHeartbeats 8000000 in
set_option maxRecDepth 100000 in
theorem gridhallref3_All.calls (k : Nat) (a0_0 : ByteArray) (A0_1 : Option Addr) (c0_1 : Nat) (l0_1 : List (S132)) (r : Int) (w : World) (hr0_1 : Kd.C k132 w A0_1 l0_1.length l0_1) (hc0_1 : l0_1.length ≤ c0_1) (h : gridhallref3_All.f k a0_0 l0_1 = some r) :
  Calls Try.prog 98 #[.agg #[.string a0_0, .slice A0_1 l0_1.length c0_1]] w fun e w' => e = .returned (.int .i64 r) ∧ Below w.heap.size w w' := by
 have hu57:=Try.underlying57;have HR0_1:=k0_ hr0_1;have HC0_1:=k0_ hc0_1;clear hr0_1 hc0_1;have HB:=k0_ (Below.refl w.heap.size w);have H : ((gridhallref3_Before.f k a0_0 l0_1 (l0_1.length : Int)).bind fun t218=>(some t218)) = some r:=h;clear h;replace H:=Option.bind_eq_some_iff.mp H;obtain ⟨t218, A20, H⟩:=H;replace H : (some t218) = some r:=H;have A2:=k0_ A20;clear A20;obtain rfl:=Option.some.inj H
 go_enter Try.func98, Try.ntmps98
 go_wp2_with (first|((with_reducible refine gate_dst (N:=1) rfl ?_);refine box_event ?hg (N:=1) ?hd (cs:=#[.string a0_0, .slice A0_1 l0_1.length c0_1]) (t:=57) ?hr ?_;(case hd=>rfl);(case hg=>rfl);(case hr=>first|(go_simp;done)|(go_simp;rfl));intro gb217 hg w3 hbox hb;have BK217:=k0_ (hbox);have GW217:=k0_ ((by rw [hg];exact (below_size (hb0_ HB.out)) : w.heap.size ≤ gb217));have GE217:=k0_ ((by rw [hg];exact (below_size (hb0_ HB.out)) : w.heap.size ≤ gb217));replace HB:=k0_ (below_step (hb0_ HB.out) hb);clear hb hbox hg;obtain ⟨hcz4_0,hcz4_1⟩:=bc2_ BK217.out;obtain ⟨hfz4_0,hfz4_1⟩:=bf2_ BK217.out)|((with_reducible refine gate_callee (f:=66) rfl ?_);refine goesL_ (some 7) rfl rfl Try.func66 (by kernel_rfl) rfl #[.agg #[.string a0_0, .slice A0_1 l0_1.length c0_1], .int .i64 (l0_1.length : Int)] rfl mt_ ?_;(with_reducible refine (gridhallref3_Before.calls k a0_0 _ _ l0_1 (l0_1.length : Int) t218 _ ?side1 ?side2 A2.out).mono ?_);(case side1=>repeat (first|exact (Kd.C_below HR0_1.out HB.out)|(with_reducible refine Kd.C_alloc ?_ _)|(with_reducible refine Kd.C_drewN ?_ _)|(with_reducible refine Kd.C_drew ?_)));(case side2=>exact HC0_1.out);rintro e w5 ⟨rfl, hb⟩;refine ⟨_, rfl, ?_⟩;replace BK217:=k0_ (blk_below (g:=gb217) (o:=.cells #[.string a0_0, .slice A0_1 l0_1.length c0_1] 57 (0, 0)) (bq_ BK217.out) hb);replace HB:=k0_ (below_step (hb1_ HB.out GE217.out) hb);clear hb))
 go_ret
 exact ⟨er_, hb1_ HB.out GE217.out⟩

end Go.Proofs.Ytefkdkppipdceaa.PCommitServes
