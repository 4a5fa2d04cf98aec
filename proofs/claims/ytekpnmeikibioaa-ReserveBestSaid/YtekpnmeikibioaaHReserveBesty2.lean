/- Contracts of functions that ReserveBest reaches, a text of this session's own. -/
import Derived.Test.YtekpnmeikibioaaBox2
import Derived.Test.YtekpnmeikibioaaHReserveBesty0
import Derived.Test.YtekpnmeikibioaaHReserveBesty1
namespace Go.Proofs.Ytekpnmeikibioaa.PReserveBest
open Go.RowKit Go.Proofs.YtekpnmeikibioaaW.PrintWords Go.Proofs.YtekpnmeikibioaaW.PrintLast Go.Proofs.YtekpnmeikibioaaW.PrintMore
attribute [local go_sem] max2_int min2_int max_two min_two max_three min_three max_four min_four   -- for this text's walks alone
set_option linter.unusedVariables false
set_option linter.unusedSimpArgs false

/-! ### gridhallref3_OfferError: function 50 -/
mutual
def gridhallref3_OfferError.l0 : Nat → List (S41) → Int → Int → ByteArray → List (S41) → Option (Int)
 | 0, _, _, _, _, _ => none
 | k + 1, x14, x15, x16, x112000, x112001 => if x16 < x15 then (if 0 ≤ x16 then (if x16 < (x14.length : Int) then ((gridhallref3_In.f ((rd_T41 x14 x16).f0) 1 100000).bind fun t115 => (if t115 = true then ((gridhallref3_In.f ((rd_T41 x14 x16).f1) (-1000000) 1000000).bind fun t116 => (gridhallref3_OfferError.j1 k x16 x14 x15 x16 (!t116) x112000 x112001 ((rd_T41 x14 x16).f0) ((rd_T41 x14 x16).f1))) else (gridhallref3_OfferError.j1 k x16 x14 x15 x16 true x112000 x112001 ((rd_T41 x14 x16).f0) ((rd_T41 x14 x16).f1)))) else (none)) else (none)) else (some 0)
def gridhallref3_OfferError.j1 : Nat → Int → List (S41) → Int → Int → Bool → ByteArray → List (S41) → Int → Int → Option (Int)
 | 0, _, _, _, _, _, _, _, _, _ => none
 | k + 1, x3, x14, x15, x16, x30, x112000, x112001, x115000, x115001 => if x30 = true then (some 4) else (if x3 > 0 then (if 0 ≤ (wrap64 (x3 - 1)) then (if (wrap64 (x3 - 1)) < (x112001.length : Int) then (gridhallref3_OfferError.j2 k x3 x14 x15 x16 (decide (((rd_T41 x112001 (wrap64 (x3 - 1))).f1) > x115001)) x112000 x112001) else (none)) else (none)) else (gridhallref3_OfferError.j2 k x3 x14 x15 x16 false x112000 x112001))
def gridhallref3_OfferError.j2 : Nat → Int → List (S41) → Int → Int → Bool → ByteArray → List (S41) → Option (Int)
 | 0, _, _, _, _, _, _, _ => none
 | k + 1, x3, x14, x15, x16, x44, x112000, x112001 => if x44 = true then (some 3) else ((gridhallref3_Before.f k x112000 x112001 (wrap64 (x3 + 1))).bind fun t118 => (if t118 > 100000 then (some 2) else (gridhallref3_OfferError.l0 k x14 x15 (wrap64 (x16 + 1)) x112000 x112001)))
end
def gridhallref3_OfferError.f (k : Nat) (a0_0 : ByteArray) (l0_1 : List (S41)) : Option (Int) := (gridhallref3_Named.f k a0_0).bind fun t112 => (if t112 = true then (if (l0_1.length : Int) > 12 then (some 2) else (gridhallref3_OfferError.l0 k l0_1 (l0_1.length : Int) 0 a0_0 l0_1)) else (some 6))
theorem gridhallref3_OfferError.mono_l : ∀ k, (∀ y0 y1 y2 y3 y4, LeO (gridhallref3_OfferError.l0 k y0 y1 y2 y3 y4) (gridhallref3_OfferError.l0 (k + 1) y0 y1 y2 y3 y4)) ∧ (∀ y0 y1 y2 y3 y4 y5 y6 y7 y8, LeO (gridhallref3_OfferError.j1 k y0 y1 y2 y3 y4 y5 y6 y7 y8) (gridhallref3_OfferError.j1 (k + 1) y0 y1 y2 y3 y4 y5 y6 y7 y8)) ∧ (∀ y0 y1 y2 y3 y4 y5 y6, LeO (gridhallref3_OfferError.j2 k y0 y1 y2 y3 y4 y5 y6) (gridhallref3_OfferError.j2 (k + 1) y0 y1 y2 y3 y4 y5 y6))
 | 0 => ⟨fun _ _ _ _ _ r h => by simp [gridhallref3_OfferError.l0] at h, fun _ _ _ _ _ _ _ _ _ r h => by simp [gridhallref3_OfferError.j1] at h, fun _ _ _ _ _ _ _ r h => by simp [gridhallref3_OfferError.j2] at h⟩
 | k + 1 => by
  obtain ⟨ih0, ih1, ih2⟩:=gridhallref3_OfferError.mono_l k
  refine ⟨?_, ?_, ?_⟩
  ·intro y0 y1 y2 y3 y4
   unfold gridhallref3_OfferError.l0
   repeat' first|(with_reducible first|exact ih0 _ _ _ _ _|exact ih1 _ _ _ _ _ _ _ _ _|exact ih2 _ _ _ _ _ _ _|exact gridhallref3_Before.mono _ _ _ _|exact gridhallref3_Named.mono _ _|exact LeO.refl _|exact LeO.none _|refine LeO.ite ?_ ?_|refine LeO.bind ?_ (fun _=>?_))|exact ih0 _ _ _ _ _|exact ih1 _ _ _ _ _ _ _ _ _|exact ih2 _ _ _ _ _ _ _|exact gridhallref3_Before.mono _ _ _ _|exact gridhallref3_Named.mono _ _|exact LeO.none _|refine LeO.ite ?_ ?_|refine LeO.bind ?_ (fun _=>?_)
  ·intro y0 y1 y2 y3 y4 y5 y6 y7 y8
   unfold gridhallref3_OfferError.j1
   repeat' first|(with_reducible first|exact ih0 _ _ _ _ _|exact ih1 _ _ _ _ _ _ _ _ _|exact ih2 _ _ _ _ _ _ _|exact gridhallref3_Before.mono _ _ _ _|exact gridhallref3_Named.mono _ _|exact LeO.refl _|exact LeO.none _|refine LeO.ite ?_ ?_|refine LeO.bind ?_ (fun _=>?_))|exact ih0 _ _ _ _ _|exact ih1 _ _ _ _ _ _ _ _ _|exact ih2 _ _ _ _ _ _ _|exact gridhallref3_Before.mono _ _ _ _|exact gridhallref3_Named.mono _ _|exact LeO.none _|refine LeO.ite ?_ ?_|refine LeO.bind ?_ (fun _=>?_)
  ·intro y0 y1 y2 y3 y4 y5 y6
   unfold gridhallref3_OfferError.j2
   repeat' first|(with_reducible first|exact ih0 _ _ _ _ _|exact ih1 _ _ _ _ _ _ _ _ _|exact ih2 _ _ _ _ _ _ _|exact gridhallref3_Before.mono _ _ _ _|exact gridhallref3_Named.mono _ _|exact LeO.refl _|exact LeO.none _|refine LeO.ite ?_ ?_|refine LeO.bind ?_ (fun _=>?_))|exact ih0 _ _ _ _ _|exact ih1 _ _ _ _ _ _ _ _ _|exact ih2 _ _ _ _ _ _ _|exact gridhallref3_Before.mono _ _ _ _|exact gridhallref3_Named.mono _ _|exact LeO.none _|refine LeO.ite ?_ ?_|refine LeO.bind ?_ (fun _=>?_)
theorem gridhallref3_OfferError.mono : ∀ a0 a1 k, LeO (gridhallref3_OfferError.f k a0 a1) (gridhallref3_OfferError.f (k + 1) a0 a1) := by
 intro a0 a1 k
 obtain ⟨ih0, ih1, ih2⟩:=gridhallref3_OfferError.mono_l k
 unfold gridhallref3_OfferError.f
 repeat' first|(with_reducible first|exact ih0 _ _ _ _ _|exact ih1 _ _ _ _ _ _ _ _ _|exact ih2 _ _ _ _ _ _ _|exact gridhallref3_Before.mono _ _ _ _|exact gridhallref3_Named.mono _ _|exact LeO.refl _|exact LeO.none _|refine LeO.ite ?_ ?_|refine LeO.bind ?_ (fun _=>?_))|exact ih0 _ _ _ _ _|exact ih1 _ _ _ _ _ _ _ _ _|exact ih2 _ _ _ _ _ _ _|exact gridhallref3_Before.mono _ _ _ _|exact gridhallref3_Named.mono _ _|exact LeO.none _|refine LeO.ite ?_ ?_|refine LeO.bind ?_ (fun _=>?_)
set_option maxHeartbeats 8000000 in
set_option maxRecDepth 100000 in
theorem gridhallref3_OfferError.calls (k : Nat) (a0_0 : ByteArray) (A0_1 : Option Addr) (c0_1 : Nat) (l0_1 : List (S41)) (r : Int) (w : World) (hr0_1 : Kd.C k41 w A0_1 l0_1.length l0_1) (hc0_1 : l0_1.length ≤ c0_1) (h : gridhallref3_OfferError.f k a0_0 l0_1 = some r) :
  Calls Try.prog 50 #[.agg #[.string a0_0, .slice A0_1 l0_1.length c0_1]] w fun e w' => e = .returned (.int .i64 r) ∧ Below w.heap.size w w' := by
 have hu29:=Try.underlying29;have hu41:=Try.underlying41;have HR0_1:=k0_ hr0_1;have HC0_1:=k0_ hc0_1;clear hr0_1 hc0_1;have HB:=k0_ (Below.refl w.heap.size w);have H : ((gridhallref3_Named.f k a0_0).bind fun t112=>(if t112 = true then (if (l0_1.length : Int) > 12 then (some 2) else (gridhallref3_OfferError.l0 k l0_1 (l0_1.length : Int) 0 a0_0 l0_1)) else (some 6))) = some r:=h;clear h;replace H:=Option.bind_eq_some_iff.mp H;obtain ⟨t112, A20, H⟩:=H;replace H : (if t112 = true then (if (l0_1.length : Int) > 12 then (some 2) else (gridhallref3_OfferError.l0 k l0_1 (l0_1.length : Int) 0 a0_0 l0_1)) else (some 6)) = some r:=H;have A2:=k0_ A20;clear A20
 by_cases c3 : t112 = true
 ·subst c3
  have H1 : (if (l0_1.length : Int) > 12 then (some 2) else (gridhallref3_OfferError.l0 k l0_1 (l0_1.length : Int) 0 a0_0 l0_1)) = some r:=by rw [if_pos rfl] at H;exact H
  clear H;have H:=H1;clear H1
  by_cases c4 : (l0_1.length : Int) > 12
  rw [if_pos c4] at H;have c4b0:=decide_eq_true c4;have c4b1 : decide (12 < l0_1.length) = true:=decide_eq_true (by omega);clear c4;obtain rfl:=Option.some.inj H;rotate_left;rw [if_neg c4] at H;have c4b0:=decide_eq_false c4;have c4b1 : decide (12 < l0_1.length) = false:=decide_eq_false (by omega);clear c4;have H':=k0_ H;clear H;rotate_left
  all_goals
   go_enter Try.func50, Try.ntmps50
   go_wp2_with (first|((with_reducible refine gate_dst (N:=1) rfl ?_);refine box_event ?hg (N:=1) ?hd (cs:=#[.string a0_0, .slice A0_1 l0_1.length c0_1]) (t:=29) ?hr ?_;(case hd=>rfl);(case hg=>rfl);(case hr=>first|(go_simp;done)|(go_simp;rfl));intro gb111 hg w5 hbox hb;have BK111:=k0_ (hbox);have GW111:=k0_ ((by rw [hg];exact (below_size (hb0_ HB.out)) : w.heap.size ≤ gb111));have GE111:=k0_ ((by rw [hg];exact (below_size (hb0_ HB.out)) : w.heap.size ≤ gb111));replace HB:=k0_ (below_step (hb0_ HB.out) hb);clear hb hbox hg;obtain ⟨hcz6_0,hcz6_1⟩:=bc2_ BK111.out;obtain ⟨hfz6_0,hfz6_1⟩:=bf2_ BK111.out)|(go_at_call 63;(with_reducible refine (gridhallref3_Named.calls k a0_0 true _ A2.out).mono ?_);rintro e w' ⟨rfl, ⟨nd, rfl⟩⟩;(try first|exact ⟨rfl, _, World.drewN_drewN _ _ _⟩|exact ⟨rfl, _, Eq.trans (World.drewN_drewN _ _ _) (congrArg (World.drewN _) (Nat.add_assoc _ _ _))⟩)))
   repeat (go_quiet (first|((with_reducible refine gate_dst (N:=1) rfl ?_);refine box_event ?hg (N:=1) ?hd (cs:=#[.string a0_0, .slice A0_1 l0_1.length c0_1]) (t:=29) ?hr ?_;(case hd=>rfl);(case hg=>rfl);(case hr=>first|(go_simp;done)|(go_simp;rfl));intro gb111 hg w5 hbox hb;have BK111:=k0_ (hbox);have GW111:=k0_ ((by rw [hg];exact (below_size (hb0_ HB.out)) : w.heap.size ≤ gb111));have GE111:=k0_ ((by rw [hg];exact (below_size (hb0_ HB.out)) : w.heap.size ≤ gb111));replace HB:=k0_ (below_step (hb0_ HB.out) hb);clear hb hbox hg;obtain ⟨hcz6_0,hcz6_1⟩:=bc2_ BK111.out;obtain ⟨hfz6_0,hfz6_1⟩:=bf2_ BK111.out)|(go_at_call 63;(with_reducible refine (gridhallref3_Named.calls k a0_0 true _ A2.out).mono ?_);rintro e w' ⟨rfl, ⟨nd, rfl⟩⟩;(try first|exact ⟨rfl, _, World.drewN_drewN _ _ _⟩|exact ⟨rfl, _, Eq.trans (World.drewN_drewN _ _ _) (congrArg (World.drewN _) (Nat.add_assoc _ _ _))⟩)));try go_wp2_with (first|((with_reducible refine gate_dst (N:=1) rfl ?_);refine box_event ?hg (N:=1) ?hd (cs:=#[.string a0_0, .slice A0_1 l0_1.length c0_1]) (t:=29) ?hr ?_;(case hd=>rfl);(case hg=>rfl);(case hr=>first|(go_simp;done)|(go_simp;rfl));intro gb111 hg w5 hbox hb;have BK111:=k0_ (hbox);have GW111:=k0_ ((by rw [hg];exact (below_size (hb0_ HB.out)) : w.heap.size ≤ gb111));have GE111:=k0_ ((by rw [hg];exact (below_size (hb0_ HB.out)) : w.heap.size ≤ gb111));replace HB:=k0_ (below_step (hb0_ HB.out) hb);clear hb hbox hg;obtain ⟨hcz6_0,hcz6_1⟩:=bc2_ BK111.out;obtain ⟨hfz6_0,hfz6_1⟩:=bf2_ BK111.out)|(go_at_call 63;(with_reducible refine (gridhallref3_Named.calls k a0_0 true _ A2.out).mono ?_);rintro e w' ⟨rfl, ⟨nd, rfl⟩⟩;(try first|exact ⟨rfl, _, World.drewN_drewN _ _ _⟩|exact ⟨rfl, _, Eq.trans (World.drewN_drewN _ _ _) (congrArg (World.drewN _) (Nat.add_assoc _ _ _))⟩))))
  ·go_ret
   exact ⟨er_, hb1_ HB.out GE111.out⟩
  ·try simp only [Act.put, q1_,q3_,q2_]
   go_loopg [16] k (fun kq v16 w'=>∃ (x16_1 : Int), v16 = .int .i64 x16_1∧Aside0 (gridhallref3_OfferError.l0 kq l0_1 (l0_1.length : Int) x16_1 a0_0 l0_1 = some r)∧Aside0 (kq ≤ k)∧Aside0 (w'.heap[gb111]? = some (.cells #[.string a0_0, (.slice A0_1 l0_1.length c0_1)] 29 (0, 0)))∧Aside0 (Below w.heap.size w w'))
   case atStart=>exact ⟨(0),rs_, H', ⟨Nat.le_refl _⟩,⟨bq_ BK111.out⟩,⟨hb1_ HB.out GE111.out⟩⟩
   clear H';(try clear p2);(try clear c3);(try clear c4);(try clear c4b0);(try clear c4b1);(try clear c5);(try clear hcz6_0);(try clear hcz6_1);(try clear hcz6_0);(try clear hcz6_1);(try clear hfz6_0);(try clear hfz6_1);(try clear hfz6_0);(try clear hfz6_1);obtain ⟨x16_1, rfl, HA, HK1, BK111, HB⟩:=hrel;obtain _|k1:=gk
   ·exact absurd HA.out (by simp [gridhallref3_OfferError.l0])
   have H:=HA.out;clear HA;simp only [gridhallref3_OfferError.l0] at H
   by_cases c9 : x16_1 < (l0_1.length : Int)
   ·rw [if_pos c9] at H
    have c9b0:=decide_eq_true c9;clear c9
    obtain ⟨c10,H⟩:=gi_ H;have c10b0:=decide_eq_true c10;clear c10
    obtain ⟨c11,H⟩:=gi_ H;have c11b0:=decide_eq_true c11;clear c11;have HC12:=k0_ H;clear H;have p113 : 0 ≤ (x16_1 : Int):=of_decide_eq_true as_;have q113 : x16_1 < (l0_1.length : Int):=of_decide_eq_true as_;obtain ⟨ad113, e113, hx113_0, hx113_1⟩:=at_T41 HR0_1.out x16_1 p113 q113;cases e113;replace hx113_0:=bt_ HB.out hx113_0;replace hx113_1:=bt_ HB.out hx113_1;replace p113:=eq_true p113;replace q113:=eq_true q113
    go_upto_region 8 with (first|((with_reducible refine gate_dst (N:=4) rfl ?_);refine box_event ?hg (N:=4) ?hd (cs:=#[.int .i64 0, .int .i64 0]) (t:=41) ?hr ?_;(case hd=>rfl);(case hg=>rfl);(case hr=>first|(go_simp;done)|(go_simp;rfl));intro gb114 hg w13 hbox hb;have BK114:=k0_ (hbox);have GW114:=k0_ ((by rw [hg];exact (below_size (hb1_ HB.out GE111.out)) : w.heap.size ≤ gb114));have GE114:=k0_ ((by rw [hg];exact (below_size (hb1_ HB.out GE111.out)) : w.heap.size ≤ gb114));replace HB:=k0_ (below_step (hb1_ HB.out GE111.out) hb);have NB111_114:=k0_ ((by rw [hg];exact Nat.ne_of_lt (blk_lt (g:=gb111) (o:=.cells #[.string a0_0, .slice (some ad113) l0_1.length c0_1] 29 (0, 0)) (bq_ BK111.out)) : gb111 ≠ gb114));have NB114_111:=k0_ ((by rw [hg];exact Nat.ne_of_gt (blk_lt (g:=gb111) (o:=.cells #[.string a0_0, .slice (some ad113) l0_1.length c0_1] 29 (0, 0)) (bq_ BK111.out)) : gb114 ≠ gb111));replace BK111:=k0_ (blk_below (g:=gb111) (o:=.cells #[.string a0_0, .slice (some ad113) l0_1.length c0_1] 29 (0, 0)) (bq_ BK111.out) hb);clear hb hbox hg;have hnb14:=NB114_111.out;have hnc14:=NB111_114.out;obtain ⟨hcz15_0,hcz15_1⟩:=bc2_ BK114.out;obtain ⟨hfz15_0,hfz15_1⟩:=bf2_ BK114.out))
    repeat (go_quiet (first|((with_reducible refine gate_dst (N:=4) rfl ?_);refine box_event ?hg (N:=4) ?hd (cs:=#[.int .i64 0, .int .i64 0]) (t:=41) ?hr ?_;(case hd=>rfl);(case hg=>rfl);(case hr=>first|(go_simp;done)|(go_simp;rfl));intro gb114 hg w13 hbox hb;have BK114:=k0_ (hbox);have GW114:=k0_ ((by rw [hg];exact (below_size (hb1_ HB.out GE111.out)) : w.heap.size ≤ gb114));have GE114:=k0_ ((by rw [hg];exact (below_size (hb1_ HB.out GE111.out)) : w.heap.size ≤ gb114));replace HB:=k0_ (below_step (hb1_ HB.out GE111.out) hb);have NB111_114:=k0_ ((by rw [hg];exact Nat.ne_of_lt (blk_lt (g:=gb111) (o:=.cells #[.string a0_0, .slice (some ad113) l0_1.length c0_1] 29 (0, 0)) (bq_ BK111.out)) : gb111 ≠ gb114));have NB114_111:=k0_ ((by rw [hg];exact Nat.ne_of_gt (blk_lt (g:=gb111) (o:=.cells #[.string a0_0, .slice (some ad113) l0_1.length c0_1] 29 (0, 0)) (bq_ BK111.out)) : gb114 ≠ gb111));replace BK111:=k0_ (blk_below (g:=gb111) (o:=.cells #[.string a0_0, .slice (some ad113) l0_1.length c0_1] 29 (0, 0)) (bq_ BK111.out) hb);clear hb hbox hg;have hnb14:=NB114_111.out;have hnc14:=NB111_114.out;obtain ⟨hcz15_0,hcz15_1⟩:=bc2_ BK114.out;obtain ⟨hfz15_0,hfz15_1⟩:=bf2_ BK114.out));go_upto_region 8 with (first|((with_reducible refine gate_dst (N:=4) rfl ?_);refine box_event ?hg (N:=4) ?hd (cs:=#[.int .i64 0, .int .i64 0]) (t:=41) ?hr ?_;(case hd=>rfl);(case hg=>rfl);(case hr=>first|(go_simp;done)|(go_simp;rfl));intro gb114 hg w13 hbox hb;have BK114:=k0_ (hbox);have GW114:=k0_ ((by rw [hg];exact (below_size (hb1_ HB.out GE111.out)) : w.heap.size ≤ gb114));have GE114:=k0_ ((by rw [hg];exact (below_size (hb1_ HB.out GE111.out)) : w.heap.size ≤ gb114));replace HB:=k0_ (below_step (hb1_ HB.out GE111.out) hb);have NB111_114:=k0_ ((by rw [hg];exact Nat.ne_of_lt (blk_lt (g:=gb111) (o:=.cells #[.string a0_0, .slice (some ad113) l0_1.length c0_1] 29 (0, 0)) (bq_ BK111.out)) : gb111 ≠ gb114));have NB114_111:=k0_ ((by rw [hg];exact Nat.ne_of_gt (blk_lt (g:=gb111) (o:=.cells #[.string a0_0, .slice (some ad113) l0_1.length c0_1] 29 (0, 0)) (bq_ BK111.out)) : gb114 ≠ gb111));replace BK111:=k0_ (blk_below (g:=gb111) (o:=.cells #[.string a0_0, .slice (some ad113) l0_1.length c0_1] 29 (0, 0)) (bq_ BK111.out) hb);clear hb hbox hg;have hnb14:=NB114_111.out;have hnc14:=NB111_114.out;obtain ⟨hcz15_0,hcz15_1⟩:=bc2_ BK114.out;obtain ⟨hfz15_0,hfz15_1⟩:=bf2_ BK114.out)))
    (try simp only [Act.put, q1_,q2_,q3_])
    go_cut [30] (fun v30 wc=>∃ (kq : Nat) (x30_11 : Bool), v30 = .bool x30_11∧Aside0 (gridhallref3_OfferError.j1 kq x16_1 l0_1 (l0_1.length : Int) x16_1 x30_11 a0_0 l0_1 ((rd_T41 l0_1 x16_1).f0) ((rd_T41 l0_1 x16_1).f1) = some r)∧Aside0 (kq ≤ k1)∧Aside0 (wc.heap[gb111]? = some (.cells #[.string a0_0, (.slice (some ad113) l0_1.length c0_1)] 29 (0, 0)))∧Aside0 (wc.heap[gb114]? = some (.cells #[.int .i64 ((rd_T41 l0_1 x16_1).f0), .int .i64 ((rd_T41 l0_1 x16_1).f1)] 41 (0, 0)))∧Aside0 (Below w.heap.size w wc))
    case first =>
     have H:=HC12.out;clear HC12;replace H:=Option.bind_eq_some_iff.mp H;obtain ⟨t115, A160, H⟩:=H;replace H : (if t115 = true then ((gridhallref3_In.f ((rd_T41 l0_1 x16_1).f1) (-1000000) 1000000).bind fun t116=>(gridhallref3_OfferError.j1 k1 x16_1 l0_1 (l0_1.length : Int) x16_1 (!t116) a0_0 l0_1 ((rd_T41 l0_1 x16_1).f0) ((rd_T41 l0_1 x16_1).f1))) else (gridhallref3_OfferError.j1 k1 x16_1 l0_1 (l0_1.length : Int) x16_1 true a0_0 l0_1 ((rd_T41 l0_1 x16_1).f0) ((rd_T41 l0_1 x16_1).f1))) = some r:=H;have A16:=k0_ A160;clear A160
     by_cases c17 : t115 = true
     ·subst c17
      have H1 : ((gridhallref3_In.f ((rd_T41 l0_1 x16_1).f1) (-1000000) 1000000).bind fun t116=>(gridhallref3_OfferError.j1 k1 x16_1 l0_1 (l0_1.length : Int) x16_1 (!t116) a0_0 l0_1 ((rd_T41 l0_1 x16_1).f0) ((rd_T41 l0_1 x16_1).f1))) = some r:=by rw [if_pos rfl] at H;exact H
      clear H;have H:=H1;clear H1;replace H:=Option.bind_eq_some_iff.mp H;obtain ⟨t116, A180, H⟩:=H;replace H : (gridhallref3_OfferError.j1 k1 x16_1 l0_1 (l0_1.length : Int) x16_1 (!t116) a0_0 l0_1 ((rd_T41 l0_1 x16_1).f0) ((rd_T41 l0_1 x16_1).f1)) = some r:=H;have A18:=k0_ A180;clear A180;have H':=k0_ H;clear H;have hnb19:=NB114_111.out;have hnc19:=NB111_114.out;obtain ⟨hcz20_0,hcz20_1⟩:=bc2_ BK114.out;obtain ⟨hfz20_0,hfz20_1⟩:=bf2_ BK114.out
      go_wp2_with (first|(go_at_call 16;(with_reducible refine (gridhallref3_In.calls ((rd_T41 l0_1 x16_1).f0) 1 100000 true _ A16.out).mono ?_);rintro e w' ⟨rfl, ⟨nd, rfl⟩⟩;(try first|exact ⟨rfl, _, World.drewN_drewN _ _ _⟩|exact ⟨rfl, _, Eq.trans (World.drewN_drewN _ _ _) (congrArg (World.drewN _) (Nat.add_assoc _ _ _))⟩))|(go_at_call 16;(with_reducible refine (gridhallref3_In.calls ((rd_T41 l0_1 x16_1).f1) (-1000000) 1000000 t116 _ A18.out).mono ?_);rintro e w' ⟨rfl, ⟨nd, rfl⟩⟩;(try first|exact ⟨rfl, _, World.drewN_drewN _ _ _⟩|exact ⟨rfl, _, Eq.trans (World.drewN_drewN _ _ _) (congrArg (World.drewN _) (Nat.add_assoc _ _ _))⟩)))
      repeat (go_quiet (first|(go_at_call 16;(with_reducible refine (gridhallref3_In.calls ((rd_T41 l0_1 x16_1).f0) 1 100000 true _ A16.out).mono ?_);rintro e w' ⟨rfl, ⟨nd, rfl⟩⟩;(try first|exact ⟨rfl, _, World.drewN_drewN _ _ _⟩|exact ⟨rfl, _, Eq.trans (World.drewN_drewN _ _ _) (congrArg (World.drewN _) (Nat.add_assoc _ _ _))⟩))|(go_at_call 16;(with_reducible refine (gridhallref3_In.calls ((rd_T41 l0_1 x16_1).f1) (-1000000) 1000000 t116 _ A18.out).mono ?_);rintro e w' ⟨rfl, ⟨nd, rfl⟩⟩;(try first|exact ⟨rfl, _, World.drewN_drewN _ _ _⟩|exact ⟨rfl, _, Eq.trans (World.drewN_drewN _ _ _) (congrArg (World.drewN _) (Nat.add_assoc _ _ _))⟩)));try go_wp2_with (first|(go_at_call 16;(with_reducible refine (gridhallref3_In.calls ((rd_T41 l0_1 x16_1).f0) 1 100000 true _ A16.out).mono ?_);rintro e w' ⟨rfl, ⟨nd, rfl⟩⟩;(try first|exact ⟨rfl, _, World.drewN_drewN _ _ _⟩|exact ⟨rfl, _, Eq.trans (World.drewN_drewN _ _ _) (congrArg (World.drewN _) (Nat.add_assoc _ _ _))⟩))|(go_at_call 16;(with_reducible refine (gridhallref3_In.calls ((rd_T41 l0_1 x16_1).f1) (-1000000) 1000000 t116 _ A18.out).mono ?_);rintro e w' ⟨rfl, ⟨nd, rfl⟩⟩;(try first|exact ⟨rfl, _, World.drewN_drewN _ _ _⟩|exact ⟨rfl, _, Eq.trans (World.drewN_drewN _ _ _) (congrArg (World.drewN _) (Nat.add_assoc _ _ _))⟩))))
      go_meet
      case rel=>exact ⟨_, (!t116),rs_, H', ⟨by have:=HK1.out;first|omega|exact Nat.le_refl _⟩,⟨by (with_reducible repeat (first|refine blk_drewN ?_ _|refine blk_drew ?_|refine blk_alloc ?_ _));refine blk_far ?_ NB111_114.out _;(with_reducible repeat (first|refine blk_drewN ?_ _|refine blk_drew ?_|refine blk_alloc ?_ _));refine blk_far ?_ NB111_114.out _;(with_reducible repeat (first|refine blk_drewN ?_ _|refine blk_drew ?_|refine blk_alloc ?_ _));exact BK111.out⟩,⟨by (with_reducible repeat (first|refine blk_drewN ?_ _|refine blk_drew ?_|refine blk_alloc ?_ _));refine blk_put (cs:=#[.int .i64 ((rd_T41 l0_1 x16_1).f0), .int .i64 0]) ?_ 1 _ rfl;(with_reducible repeat (first|refine blk_drewN ?_ _|refine blk_drew ?_|refine blk_alloc ?_ _));refine blk_put (cs:=#[.int .i64 0, .int .i64 0]) ?_ 0 _ rfl;(with_reducible repeat (first|refine blk_drewN ?_ _|refine blk_drew ?_|refine blk_alloc ?_ _));exact BK114.out⟩,⟨hb2_ HB.out GE111.out GE114.out⟩⟩
     ·replace c17:=Bool.eq_false_iff.mpr c17
      subst c17;have H1 : (gridhallref3_OfferError.j1 k1 x16_1 l0_1 (l0_1.length : Int) x16_1 true a0_0 l0_1 ((rd_T41 l0_1 x16_1).f0) ((rd_T41 l0_1 x16_1).f1)) = some r:=by rw [if_neg (show ¬ (false = true) by decide)] at H;exact H
      clear H;have H:=H1;clear H1;have H':=k0_ H;clear H;have hnb21:=NB114_111.out;have hnc21:=NB111_114.out;obtain ⟨hcz22_0,hcz22_1⟩:=bc2_ BK114.out;obtain ⟨hfz22_0,hfz22_1⟩:=bf2_ BK114.out
      go_wp2_with (first|(go_at_call 16;(with_reducible refine (gridhallref3_In.calls ((rd_T41 l0_1 x16_1).f0) 1 100000 false _ A16.out).mono ?_);rintro e w' ⟨rfl, ⟨nd, rfl⟩⟩;(try first|exact ⟨rfl, _, World.drewN_drewN _ _ _⟩|exact ⟨rfl, _, Eq.trans (World.drewN_drewN _ _ _) (congrArg (World.drewN _) (Nat.add_assoc _ _ _))⟩)))
      repeat (go_quiet (first|(go_at_call 16;(with_reducible refine (gridhallref3_In.calls ((rd_T41 l0_1 x16_1).f0) 1 100000 false _ A16.out).mono ?_);rintro e w' ⟨rfl, ⟨nd, rfl⟩⟩;(try first|exact ⟨rfl, _, World.drewN_drewN _ _ _⟩|exact ⟨rfl, _, Eq.trans (World.drewN_drewN _ _ _) (congrArg (World.drewN _) (Nat.add_assoc _ _ _))⟩)));try go_wp2_with (first|(go_at_call 16;(with_reducible refine (gridhallref3_In.calls ((rd_T41 l0_1 x16_1).f0) 1 100000 false _ A16.out).mono ?_);rintro e w' ⟨rfl, ⟨nd, rfl⟩⟩;(try first|exact ⟨rfl, _, World.drewN_drewN _ _ _⟩|exact ⟨rfl, _, Eq.trans (World.drewN_drewN _ _ _) (congrArg (World.drewN _) (Nat.add_assoc _ _ _))⟩))))
      go_meet
      case rel=>exact ⟨_, (true),rs_, H', ⟨by have:=HK1.out;first|omega|exact Nat.le_refl _⟩,⟨by (with_reducible repeat (first|refine blk_drewN ?_ _|refine blk_drew ?_|refine blk_alloc ?_ _));refine blk_far ?_ NB111_114.out _;(with_reducible repeat (first|refine blk_drewN ?_ _|refine blk_drew ?_|refine blk_alloc ?_ _));refine blk_far ?_ NB111_114.out _;(with_reducible repeat (first|refine blk_drewN ?_ _|refine blk_drew ?_|refine blk_alloc ?_ _));exact BK111.out⟩,⟨by (with_reducible repeat (first|refine blk_drewN ?_ _|refine blk_drew ?_|refine blk_alloc ?_ _));refine blk_put (cs:=#[.int .i64 ((rd_T41 l0_1 x16_1).f0), .int .i64 0]) ?_ 1 _ rfl;(with_reducible repeat (first|refine blk_drewN ?_ _|refine blk_drew ?_|refine blk_alloc ?_ _));refine blk_put (cs:=#[.int .i64 0, .int .i64 0]) ?_ 0 _ rfl;(with_reducible repeat (first|refine blk_drewN ?_ _|refine blk_drew ?_|refine blk_alloc ?_ _));exact BK114.out⟩,⟨hb2_ HB.out GE111.out GE114.out⟩⟩
    clear HC12;(try clear c1);(try clear p1);(try clear q1);(try clear hx1);(try clear c2);(try clear p2);(try clear c3);(try clear c4);(try clear c4b0);(try clear c4b1);(try clear c5);(try clear c9);(try clear c9b0);(try clear c10);(try clear c10b0);(try clear c11);(try clear c11b0);(try clear p11);(try clear q11);(try clear hx11);(try clear c14);(try clear c17);(try clear c19);(try clear c21);(try clear hcz15_0);(try clear hcz15_1);(try clear hcz20_0);(try clear hcz20_1);(try clear hcz22_0);(try clear hcz22_1);(try clear hcz6_0);(try clear hcz6_1);(try clear hcz6_0);(try clear hcz6_1);(try clear hfz15_0);(try clear hfz15_1);(try clear hfz20_0);(try clear hfz20_1);(try clear hfz22_0);(try clear hfz22_1);(try clear hfz6_0);(try clear hfz6_1);(try clear hfz6_0);(try clear hfz6_1);(try clear hx113_0);(try clear hx113_1);(try clear p113);(try clear p2);(try clear q113);obtain ⟨kq, x30_11, rfl, HA, HJ11, BK111, BK114, HB⟩:=hcut;obtain _|kj11:=kq
    ·exact absurd HA.out (by simp [gridhallref3_OfferError.j1])
    have H:=HA.out;clear HA;simp only [gridhallref3_OfferError.j1] at H
    by_cases c23 : x30_11 = true
    ·subst c23
     have H1 : (some 4) = some r:=by rw [if_pos rfl] at H;exact H
     clear H;have H:=H1;clear H1;obtain rfl:=Option.some.inj H;go_wp2
     repeat (go_quiet (fail);try go_wp2)
     go_ret
     exact ⟨er_, hb2_ HB.out GE111.out GE114.out⟩
    ·replace c23:=Bool.eq_false_iff.mpr c23
     subst c23;have H1 : (if x16_1 > 0 then (if 0 ≤ (wrap64 (x16_1 - 1)) then (if (wrap64 (x16_1 - 1)) < (l0_1.length : Int) then (gridhallref3_OfferError.j2 kj11 x16_1 l0_1 (l0_1.length : Int) x16_1 (decide (((rd_T41 l0_1 (wrap64 (x16_1 - 1))).f1) > ((rd_T41 l0_1 x16_1).f1))) a0_0 l0_1) else (none)) else (none)) else (gridhallref3_OfferError.j2 kj11 x16_1 l0_1 (l0_1.length : Int) x16_1 false a0_0 l0_1)) = some r:=by rw [if_neg (show ¬ (false = true) by decide)] at H;exact H
     clear H;have H:=H1;clear H1;have HC24:=k0_ H;clear H
     go_upto_region 10 with (fail)
     repeat (go_quiet (fail);go_upto_region 10 with (fail))
     go_cut [44] (fun v44 wc=>∃ (kq : Nat) (x44_23 : Bool), v44 = .bool x44_23∧Aside0 (gridhallref3_OfferError.j2 kq x16_1 l0_1 (l0_1.length : Int) x16_1 x44_23 a0_0 l0_1 = some r)∧Aside0 (kq ≤ kj11)∧Aside0 (wc.heap[gb111]? = some (.cells #[.string a0_0, (.slice (some ad113) l0_1.length c0_1)] 29 (0, 0)))∧Aside0 (wc.heap[gb114]? = some (.cells #[.int .i64 ((rd_T41 l0_1 x16_1).f0), .int .i64 ((rd_T41 l0_1 x16_1).f1)] 41 (0, 0)))∧Aside0 (Below w.heap.size w wc))
     case first =>
      have H:=HC24.out;clear HC24
      by_cases c25 : x16_1 > 0
      ·rw [if_pos c25] at H
       have c25b0:=decide_eq_true c25;clear c25;(first|rw [c25b0]|(simp only [i64_w, i32_w];rw [c25b0])|skip);obtain ⟨ji26, hji26⟩ : ∃ j_ : Int, (wrap64 (x16_1 - 1)) = j_:=⟨_, rfl⟩;replace H : (if 0 ≤ (ji26) then (if (ji26) < (l0_1.length : Int) then (gridhallref3_OfferError.j2 kj11 x16_1 l0_1 (l0_1.length : Int) x16_1 (decide (((rd_T41 l0_1 (ji26)).f1) > ((rd_T41 l0_1 x16_1).f1))) a0_0 l0_1) else (none)) else (none)) = some r:=by first|(rw [hji26] at H;exact H)|(simp only [hji26] at H ⊢;exact H)
       have hji26w : (IntKind.i64.wrap (x16_1 - 1)) = ji26:=(i64_w _).trans hji26
       obtain ⟨c27,H⟩:=gi_ H;have c27b0:=decide_eq_true c27;clear c27
       obtain ⟨c28,H⟩:=gi_ H;have c28b0:=decide_eq_true c28;clear c28;have H':=k0_ H;clear H;have hnb29:=NB111_114.out;have hnc29:=NB114_111.out;obtain ⟨hcz30_0,hcz30_1⟩:=bc2_ BK111.out;obtain ⟨hfz30_0,hfz30_1⟩:=bf2_ BK111.out;have p117 : 0 ≤ ((ji26) : Int):=of_decide_eq_true as_;have q117 : (ji26) < (l0_1.length : Int):=of_decide_eq_true as_;obtain ⟨ad117, e117, hx117_0, hx117_1⟩:=at_T41 HR0_1.out (ji26) p117 q117;obtain rfl : ad113 = ad117:=(by injection e117);replace hx117_0:=bt_ HB.out hx117_0;replace hx117_1:=bt_ HB.out hx117_1;replace p117:=eq_true p117;replace q117:=eq_true q117;obtain ⟨hcz31_0,hcz31_1⟩:=bc2_ BK114.out;obtain ⟨hfz31_0,hfz31_1⟩:=bf2_ BK114.out;go_wp2
       repeat (go_quiet (fail);try go_wp2)
       go_meet
       case rel=>exact ⟨_, (decide (((rd_T41 l0_1 (ji26)).f1) > ((rd_T41 l0_1 x16_1).f1))),(by first|rfl|(simp;done)|(simp only [← hji26] <;> (first|rfl|simp))|(simp [*];done)), H', ⟨by have:=HK1.out;have:=HJ11.out;first|omega|exact Nat.le_refl _⟩,⟨bq_ BK111.out⟩,⟨bq_ BK114.out⟩,⟨hb2_ HB.out GE111.out GE114.out⟩⟩
      ·rw [if_neg c25] at H
       have c25b0:=decide_eq_false c25;clear c25;(first|rw [c25b0]|(simp only [i64_w, i32_w];rw [c25b0])|skip);have H':=k0_ H;clear H;go_wp2
       repeat (go_quiet (fail);try go_wp2)
       go_meet
       case rel=>exact ⟨_, (false),rs_, H', ⟨by have:=HK1.out;have:=HJ11.out;first|omega|exact Nat.le_refl _⟩,⟨bq_ BK111.out⟩,⟨bq_ BK114.out⟩,⟨hb2_ HB.out GE111.out GE114.out⟩⟩
     clear HC24;(try clear c1);(try clear p1);(try clear q1);(try clear hx1);(try clear c2);(try clear p2);(try clear c3);(try clear c4);(try clear c4b0);(try clear c4b1);(try clear c5);(try clear p6);(try clear c9);(try clear c9b0);(try clear c10);(try clear c10b0);(try clear c11);(try clear c11b0);(try clear p11);(try clear q11);(try clear hx11);(try clear c14);(try clear c17);(try clear c19);(try clear c21);(try clear c23);(try clear c25);(try clear c25b0);(try clear c27);(try clear c27b0);(try clear c28);(try clear c28b0);(try clear c29);(try clear hcz15_0);(try clear hcz15_1);(try clear hcz20_0);(try clear hcz20_1);(try clear hcz22_0);(try clear hcz22_1);(try clear hcz30_0);(try clear hcz30_1);(try clear hcz31_0);(try clear hcz31_1);(try clear hcz6_0);(try clear hcz6_1);(try clear hcz6_0);(try clear hcz6_1);(try clear hfz15_0);(try clear hfz15_1);(try clear hfz20_0);(try clear hfz20_1);(try clear hfz22_0);(try clear hfz22_1);(try clear hfz30_0);(try clear hfz30_1);(try clear hfz31_0);(try clear hfz31_1);(try clear hfz6_0);(try clear hfz6_1);(try clear hfz6_0);(try clear hfz6_1);(try clear hx113_0);(try clear hx113_1);(try clear hx117_0);(try clear hx117_1);(try clear p1);(try clear p11);(try clear p113);(try clear p117);(try clear p2);(try clear q1);(try clear q11);(try clear q113);(try clear q117);obtain ⟨kq, x44_23, rfl, HA, HJ23, BK111, BK114, HB⟩:=hcut;obtain _|kj23:=kq
     ·exact absurd HA.out (by simp [gridhallref3_OfferError.j2])
     have H:=HA.out;clear HA;simp only [gridhallref3_OfferError.j2] at H
     by_cases c32 : x44_23 = true
     ·subst c32
      have H1 : (some 3) = some r:=by rw [if_pos rfl] at H;exact H
      clear H;have H:=H1;clear H1;obtain rfl:=Option.some.inj H;go_wp2
      repeat (go_quiet (fail);try go_wp2)
      go_ret
      exact ⟨er_, hb2_ HB.out GE111.out GE114.out⟩
     ·replace c32:=Bool.eq_false_iff.mpr c32
      subst c32;have H1 : ((gridhallref3_Before.f kj23 a0_0 l0_1 (wrap64 (x16_1 + 1))).bind fun t118=>(if t118 > 100000 then (some 2) else (gridhallref3_OfferError.l0 kj23 l0_1 (l0_1.length : Int) (wrap64 (x16_1 + 1)) a0_0 l0_1))) = some r:=by rw [if_neg (show ¬ (false = true) by decide)] at H;exact H
      clear H;have H:=H1;clear H1;replace H:=Option.bind_eq_some_iff.mp H;obtain ⟨t118, A330, H⟩:=H;replace H : (if t118 > 100000 then (some 2) else (gridhallref3_OfferError.l0 kj23 l0_1 (l0_1.length : Int) (wrap64 (x16_1 + 1)) a0_0 l0_1)) = some r:=H;have A33:=k0_ A330;clear A330
      by_cases c34 : t118 > 100000
      rw [if_pos c34] at H;have c34b0:=decide_eq_true c34;clear c34;obtain rfl:=Option.some.inj H;rotate_left;rw [if_neg c34] at H;have c34b0:=decide_eq_false c34;clear c34;have H':=k0_ H;clear H;rotate_left
      all_goals
       have hnb35:=NB111_114.out;have hnc35:=NB114_111.out;obtain ⟨hcz36_0,hcz36_1⟩:=bc2_ BK111.out;obtain ⟨hfz36_0,hfz36_1⟩:=bf2_ BK111.out
       go_wp2_with (first|(go_at_call 38;(with_reducible refine (gridhallref3_Before.calls kj23 a0_0 _ _ l0_1 (wrap64 (x16_1 + 1)) t118 _ ?side1 ?side2 A33.out).mono ?_);(case side1=>repeat (first|exact (Kd.C_below HR0_1.out HB.out)|(with_reducible refine Kd.C_alloc ?_ _)|(with_reducible refine Kd.C_drewN ?_ _)|(with_reducible refine Kd.C_drew ?_)));(case side2=>exact HC0_1.out);rintro e w37 ⟨rfl, hb⟩;replace BK111:=k0_ (blk_below (g:=gb111) (o:=.cells #[.string a0_0, .slice (some ad113) l0_1.length c0_1] 29 (0, 0)) (bq_ BK111.out) hb);replace BK114:=k0_ (blk_below (g:=gb114) (o:=.cells #[.int .i64 ((rd_T41 l0_1 x16_1).f0), .int .i64 ((rd_T41 l0_1 x16_1).f1)] 41 (0, 0)) (bq_ BK114.out) hb);replace HB:=k0_ (below_step (hb2_ HB.out GE111.out GE114.out) hb);(try clear hb);(try clear hb2);(try clear hk);(try clear hi)))
       repeat (go_quiet (first|(go_at_call 38;(with_reducible refine (gridhallref3_Before.calls kj23 a0_0 _ _ l0_1 (wrap64 (x16_1 + 1)) t118 _ ?side1 ?side2 A33.out).mono ?_);(case side1=>repeat (first|exact (Kd.C_below HR0_1.out HB.out)|(with_reducible refine Kd.C_alloc ?_ _)|(with_reducible refine Kd.C_drewN ?_ _)|(with_reducible refine Kd.C_drew ?_)));(case side2=>exact HC0_1.out);rintro e w37 ⟨rfl, hb⟩;replace BK111:=k0_ (blk_below (g:=gb111) (o:=.cells #[.string a0_0, .slice (some ad113) l0_1.length c0_1] 29 (0, 0)) (bq_ BK111.out) hb);replace BK114:=k0_ (blk_below (g:=gb114) (o:=.cells #[.int .i64 ((rd_T41 l0_1 x16_1).f0), .int .i64 ((rd_T41 l0_1 x16_1).f1)] 41 (0, 0)) (bq_ BK114.out) hb);replace HB:=k0_ (below_step (hb2_ HB.out GE111.out GE114.out) hb);(try clear hb);(try clear hb2);(try clear hk);(try clear hi)));try go_wp2_with (first|(go_at_call 38;(with_reducible refine (gridhallref3_Before.calls kj23 a0_0 _ _ l0_1 (wrap64 (x16_1 + 1)) t118 _ ?side1 ?side2 A33.out).mono ?_);(case side1=>repeat (first|exact (Kd.C_below HR0_1.out HB.out)|(with_reducible refine Kd.C_alloc ?_ _)|(with_reducible refine Kd.C_drewN ?_ _)|(with_reducible refine Kd.C_drew ?_)));(case side2=>exact HC0_1.out);rintro e w37 ⟨rfl, hb⟩;replace BK111:=k0_ (blk_below (g:=gb111) (o:=.cells #[.string a0_0, .slice (some ad113) l0_1.length c0_1] 29 (0, 0)) (bq_ BK111.out) hb);replace BK114:=k0_ (blk_below (g:=gb114) (o:=.cells #[.int .i64 ((rd_T41 l0_1 x16_1).f0), .int .i64 ((rd_T41 l0_1 x16_1).f1)] 41 (0, 0)) (bq_ BK114.out) hb);replace HB:=k0_ (below_step (hb2_ HB.out GE111.out GE114.out) hb);(try clear hb);(try clear hb2);(try clear hk);(try clear hi))))
      ·go_ret
       exact ⟨er_, hb2_ HB.out GE111.out GE114.out⟩
      ·go_roundg kj23
       case measure=>have:=HK1.out;have:=HJ11.out;have:=HJ23.out;omega
       case rel=>exact ⟨(wrap64 (x16_1 + 1)),rs_, H', ⟨by have:=HK1.out;have:=HJ11.out;have:=HJ23.out;omega⟩,⟨bq_ BK111.out⟩,⟨hb2_ HB.out GE111.out GE114.out⟩⟩
   ·rw [if_neg c9] at H
    have c9b0:=decide_eq_false c9;clear c9;obtain rfl:=Option.some.inj H;go_wp2
    repeat (go_quiet (fail);try go_wp2)
    go_ret
    exact ⟨er_, hb1_ HB.out GE111.out⟩
 ·replace c3:=Bool.eq_false_iff.mpr c3
  subst c3;have H1 : (some 6) = some r:=by rw [if_neg (show ¬ (false = true) by decide)] at H;exact H
  clear H;have H:=H1;clear H1;obtain rfl:=Option.some.inj H
  go_enter Try.func50, Try.ntmps50
  go_wp2_with (first|((with_reducible refine gate_dst (N:=1) rfl ?_);refine box_event ?hg (N:=1) ?hd (cs:=#[.string a0_0, .slice A0_1 l0_1.length c0_1]) (t:=29) ?hr ?_;(case hd=>rfl);(case hg=>rfl);(case hr=>first|(go_simp;done)|(go_simp;rfl));intro gb111 hg w41 hbox hb;have BK111:=k0_ (hbox);have GW111:=k0_ ((by rw [hg];exact (below_size (hb0_ HB.out)) : w.heap.size ≤ gb111));have GE111:=k0_ ((by rw [hg];exact (below_size (hb0_ HB.out)) : w.heap.size ≤ gb111));replace HB:=k0_ (below_step (hb0_ HB.out) hb);clear hb hbox hg;obtain ⟨hcz42_0,hcz42_1⟩:=bc2_ BK111.out;obtain ⟨hfz42_0,hfz42_1⟩:=bf2_ BK111.out)|(go_at_call 63;(with_reducible refine (gridhallref3_Named.calls k a0_0 false _ A2.out).mono ?_);rintro e w' ⟨rfl, ⟨nd, rfl⟩⟩;(try first|exact ⟨rfl, _, World.drewN_drewN _ _ _⟩|exact ⟨rfl, _, Eq.trans (World.drewN_drewN _ _ _) (congrArg (World.drewN _) (Nat.add_assoc _ _ _))⟩)))
  repeat (go_quiet (first|((with_reducible refine gate_dst (N:=1) rfl ?_);refine box_event ?hg (N:=1) ?hd (cs:=#[.string a0_0, .slice A0_1 l0_1.length c0_1]) (t:=29) ?hr ?_;(case hd=>rfl);(case hg=>rfl);(case hr=>first|(go_simp;done)|(go_simp;rfl));intro gb111 hg w41 hbox hb;have BK111:=k0_ (hbox);have GW111:=k0_ ((by rw [hg];exact (below_size (hb0_ HB.out)) : w.heap.size ≤ gb111));have GE111:=k0_ ((by rw [hg];exact (below_size (hb0_ HB.out)) : w.heap.size ≤ gb111));replace HB:=k0_ (below_step (hb0_ HB.out) hb);clear hb hbox hg;obtain ⟨hcz42_0,hcz42_1⟩:=bc2_ BK111.out;obtain ⟨hfz42_0,hfz42_1⟩:=bf2_ BK111.out)|(go_at_call 63;(with_reducible refine (gridhallref3_Named.calls k a0_0 false _ A2.out).mono ?_);rintro e w' ⟨rfl, ⟨nd, rfl⟩⟩;(try first|exact ⟨rfl, _, World.drewN_drewN _ _ _⟩|exact ⟨rfl, _, Eq.trans (World.drewN_drewN _ _ _) (congrArg (World.drewN _) (Nat.add_assoc _ _ _))⟩)));try go_wp2_with (first|((with_reducible refine gate_dst (N:=1) rfl ?_);refine box_event ?hg (N:=1) ?hd (cs:=#[.string a0_0, .slice A0_1 l0_1.length c0_1]) (t:=29) ?hr ?_;(case hd=>rfl);(case hg=>rfl);(case hr=>first|(go_simp;done)|(go_simp;rfl));intro gb111 hg w41 hbox hb;have BK111:=k0_ (hbox);have GW111:=k0_ ((by rw [hg];exact (below_size (hb0_ HB.out)) : w.heap.size ≤ gb111));have GE111:=k0_ ((by rw [hg];exact (below_size (hb0_ HB.out)) : w.heap.size ≤ gb111));replace HB:=k0_ (below_step (hb0_ HB.out) hb);clear hb hbox hg;obtain ⟨hcz42_0,hcz42_1⟩:=bc2_ BK111.out;obtain ⟨hfz42_0,hfz42_1⟩:=bf2_ BK111.out)|(go_at_call 63;(with_reducible refine (gridhallref3_Named.calls k a0_0 false _ A2.out).mono ?_);rintro e w' ⟨rfl, ⟨nd, rfl⟩⟩;(try first|exact ⟨rfl, _, World.drewN_drewN _ _ _⟩|exact ⟨rfl, _, Eq.trans (World.drewN_drewN _ _ _) (congrArg (World.drewN _) (Nat.add_assoc _ _ _))⟩))))
  go_ret
  exact ⟨er_, hb1_ HB.out GE111.out⟩

/-! ### gridhallref3_OffersError: function 24 -/
mutual
def gridhallref3_OffersError.l0 : Nat → List (S29) → List (S29) → Int → Int → Option (Int)
 | 0, _, _, _, _ => none
 | k + 1, x0, x11, x12, x13 => if x13 < x12 then (if 0 ≤ x13 then (if x13 < (x11.length : Int) then ((gridhallref3_OfferError.f k ((rd_T29 x11 x13).f0) ((rd_T29 x11 x13).f1)).bind fun t121 => (if t121 = 0 then (if x13 ≤ (x0.length : Int) then ((some (x0.take (x13 : Int).toNat : List (S29))).bind fun y122 => (gridhallref3_OffersError.l1 k x0 x11 x12 x13 y122 (y122.length : Int) 0 ((rd_T29 x11 x13).f0) ((rd_T29 x11 x13).f1))) else (none)) else (some t121))) else (none)) else (none)) else (some 0)
def gridhallref3_OffersError.l1 : Nat → List (S29) → List (S29) → Int → Int → List (S29) → Int → Int → ByteArray → List (S41) → Option (Int)
 | 0, _, _, _, _, _, _, _, _, _ => none
 | k + 1, x0, x11, x12, x13, x25, x26, x27, x121000, x121001 => if x27 < x26 then (if 0 ≤ x27 then (if x27 < (x25.length : Int) then (if ((rd_T29 x25 x27).f0).toList = x121000.toList then (some 7) else (gridhallref3_OffersError.l1 k x0 x11 x12 x13 x25 x26 (wrap64 (x27 + 1)) x121000 x121001)) else (none)) else (none)) else (gridhallref3_OffersError.l0 k x0 x11 x12 (wrap64 (x13 + 1)))
end
def gridhallref3_OffersError.f (k : Nat) (l0 : List (S29)) : Option (Int) := if (l0.length : Int) > 10 then (some 2) else (gridhallref3_OffersError.l0 k l0 l0 (l0.length : Int) 0)
theorem gridhallref3_OffersError.mono_l : ∀ k, (∀ y0 y1 y2 y3, LeO (gridhallref3_OffersError.l0 k y0 y1 y2 y3) (gridhallref3_OffersError.l0 (k + 1) y0 y1 y2 y3)) ∧ (∀ y0 y1 y2 y3 y4 y5 y6 y7 y8, LeO (gridhallref3_OffersError.l1 k y0 y1 y2 y3 y4 y5 y6 y7 y8) (gridhallref3_OffersError.l1 (k + 1) y0 y1 y2 y3 y4 y5 y6 y7 y8))
 | 0 => ⟨fun _ _ _ _ r h => by simp [gridhallref3_OffersError.l0] at h, fun _ _ _ _ _ _ _ _ _ r h => by simp [gridhallref3_OffersError.l1] at h⟩
 | k + 1 => by
  obtain ⟨ih0, ih1⟩:=gridhallref3_OffersError.mono_l k
  refine ⟨?_, ?_⟩
  ·intro y0 y1 y2 y3
   unfold gridhallref3_OffersError.l0
   repeat' first|(with_reducible first|exact ih0 _ _ _ _|exact ih1 _ _ _ _ _ _ _ _ _|exact gridhallref3_OfferError.mono _ _ _|exact LeO.refl _|exact LeO.none _|refine LeO.ite ?_ ?_|refine LeO.bind ?_ (fun _=>?_))|exact ih0 _ _ _ _|exact ih1 _ _ _ _ _ _ _ _ _|exact gridhallref3_OfferError.mono _ _ _|exact LeO.none _|refine LeO.ite ?_ ?_|refine LeO.bind ?_ (fun _=>?_)
  ·intro y0 y1 y2 y3 y4 y5 y6 y7 y8
   unfold gridhallref3_OffersError.l1
   repeat' first|(with_reducible first|exact ih0 _ _ _ _|exact ih1 _ _ _ _ _ _ _ _ _|exact gridhallref3_OfferError.mono _ _ _|exact LeO.refl _|exact LeO.none _|refine LeO.ite ?_ ?_|refine LeO.bind ?_ (fun _=>?_))|exact ih0 _ _ _ _|exact ih1 _ _ _ _ _ _ _ _ _|exact gridhallref3_OfferError.mono _ _ _|exact LeO.none _|refine LeO.ite ?_ ?_|refine LeO.bind ?_ (fun _=>?_)
theorem gridhallref3_OffersError.mono : ∀ a0 k, LeO (gridhallref3_OffersError.f k a0) (gridhallref3_OffersError.f (k + 1) a0) := by
 intro a0 k
 obtain ⟨ih0, ih1⟩:=gridhallref3_OffersError.mono_l k
 unfold gridhallref3_OffersError.f
 repeat' first|(with_reducible first|exact ih0 _ _ _ _|exact ih1 _ _ _ _ _ _ _ _ _|exact gridhallref3_OfferError.mono _ _ _|exact LeO.refl _|exact LeO.none _|refine LeO.ite ?_ ?_|refine LeO.bind ?_ (fun _=>?_))|exact ih0 _ _ _ _|exact ih1 _ _ _ _ _ _ _ _ _|exact gridhallref3_OfferError.mono _ _ _|exact LeO.none _|refine LeO.ite ?_ ?_|refine LeO.bind ?_ (fun _=>?_)
set_option maxHeartbeats 8000000 in
set_option maxRecDepth 100000 in
theorem gridhallref3_OffersError.calls (k : Nat) (A0 : Option Addr) (c0 : Nat) (l0 : List (S29)) (r : Int) (w : World) (hr0 : Kd.C k29 w A0 l0.length l0) (hc0 : l0.length ≤ c0) (h : gridhallref3_OffersError.f k l0 = some r) :
  Calls Try.prog 24 #[.slice A0 l0.length c0] w fun e w' => e = .returned (.int .i64 r) ∧ Below w.heap.size w w' := by
 have hu29:=Try.underlying29;have HR0:=k0_ hr0;have HC0:=k0_ hc0;clear hr0 hc0;have HB:=k0_ (Below.refl w.heap.size w);have H : (if (l0.length : Int) > 10 then (some 2) else (gridhallref3_OffersError.l0 k l0 l0 (l0.length : Int) 0)) = some r:=h;clear h
 by_cases c2 : (l0.length : Int) > 10
 ·rw [if_pos c2] at H
  have c2b0:=decide_eq_true c2;have c2b1 : decide (10 < l0.length) = true:=decide_eq_true (by omega);clear c2;obtain rfl:=Option.some.inj H
  go_enter Try.func24, Try.ntmps24
  go_wp2
  go_ret
  exact ⟨er_, hb0_ HB.out⟩
 ·rw [if_neg c2] at H
  have c2b0:=decide_eq_false c2;have c2b1 : decide (10 < l0.length) = false:=decide_eq_false (by omega);clear c2;have H':=k0_ H;clear H
  go_enter Try.func24, Try.ntmps24
  go_wp2;(try simp only [Act.put, q1_,q3_,q2_])
  go_loopg [13] k (fun kq v13 w'=>∃ (x13_1 : Int), v13 = .int .i64 x13_1∧Aside0 (gridhallref3_OffersError.l0 kq l0 l0 (l0.length : Int) x13_1 = some r)∧Aside0 (kq ≤ k)∧Aside0 (Below w.heap.size w w'))
  case atStart=>exact ⟨(0),rs_, H', ⟨Nat.le_refl _⟩,⟨hb0_ HB.out⟩⟩
  clear H';(try clear c2);(try clear c2b0);(try clear c2b1);(try clear p2);obtain ⟨x13_1, rfl, HA, HK1, HB⟩:=hrel;obtain _|k1:=gk
  ·exact absurd HA.out (by simp [gridhallref3_OffersError.l0])
  have H:=HA.out;clear HA;simp only [gridhallref3_OffersError.l0] at H
  by_cases c3 : x13_1 < (l0.length : Int)
  ·rw [if_pos c3] at H
   have c3b0:=decide_eq_true c3;clear c3
   by_cases c4 : 0 ≤ x13_1
   rw [if_pos c4] at H;have c4b0:=decide_eq_true c4;clear c4
   focus
    by_cases c5 : x13_1 < (l0.length : Int)
    rw [if_pos c5] at H;have c5b0:=decide_eq_true c5;clear c5;replace H:=Option.bind_eq_some_iff.mp H;obtain ⟨t121, A60, H⟩:=H;replace H : (if t121 = 0 then (if x13_1 ≤ (l0.length : Int) then ((some (l0.take (x13_1 : Int).toNat : List (S29))).bind fun y122=>(gridhallref3_OffersError.l1 k1 l0 l0 (l0.length : Int) x13_1 y122 (y122.length : Int) 0 ((rd_T29 l0 x13_1).f0) ((rd_T29 l0 x13_1).f1))) else (none)) else (some t121)) = some r:=H;have A6:=k0_ A60;clear A60
    focus
     by_cases c7 : t121 = 0
     rw [if_pos c7] at H;have c7b0:=beq_iff_eq.mpr c7;have c7b1:=bne_eq_false_iff_eq.mpr c7;clear c7;have c8b0:=eq_true (of_decide_eq_true as_ : 0 ≤ x13_1)
     focus
      by_cases c9 : x13_1 ≤ (l0.length : Int)
      rw [if_pos c9] at H;have c9b0:=eq_true c9;have c9b1:=decide_eq_true c9;clear c9;obtain ⟨y122, hy122⟩ : ∃ y_ : List (S29), y_ = (l0.take (x13_1 : Int).toNat):=⟨_, rfl⟩;replace H : (gridhallref3_OffersError.l1 k1 l0 l0 (l0.length : Int) x13_1 y122 (y122.length : Int) 0 ((rd_T29 l0 x13_1).f0) ((rd_T29 l0 x13_1).f1)) = some r:=by first|(rw [hy122];with_reducible exact H)|(have H2_:=(Option.bind_some _ _).symm.trans H;rw [hy122];with_reducible exact H2_)|(have H2_:=(Option.bind_some _ _).symm.trans H;with_reducible exact H2_)|with_reducible exact H|(rw [hy122];exact H)|exact H
      have Ny122:=k0_ hy122;clear hy122;have H':=k0_ H;clear H;rotate_left;rw [if_neg c9] at H
      exact absurd H (by simp)
     rotate_left;rw [if_neg c7] at H;have c7b0:=beq_eq_false_iff_ne.mpr c7;have c7b1:=bne_iff_ne.mpr c7;obtain rfl:=Option.some.inj H;rotate_left
    rotate_left 2;rw [if_neg c5] at H
    exact absurd H (by simp)
   rotate_left 2;rw [if_neg c4] at H
   exact absurd H (by simp)
   all_goals
    have p119 : 0 ≤ (x13_1 : Int):=of_decide_eq_true as_;have q119 : x13_1 < (l0.length : Int):=of_decide_eq_true as_;obtain ⟨ad119, A119_1, c119_1, e119, hx119_0, hx119_1, hl119_1, hi119_1⟩:=at_T29 HR0.out x13_1 p119 q119;cases e119;replace hx119_0:=bt_ HB.out hx119_0;replace hx119_1:=bt_ HB.out hx119_1;have HR119_1:=k0_ hi119_1;have HC119_1:=k0_ hl119_1;clear hi119_1 hl119_1;replace p119:=eq_true p119;replace q119:=eq_true q119
   ·go_wp2_with (first|((with_reducible refine gate_dst (N:=4) rfl ?_);refine box_event ?hg (N:=4) ?hd (cs:=#[.string (⟨#[]⟩ : ByteArray), .slice none 0 0]) (t:=29) ?hr ?_;(case hd=>rfl);(case hg=>rfl);(case hr=>first|(go_simp;done)|(go_simp;rfl));intro gb120 hg w10 hbox hb;have BK120:=k0_ (hbox);have GW120:=k0_ ((by rw [hg];exact (below_size (hb0_ HB.out)) : w.heap.size ≤ gb120));have GE120:=k0_ ((by rw [hg];exact (below_size (hb0_ HB.out)) : w.heap.size ≤ gb120));replace HB:=k0_ (below_step (hb0_ HB.out) hb);clear hb hbox hg;obtain ⟨hcz11_0,hcz11_1⟩:=bc2_ BK120.out;obtain ⟨hfz11_0,hfz11_1⟩:=bf2_ BK120.out)|((with_reducible refine gate_callee (f:=50) rfl ?_);refine goesL_ (some 19) rfl rfl Try.func50 (by kernel_rfl) rfl #[.agg #[.string ((rd_T29 l0 x13_1).f0), .slice A119_1 ((rd_T29 l0 x13_1).f1).length c119_1]] rfl mt_ ?_;(with_reducible refine (gridhallref3_OfferError.calls k1 ((rd_T29 l0 x13_1).f0) _ _ ((rd_T29 l0 x13_1).f1) t121 _ ?side1 ?side2 A6.out).mono ?_);(case side1=>exact Kd.C_below HR119_1.out (hb1_ HB.out GE120.out));(case side2=>exact HC119_1.out);rintro e w12 ⟨rfl, hb⟩;refine ⟨_, rfl, ?_⟩;replace BK120:=k0_ (blk_below (g:=gb120) (o:=.cells #[.string ((rd_T29 l0 x13_1).f0), .slice A119_1 ((rd_T29 l0 x13_1).f1).length c119_1] 29 (0, 0)) (by (with_reducible repeat (first|refine blk_drewN ?_ _|refine blk_drew ?_|refine blk_alloc ?_ _));refine blk_put (cs:=#[.string ((rd_T29 l0 x13_1).f0), .slice none 0 0]) ?_ 1 _ rfl;(with_reducible repeat (first|refine blk_drewN ?_ _|refine blk_drew ?_|refine blk_alloc ?_ _));refine blk_put (cs:=#[.string (⟨#[]⟩ : ByteArray), .slice none 0 0]) ?_ 0 _ rfl;(with_reducible repeat (first|refine blk_drewN ?_ _|refine blk_drew ?_|refine blk_alloc ?_ _));exact BK120.out) hb);replace HB:=k0_ (below_step (hb1_ HB.out GE120.out) hb);(try clear hb);(try clear hb2);(try clear hk);(try clear hi);have q13 : (x13_1 : Int) ≤ ((l0.length : Int) : Int):=of_decide_eq_true as_;obtain ⟨i013, hi013, _, hsz13, _⟩:=info_parts info29;have hroom13 : l0.length ≤ c0:=HC0.out;have hC13 : Kd.C k29 _ (some ad119) l0.length l0:=HR0.out;have hcut13:=cut_to (P:=Try.prog) 50 29 .i64 Try.underlying50 hi013 (some ad119) l0.length c0 x13_1 (of_decide_eq_true as_) q13 hroom13;have hr13:=Kd.C_take (m:=(x13_1 : Int).toNat) hC13 (by omega);have hy13 : y122.length = (x13_1 : Int).toNat:=(by rw [Ny122.out, List.length_take];omega);rw [← Ny122.out] at hr13;rw [← hy13] at hcut13;have HR125:=k0_ hr13;have HC125:=k0_ (show y122.length ≤ c0 from by omega);clear hr13 hC13 hroom13 hi013 hsz13;have KY13:=k0_ hy13;clear hy13;replace q13:=eq_true q13))
    (try simp only [Act.put, q1_,q3_,q2_])
    go_loopg [27] k1 (fun kq v27 w'=>∃ (x27_2 : Int), v27 = .int .i64 x27_2∧Aside0 (gridhallref3_OffersError.l1 kq l0 l0 (l0.length : Int) x13_1 y122 (y122.length : Int) x27_2 ((rd_T29 l0 x13_1).f0) ((rd_T29 l0 x13_1).f1) = some r)∧Aside0 (kq ≤ k1)∧Aside0 (w'.heap[gb120]? = some (.cells #[.string ((rd_T29 l0 x13_1).f0),(.slice A119_1 ((rd_T29 l0 x13_1).f1).length c119_1)] 29 (0, 0)))∧Aside0 (Below w.heap.size w w'))
    case atStart=>exact ⟨(0),rs_, H', ⟨Nat.le_refl _⟩,⟨bq_ BK120.out⟩,⟨hb1_ HB.out GE120.out⟩⟩
    clear H';(try clear c1);(try clear p1);(try clear q1);(try clear hx1);(try clear c2);(try clear c2b0);(try clear c2b1);(try clear p2);(try clear c3);(try clear c3b0);(try clear c4);(try clear c4b0);(try clear c5);(try clear c5b0);(try clear c7);(try clear c7b0);(try clear c7b1);(try clear c8);(try clear c8b0);(try clear c9);(try clear c9b0);(try clear c9b1);(try clear c11);(try clear p11);(try clear q11);(try clear hx11);(try clear q13);(try clear hcz11_0);(try clear hcz11_1);(try clear hfz11_0);(try clear hfz11_1);(try clear hx119_0);(try clear hx119_1);(try clear p119);(try clear p2);(try clear q119);(try clear q13);obtain ⟨x27_2, rfl, HA, HK2, BK120, HB⟩:=hrel;obtain _|k2:=gk
    ·exact absurd HA.out (by simp [gridhallref3_OffersError.l1])
    have H:=HA.out;clear HA;simp only [gridhallref3_OffersError.l1] at H
    by_cases c14 : x27_2 < (y122.length : Int)
    ·rw [if_pos c14] at H
     have c14b0:=decide_eq_true c14;clear c14
     by_cases c15 : 0 ≤ x27_2
     rw [if_pos c15] at H;have c15b0:=decide_eq_true c15;clear c15
     focus
      by_cases c16 : x27_2 < (y122.length : Int)
      rw [if_pos c16] at H;have c16b0:=decide_eq_true c16;clear c16
      focus
       by_cases c17 : ((rd_T29 y122 x27_2).f0).toList = ((rd_T29 l0 x13_1).f0).toList
       rw [if_pos c17] at H;have c17b0:=beq_iff_eq.mpr c17;have c17b1:=bne_eq_false_iff_eq.mpr c17;clear c17;obtain rfl:=Option.some.inj H;rotate_left;rw [if_neg c17] at H;have c17b0:=beq_eq_false_iff_ne.mpr c17;have c17b1:=bne_iff_ne.mpr c17;have H':=k0_ H;clear H;rotate_left
      rotate_left 2;rw [if_neg c16] at H
      exact absurd H (by simp)
     rotate_left 2;rw [if_neg c15] at H
     exact absurd H (by simp)
     all_goals
      have p126 : 0 ≤ (x27_2 : Int):=of_decide_eq_true as_;have q126 : x27_2 < (y122.length : Int):=of_decide_eq_true as_;obtain ⟨ad126, A126_1, c126_1, e126, hx126_0, hx126_1, hl126_1, hi126_1⟩:=at_T29 HR125.out x27_2 p126 q126;obtain rfl : ad119 = ad126:=(by injection e126);replace hx126_0:=bt_ HB.out hx126_0;replace hx126_1:=bt_ HB.out hx126_1;have HR126_1:=k0_ hi126_1;have HC126_1:=k0_ hl126_1;clear hi126_1 hl126_1;replace p126:=eq_true p126;replace q126:=eq_true q126
      go_wp2_with (first|((with_reducible refine gate_dst (N:=7) rfl ?_);refine box_event ?hg (N:=7) ?hd (cs:=#[.string (⟨#[]⟩ : ByteArray), .slice none 0 0]) (t:=29) ?hr ?_;(case hd=>rfl);(case hg=>rfl);(case hr=>first|(go_simp;done)|(go_simp;rfl));intro gb127 hg w18 hbox hb;have BK127:=k0_ (hbox);have GW127:=k0_ ((by rw [hg];exact (below_size (hb1_ HB.out GE120.out)) : w.heap.size ≤ gb127));have GE127:=k0_ ((by rw [hg];exact (below_size (hb1_ HB.out GE120.out)) : w.heap.size ≤ gb127));replace HB:=k0_ (below_step (hb1_ HB.out GE120.out) hb);have NB120_127:=k0_ ((by rw [hg];exact Nat.ne_of_lt (blk_lt (g:=gb120) (o:=.cells #[.string ((rd_T29 l0 x13_1).f0), .slice A119_1 ((rd_T29 l0 x13_1).f1).length c119_1] 29 (0, 0)) (bq_ BK120.out)) : gb120 ≠ gb127));have NB127_120:=k0_ ((by rw [hg];exact Nat.ne_of_gt (blk_lt (g:=gb120) (o:=.cells #[.string ((rd_T29 l0 x13_1).f0), .slice A119_1 ((rd_T29 l0 x13_1).f1).length c119_1] 29 (0, 0)) (bq_ BK120.out)) : gb127 ≠ gb120));replace BK120:=k0_ (blk_below (g:=gb120) (o:=.cells #[.string ((rd_T29 l0 x13_1).f0), .slice A119_1 ((rd_T29 l0 x13_1).f1).length c119_1] 29 (0, 0)) (bq_ BK120.out) hb);clear hb hbox hg;have hnb19:=NB127_120.out;have hnc19:=NB120_127.out;obtain ⟨hcz20_0,hcz20_1⟩:=bc2_ BK127.out;obtain ⟨hfz20_0,hfz20_1⟩:=bf2_ BK127.out;obtain ⟨hcz21_0,hcz21_1⟩:=bc2_ BK120.out;obtain ⟨hfz21_0,hfz21_1⟩:=bf2_ BK120.out))
     ·go_ret
      exact ⟨er_, hb2_ HB.out GE120.out GE127.out⟩
     ·go_roundg k2
      case measure=>have:=HK1.out;have:=HK2.out;omega
      case rel=>exact ⟨(wrap64 (x27_2 + 1)),rs_, H', ⟨by have:=HK1.out;have:=HK2.out;omega⟩,⟨by (with_reducible repeat (first|refine blk_drewN ?_ _|refine blk_drew ?_|refine blk_alloc ?_ _));refine blk_far ?_ NB120_127.out _;(with_reducible repeat (first|refine blk_drewN ?_ _|refine blk_drew ?_|refine blk_alloc ?_ _));refine blk_far ?_ NB120_127.out _;(with_reducible repeat (first|refine blk_drewN ?_ _|refine blk_drew ?_|refine blk_alloc ?_ _));exact BK120.out⟩,⟨hb2_ HB.out GE120.out GE127.out⟩⟩
    ·rw [if_neg c14] at H
     have c14b0:=decide_eq_false c14;clear c14;have H':=k0_ H;clear H;go_wp2
     go_roundg k2
     case measure=>have:=HK1.out;have:=HK2.out;omega
     case rel=>exact ⟨(wrap64 (x13_1 + 1)),rs_, H', ⟨by have:=HK1.out;have:=HK2.out;omega⟩,⟨hb1_ HB.out GE120.out⟩⟩
   ·go_wp2_with (first|((with_reducible refine gate_dst (N:=4) rfl ?_);refine box_event ?hg (N:=4) ?hd (cs:=#[.string (⟨#[]⟩ : ByteArray), .slice none 0 0]) (t:=29) ?hr ?_;(case hd=>rfl);(case hg=>rfl);(case hr=>first|(go_simp;done)|(go_simp;rfl));intro gb120 hg w26 hbox hb;have BK120:=k0_ (hbox);have GW120:=k0_ ((by rw [hg];exact (below_size (hb0_ HB.out)) : w.heap.size ≤ gb120));have GE120:=k0_ ((by rw [hg];exact (below_size (hb0_ HB.out)) : w.heap.size ≤ gb120));replace HB:=k0_ (below_step (hb0_ HB.out) hb);clear hb hbox hg;obtain ⟨hcz27_0,hcz27_1⟩:=bc2_ BK120.out;obtain ⟨hfz27_0,hfz27_1⟩:=bf2_ BK120.out)|((with_reducible refine gate_callee (f:=50) rfl ?_);refine goesL_ (some 19) rfl rfl Try.func50 (by kernel_rfl) rfl #[.agg #[.string ((rd_T29 l0 x13_1).f0), .slice A119_1 ((rd_T29 l0 x13_1).f1).length c119_1]] rfl mt_ ?_;(with_reducible refine (gridhallref3_OfferError.calls k1 ((rd_T29 l0 x13_1).f0) _ _ ((rd_T29 l0 x13_1).f1) t121 _ ?side1 ?side2 A6.out).mono ?_);(case side1=>exact Kd.C_below HR119_1.out (hb1_ HB.out GE120.out));(case side2=>exact HC119_1.out);rintro e w28 ⟨rfl, hb⟩;refine ⟨_, rfl, ?_⟩;replace BK120:=k0_ (blk_below (g:=gb120) (o:=.cells #[.string ((rd_T29 l0 x13_1).f0), .slice A119_1 ((rd_T29 l0 x13_1).f1).length c119_1] 29 (0, 0)) (by (with_reducible repeat (first|refine blk_drewN ?_ _|refine blk_drew ?_|refine blk_alloc ?_ _));refine blk_put (cs:=#[.string ((rd_T29 l0 x13_1).f0), .slice none 0 0]) ?_ 1 _ rfl;(with_reducible repeat (first|refine blk_drewN ?_ _|refine blk_drew ?_|refine blk_alloc ?_ _));refine blk_put (cs:=#[.string (⟨#[]⟩ : ByteArray), .slice none 0 0]) ?_ 0 _ rfl;(with_reducible repeat (first|refine blk_drewN ?_ _|refine blk_drew ?_|refine blk_alloc ?_ _));exact BK120.out) hb);replace HB:=k0_ (below_step (hb1_ HB.out GE120.out) hb);(try clear hb);(try clear hb2);(try clear hk);(try clear hi)))
    go_ret
    exact ⟨er_, hb1_ HB.out GE120.out⟩
  ·rw [if_neg c3] at H
   have c3b0:=decide_eq_false c3;clear c3;obtain rfl:=Option.some.inj H;go_wp2
   go_ret
   exact ⟨er_, hb0_ HB.out⟩

end Go.Proofs.Ytekpnmeikibioaa.PReserveBest
