/- Contracts of functions that AuctionClears reaches, a text of this session's own. -/
import Derived.Test.YtdgjelbkogfedaaBox2
import Derived.Test.YtdgjelbkogfedaaHAuctionClearsy0
import Derived.Test.YtdgjelbkogfedaaHAuctionClearsy1
namespace Go.Proofs.Ytdgjelbkogfedaa.PAuctionClears
open Go.RowKit Go.Proofs.YtdgjelbkogfedaaW.PrintWords Go.Proofs.YtdgjelbkogfedaaW.PrintLast Go.Proofs.YtdgjelbkogfedaaW.PrintMore
attribute [local go_sem] max2_int min2_int max_two min_two max_three min_three max_four min_four   -- for this text's walks alone
set_option linter.unusedVariables false
set_option linter.unusedSimpArgs false

/-! ### offer_Check: function 53 -/
mutual
def offer_Check.l0 : Nat → Int → List (S116) → Int → Int → ByteArray → List (S116) → Option (Int)
 | 0, _, _, _, _, _, _ => none
 | k + 1, x3, x15, x16, x17, x104000, x104001 => if x17 < x16 then (if 0 ≤ x17 then (if x17 < (x15.length : Int) then (if ((rd_T116 x15 x17).f0) < 1 then (offer_Check.j1 k x3 x17 x15 x16 x17 true x104000 x104001 ((rd_T116 x15 x17).f0) ((rd_T116 x15 x17).f1)) else (if ((rd_T116 x15 x17).f0) > 100000 then (offer_Check.j1 k x3 x17 x15 x16 x17 true x104000 x104001 ((rd_T116 x15 x17).f0) ((rd_T116 x15 x17).f1)) else (if ((rd_T116 x15 x17).f1) < (-1000000) then (offer_Check.j1 k x3 x17 x15 x16 x17 true x104000 x104001 ((rd_T116 x15 x17).f0) ((rd_T116 x15 x17).f1)) else (offer_Check.j1 k x3 x17 x15 x16 x17 (decide (((rd_T116 x15 x17).f1) > 1000000)) x104000 x104001 ((rd_T116 x15 x17).f0) ((rd_T116 x15 x17).f1))))) else (none)) else (none)) else (some 0)
def offer_Check.j1 : Nat → Int → Int → List (S116) → Int → Int → Bool → ByteArray → List (S116) → Int → Int → Option (Int)
 | 0, _, _, _, _, _, _, _, _, _, _ => none
 | k + 1, x3, x4, x15, x16, x17, x22, x104000, x104001, x107000, x107001 => if x22 = true then (some 4) else (if x4 > 0 then (if 0 ≤ (wrap64 (x4 - 1)) then (if (wrap64 (x4 - 1)) < (x104001.length : Int) then (offer_Check.j2 k x3 x15 x16 x17 (decide (x107001 < ((rd_T116 x104001 (wrap64 (x4 - 1))).f1))) x104000 x104001 x107000 x107001) else (none)) else (none)) else (offer_Check.j2 k x3 x15 x16 x17 false x104000 x104001 x107000 x107001))
def offer_Check.j2 : Nat → Int → List (S116) → Int → Int → Bool → ByteArray → List (S116) → Int → Int → Option (Int)
 | 0, _, _, _, _, _, _, _, _, _ => none
 | k + 1, x3, x15, x16, x17, x41, x104000, x104001, x107000, x107001 => if x41 = true then (some 3) else (if (wrap64 (x3 + x107000)) > 100000 then (some 2) else (offer_Check.l0 k (wrap64 (x3 + x107000)) x15 x16 (wrap64 (x17 + 1)) x104000 x104001))
end
def offer_Check.f (k : Nat) (a0_0 : ByteArray) (l0_1 : List (S116)) : Option (Int) := (offer_named.f k a0_0).bind fun t104 => (if t104 = true then (if (l0_1.length : Int) > 12 then (some 2) else (offer_Check.l0 k 0 l0_1 (l0_1.length : Int) 0 a0_0 l0_1)) else (some 6))
theorem offer_Check.mono_l : ∀ k, (∀ y0 y1 y2 y3 y4 y5, LeO (offer_Check.l0 k y0 y1 y2 y3 y4 y5) (offer_Check.l0 (k + 1) y0 y1 y2 y3 y4 y5)) ∧ (∀ y0 y1 y2 y3 y4 y5 y6 y7 y8 y9, LeO (offer_Check.j1 k y0 y1 y2 y3 y4 y5 y6 y7 y8 y9) (offer_Check.j1 (k + 1) y0 y1 y2 y3 y4 y5 y6 y7 y8 y9)) ∧ (∀ y0 y1 y2 y3 y4 y5 y6 y7 y8, LeO (offer_Check.j2 k y0 y1 y2 y3 y4 y5 y6 y7 y8) (offer_Check.j2 (k + 1) y0 y1 y2 y3 y4 y5 y6 y7 y8))
 | 0 => ⟨fun _ _ _ _ _ _ r h => by simp [offer_Check.l0] at h, fun _ _ _ _ _ _ _ _ _ _ r h => by simp [offer_Check.j1] at h, fun _ _ _ _ _ _ _ _ _ r h => by simp [offer_Check.j2] at h⟩
 | k + 1 => by
  obtain ⟨ih0, ih1, ih2⟩:=offer_Check.mono_l k
  refine ⟨?_, ?_, ?_⟩
  ·intro y0 y1 y2 y3 y4 y5
   unfold offer_Check.l0
   repeat' first|(with_reducible first|exact ih0 _ _ _ _ _ _|exact ih1 _ _ _ _ _ _ _ _ _ _|exact ih2 _ _ _ _ _ _ _ _ _|exact offer_named.mono _ _|exact LeO.refl _|exact LeO.none _|refine LeO.ite ?_ ?_|refine LeO.bind ?_ (fun _=>?_))|exact ih0 _ _ _ _ _ _|exact ih1 _ _ _ _ _ _ _ _ _ _|exact ih2 _ _ _ _ _ _ _ _ _|exact offer_named.mono _ _|exact LeO.none _|refine LeO.ite ?_ ?_|refine LeO.bind ?_ (fun _=>?_)
  ·intro y0 y1 y2 y3 y4 y5 y6 y7 y8 y9
   unfold offer_Check.j1
   repeat' first|(with_reducible first|exact ih0 _ _ _ _ _ _|exact ih1 _ _ _ _ _ _ _ _ _ _|exact ih2 _ _ _ _ _ _ _ _ _|exact offer_named.mono _ _|exact LeO.refl _|exact LeO.none _|refine LeO.ite ?_ ?_|refine LeO.bind ?_ (fun _=>?_))|exact ih0 _ _ _ _ _ _|exact ih1 _ _ _ _ _ _ _ _ _ _|exact ih2 _ _ _ _ _ _ _ _ _|exact offer_named.mono _ _|exact LeO.none _|refine LeO.ite ?_ ?_|refine LeO.bind ?_ (fun _=>?_)
  ·intro y0 y1 y2 y3 y4 y5 y6 y7 y8
   unfold offer_Check.j2
   repeat' first|(with_reducible first|exact ih0 _ _ _ _ _ _|exact ih1 _ _ _ _ _ _ _ _ _ _|exact ih2 _ _ _ _ _ _ _ _ _|exact offer_named.mono _ _|exact LeO.refl _|exact LeO.none _|refine LeO.ite ?_ ?_|refine LeO.bind ?_ (fun _=>?_))|exact ih0 _ _ _ _ _ _|exact ih1 _ _ _ _ _ _ _ _ _ _|exact ih2 _ _ _ _ _ _ _ _ _|exact offer_named.mono _ _|exact LeO.none _|refine LeO.ite ?_ ?_|refine LeO.bind ?_ (fun _=>?_)
theorem offer_Check.mono : ∀ a0 a1 k, LeO (offer_Check.f k a0 a1) (offer_Check.f (k + 1) a0 a1) := by
 intro a0 a1 k
 obtain ⟨ih0, ih1, ih2⟩:=offer_Check.mono_l k
 unfold offer_Check.f
 repeat' first|(with_reducible first|exact ih0 _ _ _ _ _ _|exact ih1 _ _ _ _ _ _ _ _ _ _|exact ih2 _ _ _ _ _ _ _ _ _|exact offer_named.mono _ _|exact LeO.refl _|exact LeO.none _|refine LeO.ite ?_ ?_|refine LeO.bind ?_ (fun _=>?_))|exact ih0 _ _ _ _ _ _|exact ih1 _ _ _ _ _ _ _ _ _ _|exact ih2 _ _ _ _ _ _ _ _ _|exact offer_named.mono _ _|exact LeO.none _|refine LeO.ite ?_ ?_|refine LeO.bind ?_ (fun _=>?_)
set_option maxHeartbeats 8000000 in
set_option maxRecDepth 100000 in
theorem offer_Check.calls (k : Nat) (a0_0 : ByteArray) (A0_1 : Option Addr) (c0_1 : Nat) (l0_1 : List (S116)) (r : Int) (w : World) (hr0_1 : Kd.C k116 w A0_1 l0_1.length l0_1) (hc0_1 : l0_1.length ≤ c0_1) (h : offer_Check.f k a0_0 l0_1 = some r) :
  Calls Try.prog 53 #[.agg #[.string a0_0, .slice A0_1 l0_1.length c0_1]] w fun e w' => e = .returned (.int .i64 r) ∧ Below w.heap.size w w' := by
 have hu26:=Try.underlying26;have hu116:=Try.underlying116;have HR0_1:=k0_ hr0_1;have HC0_1:=k0_ hc0_1;clear hr0_1 hc0_1;have HB:=k0_ (Below.refl w.heap.size w);have H : ((offer_named.f k a0_0).bind fun t104=>(if t104 = true then (if (l0_1.length : Int) > 12 then (some 2) else (offer_Check.l0 k 0 l0_1 (l0_1.length : Int) 0 a0_0 l0_1)) else (some 6))) = some r:=h;clear h;replace H:=Option.bind_eq_some_iff.mp H;obtain ⟨t104, A20, H⟩:=H;replace H : (if t104 = true then (if (l0_1.length : Int) > 12 then (some 2) else (offer_Check.l0 k 0 l0_1 (l0_1.length : Int) 0 a0_0 l0_1)) else (some 6)) = some r:=H;have A2:=k0_ A20;clear A20
 by_cases c3 : t104 = true
 ·subst c3
  have H1 : (if (l0_1.length : Int) > 12 then (some 2) else (offer_Check.l0 k 0 l0_1 (l0_1.length : Int) 0 a0_0 l0_1)) = some r:=by rw [if_pos rfl] at H;exact H
  clear H;have H:=H1;clear H1
  by_cases c4 : (l0_1.length : Int) > 12
  rw [if_pos c4] at H;have c4b0:=decide_eq_true c4;have c4b1 : decide (12 < l0_1.length) = true:=decide_eq_true (by omega);clear c4;obtain rfl:=Option.some.inj H;rotate_left;rw [if_neg c4] at H;have c4b0:=decide_eq_false c4;have c4b1 : decide (12 < l0_1.length) = false:=decide_eq_false (by omega);clear c4;have H':=k0_ H;clear H;rotate_left
  all_goals
   go_enter Try.func53, Try.ntmps53
   go_wp2_with (first|((with_reducible refine gate_dst (N:=1) rfl ?_);refine box_event ?hg (N:=1) ?hd (cs:=#[.string a0_0, .slice A0_1 l0_1.length c0_1]) (t:=26) ?hr ?_;(case hd=>rfl);(case hg=>rfl);(case hr=>first|(go_simp;done)|(go_simp;rfl));intro gb103 hg w5 hbox hb;have BK103:=k0_ (hbox);have GW103:=k0_ ((by rw [hg];exact (below_size (hb0_ HB.out)) : w.heap.size ≤ gb103));have GE103:=k0_ ((by rw [hg];exact (below_size (hb0_ HB.out)) : w.heap.size ≤ gb103));replace HB:=k0_ (below_step (hb0_ HB.out) hb);clear hb hbox hg;obtain ⟨hcz6_0,hcz6_1⟩:=bc2_ BK103.out;obtain ⟨hfz6_0,hfz6_1⟩:=bf2_ BK103.out)|(go_at_call 86;(with_reducible refine (offer_named.calls k a0_0 true _ A2.out).mono ?_);rintro e w' ⟨rfl, ⟨nd, rfl⟩⟩;(try first|exact ⟨rfl, _, World.drewN_drewN _ _ _⟩|exact ⟨rfl, _, Eq.trans (World.drewN_drewN _ _ _) (congrArg (World.drewN _) (Nat.add_assoc _ _ _))⟩)))
   repeat (go_quiet (first|((with_reducible refine gate_dst (N:=1) rfl ?_);refine box_event ?hg (N:=1) ?hd (cs:=#[.string a0_0, .slice A0_1 l0_1.length c0_1]) (t:=26) ?hr ?_;(case hd=>rfl);(case hg=>rfl);(case hr=>first|(go_simp;done)|(go_simp;rfl));intro gb103 hg w5 hbox hb;have BK103:=k0_ (hbox);have GW103:=k0_ ((by rw [hg];exact (below_size (hb0_ HB.out)) : w.heap.size ≤ gb103));have GE103:=k0_ ((by rw [hg];exact (below_size (hb0_ HB.out)) : w.heap.size ≤ gb103));replace HB:=k0_ (below_step (hb0_ HB.out) hb);clear hb hbox hg;obtain ⟨hcz6_0,hcz6_1⟩:=bc2_ BK103.out;obtain ⟨hfz6_0,hfz6_1⟩:=bf2_ BK103.out)|(go_at_call 86;(with_reducible refine (offer_named.calls k a0_0 true _ A2.out).mono ?_);rintro e w' ⟨rfl, ⟨nd, rfl⟩⟩;(try first|exact ⟨rfl, _, World.drewN_drewN _ _ _⟩|exact ⟨rfl, _, Eq.trans (World.drewN_drewN _ _ _) (congrArg (World.drewN _) (Nat.add_assoc _ _ _))⟩)));try go_wp2_with (first|((with_reducible refine gate_dst (N:=1) rfl ?_);refine box_event ?hg (N:=1) ?hd (cs:=#[.string a0_0, .slice A0_1 l0_1.length c0_1]) (t:=26) ?hr ?_;(case hd=>rfl);(case hg=>rfl);(case hr=>first|(go_simp;done)|(go_simp;rfl));intro gb103 hg w5 hbox hb;have BK103:=k0_ (hbox);have GW103:=k0_ ((by rw [hg];exact (below_size (hb0_ HB.out)) : w.heap.size ≤ gb103));have GE103:=k0_ ((by rw [hg];exact (below_size (hb0_ HB.out)) : w.heap.size ≤ gb103));replace HB:=k0_ (below_step (hb0_ HB.out) hb);clear hb hbox hg;obtain ⟨hcz6_0,hcz6_1⟩:=bc2_ BK103.out;obtain ⟨hfz6_0,hfz6_1⟩:=bf2_ BK103.out)|(go_at_call 86;(with_reducible refine (offer_named.calls k a0_0 true _ A2.out).mono ?_);rintro e w' ⟨rfl, ⟨nd, rfl⟩⟩;(try first|exact ⟨rfl, _, World.drewN_drewN _ _ _⟩|exact ⟨rfl, _, Eq.trans (World.drewN_drewN _ _ _) (congrArg (World.drewN _) (Nat.add_assoc _ _ _))⟩))))
  ·go_ret
   exact ⟨er_, hb1_ HB.out GE103.out⟩
  ·try simp only [Act.put, q1_,q3_,q2_]
   go_loopg [3, 17] k (fun kq v3 v17 w'=>∃ (x3_1 : Int) (x17_1 : Int), v3 = .int .i64 x3_1∧v17 = .int .i64 x17_1∧Aside0 (offer_Check.l0 kq x3_1 l0_1 (l0_1.length : Int) x17_1 a0_0 l0_1 = some r)∧Aside0 (kq ≤ k)∧Aside0 (w'.heap[gb103]? = some (.cells #[.string a0_0, (.slice A0_1 l0_1.length c0_1)] 26 (0, 0)))∧Aside0 (Below w.heap.size w w'))
   case atStart=>exact ⟨(0),(0),rs_,rs_, H', ⟨Nat.le_refl _⟩,⟨bq_ BK103.out⟩,⟨hb1_ HB.out GE103.out⟩⟩
   clear H';(try clear p2);(try clear c3);(try clear c4);(try clear c4b0);(try clear c4b1);(try clear c5);(try clear hcz6_0);(try clear hcz6_1);(try clear hcz6_0);(try clear hcz6_1);(try clear hfz6_0);(try clear hfz6_1);(try clear hfz6_0);(try clear hfz6_1);obtain ⟨x3_1, x17_1, rfl, rfl, HA, HK1, BK103, HB⟩:=hrel;obtain _|k1:=gk
   ·exact absurd HA.out (by simp [offer_Check.l0])
   have H:=HA.out;clear HA;simp only [offer_Check.l0] at H
   by_cases c9 : x17_1 < (l0_1.length : Int)
   ·rw [if_pos c9] at H
    have c9b0:=decide_eq_true c9;clear c9
    obtain ⟨c10,H⟩:=gi_ H;have c10b0:=decide_eq_true c10;clear c10
    obtain ⟨c11,H⟩:=gi_ H;have c11b0:=decide_eq_true c11;clear c11;have HC12:=k0_ H;clear H;have p105 : 0 ≤ (x17_1 : Int):=of_decide_eq_true as_;have q105 : x17_1 < (l0_1.length : Int):=of_decide_eq_true as_;obtain ⟨ad105, e105, hx105_0, hx105_1⟩:=at_T116 HR0_1.out x17_1 p105 q105;cases e105;replace hx105_0:=bt_ HB.out hx105_0;replace hx105_1:=bt_ HB.out hx105_1;replace p105:=eq_true p105;replace q105:=eq_true q105
    go_upto_region 9 with (first|((with_reducible refine gate_dst (N:=5) rfl ?_);refine box_event ?hg (N:=5) ?hd (cs:=#[.int .i64 0, .int .i64 0]) (t:=116) ?hr ?_;(case hd=>rfl);(case hg=>rfl);(case hr=>first|(go_simp;done)|(go_simp;rfl));intro gb106 hg w13 hbox hb;have BK106:=k0_ (hbox);have GW106:=k0_ ((by rw [hg];exact (below_size (hb1_ HB.out GE103.out)) : w.heap.size ≤ gb106));have GE106:=k0_ ((by rw [hg];exact (below_size (hb1_ HB.out GE103.out)) : w.heap.size ≤ gb106));replace HB:=k0_ (below_step (hb1_ HB.out GE103.out) hb);have NB103_106:=k0_ ((by rw [hg];exact Nat.ne_of_lt (blk_lt (g:=gb103) (o:=.cells #[.string a0_0, .slice (some ad105) l0_1.length c0_1] 26 (0, 0)) (bq_ BK103.out)) : gb103 ≠ gb106));have NB106_103:=k0_ ((by rw [hg];exact Nat.ne_of_gt (blk_lt (g:=gb103) (o:=.cells #[.string a0_0, .slice (some ad105) l0_1.length c0_1] 26 (0, 0)) (bq_ BK103.out)) : gb106 ≠ gb103));replace BK103:=k0_ (blk_below (g:=gb103) (o:=.cells #[.string a0_0, .slice (some ad105) l0_1.length c0_1] 26 (0, 0)) (bq_ BK103.out) hb);clear hb hbox hg;have hnb14:=NB106_103.out;have hnc14:=NB103_106.out;obtain ⟨hcz15_0,hcz15_1⟩:=bc2_ BK106.out;obtain ⟨hfz15_0,hfz15_1⟩:=bf2_ BK106.out))
    repeat (go_quiet (first|((with_reducible refine gate_dst (N:=5) rfl ?_);refine box_event ?hg (N:=5) ?hd (cs:=#[.int .i64 0, .int .i64 0]) (t:=116) ?hr ?_;(case hd=>rfl);(case hg=>rfl);(case hr=>first|(go_simp;done)|(go_simp;rfl));intro gb106 hg w13 hbox hb;have BK106:=k0_ (hbox);have GW106:=k0_ ((by rw [hg];exact (below_size (hb1_ HB.out GE103.out)) : w.heap.size ≤ gb106));have GE106:=k0_ ((by rw [hg];exact (below_size (hb1_ HB.out GE103.out)) : w.heap.size ≤ gb106));replace HB:=k0_ (below_step (hb1_ HB.out GE103.out) hb);have NB103_106:=k0_ ((by rw [hg];exact Nat.ne_of_lt (blk_lt (g:=gb103) (o:=.cells #[.string a0_0, .slice (some ad105) l0_1.length c0_1] 26 (0, 0)) (bq_ BK103.out)) : gb103 ≠ gb106));have NB106_103:=k0_ ((by rw [hg];exact Nat.ne_of_gt (blk_lt (g:=gb103) (o:=.cells #[.string a0_0, .slice (some ad105) l0_1.length c0_1] 26 (0, 0)) (bq_ BK103.out)) : gb106 ≠ gb103));replace BK103:=k0_ (blk_below (g:=gb103) (o:=.cells #[.string a0_0, .slice (some ad105) l0_1.length c0_1] 26 (0, 0)) (bq_ BK103.out) hb);clear hb hbox hg;have hnb14:=NB106_103.out;have hnc14:=NB103_106.out;obtain ⟨hcz15_0,hcz15_1⟩:=bc2_ BK106.out;obtain ⟨hfz15_0,hfz15_1⟩:=bf2_ BK106.out));go_upto_region 9 with (first|((with_reducible refine gate_dst (N:=5) rfl ?_);refine box_event ?hg (N:=5) ?hd (cs:=#[.int .i64 0, .int .i64 0]) (t:=116) ?hr ?_;(case hd=>rfl);(case hg=>rfl);(case hr=>first|(go_simp;done)|(go_simp;rfl));intro gb106 hg w13 hbox hb;have BK106:=k0_ (hbox);have GW106:=k0_ ((by rw [hg];exact (below_size (hb1_ HB.out GE103.out)) : w.heap.size ≤ gb106));have GE106:=k0_ ((by rw [hg];exact (below_size (hb1_ HB.out GE103.out)) : w.heap.size ≤ gb106));replace HB:=k0_ (below_step (hb1_ HB.out GE103.out) hb);have NB103_106:=k0_ ((by rw [hg];exact Nat.ne_of_lt (blk_lt (g:=gb103) (o:=.cells #[.string a0_0, .slice (some ad105) l0_1.length c0_1] 26 (0, 0)) (bq_ BK103.out)) : gb103 ≠ gb106));have NB106_103:=k0_ ((by rw [hg];exact Nat.ne_of_gt (blk_lt (g:=gb103) (o:=.cells #[.string a0_0, .slice (some ad105) l0_1.length c0_1] 26 (0, 0)) (bq_ BK103.out)) : gb106 ≠ gb103));replace BK103:=k0_ (blk_below (g:=gb103) (o:=.cells #[.string a0_0, .slice (some ad105) l0_1.length c0_1] 26 (0, 0)) (bq_ BK103.out) hb);clear hb hbox hg;have hnb14:=NB106_103.out;have hnc14:=NB103_106.out;obtain ⟨hcz15_0,hcz15_1⟩:=bc2_ BK106.out;obtain ⟨hfz15_0,hfz15_1⟩:=bf2_ BK106.out)))
    (try simp only [Act.put, q1_,q2_,q3_])
    go_cut [22] (fun v22 wc=>∃ (kq : Nat) (x22_11 : Bool), v22 = .bool x22_11∧Aside0 (offer_Check.j1 kq x3_1 x17_1 l0_1 (l0_1.length : Int) x17_1 x22_11 a0_0 l0_1 ((rd_T116 l0_1 x17_1).f0) ((rd_T116 l0_1 x17_1).f1) = some r)∧Aside0 (kq ≤ k1)∧Aside0 (wc.heap[gb103]? = some (.cells #[.string a0_0, (.slice (some ad105) l0_1.length c0_1)] 26 (0, 0)))∧Aside0 (wc.heap[gb106]? = some (.cells #[.int .i64 ((rd_T116 l0_1 x17_1).f0), .int .i64 ((rd_T116 l0_1 x17_1).f1)] 116 (0, 0)))∧Aside0 (Below w.heap.size w wc))
    case first =>
     have H:=HC12.out;clear HC12
     by_cases c16 : ((rd_T116 l0_1 x17_1).f0) < 1
     rw [if_pos c16] at H;have c16b0:=decide_eq_true c16;clear c16;(first|rw [c16b0]|(simp only [i64_w, i32_w];rw [c16b0])|skip);have H':=k0_ H;clear H;rotate_left;rw [if_neg c16] at H;have c16b0:=decide_eq_false c16;clear c16;(first|rw [c16b0]|(simp only [i64_w, i32_w];rw [c16b0])|skip)
     focus
      by_cases c19 : ((rd_T116 l0_1 x17_1).f0) > 100000
      rw [if_pos c19] at H;have c19b0:=decide_eq_true c19;clear c19;have H':=k0_ H;clear H;rotate_left;rw [if_neg c19] at H;have c19b0:=decide_eq_false c19;clear c19
      focus
       by_cases c22 : ((rd_T116 l0_1 x17_1).f1) < (-1000000)
       rw [if_pos c22] at H;have c22b0:=decide_eq_true c22;clear c22;have H':=k0_ H;clear H;rotate_left;rw [if_neg c22] at H;have c22b0:=decide_eq_false c22;clear c22;have H':=k0_ H;clear H;rotate_left
      rotate_left 2
     rotate_left 3
     all_goals
      have hnb17:=NB106_103.out;have hnc17:=NB103_106.out;obtain ⟨hcz18_0,hcz18_1⟩:=bc2_ BK106.out;obtain ⟨hfz18_0,hfz18_1⟩:=bf2_ BK106.out;go_wp2
      repeat (go_quiet (fail);try go_wp2)
     ·go_meet
      case rel=>exact ⟨_, (true),rs_, H', ⟨by have:=HK1.out;first|omega|exact Nat.le_refl _⟩,⟨by (with_reducible repeat (first|refine blk_drewN ?_ _|refine blk_drew ?_|refine blk_alloc ?_ _));refine blk_far ?_ NB103_106.out _;(with_reducible repeat (first|refine blk_drewN ?_ _|refine blk_drew ?_|refine blk_alloc ?_ _));refine blk_far ?_ NB103_106.out _;(with_reducible repeat (first|refine blk_drewN ?_ _|refine blk_drew ?_|refine blk_alloc ?_ _));exact BK103.out⟩,⟨by (with_reducible repeat (first|refine blk_drewN ?_ _|refine blk_drew ?_|refine blk_alloc ?_ _));refine blk_put (cs:=#[.int .i64 ((rd_T116 l0_1 x17_1).f0), .int .i64 0]) ?_ 1 _ rfl;(with_reducible repeat (first|refine blk_drewN ?_ _|refine blk_drew ?_|refine blk_alloc ?_ _));refine blk_put (cs:=#[.int .i64 0, .int .i64 0]) ?_ 0 _ rfl;(with_reducible repeat (first|refine blk_drewN ?_ _|refine blk_drew ?_|refine blk_alloc ?_ _));exact BK106.out⟩,⟨hb2_ HB.out GE103.out GE106.out⟩⟩
     ·go_meet
      case rel=>exact ⟨_, (true),rs_, H', ⟨by have:=HK1.out;first|omega|exact Nat.le_refl _⟩,⟨by (with_reducible repeat (first|refine blk_drewN ?_ _|refine blk_drew ?_|refine blk_alloc ?_ _));refine blk_far ?_ NB103_106.out _;(with_reducible repeat (first|refine blk_drewN ?_ _|refine blk_drew ?_|refine blk_alloc ?_ _));refine blk_far ?_ NB103_106.out _;(with_reducible repeat (first|refine blk_drewN ?_ _|refine blk_drew ?_|refine blk_alloc ?_ _));exact BK103.out⟩,⟨by (with_reducible repeat (first|refine blk_drewN ?_ _|refine blk_drew ?_|refine blk_alloc ?_ _));refine blk_put (cs:=#[.int .i64 ((rd_T116 l0_1 x17_1).f0), .int .i64 0]) ?_ 1 _ rfl;(with_reducible repeat (first|refine blk_drewN ?_ _|refine blk_drew ?_|refine blk_alloc ?_ _));refine blk_put (cs:=#[.int .i64 0, .int .i64 0]) ?_ 0 _ rfl;(with_reducible repeat (first|refine blk_drewN ?_ _|refine blk_drew ?_|refine blk_alloc ?_ _));exact BK106.out⟩,⟨hb2_ HB.out GE103.out GE106.out⟩⟩
     ·go_meet
      case rel=>exact ⟨_, (true),rs_, H', ⟨by have:=HK1.out;first|omega|exact Nat.le_refl _⟩,⟨by (with_reducible repeat (first|refine blk_drewN ?_ _|refine blk_drew ?_|refine blk_alloc ?_ _));refine blk_far ?_ NB103_106.out _;(with_reducible repeat (first|refine blk_drewN ?_ _|refine blk_drew ?_|refine blk_alloc ?_ _));refine blk_far ?_ NB103_106.out _;(with_reducible repeat (first|refine blk_drewN ?_ _|refine blk_drew ?_|refine blk_alloc ?_ _));exact BK103.out⟩,⟨by (with_reducible repeat (first|refine blk_drewN ?_ _|refine blk_drew ?_|refine blk_alloc ?_ _));refine blk_put (cs:=#[.int .i64 ((rd_T116 l0_1 x17_1).f0), .int .i64 0]) ?_ 1 _ rfl;(with_reducible repeat (first|refine blk_drewN ?_ _|refine blk_drew ?_|refine blk_alloc ?_ _));refine blk_put (cs:=#[.int .i64 0, .int .i64 0]) ?_ 0 _ rfl;(with_reducible repeat (first|refine blk_drewN ?_ _|refine blk_drew ?_|refine blk_alloc ?_ _));exact BK106.out⟩,⟨hb2_ HB.out GE103.out GE106.out⟩⟩
     ·go_meet
      case rel=>exact ⟨_, (decide (((rd_T116 l0_1 x17_1).f1) > 1000000)),rs_, H', ⟨by have:=HK1.out;first|omega|exact Nat.le_refl _⟩,⟨by (with_reducible repeat (first|refine blk_drewN ?_ _|refine blk_drew ?_|refine blk_alloc ?_ _));refine blk_far ?_ NB103_106.out _;(with_reducible repeat (first|refine blk_drewN ?_ _|refine blk_drew ?_|refine blk_alloc ?_ _));refine blk_far ?_ NB103_106.out _;(with_reducible repeat (first|refine blk_drewN ?_ _|refine blk_drew ?_|refine blk_alloc ?_ _));exact BK103.out⟩,⟨by (with_reducible repeat (first|refine blk_drewN ?_ _|refine blk_drew ?_|refine blk_alloc ?_ _));refine blk_put (cs:=#[.int .i64 ((rd_T116 l0_1 x17_1).f0), .int .i64 0]) ?_ 1 _ rfl;(with_reducible repeat (first|refine blk_drewN ?_ _|refine blk_drew ?_|refine blk_alloc ?_ _));refine blk_put (cs:=#[.int .i64 0, .int .i64 0]) ?_ 0 _ rfl;(with_reducible repeat (first|refine blk_drewN ?_ _|refine blk_drew ?_|refine blk_alloc ?_ _));exact BK106.out⟩,⟨hb2_ HB.out GE103.out GE106.out⟩⟩
    clear HC12;(try clear c1);(try clear p1);(try clear q1);(try clear hx1);(try clear c2);(try clear p2);(try clear c3);(try clear c4);(try clear c4b0);(try clear c4b1);(try clear c5);(try clear c9);(try clear c9b0);(try clear c10);(try clear c10b0);(try clear p10);(try clear q10);(try clear hx10);(try clear c11);(try clear c11b0);(try clear c14);(try clear c16);(try clear c16b0);(try clear c17);(try clear c19);(try clear c19b0);(try clear c20);(try clear c22);(try clear c22b0);(try clear c23);(try clear c25);(try clear hcz15_0);(try clear hcz15_1);(try clear hcz18_0);(try clear hcz18_1);(try clear hcz21_0);(try clear hcz21_1);(try clear hcz24_0);(try clear hcz24_1);(try clear hcz26_0);(try clear hcz26_1);(try clear hcz6_0);(try clear hcz6_1);(try clear hcz6_0);(try clear hcz6_1);(try clear hfz15_0);(try clear hfz15_1);(try clear hfz18_0);(try clear hfz18_1);(try clear hfz21_0);(try clear hfz21_1);(try clear hfz24_0);(try clear hfz24_1);(try clear hfz26_0);(try clear hfz26_1);(try clear hfz6_0);(try clear hfz6_1);(try clear hfz6_0);(try clear hfz6_1);(try clear hx105_0);(try clear hx105_1);(try clear p105);(try clear p2);(try clear q105);obtain ⟨kq, x22_11, rfl, HA, HJ11, BK103, BK106, HB⟩:=hcut;obtain _|kj11:=kq
    ·exact absurd HA.out (by simp [offer_Check.j1])
    have H:=HA.out;clear HA;simp only [offer_Check.j1] at H
    by_cases c27 : x22_11 = true
    ·subst c27
     have H1 : (some 4) = some r:=by rw [if_pos rfl] at H;exact H
     clear H;have H:=H1;clear H1;obtain rfl:=Option.some.inj H;go_wp2
     repeat (go_quiet (fail);try go_wp2)
     go_ret
     exact ⟨er_, hb2_ HB.out GE103.out GE106.out⟩
    ·replace c27:=Bool.eq_false_iff.mpr c27
     subst c27;have H1 : (if x17_1 > 0 then (if 0 ≤ (wrap64 (x17_1 - 1)) then (if (wrap64 (x17_1 - 1)) < (l0_1.length : Int) then (offer_Check.j2 kj11 x3_1 l0_1 (l0_1.length : Int) x17_1 (decide (((rd_T116 l0_1 x17_1).f1) < ((rd_T116 l0_1 (wrap64 (x17_1 - 1))).f1))) a0_0 l0_1 ((rd_T116 l0_1 x17_1).f0) ((rd_T116 l0_1 x17_1).f1)) else (none)) else (none)) else (offer_Check.j2 kj11 x3_1 l0_1 (l0_1.length : Int) x17_1 false a0_0 l0_1 ((rd_T116 l0_1 x17_1).f0) ((rd_T116 l0_1 x17_1).f1))) = some r:=by rw [if_neg (show ¬ (false = true) by decide)] at H;exact H
     clear H;have H:=H1;clear H1;have HC28:=k0_ H;clear H
     go_upto_region 11 with (fail)
     repeat (go_quiet (fail);go_upto_region 11 with (fail))
     go_cut [41] (fun v41 wc=>∃ (kq : Nat) (x41_27 : Bool), v41 = .bool x41_27∧Aside0 (offer_Check.j2 kq x3_1 l0_1 (l0_1.length : Int) x17_1 x41_27 a0_0 l0_1 ((rd_T116 l0_1 x17_1).f0) ((rd_T116 l0_1 x17_1).f1) = some r)∧Aside0 (kq ≤ kj11)∧Aside0 (wc.heap[gb103]? = some (.cells #[.string a0_0, (.slice (some ad105) l0_1.length c0_1)] 26 (0, 0)))∧Aside0 (wc.heap[gb106]? = some (.cells #[.int .i64 ((rd_T116 l0_1 x17_1).f0), .int .i64 ((rd_T116 l0_1 x17_1).f1)] 116 (0, 0)))∧Aside0 (Below w.heap.size w wc))
     case first =>
      have H:=HC28.out;clear HC28
      by_cases c29 : x17_1 > 0
      ·rw [if_pos c29] at H
       have c29b0:=decide_eq_true c29;clear c29;(first|rw [c29b0]|(simp only [i64_w, i32_w];rw [c29b0])|skip);obtain ⟨ji30, hji30⟩ : ∃ j_ : Int, (wrap64 (x17_1 - 1)) = j_:=⟨_, rfl⟩;replace H : (if 0 ≤ (ji30) then (if (ji30) < (l0_1.length : Int) then (offer_Check.j2 kj11 x3_1 l0_1 (l0_1.length : Int) x17_1 (decide (((rd_T116 l0_1 x17_1).f1) < ((rd_T116 l0_1 (ji30)).f1))) a0_0 l0_1 ((rd_T116 l0_1 x17_1).f0) ((rd_T116 l0_1 x17_1).f1)) else (none)) else (none)) = some r:=by first|(rw [hji30] at H;exact H)|(simp only [hji30] at H ⊢;exact H)
       have hji30w : (IntKind.i64.wrap (x17_1 - 1)) = ji30:=(i64_w _).trans hji30
       obtain ⟨c31,H⟩:=gi_ H;have c31b0:=decide_eq_true c31;clear c31
       obtain ⟨c32,H⟩:=gi_ H;have c32b0:=decide_eq_true c32;clear c32;have H':=k0_ H;clear H;have hnb33:=NB106_103.out;have hnc33:=NB103_106.out;obtain ⟨hcz34_0,hcz34_1⟩:=bc2_ BK106.out;obtain ⟨hfz34_0,hfz34_1⟩:=bf2_ BK106.out;obtain ⟨hcz35_0,hcz35_1⟩:=bc2_ BK103.out;obtain ⟨hfz35_0,hfz35_1⟩:=bf2_ BK103.out;have p107 : 0 ≤ ((ji30) : Int):=of_decide_eq_true as_;have q107 : (ji30) < (l0_1.length : Int):=of_decide_eq_true as_;obtain ⟨ad107, e107, hx107_0, hx107_1⟩:=at_T116 HR0_1.out (ji30) p107 q107;obtain rfl : ad105 = ad107:=(by injection e107);replace hx107_0:=bt_ HB.out hx107_0;replace hx107_1:=bt_ HB.out hx107_1;replace p107:=eq_true p107;replace q107:=eq_true q107;go_wp2
       repeat (go_quiet (fail);try go_wp2)
       go_meet
       case rel=>exact ⟨_, (decide (((rd_T116 l0_1 x17_1).f1) < ((rd_T116 l0_1 (ji30)).f1))),(by first|rfl|(simp;done)|(simp only [← hji30] <;> (first|rfl|simp))|(simp [*];done)), H', ⟨by have:=HK1.out;have:=HJ11.out;first|omega|exact Nat.le_refl _⟩,⟨bq_ BK103.out⟩,⟨bq_ BK106.out⟩,⟨hb2_ HB.out GE103.out GE106.out⟩⟩
      ·rw [if_neg c29] at H
       have c29b0:=decide_eq_false c29;clear c29;(first|rw [c29b0]|(simp only [i64_w, i32_w];rw [c29b0])|skip);have H':=k0_ H;clear H;go_wp2
       repeat (go_quiet (fail);try go_wp2)
       go_meet
       case rel=>exact ⟨_, (false),rs_, H', ⟨by have:=HK1.out;have:=HJ11.out;first|omega|exact Nat.le_refl _⟩,⟨bq_ BK103.out⟩,⟨bq_ BK106.out⟩,⟨hb2_ HB.out GE103.out GE106.out⟩⟩
     clear HC28;(try clear c1);(try clear p1);(try clear q1);(try clear hx1);(try clear c2);(try clear p2);(try clear c3);(try clear c4);(try clear c4b0);(try clear c4b1);(try clear c5);(try clear p6);(try clear c9);(try clear c9b0);(try clear c10);(try clear c10b0);(try clear p10);(try clear q10);(try clear hx10);(try clear c11);(try clear c11b0);(try clear c14);(try clear c16);(try clear c16b0);(try clear c17);(try clear c19);(try clear c19b0);(try clear c20);(try clear c22);(try clear c22b0);(try clear c23);(try clear c25);(try clear c27);(try clear c29);(try clear c29b0);(try clear c31);(try clear c31b0);(try clear c32);(try clear c32b0);(try clear c33);(try clear hcz15_0);(try clear hcz15_1);(try clear hcz18_0);(try clear hcz18_1);(try clear hcz21_0);(try clear hcz21_1);(try clear hcz24_0);(try clear hcz24_1);(try clear hcz26_0);(try clear hcz26_1);(try clear hcz34_0);(try clear hcz34_1);(try clear hcz35_0);(try clear hcz35_1);(try clear hcz6_0);(try clear hcz6_1);(try clear hcz6_0);(try clear hcz6_1);(try clear hfz15_0);(try clear hfz15_1);(try clear hfz18_0);(try clear hfz18_1);(try clear hfz21_0);(try clear hfz21_1);(try clear hfz24_0);(try clear hfz24_1);(try clear hfz26_0);(try clear hfz26_1);(try clear hfz34_0);(try clear hfz34_1);(try clear hfz35_0);(try clear hfz35_1);(try clear hfz6_0);(try clear hfz6_1);(try clear hfz6_0);(try clear hfz6_1);(try clear hx105_0);(try clear hx105_1);(try clear hx107_0);(try clear hx107_1);(try clear p1);(try clear p10);(try clear p105);(try clear p107);(try clear p2);(try clear q1);(try clear q10);(try clear q105);(try clear q107);obtain ⟨kq, x41_27, rfl, HA, HJ27, BK103, BK106, HB⟩:=hcut;obtain _|kj27:=kq
     ·exact absurd HA.out (by simp [offer_Check.j2])
     have H:=HA.out;clear HA;simp only [offer_Check.j2] at H
     by_cases c36 : x41_27 = true
     ·subst c36
      have H1 : (some 3) = some r:=by rw [if_pos rfl] at H;exact H
      clear H;have H:=H1;clear H1;obtain rfl:=Option.some.inj H;go_wp2
      repeat (go_quiet (fail);try go_wp2)
      go_ret
      exact ⟨er_, hb2_ HB.out GE103.out GE106.out⟩
     ·replace c36:=Bool.eq_false_iff.mpr c36
      subst c36;have H1 : (if (wrap64 (x3_1 + ((rd_T116 l0_1 x17_1).f0))) > 100000 then (some 2) else (offer_Check.l0 kj27 (wrap64 (x3_1 + ((rd_T116 l0_1 x17_1).f0))) l0_1 (l0_1.length : Int) (wrap64 (x17_1 + 1)) a0_0 l0_1)) = some r:=by rw [if_neg (show ¬ (false = true) by decide)] at H;exact H
      clear H;have H:=H1;clear H1
      by_cases c37 : (wrap64 (x3_1 + ((rd_T116 l0_1 x17_1).f0))) > 100000
      rw [if_pos c37] at H;have c37b0:=decide_eq_true c37;clear c37;obtain rfl:=Option.some.inj H;rotate_left;rw [if_neg c37] at H;have c37b0:=decide_eq_false c37;clear c37;have H':=k0_ H;clear H;rotate_left
      all_goals
       have hnb38:=NB106_103.out;have hnc38:=NB103_106.out;obtain ⟨hcz39_0,hcz39_1⟩:=bc2_ BK106.out;obtain ⟨hfz39_0,hfz39_1⟩:=bf2_ BK106.out;go_wp2
       repeat (go_quiet (fail);try go_wp2)
      ·go_ret
       exact ⟨er_, hb2_ HB.out GE103.out GE106.out⟩
      ·go_roundg kj27
       case measure=>have:=HK1.out;have:=HJ11.out;have:=HJ27.out;omega
       case rel=>exact ⟨(wrap64 (x3_1 + ((rd_T116 l0_1 x17_1).f0))),(wrap64 (x17_1 + 1)),rs_,rs_, H', ⟨by have:=HK1.out;have:=HJ11.out;have:=HJ27.out;omega⟩,⟨bq_ BK103.out⟩,⟨hb2_ HB.out GE103.out GE106.out⟩⟩
   ·rw [if_neg c9] at H
    have c9b0:=decide_eq_false c9;clear c9;obtain rfl:=Option.some.inj H;go_wp2
    repeat (go_quiet (fail);try go_wp2)
    go_ret
    exact ⟨er_, hb1_ HB.out GE103.out⟩
 ·replace c3:=Bool.eq_false_iff.mpr c3
  subst c3;have H1 : (some 6) = some r:=by rw [if_neg (show ¬ (false = true) by decide)] at H;exact H
  clear H;have H:=H1;clear H1;obtain rfl:=Option.some.inj H
  go_enter Try.func53, Try.ntmps53
  go_wp2_with (first|((with_reducible refine gate_dst (N:=1) rfl ?_);refine box_event ?hg (N:=1) ?hd (cs:=#[.string a0_0, .slice A0_1 l0_1.length c0_1]) (t:=26) ?hr ?_;(case hd=>rfl);(case hg=>rfl);(case hr=>first|(go_simp;done)|(go_simp;rfl));intro gb103 hg w42 hbox hb;have BK103:=k0_ (hbox);have GW103:=k0_ ((by rw [hg];exact (below_size (hb0_ HB.out)) : w.heap.size ≤ gb103));have GE103:=k0_ ((by rw [hg];exact (below_size (hb0_ HB.out)) : w.heap.size ≤ gb103));replace HB:=k0_ (below_step (hb0_ HB.out) hb);clear hb hbox hg;obtain ⟨hcz43_0,hcz43_1⟩:=bc2_ BK103.out;obtain ⟨hfz43_0,hfz43_1⟩:=bf2_ BK103.out)|(go_at_call 86;(with_reducible refine (offer_named.calls k a0_0 false _ A2.out).mono ?_);rintro e w' ⟨rfl, ⟨nd, rfl⟩⟩;(try first|exact ⟨rfl, _, World.drewN_drewN _ _ _⟩|exact ⟨rfl, _, Eq.trans (World.drewN_drewN _ _ _) (congrArg (World.drewN _) (Nat.add_assoc _ _ _))⟩)))
  repeat (go_quiet (first|((with_reducible refine gate_dst (N:=1) rfl ?_);refine box_event ?hg (N:=1) ?hd (cs:=#[.string a0_0, .slice A0_1 l0_1.length c0_1]) (t:=26) ?hr ?_;(case hd=>rfl);(case hg=>rfl);(case hr=>first|(go_simp;done)|(go_simp;rfl));intro gb103 hg w42 hbox hb;have BK103:=k0_ (hbox);have GW103:=k0_ ((by rw [hg];exact (below_size (hb0_ HB.out)) : w.heap.size ≤ gb103));have GE103:=k0_ ((by rw [hg];exact (below_size (hb0_ HB.out)) : w.heap.size ≤ gb103));replace HB:=k0_ (below_step (hb0_ HB.out) hb);clear hb hbox hg;obtain ⟨hcz43_0,hcz43_1⟩:=bc2_ BK103.out;obtain ⟨hfz43_0,hfz43_1⟩:=bf2_ BK103.out)|(go_at_call 86;(with_reducible refine (offer_named.calls k a0_0 false _ A2.out).mono ?_);rintro e w' ⟨rfl, ⟨nd, rfl⟩⟩;(try first|exact ⟨rfl, _, World.drewN_drewN _ _ _⟩|exact ⟨rfl, _, Eq.trans (World.drewN_drewN _ _ _) (congrArg (World.drewN _) (Nat.add_assoc _ _ _))⟩)));try go_wp2_with (first|((with_reducible refine gate_dst (N:=1) rfl ?_);refine box_event ?hg (N:=1) ?hd (cs:=#[.string a0_0, .slice A0_1 l0_1.length c0_1]) (t:=26) ?hr ?_;(case hd=>rfl);(case hg=>rfl);(case hr=>first|(go_simp;done)|(go_simp;rfl));intro gb103 hg w42 hbox hb;have BK103:=k0_ (hbox);have GW103:=k0_ ((by rw [hg];exact (below_size (hb0_ HB.out)) : w.heap.size ≤ gb103));have GE103:=k0_ ((by rw [hg];exact (below_size (hb0_ HB.out)) : w.heap.size ≤ gb103));replace HB:=k0_ (below_step (hb0_ HB.out) hb);clear hb hbox hg;obtain ⟨hcz43_0,hcz43_1⟩:=bc2_ BK103.out;obtain ⟨hfz43_0,hfz43_1⟩:=bf2_ BK103.out)|(go_at_call 86;(with_reducible refine (offer_named.calls k a0_0 false _ A2.out).mono ?_);rintro e w' ⟨rfl, ⟨nd, rfl⟩⟩;(try first|exact ⟨rfl, _, World.drewN_drewN _ _ _⟩|exact ⟨rfl, _, Eq.trans (World.drewN_drewN _ _ _) (congrArg (World.drewN _) (Nat.add_assoc _ _ _))⟩))))
  go_ret
  exact ⟨er_, hb1_ HB.out GE103.out⟩

-- NOT PRINTED: function 100 (api_AuctionOrder_100)

-- NOT PRINTED: function 66 (api_AuctionOrder_66)

/-! ### auction_Check_1: function 67 -/
def auction_Check_1.f (a0_0 : ByteArray) (a0_1 : Bool) (a0_2 : Int) (a0_3 : Int) (l1 : List (S71)) : Option (Bool) := if 0 < (l1.length : Int) then (some (a0_0.toList == ((rd_T71 l1 0).f0).toList)) else (none)
set_option maxHeartbeats 8000000 in
set_option maxRecDepth 100000 in
theorem auction_Check_1.calls (a0_0 : ByteArray) (a0_1 : Bool) (a0_2 : Int) (a0_3 : Int) (A1 : Option Addr) (l1 : List (S71)) (r : Bool) (w : World) (hr1 : Kd.C k71 w A1 l1.length l1) (h : auction_Check_1.f a0_0 a0_1 a0_2 a0_3 l1 = some r) :
  Calls Try.prog 67 #[.agg #[.string a0_0, .bool a0_1, .int .i64 a0_2, .int .i64 a0_3], .pointer A1] w fun e w' => e = .returned (.bool r) ∧ Below w.heap.size w w' := by
 have hu71:=Try.underlying71;have HR1:=k0_ hr1;clear hr1;have HB:=k0_ (Below.refl w.heap.size w);have H : (if 0 < (l1.length : Int) then (some (a0_0.toList == ((rd_T71 l1 0).f0).toList)) else (none)) = some r:=h;clear h
 by_cases c3 : 0 < (l1.length : Int)
 ·rw [if_pos c3] at H
  have c3b0:=decide_eq_true c3;have c3b1 : decide (0 < l1.length) = true:=decide_eq_true (by omega);clear c3;obtain rfl:=Option.some.inj H
  go_enter Try.func67, Try.ntmps67
  go_wp2_with (first|((with_reducible refine gate_dst (N:=2) rfl ?_);refine box_event ?hg (N:=2) ?hd (cs:=#[.string a0_0, .bool a0_1, .int .i64 a0_2, .int .i64 a0_3]) (t:=71) ?hr ?_;(case hd=>rfl);(case hg=>rfl);(case hr=>first|(go_simp;done)|(go_simp;rfl));intro gb108 hg w4 hbox hb;have BK108:=k0_ (hbox);have GW108:=k0_ ((by rw [hg];exact (below_size (hb0_ HB.out)) : w.heap.size ≤ gb108));have GE108:=k0_ ((by rw [hg];exact (below_size (hb0_ HB.out)) : w.heap.size ≤ gb108));replace HB:=k0_ (below_step (hb0_ HB.out) hb);clear hb hbox hg;obtain ⟨hcz5_0,hcz5_1,hcz5_2,hcz5_3⟩:=bc4_ BK108.out;obtain ⟨hfz5_0,hfz5_1,hfz5_2,hfz5_3⟩:=bf4_ BK108.out;have p109 : 0 ≤ (0 : Int):=(by omega);have q109 : 0 < (l1.length : Int):=of_decide_eq_true as_;obtain ⟨ad109, e109, hx109_0, hx109_1, hx109_2, hx109_3⟩:=at_T71 HR1.out 0 p109 q109;cases e109;have qi109 : (0 < l1.length) = True:=eq_true (by omega);(try rw [show ((0 : Int)).toNat = 0 from rfl] at hx109_0);(try rw [show 0 * 4 = 0 from rfl] at hx109_0);(try rw [Addr.add_zero'] at hx109_0);(try rw [show ((0 : Int)).toNat = 0 from rfl] at hx109_1);(try rw [show 0 * 4 = 0 from rfl] at hx109_1);(try rw [Addr.add_zero'] at hx109_1);(try rw [show ((0 : Int)).toNat = 0 from rfl] at hx109_2);(try rw [show 0 * 4 = 0 from rfl] at hx109_2);(try rw [Addr.add_zero'] at hx109_2);(try rw [show ((0 : Int)).toNat = 0 from rfl] at hx109_3);(try rw [show 0 * 4 = 0 from rfl] at hx109_3);(try rw [Addr.add_zero'] at hx109_3);replace hx109_0:=bt_ HB.out hx109_0;replace hx109_1:=bt_ HB.out hx109_1;replace hx109_2:=bt_ HB.out hx109_2;replace hx109_3:=bt_ HB.out hx109_3;replace p109:=eq_true p109;replace q109:=eq_true q109))
  go_ret
  exact ⟨er_, hb1_ HB.out GE108.out⟩
 ·rw [if_neg c3] at H
  exact absurd H (by simp)

/-! ### slices_IndexFunc_of_Check_1: function 142 -/
def slices_IndexFunc_of_Check_1.l0 : Nat → List (S71) → Int → Int → List (S71) → Option (Int)
 | 0, _, _, _, _ => none
 | k + 1, x0, x7, x8, x610 => if x8 < x7 then (if 0 ≤ x8 then (if x8 < (x0.length : Int) then ((auction_Check_1.f ((rd_T71 x0 x8).f0) ((rd_T71 x0 x8).f1) ((rd_T71 x0 x8).f2) ((rd_T71 x0 x8).f3) x610).bind fun t111 => (if t111 = true then (some x8) else (slices_IndexFunc_of_Check_1.l0 k x0 x7 (wrap64 (x8 + 1)) x610))) else (none)) else (none)) else (some (-1))
def slices_IndexFunc_of_Check_1.f (k : Nat) (l0 : List (S71)) (l1_0 : List (S71)) : Option (Int) := slices_IndexFunc_of_Check_1.l0 k l0 (l0.length : Int) 0 l1_0
theorem slices_IndexFunc_of_Check_1.mono_l : ∀ k, (∀ y0 y1 y2 y3, LeO (slices_IndexFunc_of_Check_1.l0 k y0 y1 y2 y3) (slices_IndexFunc_of_Check_1.l0 (k + 1) y0 y1 y2 y3))
 | 0 => fun _ _ _ _ r h => by simp [slices_IndexFunc_of_Check_1.l0] at h
 | k + 1 => by
  have ih0:=slices_IndexFunc_of_Check_1.mono_l k
  ·intro y0 y1 y2 y3
   unfold slices_IndexFunc_of_Check_1.l0
   repeat' first|(with_reducible first|exact ih0 _ _ _ _|exact LeO.refl _|exact LeO.none _|refine LeO.ite ?_ ?_|refine LeO.bind ?_ (fun _=>?_))|exact ih0 _ _ _ _|exact LeO.none _|refine LeO.ite ?_ ?_|refine LeO.bind ?_ (fun _=>?_)
theorem slices_IndexFunc_of_Check_1.mono : ∀ a0 a1 k, LeO (slices_IndexFunc_of_Check_1.f k a0 a1) (slices_IndexFunc_of_Check_1.f (k + 1) a0 a1) := by
 intro a0 a1 k
 have ih0:=slices_IndexFunc_of_Check_1.mono_l k
 unfold slices_IndexFunc_of_Check_1.f
 repeat' first|(with_reducible first|exact ih0 _ _ _ _|exact LeO.refl _|exact LeO.none _|refine LeO.ite ?_ ?_|refine LeO.bind ?_ (fun _=>?_))|exact ih0 _ _ _ _|exact LeO.none _|refine LeO.ite ?_ ?_|refine LeO.bind ?_ (fun _=>?_)
set_option maxHeartbeats 8000000 in
set_option maxRecDepth 100000 in
theorem slices_IndexFunc_of_Check_1.calls (k : Nat) (A0 : Option Addr) (c0 : Nat) (l0 : List (S71)) (A1_0 : Option Addr) (l1_0 : List (S71)) (r : Int) (w : World) (hr0 : Kd.C k71 w A0 l0.length l0) (hc0 : l0.length ≤ c0) (hr1_0 : Kd.C k71 w A1_0 l1_0.length l1_0) (h : slices_IndexFunc_of_Check_1.f k l0 l1_0 = some r) :
  Calls Try.prog 100 #[.slice A0 l0.length c0, .func (.func 67) #[] #[.pointer A1_0]] w fun e w' => e = .returned (.int .i64 r) ∧ Below w.heap.size w w' := by
 have hu71:=Try.underlying71;have HR0:=k0_ hr0;have HC0:=k0_ hc0;clear hr0 hc0;have HR1_0:=k0_ hr1_0;clear hr1_0;have HB:=k0_ (Below.refl w.heap.size w);have H : (slices_IndexFunc_of_Check_1.l0 k l0 (l0.length : Int) 0 l1_0) = some r:=h;clear h;have H':=k0_ H;clear H
 go_enter Try.func100, Try.ntmps100
 go_wp2;(try simp only [Act.put, q1_,q3_,q2_])
 go_loopg [8] k (fun kq v8 w'=>∃ (x8_1 : Int), v8 = .int .i64 x8_1∧Aside0 (slices_IndexFunc_of_Check_1.l0 kq l0 (l0.length : Int) x8_1 l1_0 = some r)∧Aside0 (kq ≤ k)∧Aside0 (Below w.heap.size w w'))
 case atStart=>exact ⟨(0),rs_, H', ⟨Nat.le_refl _⟩,⟨hb0_ HB.out⟩⟩
 clear H';(try clear c1);(try clear p2);obtain ⟨x8_1, rfl, HA, HK1, HB⟩:=hrel;obtain _|k1:=gk
 ·exact absurd HA.out (by simp [slices_IndexFunc_of_Check_1.l0])
 have H:=HA.out;clear HA;simp only [slices_IndexFunc_of_Check_1.l0] at H
 by_cases c3 : x8_1 < (l0.length : Int)
 ·rw [if_pos c3] at H
  have c3b0:=decide_eq_true c3;clear c3
  by_cases c4 : 0 ≤ x8_1
  rw [if_pos c4] at H;have c4b0:=decide_eq_true c4;clear c4
  focus
   by_cases c5 : x8_1 < (l0.length : Int)
   rw [if_pos c5] at H;have c5b0:=decide_eq_true c5;clear c5;replace H:=Option.bind_eq_some_iff.mp H;obtain ⟨t111, A60, H⟩:=H;replace H : (if t111 = true then (some x8_1) else (slices_IndexFunc_of_Check_1.l0 k1 l0 (l0.length : Int) (wrap64 (x8_1 + 1)) l1_0)) = some r:=H;have A6:=k0_ A60;clear A60
   focus
    by_cases c7 : t111 = true
    subst c7;have H1 : (some x8_1) = some r:=by rw [if_pos rfl] at H;exact H
    clear H;have H:=H1;clear H1;obtain rfl:=Option.some.inj H;rotate_left;replace c7:=Bool.eq_false_iff.mpr c7;subst c7;have H1 : (slices_IndexFunc_of_Check_1.l0 k1 l0 (l0.length : Int) (wrap64 (x8_1 + 1)) l1_0) = some r:=by rw [if_neg (show ¬ (false = true) by decide)] at H;exact H
    clear H;have H:=H1;clear H1;have H':=k0_ H;clear H;rotate_left
   rotate_left 2;rw [if_neg c5] at H
   exact absurd H (by simp)
  rotate_left 2;rw [if_neg c4] at H
  exact absurd H (by simp)
  all_goals
   have p110 : 0 ≤ (x8_1 : Int):=of_decide_eq_true as_;have q110 : x8_1 < (l0.length : Int):=of_decide_eq_true as_;obtain ⟨ad110, e110, hx110_0, hx110_1, hx110_2, hx110_3⟩:=at_T71 HR0.out x8_1 p110 q110;cases e110;replace hx110_0:=bt_ HB.out hx110_0;replace hx110_1:=bt_ HB.out hx110_1;replace hx110_2:=bt_ HB.out hx110_2;replace hx110_3:=bt_ HB.out hx110_3;replace p110:=eq_true p110;replace q110:=eq_true q110
  ·go_wp2_with (first|(go_at_call 67;(with_reducible refine (auction_Check_1.calls ((rd_T71 l0 x8_1).f0) ((rd_T71 l0 x8_1).f1) ((rd_T71 l0 x8_1).f2) ((rd_T71 l0 x8_1).f3) _ l1_0 true _ ?side1 A6.out).mono ?_);(case side1=>repeat (first|exact (Kd.C_below HR1_0.out HB.out)|(with_reducible refine Kd.C_alloc ?_ _)|(with_reducible refine Kd.C_drewN ?_ _)|(with_reducible refine Kd.C_drew ?_)));rintro e w8 ⟨rfl, hb⟩;replace HB:=k0_ (below_step (hb0_ HB.out) hb);(try clear hb);(try clear hb2);(try clear hk);(try clear hi)))
   go_ret
   exact ⟨er_, hb0_ HB.out⟩
  ·go_wp2_with (first|(go_at_call 67;(with_reducible refine (auction_Check_1.calls ((rd_T71 l0 x8_1).f0) ((rd_T71 l0 x8_1).f1) ((rd_T71 l0 x8_1).f2) ((rd_T71 l0 x8_1).f3) _ l1_0 false _ ?side1 A6.out).mono ?_);(case side1=>repeat (first|exact (Kd.C_below HR1_0.out HB.out)|(with_reducible refine Kd.C_alloc ?_ _)|(with_reducible refine Kd.C_drewN ?_ _)|(with_reducible refine Kd.C_drew ?_)));rintro e w9 ⟨rfl, hb⟩;replace HB:=k0_ (below_step (hb0_ HB.out) hb);(try clear hb);(try clear hb2);(try clear hk);(try clear hi)))
   go_roundg k1
   case measure=>have:=HK1.out;omega
   case rel=>exact ⟨(wrap64 (x8_1 + 1)),rs_, H', ⟨by have:=HK1.out;omega⟩,⟨hb0_ HB.out⟩⟩
 ·rw [if_neg c3] at H
  have c3b0:=decide_eq_false c3;clear c3;obtain rfl:=Option.some.inj H;go_wp2
  go_ret
  exact ⟨er_, hb0_ HB.out⟩

/-! ### slices_ContainsFunc_of_Check_1: function 141 -/
def slices_ContainsFunc_of_Check_1.f (k : Nat) (l0 : List (S71)) (l1_0 : List (S71)) : Option (Bool) := (slices_IndexFunc_of_Check_1.f k l0 l1_0).bind fun t112 => (some (decide (t112 ≥ 0)))
theorem slices_ContainsFunc_of_Check_1.mono : ∀ a0 a1 k, LeO (slices_ContainsFunc_of_Check_1.f k a0 a1) (slices_ContainsFunc_of_Check_1.f (k + 1) a0 a1) := by
 intro a0 a1 k
 unfold slices_ContainsFunc_of_Check_1.f
 repeat' first|(with_reducible first|exact slices_IndexFunc_of_Check_1.mono _ _ _|exact LeO.refl _|exact LeO.none _|refine LeO.ite ?_ ?_|refine LeO.bind ?_ (fun _=>?_))|exact slices_IndexFunc_of_Check_1.mono _ _ _|exact LeO.none _|refine LeO.ite ?_ ?_|refine LeO.bind ?_ (fun _=>?_)
set_option maxHeartbeats 8000000 in
set_option maxRecDepth 100000 in
theorem slices_ContainsFunc_of_Check_1.calls (k : Nat) (A0 : Option Addr) (c0 : Nat) (l0 : List (S71)) (A1_0 : Option Addr) (l1_0 : List (S71)) (r : Bool) (w : World) (hr0 : Kd.C k71 w A0 l0.length l0) (hc0 : l0.length ≤ c0) (hr1_0 : Kd.C k71 w A1_0 l1_0.length l1_0) (h : slices_ContainsFunc_of_Check_1.f k l0 l1_0 = some r) :
  Calls Try.prog 66 #[.slice A0 l0.length c0, .func (.func 67) #[] #[.pointer A1_0]] w fun e w' => e = .returned (.bool r) ∧ Below w.heap.size w w' := by
 have HR0:=k0_ hr0;have HC0:=k0_ hc0;clear hr0 hc0;have HR1_0:=k0_ hr1_0;clear hr1_0;have HB:=k0_ (Below.refl w.heap.size w);have H : ((slices_IndexFunc_of_Check_1.f k l0 l1_0).bind fun t112=>(some (decide (t112 ≥ 0)))) = some r:=h;clear h;replace H:=Option.bind_eq_some_iff.mp H;obtain ⟨t112, A30, H⟩:=H;replace H : (some (decide (t112 ≥ 0))) = some r:=H;have A3:=k0_ A30;clear A30;obtain rfl:=Option.some.inj H
 go_enter Try.func66, Try.ntmps66
 go_wp2_with (first|((with_reducible refine gate_callee (f:=100) rfl ?_);refine goesL_ (some 7) rfl rfl Try.func100 (by kernel_rfl) rfl #[.slice A0 l0.length c0, .func (.func 67) #[] #[.pointer A1_0]] rfl mt_ ?_;(with_reducible refine (slices_IndexFunc_of_Check_1.calls k _ _ l0 _ l1_0 t112 _ ?side1 ?side2 ?side3 A3.out).mono ?_);(case side1=>repeat (first|exact HR0.out|(with_reducible refine Kd.C_alloc ?_ _)|(with_reducible refine Kd.C_drewN ?_ _)|(with_reducible refine Kd.C_drew ?_)));(case side2=>exact HC0.out);(case side3=>repeat (first|exact HR1_0.out|(with_reducible refine Kd.C_alloc ?_ _)|(with_reducible refine Kd.C_drewN ?_ _)|(with_reducible refine Kd.C_drew ?_)));rintro e w4 ⟨rfl, hb⟩;refine ⟨_, rfl, ?_⟩;replace HB:=k0_ (below_step (hb0_ HB.out) hb);(try clear hb);(try clear hb2);(try clear hk);(try clear hi)))
 go_ret
 exact ⟨er_, hb0_ HB.out⟩

end Go.Proofs.Ytdgjelbkogfedaa.PAuctionClears
