/- Contracts of functions that DualSingle reaches, a text of this session's own. -/
import Derived.Test.YtdgjelbkogfedaaBox2
import Derived.Test.YtdgjelbkogfedaaHDualSingley0
import Derived.Test.YtdgjelbkogfedaaHDualSingley3
namespace Go.Proofs.Ytdgjelbkogfedaa.PDualSingle
open Go.RowKit Go.Proofs.YtdgjelbkogfedaaW.PrintWords Go.Proofs.YtdgjelbkogfedaaW.PrintLast Go.Proofs.YtdgjelbkogfedaaW.PrintMore
attribute [local go_sem] max2_int min2_int max_two min_two max_three min_three max_four min_four   -- for this text's walks alone
set_option linter.unusedVariables false
set_option linter.unusedSimpArgs false

/-! ### offer_Check: function 53 -/
mutual
def offer_Check.l0 : Nat → Int → List (S116) → Int → Int → ByteArray → List (S116) → Option (Int)
 | 0, _, _, _, _, _, _ => none
 | k + 1, x3, x15, x16, x17, x107000, x107001 => if x17 < x16 then (if 0 ≤ x17 then (if x17 < (x15.length : Int) then (if ((rd_T116 x15 x17).f0) < 1 then (offer_Check.j1 k x3 x17 x15 x16 x17 true x107000 x107001 ((rd_T116 x15 x17).f0) ((rd_T116 x15 x17).f1)) else (if ((rd_T116 x15 x17).f0) > 100000 then (offer_Check.j1 k x3 x17 x15 x16 x17 true x107000 x107001 ((rd_T116 x15 x17).f0) ((rd_T116 x15 x17).f1)) else (if ((rd_T116 x15 x17).f1) < (-1000000) then (offer_Check.j1 k x3 x17 x15 x16 x17 true x107000 x107001 ((rd_T116 x15 x17).f0) ((rd_T116 x15 x17).f1)) else (offer_Check.j1 k x3 x17 x15 x16 x17 (decide (((rd_T116 x15 x17).f1) > 1000000)) x107000 x107001 ((rd_T116 x15 x17).f0) ((rd_T116 x15 x17).f1))))) else (none)) else (none)) else (some 0)
def offer_Check.j1 : Nat → Int → Int → List (S116) → Int → Int → Bool → ByteArray → List (S116) → Int → Int → Option (Int)
 | 0, _, _, _, _, _, _, _, _, _, _ => none
 | k + 1, x3, x4, x15, x16, x17, x22, x107000, x107001, x110000, x110001 => if x22 = true then (some 4) else (if x4 > 0 then (if 0 ≤ (wrap64 (x4 - 1)) then (if (wrap64 (x4 - 1)) < (x107001.length : Int) then (offer_Check.j2 k x3 x15 x16 x17 (decide (x110001 < ((rd_T116 x107001 (wrap64 (x4 - 1))).f1))) x107000 x107001 x110000 x110001) else (none)) else (none)) else (offer_Check.j2 k x3 x15 x16 x17 false x107000 x107001 x110000 x110001))
def offer_Check.j2 : Nat → Int → List (S116) → Int → Int → Bool → ByteArray → List (S116) → Int → Int → Option (Int)
 | 0, _, _, _, _, _, _, _, _, _ => none
 | k + 1, x3, x15, x16, x17, x41, x107000, x107001, x110000, x110001 => if x41 = true then (some 3) else (if (wrap64 (x3 + x110000)) > 100000 then (some 2) else (offer_Check.l0 k (wrap64 (x3 + x110000)) x15 x16 (wrap64 (x17 + 1)) x107000 x107001))
end
def offer_Check.f (k : Nat) (a0_0 : ByteArray) (l0_1 : List (S116)) : Option (Int) := (offer_named.f k a0_0).bind fun t107 => (if t107 = true then (if (l0_1.length : Int) > 12 then (some 2) else (offer_Check.l0 k 0 l0_1 (l0_1.length : Int) 0 a0_0 l0_1)) else (some 6))
theorem offer_Check.mono_l : ∀ k, (∀ y0 y1 y2 y3 y4 y5, LeO (offer_Check.l0 k y0 y1 y2 y3 y4 y5) (offer_Check.l0 (k + 1) y0 y1 y2 y3 y4 y5)) ∧ (∀ y0 y1 y2 y3 y4 y5 y6 y7 y8 y9, LeO (offer_Check.j1 k y0 y1 y2 y3 y4 y5 y6 y7 y8 y9) (offer_Check.j1 (k + 1) y0 y1 y2 y3 y4 y5 y6 y7 y8 y9)) ∧ (∀ y0 y1 y2 y3 y4 y5 y6 y7 y8, LeO (offer_Check.j2 k y0 y1 y2 y3 y4 y5 y6 y7 y8) (offer_Check.j2 (k + 1) y0 y1 y2 y3 y4 y5 y6 y7 y8))
 | 0 => ⟨fun _ _ _ _ _ _ r h => by simp [offer_Check.l0] at h, fun _ _ _ _ _ _ _ _ _ _ r h => by simp [offer_Check.j1] at h, fun _ _ _ _ _ _ _ _ _ r h => by simp [offer_Check.j2] at h⟩
 | k + 1 => by
  obtain ⟨ih0, ih1, ih2⟩:=offer_Check.mono_l k
  refine ⟨?_, ?_, ?_⟩
  ·intro y0 y1 y2 y3 y4 y5
   unfold offer_Check.l0
   repeat' first|(with_reducible first|exact ih0 _ _ _ _ _ _|exact ih1 _ _ _ _ _ _ _ _ _ _|exact ih2 _ _ _ _ _ _ _ _ _|exact offer_named.mono _ _|exact LeO.refl _|exact LeO.none _|refine LeO.ite ?_ ?_|refine LeO.bind ?_ (fun _=>?_))|exact ih0 _ _ _ _ _ _|exact ih1 _ _ _ _ _ _ _ _ _ _|exact ih2 _ _ _ _ _ _ _ _ _|exact offer_named.mono _ _|exact LeO.none _|refine LeO.ite ?_ ?_|refine LeO.bind ?_ (fun _=>?_)
  ·intro y0 y1 y2 y3 y4 y5 y6 y7 y8 y9
   unfold offer_Check.j1
   repeat' first|(with_reducible first|exact ih0 _ _ _ _ _ _|exact ih1 _ _ _ _ _ _ _ _ _ _|exact ih2 _ _ _ _ _ _ _ _ _|exact offer_named.mono _ _|exact LeO.refl _|exact LeO.none _|refine LeO.ite ?_ ?_|refine LeO.bind ?_ (fun _=>?_))|exact ih0 _ _ _ _ _ _|exact ih1 _ _ _ _ _ _ _ _ _ _|exact ih2 _ _ _ _ _ _ _ _ _|exact offer_named.mono _ _|exact LeO.none _|refine LeO.ite ?_ ?_|refine LeO.bind ?_ (fun _=>?_)
  ·intro y0 y1 y2 y3 y4 y5 y6 y7 y8
   unfold offer_Check.j2
   repeat' first|(with_reducible first|exact ih0 _ _ _ _ _ _|exact ih1 _ _ _ _ _ _ _ _ _ _|exact ih2 _ _ _ _ _ _ _ _ _|exact offer_named.mono _ _|exact LeO.refl _|exact LeO.none _|refine LeO.ite ?_ ?_|refine LeO.bind ?_ (fun _=>?_))|exact ih0 _ _ _ _ _ _|exact ih1 _ _ _ _ _ _ _ _ _ _|exact ih2 _ _ _ _ _ _ _ _ _|exact offer_named.mono _ _|exact LeO.none _|refine LeO.ite ?_ ?_|refine LeO.bind ?_ (fun _=>?_)
theorem offer_Check.mono : ∀ a0 a1 k, LeO (offer_Check.f k a0 a1) (offer_Check.f (k + 1) a0 a1) := by
 intro a0 a1 k
 obtain ⟨ih0, ih1, ih2⟩:=offer_Check.mono_l k
 unfold offer_Check.f
 repeat' first|(with_reducible first|exact ih0 _ _ _ _ _ _|exact ih1 _ _ _ _ _ _ _ _ _ _|exact ih2 _ _ _ _ _ _ _ _ _|exact offer_named.mono _ _|exact LeO.refl _|exact LeO.none _|refine LeO.ite ?_ ?_|refine LeO.bind ?_ (fun _=>?_))|exact ih0 _ _ _ _ _ _|exact ih1 _ _ _ _ _ _ _ _ _ _|exact ih2 _ _ _ _ _ _ _ _ _|exact offer_named.mono _ _|exact LeO.none _|refine LeO.ite ?_ ?_|refine LeO.bind ?_ (fun _=>?_)
set_option maxHeartbeats 8000000 in
set_option maxRecDepth 100000 in
theorem offer_Check.calls (k : Nat) (a0_0 : ByteArray) (A0_1 : Option Addr) (c0_1 : Nat) (l0_1 : List (S116)) (r : Int) (w : World) (hr0_1 : Kd.C k116 w A0_1 l0_1.length l0_1) (hc0_1 : l0_1.length ≤ c0_1) (h : offer_Check.f k a0_0 l0_1 = some r) :
  Calls Try.prog 53 #[.agg #[.string a0_0, .slice A0_1 l0_1.length c0_1]] w fun e w' => e = .returned (.int .i64 r) ∧ Below w.heap.size w w' := by
 have hu26:=Try.underlying26;have hu116:=Try.underlying116;have HR0_1:=k0_ hr0_1;have HC0_1:=k0_ hc0_1;clear hr0_1 hc0_1;have HB:=k0_ (Below.refl w.heap.size w);have H : ((offer_named.f k a0_0).bind fun t107=>(if t107 = true then (if (l0_1.length : Int) > 12 then (some 2) else (offer_Check.l0 k 0 l0_1 (l0_1.length : Int) 0 a0_0 l0_1)) else (some 6))) = some r:=h;clear h;replace H:=Option.bind_eq_some_iff.mp H;obtain ⟨t107, A20, H⟩:=H;replace H : (if t107 = true then (if (l0_1.length : Int) > 12 then (some 2) else (offer_Check.l0 k 0 l0_1 (l0_1.length : Int) 0 a0_0 l0_1)) else (some 6)) = some r:=H;have A2:=k0_ A20;clear A20
 by_cases c3 : t107 = true
 ·subst c3
  have H1 : (if (l0_1.length : Int) > 12 then (some 2) else (offer_Check.l0 k 0 l0_1 (l0_1.length : Int) 0 a0_0 l0_1)) = some r:=by rw [if_pos rfl] at H;exact H
  clear H;have H:=H1;clear H1
  by_cases c4 : (l0_1.length : Int) > 12
  rw [if_pos c4] at H;have c4b0:=decide_eq_true c4;have c4b1 : decide (12 < l0_1.length) = true:=decide_eq_true (by omega);clear c4;obtain rfl:=Option.some.inj H;rotate_left;rw [if_neg c4] at H;have c4b0:=decide_eq_false c4;have c4b1 : decide (12 < l0_1.length) = false:=decide_eq_false (by omega);clear c4;have H':=k0_ H;clear H;rotate_left
  all_goals
   go_enter Try.func53, Try.ntmps53
   go_wp2_with (first|((with_reducible refine gate_dst (N:=1) rfl ?_);refine box_event ?hg (N:=1) ?hd (cs:=#[.string a0_0, .slice A0_1 l0_1.length c0_1]) (t:=26) ?hr ?_;(case hd=>rfl);(case hg=>rfl);(case hr=>first|(go_simp;done)|(go_simp;rfl));intro gb106 hg w5 hbox hb;have BK106:=k0_ (hbox);have GW106:=k0_ ((by rw [hg];exact (below_size (hb0_ HB.out)) : w.heap.size ≤ gb106));have GE106:=k0_ ((by rw [hg];exact (below_size (hb0_ HB.out)) : w.heap.size ≤ gb106));replace HB:=k0_ (below_step (hb0_ HB.out) hb);clear hb hbox hg;obtain ⟨hcz6_0,hcz6_1⟩:=bc2_ BK106.out;obtain ⟨hfz6_0,hfz6_1⟩:=bf2_ BK106.out)|(go_at_call 86;(with_reducible refine (offer_named.calls k a0_0 true _ A2.out).mono ?_);rintro e w' ⟨rfl, ⟨nd, rfl⟩⟩;(try first|exact ⟨rfl, _, World.drewN_drewN _ _ _⟩|exact ⟨rfl, _, Eq.trans (World.drewN_drewN _ _ _) (congrArg (World.drewN _) (Nat.add_assoc _ _ _))⟩)))
   repeat (go_quiet (first|((with_reducible refine gate_dst (N:=1) rfl ?_);refine box_event ?hg (N:=1) ?hd (cs:=#[.string a0_0, .slice A0_1 l0_1.length c0_1]) (t:=26) ?hr ?_;(case hd=>rfl);(case hg=>rfl);(case hr=>first|(go_simp;done)|(go_simp;rfl));intro gb106 hg w5 hbox hb;have BK106:=k0_ (hbox);have GW106:=k0_ ((by rw [hg];exact (below_size (hb0_ HB.out)) : w.heap.size ≤ gb106));have GE106:=k0_ ((by rw [hg];exact (below_size (hb0_ HB.out)) : w.heap.size ≤ gb106));replace HB:=k0_ (below_step (hb0_ HB.out) hb);clear hb hbox hg;obtain ⟨hcz6_0,hcz6_1⟩:=bc2_ BK106.out;obtain ⟨hfz6_0,hfz6_1⟩:=bf2_ BK106.out)|(go_at_call 86;(with_reducible refine (offer_named.calls k a0_0 true _ A2.out).mono ?_);rintro e w' ⟨rfl, ⟨nd, rfl⟩⟩;(try first|exact ⟨rfl, _, World.drewN_drewN _ _ _⟩|exact ⟨rfl, _, Eq.trans (World.drewN_drewN _ _ _) (congrArg (World.drewN _) (Nat.add_assoc _ _ _))⟩)));try go_wp2_with (first|((with_reducible refine gate_dst (N:=1) rfl ?_);refine box_event ?hg (N:=1) ?hd (cs:=#[.string a0_0, .slice A0_1 l0_1.length c0_1]) (t:=26) ?hr ?_;(case hd=>rfl);(case hg=>rfl);(case hr=>first|(go_simp;done)|(go_simp;rfl));intro gb106 hg w5 hbox hb;have BK106:=k0_ (hbox);have GW106:=k0_ ((by rw [hg];exact (below_size (hb0_ HB.out)) : w.heap.size ≤ gb106));have GE106:=k0_ ((by rw [hg];exact (below_size (hb0_ HB.out)) : w.heap.size ≤ gb106));replace HB:=k0_ (below_step (hb0_ HB.out) hb);clear hb hbox hg;obtain ⟨hcz6_0,hcz6_1⟩:=bc2_ BK106.out;obtain ⟨hfz6_0,hfz6_1⟩:=bf2_ BK106.out)|(go_at_call 86;(with_reducible refine (offer_named.calls k a0_0 true _ A2.out).mono ?_);rintro e w' ⟨rfl, ⟨nd, rfl⟩⟩;(try first|exact ⟨rfl, _, World.drewN_drewN _ _ _⟩|exact ⟨rfl, _, Eq.trans (World.drewN_drewN _ _ _) (congrArg (World.drewN _) (Nat.add_assoc _ _ _))⟩))))
  ·go_ret
   exact ⟨er_, hb1_ HB.out GE106.out⟩
  ·try simp only [Act.put, q1_,q3_,q2_]
   go_loopg [3, 17] k (fun kq v3 v17 w'=>∃ (x3_1 : Int) (x17_1 : Int), v3 = .int .i64 x3_1∧v17 = .int .i64 x17_1∧Aside0 (offer_Check.l0 kq x3_1 l0_1 (l0_1.length : Int) x17_1 a0_0 l0_1 = some r)∧Aside0 (kq ≤ k)∧Aside0 (w'.heap[gb106]? = some (.cells #[.string a0_0, (.slice A0_1 l0_1.length c0_1)] 26 (0, 0)))∧Aside0 (Below w.heap.size w w'))
   case atStart=>exact ⟨(0),(0),rs_,rs_, H', ⟨Nat.le_refl _⟩,⟨bq_ BK106.out⟩,⟨hb1_ HB.out GE106.out⟩⟩
   clear H';(try clear p2);(try clear c3);(try clear c4);(try clear c4b0);(try clear c4b1);(try clear c5);(try clear hcz6_0);(try clear hcz6_1);(try clear hcz6_0);(try clear hcz6_1);(try clear hfz6_0);(try clear hfz6_1);(try clear hfz6_0);(try clear hfz6_1);obtain ⟨x3_1, x17_1, rfl, rfl, HA, HK1, BK106, HB⟩:=hrel;obtain _|k1:=gk
   ·exact absurd HA.out (by simp [offer_Check.l0])
   have H:=HA.out;clear HA;simp only [offer_Check.l0] at H
   by_cases c9 : x17_1 < (l0_1.length : Int)
   ·rw [if_pos c9] at H
    have c9b0:=decide_eq_true c9;clear c9
    obtain ⟨c10,H⟩:=gi_ H;have c10b0:=decide_eq_true c10;clear c10
    obtain ⟨c11,H⟩:=gi_ H;have c11b0:=decide_eq_true c11;clear c11;have HC12:=k0_ H;clear H;have p108 : 0 ≤ (x17_1 : Int):=of_decide_eq_true as_;have q108 : x17_1 < (l0_1.length : Int):=of_decide_eq_true as_;obtain ⟨ad108, e108, hx108_0, hx108_1⟩:=at_T116 HR0_1.out x17_1 p108 q108;cases e108;replace hx108_0:=bt_ HB.out hx108_0;replace hx108_1:=bt_ HB.out hx108_1;replace p108:=eq_true p108;replace q108:=eq_true q108
    go_upto_region 9 with (first|((with_reducible refine gate_dst (N:=5) rfl ?_);refine box_event ?hg (N:=5) ?hd (cs:=#[.int .i64 0, .int .i64 0]) (t:=116) ?hr ?_;(case hd=>rfl);(case hg=>rfl);(case hr=>first|(go_simp;done)|(go_simp;rfl));intro gb109 hg w13 hbox hb;have BK109:=k0_ (hbox);have GW109:=k0_ ((by rw [hg];exact (below_size (hb1_ HB.out GE106.out)) : w.heap.size ≤ gb109));have GE109:=k0_ ((by rw [hg];exact (below_size (hb1_ HB.out GE106.out)) : w.heap.size ≤ gb109));replace HB:=k0_ (below_step (hb1_ HB.out GE106.out) hb);have NB106_109:=k0_ ((by rw [hg];exact Nat.ne_of_lt (blk_lt (g:=gb106) (o:=.cells #[.string a0_0, .slice (some ad108) l0_1.length c0_1] 26 (0, 0)) (bq_ BK106.out)) : gb106 ≠ gb109));have NB109_106:=k0_ ((by rw [hg];exact Nat.ne_of_gt (blk_lt (g:=gb106) (o:=.cells #[.string a0_0, .slice (some ad108) l0_1.length c0_1] 26 (0, 0)) (bq_ BK106.out)) : gb109 ≠ gb106));replace BK106:=k0_ (blk_below (g:=gb106) (o:=.cells #[.string a0_0, .slice (some ad108) l0_1.length c0_1] 26 (0, 0)) (bq_ BK106.out) hb);clear hb hbox hg;have hnb14:=NB109_106.out;have hnc14:=NB106_109.out;obtain ⟨hcz15_0,hcz15_1⟩:=bc2_ BK109.out;obtain ⟨hfz15_0,hfz15_1⟩:=bf2_ BK109.out))
    repeat (go_quiet (first|((with_reducible refine gate_dst (N:=5) rfl ?_);refine box_event ?hg (N:=5) ?hd (cs:=#[.int .i64 0, .int .i64 0]) (t:=116) ?hr ?_;(case hd=>rfl);(case hg=>rfl);(case hr=>first|(go_simp;done)|(go_simp;rfl));intro gb109 hg w13 hbox hb;have BK109:=k0_ (hbox);have GW109:=k0_ ((by rw [hg];exact (below_size (hb1_ HB.out GE106.out)) : w.heap.size ≤ gb109));have GE109:=k0_ ((by rw [hg];exact (below_size (hb1_ HB.out GE106.out)) : w.heap.size ≤ gb109));replace HB:=k0_ (below_step (hb1_ HB.out GE106.out) hb);have NB106_109:=k0_ ((by rw [hg];exact Nat.ne_of_lt (blk_lt (g:=gb106) (o:=.cells #[.string a0_0, .slice (some ad108) l0_1.length c0_1] 26 (0, 0)) (bq_ BK106.out)) : gb106 ≠ gb109));have NB109_106:=k0_ ((by rw [hg];exact Nat.ne_of_gt (blk_lt (g:=gb106) (o:=.cells #[.string a0_0, .slice (some ad108) l0_1.length c0_1] 26 (0, 0)) (bq_ BK106.out)) : gb109 ≠ gb106));replace BK106:=k0_ (blk_below (g:=gb106) (o:=.cells #[.string a0_0, .slice (some ad108) l0_1.length c0_1] 26 (0, 0)) (bq_ BK106.out) hb);clear hb hbox hg;have hnb14:=NB109_106.out;have hnc14:=NB106_109.out;obtain ⟨hcz15_0,hcz15_1⟩:=bc2_ BK109.out;obtain ⟨hfz15_0,hfz15_1⟩:=bf2_ BK109.out));go_upto_region 9 with (first|((with_reducible refine gate_dst (N:=5) rfl ?_);refine box_event ?hg (N:=5) ?hd (cs:=#[.int .i64 0, .int .i64 0]) (t:=116) ?hr ?_;(case hd=>rfl);(case hg=>rfl);(case hr=>first|(go_simp;done)|(go_simp;rfl));intro gb109 hg w13 hbox hb;have BK109:=k0_ (hbox);have GW109:=k0_ ((by rw [hg];exact (below_size (hb1_ HB.out GE106.out)) : w.heap.size ≤ gb109));have GE109:=k0_ ((by rw [hg];exact (below_size (hb1_ HB.out GE106.out)) : w.heap.size ≤ gb109));replace HB:=k0_ (below_step (hb1_ HB.out GE106.out) hb);have NB106_109:=k0_ ((by rw [hg];exact Nat.ne_of_lt (blk_lt (g:=gb106) (o:=.cells #[.string a0_0, .slice (some ad108) l0_1.length c0_1] 26 (0, 0)) (bq_ BK106.out)) : gb106 ≠ gb109));have NB109_106:=k0_ ((by rw [hg];exact Nat.ne_of_gt (blk_lt (g:=gb106) (o:=.cells #[.string a0_0, .slice (some ad108) l0_1.length c0_1] 26 (0, 0)) (bq_ BK106.out)) : gb109 ≠ gb106));replace BK106:=k0_ (blk_below (g:=gb106) (o:=.cells #[.string a0_0, .slice (some ad108) l0_1.length c0_1] 26 (0, 0)) (bq_ BK106.out) hb);clear hb hbox hg;have hnb14:=NB109_106.out;have hnc14:=NB106_109.out;obtain ⟨hcz15_0,hcz15_1⟩:=bc2_ BK109.out;obtain ⟨hfz15_0,hfz15_1⟩:=bf2_ BK109.out)))
    (try simp only [Act.put, q1_,q2_,q3_])
    go_cut [22] (fun v22 wc=>∃ (kq : Nat) (x22_11 : Bool), v22 = .bool x22_11∧Aside0 (offer_Check.j1 kq x3_1 x17_1 l0_1 (l0_1.length : Int) x17_1 x22_11 a0_0 l0_1 ((rd_T116 l0_1 x17_1).f0) ((rd_T116 l0_1 x17_1).f1) = some r)∧Aside0 (kq ≤ k1)∧Aside0 (wc.heap[gb106]? = some (.cells #[.string a0_0, (.slice (some ad108) l0_1.length c0_1)] 26 (0, 0)))∧Aside0 (wc.heap[gb109]? = some (.cells #[.int .i64 ((rd_T116 l0_1 x17_1).f0), .int .i64 ((rd_T116 l0_1 x17_1).f1)] 116 (0, 0)))∧Aside0 (Below w.heap.size w wc))
    case first =>
     have H:=HC12.out;clear HC12
     by_cases c16 : ((rd_T116 l0_1 x17_1).f0) < 1
     rw [if_pos c16] at H;have c16b0:=decide_eq_true c16;clear c16;(first|rw [c16b0]|(simp only [i64_w, i32_w];rw [c16b0])|skip);have H':=k0_ H;clear H;rotate_left;rw [if_neg c16] at H;have c16b0:=decide_eq_false c16;clear c16;(first|rw [c16b0]|(simp only [i64_w, i32_w];rw [c16b0])|skip)
     focus
      by_cases c19 : ((rd_T116 l0_1 x17_1).f0) > 100000
      rw [if_pos c19] at H;have c19b0:=decide_eq_true c19;clear c19;have H':=k0_ H;clear H;rotate_left;rw [if_neg c19] at H;have c19b0:=decide_eq_false c19;clear c19
      focus
       by_cases c22 : ((rd_T116 l0_1 x17_1).f1) < (-1000000)
       rw [if_pos c22] at H;have c22b0:=decide_eq_true c22;clear c22;have H':=k0_ H;clear H;rotate_left;rw [if_neg c22] at H;have c22b0:=decide_eq_false c22;clear c22;have H':=k0_ H;clear H;rotate_left
      rotate_left 2
     rotate_left 3
     all_goals
      have hnb17:=NB109_106.out;have hnc17:=NB106_109.out;obtain ⟨hcz18_0,hcz18_1⟩:=bc2_ BK109.out;obtain ⟨hfz18_0,hfz18_1⟩:=bf2_ BK109.out;go_wp2
      repeat (go_quiet (fail);try go_wp2)
     ·go_meet
      case rel=>exact ⟨_, (true),rs_, H', ⟨by have:=HK1.out;first|omega|exact Nat.le_refl _⟩,⟨by (with_reducible repeat (first|refine blk_drewN ?_ _|refine blk_drew ?_|refine blk_alloc ?_ _));refine blk_far ?_ NB106_109.out _;(with_reducible repeat (first|refine blk_drewN ?_ _|refine blk_drew ?_|refine blk_alloc ?_ _));refine blk_far ?_ NB106_109.out _;(with_reducible repeat (first|refine blk_drewN ?_ _|refine blk_drew ?_|refine blk_alloc ?_ _));exact BK106.out⟩,⟨by (with_reducible repeat (first|refine blk_drewN ?_ _|refine blk_drew ?_|refine blk_alloc ?_ _));refine blk_put (cs:=#[.int .i64 ((rd_T116 l0_1 x17_1).f0), .int .i64 0]) ?_ 1 _ rfl;(with_reducible repeat (first|refine blk_drewN ?_ _|refine blk_drew ?_|refine blk_alloc ?_ _));refine blk_put (cs:=#[.int .i64 0, .int .i64 0]) ?_ 0 _ rfl;(with_reducible repeat (first|refine blk_drewN ?_ _|refine blk_drew ?_|refine blk_alloc ?_ _));exact BK109.out⟩,⟨hb2_ HB.out GE106.out GE109.out⟩⟩
     ·go_meet
      case rel=>exact ⟨_, (true),rs_, H', ⟨by have:=HK1.out;first|omega|exact Nat.le_refl _⟩,⟨by (with_reducible repeat (first|refine blk_drewN ?_ _|refine blk_drew ?_|refine blk_alloc ?_ _));refine blk_far ?_ NB106_109.out _;(with_reducible repeat (first|refine blk_drewN ?_ _|refine blk_drew ?_|refine blk_alloc ?_ _));refine blk_far ?_ NB106_109.out _;(with_reducible repeat (first|refine blk_drewN ?_ _|refine blk_drew ?_|refine blk_alloc ?_ _));exact BK106.out⟩,⟨by (with_reducible repeat (first|refine blk_drewN ?_ _|refine blk_drew ?_|refine blk_alloc ?_ _));refine blk_put (cs:=#[.int .i64 ((rd_T116 l0_1 x17_1).f0), .int .i64 0]) ?_ 1 _ rfl;(with_reducible repeat (first|refine blk_drewN ?_ _|refine blk_drew ?_|refine blk_alloc ?_ _));refine blk_put (cs:=#[.int .i64 0, .int .i64 0]) ?_ 0 _ rfl;(with_reducible repeat (first|refine blk_drewN ?_ _|refine blk_drew ?_|refine blk_alloc ?_ _));exact BK109.out⟩,⟨hb2_ HB.out GE106.out GE109.out⟩⟩
     ·go_meet
      case rel=>exact ⟨_, (true),rs_, H', ⟨by have:=HK1.out;first|omega|exact Nat.le_refl _⟩,⟨by (with_reducible repeat (first|refine blk_drewN ?_ _|refine blk_drew ?_|refine blk_alloc ?_ _));refine blk_far ?_ NB106_109.out _;(with_reducible repeat (first|refine blk_drewN ?_ _|refine blk_drew ?_|refine blk_alloc ?_ _));refine blk_far ?_ NB106_109.out _;(with_reducible repeat (first|refine blk_drewN ?_ _|refine blk_drew ?_|refine blk_alloc ?_ _));exact BK106.out⟩,⟨by (with_reducible repeat (first|refine blk_drewN ?_ _|refine blk_drew ?_|refine blk_alloc ?_ _));refine blk_put (cs:=#[.int .i64 ((rd_T116 l0_1 x17_1).f0), .int .i64 0]) ?_ 1 _ rfl;(with_reducible repeat (first|refine blk_drewN ?_ _|refine blk_drew ?_|refine blk_alloc ?_ _));refine blk_put (cs:=#[.int .i64 0, .int .i64 0]) ?_ 0 _ rfl;(with_reducible repeat (first|refine blk_drewN ?_ _|refine blk_drew ?_|refine blk_alloc ?_ _));exact BK109.out⟩,⟨hb2_ HB.out GE106.out GE109.out⟩⟩
     ·go_meet
      case rel=>exact ⟨_, (decide (((rd_T116 l0_1 x17_1).f1) > 1000000)),rs_, H', ⟨by have:=HK1.out;first|omega|exact Nat.le_refl _⟩,⟨by (with_reducible repeat (first|refine blk_drewN ?_ _|refine blk_drew ?_|refine blk_alloc ?_ _));refine blk_far ?_ NB106_109.out _;(with_reducible repeat (first|refine blk_drewN ?_ _|refine blk_drew ?_|refine blk_alloc ?_ _));refine blk_far ?_ NB106_109.out _;(with_reducible repeat (first|refine blk_drewN ?_ _|refine blk_drew ?_|refine blk_alloc ?_ _));exact BK106.out⟩,⟨by (with_reducible repeat (first|refine blk_drewN ?_ _|refine blk_drew ?_|refine blk_alloc ?_ _));refine blk_put (cs:=#[.int .i64 ((rd_T116 l0_1 x17_1).f0), .int .i64 0]) ?_ 1 _ rfl;(with_reducible repeat (first|refine blk_drewN ?_ _|refine blk_drew ?_|refine blk_alloc ?_ _));refine blk_put (cs:=#[.int .i64 0, .int .i64 0]) ?_ 0 _ rfl;(with_reducible repeat (first|refine blk_drewN ?_ _|refine blk_drew ?_|refine blk_alloc ?_ _));exact BK109.out⟩,⟨hb2_ HB.out GE106.out GE109.out⟩⟩
    clear HC12;(try clear c1);(try clear p1);(try clear q1);(try clear hx1);(try clear c2);(try clear p2);(try clear c3);(try clear c4);(try clear c4b0);(try clear c4b1);(try clear c5);(try clear c9);(try clear c9b0);(try clear c10);(try clear c10b0);(try clear p10);(try clear q10);(try clear hx10);(try clear c11);(try clear c11b0);(try clear c14);(try clear c16);(try clear c16b0);(try clear c17);(try clear c19);(try clear c19b0);(try clear c20);(try clear c22);(try clear c22b0);(try clear c23);(try clear c25);(try clear hcz15_0);(try clear hcz15_1);(try clear hcz18_0);(try clear hcz18_1);(try clear hcz21_0);(try clear hcz21_1);(try clear hcz24_0);(try clear hcz24_1);(try clear hcz26_0);(try clear hcz26_1);(try clear hcz6_0);(try clear hcz6_1);(try clear hcz6_0);(try clear hcz6_1);(try clear hfz15_0);(try clear hfz15_1);(try clear hfz18_0);(try clear hfz18_1);(try clear hfz21_0);(try clear hfz21_1);(try clear hfz24_0);(try clear hfz24_1);(try clear hfz26_0);(try clear hfz26_1);(try clear hfz6_0);(try clear hfz6_1);(try clear hfz6_0);(try clear hfz6_1);(try clear hx108_0);(try clear hx108_1);(try clear p108);(try clear p2);(try clear q108);obtain ⟨kq, x22_11, rfl, HA, HJ11, BK106, BK109, HB⟩:=hcut;obtain _|kj11:=kq
    ·exact absurd HA.out (by simp [offer_Check.j1])
    have H:=HA.out;clear HA;simp only [offer_Check.j1] at H
    by_cases c27 : x22_11 = true
    ·subst c27
     have H1 : (some 4) = some r:=by rw [if_pos rfl] at H;exact H
     clear H;have H:=H1;clear H1;obtain rfl:=Option.some.inj H;go_wp2
     repeat (go_quiet (fail);try go_wp2)
     go_ret
     exact ⟨er_, hb2_ HB.out GE106.out GE109.out⟩
    ·replace c27:=Bool.eq_false_iff.mpr c27
     subst c27;have H1 : (if x17_1 > 0 then (if 0 ≤ (wrap64 (x17_1 - 1)) then (if (wrap64 (x17_1 - 1)) < (l0_1.length : Int) then (offer_Check.j2 kj11 x3_1 l0_1 (l0_1.length : Int) x17_1 (decide (((rd_T116 l0_1 x17_1).f1) < ((rd_T116 l0_1 (wrap64 (x17_1 - 1))).f1))) a0_0 l0_1 ((rd_T116 l0_1 x17_1).f0) ((rd_T116 l0_1 x17_1).f1)) else (none)) else (none)) else (offer_Check.j2 kj11 x3_1 l0_1 (l0_1.length : Int) x17_1 false a0_0 l0_1 ((rd_T116 l0_1 x17_1).f0) ((rd_T116 l0_1 x17_1).f1))) = some r:=by rw [if_neg (show ¬ (false = true) by decide)] at H;exact H
     clear H;have H:=H1;clear H1;have HC28:=k0_ H;clear H
     go_upto_region 11 with (fail)
     repeat (go_quiet (fail);go_upto_region 11 with (fail))
     go_cut [41] (fun v41 wc=>∃ (kq : Nat) (x41_27 : Bool), v41 = .bool x41_27∧Aside0 (offer_Check.j2 kq x3_1 l0_1 (l0_1.length : Int) x17_1 x41_27 a0_0 l0_1 ((rd_T116 l0_1 x17_1).f0) ((rd_T116 l0_1 x17_1).f1) = some r)∧Aside0 (kq ≤ kj11)∧Aside0 (wc.heap[gb106]? = some (.cells #[.string a0_0, (.slice (some ad108) l0_1.length c0_1)] 26 (0, 0)))∧Aside0 (wc.heap[gb109]? = some (.cells #[.int .i64 ((rd_T116 l0_1 x17_1).f0), .int .i64 ((rd_T116 l0_1 x17_1).f1)] 116 (0, 0)))∧Aside0 (Below w.heap.size w wc))
     case first =>
      have H:=HC28.out;clear HC28
      by_cases c29 : x17_1 > 0
      ·rw [if_pos c29] at H
       have c29b0:=decide_eq_true c29;clear c29;(first|rw [c29b0]|(simp only [i64_w, i32_w];rw [c29b0])|skip);obtain ⟨ji30, hji30⟩ : ∃ j_ : Int, (wrap64 (x17_1 - 1)) = j_:=⟨_, rfl⟩;replace H : (if 0 ≤ (ji30) then (if (ji30) < (l0_1.length : Int) then (offer_Check.j2 kj11 x3_1 l0_1 (l0_1.length : Int) x17_1 (decide (((rd_T116 l0_1 x17_1).f1) < ((rd_T116 l0_1 (ji30)).f1))) a0_0 l0_1 ((rd_T116 l0_1 x17_1).f0) ((rd_T116 l0_1 x17_1).f1)) else (none)) else (none)) = some r:=by first|(rw [hji30] at H;exact H)|(simp only [hji30] at H ⊢;exact H)
       have hji30w : (IntKind.i64.wrap (x17_1 - 1)) = ji30:=(i64_w _).trans hji30
       obtain ⟨c31,H⟩:=gi_ H;have c31b0:=decide_eq_true c31;clear c31
       obtain ⟨c32,H⟩:=gi_ H;have c32b0:=decide_eq_true c32;clear c32;have H':=k0_ H;clear H;have hnb33:=NB109_106.out;have hnc33:=NB106_109.out;obtain ⟨hcz34_0,hcz34_1⟩:=bc2_ BK109.out;obtain ⟨hfz34_0,hfz34_1⟩:=bf2_ BK109.out;obtain ⟨hcz35_0,hcz35_1⟩:=bc2_ BK106.out;obtain ⟨hfz35_0,hfz35_1⟩:=bf2_ BK106.out;have p110 : 0 ≤ ((ji30) : Int):=of_decide_eq_true as_;have q110 : (ji30) < (l0_1.length : Int):=of_decide_eq_true as_;obtain ⟨ad110, e110, hx110_0, hx110_1⟩:=at_T116 HR0_1.out (ji30) p110 q110;obtain rfl : ad108 = ad110:=(by injection e110);replace hx110_0:=bt_ HB.out hx110_0;replace hx110_1:=bt_ HB.out hx110_1;replace p110:=eq_true p110;replace q110:=eq_true q110;go_wp2
       repeat (go_quiet (fail);try go_wp2)
       go_meet
       case rel=>exact ⟨_, (decide (((rd_T116 l0_1 x17_1).f1) < ((rd_T116 l0_1 (ji30)).f1))),(by first|rfl|(simp;done)|(simp only [← hji30] <;> (first|rfl|simp))|(simp [*];done)), H', ⟨by have:=HK1.out;have:=HJ11.out;first|omega|exact Nat.le_refl _⟩,⟨bq_ BK106.out⟩,⟨bq_ BK109.out⟩,⟨hb2_ HB.out GE106.out GE109.out⟩⟩
      ·rw [if_neg c29] at H
       have c29b0:=decide_eq_false c29;clear c29;(first|rw [c29b0]|(simp only [i64_w, i32_w];rw [c29b0])|skip);have H':=k0_ H;clear H;go_wp2
       repeat (go_quiet (fail);try go_wp2)
       go_meet
       case rel=>exact ⟨_, (false),rs_, H', ⟨by have:=HK1.out;have:=HJ11.out;first|omega|exact Nat.le_refl _⟩,⟨bq_ BK106.out⟩,⟨bq_ BK109.out⟩,⟨hb2_ HB.out GE106.out GE109.out⟩⟩
     clear HC28;(try clear c1);(try clear p1);(try clear q1);(try clear hx1);(try clear c2);(try clear p2);(try clear c3);(try clear c4);(try clear c4b0);(try clear c4b1);(try clear c5);(try clear p6);(try clear c9);(try clear c9b0);(try clear c10);(try clear c10b0);(try clear p10);(try clear q10);(try clear hx10);(try clear c11);(try clear c11b0);(try clear p11);(try clear q11);(try clear hx11);(try clear c14);(try clear c16);(try clear c16b0);(try clear c17);(try clear c19);(try clear c19b0);(try clear c20);(try clear c22);(try clear c22b0);(try clear c23);(try clear c25);(try clear c27);(try clear c29);(try clear c29b0);(try clear c31);(try clear c31b0);(try clear c32);(try clear c32b0);(try clear c33);(try clear hcz15_0);(try clear hcz15_1);(try clear hcz18_0);(try clear hcz18_1);(try clear hcz21_0);(try clear hcz21_1);(try clear hcz24_0);(try clear hcz24_1);(try clear hcz26_0);(try clear hcz26_1);(try clear hcz34_0);(try clear hcz34_1);(try clear hcz35_0);(try clear hcz35_1);(try clear hcz6_0);(try clear hcz6_1);(try clear hcz6_0);(try clear hcz6_1);(try clear hfz15_0);(try clear hfz15_1);(try clear hfz18_0);(try clear hfz18_1);(try clear hfz21_0);(try clear hfz21_1);(try clear hfz24_0);(try clear hfz24_1);(try clear hfz26_0);(try clear hfz26_1);(try clear hfz34_0);(try clear hfz34_1);(try clear hfz35_0);(try clear hfz35_1);(try clear hfz6_0);(try clear hfz6_1);(try clear hfz6_0);(try clear hfz6_1);(try clear hx108_0);(try clear hx108_1);(try clear hx110_0);(try clear hx110_1);(try clear p1);(try clear p10);(try clear p108);(try clear p110);(try clear p2);(try clear q1);(try clear q10);(try clear q108);(try clear q110);obtain ⟨kq, x41_27, rfl, HA, HJ27, BK106, BK109, HB⟩:=hcut;obtain _|kj27:=kq
     ·exact absurd HA.out (by simp [offer_Check.j2])
     have H:=HA.out;clear HA;simp only [offer_Check.j2] at H
     by_cases c36 : x41_27 = true
     ·subst c36
      have H1 : (some 3) = some r:=by rw [if_pos rfl] at H;exact H
      clear H;have H:=H1;clear H1;obtain rfl:=Option.some.inj H;go_wp2
      repeat (go_quiet (fail);try go_wp2)
      go_ret
      exact ⟨er_, hb2_ HB.out GE106.out GE109.out⟩
     ·replace c36:=Bool.eq_false_iff.mpr c36
      subst c36;have H1 : (if (wrap64 (x3_1 + ((rd_T116 l0_1 x17_1).f0))) > 100000 then (some 2) else (offer_Check.l0 kj27 (wrap64 (x3_1 + ((rd_T116 l0_1 x17_1).f0))) l0_1 (l0_1.length : Int) (wrap64 (x17_1 + 1)) a0_0 l0_1)) = some r:=by rw [if_neg (show ¬ (false = true) by decide)] at H;exact H
      clear H;have H:=H1;clear H1
      by_cases c37 : (wrap64 (x3_1 + ((rd_T116 l0_1 x17_1).f0))) > 100000
      rw [if_pos c37] at H;have c37b0:=decide_eq_true c37;clear c37;obtain rfl:=Option.some.inj H;rotate_left;rw [if_neg c37] at H;have c37b0:=decide_eq_false c37;clear c37;have H':=k0_ H;clear H;rotate_left
      all_goals
       have hnb38:=NB109_106.out;have hnc38:=NB106_109.out;obtain ⟨hcz39_0,hcz39_1⟩:=bc2_ BK109.out;obtain ⟨hfz39_0,hfz39_1⟩:=bf2_ BK109.out;go_wp2
       repeat (go_quiet (fail);try go_wp2)
      ·go_ret
       exact ⟨er_, hb2_ HB.out GE106.out GE109.out⟩
      ·go_roundg kj27
       case measure=>have:=HK1.out;have:=HJ11.out;have:=HJ27.out;omega
       case rel=>exact ⟨(wrap64 (x3_1 + ((rd_T116 l0_1 x17_1).f0))),(wrap64 (x17_1 + 1)),rs_,rs_, H', ⟨by have:=HK1.out;have:=HJ11.out;have:=HJ27.out;omega⟩,⟨bq_ BK106.out⟩,⟨hb2_ HB.out GE106.out GE109.out⟩⟩
   ·rw [if_neg c9] at H
    have c9b0:=decide_eq_false c9;clear c9;obtain rfl:=Option.some.inj H;go_wp2
    repeat (go_quiet (fail);try go_wp2)
    go_ret
    exact ⟨er_, hb1_ HB.out GE106.out⟩
 ·replace c3:=Bool.eq_false_iff.mpr c3
  subst c3;have H1 : (some 6) = some r:=by rw [if_neg (show ¬ (false = true) by decide)] at H;exact H
  clear H;have H:=H1;clear H1;obtain rfl:=Option.some.inj H
  go_enter Try.func53, Try.ntmps53
  go_wp2_with (first|((with_reducible refine gate_dst (N:=1) rfl ?_);refine box_event ?hg (N:=1) ?hd (cs:=#[.string a0_0, .slice A0_1 l0_1.length c0_1]) (t:=26) ?hr ?_;(case hd=>rfl);(case hg=>rfl);(case hr=>first|(go_simp;done)|(go_simp;rfl));intro gb106 hg w42 hbox hb;have BK106:=k0_ (hbox);have GW106:=k0_ ((by rw [hg];exact (below_size (hb0_ HB.out)) : w.heap.size ≤ gb106));have GE106:=k0_ ((by rw [hg];exact (below_size (hb0_ HB.out)) : w.heap.size ≤ gb106));replace HB:=k0_ (below_step (hb0_ HB.out) hb);clear hb hbox hg;obtain ⟨hcz43_0,hcz43_1⟩:=bc2_ BK106.out;obtain ⟨hfz43_0,hfz43_1⟩:=bf2_ BK106.out)|(go_at_call 86;(with_reducible refine (offer_named.calls k a0_0 false _ A2.out).mono ?_);rintro e w' ⟨rfl, ⟨nd, rfl⟩⟩;(try first|exact ⟨rfl, _, World.drewN_drewN _ _ _⟩|exact ⟨rfl, _, Eq.trans (World.drewN_drewN _ _ _) (congrArg (World.drewN _) (Nat.add_assoc _ _ _))⟩)))
  repeat (go_quiet (first|((with_reducible refine gate_dst (N:=1) rfl ?_);refine box_event ?hg (N:=1) ?hd (cs:=#[.string a0_0, .slice A0_1 l0_1.length c0_1]) (t:=26) ?hr ?_;(case hd=>rfl);(case hg=>rfl);(case hr=>first|(go_simp;done)|(go_simp;rfl));intro gb106 hg w42 hbox hb;have BK106:=k0_ (hbox);have GW106:=k0_ ((by rw [hg];exact (below_size (hb0_ HB.out)) : w.heap.size ≤ gb106));have GE106:=k0_ ((by rw [hg];exact (below_size (hb0_ HB.out)) : w.heap.size ≤ gb106));replace HB:=k0_ (below_step (hb0_ HB.out) hb);clear hb hbox hg;obtain ⟨hcz43_0,hcz43_1⟩:=bc2_ BK106.out;obtain ⟨hfz43_0,hfz43_1⟩:=bf2_ BK106.out)|(go_at_call 86;(with_reducible refine (offer_named.calls k a0_0 false _ A2.out).mono ?_);rintro e w' ⟨rfl, ⟨nd, rfl⟩⟩;(try first|exact ⟨rfl, _, World.drewN_drewN _ _ _⟩|exact ⟨rfl, _, Eq.trans (World.drewN_drewN _ _ _) (congrArg (World.drewN _) (Nat.add_assoc _ _ _))⟩)));try go_wp2_with (first|((with_reducible refine gate_dst (N:=1) rfl ?_);refine box_event ?hg (N:=1) ?hd (cs:=#[.string a0_0, .slice A0_1 l0_1.length c0_1]) (t:=26) ?hr ?_;(case hd=>rfl);(case hg=>rfl);(case hr=>first|(go_simp;done)|(go_simp;rfl));intro gb106 hg w42 hbox hb;have BK106:=k0_ (hbox);have GW106:=k0_ ((by rw [hg];exact (below_size (hb0_ HB.out)) : w.heap.size ≤ gb106));have GE106:=k0_ ((by rw [hg];exact (below_size (hb0_ HB.out)) : w.heap.size ≤ gb106));replace HB:=k0_ (below_step (hb0_ HB.out) hb);clear hb hbox hg;obtain ⟨hcz43_0,hcz43_1⟩:=bc2_ BK106.out;obtain ⟨hfz43_0,hfz43_1⟩:=bf2_ BK106.out)|(go_at_call 86;(with_reducible refine (offer_named.calls k a0_0 false _ A2.out).mono ?_);rintro e w' ⟨rfl, ⟨nd, rfl⟩⟩;(try first|exact ⟨rfl, _, World.drewN_drewN _ _ _⟩|exact ⟨rfl, _, Eq.trans (World.drewN_drewN _ _ _) (congrArg (World.drewN _) (Nat.add_assoc _ _ _))⟩))))
  go_ret
  exact ⟨er_, hb1_ HB.out GE106.out⟩

/-! ### offer_Most: function 54 -/
def offer_Most.l0 : Nat → Int → List (S116) → Int → Int → Option (Int)
 | 0, _, _, _, _ => none
 | k + 1, x3, x7, x8, x9 => if x9 < x8 then (if 0 ≤ x9 then (if x9 < (x7.length : Int) then (offer_Most.l0 k (wrap64 (x3 + ((rd_T116 x7 x9).f0))) x7 x8 (wrap64 (x9 + 1))) else (none)) else (none)) else (some x3)
def offer_Most.f (k : Nat) (a0_0 : ByteArray) (l0_1 : List (S116)) : Option (Int) := offer_Most.l0 k 0 l0_1 (l0_1.length : Int) 0
theorem offer_Most.mono_l : ∀ k, (∀ y0 y1 y2 y3, LeO (offer_Most.l0 k y0 y1 y2 y3) (offer_Most.l0 (k + 1) y0 y1 y2 y3))
 | 0 => fun _ _ _ _ r h => by simp [offer_Most.l0] at h
 | k + 1 => by
  have ih0:=offer_Most.mono_l k
  ·intro y0 y1 y2 y3
   unfold offer_Most.l0
   repeat' first|(with_reducible first|exact ih0 _ _ _ _|exact LeO.refl _|exact LeO.none _|refine LeO.ite ?_ ?_|refine LeO.bind ?_ (fun _=>?_))|exact ih0 _ _ _ _|exact LeO.none _|refine LeO.ite ?_ ?_|refine LeO.bind ?_ (fun _=>?_)
theorem offer_Most.mono : ∀ a0 a1 k, LeO (offer_Most.f k a0 a1) (offer_Most.f (k + 1) a0 a1) := by
 intro a0 a1 k
 have ih0:=offer_Most.mono_l k
 unfold offer_Most.f
 repeat' first|(with_reducible first|exact ih0 _ _ _ _|exact LeO.refl _|exact LeO.none _|refine LeO.ite ?_ ?_|refine LeO.bind ?_ (fun _=>?_))|exact ih0 _ _ _ _|exact LeO.none _|refine LeO.ite ?_ ?_|refine LeO.bind ?_ (fun _=>?_)
set_option maxHeartbeats 8000000 in
set_option maxRecDepth 100000 in
theorem offer_Most.calls (k : Nat) (a0_0 : ByteArray) (A0_1 : Option Addr) (c0_1 : Nat) (l0_1 : List (S116)) (r : Int) (w : World) (hr0_1 : Kd.C k116 w A0_1 l0_1.length l0_1) (hc0_1 : l0_1.length ≤ c0_1) (h : offer_Most.f k a0_0 l0_1 = some r) :
  Calls Try.prog 54 #[.agg #[.string a0_0, .slice A0_1 l0_1.length c0_1]] w fun e w' => e = .returned (.int .i64 r) ∧ Below w.heap.size w w' := by
 have hu26:=Try.underlying26;have hu116:=Try.underlying116;have HR0_1:=k0_ hr0_1;have HC0_1:=k0_ hc0_1;clear hr0_1 hc0_1;have HB:=k0_ (Below.refl w.heap.size w);have H : (offer_Most.l0 k 0 l0_1 (l0_1.length : Int) 0) = some r:=h;clear h;have H':=k0_ H;clear H
 go_enter Try.func54, Try.ntmps54
 go_wp2_with (first|((with_reducible refine gate_dst (N:=1) rfl ?_);refine box_event ?hg (N:=1) ?hd (cs:=#[.string a0_0, .slice A0_1 l0_1.length c0_1]) (t:=26) ?hr ?_;(case hd=>rfl);(case hg=>rfl);(case hr=>first|(go_simp;done)|(go_simp;rfl));intro gb111 hg w2 hbox hb;have BK111:=k0_ (hbox);have GW111:=k0_ ((by rw [hg];exact (below_size (hb0_ HB.out)) : w.heap.size ≤ gb111));have GE111:=k0_ ((by rw [hg];exact (below_size (hb0_ HB.out)) : w.heap.size ≤ gb111));replace HB:=k0_ (below_step (hb0_ HB.out) hb);clear hb hbox hg;obtain ⟨hcz3_0,hcz3_1⟩:=bc2_ BK111.out;obtain ⟨hfz3_0,hfz3_1⟩:=bf2_ BK111.out))
 (try simp only [Act.put, q1_,q3_,q2_])
 go_loopg [3, 9] k (fun kq v3 v9 w'=>∃ (x3_1 : Int) (x9_1 : Int), v3 = .int .i64 x3_1∧v9 = .int .i64 x9_1∧Aside0 (offer_Most.l0 kq x3_1 l0_1 (l0_1.length : Int) x9_1 = some r)∧Aside0 (kq ≤ k)∧Aside0 (w'.heap[gb111]? = some (.cells #[.string a0_0, (.slice A0_1 l0_1.length c0_1)] 26 (0, 0)))∧Aside0 (Below w.heap.size w w'))
 case atStart=>exact ⟨(0),(0),rs_,rs_, H', ⟨Nat.le_refl _⟩,⟨bq_ BK111.out⟩,⟨hb1_ HB.out GE111.out⟩⟩
 clear H';(try clear p2);(try clear hcz3_0);(try clear hcz3_1);(try clear hfz3_0);(try clear hfz3_1);obtain ⟨x3_1, x9_1, rfl, rfl, HA, HK1, BK111, HB⟩:=hrel;obtain _|k1:=gk
 ·exact absurd HA.out (by simp [offer_Most.l0])
 have H:=HA.out;clear HA;simp only [offer_Most.l0] at H
 by_cases c4 : x9_1 < (l0_1.length : Int)
 ·rw [if_pos c4] at H
  have c4b0:=decide_eq_true c4;clear c4
  obtain ⟨c5,H⟩:=gi_ H;have c5b0:=decide_eq_true c5;clear c5
  obtain ⟨c6,H⟩:=gi_ H;have c6b0:=decide_eq_true c6;clear c6;have H':=k0_ H;clear H;have p112 : 0 ≤ (x9_1 : Int):=of_decide_eq_true as_;have q112 : x9_1 < (l0_1.length : Int):=of_decide_eq_true as_;obtain ⟨ad112, e112, hx112_0, hx112_1⟩:=at_T116 HR0_1.out x9_1 p112 q112;cases e112;replace hx112_0:=bt_ HB.out hx112_0;replace hx112_1:=bt_ HB.out hx112_1;replace p112:=eq_true p112;replace q112:=eq_true q112
  go_wp2_with (first|((with_reducible refine gate_dst (N:=5) rfl ?_);refine box_event ?hg (N:=5) ?hd (cs:=#[.int .i64 0, .int .i64 0]) (t:=116) ?hr ?_;(case hd=>rfl);(case hg=>rfl);(case hr=>first|(go_simp;done)|(go_simp;rfl));intro gb113 hg w7 hbox hb;have BK113:=k0_ (hbox);have GW113:=k0_ ((by rw [hg];exact (below_size (hb1_ HB.out GE111.out)) : w.heap.size ≤ gb113));have GE113:=k0_ ((by rw [hg];exact (below_size (hb1_ HB.out GE111.out)) : w.heap.size ≤ gb113));replace HB:=k0_ (below_step (hb1_ HB.out GE111.out) hb);have NB111_113:=k0_ ((by rw [hg];exact Nat.ne_of_lt (blk_lt (g:=gb111) (o:=.cells #[.string a0_0, .slice (some ad112) l0_1.length c0_1] 26 (0, 0)) (bq_ BK111.out)) : gb111 ≠ gb113));have NB113_111:=k0_ ((by rw [hg];exact Nat.ne_of_gt (blk_lt (g:=gb111) (o:=.cells #[.string a0_0, .slice (some ad112) l0_1.length c0_1] 26 (0, 0)) (bq_ BK111.out)) : gb113 ≠ gb111));replace BK111:=k0_ (blk_below (g:=gb111) (o:=.cells #[.string a0_0, .slice (some ad112) l0_1.length c0_1] 26 (0, 0)) (bq_ BK111.out) hb);clear hb hbox hg;have hnb8:=NB113_111.out;have hnc8:=NB111_113.out;obtain ⟨hcz9_0,hcz9_1⟩:=bc2_ BK113.out;obtain ⟨hfz9_0,hfz9_1⟩:=bf2_ BK113.out))
  go_roundg k1
  case measure=>have:=HK1.out;omega
  case rel=>exact ⟨(wrap64 (x3_1 + ((rd_T116 l0_1 x9_1).f0))),(wrap64 (x9_1 + 1)),rs_,rs_, H', ⟨by have:=HK1.out;omega⟩,⟨by (with_reducible repeat (first|refine blk_drewN ?_ _|refine blk_drew ?_|refine blk_alloc ?_ _));refine blk_far ?_ NB111_113.out _;(with_reducible repeat (first|refine blk_drewN ?_ _|refine blk_drew ?_|refine blk_alloc ?_ _));refine blk_far ?_ NB111_113.out _;(with_reducible repeat (first|refine blk_drewN ?_ _|refine blk_drew ?_|refine blk_alloc ?_ _));exact BK111.out⟩,⟨hb2_ HB.out GE111.out GE113.out⟩⟩
 ·rw [if_neg c4] at H
  have c4b0:=decide_eq_false c4;clear c4;obtain rfl:=Option.some.inj H;go_wp2
  go_ret
  exact ⟨er_, hb1_ HB.out GE111.out⟩

end Go.Proofs.Ytdgjelbkogfedaa.PDualSingle
