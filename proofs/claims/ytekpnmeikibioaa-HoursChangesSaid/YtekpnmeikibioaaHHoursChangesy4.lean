/- Contracts of functions that HoursChanges reaches, a text of this session's own. -/
import Derived.Test.YtekpnmeikibioaaBox2
import Derived.Test.YtekpnmeikibioaaHHoursChangesy0
import Derived.Test.YtekpnmeikibioaaHHoursChangesy3
namespace Go.Proofs.Ytekpnmeikibioaa.PHoursChanges
open Go.RowKit Go.Proofs.YtekpnmeikibioaaW.PrintWords Go.Proofs.YtekpnmeikibioaaW.PrintLast Go.Proofs.YtekpnmeikibioaaW.PrintMore
attribute [local go_sem] max2_int min2_int max_two min_two max_three min_three max_four min_four   -- for this text's walks alone
set_option linter.unusedVariables false
set_option linter.unusedSimpArgs false

/-! ### offer_Check: function 59 -/
mutual
def offer_Check.l0 : Nat → Int → List (S41) → Int → Int → ByteArray → List (S41) → Option (Int)
 | 0, _, _, _, _, _, _ => none
 | k + 1, x3, x15, x16, x17, x163000, x163001 => if x17 < x16 then (if 0 ≤ x17 then (if x17 < (x15.length : Int) then (if ((rd_T41 x15 x17).f0) < 1 then (offer_Check.j1 k x3 x17 x15 x16 x17 true x163000 x163001 ((rd_T41 x15 x17).f0) ((rd_T41 x15 x17).f1)) else (if ((rd_T41 x15 x17).f0) > 100000 then (offer_Check.j1 k x3 x17 x15 x16 x17 true x163000 x163001 ((rd_T41 x15 x17).f0) ((rd_T41 x15 x17).f1)) else (if ((rd_T41 x15 x17).f1) < (-1000000) then (offer_Check.j1 k x3 x17 x15 x16 x17 true x163000 x163001 ((rd_T41 x15 x17).f0) ((rd_T41 x15 x17).f1)) else (offer_Check.j1 k x3 x17 x15 x16 x17 (decide (((rd_T41 x15 x17).f1) > 1000000)) x163000 x163001 ((rd_T41 x15 x17).f0) ((rd_T41 x15 x17).f1))))) else (none)) else (none)) else (some 0)
def offer_Check.j1 : Nat → Int → Int → List (S41) → Int → Int → Bool → ByteArray → List (S41) → Int → Int → Option (Int)
 | 0, _, _, _, _, _, _, _, _, _, _ => none
 | k + 1, x3, x4, x15, x16, x17, x22, x163000, x163001, x166000, x166001 => if x22 = true then (some 4) else (if x4 > 0 then (if 0 ≤ (wrap64 (x4 - 1)) then (if (wrap64 (x4 - 1)) < (x163001.length : Int) then (offer_Check.j2 k x3 x15 x16 x17 (decide (x166001 < ((rd_T41 x163001 (wrap64 (x4 - 1))).f1))) x163000 x163001 x166000 x166001) else (none)) else (none)) else (offer_Check.j2 k x3 x15 x16 x17 false x163000 x163001 x166000 x166001))
def offer_Check.j2 : Nat → Int → List (S41) → Int → Int → Bool → ByteArray → List (S41) → Int → Int → Option (Int)
 | 0, _, _, _, _, _, _, _, _, _ => none
 | k + 1, x3, x15, x16, x17, x41, x163000, x163001, x166000, x166001 => if x41 = true then (some 3) else (if (wrap64 (x3 + x166000)) > 100000 then (some 2) else (offer_Check.l0 k (wrap64 (x3 + x166000)) x15 x16 (wrap64 (x17 + 1)) x163000 x163001))
end
def offer_Check.f (k : Nat) (a0_0 : ByteArray) (l0_1 : List (S41)) : Option (Int) := (offer_named.f k a0_0).bind fun t163 => (if t163 = true then (if (l0_1.length : Int) > 12 then (some 2) else (offer_Check.l0 k 0 l0_1 (l0_1.length : Int) 0 a0_0 l0_1)) else (some 6))
theorem offer_Check.mono_l : ∀ k, (∀ y0 y1 y2 y3 y4 y5, LeO (offer_Check.l0 k y0 y1 y2 y3 y4 y5) (offer_Check.l0 (k + 1) y0 y1 y2 y3 y4 y5)) ∧ (∀ y0 y1 y2 y3 y4 y5 y6 y7 y8 y9, LeO (offer_Check.j1 k y0 y1 y2 y3 y4 y5 y6 y7 y8 y9) (offer_Check.j1 (k + 1) y0 y1 y2 y3 y4 y5 y6 y7 y8 y9)) ∧ (∀ y0 y1 y2 y3 y4 y5 y6 y7 y8, LeO (offer_Check.j2 k y0 y1 y2 y3 y4 y5 y6 y7 y8) (offer_Check.j2 (k + 1) y0 y1 y2 y3 y4 y5 y6 y7 y8))
 | 0 => ⟨fun _ _ _ _ _ _ r h => by simp [offer_Check.l0] at h, fun _ _ _ _ _ _ _ _ _ _ r h => by simp [offer_Check.j1] at h, fun _ _ _ _ _ _ _ _ _ r h => by simp [offer_Check.j2] at h⟩
 | k + 1 => by
  obtain ⟨ih0, ih1, ih2⟩:=offer_Check.mono_l k
  refine ⟨?_, ?_, ?_⟩
  ·intro y0 y1 y2 y3 y4 y5
   unfold offer_Check.l0
   repeat' first|(with_reducible first|exact ih0 _ _ _ _ _ _|exact ih1 _ _ _ _ _ _ _ _ _ _|exact ih2 _ _ _ _ _ _ _ _ _|exact offer_named.mono _ _|exact LeO.refl _|exact LeO.none _|refine LeO.ite ?_ ?_|refine LeO.bind ?_ (fun _=>?_))|exact ih0 _ _ _ _ _ _|exact ih1 _ _ _ _ _ _ _ _ _ _|exact ih2 _ _ _ _ _ _ _ _ _|exact offer_named.mono _ _|exact LeO.none _|refine LeO.ite ?_ ?_|refine LeO.bind ?_ (fun _=>?_)
  ·intro y0 y1 y2 y3 y4 y5 y6 y7 y8 y9
   unfold offer_Check.j1
   repeat' first|(with_reducible first|exact ih0 _ _ _ _ _ _|exact ih1 _ _ _ _ _ _ _ _ _ _|exact ih2 _ _ _ _ _ _ _ _ _|exact offer_named.mono _ _|exact LeO.refl _|exact LeO.none _|refine LeO.ite ?_ ?_|refine LeO.bind ?_ (fun _=>?_))|exact ih0 _ _ _ _ _ _|exact ih1 _ _ _ _ _ _ _ _ _ _|exact ih2 _ _ _ _ _ _ _ _ _|exact offer_named.mono _ _|exact LeO.none _|refine LeO.ite ?_ ?_|refine LeO.bind ?_ (fun _=>?_)
  ·intro y0 y1 y2 y3 y4 y5 y6 y7 y8
   unfold offer_Check.j2
   repeat' first|(with_reducible first|exact ih0 _ _ _ _ _ _|exact ih1 _ _ _ _ _ _ _ _ _ _|exact ih2 _ _ _ _ _ _ _ _ _|exact offer_named.mono _ _|exact LeO.refl _|exact LeO.none _|refine LeO.ite ?_ ?_|refine LeO.bind ?_ (fun _=>?_))|exact ih0 _ _ _ _ _ _|exact ih1 _ _ _ _ _ _ _ _ _ _|exact ih2 _ _ _ _ _ _ _ _ _|exact offer_named.mono _ _|exact LeO.none _|refine LeO.ite ?_ ?_|refine LeO.bind ?_ (fun _=>?_)
theorem offer_Check.mono : ∀ a0 a1 k, LeO (offer_Check.f k a0 a1) (offer_Check.f (k + 1) a0 a1) := by
 intro a0 a1 k
 obtain ⟨ih0, ih1, ih2⟩:=offer_Check.mono_l k
 unfold offer_Check.f
 repeat' first|(with_reducible first|exact ih0 _ _ _ _ _ _|exact ih1 _ _ _ _ _ _ _ _ _ _|exact ih2 _ _ _ _ _ _ _ _ _|exact offer_named.mono _ _|exact LeO.refl _|exact LeO.none _|refine LeO.ite ?_ ?_|refine LeO.bind ?_ (fun _=>?_))|exact ih0 _ _ _ _ _ _|exact ih1 _ _ _ _ _ _ _ _ _ _|exact ih2 _ _ _ _ _ _ _ _ _|exact offer_named.mono _ _|exact LeO.none _|refine LeO.ite ?_ ?_|refine LeO.bind ?_ (fun _=>?_)
set_option maxHeartbeats 8000000 in
set_option maxRecDepth 100000 in
theorem offer_Check.calls (k : Nat) (a0_0 : ByteArray) (A0_1 : Option Addr) (c0_1 : Nat) (l0_1 : List (S41)) (r : Int) (w : World) (hr0_1 : Kd.C k41 w A0_1 l0_1.length l0_1) (hc0_1 : l0_1.length ≤ c0_1) (h : offer_Check.f k a0_0 l0_1 = some r) :
  Calls Try.prog 59 #[.agg #[.string a0_0, .slice A0_1 l0_1.length c0_1]] w fun e w' => e = .returned (.int .i64 r) ∧ Below w.heap.size w w' := by
 have hu29:=Try.underlying29;have hu41:=Try.underlying41;have HR0_1:=k0_ hr0_1;have HC0_1:=k0_ hc0_1;clear hr0_1 hc0_1;have HB:=k0_ (Below.refl w.heap.size w);have H : ((offer_named.f k a0_0).bind fun t163=>(if t163 = true then (if (l0_1.length : Int) > 12 then (some 2) else (offer_Check.l0 k 0 l0_1 (l0_1.length : Int) 0 a0_0 l0_1)) else (some 6))) = some r:=h;clear h;replace H:=Option.bind_eq_some_iff.mp H;obtain ⟨t163, A20, H⟩:=H;replace H : (if t163 = true then (if (l0_1.length : Int) > 12 then (some 2) else (offer_Check.l0 k 0 l0_1 (l0_1.length : Int) 0 a0_0 l0_1)) else (some 6)) = some r:=H;have A2:=k0_ A20;clear A20
 by_cases c3 : t163 = true
 ·subst c3
  have H1 : (if (l0_1.length : Int) > 12 then (some 2) else (offer_Check.l0 k 0 l0_1 (l0_1.length : Int) 0 a0_0 l0_1)) = some r:=by rw [if_pos rfl] at H;exact H
  clear H;have H:=H1;clear H1
  by_cases c4 : (l0_1.length : Int) > 12
  rw [if_pos c4] at H;have c4b0:=decide_eq_true c4;have c4b1 : decide (12 < l0_1.length) = true:=decide_eq_true (by omega);clear c4;obtain rfl:=Option.some.inj H;rotate_left;rw [if_neg c4] at H;have c4b0:=decide_eq_false c4;have c4b1 : decide (12 < l0_1.length) = false:=decide_eq_false (by omega);clear c4;have H':=k0_ H;clear H;rotate_left
  all_goals
   go_enter Try.func59, Try.ntmps59
   go_wp2_with (first|((with_reducible refine gate_dst (N:=1) rfl ?_);refine box_event ?hg (N:=1) ?hd (cs:=#[.string a0_0, .slice A0_1 l0_1.length c0_1]) (t:=29) ?hr ?_;(case hd=>rfl);(case hg=>rfl);(case hr=>first|(go_simp;done)|(go_simp;rfl));intro gb162 hg w5 hbox hb;have BK162:=k0_ (hbox);have GW162:=k0_ ((by rw [hg];exact (below_size (hb0_ HB.out)) : w.heap.size ≤ gb162));have GE162:=k0_ ((by rw [hg];exact (below_size (hb0_ HB.out)) : w.heap.size ≤ gb162));replace HB:=k0_ (below_step (hb0_ HB.out) hb);clear hb hbox hg;obtain ⟨hcz6_0,hcz6_1⟩:=bc2_ BK162.out;obtain ⟨hfz6_0,hfz6_1⟩:=bf2_ BK162.out)|(go_at_call 68;(with_reducible refine (offer_named.calls k a0_0 true _ A2.out).mono ?_);rintro e w' ⟨rfl, ⟨nd, rfl⟩⟩;(try first|exact ⟨rfl, _, World.drewN_drewN _ _ _⟩|exact ⟨rfl, _, Eq.trans (World.drewN_drewN _ _ _) (congrArg (World.drewN _) (Nat.add_assoc _ _ _))⟩)))
   repeat (go_quiet (first|((with_reducible refine gate_dst (N:=1) rfl ?_);refine box_event ?hg (N:=1) ?hd (cs:=#[.string a0_0, .slice A0_1 l0_1.length c0_1]) (t:=29) ?hr ?_;(case hd=>rfl);(case hg=>rfl);(case hr=>first|(go_simp;done)|(go_simp;rfl));intro gb162 hg w5 hbox hb;have BK162:=k0_ (hbox);have GW162:=k0_ ((by rw [hg];exact (below_size (hb0_ HB.out)) : w.heap.size ≤ gb162));have GE162:=k0_ ((by rw [hg];exact (below_size (hb0_ HB.out)) : w.heap.size ≤ gb162));replace HB:=k0_ (below_step (hb0_ HB.out) hb);clear hb hbox hg;obtain ⟨hcz6_0,hcz6_1⟩:=bc2_ BK162.out;obtain ⟨hfz6_0,hfz6_1⟩:=bf2_ BK162.out)|(go_at_call 68;(with_reducible refine (offer_named.calls k a0_0 true _ A2.out).mono ?_);rintro e w' ⟨rfl, ⟨nd, rfl⟩⟩;(try first|exact ⟨rfl, _, World.drewN_drewN _ _ _⟩|exact ⟨rfl, _, Eq.trans (World.drewN_drewN _ _ _) (congrArg (World.drewN _) (Nat.add_assoc _ _ _))⟩)));try go_wp2_with (first|((with_reducible refine gate_dst (N:=1) rfl ?_);refine box_event ?hg (N:=1) ?hd (cs:=#[.string a0_0, .slice A0_1 l0_1.length c0_1]) (t:=29) ?hr ?_;(case hd=>rfl);(case hg=>rfl);(case hr=>first|(go_simp;done)|(go_simp;rfl));intro gb162 hg w5 hbox hb;have BK162:=k0_ (hbox);have GW162:=k0_ ((by rw [hg];exact (below_size (hb0_ HB.out)) : w.heap.size ≤ gb162));have GE162:=k0_ ((by rw [hg];exact (below_size (hb0_ HB.out)) : w.heap.size ≤ gb162));replace HB:=k0_ (below_step (hb0_ HB.out) hb);clear hb hbox hg;obtain ⟨hcz6_0,hcz6_1⟩:=bc2_ BK162.out;obtain ⟨hfz6_0,hfz6_1⟩:=bf2_ BK162.out)|(go_at_call 68;(with_reducible refine (offer_named.calls k a0_0 true _ A2.out).mono ?_);rintro e w' ⟨rfl, ⟨nd, rfl⟩⟩;(try first|exact ⟨rfl, _, World.drewN_drewN _ _ _⟩|exact ⟨rfl, _, Eq.trans (World.drewN_drewN _ _ _) (congrArg (World.drewN _) (Nat.add_assoc _ _ _))⟩))))
  ·go_ret
   exact ⟨er_, hb1_ HB.out GE162.out⟩
  ·try simp only [Act.put, q1_,q3_,q2_]
   go_loopg [3, 17] k (fun kq v3 v17 w'=>∃ (x3_1 : Int) (x17_1 : Int), v3 = .int .i64 x3_1∧v17 = .int .i64 x17_1∧Aside0 (offer_Check.l0 kq x3_1 l0_1 (l0_1.length : Int) x17_1 a0_0 l0_1 = some r)∧Aside0 (kq ≤ k)∧Aside0 (w'.heap[gb162]? = some (.cells #[.string a0_0, (.slice A0_1 l0_1.length c0_1)] 29 (0, 0)))∧Aside0 (Below w.heap.size w w'))
   case atStart=>exact ⟨(0),(0),rs_,rs_, H', ⟨Nat.le_refl _⟩,⟨bq_ BK162.out⟩,⟨hb1_ HB.out GE162.out⟩⟩
   clear H';(try clear p2);(try clear c3);(try clear c4);(try clear c4b0);(try clear c4b1);(try clear c5);(try clear hcz6_0);(try clear hcz6_1);(try clear hcz6_0);(try clear hcz6_1);(try clear hfz6_0);(try clear hfz6_1);(try clear hfz6_0);(try clear hfz6_1);obtain ⟨x3_1, x17_1, rfl, rfl, HA, HK1, BK162, HB⟩:=hrel;obtain _|k1:=gk
   ·exact absurd HA.out (by simp [offer_Check.l0])
   have H:=HA.out;clear HA;simp only [offer_Check.l0] at H
   by_cases c9 : x17_1 < (l0_1.length : Int)
   ·rw [if_pos c9] at H
    have c9b0:=decide_eq_true c9;clear c9
    obtain ⟨c10,H⟩:=gi_ H;have c10b0:=decide_eq_true c10;clear c10
    obtain ⟨c11,H⟩:=gi_ H;have c11b0:=decide_eq_true c11;clear c11;have HC12:=k0_ H;clear H;have p164 : 0 ≤ (x17_1 : Int):=of_decide_eq_true as_;have q164 : x17_1 < (l0_1.length : Int):=of_decide_eq_true as_;obtain ⟨ad164, e164, hx164_0, hx164_1⟩:=at_T41 HR0_1.out x17_1 p164 q164;cases e164;replace hx164_0:=bt_ HB.out hx164_0;replace hx164_1:=bt_ HB.out hx164_1;replace p164:=eq_true p164;replace q164:=eq_true q164
    go_upto_region 9 with (first|((with_reducible refine gate_dst (N:=5) rfl ?_);refine box_event ?hg (N:=5) ?hd (cs:=#[.int .i64 0, .int .i64 0]) (t:=41) ?hr ?_;(case hd=>rfl);(case hg=>rfl);(case hr=>first|(go_simp;done)|(go_simp;rfl));intro gb165 hg w13 hbox hb;have BK165:=k0_ (hbox);have GW165:=k0_ ((by rw [hg];exact (below_size (hb1_ HB.out GE162.out)) : w.heap.size ≤ gb165));have GE165:=k0_ ((by rw [hg];exact (below_size (hb1_ HB.out GE162.out)) : w.heap.size ≤ gb165));replace HB:=k0_ (below_step (hb1_ HB.out GE162.out) hb);have NB162_165:=k0_ ((by rw [hg];exact Nat.ne_of_lt (blk_lt (g:=gb162) (o:=.cells #[.string a0_0, .slice (some ad164) l0_1.length c0_1] 29 (0, 0)) (bq_ BK162.out)) : gb162 ≠ gb165));have NB165_162:=k0_ ((by rw [hg];exact Nat.ne_of_gt (blk_lt (g:=gb162) (o:=.cells #[.string a0_0, .slice (some ad164) l0_1.length c0_1] 29 (0, 0)) (bq_ BK162.out)) : gb165 ≠ gb162));replace BK162:=k0_ (blk_below (g:=gb162) (o:=.cells #[.string a0_0, .slice (some ad164) l0_1.length c0_1] 29 (0, 0)) (bq_ BK162.out) hb);clear hb hbox hg;have hnb14:=NB165_162.out;have hnc14:=NB162_165.out;obtain ⟨hcz15_0,hcz15_1⟩:=bc2_ BK165.out;obtain ⟨hfz15_0,hfz15_1⟩:=bf2_ BK165.out))
    repeat (go_quiet (first|((with_reducible refine gate_dst (N:=5) rfl ?_);refine box_event ?hg (N:=5) ?hd (cs:=#[.int .i64 0, .int .i64 0]) (t:=41) ?hr ?_;(case hd=>rfl);(case hg=>rfl);(case hr=>first|(go_simp;done)|(go_simp;rfl));intro gb165 hg w13 hbox hb;have BK165:=k0_ (hbox);have GW165:=k0_ ((by rw [hg];exact (below_size (hb1_ HB.out GE162.out)) : w.heap.size ≤ gb165));have GE165:=k0_ ((by rw [hg];exact (below_size (hb1_ HB.out GE162.out)) : w.heap.size ≤ gb165));replace HB:=k0_ (below_step (hb1_ HB.out GE162.out) hb);have NB162_165:=k0_ ((by rw [hg];exact Nat.ne_of_lt (blk_lt (g:=gb162) (o:=.cells #[.string a0_0, .slice (some ad164) l0_1.length c0_1] 29 (0, 0)) (bq_ BK162.out)) : gb162 ≠ gb165));have NB165_162:=k0_ ((by rw [hg];exact Nat.ne_of_gt (blk_lt (g:=gb162) (o:=.cells #[.string a0_0, .slice (some ad164) l0_1.length c0_1] 29 (0, 0)) (bq_ BK162.out)) : gb165 ≠ gb162));replace BK162:=k0_ (blk_below (g:=gb162) (o:=.cells #[.string a0_0, .slice (some ad164) l0_1.length c0_1] 29 (0, 0)) (bq_ BK162.out) hb);clear hb hbox hg;have hnb14:=NB165_162.out;have hnc14:=NB162_165.out;obtain ⟨hcz15_0,hcz15_1⟩:=bc2_ BK165.out;obtain ⟨hfz15_0,hfz15_1⟩:=bf2_ BK165.out));go_upto_region 9 with (first|((with_reducible refine gate_dst (N:=5) rfl ?_);refine box_event ?hg (N:=5) ?hd (cs:=#[.int .i64 0, .int .i64 0]) (t:=41) ?hr ?_;(case hd=>rfl);(case hg=>rfl);(case hr=>first|(go_simp;done)|(go_simp;rfl));intro gb165 hg w13 hbox hb;have BK165:=k0_ (hbox);have GW165:=k0_ ((by rw [hg];exact (below_size (hb1_ HB.out GE162.out)) : w.heap.size ≤ gb165));have GE165:=k0_ ((by rw [hg];exact (below_size (hb1_ HB.out GE162.out)) : w.heap.size ≤ gb165));replace HB:=k0_ (below_step (hb1_ HB.out GE162.out) hb);have NB162_165:=k0_ ((by rw [hg];exact Nat.ne_of_lt (blk_lt (g:=gb162) (o:=.cells #[.string a0_0, .slice (some ad164) l0_1.length c0_1] 29 (0, 0)) (bq_ BK162.out)) : gb162 ≠ gb165));have NB165_162:=k0_ ((by rw [hg];exact Nat.ne_of_gt (blk_lt (g:=gb162) (o:=.cells #[.string a0_0, .slice (some ad164) l0_1.length c0_1] 29 (0, 0)) (bq_ BK162.out)) : gb165 ≠ gb162));replace BK162:=k0_ (blk_below (g:=gb162) (o:=.cells #[.string a0_0, .slice (some ad164) l0_1.length c0_1] 29 (0, 0)) (bq_ BK162.out) hb);clear hb hbox hg;have hnb14:=NB165_162.out;have hnc14:=NB162_165.out;obtain ⟨hcz15_0,hcz15_1⟩:=bc2_ BK165.out;obtain ⟨hfz15_0,hfz15_1⟩:=bf2_ BK165.out)))
    (try simp only [Act.put, q1_,q2_,q3_])
    go_cut [22] (fun v22 wc=>∃ (kq : Nat) (x22_11 : Bool), v22 = .bool x22_11∧Aside0 (offer_Check.j1 kq x3_1 x17_1 l0_1 (l0_1.length : Int) x17_1 x22_11 a0_0 l0_1 ((rd_T41 l0_1 x17_1).f0) ((rd_T41 l0_1 x17_1).f1) = some r)∧Aside0 (kq ≤ k1)∧Aside0 (wc.heap[gb162]? = some (.cells #[.string a0_0, (.slice (some ad164) l0_1.length c0_1)] 29 (0, 0)))∧Aside0 (wc.heap[gb165]? = some (.cells #[.int .i64 ((rd_T41 l0_1 x17_1).f0), .int .i64 ((rd_T41 l0_1 x17_1).f1)] 41 (0, 0)))∧Aside0 (Below w.heap.size w wc))
    case first =>
     have H:=HC12.out;clear HC12
     by_cases c16 : ((rd_T41 l0_1 x17_1).f0) < 1
     rw [if_pos c16] at H;have c16b0:=decide_eq_true c16;clear c16;(first|rw [c16b0]|(simp only [i64_w, i32_w];rw [c16b0])|skip);have H':=k0_ H;clear H;rotate_left;rw [if_neg c16] at H;have c16b0:=decide_eq_false c16;clear c16;(first|rw [c16b0]|(simp only [i64_w, i32_w];rw [c16b0])|skip)
     focus
      by_cases c19 : ((rd_T41 l0_1 x17_1).f0) > 100000
      rw [if_pos c19] at H;have c19b0:=decide_eq_true c19;clear c19;have H':=k0_ H;clear H;rotate_left;rw [if_neg c19] at H;have c19b0:=decide_eq_false c19;clear c19
      focus
       by_cases c22 : ((rd_T41 l0_1 x17_1).f1) < (-1000000)
       rw [if_pos c22] at H;have c22b0:=decide_eq_true c22;clear c22;have H':=k0_ H;clear H;rotate_left;rw [if_neg c22] at H;have c22b0:=decide_eq_false c22;clear c22;have H':=k0_ H;clear H;rotate_left
      rotate_left 2
     rotate_left 3
     all_goals
      have hnb17:=NB165_162.out;have hnc17:=NB162_165.out;obtain ⟨hcz18_0,hcz18_1⟩:=bc2_ BK165.out;obtain ⟨hfz18_0,hfz18_1⟩:=bf2_ BK165.out;go_wp2
      repeat (go_quiet (fail);try go_wp2)
     ·go_meet
      case rel=>exact ⟨_, (true),rs_, H', ⟨by have:=HK1.out;first|omega|exact Nat.le_refl _⟩,⟨by (with_reducible repeat (first|refine blk_drewN ?_ _|refine blk_drew ?_|refine blk_alloc ?_ _));refine blk_far ?_ NB162_165.out _;(with_reducible repeat (first|refine blk_drewN ?_ _|refine blk_drew ?_|refine blk_alloc ?_ _));refine blk_far ?_ NB162_165.out _;(with_reducible repeat (first|refine blk_drewN ?_ _|refine blk_drew ?_|refine blk_alloc ?_ _));exact BK162.out⟩,⟨by (with_reducible repeat (first|refine blk_drewN ?_ _|refine blk_drew ?_|refine blk_alloc ?_ _));refine blk_put (cs:=#[.int .i64 ((rd_T41 l0_1 x17_1).f0), .int .i64 0]) ?_ 1 _ rfl;(with_reducible repeat (first|refine blk_drewN ?_ _|refine blk_drew ?_|refine blk_alloc ?_ _));refine blk_put (cs:=#[.int .i64 0, .int .i64 0]) ?_ 0 _ rfl;(with_reducible repeat (first|refine blk_drewN ?_ _|refine blk_drew ?_|refine blk_alloc ?_ _));exact BK165.out⟩,⟨hb2_ HB.out GE162.out GE165.out⟩⟩
     ·go_meet
      case rel=>exact ⟨_, (true),rs_, H', ⟨by have:=HK1.out;first|omega|exact Nat.le_refl _⟩,⟨by (with_reducible repeat (first|refine blk_drewN ?_ _|refine blk_drew ?_|refine blk_alloc ?_ _));refine blk_far ?_ NB162_165.out _;(with_reducible repeat (first|refine blk_drewN ?_ _|refine blk_drew ?_|refine blk_alloc ?_ _));refine blk_far ?_ NB162_165.out _;(with_reducible repeat (first|refine blk_drewN ?_ _|refine blk_drew ?_|refine blk_alloc ?_ _));exact BK162.out⟩,⟨by (with_reducible repeat (first|refine blk_drewN ?_ _|refine blk_drew ?_|refine blk_alloc ?_ _));refine blk_put (cs:=#[.int .i64 ((rd_T41 l0_1 x17_1).f0), .int .i64 0]) ?_ 1 _ rfl;(with_reducible repeat (first|refine blk_drewN ?_ _|refine blk_drew ?_|refine blk_alloc ?_ _));refine blk_put (cs:=#[.int .i64 0, .int .i64 0]) ?_ 0 _ rfl;(with_reducible repeat (first|refine blk_drewN ?_ _|refine blk_drew ?_|refine blk_alloc ?_ _));exact BK165.out⟩,⟨hb2_ HB.out GE162.out GE165.out⟩⟩
     ·go_meet
      case rel=>exact ⟨_, (true),rs_, H', ⟨by have:=HK1.out;first|omega|exact Nat.le_refl _⟩,⟨by (with_reducible repeat (first|refine blk_drewN ?_ _|refine blk_drew ?_|refine blk_alloc ?_ _));refine blk_far ?_ NB162_165.out _;(with_reducible repeat (first|refine blk_drewN ?_ _|refine blk_drew ?_|refine blk_alloc ?_ _));refine blk_far ?_ NB162_165.out _;(with_reducible repeat (first|refine blk_drewN ?_ _|refine blk_drew ?_|refine blk_alloc ?_ _));exact BK162.out⟩,⟨by (with_reducible repeat (first|refine blk_drewN ?_ _|refine blk_drew ?_|refine blk_alloc ?_ _));refine blk_put (cs:=#[.int .i64 ((rd_T41 l0_1 x17_1).f0), .int .i64 0]) ?_ 1 _ rfl;(with_reducible repeat (first|refine blk_drewN ?_ _|refine blk_drew ?_|refine blk_alloc ?_ _));refine blk_put (cs:=#[.int .i64 0, .int .i64 0]) ?_ 0 _ rfl;(with_reducible repeat (first|refine blk_drewN ?_ _|refine blk_drew ?_|refine blk_alloc ?_ _));exact BK165.out⟩,⟨hb2_ HB.out GE162.out GE165.out⟩⟩
     ·go_meet
      case rel=>exact ⟨_, (decide (((rd_T41 l0_1 x17_1).f1) > 1000000)),rs_, H', ⟨by have:=HK1.out;first|omega|exact Nat.le_refl _⟩,⟨by (with_reducible repeat (first|refine blk_drewN ?_ _|refine blk_drew ?_|refine blk_alloc ?_ _));refine blk_far ?_ NB162_165.out _;(with_reducible repeat (first|refine blk_drewN ?_ _|refine blk_drew ?_|refine blk_alloc ?_ _));refine blk_far ?_ NB162_165.out _;(with_reducible repeat (first|refine blk_drewN ?_ _|refine blk_drew ?_|refine blk_alloc ?_ _));exact BK162.out⟩,⟨by (with_reducible repeat (first|refine blk_drewN ?_ _|refine blk_drew ?_|refine blk_alloc ?_ _));refine blk_put (cs:=#[.int .i64 ((rd_T41 l0_1 x17_1).f0), .int .i64 0]) ?_ 1 _ rfl;(with_reducible repeat (first|refine blk_drewN ?_ _|refine blk_drew ?_|refine blk_alloc ?_ _));refine blk_put (cs:=#[.int .i64 0, .int .i64 0]) ?_ 0 _ rfl;(with_reducible repeat (first|refine blk_drewN ?_ _|refine blk_drew ?_|refine blk_alloc ?_ _));exact BK165.out⟩,⟨hb2_ HB.out GE162.out GE165.out⟩⟩
    clear HC12;(try clear c1);(try clear p1);(try clear q1);(try clear hx1);(try clear c2);(try clear p2);(try clear c3);(try clear c4);(try clear c4b0);(try clear c4b1);(try clear c5);(try clear c9);(try clear c9b0);(try clear c10);(try clear c10b0);(try clear c11);(try clear c11b0);(try clear c14);(try clear c16);(try clear c16b0);(try clear p16);(try clear q16);(try clear hx16);(try clear c17);(try clear c19);(try clear c19b0);(try clear c20);(try clear c22);(try clear c22b0);(try clear c23);(try clear c25);(try clear hcz15_0);(try clear hcz15_1);(try clear hcz18_0);(try clear hcz18_1);(try clear hcz21_0);(try clear hcz21_1);(try clear hcz24_0);(try clear hcz24_1);(try clear hcz26_0);(try clear hcz26_1);(try clear hcz6_0);(try clear hcz6_1);(try clear hcz6_0);(try clear hcz6_1);(try clear hfz15_0);(try clear hfz15_1);(try clear hfz18_0);(try clear hfz18_1);(try clear hfz21_0);(try clear hfz21_1);(try clear hfz24_0);(try clear hfz24_1);(try clear hfz26_0);(try clear hfz26_1);(try clear hfz6_0);(try clear hfz6_1);(try clear hfz6_0);(try clear hfz6_1);(try clear hx164_0);(try clear hx164_1);(try clear p164);(try clear p2);(try clear q164);obtain ⟨kq, x22_11, rfl, HA, HJ11, BK162, BK165, HB⟩:=hcut;obtain _|kj11:=kq
    ·exact absurd HA.out (by simp [offer_Check.j1])
    have H:=HA.out;clear HA;simp only [offer_Check.j1] at H
    by_cases c27 : x22_11 = true
    ·subst c27
     have H1 : (some 4) = some r:=by rw [if_pos rfl] at H;exact H
     clear H;have H:=H1;clear H1;obtain rfl:=Option.some.inj H;go_wp2
     repeat (go_quiet (fail);try go_wp2)
     go_ret
     exact ⟨er_, hb2_ HB.out GE162.out GE165.out⟩
    ·replace c27:=Bool.eq_false_iff.mpr c27
     subst c27;have H1 : (if x17_1 > 0 then (if 0 ≤ (wrap64 (x17_1 - 1)) then (if (wrap64 (x17_1 - 1)) < (l0_1.length : Int) then (offer_Check.j2 kj11 x3_1 l0_1 (l0_1.length : Int) x17_1 (decide (((rd_T41 l0_1 x17_1).f1) < ((rd_T41 l0_1 (wrap64 (x17_1 - 1))).f1))) a0_0 l0_1 ((rd_T41 l0_1 x17_1).f0) ((rd_T41 l0_1 x17_1).f1)) else (none)) else (none)) else (offer_Check.j2 kj11 x3_1 l0_1 (l0_1.length : Int) x17_1 false a0_0 l0_1 ((rd_T41 l0_1 x17_1).f0) ((rd_T41 l0_1 x17_1).f1))) = some r:=by rw [if_neg (show ¬ (false = true) by decide)] at H;exact H
     clear H;have H:=H1;clear H1;have HC28:=k0_ H;clear H
     go_upto_region 11 with (fail)
     repeat (go_quiet (fail);go_upto_region 11 with (fail))
     go_cut [41] (fun v41 wc=>∃ (kq : Nat) (x41_27 : Bool), v41 = .bool x41_27∧Aside0 (offer_Check.j2 kq x3_1 l0_1 (l0_1.length : Int) x17_1 x41_27 a0_0 l0_1 ((rd_T41 l0_1 x17_1).f0) ((rd_T41 l0_1 x17_1).f1) = some r)∧Aside0 (kq ≤ kj11)∧Aside0 (wc.heap[gb162]? = some (.cells #[.string a0_0, (.slice (some ad164) l0_1.length c0_1)] 29 (0, 0)))∧Aside0 (wc.heap[gb165]? = some (.cells #[.int .i64 ((rd_T41 l0_1 x17_1).f0), .int .i64 ((rd_T41 l0_1 x17_1).f1)] 41 (0, 0)))∧Aside0 (Below w.heap.size w wc))
     case first =>
      have H:=HC28.out;clear HC28
      by_cases c29 : x17_1 > 0
      ·rw [if_pos c29] at H
       have c29b0:=decide_eq_true c29;clear c29;(first|rw [c29b0]|(simp only [i64_w, i32_w];rw [c29b0])|skip);obtain ⟨ji30, hji30⟩ : ∃ j_ : Int, (wrap64 (x17_1 - 1)) = j_:=⟨_, rfl⟩;replace H : (if 0 ≤ (ji30) then (if (ji30) < (l0_1.length : Int) then (offer_Check.j2 kj11 x3_1 l0_1 (l0_1.length : Int) x17_1 (decide (((rd_T41 l0_1 x17_1).f1) < ((rd_T41 l0_1 (ji30)).f1))) a0_0 l0_1 ((rd_T41 l0_1 x17_1).f0) ((rd_T41 l0_1 x17_1).f1)) else (none)) else (none)) = some r:=by first|(rw [hji30] at H;exact H)|(simp only [hji30] at H ⊢;exact H)
       have hji30w : (IntKind.i64.wrap (x17_1 - 1)) = ji30:=(i64_w _).trans hji30
       obtain ⟨c31,H⟩:=gi_ H;have c31b0:=decide_eq_true c31;clear c31
       obtain ⟨c32,H⟩:=gi_ H;have c32b0:=decide_eq_true c32;clear c32;have H':=k0_ H;clear H;have hnb33:=NB165_162.out;have hnc33:=NB162_165.out;obtain ⟨hcz34_0,hcz34_1⟩:=bc2_ BK165.out;obtain ⟨hfz34_0,hfz34_1⟩:=bf2_ BK165.out;obtain ⟨hcz35_0,hcz35_1⟩:=bc2_ BK162.out;obtain ⟨hfz35_0,hfz35_1⟩:=bf2_ BK162.out;have p166 : 0 ≤ ((ji30) : Int):=of_decide_eq_true as_;have q166 : (ji30) < (l0_1.length : Int):=of_decide_eq_true as_;obtain ⟨ad166, e166, hx166_0, hx166_1⟩:=at_T41 HR0_1.out (ji30) p166 q166;obtain rfl : ad164 = ad166:=(by injection e166);replace hx166_0:=bt_ HB.out hx166_0;replace hx166_1:=bt_ HB.out hx166_1;replace p166:=eq_true p166;replace q166:=eq_true q166;go_wp2
       repeat (go_quiet (fail);try go_wp2)
       go_meet
       case rel=>exact ⟨_, (decide (((rd_T41 l0_1 x17_1).f1) < ((rd_T41 l0_1 (ji30)).f1))),(by first|rfl|(simp;done)|(simp only [← hji30] <;> (first|rfl|simp))|(simp [*];done)), H', ⟨by have:=HK1.out;have:=HJ11.out;first|omega|exact Nat.le_refl _⟩,⟨bq_ BK162.out⟩,⟨bq_ BK165.out⟩,⟨hb2_ HB.out GE162.out GE165.out⟩⟩
      ·rw [if_neg c29] at H
       have c29b0:=decide_eq_false c29;clear c29;(first|rw [c29b0]|(simp only [i64_w, i32_w];rw [c29b0])|skip);have H':=k0_ H;clear H;go_wp2
       repeat (go_quiet (fail);try go_wp2)
       go_meet
       case rel=>exact ⟨_, (false),rs_, H', ⟨by have:=HK1.out;have:=HJ11.out;first|omega|exact Nat.le_refl _⟩,⟨bq_ BK162.out⟩,⟨bq_ BK165.out⟩,⟨hb2_ HB.out GE162.out GE165.out⟩⟩
     clear HC28;(try clear c1);(try clear p1);(try clear q1);(try clear hx1);(try clear c2);(try clear p2);(try clear c3);(try clear c4);(try clear c4b0);(try clear c4b1);(try clear c5);(try clear p6);(try clear c9);(try clear c9b0);(try clear c10);(try clear c10b0);(try clear c11);(try clear c11b0);(try clear c14);(try clear c16);(try clear c16b0);(try clear p16);(try clear q16);(try clear hx16);(try clear c17);(try clear c19);(try clear c19b0);(try clear c20);(try clear c22);(try clear c22b0);(try clear c23);(try clear c25);(try clear c27);(try clear c29);(try clear c29b0);(try clear c31);(try clear c31b0);(try clear c32);(try clear c32b0);(try clear c33);(try clear hcz15_0);(try clear hcz15_1);(try clear hcz18_0);(try clear hcz18_1);(try clear hcz21_0);(try clear hcz21_1);(try clear hcz24_0);(try clear hcz24_1);(try clear hcz26_0);(try clear hcz26_1);(try clear hcz34_0);(try clear hcz34_1);(try clear hcz35_0);(try clear hcz35_1);(try clear hcz6_0);(try clear hcz6_1);(try clear hcz6_0);(try clear hcz6_1);(try clear hfz15_0);(try clear hfz15_1);(try clear hfz18_0);(try clear hfz18_1);(try clear hfz21_0);(try clear hfz21_1);(try clear hfz24_0);(try clear hfz24_1);(try clear hfz26_0);(try clear hfz26_1);(try clear hfz34_0);(try clear hfz34_1);(try clear hfz35_0);(try clear hfz35_1);(try clear hfz6_0);(try clear hfz6_1);(try clear hfz6_0);(try clear hfz6_1);(try clear hx164_0);(try clear hx164_1);(try clear hx166_0);(try clear hx166_1);(try clear p1);(try clear p16);(try clear p164);(try clear p166);(try clear p2);(try clear q1);(try clear q16);(try clear q164);(try clear q166);obtain ⟨kq, x41_27, rfl, HA, HJ27, BK162, BK165, HB⟩:=hcut;obtain _|kj27:=kq
     ·exact absurd HA.out (by simp [offer_Check.j2])
     have H:=HA.out;clear HA;simp only [offer_Check.j2] at H
     by_cases c36 : x41_27 = true
     ·subst c36
      have H1 : (some 3) = some r:=by rw [if_pos rfl] at H;exact H
      clear H;have H:=H1;clear H1;obtain rfl:=Option.some.inj H;go_wp2
      repeat (go_quiet (fail);try go_wp2)
      go_ret
      exact ⟨er_, hb2_ HB.out GE162.out GE165.out⟩
     ·replace c36:=Bool.eq_false_iff.mpr c36
      subst c36;have H1 : (if (wrap64 (x3_1 + ((rd_T41 l0_1 x17_1).f0))) > 100000 then (some 2) else (offer_Check.l0 kj27 (wrap64 (x3_1 + ((rd_T41 l0_1 x17_1).f0))) l0_1 (l0_1.length : Int) (wrap64 (x17_1 + 1)) a0_0 l0_1)) = some r:=by rw [if_neg (show ¬ (false = true) by decide)] at H;exact H
      clear H;have H:=H1;clear H1
      by_cases c37 : (wrap64 (x3_1 + ((rd_T41 l0_1 x17_1).f0))) > 100000
      rw [if_pos c37] at H;have c37b0:=decide_eq_true c37;clear c37;obtain rfl:=Option.some.inj H;rotate_left;rw [if_neg c37] at H;have c37b0:=decide_eq_false c37;clear c37;have H':=k0_ H;clear H;rotate_left
      all_goals
       have hnb38:=NB165_162.out;have hnc38:=NB162_165.out;obtain ⟨hcz39_0,hcz39_1⟩:=bc2_ BK165.out;obtain ⟨hfz39_0,hfz39_1⟩:=bf2_ BK165.out;go_wp2
       repeat (go_quiet (fail);try go_wp2)
      ·go_ret
       exact ⟨er_, hb2_ HB.out GE162.out GE165.out⟩
      ·go_roundg kj27
       case measure=>have:=HK1.out;have:=HJ11.out;have:=HJ27.out;omega
       case rel=>exact ⟨(wrap64 (x3_1 + ((rd_T41 l0_1 x17_1).f0))),(wrap64 (x17_1 + 1)),rs_,rs_, H', ⟨by have:=HK1.out;have:=HJ11.out;have:=HJ27.out;omega⟩,⟨bq_ BK162.out⟩,⟨hb2_ HB.out GE162.out GE165.out⟩⟩
   ·rw [if_neg c9] at H
    have c9b0:=decide_eq_false c9;clear c9;obtain rfl:=Option.some.inj H;go_wp2
    repeat (go_quiet (fail);try go_wp2)
    go_ret
    exact ⟨er_, hb1_ HB.out GE162.out⟩
 ·replace c3:=Bool.eq_false_iff.mpr c3
  subst c3;have H1 : (some 6) = some r:=by rw [if_neg (show ¬ (false = true) by decide)] at H;exact H
  clear H;have H:=H1;clear H1;obtain rfl:=Option.some.inj H
  go_enter Try.func59, Try.ntmps59
  go_wp2_with (first|((with_reducible refine gate_dst (N:=1) rfl ?_);refine box_event ?hg (N:=1) ?hd (cs:=#[.string a0_0, .slice A0_1 l0_1.length c0_1]) (t:=29) ?hr ?_;(case hd=>rfl);(case hg=>rfl);(case hr=>first|(go_simp;done)|(go_simp;rfl));intro gb162 hg w42 hbox hb;have BK162:=k0_ (hbox);have GW162:=k0_ ((by rw [hg];exact (below_size (hb0_ HB.out)) : w.heap.size ≤ gb162));have GE162:=k0_ ((by rw [hg];exact (below_size (hb0_ HB.out)) : w.heap.size ≤ gb162));replace HB:=k0_ (below_step (hb0_ HB.out) hb);clear hb hbox hg;obtain ⟨hcz43_0,hcz43_1⟩:=bc2_ BK162.out;obtain ⟨hfz43_0,hfz43_1⟩:=bf2_ BK162.out)|(go_at_call 68;(with_reducible refine (offer_named.calls k a0_0 false _ A2.out).mono ?_);rintro e w' ⟨rfl, ⟨nd, rfl⟩⟩;(try first|exact ⟨rfl, _, World.drewN_drewN _ _ _⟩|exact ⟨rfl, _, Eq.trans (World.drewN_drewN _ _ _) (congrArg (World.drewN _) (Nat.add_assoc _ _ _))⟩)))
  repeat (go_quiet (first|((with_reducible refine gate_dst (N:=1) rfl ?_);refine box_event ?hg (N:=1) ?hd (cs:=#[.string a0_0, .slice A0_1 l0_1.length c0_1]) (t:=29) ?hr ?_;(case hd=>rfl);(case hg=>rfl);(case hr=>first|(go_simp;done)|(go_simp;rfl));intro gb162 hg w42 hbox hb;have BK162:=k0_ (hbox);have GW162:=k0_ ((by rw [hg];exact (below_size (hb0_ HB.out)) : w.heap.size ≤ gb162));have GE162:=k0_ ((by rw [hg];exact (below_size (hb0_ HB.out)) : w.heap.size ≤ gb162));replace HB:=k0_ (below_step (hb0_ HB.out) hb);clear hb hbox hg;obtain ⟨hcz43_0,hcz43_1⟩:=bc2_ BK162.out;obtain ⟨hfz43_0,hfz43_1⟩:=bf2_ BK162.out)|(go_at_call 68;(with_reducible refine (offer_named.calls k a0_0 false _ A2.out).mono ?_);rintro e w' ⟨rfl, ⟨nd, rfl⟩⟩;(try first|exact ⟨rfl, _, World.drewN_drewN _ _ _⟩|exact ⟨rfl, _, Eq.trans (World.drewN_drewN _ _ _) (congrArg (World.drewN _) (Nat.add_assoc _ _ _))⟩)));try go_wp2_with (first|((with_reducible refine gate_dst (N:=1) rfl ?_);refine box_event ?hg (N:=1) ?hd (cs:=#[.string a0_0, .slice A0_1 l0_1.length c0_1]) (t:=29) ?hr ?_;(case hd=>rfl);(case hg=>rfl);(case hr=>first|(go_simp;done)|(go_simp;rfl));intro gb162 hg w42 hbox hb;have BK162:=k0_ (hbox);have GW162:=k0_ ((by rw [hg];exact (below_size (hb0_ HB.out)) : w.heap.size ≤ gb162));have GE162:=k0_ ((by rw [hg];exact (below_size (hb0_ HB.out)) : w.heap.size ≤ gb162));replace HB:=k0_ (below_step (hb0_ HB.out) hb);clear hb hbox hg;obtain ⟨hcz43_0,hcz43_1⟩:=bc2_ BK162.out;obtain ⟨hfz43_0,hfz43_1⟩:=bf2_ BK162.out)|(go_at_call 68;(with_reducible refine (offer_named.calls k a0_0 false _ A2.out).mono ?_);rintro e w' ⟨rfl, ⟨nd, rfl⟩⟩;(try first|exact ⟨rfl, _, World.drewN_drewN _ _ _⟩|exact ⟨rfl, _, Eq.trans (World.drewN_drewN _ _ _) (congrArg (World.drewN _) (Nat.add_assoc _ _ _))⟩))))
  go_ret
  exact ⟨er_, hb1_ HB.out GE162.out⟩

/-! ### offer_CheckAll: function 37 -/
mutual
def offer_CheckAll.l0 : Nat → List (S29) → List (S29) → Int → Int → Option (Int)
 | 0, _, _, _, _ => none
 | k + 1, x0, x11, x12, x13 => if x13 < x12 then (if 0 ≤ x13 then (if x13 < (x11.length : Int) then ((offer_Check.f k ((rd_T29 x11 x13).f0) ((rd_T29 x11 x13).f1)).bind fun t169 => (if t169 = 0 then (if x13 ≤ (x0.length : Int) then ((some (x0.take (x13 : Int).toNat : List (S29))).bind fun y170 => (offer_CheckAll.l1 k x0 x11 x12 x13 y170 (y170.length : Int) 0 ((rd_T29 x11 x13).f0) ((rd_T29 x11 x13).f1))) else (none)) else (some t169))) else (none)) else (none)) else (some 0)
def offer_CheckAll.l1 : Nat → List (S29) → List (S29) → Int → Int → List (S29) → Int → Int → ByteArray → List (S41) → Option (Int)
 | 0, _, _, _, _, _, _, _, _, _ => none
 | k + 1, x0, x11, x12, x13, x25, x26, x27, x169000, x169001 => if x27 < x26 then (if 0 ≤ x27 then (if x27 < (x25.length : Int) then (if ((rd_T29 x25 x27).f0).toList = x169000.toList then (some 7) else (offer_CheckAll.l1 k x0 x11 x12 x13 x25 x26 (wrap64 (x27 + 1)) x169000 x169001)) else (none)) else (none)) else (offer_CheckAll.l0 k x0 x11 x12 (wrap64 (x13 + 1)))
end
def offer_CheckAll.f (k : Nat) (l0 : List (S29)) : Option (Int) := if (l0.length : Int) > 10 then (some 2) else (offer_CheckAll.l0 k l0 l0 (l0.length : Int) 0)
theorem offer_CheckAll.mono_l : ∀ k, (∀ y0 y1 y2 y3, LeO (offer_CheckAll.l0 k y0 y1 y2 y3) (offer_CheckAll.l0 (k + 1) y0 y1 y2 y3)) ∧ (∀ y0 y1 y2 y3 y4 y5 y6 y7 y8, LeO (offer_CheckAll.l1 k y0 y1 y2 y3 y4 y5 y6 y7 y8) (offer_CheckAll.l1 (k + 1) y0 y1 y2 y3 y4 y5 y6 y7 y8))
 | 0 => ⟨fun _ _ _ _ r h => by simp [offer_CheckAll.l0] at h, fun _ _ _ _ _ _ _ _ _ r h => by simp [offer_CheckAll.l1] at h⟩
 | k + 1 => by
  obtain ⟨ih0, ih1⟩:=offer_CheckAll.mono_l k
  refine ⟨?_, ?_⟩
  ·intro y0 y1 y2 y3
   unfold offer_CheckAll.l0
   repeat' first|(with_reducible first|exact ih0 _ _ _ _|exact ih1 _ _ _ _ _ _ _ _ _|exact offer_Check.mono _ _ _|exact LeO.refl _|exact LeO.none _|refine LeO.ite ?_ ?_|refine LeO.bind ?_ (fun _=>?_))|exact ih0 _ _ _ _|exact ih1 _ _ _ _ _ _ _ _ _|exact offer_Check.mono _ _ _|exact LeO.none _|refine LeO.ite ?_ ?_|refine LeO.bind ?_ (fun _=>?_)
  ·intro y0 y1 y2 y3 y4 y5 y6 y7 y8
   unfold offer_CheckAll.l1
   repeat' first|(with_reducible first|exact ih0 _ _ _ _|exact ih1 _ _ _ _ _ _ _ _ _|exact offer_Check.mono _ _ _|exact LeO.refl _|exact LeO.none _|refine LeO.ite ?_ ?_|refine LeO.bind ?_ (fun _=>?_))|exact ih0 _ _ _ _|exact ih1 _ _ _ _ _ _ _ _ _|exact offer_Check.mono _ _ _|exact LeO.none _|refine LeO.ite ?_ ?_|refine LeO.bind ?_ (fun _=>?_)
theorem offer_CheckAll.mono : ∀ a0 k, LeO (offer_CheckAll.f k a0) (offer_CheckAll.f (k + 1) a0) := by
 intro a0 k
 obtain ⟨ih0, ih1⟩:=offer_CheckAll.mono_l k
 unfold offer_CheckAll.f
 repeat' first|(with_reducible first|exact ih0 _ _ _ _|exact ih1 _ _ _ _ _ _ _ _ _|exact offer_Check.mono _ _ _|exact LeO.refl _|exact LeO.none _|refine LeO.ite ?_ ?_|refine LeO.bind ?_ (fun _=>?_))|exact ih0 _ _ _ _|exact ih1 _ _ _ _ _ _ _ _ _|exact offer_Check.mono _ _ _|exact LeO.none _|refine LeO.ite ?_ ?_|refine LeO.bind ?_ (fun _=>?_)
set_option maxHeartbeats 8000000 in
set_option maxRecDepth 100000 in
theorem offer_CheckAll.calls (k : Nat) (A0 : Option Addr) (c0 : Nat) (l0 : List (S29)) (r : Int) (w : World) (hr0 : Kd.C k29 w A0 l0.length l0) (hc0 : l0.length ≤ c0) (h : offer_CheckAll.f k l0 = some r) :
  Calls Try.prog 37 #[.slice A0 l0.length c0] w fun e w' => e = .returned (.int .i64 r) ∧ Below w.heap.size w w' := by
 have hu29:=Try.underlying29;have HR0:=k0_ hr0;have HC0:=k0_ hc0;clear hr0 hc0;have HB:=k0_ (Below.refl w.heap.size w);have H : (if (l0.length : Int) > 10 then (some 2) else (offer_CheckAll.l0 k l0 l0 (l0.length : Int) 0)) = some r:=h;clear h
 by_cases c2 : (l0.length : Int) > 10
 ·rw [if_pos c2] at H
  have c2b0:=decide_eq_true c2;have c2b1 : decide (10 < l0.length) = true:=decide_eq_true (by omega);clear c2;obtain rfl:=Option.some.inj H
  go_enter Try.func37, Try.ntmps37
  go_wp2
  go_ret
  exact ⟨er_, hb0_ HB.out⟩
 ·rw [if_neg c2] at H
  have c2b0:=decide_eq_false c2;have c2b1 : decide (10 < l0.length) = false:=decide_eq_false (by omega);clear c2;have H':=k0_ H;clear H
  go_enter Try.func37, Try.ntmps37
  go_wp2;(try simp only [Act.put, q1_,q3_,q2_])
  go_loopg [13] k (fun kq v13 w'=>∃ (x13_1 : Int), v13 = .int .i64 x13_1∧Aside0 (offer_CheckAll.l0 kq l0 l0 (l0.length : Int) x13_1 = some r)∧Aside0 (kq ≤ k)∧Aside0 (Below w.heap.size w w'))
  case atStart=>exact ⟨(0),rs_, H', ⟨Nat.le_refl _⟩,⟨hb0_ HB.out⟩⟩
  clear H';(try clear c2);(try clear c2b0);(try clear c2b1);(try clear p2);obtain ⟨x13_1, rfl, HA, HK1, HB⟩:=hrel;obtain _|k1:=gk
  ·exact absurd HA.out (by simp [offer_CheckAll.l0])
  have H:=HA.out;clear HA;simp only [offer_CheckAll.l0] at H
  by_cases c3 : x13_1 < (l0.length : Int)
  ·rw [if_pos c3] at H
   have c3b0:=decide_eq_true c3;clear c3
   by_cases c4 : 0 ≤ x13_1
   rw [if_pos c4] at H;have c4b0:=decide_eq_true c4;clear c4
   focus
    by_cases c5 : x13_1 < (l0.length : Int)
    rw [if_pos c5] at H;have c5b0:=decide_eq_true c5;clear c5;replace H:=Option.bind_eq_some_iff.mp H;obtain ⟨t169, A60, H⟩:=H;replace H : (if t169 = 0 then (if x13_1 ≤ (l0.length : Int) then ((some (l0.take (x13_1 : Int).toNat : List (S29))).bind fun y170=>(offer_CheckAll.l1 k1 l0 l0 (l0.length : Int) x13_1 y170 (y170.length : Int) 0 ((rd_T29 l0 x13_1).f0) ((rd_T29 l0 x13_1).f1))) else (none)) else (some t169)) = some r:=H;have A6:=k0_ A60;clear A60
    focus
     by_cases c7 : t169 = 0
     rw [if_pos c7] at H;have c7b0:=beq_iff_eq.mpr c7;have c7b1:=bne_eq_false_iff_eq.mpr c7;clear c7;have c8b0:=eq_true (of_decide_eq_true as_ : 0 ≤ x13_1)
     focus
      by_cases c9 : x13_1 ≤ (l0.length : Int)
      rw [if_pos c9] at H;have c9b0:=eq_true c9;have c9b1:=decide_eq_true c9;clear c9;obtain ⟨y170, hy170⟩ : ∃ y_ : List (S29), y_ = (l0.take (x13_1 : Int).toNat):=⟨_, rfl⟩;replace H : (offer_CheckAll.l1 k1 l0 l0 (l0.length : Int) x13_1 y170 (y170.length : Int) 0 ((rd_T29 l0 x13_1).f0) ((rd_T29 l0 x13_1).f1)) = some r:=by first|(rw [hy170];with_reducible exact H)|(have H2_:=(Option.bind_some _ _).symm.trans H;rw [hy170];with_reducible exact H2_)|(have H2_:=(Option.bind_some _ _).symm.trans H;with_reducible exact H2_)|with_reducible exact H|(rw [hy170];exact H)|exact H
      have Ny170:=k0_ hy170;clear hy170;have H':=k0_ H;clear H;rotate_left;rw [if_neg c9] at H
      exact absurd H (by simp)
     rotate_left;rw [if_neg c7] at H;have c7b0:=beq_eq_false_iff_ne.mpr c7;have c7b1:=bne_iff_ne.mpr c7;obtain rfl:=Option.some.inj H;rotate_left
    rotate_left 2;rw [if_neg c5] at H
    exact absurd H (by simp)
   rotate_left 2;rw [if_neg c4] at H
   exact absurd H (by simp)
   all_goals
    have p167 : 0 ≤ (x13_1 : Int):=of_decide_eq_true as_;have q167 : x13_1 < (l0.length : Int):=of_decide_eq_true as_;obtain ⟨ad167, A167_1, c167_1, e167, hx167_0, hx167_1, hl167_1, hi167_1⟩:=at_T29 HR0.out x13_1 p167 q167;cases e167;replace hx167_0:=bt_ HB.out hx167_0;replace hx167_1:=bt_ HB.out hx167_1;have HR167_1:=k0_ hi167_1;have HC167_1:=k0_ hl167_1;clear hi167_1 hl167_1;replace p167:=eq_true p167;replace q167:=eq_true q167
   ·go_wp2_with (first|((with_reducible refine gate_dst (N:=4) rfl ?_);refine box_event ?hg (N:=4) ?hd (cs:=#[.string (⟨#[]⟩ : ByteArray), .slice none 0 0]) (t:=29) ?hr ?_;(case hd=>rfl);(case hg=>rfl);(case hr=>first|(go_simp;done)|(go_simp;rfl));intro gb168 hg w10 hbox hb;have BK168:=k0_ (hbox);have GW168:=k0_ ((by rw [hg];exact (below_size (hb0_ HB.out)) : w.heap.size ≤ gb168));have GE168:=k0_ ((by rw [hg];exact (below_size (hb0_ HB.out)) : w.heap.size ≤ gb168));replace HB:=k0_ (below_step (hb0_ HB.out) hb);clear hb hbox hg;obtain ⟨hcz11_0,hcz11_1⟩:=bc2_ BK168.out;obtain ⟨hfz11_0,hfz11_1⟩:=bf2_ BK168.out)|((with_reducible refine gate_callee (f:=59) rfl ?_);refine goesL_ (some 19) rfl rfl Try.func59 (by kernel_rfl) rfl #[.agg #[.string ((rd_T29 l0 x13_1).f0), .slice A167_1 ((rd_T29 l0 x13_1).f1).length c167_1]] rfl mt_ ?_;(with_reducible refine (offer_Check.calls k1 ((rd_T29 l0 x13_1).f0) _ _ ((rd_T29 l0 x13_1).f1) t169 _ ?side1 ?side2 A6.out).mono ?_);(case side1=>exact Kd.C_below HR167_1.out (hb1_ HB.out GE168.out));(case side2=>exact HC167_1.out);rintro e w12 ⟨rfl, hb⟩;refine ⟨_, rfl, ?_⟩;replace BK168:=k0_ (blk_below (g:=gb168) (o:=.cells #[.string ((rd_T29 l0 x13_1).f0), .slice A167_1 ((rd_T29 l0 x13_1).f1).length c167_1] 29 (0, 0)) (by (with_reducible repeat (first|refine blk_drewN ?_ _|refine blk_drew ?_|refine blk_alloc ?_ _));refine blk_put (cs:=#[.string ((rd_T29 l0 x13_1).f0), .slice none 0 0]) ?_ 1 _ rfl;(with_reducible repeat (first|refine blk_drewN ?_ _|refine blk_drew ?_|refine blk_alloc ?_ _));refine blk_put (cs:=#[.string (⟨#[]⟩ : ByteArray), .slice none 0 0]) ?_ 0 _ rfl;(with_reducible repeat (first|refine blk_drewN ?_ _|refine blk_drew ?_|refine blk_alloc ?_ _));exact BK168.out) hb);replace HB:=k0_ (below_step (hb1_ HB.out GE168.out) hb);(try clear hb);(try clear hb2);(try clear hk);(try clear hi);have q13 : (x13_1 : Int) ≤ ((l0.length : Int) : Int):=of_decide_eq_true as_;obtain ⟨i013, hi013, _, hsz13, _⟩:=info_parts info29;have hroom13 : l0.length ≤ c0:=HC0.out;have hC13 : Kd.C k29 _ (some ad167) l0.length l0:=HR0.out;have hcut13:=cut_to (P:=Try.prog) 50 29 .i64 Try.underlying50 hi013 (some ad167) l0.length c0 x13_1 (of_decide_eq_true as_) q13 hroom13;have hr13:=Kd.C_take (m:=(x13_1 : Int).toNat) hC13 (by omega);have hy13 : y170.length = (x13_1 : Int).toNat:=(by rw [Ny170.out, List.length_take];omega);rw [← Ny170.out] at hr13;rw [← hy13] at hcut13;have HR173:=k0_ hr13;have HC173:=k0_ (show y170.length ≤ c0 from by omega);clear hr13 hC13 hroom13 hi013 hsz13;have KY13:=k0_ hy13;clear hy13;replace q13:=eq_true q13))
    (try simp only [Act.put, q1_,q3_,q2_])
    go_loopg [27] k1 (fun kq v27 w'=>∃ (x27_2 : Int), v27 = .int .i64 x27_2∧Aside0 (offer_CheckAll.l1 kq l0 l0 (l0.length : Int) x13_1 y170 (y170.length : Int) x27_2 ((rd_T29 l0 x13_1).f0) ((rd_T29 l0 x13_1).f1) = some r)∧Aside0 (kq ≤ k1)∧Aside0 (w'.heap[gb168]? = some (.cells #[.string ((rd_T29 l0 x13_1).f0),(.slice A167_1 ((rd_T29 l0 x13_1).f1).length c167_1)] 29 (0, 0)))∧Aside0 (Below w.heap.size w w'))
    case atStart=>exact ⟨(0),rs_, H', ⟨Nat.le_refl _⟩,⟨bq_ BK168.out⟩,⟨hb1_ HB.out GE168.out⟩⟩
    clear H';(try clear c1);(try clear p1);(try clear q1);(try clear hx1);(try clear c2);(try clear c2b0);(try clear c2b1);(try clear p2);(try clear c3);(try clear c3b0);(try clear c4);(try clear c4b0);(try clear c5);(try clear c5b0);(try clear c7);(try clear c7b0);(try clear c7b1);(try clear c8);(try clear c8b0);(try clear c9);(try clear c9b0);(try clear c9b1);(try clear q13);(try clear hcz11_0);(try clear hcz11_1);(try clear hfz11_0);(try clear hfz11_1);(try clear hx167_0);(try clear hx167_1);(try clear p167);(try clear p2);(try clear q13);(try clear q167);obtain ⟨x27_2, rfl, HA, HK2, BK168, HB⟩:=hrel;obtain _|k2:=gk
    ·exact absurd HA.out (by simp [offer_CheckAll.l1])
    have H:=HA.out;clear HA;simp only [offer_CheckAll.l1] at H
    by_cases c14 : x27_2 < (y170.length : Int)
    ·rw [if_pos c14] at H
     have c14b0:=decide_eq_true c14;clear c14
     by_cases c15 : 0 ≤ x27_2
     rw [if_pos c15] at H;have c15b0:=decide_eq_true c15;clear c15
     focus
      by_cases c16 : x27_2 < (y170.length : Int)
      rw [if_pos c16] at H;have c16b0:=decide_eq_true c16;clear c16
      focus
       by_cases c17 : ((rd_T29 y170 x27_2).f0).toList = ((rd_T29 l0 x13_1).f0).toList
       rw [if_pos c17] at H;have c17b0:=beq_iff_eq.mpr c17;have c17b1:=bne_eq_false_iff_eq.mpr c17;clear c17;obtain rfl:=Option.some.inj H;rotate_left;rw [if_neg c17] at H;have c17b0:=beq_eq_false_iff_ne.mpr c17;have c17b1:=bne_iff_ne.mpr c17;have H':=k0_ H;clear H;rotate_left
      rotate_left 2;rw [if_neg c16] at H
      exact absurd H (by simp)
     rotate_left 2;rw [if_neg c15] at H
     exact absurd H (by simp)
     all_goals
      have p174 : 0 ≤ (x27_2 : Int):=of_decide_eq_true as_;have q174 : x27_2 < (y170.length : Int):=of_decide_eq_true as_;obtain ⟨ad174, A174_1, c174_1, e174, hx174_0, hx174_1, hl174_1, hi174_1⟩:=at_T29 HR173.out x27_2 p174 q174;obtain rfl : ad167 = ad174:=(by injection e174);replace hx174_0:=bt_ HB.out hx174_0;replace hx174_1:=bt_ HB.out hx174_1;have HR174_1:=k0_ hi174_1;have HC174_1:=k0_ hl174_1;clear hi174_1 hl174_1;replace p174:=eq_true p174;replace q174:=eq_true q174
      go_wp2_with (first|((with_reducible refine gate_dst (N:=7) rfl ?_);refine box_event ?hg (N:=7) ?hd (cs:=#[.string (⟨#[]⟩ : ByteArray), .slice none 0 0]) (t:=29) ?hr ?_;(case hd=>rfl);(case hg=>rfl);(case hr=>first|(go_simp;done)|(go_simp;rfl));intro gb175 hg w18 hbox hb;have BK175:=k0_ (hbox);have GW175:=k0_ ((by rw [hg];exact (below_size (hb1_ HB.out GE168.out)) : w.heap.size ≤ gb175));have GE175:=k0_ ((by rw [hg];exact (below_size (hb1_ HB.out GE168.out)) : w.heap.size ≤ gb175));replace HB:=k0_ (below_step (hb1_ HB.out GE168.out) hb);have NB168_175:=k0_ ((by rw [hg];exact Nat.ne_of_lt (blk_lt (g:=gb168) (o:=.cells #[.string ((rd_T29 l0 x13_1).f0), .slice A167_1 ((rd_T29 l0 x13_1).f1).length c167_1] 29 (0, 0)) (bq_ BK168.out)) : gb168 ≠ gb175));have NB175_168:=k0_ ((by rw [hg];exact Nat.ne_of_gt (blk_lt (g:=gb168) (o:=.cells #[.string ((rd_T29 l0 x13_1).f0), .slice A167_1 ((rd_T29 l0 x13_1).f1).length c167_1] 29 (0, 0)) (bq_ BK168.out)) : gb175 ≠ gb168));replace BK168:=k0_ (blk_below (g:=gb168) (o:=.cells #[.string ((rd_T29 l0 x13_1).f0), .slice A167_1 ((rd_T29 l0 x13_1).f1).length c167_1] 29 (0, 0)) (bq_ BK168.out) hb);clear hb hbox hg;have hnb19:=NB175_168.out;have hnc19:=NB168_175.out;obtain ⟨hcz20_0,hcz20_1⟩:=bc2_ BK175.out;obtain ⟨hfz20_0,hfz20_1⟩:=bf2_ BK175.out;obtain ⟨hcz21_0,hcz21_1⟩:=bc2_ BK168.out;obtain ⟨hfz21_0,hfz21_1⟩:=bf2_ BK168.out))
     ·go_ret
      exact ⟨er_, hb2_ HB.out GE168.out GE175.out⟩
     ·go_roundg k2
      case measure=>have:=HK1.out;have:=HK2.out;omega
      case rel=>exact ⟨(wrap64 (x27_2 + 1)),rs_, H', ⟨by have:=HK1.out;have:=HK2.out;omega⟩,⟨by (with_reducible repeat (first|refine blk_drewN ?_ _|refine blk_drew ?_|refine blk_alloc ?_ _));refine blk_far ?_ NB168_175.out _;(with_reducible repeat (first|refine blk_drewN ?_ _|refine blk_drew ?_|refine blk_alloc ?_ _));refine blk_far ?_ NB168_175.out _;(with_reducible repeat (first|refine blk_drewN ?_ _|refine blk_drew ?_|refine blk_alloc ?_ _));exact BK168.out⟩,⟨hb2_ HB.out GE168.out GE175.out⟩⟩
    ·rw [if_neg c14] at H
     have c14b0:=decide_eq_false c14;clear c14;have H':=k0_ H;clear H;go_wp2
     go_roundg k2
     case measure=>have:=HK1.out;have:=HK2.out;omega
     case rel=>exact ⟨(wrap64 (x13_1 + 1)),rs_, H', ⟨by have:=HK1.out;have:=HK2.out;omega⟩,⟨hb1_ HB.out GE168.out⟩⟩
   ·go_wp2_with (first|((with_reducible refine gate_dst (N:=4) rfl ?_);refine box_event ?hg (N:=4) ?hd (cs:=#[.string (⟨#[]⟩ : ByteArray), .slice none 0 0]) (t:=29) ?hr ?_;(case hd=>rfl);(case hg=>rfl);(case hr=>first|(go_simp;done)|(go_simp;rfl));intro gb168 hg w26 hbox hb;have BK168:=k0_ (hbox);have GW168:=k0_ ((by rw [hg];exact (below_size (hb0_ HB.out)) : w.heap.size ≤ gb168));have GE168:=k0_ ((by rw [hg];exact (below_size (hb0_ HB.out)) : w.heap.size ≤ gb168));replace HB:=k0_ (below_step (hb0_ HB.out) hb);clear hb hbox hg;obtain ⟨hcz27_0,hcz27_1⟩:=bc2_ BK168.out;obtain ⟨hfz27_0,hfz27_1⟩:=bf2_ BK168.out)|((with_reducible refine gate_callee (f:=59) rfl ?_);refine goesL_ (some 19) rfl rfl Try.func59 (by kernel_rfl) rfl #[.agg #[.string ((rd_T29 l0 x13_1).f0), .slice A167_1 ((rd_T29 l0 x13_1).f1).length c167_1]] rfl mt_ ?_;(with_reducible refine (offer_Check.calls k1 ((rd_T29 l0 x13_1).f0) _ _ ((rd_T29 l0 x13_1).f1) t169 _ ?side1 ?side2 A6.out).mono ?_);(case side1=>exact Kd.C_below HR167_1.out (hb1_ HB.out GE168.out));(case side2=>exact HC167_1.out);rintro e w28 ⟨rfl, hb⟩;refine ⟨_, rfl, ?_⟩;replace BK168:=k0_ (blk_below (g:=gb168) (o:=.cells #[.string ((rd_T29 l0 x13_1).f0), .slice A167_1 ((rd_T29 l0 x13_1).f1).length c167_1] 29 (0, 0)) (by (with_reducible repeat (first|refine blk_drewN ?_ _|refine blk_drew ?_|refine blk_alloc ?_ _));refine blk_put (cs:=#[.string ((rd_T29 l0 x13_1).f0), .slice none 0 0]) ?_ 1 _ rfl;(with_reducible repeat (first|refine blk_drewN ?_ _|refine blk_drew ?_|refine blk_alloc ?_ _));refine blk_put (cs:=#[.string (⟨#[]⟩ : ByteArray), .slice none 0 0]) ?_ 0 _ rfl;(with_reducible repeat (first|refine blk_drewN ?_ _|refine blk_drew ?_|refine blk_alloc ?_ _));exact BK168.out) hb);replace HB:=k0_ (below_step (hb1_ HB.out GE168.out) hb);(try clear hb);(try clear hb2);(try clear hk);(try clear hi)))
    go_ret
    exact ⟨er_, hb1_ HB.out GE168.out⟩
  ·rw [if_neg c3] at H
   have c3b0:=decide_eq_false c3;clear c3;obtain rfl:=Option.some.inj H;go_wp2
   go_ret
   exact ⟨er_, hb0_ HB.out⟩

end Go.Proofs.Ytekpnmeikibioaa.PHoursChanges
