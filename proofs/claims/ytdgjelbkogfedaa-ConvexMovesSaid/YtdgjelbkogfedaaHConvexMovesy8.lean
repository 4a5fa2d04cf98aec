import Derived.Test.YtdgjelbkogfedaaHConvexMovesy0
import Derived.Test.YtdgjelbkogfedaaHConvexMovesy2
import Derived.Test.YtdgjelbkogfedaaHConvexMovesy7
namespace Go.Proofs.Ytdgjelbkogfedaa.PConvexMoves
open Go.RowKit Go.Proofs.YtdgjelbkogfedaaW.PrintWords Go.Proofs.YtdgjelbkogfedaaW.PrintLast Go.Proofs.YtdgjelbkogfedaaW.PrintMore
attribute [local go_sem] max2_int min2_int max_two min_two max_three min_three max_four min_four
set_option linter.unusedVariables false
set_option linter.unusedSimpArgs false
def convexpl_made.l0 : Nat → List (S88) → List (S88) → Int → Int → Int → Int → List (S88) → Option (Int × Int × (List (S88)) × Int × (List (S88)))
|0, _, _, _, _, _, _, _ => none
|k + 1, x2, x17, x18, x19, x129000, x129001, x129002 => if x19 < x18 then (if 0 ≤ x19 then (if x19 < (x17.length : Int) then (if ((rd_T88 x17 x19).f0) = 0 then (convexpl_made.l0 k x2 x17 x18 (wrap64 (x19 + 1)) x129000 x129001 x129002) else (if (wrap64 ((x129002.length : Int) - 1)) ≥ 0 then (if 0 ≤ (wrap64 ((x129002.length : Int) - 1)) then (if (wrap64 ((x129002.length : Int) - 1)) < (x129002.length : Int) then (if ((rd_T88 x129002 (wrap64 ((x129002.length : Int) - 1))).f1) = ((rd_T88 x17 x19).f1) then (convexpl_made.l0 k x2 x17 x18 (wrap64 (x19 + 1)) x129000 x129001 (x129002.set ((wrap64 ((x129002.length : Int) - 1)) : Int).toNat (⟨wrap64 (((rd_T88 x129002 (wrap64 ((x129002.length : Int) - 1))).f0) + ((rd_T88 x17 x19).f0)),(rd_T88 x129002 (wrap64 ((x129002.length : Int) - 1))).f1⟩ : S88))) else (if x129002.length < 8796093022208 then (convexpl_made.l0 k x2 x17 x18 (wrap64 (x19 + 1)) x129000 x129001 (x129002 ++ [(⟨(rd_T88 x17 x19).f0, (rd_T88 x17 x19).f1⟩ : S88)])) else (none))) else (none)) else (none)) else (if x129002.length < 8796093022208 then (convexpl_made.l0 k x2 x17 x18 (wrap64 (x19 + 1)) x129000 x129001 (x129002 ++ [(⟨(rd_T88 x17 x19).f0, (rd_T88 x17 x19).f1⟩ : S88)])) else (none)))) else (none)) else (none)) else ((convexpl_Check.f k x129000 x129001 x129002).bind fun t129 => (if t129 = 0 then (some (x129000, x129001, x129002, 0, x2)) else (some (0, 0, ([] : List (S88)), 2, x2))))
def convexpl_made.f (k : Nat) (a0 : Int) (a1 : Int) (l2 : List (S88)) : Option (Int × Int × (List (S88)) × Int × (List (S88))) := (slices_SortStableFunc_of_made_1.f k l2).bind fun t127 => (convexpl_made.l0 k t127 t127 (l2.length : Int) 0 a0 a1 ([] : List (S88)))
theorem convexpl_made.mono_l : ∀ k, (∀ y0 y1 y2 y3 y4 y5 y6, LeO (convexpl_made.l0 k y0 y1 y2 y3 y4 y5 y6) (convexpl_made.l0 (k + 1) y0 y1 y2 y3 y4 y5 y6))
|0 => fun _ _ _ _ _ _ _ r h => by simp [convexpl_made.l0] at h
|k + 1 => by
  have ih0:=convexpl_made.mono_l k
  ·intro y0 y1 y2 y3 y4 y5 y6
   unfold convexpl_made.l0
   repeat' first
  |(with_reducible exact ih0 _ _ _ _ _ _ _)
  |(with_reducible exact convexpl_Check.mono _ _ _ _)
  |(with_reducible exact slices_SortStableFunc_of_made_1.mono _ _)
  |(with_reducible exact LeO.refl _)
  |(with_reducible exact LeO.none _)
  |(with_reducible refine LeO.ite ?_ ?_)
  |(with_reducible refine LeO.bind ?_ (fun _ => ?_))
  |exact ih0 _ _ _ _ _ _ _
  |exact convexpl_Check.mono _ _ _ _
  |exact slices_SortStableFunc_of_made_1.mono _ _
  |exact LeO.none _
  |refine LeO.ite ?_ ?_
  |refine LeO.bind ?_ (fun _ => ?_)
theorem convexpl_made.mono : ∀ a0 a1 a2 k, LeO (convexpl_made.f k a0 a1 a2) (convexpl_made.f (k + 1) a0 a1 a2) := by
 intro a0 a1 a2 k
 have ih0:=convexpl_made.mono_l k
 unfold convexpl_made.f
 repeat' first
  |(with_reducible exact ih0 _ _ _ _ _ _ _)
  |(with_reducible exact convexpl_Check.mono _ _ _ _)
  |(with_reducible exact slices_SortStableFunc_of_made_1.mono _ _)
  |(with_reducible exact LeO.refl _)
  |(with_reducible exact LeO.none _)
  |(with_reducible refine LeO.ite ?_ ?_)
  |(with_reducible refine LeO.bind ?_ (fun _ => ?_))
  |exact ih0 _ _ _ _ _ _ _
  |exact convexpl_Check.mono _ _ _ _
  |exact slices_SortStableFunc_of_made_1.mono _ _
  |exact LeO.none _
  |refine LeO.ite ?_ ?_
  |refine LeO.bind ?_ (fun _ => ?_)
def convexpl_made.T9 : Bool × List (List Nat × List Nat) := (true, [([], []), ([0], [0]), ([1], [1]), ([2], [2]), ([3, 2], [2, 3]), ([2], [2]), ([4, 5, 2], [2, 4, 5]), ([6, 2], [2, 6]), ([7, 2], [2, 7]), ([2], [2]), ([9, 2], [2, 9]), ([8, 10, 2], [2, 8, 10]), ([2, 11], [2, 11]), ([12, 2], [12])])
def convexpl_made.B9 : List Nat := [0, 1, 3, 7, 15, 7, 63, 127, 255, 7, 519, 2047, 4095, 8191]
theorem convexpl_made.tab9 : rtab .any (opsOf Try.f73 9) = convexpl_made.T9 := by kernel_rfl
theorem convexpl_made.bits9 : waitsOk convexpl_made.T9.2 convexpl_made.B9 = true := by kernel_rfl
def convexpl_made.T10 : Bool × List (List Nat × List Nat) := (true, [([], []), ([0], [0]), ([], []), ([1, 2], [1, 2]), ([3], [3]), ([4], [4]), ([], []), ([6], [6]), ([5, 7], [5, 7]), ([1, 2, 0, 1, 2, 3, 4, 5, 6, 7, 8], [1, 2]), ([9, 0, 1, 2, 3, 4, 5, 6, 7, 8], [9]), ([10, 8, 0, 1, 2, 3, 4, 5, 6, 7, 8], [8, 10])])
def convexpl_made.B10 : List Nat := [0, 1, 0, 7, 15, 31, 0, 64, 255, 511, 1023, 2047]
theorem convexpl_made.tab10 : rtab .any (opsOf Try.f73 10) = convexpl_made.T10 := by kernel_rfl
theorem convexpl_made.bits10 : waitsOk convexpl_made.T10.2 convexpl_made.B10 = true := by kernel_rfl
set_option maxHeartbeats 8000000 in
set_option maxRecDepth 100000 in
theorem convexpl_made.calls (k : Nat) (a0 : Int) (a1 : Int) (P2_ : Nat → Prop) (u9000_ : Value) (l2 : List (S88)) (r1 : Int) (r2 : Int) (r3 : List (S88)) (r4 : Int) (r5 : List (S88)) (w0 w : World) (hB : Below w0.heap.size w0 w) (ho2 : Kd.R k88 88 w w0.heap.size P2_ u9000_ l2) (h : convexpl_made.f k a0 a1 l2 = some (r1, r2, r3, r4, r5)) :
  Calls Try.prog 73 #[.int .i64 a0, .int .i64 a1, u9000_] w fun e w' => ∃ v2_ : Value, e = .returned (.tuple #[.agg #[.int .i64 r1, .int .i64 r2, v2_], .int .i64 r4]) ∧ Kd.R k88 88 w' w0.heap.size (fun k_ => (P2_ k_ ∨ w.heap.size ≤ k_) ∧ some k_ ≠ (u9000_ : Value).ownBlock) v2_ r3 ∧ Kd.R k88 88 w' w0.heap.size (fun k_ => (P2_ k_ ∨ w.heap.size ≤ k_)) u9000_ r5 ∧ Below w0.heap.size w0 w' ∧ Kept w w' (fun k_ => P2_ k_) := by
 have hu82:=Try.underlying82
 have hu88:=Try.underlying88
 have HO2:=Aside0.mk (show Kd.R k88 88 w w0.heap.size (fun k_=>(P2_ k_ ∨ w.heap.size ≤ k_)) u9000_ l2 from Kd.R_mono ho2 (fun k_ hk=>(.inl hk)))
 have HK:=Aside0.mk (Kept.refl w (fun k_=>P2_ k_))
 have HW0:=Aside0.mk hB.size
 have HB:=Aside0.mk hB
 clear hB
 have H : ((slices_SortStableFunc_of_made_1.f k l2).bind fun t127=>(convexpl_made.l0 k t127 t127 (l2.length : Int) 0 a0 a1 ([] : List (S88)))) = some (r1, r2, r3, r4, r5):=h
 clear h
 replace H:=Option.bind_eq_some_iff.mp H
 obtain ⟨t127, A40, H⟩:=H
 replace H : (convexpl_made.l0 k t127 t127 (l2.length : Int) 0 a0 a1 ([] : List (S88))) = some (r1, r2, r3, r4, r5):=H
 have A4:=Aside0.mk A40
 clear A40
 have H':=Aside0.mk H
 clear H
 go_enter Try.func73, Try.ntmps73
 go_wp2_with (first|((with_reducible refine gate_dst (N:=6) rfl ?_);refine box_event ?hg (N:=6) ?hd (cs:=#[.int .i64 0, .int .i64 0, .slice none 0 0]) (t:=82) ?hr ?_;(case hd=>rfl);(case hg=>rfl);(case hr=>first|(go_simp;done)|(go_simp;rfl));intro gb126 hg w5 hbox hb;have n0_:=Aside0.mk (Kd.R_below (by (with_reducible repeat (first|apply Kd.R_alloc|apply Kd.R_drewN|apply Kd.R_drew));exact HO2.out) hb);have n1_:=Aside0.mk (Kept.below (S:=(fun k_=>P2_ k_)) (by repeat (first|(with_reducible first|exact HK.out|apply Kept.alloc|apply Kept.drewN|apply Kept.drew)|exact HK.out)) hb);have n2_:=Aside0.mk (below_step (by repeat (first|(with_reducible first|exact HB.out|apply below_alloc|apply pw_below_drewN|apply below_drew1)|exact HB.out)) hb);have n3_:=Aside0.mk (hbox);have n4_:=Aside0.mk ((by rw [hg];exact (by first|exact HK.out.1|exact (show Kept w _ (fun k_=>P2_ k_) from by repeat (first|(with_reducible first|exact HK.out|apply Kept.alloc|apply Kept.drewN|apply Kept.drew)|exact HK.out)).1) : w.heap.size ≤ gb126));have n5_:=Aside0.mk ((by rw [hg];exact (below_size (by repeat (first|(with_reducible first|exact HB.out|apply below_alloc|apply pw_below_drewN|apply below_drew1)|exact HB.out))) : w0.heap.size ≤ gb126));clear HO2;clear HK;clear HB;have HO2:=n0_;have HK:=n1_;have HB:=n2_;have BK126:=n3_;have GW126:=n4_;have GE126:=n5_;clear n0_ n1_ n2_ n3_ n4_ n5_;clear hb hbox hg;obtain ⟨Ao6, co6, eo6⟩:=Kd.R_slice HO2.out;subst eo6)|((with_reducible refine gate_callee (f:=101) rfl ?_);refine goesL_ (some 13) rfl rfl Try.func101 (by kernel_rfl) rfl #[.slice Ao6 l2.length co6, .func (.func 102) #[] #[]] rfl (by (try simp only [List.map_toArray, List.map_cons, List.map_nil]);first|done|rfl|(simp only [List.length_drop, List.length_take];rfl)) ?_;(with_reducible refine (slices_SortStableFunc_of_made_1.calls k (fun k_=>some k_ = (.slice Ao6 l2.length co6 : Value).ownBlock) (.slice Ao6 l2.length co6) l2  t127 w0 _ ?side1 ?side2 A4.out).mono ?_);(case side1=>repeat (first|(with_reducible first|exact HB.out|apply below_alloc|apply pw_below_drewN|apply below_drew1|refine below_set ?_ GE126.out)|exact HB.out));(case side2=>exact Kd.R_tight rfl HO2.out);rintro e w7 ⟨rfl, hy0, hb, hkp⟩;refine ⟨_, rfl, ?_⟩;have n0_:=Aside0.mk (Kd.R_reok rfl hy0 (fun k_ e_=>HO2.out.1 k_ e_));have n1_:=Aside0.mk (blk_kept (by (with_reducible repeat (first|refine blk_drewN ?_ _|refine blk_drew ?_|refine blk_alloc ?_ _));exact BK126.out) hkp (fun hs_=>(fun e_=>(Kd.R_ne HO2.out BK126.out (by decide)) e_) hs_));have n2_:=Aside0.mk (Kept.then_ (S:=(fun k_=>P2_ k_)) (by repeat (first|(with_reducible first|exact HK.out|apply Kept.alloc|apply Kept.drewN|apply Kept.drew|refine Kept.setCell ?_ (.inr GW126.out) _)|exact HK.out)) hkp (fun k_ hs_=>(fun e_=>(HO2.out.1 k_ e_.symm)) hs_));have n3_:=Aside0.mk (hb);clear HO2;clear BK126;clear HK;clear HB;have HO2:=n0_;have BK126:=n1_;have HK:=n2_;have HB:=n3_;clear n0_ n1_ n2_ n3_;(try clear hb);(try clear hkp);(try clear hy0))|((with_reducible refine gate_dst (N:=8) rfl ?_);refine box_event ?hg (N:=8) ?hd (cs:=#[.int .i64 0, .int .i64 0, .slice none 0 0]) (t:=82) ?hr ?_;(case hd=>rfl);(case hg=>rfl);(case hr=>first|(go_simp;done)|(go_simp;rfl));intro gb128 hg w8 hbox hb;have n0_:=Aside0.mk (Kd.R_below (by (with_reducible repeat (first|apply Kd.R_alloc|apply Kd.R_drewN|apply Kd.R_drew));exact HO2.out) hb);have n1_:=Aside0.mk (blk_below (g:=gb126) (o:=.cells #[.int .i64 0, .int .i64 0, .slice none 0 0] 82 (0, 0)) (by (with_reducible repeat (first|refine blk_drewN ?_ _|refine blk_drew ?_|refine blk_alloc ?_ _));exact BK126.out) hb);have n2_:=Aside0.mk (Kept.below (S:=(fun k_=>P2_ k_)) (by repeat (first|(with_reducible first|exact HK.out|apply Kept.alloc|apply Kept.drewN|apply Kept.drew|refine Kept.setCell ?_ (.inr GW126.out) _)|exact HK.out)) hb);have n3_:=Aside0.mk (below_step (by repeat (first|(with_reducible first|exact HB.out|apply below_alloc|apply pw_below_drewN|apply below_drew1|refine below_set ?_ GE126.out)|exact HB.out)) hb);have n4_:=Aside0.mk (hbox);have n5_:=Aside0.mk ((by rw [hg];exact (by first|exact HK.out.1|exact (show Kept w _ (fun k_=>P2_ k_) from by repeat (first|(with_reducible first|exact HK.out|apply Kept.alloc|apply Kept.drewN|apply Kept.drew|refine Kept.setCell ?_ (.inr GW126.out) _)|exact HK.out)).1) : w.heap.size ≤ gb128));have n6_:=Aside0.mk ((by rw [hg];exact (below_size (by repeat (first|(with_reducible first|exact HB.out|apply below_alloc|apply pw_below_drewN|apply below_drew1|refine below_set ?_ GE126.out)|exact HB.out))) : w0.heap.size ≤ gb128));have n7_:=Aside0.mk ((by rw [hg];exact Nat.ne_of_lt (blk_lt (g:=gb126) (o:=.cells #[.int .i64 0, .int .i64 0, .slice none 0 0] 82 (0, 0)) (by (with_reducible repeat (first|refine blk_drewN ?_ _|refine blk_drew ?_|refine blk_alloc ?_ _));exact BK126.out)) : gb126 ≠ gb128));have n8_:=Aside0.mk ((by rw [hg];exact Nat.ne_of_gt (blk_lt (g:=gb126) (o:=.cells #[.int .i64 0, .int .i64 0, .slice none 0 0] 82 (0, 0)) (by (with_reducible repeat (first|refine blk_drewN ?_ _|refine blk_drew ?_|refine blk_alloc ?_ _));exact BK126.out)) : gb128 ≠ gb126));clear HO2;clear BK126;clear HK;clear HB;have HO2:=n0_;have BK126:=n1_;have HK:=n2_;have HB:=n3_;have BK128:=n4_;have GW128:=n5_;have GE128:=n6_;have NB126_128:=n7_;have NB128_126:=n8_;clear n0_ n1_ n2_ n3_ n4_ n5_ n6_ n7_ n8_;clear hb hbox hg;have hnb9:=NB128_126.out;have hnc9:=NB126_128.out;have hcz10_0 : w8.cell? ⟨gb128, 0, none⟩ = some (.int .i64 0):=(blk_cell BK128.out 0).trans rfl;have hcz10_1 : w8.cell? ⟨gb128, 1, none⟩ = some (.int .i64 0):=(blk_cell BK128.out 1).trans rfl;have hcz10_2 : w8.cell? ⟨gb128, 2, none⟩ = some (.slice none 0 0):=(blk_cell BK128.out 2).trans rfl;have hfz10_0:=blk_frozen BK128.out 0;have hfz10_1:=blk_frozen BK128.out 1;have hfz10_2:=blk_frozen BK128.out 2))
 try simp only [Act.put, List.setIfInBounds_toArray, List.set_cons_succ, List.set_cons_zero]
 go_loopg [19] k (fun kq v19 w'=>∃ (x19_1 : Int) (x129002_1 : List (S88)) (u129002 : Value), v19 = .int .i64 x19_1∧Aside0 (convexpl_made.l0 kq t127 t127 (l2.length : Int) x19_1 a0 a1 x129002_1 = some (r1, r2, r3, r4, r5))∧Aside0 (kq ≤ k)∧Aside0 (Kd.R k88 88 w' w0.heap.size (fun k_=>(P2_ k_ ∨ w.heap.size ≤ k_)∧some k_ ≠ (u129002 : Value).ownBlock) (.slice Ao6 l2.length co6) t127)∧Aside0 (Kd.R k88 88 w' w0.heap.size (fun k_=>(P2_ k_ ∨ w.heap.size ≤ k_)∧some k_ ≠ (u129002 : Value).ownBlock) (.slice Ao6 l2.length co6) t127)∧Aside0 (Kd.R k88 88 w' w0.heap.size (fun k_=>(P2_ k_ ∨ w.heap.size ≤ k_)∧some k_ ≠ ((.slice Ao6 l2.length co6) : Value).ownBlock∧some k_ ≠ ((.slice Ao6 l2.length co6) : Value).ownBlock) u129002 x129002_1)∧Aside0 (w'.heap[gb126]? = some (.cells #[.int .i64 0, .int .i64 0, (.slice none 0 0)] 82 (0, 0)))∧Aside0 (w'.heap[gb128]? = some (.cells #[.int .i64 a0, .int .i64 a1, u129002] 82 (0, 0)))∧Aside0 (Kept w w' (fun k_=>P2_ k_))∧Aside0 (Below w0.heap.size w0 w'))
 case atStart=>exact ⟨(0),(([] : List (S88))),(.slice none 0 0),(by first|rfl|(simp;done)|(simp [*];done)), H', ⟨Nat.le_refl _⟩,⟨by (with_reducible repeat (first|apply Kd.R_alloc|apply Kd.R_drewN|apply Kd.R_drew));exact Kd.R_mono (Kd.R_far (p:=⟨gb128, 2, none⟩) (Kd.R_far (p:=⟨gb128, 1, none⟩) (Kd.R_far (p:=⟨gb128, 0, none⟩) (Kd.R_types HO2.out BK128.out (by decide)) (fun _ hk=>hk.2) (.int .i64 a0)) (fun _ hk=>hk.2) (.int .i64 a1)) (fun _ hk=>hk.2) (.slice none 0 0)) (fun _ hk=>⟨hk.1, (by simp [Value.ownBlock])⟩)⟩,⟨by (with_reducible repeat (first|apply Kd.R_alloc|apply Kd.R_drewN|apply Kd.R_drew));exact Kd.R_mono (Kd.R_far (p:=⟨gb128, 2, none⟩) (Kd.R_far (p:=⟨gb128, 1, none⟩) (Kd.R_far (p:=⟨gb128, 0, none⟩) (Kd.R_types HO2.out BK128.out (by decide)) (fun _ hk=>hk.2) (.int .i64 a0)) (fun _ hk=>hk.2) (.int .i64 a1)) (fun _ hk=>hk.2) (.slice none 0 0)) (fun _ hk=>⟨hk.1, (by simp [Value.ownBlock])⟩)⟩,⟨by first|exact Kd.R_nil _ _ _ _ _|exact Kd.N_nil _ _ _ _ _|exact Kd.V_nil _ _ _ _ _|exact Kd.Q_nil _ _ _ _ _|exact Kd.S_nil _ _ _ _ _⟩,⟨by (with_reducible repeat (first|refine blk_drewN ?_ _|refine blk_drew ?_|refine blk_alloc ?_ _));refine blk_far ?_ NB126_128.out _;(with_reducible repeat (first|refine blk_drewN ?_ _|refine blk_drew ?_|refine blk_alloc ?_ _));refine blk_far ?_ NB126_128.out _;(with_reducible repeat (first|refine blk_drewN ?_ _|refine blk_drew ?_|refine blk_alloc ?_ _));refine blk_far ?_ NB126_128.out _;(with_reducible repeat (first|refine blk_drewN ?_ _|refine blk_drew ?_|refine blk_alloc ?_ _));exact BK126.out⟩,⟨by (with_reducible repeat (first|refine blk_drewN ?_ _|refine blk_drew ?_|refine blk_alloc ?_ _));refine blk_put (cs:=#[.int .i64 a0, .int .i64 a1, .slice none 0 0]) ?_ 2 _ rfl;(with_reducible repeat (first|refine blk_drewN ?_ _|refine blk_drew ?_|refine blk_alloc ?_ _));refine blk_put (cs:=#[.int .i64 a0, .int .i64 0, .slice none 0 0]) ?_ 1 _ rfl;(with_reducible repeat (first|refine blk_drewN ?_ _|refine blk_drew ?_|refine blk_alloc ?_ _));refine blk_put (cs:=#[.int .i64 0, .int .i64 0, .slice none 0 0]) ?_ 0 _ rfl;(with_reducible repeat (first|refine blk_drewN ?_ _|refine blk_drew ?_|refine blk_alloc ?_ _));exact BK128.out⟩,⟨by repeat (first|(with_reducible first|exact HK.out|apply Kept.alloc|apply Kept.drewN|apply Kept.drew|refine Kept.setCell ?_ (.inr GW126.out) _|refine Kept.setCell ?_ (.inr GW128.out) _)|exact HK.out)⟩,⟨by repeat (first|(with_reducible first|exact HB.out|apply below_alloc|apply pw_below_drewN|apply below_drew1|refine below_set ?_ GE126.out|refine below_set ?_ GE128.out)|exact HB.out)⟩⟩
 case round =>
  clear H'
  try clear c1
  try clear p2
  try clear c7
  try clear c9
  try clear c10
  try clear hcz10_0
  try clear hcz10_1
  try clear hcz10_2
  try clear hfz10_0
  try clear hfz10_1
  try clear hfz10_2
  obtain ⟨x19_1, x129002_1, u129002, rfl, HA, HK1, HO_2, HO_17, HO_129002, BK126, BK128, HK, HB⟩:=hrel
  have hl2_1:=(Kd.R_reads' HO_2.out).1
  rw [hl2_1] at HO_2
  (try simp only [hl2_1])
  (try simp only [hl2_1] at BK126)
  (try simp only [hl2_1] at BK128)
  (try simp only [hl2_1] at HO_17)
  (try simp only [hl2_1] at HO_129002)
  cases gk with
 |zero => exact absurd HA.out (by simp [convexpl_made.l0])
 |succ k1 =>
   have H:=HA.out
   clear HA
   simp only [convexpl_made.l0] at H
   by_cases c11 : x19_1 < (l2.length : Int)
   ·rw [if_pos c11] at H
    have c11b0 : decide (x19_1 < (l2.length : Int)) = true:=decide_eq_true c11
    (try (have c11b0h:=c11b0;simp only [hl2_1] at c11b0h))
    clear c11
    by_cases c12 : 0 ≤ x19_1
    ·rw [if_pos c12] at H
     have c12b0 : decide (0 ≤ x19_1) = true:=decide_eq_true c12
     (try (have c12b0h:=c12b0;simp only [hl2_1] at c12b0h))
     clear c12
     by_cases c13 : x19_1 < (t127.length : Int)
     ·rw [if_pos c13] at H
      have c13b0 : decide (x19_1 < (t127.length : Int)) = true:=decide_eq_true c13
      (try (have c13b0h:=c13b0;simp only [hl2_1] at c13b0h))
      clear c13
      by_cases c14 : ((rd_T88 t127 x19_1).f0) = 0
      ·rw [if_pos c14] at H
       have c14b0 : (((rd_T88 t127 x19_1).f0) == 0) = true:=beq_iff_eq.mpr c14
       have c14b1 : (((rd_T88 t127 x19_1).f0) != 0) = false:=bne_eq_false_iff_eq.mpr c14
       (try (have c14b0h:=c14b0;simp only [hl2_1] at c14b0h))
       (try (have c14b1h:=c14b1;simp only [hl2_1] at c14b1h))
       clear c14
       have H':=Aside0.mk H
       clear H
       have p130 : 0 ≤ (x19_1 : Int):=of_decide_eq_true (by first|(with_reducible assumption)|assumption)
       have q130 : x19_1 < (t127.length : Int):=of_decide_eq_true (by first|(with_reducible assumption)|assumption)
       obtain ⟨ad130, e130, hx130_0, hx130_1⟩:=at_T88 (Kd.R_reads' HO_17.out).2.2 x19_1 p130 q130
       cases e130
       replace p130:=eq_true p130
       replace q130:=eq_true q130
       go_wp2_with (first|((with_reducible refine gate_dst (N:=10) rfl ?_);refine box_event ?hg (N:=10) ?hd (cs:=#[.int .i64 0, .int .i64 0]) (t:=88) ?hr ?_;(case hd=>rfl);(case hg=>rfl);(case hr=>first|(go_simp;done)|(go_simp;rfl));intro gb131 hg w15 hbox hb;have n0_:=Aside0.mk (Kd.R_below (Kd.R_elderB (by (with_reducible repeat (first|apply Kd.R_alloc|apply Kd.R_drewN|apply Kd.R_drew));exact HO_2.out) gb131 (Nat.le_of_eq hg.symm)) hb);have n1_:=Aside0.mk (Kd.R_below (Kd.R_elderB (by (with_reducible repeat (first|apply Kd.R_alloc|apply Kd.R_drewN|apply Kd.R_drew));exact HO_17.out) gb131 (Nat.le_of_eq hg.symm)) hb);have n2_:=Aside0.mk (Kd.R_below (Kd.R_elderB (by (with_reducible repeat (first|apply Kd.R_alloc|apply Kd.R_drewN|apply Kd.R_drew));exact HO_129002.out) gb131 (Nat.le_of_eq hg.symm)) hb);have n3_:=Aside0.mk (blk_below (g:=gb126) (o:=.cells #[.int .i64 0, .int .i64 0, .slice none 0 0] 82 (0, 0)) (by (with_reducible repeat (first|refine blk_drewN ?_ _|refine blk_drew ?_|refine blk_alloc ?_ _));exact BK126.out) hb);have n4_:=Aside0.mk (blk_below (g:=gb128) (o:=.cells #[.int .i64 a0, .int .i64 a1, u129002] 82 (0, 0)) (by (with_reducible repeat (first|refine blk_drewN ?_ _|refine blk_drew ?_|refine blk_alloc ?_ _));exact BK128.out) hb);have n5_:=Aside0.mk (Kept.below (S:=(fun k_=>P2_ k_)) (by repeat (first|(with_reducible first|exact HK.out|apply Kept.alloc|apply Kept.drewN|apply Kept.drew|refine Kept.setCell ?_ (.inr GW126.out) _|refine Kept.setCell ?_ (.inr GW128.out) _)|exact HK.out)) hb);have n6_:=Aside0.mk (below_step (by repeat (first|(with_reducible first|exact HB.out|apply below_alloc|apply pw_below_drewN|apply below_drew1|refine below_set ?_ GE126.out|refine below_set ?_ GE128.out)|exact HB.out)) hb);have n7_:=Aside0.mk (hbox);have n8_:=Aside0.mk ((by rw [hg];exact (by first|exact HK.out.1|exact (show Kept w _ (fun k_=>P2_ k_) from by repeat (first|(with_reducible first|exact HK.out|apply Kept.alloc|apply Kept.drewN|apply Kept.drew|refine Kept.setCell ?_ (.inr GW126.out) _|refine Kept.setCell ?_ (.inr GW128.out) _)|exact HK.out)).1) : w.heap.size ≤ gb131));have n9_:=Aside0.mk ((by rw [hg];exact (below_size (by repeat (first|(with_reducible first|exact HB.out|apply below_alloc|apply pw_below_drewN|apply below_drew1|refine below_set ?_ GE126.out|refine below_set ?_ GE128.out)|exact HB.out))) : w0.heap.size ≤ gb131));have n10_:=Aside0.mk ((by rw [hg];exact Nat.ne_of_lt (blk_lt (g:=gb126) (o:=.cells #[.int .i64 0, .int .i64 0, .slice none 0 0] 82 (0, 0)) (by (with_reducible repeat (first|refine blk_drewN ?_ _|refine blk_drew ?_|refine blk_alloc ?_ _));exact BK126.out)) : gb126 ≠ gb131));have n11_:=Aside0.mk ((by rw [hg];exact Nat.ne_of_gt (blk_lt (g:=gb126) (o:=.cells #[.int .i64 0, .int .i64 0, .slice none 0 0] 82 (0, 0)) (by (with_reducible repeat (first|refine blk_drewN ?_ _|refine blk_drew ?_|refine blk_alloc ?_ _));exact BK126.out)) : gb131 ≠ gb126));have n12_:=Aside0.mk ((by rw [hg];exact Nat.ne_of_lt (blk_lt (g:=gb128) (o:=.cells #[.int .i64 a0, .int .i64 a1, u129002] 82 (0, 0)) (by (with_reducible repeat (first|refine blk_drewN ?_ _|refine blk_drew ?_|refine blk_alloc ?_ _));exact BK128.out)) : gb128 ≠ gb131));have n13_:=Aside0.mk ((by rw [hg];exact Nat.ne_of_gt (blk_lt (g:=gb128) (o:=.cells #[.int .i64 a0, .int .i64 a1, u129002] 82 (0, 0)) (by (with_reducible repeat (first|refine blk_drewN ?_ _|refine blk_drew ?_|refine blk_alloc ?_ _));exact BK128.out)) : gb131 ≠ gb128));clear HO_2;clear HO_17;clear HO_129002;clear BK126;clear BK128;clear HK;clear HB;have HO_2:=n0_;have HO_17:=n1_;have HO_129002:=n2_;have BK126:=n3_;have BK128:=n4_;have HK:=n5_;have HB:=n6_;have BK131:=n7_;have GW131:=n8_;have GE131:=n9_;have NB126_131:=n10_;have NB131_126:=n11_;have NB128_131:=n12_;have NB131_128:=n13_;clear n0_ n1_ n2_ n3_ n4_ n5_ n6_ n7_ n8_ n9_ n10_ n11_ n12_ n13_;clear hb hbox hg;have hnb16:=NB131_126.out;have hnc16:=NB126_131.out;have hnb17:=NB131_128.out;have hnc17:=NB128_131.out;have hcz18_0 : w15.cell? ⟨gb131, 0, none⟩ = some (.int .i64 0):=(blk_cell BK131.out 0).trans rfl;have hcz18_1 : w15.cell? ⟨gb131, 1, none⟩ = some (.int .i64 0):=(blk_cell BK131.out 1).trans rfl;have hfz18_0:=blk_frozen BK131.out 0;have hfz18_1:=blk_frozen BK131.out 1;have hnb19:=NB128_126.out;have hnc19:=NB126_128.out;have hcz20_0 : w15.cell? ⟨gb128, 0, none⟩ = some (.int .i64 a0):=(blk_cell BK128.out 0).trans rfl;have hcz20_1 : w15.cell? ⟨gb128, 1, none⟩ = some (.int .i64 a1):=(blk_cell BK128.out 1).trans rfl;have hcz20_2 : w15.cell? ⟨gb128, 2, none⟩ = some (u129002):=(blk_cell BK128.out 2).trans rfl;have hfz20_0:=blk_frozen BK128.out 0;have hfz20_1:=blk_frozen BK128.out 1;have hfz20_2:=blk_frozen BK128.out 2;obtain ⟨Ao21, co21, eo21⟩:=Kd.R_slice HO_129002.out;subst eo21))
       (try simp only [← hl2_1])
       go_roundg k1
       case measure=>have:=HK1.out;omega
       case rel=>exact ⟨(wrap64 (x19_1 + 1)),(x129002_1),(.slice Ao21 x129002_1.length co21),(by first|rfl|(simp;done)|(simp [*];done)), H', ⟨by have:=HK1.out;omega⟩,⟨by (try simp only [hl2_1]);(with_reducible repeat (first|apply Kd.R_alloc|apply Kd.R_drewN|apply Kd.R_drew));exact Kd.R_mono (Kd.R_far (p:=⟨gb131, 1, none⟩) (Kd.R_far (p:=⟨gb131, 0, none⟩) (Kd.R_mono HO_2.out (fun k_ hk=>(⟨hk, hk.2⟩ : _∧k_ ≠ gb131))) (fun _ hk=>hk.2) (.int .i64 ((rd_T88 t127 x19_1).f0))) (fun _ hk=>hk.2) (.int .i64 ((rd_T88 t127 x19_1).f1))) (fun _ hk=>⟨hk.1.1.1, hk.1.1.2⟩)⟩,⟨by (try simp only [hl2_1]);(with_reducible repeat (first|apply Kd.R_alloc|apply Kd.R_drewN|apply Kd.R_drew));exact Kd.R_mono (Kd.R_far (p:=⟨gb131, 1, none⟩) (Kd.R_far (p:=⟨gb131, 0, none⟩) (Kd.R_mono HO_17.out (fun k_ hk=>(⟨hk, hk.2⟩ : _∧k_ ≠ gb131))) (fun _ hk=>hk.2) (.int .i64 ((rd_T88 t127 x19_1).f0))) (fun _ hk=>hk.2) (.int .i64 ((rd_T88 t127 x19_1).f1))) (fun _ hk=>⟨hk.1.1.1, hk.1.1.2⟩)⟩,⟨by (try simp only [hl2_1]);(with_reducible repeat (first|apply Kd.R_alloc|apply Kd.R_drewN|apply Kd.R_drew));exact Kd.R_mono (Kd.R_far (p:=⟨gb131, 1, none⟩) (Kd.R_far (p:=⟨gb131, 0, none⟩) (Kd.R_mono HO_129002.out (fun k_ hk=>(⟨hk, hk.2⟩ : _∧k_ ≠ gb131))) (fun _ hk=>hk.2) (.int .i64 ((rd_T88 t127 x19_1).f0))) (fun _ hk=>hk.2) (.int .i64 ((rd_T88 t127 x19_1).f1))) (fun _ hk=>⟨hk.1.1.1, ⟨hk.1.1.2.1, hk.1.1.2.2⟩⟩)⟩,⟨by (try simp only [hl2_1]);(with_reducible repeat (first|refine blk_drewN ?_ _|refine blk_drew ?_|refine blk_alloc ?_ _));refine blk_far ?_ NB126_131.out _;(with_reducible repeat (first|refine blk_drewN ?_ _|refine blk_drew ?_|refine blk_alloc ?_ _));refine blk_far ?_ NB126_131.out _;(with_reducible repeat (first|refine blk_drewN ?_ _|refine blk_drew ?_|refine blk_alloc ?_ _));exact BK126.out⟩,⟨by (try simp only [hl2_1]);(with_reducible repeat (first|refine blk_drewN ?_ _|refine blk_drew ?_|refine blk_alloc ?_ _));refine blk_far ?_ NB128_131.out _;(with_reducible repeat (first|refine blk_drewN ?_ _|refine blk_drew ?_|refine blk_alloc ?_ _));refine blk_far ?_ NB128_131.out _;(with_reducible repeat (first|refine blk_drewN ?_ _|refine blk_drew ?_|refine blk_alloc ?_ _));exact BK128.out⟩,⟨by repeat (first|(with_reducible first|exact HK.out|apply Kept.alloc|apply Kept.drewN|apply Kept.drew|refine Kept.setCell ?_ (.inr GW126.out) _|refine Kept.setCell ?_ (.inr GW128.out) _|refine Kept.setCell ?_ (.inr GW131.out) _)|exact HK.out)⟩,⟨by repeat (first|(with_reducible first|exact HB.out|apply below_alloc|apply pw_below_drewN|apply below_drew1|refine below_set ?_ GE126.out|refine below_set ?_ GE128.out|refine below_set ?_ GE131.out)|exact HB.out)⟩⟩
      ·rw [if_neg c14] at H
       have c14b0 : (((rd_T88 t127 x19_1).f0) == 0) = false:=beq_eq_false_iff_ne.mpr c14
       have c14b1 : (((rd_T88 t127 x19_1).f0) != 0) = true:=bne_iff_ne.mpr c14
       (try (have c14b0h:=c14b0;simp only [hl2_1] at c14b0h))
       (try (have c14b1h:=c14b1;simp only [hl2_1] at c14b1h))
       by_cases c22 : (wrap64 ((x129002_1.length : Int) - 1)) ≥ 0
       rw [if_pos c22] at H
       have c22b0 : decide (0 ≤ (wrap64 ((x129002_1.length : Int) - 1))) = true:=decide_eq_true c22
       (try (have c22b0h:=c22b0;simp only [hl2_1] at c22b0h))
       clear c22
       obtain ⟨ji23, hji23⟩ : ∃ j_ : Int, (wrap64 ((x129002_1.length : Int) - 1)) = j_:=⟨_, rfl⟩
       replace H : (if 0 ≤ (ji23) then (if (ji23) < (x129002_1.length : Int) then (if ((rd_T88 x129002_1 (ji23)).f1) = ((rd_T88 t127 x19_1).f1) then (convexpl_made.l0 k1 t127 t127 (l2.length : Int) (wrap64 (x19_1 + 1)) a0 a1 (x129002_1.set ((ji23) : Int).toNat (⟨wrap64 (((rd_T88 x129002_1 (ji23)).f0) + ((rd_T88 t127 x19_1).f0)),(rd_T88 x129002_1 (ji23)).f1⟩ : S88))) else (if x129002_1.length < 8796093022208 then (convexpl_made.l0 k1 t127 t127 (l2.length : Int) (wrap64 (x19_1 + 1)) a0 a1 (x129002_1 ++ [(⟨(rd_T88 t127 x19_1).f0, (rd_T88 t127 x19_1).f1⟩ : S88)])) else (none))) else (none)) else (none)) = some (r1, r2, r3, r4, r5):=by first|(rw [hji23] at H;exact H)|(simp only [hji23] at H ⊢;exact H)
       (try rw [hji23] at c22b0)
       have hji23w : (IntKind.i64.wrap ((x129002_1.length : Int) - 1)) = ji23:=(i64_w _).trans hji23
       focus
        by_cases c24 : 0 ≤ (ji23)
        rw [if_pos c24] at H
        have c24b0 : decide (0 ≤ (ji23)) = true:=decide_eq_true c24
        (try (have c24b0h:=c24b0;simp only [hl2_1] at c24b0h))
        clear c24
        focus
         by_cases c25 : (ji23) < (x129002_1.length : Int)
         rw [if_pos c25] at H
         have c25b0 : decide ((ji23) < (x129002_1.length : Int)) = true:=decide_eq_true c25
         (try (have c25b0h:=c25b0;simp only [hl2_1] at c25b0h))
         clear c25
         focus
          by_cases c26 : ((rd_T88 x129002_1 (ji23)).f1) = ((rd_T88 t127 x19_1).f1)
          rw [if_pos c26] at H
          have c26b0 : (((rd_T88 x129002_1 (ji23)).f1) == ((rd_T88 t127 x19_1).f1)) = true:=beq_iff_eq.mpr c26
          have c26b1 : (((rd_T88 x129002_1 (ji23)).f1) != ((rd_T88 t127 x19_1).f1)) = false:=bne_eq_false_iff_eq.mpr c26
          (try (have c26b0h:=c26b0;simp only [hl2_1] at c26b0h))
          (try (have c26b1h:=c26b1;simp only [hl2_1] at c26b1h))
          clear c26
          obtain ⟨y134, hy134⟩ : ∃ y_ : List (S88), y_ = (x129002_1.set ((ji23) : Int).toNat (⟨wrap64 (((rd_T88 x129002_1 (ji23)).f0) + ((rd_T88 t127 x19_1).f0)),(rd_T88 x129002_1 (ji23)).f1⟩ : S88)):=⟨_, rfl⟩
          replace H : (convexpl_made.l0 k1 t127 t127 (l2.length : Int) (wrap64 (x19_1 + 1)) a0 a1 y134) = some (r1, r2, r3, r4, r5):=by first|(rw [hy134];with_reducible exact H)|(have H2_:=(Option.bind_some _ _).symm.trans H;rw [hy134];with_reducible exact H2_)|(have H2_:=(Option.bind_some _ _).symm.trans H;with_reducible exact H2_)|with_reducible exact H|(rw [hy134];exact H)|exact H
          have Ny134:=Aside0.mk hy134
          clear hy134
          have H':=Aside0.mk H
          clear H
          rotate_left
          rw [if_neg c26] at H
          have c26b0 : (((rd_T88 x129002_1 (ji23)).f1) == ((rd_T88 t127 x19_1).f1)) = false:=beq_eq_false_iff_ne.mpr c26
          have c26b1 : (((rd_T88 x129002_1 (ji23)).f1) != ((rd_T88 t127 x19_1).f1)) = true:=bne_iff_ne.mpr c26
          (try (have c26b0h:=c26b0;simp only [hl2_1] at c26b0h))
          (try (have c26b1h:=c26b1;simp only [hl2_1] at c26b1h))
          focus
           by_cases c39 : x129002_1.length < 8796093022208
           rw [if_pos c39] at H
           have LMc39:=Aside0.mk c39
           clear c39
           obtain ⟨y135, hy135⟩ : ∃ y_ : List (S88), y_ = (x129002_1 ++ [(⟨(rd_T88 t127 x19_1).f0, (rd_T88 t127 x19_1).f1⟩ : S88)]):=⟨_, rfl⟩
           replace H : (convexpl_made.l0 k1 t127 t127 (l2.length : Int) (wrap64 (x19_1 + 1)) a0 a1 y135) = some (r1, r2, r3, r4, r5):=by first|(rw [hy135];with_reducible exact H)|(have H2_:=(Option.bind_some _ _).symm.trans H;rw [hy135];with_reducible exact H2_)|(have H2_:=(Option.bind_some _ _).symm.trans H;with_reducible exact H2_)|with_reducible exact H|(rw [hy135];exact H)|exact H
           have Ny135:=Aside0.mk hy135
           clear hy135
           have H':=Aside0.mk H
           clear H
           rotate_left
           rw [if_neg c39] at H
           exact absurd H (by simp)
          rotate_left
         rotate_left 2
         rw [if_neg c25] at H
         exact absurd H (by simp)
        rotate_left 2
        rw [if_neg c24] at H
        exact absurd H (by simp)
       rotate_left 2
       rw [if_neg c22] at H
       have c22b0 : decide (0 ≤ (wrap64 ((x129002_1.length : Int) - 1))) = false:=decide_eq_false c22
       (try (have c22b0h:=c22b0;simp only [hl2_1] at c22b0h))
       clear c22
       focus
        by_cases c54 : x129002_1.length < 8796093022208
        rw [if_pos c54] at H
        have LMc54:=Aside0.mk c54
        clear c54
        obtain ⟨y138, hy138⟩ : ∃ y_ : List (S88), y_ = (x129002_1 ++ [(⟨(rd_T88 t127 x19_1).f0, (rd_T88 t127 x19_1).f1⟩ : S88)]):=⟨_, rfl⟩
        replace H : (convexpl_made.l0 k1 t127 t127 (l2.length : Int) (wrap64 (x19_1 + 1)) a0 a1 y138) = some (r1, r2, r3, r4, r5):=by first|(rw [hy138];with_reducible exact H)|(have H2_:=(Option.bind_some _ _).symm.trans H;rw [hy138];with_reducible exact H2_)|(have H2_:=(Option.bind_some _ _).symm.trans H;with_reducible exact H2_)|with_reducible exact H|(rw [hy138];exact H)|exact H
        have Ny138:=Aside0.mk hy138
        clear hy138
        have H':=Aside0.mk H
        clear H
        rotate_left
        rw [if_neg c54] at H
        exact absurd H (by simp)
       rotate_left
       all_goals
        have p130 : 0 ≤ (x19_1 : Int):=of_decide_eq_true (by first|(with_reducible assumption)|assumption)
        have q130 : x19_1 < (t127.length : Int):=of_decide_eq_true (by first|(with_reducible assumption)|assumption)
        obtain ⟨ad130, e130, hx130_0, hx130_1⟩:=at_T88 (Kd.R_reads' HO_17.out).2.2 x19_1 p130 q130
        cases e130
        replace p130:=eq_true p130
        replace q130:=eq_true q130
        try go_wp2_with (first|((with_reducible refine gate_dst (N:=10) rfl ?_);refine box_event ?hg (N:=10) ?hd (cs:=#[.int .i64 0, .int .i64 0]) (t:=88) ?hr ?_;(case hd=>rfl);(case hg=>rfl);(case hr=>first|(go_simp;done)|(go_simp;rfl));intro gb131 hg w28 hbox hb;have n0_:=Aside0.mk (Kd.R_below (Kd.R_elderB (by (with_reducible repeat (first|apply Kd.R_alloc|apply Kd.R_drewN|apply Kd.R_drew));exact HO_2.out) gb131 (Nat.le_of_eq hg.symm)) hb);have n1_:=Aside0.mk (Kd.R_below (Kd.R_elderB (by (with_reducible repeat (first|apply Kd.R_alloc|apply Kd.R_drewN|apply Kd.R_drew));exact HO_17.out) gb131 (Nat.le_of_eq hg.symm)) hb);have n2_:=Aside0.mk (Kd.R_below (Kd.R_elderB (by (with_reducible repeat (first|apply Kd.R_alloc|apply Kd.R_drewN|apply Kd.R_drew));exact HO_129002.out) gb131 (Nat.le_of_eq hg.symm)) hb);have n3_:=Aside0.mk (blk_below (g:=gb126) (o:=.cells #[.int .i64 0, .int .i64 0, .slice none 0 0] 82 (0, 0)) (by (with_reducible repeat (first|refine blk_drewN ?_ _|refine blk_drew ?_|refine blk_alloc ?_ _));exact BK126.out) hb);have n4_:=Aside0.mk (blk_below (g:=gb128) (o:=.cells #[.int .i64 a0, .int .i64 a1, u129002] 82 (0, 0)) (by (with_reducible repeat (first|refine blk_drewN ?_ _|refine blk_drew ?_|refine blk_alloc ?_ _));exact BK128.out) hb);have n5_:=Aside0.mk (Kept.below (S:=(fun k_=>P2_ k_)) (by repeat (first|(with_reducible first|exact HK.out|apply Kept.alloc|apply Kept.drewN|apply Kept.drew|refine Kept.setCell ?_ (.inr GW126.out) _|refine Kept.setCell ?_ (.inr GW128.out) _)|exact HK.out)) hb);have n6_:=Aside0.mk (below_step (by repeat (first|(with_reducible first|exact HB.out|apply below_alloc|apply pw_below_drewN|apply below_drew1|refine below_set ?_ GE126.out|refine below_set ?_ GE128.out)|exact HB.out)) hb);have n7_:=Aside0.mk (hbox);have n8_:=Aside0.mk ((by rw [hg];exact (by first|exact HK.out.1|exact (show Kept w _ (fun k_=>P2_ k_) from by repeat (first|(with_reducible first|exact HK.out|apply Kept.alloc|apply Kept.drewN|apply Kept.drew|refine Kept.setCell ?_ (.inr GW126.out) _|refine Kept.setCell ?_ (.inr GW128.out) _)|exact HK.out)).1) : w.heap.size ≤ gb131));have n9_:=Aside0.mk ((by rw [hg];exact (below_size (by repeat (first|(with_reducible first|exact HB.out|apply below_alloc|apply pw_below_drewN|apply below_drew1|refine below_set ?_ GE126.out|refine below_set ?_ GE128.out)|exact HB.out))) : w0.heap.size ≤ gb131));have n10_:=Aside0.mk ((by rw [hg];exact Nat.ne_of_lt (blk_lt (g:=gb126) (o:=.cells #[.int .i64 0, .int .i64 0, .slice none 0 0] 82 (0, 0)) (by (with_reducible repeat (first|refine blk_drewN ?_ _|refine blk_drew ?_|refine blk_alloc ?_ _));exact BK126.out)) : gb126 ≠ gb131));have n11_:=Aside0.mk ((by rw [hg];exact Nat.ne_of_gt (blk_lt (g:=gb126) (o:=.cells #[.int .i64 0, .int .i64 0, .slice none 0 0] 82 (0, 0)) (by (with_reducible repeat (first|refine blk_drewN ?_ _|refine blk_drew ?_|refine blk_alloc ?_ _));exact BK126.out)) : gb131 ≠ gb126));have n12_:=Aside0.mk ((by rw [hg];exact Nat.ne_of_lt (blk_lt (g:=gb128) (o:=.cells #[.int .i64 a0, .int .i64 a1, u129002] 82 (0, 0)) (by (with_reducible repeat (first|refine blk_drewN ?_ _|refine blk_drew ?_|refine blk_alloc ?_ _));exact BK128.out)) : gb128 ≠ gb131));have n13_:=Aside0.mk ((by rw [hg];exact Nat.ne_of_gt (blk_lt (g:=gb128) (o:=.cells #[.int .i64 a0, .int .i64 a1, u129002] 82 (0, 0)) (by (with_reducible repeat (first|refine blk_drewN ?_ _|refine blk_drew ?_|refine blk_alloc ?_ _));exact BK128.out)) : gb131 ≠ gb128));clear HO_2;clear HO_17;clear HO_129002;clear BK126;clear BK128;clear HK;clear HB;have HO_2:=n0_;have HO_17:=n1_;have HO_129002:=n2_;have BK126:=n3_;have BK128:=n4_;have HK:=n5_;have HB:=n6_;have BK131:=n7_;have GW131:=n8_;have GE131:=n9_;have NB126_131:=n10_;have NB131_126:=n11_;have NB128_131:=n12_;have NB131_128:=n13_;clear n0_ n1_ n2_ n3_ n4_ n5_ n6_ n7_ n8_ n9_ n10_ n11_ n12_ n13_;clear hb hbox hg;have hnb29:=NB131_126.out;have hnc29:=NB126_131.out;have hnb30:=NB131_128.out;have hnc30:=NB128_131.out;have hcz31_0 : w28.cell? ⟨gb131, 0, none⟩ = some (.int .i64 0):=(blk_cell BK131.out 0).trans rfl;have hcz31_1 : w28.cell? ⟨gb131, 1, none⟩ = some (.int .i64 0):=(blk_cell BK131.out 1).trans rfl;have hfz31_0:=blk_frozen BK131.out 0;have hfz31_1:=blk_frozen BK131.out 1;have hnb32:=NB128_126.out;have hnc32:=NB126_128.out;have hcz33_0 : w28.cell? ⟨gb128, 0, none⟩ = some (.int .i64 a0):=(blk_cell BK128.out 0).trans rfl;have hcz33_1 : w28.cell? ⟨gb128, 1, none⟩ = some (.int .i64 a1):=(blk_cell BK128.out 1).trans rfl;have hcz33_2 : w28.cell? ⟨gb128, 2, none⟩ = some (u129002):=(blk_cell BK128.out 2).trans rfl;have hfz33_0:=blk_frozen BK128.out 0;have hfz33_1:=blk_frozen BK128.out 1;have hfz33_2:=blk_frozen BK128.out 2;obtain ⟨Ao34, co34, eo34⟩:=Kd.R_slice HO_129002.out;subst eo34))
        have n0_ : Aside0 (Kd.R k88 88 ((w28.setCell ⟨gb131, 0, none⟩ (.int .i64 ((rd_T88 t127 x19_1).f0))).setCell ⟨gb131, 1, none⟩ (.int .i64 ((rd_T88 t127 x19_1).f1))) w0.heap.size (fun k_=>(P2_ k_ ∨ w.heap.size ≤ k_)∧some k_ ≠ (.slice Ao34 x129002_1.length co34 : Value).ownBlock∧k_ ≠ gb131) (.slice (some ad130) t127.length co6) t127):=⟨by (with_reducible repeat (first|apply Kd.R_alloc|apply Kd.R_drewN|apply Kd.R_drew));exact Kd.R_mono (Kd.R_far (p:=⟨gb131, 1, none⟩) (Kd.R_far (p:=⟨gb131, 0, none⟩) (Kd.R_mono HO_2.out (fun k_ hk=>(⟨hk, hk.2⟩ : _∧k_ ≠ gb131))) (fun _ hk=>hk.2) (.int .i64 ((rd_T88 t127 x19_1).f0))) (fun _ hk=>hk.2) (.int .i64 ((rd_T88 t127 x19_1).f1))) (fun _ hk=>⟨hk.1.1.1, ⟨hk.1.1.2, hk.1.2⟩⟩)⟩
        have n1_ : Aside0 (Kd.R k88 88 ((w28.setCell ⟨gb131, 0, none⟩ (.int .i64 ((rd_T88 t127 x19_1).f0))).setCell ⟨gb131, 1, none⟩ (.int .i64 ((rd_T88 t127 x19_1).f1))) w0.heap.size (fun k_=>(P2_ k_ ∨ w.heap.size ≤ k_)∧some k_ ≠ (.slice Ao34 x129002_1.length co34 : Value).ownBlock∧k_ ≠ gb131) (.slice (some ad130) t127.length co6) t127):=⟨by (with_reducible repeat (first|apply Kd.R_alloc|apply Kd.R_drewN|apply Kd.R_drew));exact Kd.R_mono (Kd.R_far (p:=⟨gb131, 1, none⟩) (Kd.R_far (p:=⟨gb131, 0, none⟩) (Kd.R_mono HO_17.out (fun k_ hk=>(⟨hk, hk.2⟩ : _∧k_ ≠ gb131))) (fun _ hk=>hk.2) (.int .i64 ((rd_T88 t127 x19_1).f0))) (fun _ hk=>hk.2) (.int .i64 ((rd_T88 t127 x19_1).f1))) (fun _ hk=>⟨hk.1.1.1, ⟨hk.1.1.2, hk.1.2⟩⟩)⟩
        have n2_ : Aside0 (Kd.R k88 88 ((w28.setCell ⟨gb131, 0, none⟩ (.int .i64 ((rd_T88 t127 x19_1).f0))).setCell ⟨gb131, 1, none⟩ (.int .i64 ((rd_T88 t127 x19_1).f1))) w0.heap.size (fun k_=>(P2_ k_ ∨ w.heap.size ≤ k_)∧some k_ ≠ (.slice (some ad130) t127.length co6 : Value).ownBlock∧some k_ ≠ (.slice (some ad130) t127.length co6 : Value).ownBlock∧k_ ≠ gb131) (.slice Ao34 x129002_1.length co34) x129002_1):=⟨by (with_reducible repeat (first|apply Kd.R_alloc|apply Kd.R_drewN|apply Kd.R_drew));exact Kd.R_mono (Kd.R_far (p:=⟨gb131, 1, none⟩) (Kd.R_far (p:=⟨gb131, 0, none⟩) (Kd.R_mono HO_129002.out (fun k_ hk=>(⟨hk, hk.2⟩ : _∧k_ ≠ gb131))) (fun _ hk=>hk.2) (.int .i64 ((rd_T88 t127 x19_1).f0))) (fun _ hk=>hk.2) (.int .i64 ((rd_T88 t127 x19_1).f1))) (fun _ hk=>⟨hk.1.1.1, ⟨hk.1.1.2.1, ⟨hk.1.1.2.2, hk.1.2⟩⟩⟩)⟩
        have n3_ : Aside0 (((w28.setCell ⟨gb131, 0, none⟩ (.int .i64 ((rd_T88 t127 x19_1).f0))).setCell ⟨gb131, 1, none⟩ (.int .i64 ((rd_T88 t127 x19_1).f1))).heap[gb126]? = some (.cells #[.int .i64 0, .int .i64 0, .slice none 0 0] 82 (0, 0))):=⟨by (with_reducible repeat (first|refine blk_drewN ?_ _|refine blk_drew ?_|refine blk_alloc ?_ _));refine blk_far ?_ NB126_131.out _;(with_reducible repeat (first|refine blk_drewN ?_ _|refine blk_drew ?_|refine blk_alloc ?_ _));refine blk_far ?_ NB126_131.out _;(with_reducible repeat (first|refine blk_drewN ?_ _|refine blk_drew ?_|refine blk_alloc ?_ _));exact BK126.out⟩
        have n4_ : Aside0 (((w28.setCell ⟨gb131, 0, none⟩ (.int .i64 ((rd_T88 t127 x19_1).f0))).setCell ⟨gb131, 1, none⟩ (.int .i64 ((rd_T88 t127 x19_1).f1))).heap[gb128]? = some (.cells #[.int .i64 a0, .int .i64 a1, .slice Ao34 x129002_1.length co34] 82 (0, 0))):=⟨by (with_reducible repeat (first|refine blk_drewN ?_ _|refine blk_drew ?_|refine blk_alloc ?_ _));refine blk_far ?_ NB128_131.out _;(with_reducible repeat (first|refine blk_drewN ?_ _|refine blk_drew ?_|refine blk_alloc ?_ _));refine blk_far ?_ NB128_131.out _;(with_reducible repeat (first|refine blk_drewN ?_ _|refine blk_drew ?_|refine blk_alloc ?_ _));exact BK128.out⟩
        have n5_ : Aside0 (((w28.setCell ⟨gb131, 0, none⟩ (.int .i64 ((rd_T88 t127 x19_1).f0))).setCell ⟨gb131, 1, none⟩ (.int .i64 ((rd_T88 t127 x19_1).f1))).heap[gb131]? = some (.cells #[.int .i64 ((rd_T88 t127 x19_1).f0), .int .i64 ((rd_T88 t127 x19_1).f1)] 88 (0, 0))):=⟨by (with_reducible repeat (first|refine blk_drewN ?_ _|refine blk_drew ?_|refine blk_alloc ?_ _));refine blk_put (cs:=#[.int .i64 ((rd_T88 t127 x19_1).f0), .int .i64 0]) ?_ 1 _ rfl;(with_reducible repeat (first|refine blk_drewN ?_ _|refine blk_drew ?_|refine blk_alloc ?_ _));refine blk_put (cs:=#[.int .i64 0, .int .i64 0]) ?_ 0 _ rfl;(with_reducible repeat (first|refine blk_drewN ?_ _|refine blk_drew ?_|refine blk_alloc ?_ _));exact BK131.out⟩
        have n6_ : Aside0 (Kept w ((w28.setCell ⟨gb131, 0, none⟩ (.int .i64 ((rd_T88 t127 x19_1).f0))).setCell ⟨gb131, 1, none⟩ (.int .i64 ((rd_T88 t127 x19_1).f1))) (fun k_=>P2_ k_)):=⟨by repeat (first|(with_reducible first|exact HK.out|apply Kept.alloc|apply Kept.drewN|apply Kept.drew|refine Kept.setCell ?_ (.inr GW126.out) _|refine Kept.setCell ?_ (.inr GW128.out) _|refine Kept.setCell ?_ (.inr GW131.out) _)|exact HK.out)⟩
        have n7_ : Aside0 (Below w0.heap.size w0 ((w28.setCell ⟨gb131, 0, none⟩ (.int .i64 ((rd_T88 t127 x19_1).f0))).setCell ⟨gb131, 1, none⟩ (.int .i64 ((rd_T88 t127 x19_1).f1)))):=⟨by repeat (first|(with_reducible first|exact HB.out|apply below_alloc|apply pw_below_drewN|apply below_drew1|refine below_set ?_ GE126.out|refine below_set ?_ GE128.out|refine below_set ?_ GE131.out)|exact HB.out)⟩
        (try clear HO_2)
        (try clear HO_17)
        (try clear HO_129002)
        (try clear BK126)
        (try clear BK128)
        (try clear BK131)
        (try clear HK)
        (try clear HB)
        generalize ((w28.setCell ⟨gb131, 0, none⟩ (.int .i64 ((rd_T88 t127 x19_1).f0))).setCell ⟨gb131, 1, none⟩ (.int .i64 ((rd_T88 t127 x19_1).f1))) = w35 at n0_ n1_ n2_ n3_ n4_ n5_ n6_ n7_ ⊢
        have HO_2:=n0_
        have HO_17:=n1_
        have HO_129002:=n2_
        have BK126:=n3_
        have BK128:=n4_
        have BK131:=n5_
        have HK:=n6_
        have HB:=n7_
        clear n0_ n1_ n2_ n3_ n4_ n5_ n6_ n7_
        have n0_:=Aside0.mk (Kd.R_drew HO_2.out)
        have n1_:=Aside0.mk (Kd.R_drew HO_17.out)
        have n2_:=Aside0.mk (Kd.R_drew HO_129002.out)
        have n3_:=Aside0.mk (blk_drew BK126.out)
        have n4_:=Aside0.mk (blk_drew BK128.out)
        have n5_:=Aside0.mk (blk_drew BK131.out)
        have n6_:=Aside0.mk (Kept.drew HK.out)
        have n7_:=Aside0.mk (below_drew1 HB.out)
        clear HO_2
        clear HO_17
        clear HO_129002
        clear BK126
        clear BK128
        clear BK131
        clear HK
        clear HB
        have HO_2:=n0_
        have HO_17:=n1_
        have HO_129002:=n2_
        have BK126:=n3_
        have BK128:=n4_
        have BK131:=n5_
        have HK:=n6_
        have HB:=n7_
        clear n0_ n1_ n2_ n3_ n4_ n5_ n6_ n7_
       ·have p132 : 0 ≤ ((ji23) : Int):=of_decide_eq_true (by first|(with_reducible assumption)|assumption)
        have q132 : (ji23) < (x129002_1.length : Int):=of_decide_eq_true (by first|(with_reducible assumption)|assumption)
        obtain ⟨ad132, e132, hx132_0, hx132_1⟩:=at_T88 (Kd.R_reads' HO_129002.out).2.2 (ji23) p132 q132
        cases e132
        replace p132:=eq_true p132
        replace q132:=eq_true q132
        refine start_ (n:=14) (S:=fun w'=>w'.cell? ⟨gb128, 0, none⟩ = some (.int .i64 a0)∧w'.cell? ⟨gb128, 1, none⟩ = some (.int .i64 a1)∧w'.cell? ⟨gb128, 2, none⟩ = some (.slice (some ad132) x129002_1.length co34)∧w'.cell? ⟨gb131, 0, none⟩ = some (.int .i64 ((rd_T88 t127 x19_1).f0))∧w'.cell? ⟨gb131, 1, none⟩ = some (.int .i64 ((rd_T88 t127 x19_1).f1))∧w'.cell? (ad132.add (((ji23)).toNat * 2)) = some (.int .i64 ((rd_T88 x129002_1 (ji23)).f0))∧w'.cell? ⟨(ad132.add (((ji23)).toNat * 2)).block, (ad132.add (((ji23)).toNat * 2)).off + 1, none⟩ = some (.int .i64 ((rd_T88 x129002_1 (ji23)).f1))) (ds:=[]) #[false, false, false, false, false, false, false, false, false, false, false, false, false, false] (by kernel_rfl) rfl rfl ⟨(blk_cell BK128.out 0).trans rfl, (blk_cell BK128.out 1).trans rfl, (blk_cell BK128.out 2).trans rfl, (blk_cell BK131.out 0).trans rfl, (blk_cell BK131.out 1).trans rfl, hx132_0, hx132_1⟩ (fun hHeld=>?_);refine with_tabW convexpl_made.tab9 convexpl_made.bits9 (fun HT_ HW_=>?_)
        generalize w35.drew = w36 at HO_2 HO_17 HO_129002 BK126 BK128 BK131 HK HB hx132_0 hx132_1 hHeld ⊢
        refine pure_ (i:=0) (N:=some 38) (v:=?_) (a':=?_) #[true, false, false, false, false, false, false, false, false, false, false, false, false, false] rfl rfl (any_of HT_.out (by kernel_rfl)) (fun _ _ _ h=>h) (Or.inl ⟨by rfl, ?_⟩) ?_ ?_
        rotate_left
        ·intro w'
         go_simp
         with_reducible rfl
        rotate_left
        ·simp only [Act.put, List.setIfInBounds_toArray, List.set_cons_zero, List.set_cons_succ, i64_w, i32_w]
         rfl
        refine pure_ (i:=1) (N:=some 39) (v:=?_) (a':=?_) #[true, true, false, false, false, false, false, false, false, false, false, false, false, false] rfl rfl (any_of HT_.out (by kernel_rfl)) (fun _ _ _ h=>h) (Or.inl ⟨by rfl, ?_⟩) ?_ ?_
        rotate_left
        ·intro w'
         go_simp
         with_reducible rfl
        rotate_left
        ·simp only [Act.put, List.setIfInBounds_toArray, List.set_cons_zero, List.set_cons_succ, i64_w, i32_w]
         rfl
        refine pure_ (i:=2) (N:=some 40) (v:=?_) (a':=?_) #[true, true, true, false, false, false, false, false, false, false, false, false, false, false] rfl rfl (any_of HT_.out (by kernel_rfl)) (fun _ _ _ h=>h) (Or.inl ⟨by rfl, ?_⟩) ?_ ?_
        rotate_left
        ·intro w'
         go_simp
         with_reducible rfl
        rotate_left
        ·simp only [Act.put, List.setIfInBounds_toArray, List.set_cons_zero, List.set_cons_succ, i64_w, i32_w]
         rfl
        refine pure_ (i:=3) (N:=some 41) (v:=?_) (a':=?_) #[true, true, true, true, false, false, false, false, false, false, false, false, false, false] rfl rfl (any_of HT_.out (by kernel_rfl)) (fun _ _ _ h=>h) (Or.inl ⟨by rfl, ?_⟩) ?_ ?_
        rotate_left
        ·intro w'
         go_simp
         with_reducible rfl
        rotate_left
        ·simp only [Act.put, List.setIfInBounds_toArray, List.set_cons_zero, List.set_cons_succ, i64_w, i32_w]
         rfl
        refine pure_ (i:=5) (N:=some 43) (v:=?_) (a':=?_) #[true, true, true, true, false, true, false, false, false, false, false, false, false, false] rfl rfl (any_of HT_.out (by kernel_rfl)) (fun _ _ _ h=>h) (Or.inl ⟨by rfl, ?_⟩) ?_ ?_
        rotate_left
        ·intro w'
         go_simp
         with_reducible rfl
        rotate_left
        ·simp only [Act.put, List.setIfInBounds_toArray, List.set_cons_zero, List.set_cons_succ, i64_w, i32_w]
         rfl
        refine pure_ (i:=9) (N:=some 47) (v:=?_) (a':=?_) #[true, true, true, true, false, true, false, false, false, true, false, false, false, false] rfl rfl (any_of HT_.out (by kernel_rfl)) (fun _ _ _ h=>h) (Or.inl ⟨by rfl, ?_⟩) ?_ ?_
        rotate_left
        ·intro w'
         go_simp
         with_reducible rfl
        rotate_left
        ·simp only [Act.put, List.setIfInBounds_toArray, List.set_cons_zero, List.set_cons_succ, i64_w, i32_w]
         rfl
        refine take_ (i:=4) (N:=some 42) (v:=?_) (a':=?_) #[true, true, true, true, true, true, false, false, false, true, false, false, false, false] rfl rfl (take_ofW HT_.out HW_.out (by kernel_rfl)) (fun _ _ _ h=>h) (Or.inl ⟨by rfl, ?_⟩) hHeld ?_ ?_
        rotate_left
        ·rintro w' ⟨s0, s1, s2, s3, s4, s5, s6⟩
         go_simp
         with_reducible rfl
        rotate_left
        ·simp only [Act.put, List.setIfInBounds_toArray, List.set_cons_zero, List.set_cons_succ, i64_w, i32_w]
         rfl
        refine pure_ (i:=6) (N:=some 44) (v:=?_) (a':=?_) #[true, true, true, true, true, true, true, false, false, true, false, false, false, false] rfl rfl (any_of HT_.out (by kernel_rfl)) (fun _ _ _ h=>h) (Or.inl ⟨by rfl, ?_⟩) ?_ ?_
        rotate_left
        ·intro w'
         go_simp
         with_reducible rfl
        rotate_left
        ·simp only [Act.put, List.setIfInBounds_toArray, List.set_cons_zero, List.set_cons_succ, i64_w, i32_w]
         rfl
        refine pure_ (i:=7) (N:=some 45) (v:=?_) (a':=?_) #[true, true, true, true, true, true, true, true, false, true, false, false, false, false] rfl rfl (any_of HT_.out (by kernel_rfl)) (fun _ _ _ h=>h) (Or.inl ⟨by rfl, ?_⟩) ?_ ?_
        rotate_left
        ·intro w'
         go_simp
         with_reducible rfl
        rotate_left
        ·simp only [Act.put, List.setIfInBounds_toArray, List.set_cons_zero, List.set_cons_succ, i64_w, i32_w]
         rfl
        refine take_ (i:=8) (N:=some 46) (v:=?_) (a':=?_) #[true, true, true, true, true, true, true, true, true, true, false, false, false, false] rfl rfl (take_ofW HT_.out HW_.out (by kernel_rfl)) (fun _ _ _ h=>h) (Or.inl ⟨by rfl, ?_⟩) hHeld ?_ ?_
        rotate_left
        ·rintro w' ⟨s0, s1, s2, s3, s4, s5, s6⟩
         go_simp
         with_reducible rfl
        rotate_left
        ·simp only [Act.put, List.setIfInBounds_toArray, List.set_cons_zero, List.set_cons_succ, i64_w, i32_w]
         rfl
        refine take_ (i:=10) (N:=some 48) (v:=?_) (a':=?_) #[true, true, true, true, true, true, true, true, true, true, true, false, false, false] rfl rfl (take_ofW HT_.out HW_.out (by kernel_rfl)) (fun _ _ _ h=>h) (Or.inl ⟨by rfl, ?_⟩) hHeld ?_ ?_
        rotate_left
        ·rintro w' ⟨s0, s1, s2, s3, s4, s5, s6⟩
         go_simp
         with_reducible rfl
        rotate_left
        ·simp only [Act.put, List.setIfInBounds_toArray, List.set_cons_zero, List.set_cons_succ, i64_w, i32_w]
         rfl
        refine pure_ (i:=11) (N:=some 49) (v:=?_) (a':=?_) #[true, true, true, true, true, true, true, true, true, true, true, true, false, false] rfl rfl (any_of HT_.out (by kernel_rfl)) (fun _ _ _ h=>h) (Or.inl ⟨by rfl, ?_⟩) ?_ ?_
        rotate_left
        ·intro w'
         go_simp
         with_reducible rfl
        rotate_left
        ·simp only [Act.put, List.setIfInBounds_toArray, List.set_cons_zero, List.set_cons_succ, i64_w, i32_w]
         rfl
        refine pure_ (i:=12) (N:=some 50) (v:=?_) (a':=?_) #[true, true, true, true, true, true, true, true, true, true, true, true, true, false] rfl rfl (any_of HT_.out (by kernel_rfl)) (fun _ _ _ h=>h) (Or.inl ⟨by rfl, ?_⟩) ?_ ?_
        rotate_left
        ·intro w'
         go_simp
         with_reducible rfl
        rotate_left
        ·simp only [Act.put, List.setIfInBounds_toArray, List.set_cons_zero, List.set_cons_succ, i64_w, i32_w]
         rfl
        refine pure_ (i:=13) (N:=some 37) (v:=?_) (a':=?_) #[true, true, true, true, true, true, true, true, true, true, true, true, true, true] rfl rfl (any_of HT_.out (by kernel_rfl)) (fun _ _ _ h=>h) (Or.inl ⟨by rfl, ?_⟩) ?_ ?_
        rotate_left
        ·intro w'
         go_simp
         with_reducible rfl
        rotate_left
        ·simp only [Act.put, List.setIfInBounds_toArray, List.set_cons_zero, List.set_cons_succ, i64_w, i32_w]
         rfl
        refine done_ (done_of HT_.out (by kernel_rfl)) ?_
        try go_wp2
        have n0_:=Aside0.mk (Kd.R_drew HO_2.out)
        have n1_:=Aside0.mk (Kd.R_drew HO_17.out)
        have n2_:=Aside0.mk (Kd.R_drew HO_129002.out)
        have n3_:=Aside0.mk (blk_drew BK126.out)
        have n4_:=Aside0.mk (blk_drew BK128.out)
        have n5_:=Aside0.mk (blk_drew BK131.out)
        have n6_:=Aside0.mk (Kept.drew HK.out)
        have n7_:=Aside0.mk (below_drew1 HB.out)
        clear HO_2
        clear HO_17
        clear HO_129002
        clear BK126
        clear BK128
        clear BK131
        clear HK
        clear HB
        have HO_2:=n0_
        have HO_17:=n1_
        have HO_129002:=n2_
        have BK126:=n3_
        have BK128:=n4_
        have BK131:=n5_
        have HK:=n6_
        have HB:=n7_
        clear n0_ n1_ n2_ n3_ n4_ n5_ n6_ n7_
        have p133 : 0 ≤ ((ji23) : Int):=of_decide_eq_true (by first|(with_reducible assumption)|assumption)
        have q133 : (ji23) < (x129002_1.length : Int):=of_decide_eq_true (by first|(with_reducible assumption)|assumption)
        obtain ⟨ad133, e133, hx133_0, hx133_1⟩:=at_T88 (Kd.R_reads' HO_129002.out).2.2 (ji23) p133 q133
        obtain rfl : ad132 = ad133:=(by injection e133)
        replace p133:=eq_true p133
        replace q133:=eq_true q133
        have p27 : 0 ≤ ((ji23) : Int):=of_decide_eq_true (by first|(with_reducible assumption)|assumption)
        have q27 : ((ji23) : Int) < ((x129002_1.length : Int) : Int):=of_decide_eq_true (by first|(with_reducible assumption)|assumption)
        obtain ⟨go27, co27, eo27, gb27, gl27, cl27, HG27⟩:=Kd.R_form HO_129002.out (by omega)
        (first|cases eo27|(injection eo27 with ea_ en_ ec_;(first|subst ea_|(injection ea_ with ea_;subst ea_));subst ec_;clear en_))
        have GB27:=Aside0.mk gb27
        have GG27:=Aside0.mk HG27
        clear gb27 gl27 HG27
        have HMgo27:=Aside0.mk (show (P2_ go27 ∨ w.heap.size ≤ go27) from (HO_129002.out.1 _ rfl).1)
        (first|simp only [add_plain] at hx132_0|skip)
        (first|simp only [add_plain] at hx132_1|skip)
        (first|simp only [add_plain] at hx133_0|skip)
        (first|simp only [add_plain] at hx133_1|skip)
        obtain ⟨ce27, hcl27, hM27, hcc27, hfr27⟩:=Kd.R_elem HO_129002.out z88 ((ji23) : Int) p27 q27
        obtain rfl:=k88_openM hM27
        have hx27_0 : World.cell? _ ⟨go27, ((ji23) : Int).toNat * 2, none⟩ = some (.int .i64 ((rd_T88 x129002_1 (ji23)).f0)):=hcc27 0 _ rfl
        have hx27_1 : World.cell? _ ⟨go27, ((ji23) : Int).toNat * 2 + 1, none⟩ = some (.int .i64 ((rd_T88 x129002_1 (ji23)).f1)):=hcc27 1 _ rfl
        have hf27_0 : World.frozen? _ ⟨go27, ((ji23) : Int).toNat * 2, none⟩ = false:=hfr27 0
        have hf27_1 : World.frozen? _ ⟨go27, ((ji23) : Int).toNat * 2 + 1, none⟩ = false:=hfr27 1
        clear hcl27 hcc27 hfr27 hM27
        replace p27:=eq_true p27
        replace q27:=eq_true q27
        obtain ⟨ce38, hcl38, hM38, hcc38, hfr38⟩:=Kd.R_elem HO_129002.out z88 ((ji23) : Int) (of_decide_eq_true (by first|(with_reducible assumption)|assumption)) (by have h_ : ((ji23) : Int) < ((x129002_1.length : Int) : Int):=of_decide_eq_true (by first|(with_reducible assumption)|assumption);first|exact h_|(have e_:=(Kd.R_reads' HO_129002.out).1;omega)|simpa using h_)
        obtain rfl:=k88_openM hM38
        have HP38:=(Kd.R_seg HO_129002.out ((ji23) : Int) (of_decide_eq_true (by first|(with_reducible assumption)|assumption)) (by have h_ : ((ji23) : Int) < ((x129002_1.length : Int) : Int):=of_decide_eq_true (by first|(with_reducible assumption)|assumption);first|exact h_|(have e_:=(Kd.R_reads' HO_129002.out).1;omega)|simpa using h_) (seg:=[.int .i64 (wrap64 (((rd_T88 x129002_1 (ji23)).f0) + ((rd_T88 t127 x19_1).f0)))]) (j:=0) hcl38 hcc38 (show 1 ≤ 2 from by decide) (x':=(⟨wrap64 (((rd_T88 x129002_1 (ji23)).f0) + ((rd_T88 t127 x19_1).f0)),(rd_T88 x129002_1 (ji23)).f1⟩ : S88)) (k88_mkM _ _ _ (⟨wrap64 (((rd_T88 x129002_1 (ji23)).f0) + ((rd_T88 t127 x19_1).f0)),(rd_T88 x129002_1 (ji23)).f1⟩ : S88) ) (fun _ hk=>hk)).1
        rw [← Ny134.out] at HP38
        have HQ38:=Aside0.mk HP38
        clear hcl38 hcc38 hfr38 hM38 HP38
        refine start_ (n:=12) (S:=fun w'=>w'.cell? ⟨gb128, 0, none⟩ = some (.int .i64 a0)∧w'.cell? ⟨gb128, 1, none⟩ = some (.int .i64 a1)∧w'.cell? ⟨gb128, 2, none⟩ = some (.slice (some ⟨go27, 0, none⟩) x129002_1.length co34)∧w'.cell? ⟨gb131, 0, none⟩ = some (.int .i64 ((rd_T88 t127 x19_1).f0))∧w'.cell? ⟨gb131, 1, none⟩ = some (.int .i64 ((rd_T88 t127 x19_1).f1))∧w'.cell? ⟨go27, (((ji23)).toNat * 2), none⟩ = some (.int .i64 ((rd_T88 x129002_1 (ji23)).f0))∧w'.cell? ⟨go27, (((ji23)).toNat * 2) + 1, none⟩ = some (.int .i64 ((rd_T88 x129002_1 (ji23)).f1))) (ds:=[11]) #[false, false, false, false, false, false, false, false, false, false, false, false] (by kernel_rfl) rfl rfl ⟨(blk_cell BK128.out 0).trans rfl, (blk_cell BK128.out 1).trans rfl, (blk_cell BK128.out 2).trans rfl, (blk_cell BK131.out 0).trans rfl, (blk_cell BK131.out 1).trans rfl, hx133_0, hx133_1⟩ (fun hHeld=>?_);refine with_tabW convexpl_made.tab10 convexpl_made.bits10 (fun HT_ HW_=>?_)
        generalize w36.drew = w37 at HO_2 HO_17 HO_129002 BK126 BK128 BK131 HK HB GG27 HQ38 hf27_0 hf27_1 hx132_0 hx132_1 hx133_0 hx133_1 hx27_0 hx27_1 hHeld ⊢
        refine pure_ (i:=0) (N:=some 51) (v:=?_) (a':=?_) #[true, false, false, false, false, false, false, false, false, false, false, false] rfl rfl (any_of HT_.out (by kernel_rfl)) (fun _ _ _ h=>h) (Or.inl ⟨by rfl, ?_⟩) ?_ ?_
        rotate_left
        ·intro w'
         go_simp
         with_reducible rfl
        rotate_left
        ·simp only [Act.put, List.setIfInBounds_toArray, List.set_cons_zero, List.set_cons_succ, i64_w, i32_w]
         rfl
        refine pure_ (i:=2) (N:=some 53) (v:=?_) (a':=?_) #[true, false, true, false, false, false, false, false, false, false, false, false] rfl rfl (any_of HT_.out (by kernel_rfl)) (fun _ _ _ h=>h) (Or.inl ⟨by rfl, ?_⟩) ?_ ?_
        rotate_left
        ·intro w'
         go_simp
         with_reducible rfl
        rotate_left
        ·simp only [Act.put, List.setIfInBounds_toArray, List.set_cons_zero, List.set_cons_succ, i64_w, i32_w]
         rfl
        refine pure_ (i:=6) (N:=some 57) (v:=?_) (a':=?_) #[true, false, true, false, false, false, true, false, false, false, false, false] rfl rfl (any_of HT_.out (by kernel_rfl)) (fun _ _ _ h=>h) (Or.inl ⟨by rfl, ?_⟩) ?_ ?_
        rotate_left
        ·intro w'
         go_simp
         with_reducible rfl
        rotate_left
        ·simp only [Act.put, List.setIfInBounds_toArray, List.set_cons_zero, List.set_cons_succ, i64_w, i32_w]
         rfl
        refine take_ (i:=1) (N:=some 52) (v:=?_) (a':=?_) #[true, true, true, false, false, false, true, false, false, false, false, false] rfl rfl (take_ofW HT_.out HW_.out (by kernel_rfl)) (fun _ _ _ h=>h) (Or.inl ⟨by rfl, ?_⟩) hHeld ?_ ?_
        rotate_left
        ·rintro w' ⟨s0, s1, s2, s3, s4, s5, s6⟩
         go_simp
         with_reducible rfl
        rotate_left
        ·simp only [Act.put, List.setIfInBounds_toArray, List.set_cons_zero, List.set_cons_succ, i64_w, i32_w]
         rfl
        refine pure_ (i:=3) (N:=some 54) (v:=?_) (a':=?_) #[true, true, true, true, false, false, true, false, false, false, false, false] rfl rfl (any_of HT_.out (by kernel_rfl)) (fun _ _ _ h=>h) (Or.inl ⟨by rfl, ?_⟩) ?_ ?_
        rotate_left
        ·intro w'
         go_simp
         with_reducible rfl
        rotate_left
        ·simp only [Act.put, List.setIfInBounds_toArray, List.set_cons_zero, List.set_cons_succ, i64_w, i32_w]
         rfl
        refine pure_ (i:=4) (N:=some 55) (v:=?_) (a':=?_) #[true, true, true, true, true, false, true, false, false, false, false, false] rfl rfl (any_of HT_.out (by kernel_rfl)) (fun _ _ _ h=>h) (Or.inl ⟨by rfl, ?_⟩) ?_ ?_
        rotate_left
        ·intro w'
         go_simp
         with_reducible rfl
        rotate_left
        ·simp only [Act.put, List.setIfInBounds_toArray, List.set_cons_zero, List.set_cons_succ, i64_w, i32_w]
         rfl
        refine take_ (i:=5) (N:=some 56) (v:=?_) (a':=?_) #[true, true, true, true, true, true, true, false, false, false, false, false] rfl rfl (take_ofW HT_.out HW_.out (by kernel_rfl)) (fun _ _ _ h=>h) (Or.inl ⟨by rfl, ?_⟩) hHeld ?_ ?_
        rotate_left
        ·rintro w' ⟨s0, s1, s2, s3, s4, s5, s6⟩
         go_simp
         with_reducible rfl
        rotate_left
        ·simp only [Act.put, List.setIfInBounds_toArray, List.set_cons_zero, List.set_cons_succ, i64_w, i32_w]
         rfl
        refine take_ (i:=7) (N:=some 58) (v:=?_) (a':=?_) #[true, true, true, true, true, true, true, true, false, false, false, false] rfl rfl (take_ofW HT_.out HW_.out (by kernel_rfl)) (fun _ _ _ h=>h) (Or.inl ⟨by rfl, ?_⟩) hHeld ?_ ?_
        rotate_left
        ·rintro w' ⟨s0, s1, s2, s3, s4, s5, s6⟩
         go_simp
         with_reducible rfl
        rotate_left
        ·simp only [Act.put, List.setIfInBounds_toArray, List.set_cons_zero, List.set_cons_succ, i64_w, i32_w]
         rfl
        refine pure_ (i:=8) (N:=some 59) (v:=?_) (a':=?_) #[true, true, true, true, true, true, true, true, true, false, false, false] rfl rfl (any_of HT_.out (by kernel_rfl)) (fun _ _ _ h=>h) (Or.inl ⟨by rfl, ?_⟩) ?_ ?_
        rotate_left
        ·intro w'
         go_simp
         with_reducible rfl
        rotate_left
        ·simp only [Act.put, List.setIfInBounds_toArray, List.set_cons_zero, List.set_cons_succ, i64_w, i32_w]
         rfl
        refine pure_ (i:=9) (N:=some 60) (v:=?_) (a':=?_) #[true, true, true, true, true, true, true, true, true, true, false, false] rfl rfl (any_of HT_.out (by kernel_rfl)) (fun _ _ _ h=>h) (Or.inl ⟨by rfl, ?_⟩) ?_ ?_
        rotate_left
        ·intro w'
         go_simp
         with_reducible rfl
        rotate_left
        ·simp only [Act.put, List.setIfInBounds_toArray, List.set_cons_zero, List.set_cons_succ, i64_w, i32_w]
         rfl
        refine pure_ (i:=10) (N:=some 61) (v:=?_) (a':=?_) #[true, true, true, true, true, true, true, true, true, true, true, false] rfl rfl (any_of HT_.out (by kernel_rfl)) (fun _ _ _ h=>h) (Or.inl ⟨by rfl, ?_⟩) ?_ ?_
        rotate_left
        ·intro w'
         go_simp
         with_reducible rfl
        rotate_left
        ·simp only [Act.put, List.setIfInBounds_toArray, List.set_cons_zero, List.set_cons_succ, i64_w, i32_w]
         rfl
        refine last_ (i:=11) (N:=none) #[true, true, true, true, true, true, true, true, true, true, true, true] rfl rfl (one_of HT_.out (by kernel_rfl)) (by decide) (fun K hK=>?_)
        refine skip_ (w1:=?_) (by rfl) rfl ?_ ?_
        rotate_left
        ·go_simp
         rfl
        refine hK.out _ _ ?_
        clear hK K
        refine done_ (done_of HT_.out (by kernel_rfl)) ?_
        try go_wp2
        (try simp only [← hl2_1])
        go_roundg k1
        case measure=>have:=HK1.out;omega
        case rel=>exact ⟨(wrap64 (x19_1 + 1)),(y134),(.slice (some ⟨go27, 0, none⟩) x129002_1.length co34),(by first|rfl|(simp;done)|(simp [*];done)), H', ⟨by have:=HK1.out;omega⟩,⟨by (try simp only [hl2_1]);(with_reducible repeat (first|apply Kd.R_alloc|apply Kd.R_drewN|apply Kd.R_drew));exact Kd.R_mono (Kd.R_far (p:=⟨go27, ((ji23) : Int).toNat * 2, none⟩) (Kd.R_mono HO_2.out (fun k_ hk=>(⟨hk, fun e_=>hk.2.1 (by rw [e_];rfl)⟩ : _∧k_ ≠ go27))) (fun _ hk=>hk.2) (.int .i64 (wrap64 (((rd_T88 x129002_1 (ji23)).f0) + ((rd_T88 t127 x19_1).f0))))) (fun _ hk=>⟨hk.1.1, hk.1.2.1⟩)⟩,⟨by (try simp only [hl2_1]);(with_reducible repeat (first|apply Kd.R_alloc|apply Kd.R_drewN|apply Kd.R_drew));exact Kd.R_mono (Kd.R_far (p:=⟨go27, ((ji23) : Int).toNat * 2, none⟩) (Kd.R_mono HO_17.out (fun k_ hk=>(⟨hk, fun e_=>hk.2.1 (by rw [e_];rfl)⟩ : _∧k_ ≠ go27))) (fun _ hk=>hk.2) (.int .i64 (wrap64 (((rd_T88 x129002_1 (ji23)).f0) + ((rd_T88 t127 x19_1).f0))))) (fun _ hk=>⟨hk.1.1, hk.1.2.1⟩)⟩,⟨by (try simp only [hl2_1]);(with_reducible repeat (first|apply Kd.R_alloc|apply Kd.R_drewN|apply Kd.R_drew));exact Kd.R_mono HQ38.out (fun _ hk=>⟨hk.1, ⟨hk.2.1, hk.2.2.1⟩⟩)⟩,⟨by (try simp only [hl2_1]);(with_reducible repeat (first|refine blk_drewN ?_ _|refine blk_drew ?_|refine blk_alloc ?_ _));refine blk_far ?_ (by have h_:=Kd.R_ne HO_129002.out BK126.out (by decide);intro e_;exact h_ (by rw [e_];rfl)) _;(with_reducible repeat (first|refine blk_drewN ?_ _|refine blk_drew ?_|refine blk_alloc ?_ _));exact BK126.out⟩,⟨by (try simp only [hl2_1]);(with_reducible repeat (first|refine blk_drewN ?_ _|refine blk_drew ?_|refine blk_alloc ?_ _));refine blk_far ?_ (by have h_:=Kd.R_ne HO_129002.out BK128.out (by decide);intro e_;exact h_ (by rw [e_];rfl)) _;(with_reducible repeat (first|refine blk_drewN ?_ _|refine blk_drew ?_|refine blk_alloc ?_ _));exact BK128.out⟩,⟨by repeat (first|(with_reducible first|exact HK.out|apply Kept.alloc|apply Kept.drewN|apply Kept.drew|refine Kept.setCell ?_ HMgo27.out _|refine Kept.setCell ?_ (.inr GW126.out) _|refine Kept.setCell ?_ (.inr GW128.out) _|refine Kept.setCell ?_ (.inr GW131.out) _)|exact HK.out)⟩,⟨by repeat (first|(with_reducible first|exact HB.out|apply below_alloc|apply pw_below_drewN|apply below_drew1|refine below_set ?_ GB27.out|refine below_set ?_ GE126.out|refine below_set ?_ GE128.out|refine below_set ?_ GE131.out)|exact HB.out)⟩⟩
       ·have p132 : 0 ≤ ((ji23) : Int):=of_decide_eq_true (by first|(with_reducible assumption)|assumption)
        have q132 : (ji23) < (x129002_1.length : Int):=of_decide_eq_true (by first|(with_reducible assumption)|assumption)
        obtain ⟨ad132, e132, hx132_0, hx132_1⟩:=at_T88 (Kd.R_reads' HO_129002.out).2.2 (ji23) p132 q132
        cases e132
        replace p132:=eq_true p132
        replace q132:=eq_true q132
        refine start_ (n:=14) (S:=fun w'=>w'.cell? ⟨gb128, 0, none⟩ = some (.int .i64 a0)∧w'.cell? ⟨gb128, 1, none⟩ = some (.int .i64 a1)∧w'.cell? ⟨gb128, 2, none⟩ = some (.slice (some ad132) x129002_1.length co34)∧w'.cell? ⟨gb131, 0, none⟩ = some (.int .i64 ((rd_T88 t127 x19_1).f0))∧w'.cell? ⟨gb131, 1, none⟩ = some (.int .i64 ((rd_T88 t127 x19_1).f1))∧w'.cell? (ad132.add (((ji23)).toNat * 2)) = some (.int .i64 ((rd_T88 x129002_1 (ji23)).f0))∧w'.cell? ⟨(ad132.add (((ji23)).toNat * 2)).block, (ad132.add (((ji23)).toNat * 2)).off + 1, none⟩ = some (.int .i64 ((rd_T88 x129002_1 (ji23)).f1))) (ds:=[]) #[false, false, false, false, false, false, false, false, false, false, false, false, false, false] (by kernel_rfl) rfl rfl ⟨(blk_cell BK128.out 0).trans rfl, (blk_cell BK128.out 1).trans rfl, (blk_cell BK128.out 2).trans rfl, (blk_cell BK131.out 0).trans rfl, (blk_cell BK131.out 1).trans rfl, hx132_0, hx132_1⟩ (fun hHeld=>?_);refine with_tabW convexpl_made.tab9 convexpl_made.bits9 (fun HT_ HW_=>?_)
        generalize w35.drew = w36 at HO_2 HO_17 HO_129002 BK126 BK128 BK131 HK HB hx132_0 hx132_1 hHeld ⊢
        refine pure_ (i:=0) (N:=some 38) (v:=?_) (a':=?_) #[true, false, false, false, false, false, false, false, false, false, false, false, false, false] rfl rfl (any_of HT_.out (by kernel_rfl)) (fun _ _ _ h=>h) (Or.inl ⟨by rfl, ?_⟩) ?_ ?_
        rotate_left
        ·intro w'
         go_simp
         with_reducible rfl
        rotate_left
        ·simp only [Act.put, List.setIfInBounds_toArray, List.set_cons_zero, List.set_cons_succ, i64_w, i32_w]
         rfl
        refine pure_ (i:=1) (N:=some 39) (v:=?_) (a':=?_) #[true, true, false, false, false, false, false, false, false, false, false, false, false, false] rfl rfl (any_of HT_.out (by kernel_rfl)) (fun _ _ _ h=>h) (Or.inl ⟨by rfl, ?_⟩) ?_ ?_
        rotate_left
        ·intro w'
         go_simp
         with_reducible rfl
        rotate_left
        ·simp only [Act.put, List.setIfInBounds_toArray, List.set_cons_zero, List.set_cons_succ, i64_w, i32_w]
         rfl
        refine pure_ (i:=2) (N:=some 40) (v:=?_) (a':=?_) #[true, true, true, false, false, false, false, false, false, false, false, false, false, false] rfl rfl (any_of HT_.out (by kernel_rfl)) (fun _ _ _ h=>h) (Or.inl ⟨by rfl, ?_⟩) ?_ ?_
        rotate_left
        ·intro w'
         go_simp
         with_reducible rfl
        rotate_left
        ·simp only [Act.put, List.setIfInBounds_toArray, List.set_cons_zero, List.set_cons_succ, i64_w, i32_w]
         rfl
        refine pure_ (i:=3) (N:=some 41) (v:=?_) (a':=?_) #[true, true, true, true, false, false, false, false, false, false, false, false, false, false] rfl rfl (any_of HT_.out (by kernel_rfl)) (fun _ _ _ h=>h) (Or.inl ⟨by rfl, ?_⟩) ?_ ?_
        rotate_left
        ·intro w'
         go_simp
         with_reducible rfl
        rotate_left
        ·simp only [Act.put, List.setIfInBounds_toArray, List.set_cons_zero, List.set_cons_succ, i64_w, i32_w]
         rfl
        refine pure_ (i:=5) (N:=some 43) (v:=?_) (a':=?_) #[true, true, true, true, false, true, false, false, false, false, false, false, false, false] rfl rfl (any_of HT_.out (by kernel_rfl)) (fun _ _ _ h=>h) (Or.inl ⟨by rfl, ?_⟩) ?_ ?_
        rotate_left
        ·intro w'
         go_simp
         with_reducible rfl
        rotate_left
        ·simp only [Act.put, List.setIfInBounds_toArray, List.set_cons_zero, List.set_cons_succ, i64_w, i32_w]
         rfl
        refine pure_ (i:=9) (N:=some 47) (v:=?_) (a':=?_) #[true, true, true, true, false, true, false, false, false, true, false, false, false, false] rfl rfl (any_of HT_.out (by kernel_rfl)) (fun _ _ _ h=>h) (Or.inl ⟨by rfl, ?_⟩) ?_ ?_
        rotate_left
        ·intro w'
         go_simp
         with_reducible rfl
        rotate_left
        ·simp only [Act.put, List.setIfInBounds_toArray, List.set_cons_zero, List.set_cons_succ, i64_w, i32_w]
         rfl
        refine take_ (i:=4) (N:=some 42) (v:=?_) (a':=?_) #[true, true, true, true, true, true, false, false, false, true, false, false, false, false] rfl rfl (take_ofW HT_.out HW_.out (by kernel_rfl)) (fun _ _ _ h=>h) (Or.inl ⟨by rfl, ?_⟩) hHeld ?_ ?_
        rotate_left
        ·rintro w' ⟨s0, s1, s2, s3, s4, s5, s6⟩
         go_simp
         with_reducible rfl
        rotate_left
        ·simp only [Act.put, List.setIfInBounds_toArray, List.set_cons_zero, List.set_cons_succ, i64_w, i32_w]
         rfl
        refine pure_ (i:=6) (N:=some 44) (v:=?_) (a':=?_) #[true, true, true, true, true, true, true, false, false, true, false, false, false, false] rfl rfl (any_of HT_.out (by kernel_rfl)) (fun _ _ _ h=>h) (Or.inl ⟨by rfl, ?_⟩) ?_ ?_
        rotate_left
        ·intro w'
         go_simp
         with_reducible rfl
        rotate_left
        ·simp only [Act.put, List.setIfInBounds_toArray, List.set_cons_zero, List.set_cons_succ, i64_w, i32_w]
         rfl
        refine pure_ (i:=7) (N:=some 45) (v:=?_) (a':=?_) #[true, true, true, true, true, true, true, true, false, true, false, false, false, false] rfl rfl (any_of HT_.out (by kernel_rfl)) (fun _ _ _ h=>h) (Or.inl ⟨by rfl, ?_⟩) ?_ ?_
        rotate_left
        ·intro w'
         go_simp
         with_reducible rfl
        rotate_left
        ·simp only [Act.put, List.setIfInBounds_toArray, List.set_cons_zero, List.set_cons_succ, i64_w, i32_w]
         rfl
        refine take_ (i:=8) (N:=some 46) (v:=?_) (a':=?_) #[true, true, true, true, true, true, true, true, true, true, false, false, false, false] rfl rfl (take_ofW HT_.out HW_.out (by kernel_rfl)) (fun _ _ _ h=>h) (Or.inl ⟨by rfl, ?_⟩) hHeld ?_ ?_
        rotate_left
        ·rintro w' ⟨s0, s1, s2, s3, s4, s5, s6⟩
         go_simp
         with_reducible rfl
        rotate_left
        ·simp only [Act.put, List.setIfInBounds_toArray, List.set_cons_zero, List.set_cons_succ, i64_w, i32_w]
         rfl
        refine take_ (i:=10) (N:=some 48) (v:=?_) (a':=?_) #[true, true, true, true, true, true, true, true, true, true, true, false, false, false] rfl rfl (take_ofW HT_.out HW_.out (by kernel_rfl)) (fun _ _ _ h=>h) (Or.inl ⟨by rfl, ?_⟩) hHeld ?_ ?_
        rotate_left
        ·rintro w' ⟨s0, s1, s2, s3, s4, s5, s6⟩
         go_simp
         with_reducible rfl
        rotate_left
        ·simp only [Act.put, List.setIfInBounds_toArray, List.set_cons_zero, List.set_cons_succ, i64_w, i32_w]
         rfl
        refine pure_ (i:=11) (N:=some 49) (v:=?_) (a':=?_) #[true, true, true, true, true, true, true, true, true, true, true, true, false, false] rfl rfl (any_of HT_.out (by kernel_rfl)) (fun _ _ _ h=>h) (Or.inl ⟨by rfl, ?_⟩) ?_ ?_
        rotate_left
        ·intro w'
         go_simp
         with_reducible rfl
        rotate_left
        ·simp only [Act.put, List.setIfInBounds_toArray, List.set_cons_zero, List.set_cons_succ, i64_w, i32_w]
         rfl
        refine pure_ (i:=12) (N:=some 50) (v:=?_) (a':=?_) #[true, true, true, true, true, true, true, true, true, true, true, true, true, false] rfl rfl (any_of HT_.out (by kernel_rfl)) (fun _ _ _ h=>h) (Or.inl ⟨by rfl, ?_⟩) ?_ ?_
        rotate_left
        ·intro w'
         go_simp
         with_reducible rfl
        rotate_left
        ·simp only [Act.put, List.setIfInBounds_toArray, List.set_cons_zero, List.set_cons_succ, i64_w, i32_w]
         rfl
        refine pure_ (i:=13) (N:=some 37) (v:=?_) (a':=?_) #[true, true, true, true, true, true, true, true, true, true, true, true, true, true] rfl rfl (any_of HT_.out (by kernel_rfl)) (fun _ _ _ h=>h) (Or.inl ⟨by rfl, ?_⟩) ?_ ?_
        rotate_left
        ·intro w'
         go_simp
         with_reducible rfl
        rotate_left
        ·simp only [Act.put, List.setIfInBounds_toArray, List.set_cons_zero, List.set_cons_succ, i64_w, i32_w]
         rfl
        refine done_ (done_of HT_.out (by kernel_rfl)) ?_
        have hcz49_0 : w36.cell? ⟨gb128, 0, none⟩ = some (.int .i64 a0):=(blk_cell BK128.out 0).trans rfl
        have hcz49_1 : w36.cell? ⟨gb128, 1, none⟩ = some (.int .i64 a1):=(blk_cell BK128.out 1).trans rfl
        have hcz49_2 : w36.cell? ⟨gb128, 2, none⟩ = some (.slice (some ad132) x129002_1.length co34):=(blk_cell BK128.out 2).trans rfl
        have hfz49_0:=blk_frozen BK128.out 0
        have hfz49_1:=blk_frozen BK128.out 1
        have hfz49_2:=blk_frozen BK128.out 2
        have hcz50_0 : w36.cell? ⟨gb131, 0, none⟩ = some (.int .i64 ((rd_T88 t127 x19_1).f0)):=(blk_cell BK131.out 0).trans rfl
        have hcz50_1 : w36.cell? ⟨gb131, 1, none⟩ = some (.int .i64 ((rd_T88 t127 x19_1).f1)):=(blk_cell BK131.out 1).trans rfl
        have hfz50_0:=blk_frozen BK131.out 0
        have hfz50_1:=blk_frozen BK131.out 1
        try go_wp2_with (first|((with_reducible refine gate_builtin (b:=.append) (xs:=#[.tmp 28, .tmp 30]) rfl ?_);at_builtin;refine Kd.R_append k88 (w0:=w0) w0.heap.size rfl (.tmp 28) (.tmp 30) 80 88 (.agg #[(.int .i64 0),(.int .i64 0)]) 16 rfl Try.underlying80 info88 rfl (by decide) (by omega) (.slice (some ad132) x129002_1.length co34) x129002_1 (⟨(rd_T88 t127 x19_1).f0, (rd_T88 t127 x19_1).f1⟩ : S88) [.int .i64 ((rd_T88 t127 x19_1).f0), .int .i64 ((rd_T88 t127 x19_1).f1)] (fun k_=>(P2_ k_ ∨ w.heap.size ≤ k_)∧some k_ ≠ (.slice (some ad130) t127.length co6 : Value).ownBlock∧some k_ ≠ (.slice (some ad130) t127.length co6 : Value).ownBlock∧k_ ≠ gb131) (fun _=>False) rfl rfl ?aP (fun _ hk=>hk.elim) ?aF ?aO ?aB ?aS ?aL ?_;(case aP=>exact k88_mkM _ _ _ (⟨(rd_T88 t127 x19_1).f0, (rd_T88 t127 x19_1).f1⟩ : S88));(case aB=>exact (by repeat (first|(with_reducible first|exact HB.out|apply below_alloc|apply pw_below_drewN|apply below_drew1|refine below_set ?_ GE126.out|refine below_set ?_ GE128.out|refine below_set ?_ GE131.out)|exact HB.out)));(case aF=>exact (fun k_ hk=>⟨(.inr (Nat.le_trans (by first|exact HK.out.1|exact (show Kept w _ (fun k_=>P2_ k_) from by repeat (first|(with_reducible first|exact HK.out|apply Kept.alloc|apply Kept.drewN|apply Kept.drew|refine Kept.setCell ?_ (.inr GW126.out) _|refine Kept.setCell ?_ (.inr GW128.out) _|refine Kept.setCell ?_ (.inr GW131.out) _)|exact HK.out)).1) hk)), Kd.fresh' (Kd.R_lt (by (with_reducible repeat (first|apply Kd.R_alloc|apply Kd.R_drewN|apply Kd.R_drew));exact HO_2.out)) k_ hk, Kd.fresh' (Kd.R_lt (by (with_reducible repeat (first|apply Kd.R_alloc|apply Kd.R_drewN|apply Kd.R_drew));exact HO_17.out)) k_ hk, Kd.freshB (g:=gb131) (o:=.cells #[.int .i64 ((rd_T88 t127 x19_1).f0), .int .i64 ((rd_T88 t127 x19_1).f1)] 88 (0, 0)) (by (with_reducible repeat (first|refine blk_drewN ?_ _|refine blk_drew ?_|refine blk_alloc ?_ _));exact BK131.out) k_ hk⟩));(case aO=>exact (by (with_reducible repeat (first|apply Kd.R_alloc|apply Kd.R_drewN|apply Kd.R_drew));exact HO_129002.out));(case aS=>exact (below_size (by repeat (first|(with_reducible first|exact HB.out|apply below_alloc|apply pw_below_drewN|apply below_drew1|refine below_set ?_ GE126.out|refine below_set ?_ GE128.out|refine below_set ?_ GE131.out)|exact HB.out))));(case aL=>have:=LMc39.out;omega);intro v136 w51 ho hb hg hat;rw [← Ny135.out] at ho;have n0_:=Aside0.mk (Kd.R_after (ok:=(fun k_=>(P2_ k_ ∨ w.heap.size ≤ k_)∧k_ ≠ gb131)) (by (with_reducible repeat (first|apply Kd.R_alloc|apply Kd.R_drewN|apply Kd.R_drew));exact Kd.R_mono HO_2.out (fun _ hk=>⟨⟨hk.1, hk.2.2⟩, hk.2.1⟩)) hg hat);have n1_:=Aside0.mk (Kd.R_after (ok:=(fun k_=>(P2_ k_ ∨ w.heap.size ≤ k_)∧k_ ≠ gb131)) (by (with_reducible repeat (first|apply Kd.R_alloc|apply Kd.R_drewN|apply Kd.R_drew));exact Kd.R_mono HO_17.out (fun _ hk=>⟨⟨hk.1, hk.2.2⟩, hk.2.1⟩)) hg hat);have n2_:=Aside0.mk (blk_grown (g:=gb126) (o:=.cells #[.int .i64 0, .int .i64 0, .slice none 0 0] 82 (0, 0)) (by (with_reducible repeat (first|refine blk_drewN ?_ _|refine blk_drew ?_|refine blk_alloc ?_ _));exact BK126.out) hg (Kd.R_ne HO_129002.out BK126.out (by decide)));have n3_:=Aside0.mk (blk_grown (g:=gb128) (o:=.cells #[.int .i64 a0, .int .i64 a1, .slice (some ad132) x129002_1.length co34] 82 (0, 0)) (by (with_reducible repeat (first|refine blk_drewN ?_ _|refine blk_drew ?_|refine blk_alloc ?_ _));exact BK128.out) hg (Kd.R_ne HO_129002.out BK128.out (by decide)));have n4_:=Aside0.mk (blk_grown (g:=gb131) (o:=.cells #[.int .i64 ((rd_T88 t127 x19_1).f0), .int .i64 ((rd_T88 t127 x19_1).f1)] 88 (0, 0)) (by (with_reducible repeat (first|refine blk_drewN ?_ _|refine blk_drew ?_|refine blk_alloc ?_ _));exact BK131.out) hg (Kd.R_away HO_129002.out (fun _ hk=>hk.2.2.2)));have n5_:=Aside0.mk (hb);have n6_:=Aside0.mk (Kept.of_grown (S:=(fun k_=>P2_ k_)) hg (by repeat (first|(with_reducible first|exact HK.out|apply Kept.alloc|apply Kept.drewN|apply Kept.drew|refine Kept.setCell ?_ (.inr GW126.out) _|refine Kept.setCell ?_ (.inr GW128.out) _|refine Kept.setCell ?_ (.inr GW131.out) _)|exact HK.out)) (fun k_ e_=>(HO_129002.out.1 k_ e_).1));have n7_:=Aside0.mk (ho);clear HO_2;clear HO_17;clear BK126;clear BK128;clear BK131;clear HB;clear HK;clear HO_129002;have HO_2:=n0_;have HO_17:=n1_;have BK126:=n2_;have BK128:=n3_;have BK131:=n4_;have HB:=n5_;have HK:=n6_;have HO137:=n7_;clear n0_ n1_ n2_ n3_ n4_ n5_ n6_ n7_;clear ho hb hg hat;obtain ⟨Ao52, co52, eo52⟩:=Kd.R_slice HO137.out;subst eo52;have hcz53_0 : w51.cell? ⟨gb128, 0, none⟩ = some (.int .i64 a0):=(blk_cell BK128.out 0).trans rfl;have hcz53_1 : w51.cell? ⟨gb128, 1, none⟩ = some (.int .i64 a1):=(blk_cell BK128.out 1).trans rfl;have hcz53_2 : w51.cell? ⟨gb128, 2, none⟩ = some (.slice (some ad132) x129002_1.length co34):=(blk_cell BK128.out 2).trans rfl;have hfz53_0:=blk_frozen BK128.out 0;have hfz53_1:=blk_frozen BK128.out 1;have hfz53_2:=blk_frozen BK128.out 2))
        (try simp only [← hl2_1])
        go_roundg k1
        case measure=>have:=HK1.out;omega
        case rel=>exact ⟨(wrap64 (x19_1 + 1)),(y135),(.slice Ao52 y135.length co52),(by first|rfl|(simp;done)|(simp [*];done)), H', ⟨by have:=HK1.out;omega⟩,⟨by (try simp only [hl2_1]);(with_reducible repeat (first|apply Kd.R_alloc|apply Kd.R_drewN|apply Kd.R_drew));exact Kd.R_mono (Kd.R_far (p:=⟨gb128, 2, none⟩) (Kd.R_types HO_2.out BK128.out (by decide)) (fun _ hk=>hk.2) (.slice Ao52 y135.length co52)) (fun _ hk=>⟨hk.1.1.1, hk.1.2⟩)⟩,⟨by (try simp only [hl2_1]);(with_reducible repeat (first|apply Kd.R_alloc|apply Kd.R_drewN|apply Kd.R_drew));exact Kd.R_mono (Kd.R_far (p:=⟨gb128, 2, none⟩) (Kd.R_types HO_17.out BK128.out (by decide)) (fun _ hk=>hk.2) (.slice Ao52 y135.length co52)) (fun _ hk=>⟨hk.1.1.1, hk.1.2⟩)⟩,⟨by (try simp only [hl2_1]);(with_reducible repeat (first|apply Kd.R_alloc|apply Kd.R_drewN|apply Kd.R_drew));exact Kd.R_mono (Kd.R_far (p:=⟨gb128, 2, none⟩) (Kd.R_types HO137.out BK128.out (by decide)) (fun _ hk=>hk.2) (.slice Ao52 y135.length co52)) (fun _ hk=>⟨hk.1.1, ⟨hk.1.2.1, hk.1.2.2.1⟩⟩)⟩,⟨by (try simp only [hl2_1]);(with_reducible repeat (first|refine blk_drewN ?_ _|refine blk_drew ?_|refine blk_alloc ?_ _));refine blk_far ?_ NB126_128.out _;(with_reducible repeat (first|refine blk_drewN ?_ _|refine blk_drew ?_|refine blk_alloc ?_ _));exact BK126.out⟩,⟨by (try simp only [hl2_1]);(with_reducible repeat (first|refine blk_drewN ?_ _|refine blk_drew ?_|refine blk_alloc ?_ _));refine blk_put (cs:=#[.int .i64 a0, .int .i64 a1, .slice (some ad132) x129002_1.length co34]) ?_ 2 _ rfl;(with_reducible repeat (first|refine blk_drewN ?_ _|refine blk_drew ?_|refine blk_alloc ?_ _));exact BK128.out⟩,⟨by repeat (first|(with_reducible first|exact HK.out|apply Kept.alloc|apply Kept.drewN|apply Kept.drew|refine Kept.setCell ?_ (.inr GW126.out) _|refine Kept.setCell ?_ (.inr GW128.out) _|refine Kept.setCell ?_ (.inr GW131.out) _)|exact HK.out)⟩,⟨by repeat (first|(with_reducible first|exact HB.out|apply below_alloc|apply pw_below_drewN|apply below_drew1|refine below_set ?_ GE126.out|refine below_set ?_ GE128.out|refine below_set ?_ GE131.out)|exact HB.out)⟩⟩
       ·refine start_ (n:=14) (S:=fun w'=>True) (ds:=[]) #[false, false, false, false, false, false, false, false, false, false, false, false, false, false] (by kernel_rfl) rfl rfl trivial (fun hHeld=>?_);refine with_tabW convexpl_made.tab9 convexpl_made.bits9 (fun HT_ HW_=>?_)
        generalize w35.drew = w63 at HO_2 HO_17 HO_129002 BK126 BK128 BK131 HK HB hHeld ⊢
        refine pure_ (i:=0) (N:=some 38) (v:=?_) (a':=?_) #[true, false, false, false, false, false, false, false, false, false, false, false, false, false] rfl rfl (any_of HT_.out (by kernel_rfl)) (fun _ _ _ h=>h) (Or.inl ⟨by rfl, ?_⟩) ?_ ?_
        rotate_left
        ·intro w'
         go_simp
         with_reducible rfl
        rotate_left
        ·simp only [Act.put, List.setIfInBounds_toArray, List.set_cons_zero, List.set_cons_succ, i64_w, i32_w]
         rfl
        refine pure_ (i:=1) (N:=some 39) (v:=?_) (a':=?_) #[true, true, false, false, false, false, false, false, false, false, false, false, false, false] rfl rfl (any_of HT_.out (by kernel_rfl)) (fun _ _ _ h=>h) (Or.inl ⟨by rfl, ?_⟩) ?_ ?_
        rotate_left
        ·intro w'
         go_simp
         with_reducible rfl
        rotate_left
        ·simp only [Act.put, List.setIfInBounds_toArray, List.set_cons_zero, List.set_cons_succ, i64_w, i32_w]
         rfl
        refine pure_ (i:=2) (N:=some 40) (v:=?_) (a':=?_) #[true, true, true, false, false, false, false, false, false, false, false, false, false, false] rfl rfl (any_of HT_.out (by kernel_rfl)) (fun _ _ _ h=>h) (Or.inl ⟨by rfl, ?_⟩) ?_ ?_
        rotate_left
        ·intro w'
         go_simp
         with_reducible rfl
        rotate_left
        ·simp only [Act.put, List.setIfInBounds_toArray, List.set_cons_zero, List.set_cons_succ, i64_w, i32_w]
         rfl
        refine pure_ (i:=3) (N:=some 41) (v:=undef) (a':=?_) #[true, true, true, true, false, false, false, false, false, false, false, false, false, false] rfl rfl (any_of HT_.out (by kernel_rfl)) (fun _ _ _ h=>h) (Or.inr ⟨by rfl, rfl⟩) ?_ ?_
        rotate_left
        ·simp only [Act.put, List.setIfInBounds_toArray, List.set_cons_zero, List.set_cons_succ, i64_w, i32_w]
         rfl
        refine pure_ (i:=4) (N:=some 42) (v:=undef) (a':=?_) #[true, true, true, true, true, false, false, false, false, false, false, false, false, false] rfl rfl (any_of HT_.out (by kernel_rfl)) (fun _ _ _ h=>h) (Or.inr ⟨by rfl, rfl⟩) ?_ ?_
        rotate_left
        ·simp only [Act.put, List.setIfInBounds_toArray, List.set_cons_zero, List.set_cons_succ, i64_w, i32_w]
         rfl
        refine pure_ (i:=5) (N:=some 43) (v:=undef) (a':=?_) #[true, true, true, true, true, true, false, false, false, false, false, false, false, false] rfl rfl (any_of HT_.out (by kernel_rfl)) (fun _ _ _ h=>h) (Or.inr ⟨by rfl, rfl⟩) ?_ ?_
        rotate_left
        ·simp only [Act.put, List.setIfInBounds_toArray, List.set_cons_zero, List.set_cons_succ, i64_w, i32_w]
         rfl
        refine pure_ (i:=6) (N:=some 44) (v:=undef) (a':=?_) #[true, true, true, true, true, true, true, false, false, false, false, false, false, false] rfl rfl (any_of HT_.out (by kernel_rfl)) (fun _ _ _ h=>h) (Or.inr ⟨by rfl, rfl⟩) ?_ ?_
        rotate_left
        ·simp only [Act.put, List.setIfInBounds_toArray, List.set_cons_zero, List.set_cons_succ, i64_w, i32_w]
         rfl
        refine pure_ (i:=7) (N:=some 45) (v:=undef) (a':=?_) #[true, true, true, true, true, true, true, true, false, false, false, false, false, false] rfl rfl (any_of HT_.out (by kernel_rfl)) (fun _ _ _ h=>h) (Or.inr ⟨by rfl, rfl⟩) ?_ ?_
        rotate_left
        ·simp only [Act.put, List.setIfInBounds_toArray, List.set_cons_zero, List.set_cons_succ, i64_w, i32_w]
         rfl
        refine pure_ (i:=8) (N:=some 46) (v:=undef) (a':=?_) #[true, true, true, true, true, true, true, true, true, false, false, false, false, false] rfl rfl (any_of HT_.out (by kernel_rfl)) (fun _ _ _ h=>h) (Or.inr ⟨by rfl, rfl⟩) ?_ ?_
        rotate_left
        ·simp only [Act.put, List.setIfInBounds_toArray, List.set_cons_zero, List.set_cons_succ, i64_w, i32_w]
         rfl
        refine pure_ (i:=9) (N:=some 47) (v:=undef) (a':=?_) #[true, true, true, true, true, true, true, true, true, true, false, false, false, false] rfl rfl (any_of HT_.out (by kernel_rfl)) (fun _ _ _ h=>h) (Or.inr ⟨by rfl, rfl⟩) ?_ ?_
        rotate_left
        ·simp only [Act.put, List.setIfInBounds_toArray, List.set_cons_zero, List.set_cons_succ, i64_w, i32_w]
         rfl
        refine pure_ (i:=10) (N:=some 48) (v:=undef) (a':=?_) #[true, true, true, true, true, true, true, true, true, true, true, false, false, false] rfl rfl (any_of HT_.out (by kernel_rfl)) (fun _ _ _ h=>h) (Or.inr ⟨by rfl, rfl⟩) ?_ ?_
        rotate_left
        ·simp only [Act.put, List.setIfInBounds_toArray, List.set_cons_zero, List.set_cons_succ, i64_w, i32_w]
         rfl
        refine pure_ (i:=11) (N:=some 49) (v:=undef) (a':=?_) #[true, true, true, true, true, true, true, true, true, true, true, true, false, false] rfl rfl (any_of HT_.out (by kernel_rfl)) (fun _ _ _ h=>h) (Or.inr ⟨by rfl, rfl⟩) ?_ ?_
        rotate_left
        ·simp only [Act.put, List.setIfInBounds_toArray, List.set_cons_zero, List.set_cons_succ, i64_w, i32_w]
         rfl
        refine pure_ (i:=12) (N:=some 50) (v:=?_) (a':=?_) #[true, true, true, true, true, true, true, true, true, true, true, true, true, false] rfl rfl (any_of HT_.out (by kernel_rfl)) (fun _ _ _ h=>h) (Or.inl ⟨by rfl, ?_⟩) ?_ ?_
        rotate_left
        ·intro w'
         go_simp
         with_reducible rfl
        rotate_left
        ·simp only [Act.put, List.setIfInBounds_toArray, List.set_cons_zero, List.set_cons_succ, i64_w, i32_w]
         rfl
        refine pure_ (i:=13) (N:=some 37) (v:=?_) (a':=?_) #[true, true, true, true, true, true, true, true, true, true, true, true, true, true] rfl rfl (any_of HT_.out (by kernel_rfl)) (fun _ _ _ h=>h) (Or.inl ⟨by rfl, ?_⟩) ?_ ?_
        rotate_left
        ·intro w'
         go_simp
         with_reducible rfl
        rotate_left
        ·simp only [Act.put, List.setIfInBounds_toArray, List.set_cons_zero, List.set_cons_succ, i64_w, i32_w]
         rfl
        refine done_ (done_of HT_.out (by kernel_rfl)) ?_
        have hcz64_0 : w63.cell? ⟨gb128, 0, none⟩ = some (.int .i64 a0):=(blk_cell BK128.out 0).trans rfl
        have hcz64_1 : w63.cell? ⟨gb128, 1, none⟩ = some (.int .i64 a1):=(blk_cell BK128.out 1).trans rfl
        have hcz64_2 : w63.cell? ⟨gb128, 2, none⟩ = some (.slice Ao34 x129002_1.length co34):=(blk_cell BK128.out 2).trans rfl
        have hfz64_0:=blk_frozen BK128.out 0
        have hfz64_1:=blk_frozen BK128.out 1
        have hfz64_2:=blk_frozen BK128.out 2
        have hcz65_0 : w63.cell? ⟨gb131, 0, none⟩ = some (.int .i64 ((rd_T88 t127 x19_1).f0)):=(blk_cell BK131.out 0).trans rfl
        have hcz65_1 : w63.cell? ⟨gb131, 1, none⟩ = some (.int .i64 ((rd_T88 t127 x19_1).f1)):=(blk_cell BK131.out 1).trans rfl
        have hfz65_0:=blk_frozen BK131.out 0
        have hfz65_1:=blk_frozen BK131.out 1
        try go_wp2_with (first|((with_reducible refine gate_builtin (b:=.append) (xs:=#[.tmp 28, .tmp 30]) rfl ?_);at_builtin;refine Kd.R_append k88 (w0:=w0) w0.heap.size rfl (.tmp 28) (.tmp 30) 80 88 (.agg #[(.int .i64 0),(.int .i64 0)]) 16 rfl Try.underlying80 info88 rfl (by decide) (by omega) (.slice Ao34 x129002_1.length co34) x129002_1 (⟨(rd_T88 t127 x19_1).f0, (rd_T88 t127 x19_1).f1⟩ : S88) [.int .i64 ((rd_T88 t127 x19_1).f0), .int .i64 ((rd_T88 t127 x19_1).f1)] (fun k_=>(P2_ k_ ∨ w.heap.size ≤ k_)∧some k_ ≠ (.slice (some ad130) t127.length co6 : Value).ownBlock∧some k_ ≠ (.slice (some ad130) t127.length co6 : Value).ownBlock∧k_ ≠ gb131) (fun _=>False) rfl rfl ?aP (fun _ hk=>hk.elim) ?aF ?aO ?aB ?aS ?aL ?_;(case aP=>exact k88_mkM _ _ _ (⟨(rd_T88 t127 x19_1).f0, (rd_T88 t127 x19_1).f1⟩ : S88));(case aB=>exact (by repeat (first|(with_reducible first|exact HB.out|apply below_alloc|apply pw_below_drewN|apply below_drew1|refine below_set ?_ GE126.out|refine below_set ?_ GE128.out|refine below_set ?_ GE131.out)|exact HB.out)));(case aF=>exact (fun k_ hk=>⟨(.inr (Nat.le_trans (by first|exact HK.out.1|exact (show Kept w _ (fun k_=>P2_ k_) from by repeat (first|(with_reducible first|exact HK.out|apply Kept.alloc|apply Kept.drewN|apply Kept.drew|refine Kept.setCell ?_ (.inr GW126.out) _|refine Kept.setCell ?_ (.inr GW128.out) _|refine Kept.setCell ?_ (.inr GW131.out) _)|exact HK.out)).1) hk)), Kd.fresh' (Kd.R_lt (by (with_reducible repeat (first|apply Kd.R_alloc|apply Kd.R_drewN|apply Kd.R_drew));exact HO_2.out)) k_ hk, Kd.fresh' (Kd.R_lt (by (with_reducible repeat (first|apply Kd.R_alloc|apply Kd.R_drewN|apply Kd.R_drew));exact HO_17.out)) k_ hk, Kd.freshB (g:=gb131) (o:=.cells #[.int .i64 ((rd_T88 t127 x19_1).f0), .int .i64 ((rd_T88 t127 x19_1).f1)] 88 (0, 0)) (by (with_reducible repeat (first|refine blk_drewN ?_ _|refine blk_drew ?_|refine blk_alloc ?_ _));exact BK131.out) k_ hk⟩));(case aO=>exact (by (with_reducible repeat (first|apply Kd.R_alloc|apply Kd.R_drewN|apply Kd.R_drew));exact HO_129002.out));(case aS=>exact (below_size (by repeat (first|(with_reducible first|exact HB.out|apply below_alloc|apply pw_below_drewN|apply below_drew1|refine below_set ?_ GE126.out|refine below_set ?_ GE128.out|refine below_set ?_ GE131.out)|exact HB.out))));(case aL=>have:=LMc54.out;omega);intro v139 w66 ho hb hg hat;rw [← Ny138.out] at ho;have n0_:=Aside0.mk (Kd.R_after (ok:=(fun k_=>(P2_ k_ ∨ w.heap.size ≤ k_)∧k_ ≠ gb131)) (by (with_reducible repeat (first|apply Kd.R_alloc|apply Kd.R_drewN|apply Kd.R_drew));exact Kd.R_mono HO_2.out (fun _ hk=>⟨⟨hk.1, hk.2.2⟩, hk.2.1⟩)) hg hat);have n1_:=Aside0.mk (Kd.R_after (ok:=(fun k_=>(P2_ k_ ∨ w.heap.size ≤ k_)∧k_ ≠ gb131)) (by (with_reducible repeat (first|apply Kd.R_alloc|apply Kd.R_drewN|apply Kd.R_drew));exact Kd.R_mono HO_17.out (fun _ hk=>⟨⟨hk.1, hk.2.2⟩, hk.2.1⟩)) hg hat);have n2_:=Aside0.mk (blk_grown (g:=gb126) (o:=.cells #[.int .i64 0, .int .i64 0, .slice none 0 0] 82 (0, 0)) (by (with_reducible repeat (first|refine blk_drewN ?_ _|refine blk_drew ?_|refine blk_alloc ?_ _));exact BK126.out) hg (Kd.R_ne HO_129002.out BK126.out (by decide)));have n3_:=Aside0.mk (blk_grown (g:=gb128) (o:=.cells #[.int .i64 a0, .int .i64 a1, .slice Ao34 x129002_1.length co34] 82 (0, 0)) (by (with_reducible repeat (first|refine blk_drewN ?_ _|refine blk_drew ?_|refine blk_alloc ?_ _));exact BK128.out) hg (Kd.R_ne HO_129002.out BK128.out (by decide)));have n4_:=Aside0.mk (blk_grown (g:=gb131) (o:=.cells #[.int .i64 ((rd_T88 t127 x19_1).f0), .int .i64 ((rd_T88 t127 x19_1).f1)] 88 (0, 0)) (by (with_reducible repeat (first|refine blk_drewN ?_ _|refine blk_drew ?_|refine blk_alloc ?_ _));exact BK131.out) hg (Kd.R_away HO_129002.out (fun _ hk=>hk.2.2.2)));have n5_:=Aside0.mk (hb);have n6_:=Aside0.mk (Kept.of_grown (S:=(fun k_=>P2_ k_)) hg (by repeat (first|(with_reducible first|exact HK.out|apply Kept.alloc|apply Kept.drewN|apply Kept.drew|refine Kept.setCell ?_ (.inr GW126.out) _|refine Kept.setCell ?_ (.inr GW128.out) _|refine Kept.setCell ?_ (.inr GW131.out) _)|exact HK.out)) (fun k_ e_=>(HO_129002.out.1 k_ e_).1));have n7_:=Aside0.mk (ho);clear HO_2;clear HO_17;clear BK126;clear BK128;clear BK131;clear HB;clear HK;clear HO_129002;have HO_2:=n0_;have HO_17:=n1_;have BK126:=n2_;have BK128:=n3_;have BK131:=n4_;have HB:=n5_;have HK:=n6_;have HO140:=n7_;clear n0_ n1_ n2_ n3_ n4_ n5_ n6_ n7_;clear ho hb hg hat;obtain ⟨Ao67, co67, eo67⟩:=Kd.R_slice HO140.out;subst eo67;have hcz68_0 : w66.cell? ⟨gb128, 0, none⟩ = some (.int .i64 a0):=(blk_cell BK128.out 0).trans rfl;have hcz68_1 : w66.cell? ⟨gb128, 1, none⟩ = some (.int .i64 a1):=(blk_cell BK128.out 1).trans rfl;have hcz68_2 : w66.cell? ⟨gb128, 2, none⟩ = some (.slice Ao34 x129002_1.length co34):=(blk_cell BK128.out 2).trans rfl;have hfz68_0:=blk_frozen BK128.out 0;have hfz68_1:=blk_frozen BK128.out 1;have hfz68_2:=blk_frozen BK128.out 2))
        (try simp only [← hl2_1])
        go_roundg k1
        case measure=>have:=HK1.out;omega
        case rel=>exact ⟨(wrap64 (x19_1 + 1)),(y138),(.slice Ao67 y138.length co67),(by first|rfl|(simp;done)|(simp [*];done)), H', ⟨by have:=HK1.out;omega⟩,⟨by (try simp only [hl2_1]);(with_reducible repeat (first|apply Kd.R_alloc|apply Kd.R_drewN|apply Kd.R_drew));exact Kd.R_mono (Kd.R_far (p:=⟨gb128, 2, none⟩) (Kd.R_types HO_2.out BK128.out (by decide)) (fun _ hk=>hk.2) (.slice Ao67 y138.length co67)) (fun _ hk=>⟨hk.1.1.1, hk.1.2⟩)⟩,⟨by (try simp only [hl2_1]);(with_reducible repeat (first|apply Kd.R_alloc|apply Kd.R_drewN|apply Kd.R_drew));exact Kd.R_mono (Kd.R_far (p:=⟨gb128, 2, none⟩) (Kd.R_types HO_17.out BK128.out (by decide)) (fun _ hk=>hk.2) (.slice Ao67 y138.length co67)) (fun _ hk=>⟨hk.1.1.1, hk.1.2⟩)⟩,⟨by (try simp only [hl2_1]);(with_reducible repeat (first|apply Kd.R_alloc|apply Kd.R_drewN|apply Kd.R_drew));exact Kd.R_mono (Kd.R_far (p:=⟨gb128, 2, none⟩) (Kd.R_types HO140.out BK128.out (by decide)) (fun _ hk=>hk.2) (.slice Ao67 y138.length co67)) (fun _ hk=>⟨hk.1.1, ⟨hk.1.2.1, hk.1.2.2.1⟩⟩)⟩,⟨by (try simp only [hl2_1]);(with_reducible repeat (first|refine blk_drewN ?_ _|refine blk_drew ?_|refine blk_alloc ?_ _));refine blk_far ?_ NB126_128.out _;(with_reducible repeat (first|refine blk_drewN ?_ _|refine blk_drew ?_|refine blk_alloc ?_ _));exact BK126.out⟩,⟨by (try simp only [hl2_1]);(with_reducible repeat (first|refine blk_drewN ?_ _|refine blk_drew ?_|refine blk_alloc ?_ _));refine blk_put (cs:=#[.int .i64 a0, .int .i64 a1, .slice Ao34 x129002_1.length co34]) ?_ 2 _ rfl;(with_reducible repeat (first|refine blk_drewN ?_ _|refine blk_drew ?_|refine blk_alloc ?_ _));exact BK128.out⟩,⟨by repeat (first|(with_reducible first|exact HK.out|apply Kept.alloc|apply Kept.drewN|apply Kept.drew|refine Kept.setCell ?_ (.inr GW126.out) _|refine Kept.setCell ?_ (.inr GW128.out) _|refine Kept.setCell ?_ (.inr GW131.out) _)|exact HK.out)⟩,⟨by repeat (first|(with_reducible first|exact HB.out|apply below_alloc|apply pw_below_drewN|apply below_drew1|refine below_set ?_ GE126.out|refine below_set ?_ GE128.out|refine below_set ?_ GE131.out)|exact HB.out)⟩⟩
     ·rw [if_neg c13] at H
      exact absurd H (by simp)
    ·rw [if_neg c12] at H
     exact absurd H (by simp)
   ·rw [if_neg c11] at H
    have c11b0 : decide (x19_1 < (l2.length : Int)) = false:=decide_eq_false c11
    (try (have c11b0h:=c11b0;simp only [hl2_1] at c11b0h))
    clear c11
    replace H:=Option.bind_eq_some_iff.mp H
    obtain ⟨t129, A690, H⟩:=H
    replace H : (if t129 = 0 then (some (a0, a1, x129002_1, 0, t127)) else (some (0, 0, ([] : List (S88)), 2, t127))) = some (r1, r2, r3, r4, r5):=H
    have A69:=Aside0.mk A690
    clear A690
    by_cases c70 : t129 = 0
    ·rw [if_pos c70] at H
     have c70b0 : (t129 == 0) = true:=beq_iff_eq.mpr c70
     have c70b1 : (t129 != 0) = false:=bne_eq_false_iff_eq.mpr c70
     (try (have c70b0h:=c70b0;simp only [hl2_1] at c70b0h))
     (try (have c70b1h:=c70b1;simp only [hl2_1] at c70b1h))
     clear c70
     simp only [Option.some.injEq, Prod.mk.injEq] at H
     obtain ⟨rfl, rfl, rfl, rfl, rfl⟩:=H
     have hnb71:=NB128_126.out
     have hnc71:=NB126_128.out
     have hcz72_0 : wr.cell? ⟨gb128, 0, none⟩ = some (.int .i64 a0):=(blk_cell BK128.out 0).trans rfl
     have hcz72_1 : wr.cell? ⟨gb128, 1, none⟩ = some (.int .i64 a1):=(blk_cell BK128.out 1).trans rfl
     have hcz72_2 : wr.cell? ⟨gb128, 2, none⟩ = some (u129002):=(blk_cell BK128.out 2).trans rfl
     have hfz72_0:=blk_frozen BK128.out 0
     have hfz72_1:=blk_frozen BK128.out 1
     have hfz72_2:=blk_frozen BK128.out 2
     obtain ⟨Ao73, co73, eo73⟩:=Kd.R_slice HO_129002.out
     subst eo73
     go_wp2_with (first|((with_reducible refine gate_callee (f:=71) rfl ?_);refine goesL_ (some 64) rfl rfl Try.func71 (by kernel_rfl) rfl #[.agg #[.int .i64 a0, .int .i64 a1, .slice Ao73 x129002_1.length co73]] rfl (by (try simp only [List.map_toArray, List.map_cons, List.map_nil]);first|done|rfl|(simp only [List.length_drop, List.length_take];rfl)) ?_;(with_reducible refine (convexpl_Check.calls k1 a0 a1 _ _ x129002_1 t129 _ ?side1 ?side2 A69.out).mono ?_);(case side1=>repeat (first|exact (Kd.R_reads' HO_129002.out).2.2|(with_reducible refine Kd.C_alloc ?_ _)|(with_reducible refine Kd.C_drewN ?_ _)|(with_reducible refine Kd.C_drew ?_)));(case side2=>exact (Kd.R_reads' HO_129002.out).2.1);rintro e w74 ⟨rfl, hb⟩;refine ⟨_, rfl, ?_⟩;have n0_:=Aside0.mk (Kd.R_below (by (with_reducible repeat (first|apply Kd.R_alloc|apply Kd.R_drewN|apply Kd.R_drew));exact HO_2.out) hb);have n1_:=Aside0.mk (Kd.R_below (by (with_reducible repeat (first|apply Kd.R_alloc|apply Kd.R_drewN|apply Kd.R_drew));exact HO_17.out) hb);have n2_:=Aside0.mk (Kd.R_below (by (with_reducible repeat (first|apply Kd.R_alloc|apply Kd.R_drewN|apply Kd.R_drew));exact HO_129002.out) hb);have n3_:=Aside0.mk (blk_below (g:=gb126) (o:=.cells #[.int .i64 0, .int .i64 0, .slice none 0 0] 82 (0, 0)) (by (with_reducible repeat (first|refine blk_drewN ?_ _|refine blk_drew ?_|refine blk_alloc ?_ _));exact BK126.out) hb);have n4_:=Aside0.mk (blk_below (g:=gb128) (o:=.cells #[.int .i64 a0, .int .i64 a1, .slice Ao73 x129002_1.length co73] 82 (0, 0)) (by (with_reducible repeat (first|refine blk_drewN ?_ _|refine blk_drew ?_|refine blk_alloc ?_ _));exact BK128.out) hb);have n5_:=Aside0.mk (Kept.below (S:=(fun k_=>P2_ k_)) (by repeat (first|(with_reducible first|exact HK.out|apply Kept.alloc|apply Kept.drewN|apply Kept.drew|refine Kept.setCell ?_ (.inr GW126.out) _|refine Kept.setCell ?_ (.inr GW128.out) _)|exact HK.out)) hb);have n6_:=Aside0.mk (below_step (by repeat (first|(with_reducible first|exact HB.out|apply below_alloc|apply pw_below_drewN|apply below_drew1|refine below_set ?_ GE126.out|refine below_set ?_ GE128.out)|exact HB.out)) hb);clear HO_2;clear HO_17;clear HO_129002;clear BK126;clear BK128;clear HK;clear HB;have HO_2:=n0_;have HO_17:=n1_;have HO_129002:=n2_;have BK126:=n3_;have BK128:=n4_;have HK:=n5_;have HB:=n6_;clear n0_ n1_ n2_ n3_ n4_ n5_ n6_;(try clear hb);(try clear hb2);(try clear hk);(try clear hi);have hcz75_0 : w74.cell? ⟨gb128, 0, none⟩ = some (.int .i64 a0):=(blk_cell BK128.out 0).trans rfl;have hcz75_1 : w74.cell? ⟨gb128, 1, none⟩ = some (.int .i64 a1):=(blk_cell BK128.out 1).trans rfl;have hcz75_2 : w74.cell? ⟨gb128, 2, none⟩ = some (.slice Ao73 x129002_1.length co73):=(blk_cell BK128.out 2).trans rfl;have hfz75_0:=blk_frozen BK128.out 0;have hfz75_1:=blk_frozen BK128.out 1;have hfz75_2:=blk_frozen BK128.out 2;have hcz76_0 : w74.cell? ⟨gb126, 0, none⟩ = some (.int .i64 0):=(blk_cell BK126.out 0).trans rfl;have hcz76_1 : w74.cell? ⟨gb126, 1, none⟩ = some (.int .i64 0):=(blk_cell BK126.out 1).trans rfl;have hcz76_2 : w74.cell? ⟨gb126, 2, none⟩ = some (.slice none 0 0):=(blk_cell BK126.out 2).trans rfl;have hfz76_0:=blk_frozen BK126.out 0;have hfz76_1:=blk_frozen BK126.out 1;have hfz76_2:=blk_frozen BK126.out 2))
     refine bodyPost_ret (results_ct rfl _ _ gb126 82 #[.int .i64 a0, .int .i64 a1, .slice Ao73 x129002_1.length co73] (0, 0) _ rfl (by (with_reducible repeat (first|refine blk_drewN ?_ _|refine blk_drew ?_|refine blk_alloc ?_ _));refine blk_put (cs:=#[.int .i64 a0, .int .i64 a1, .slice none 0 0]) ?_ 2 _ rfl;(with_reducible repeat (first|refine blk_drewN ?_ _|refine blk_drew ?_|refine blk_alloc ?_ _));refine blk_put (cs:=#[.int .i64 a0, .int .i64 0, .slice none 0 0]) ?_ 1 _ rfl;(with_reducible repeat (first|refine blk_drewN ?_ _|refine blk_drew ?_|refine blk_alloc ?_ _));refine blk_put (cs:=#[.int .i64 0, .int .i64 0, .slice none 0 0]) ?_ 0 _ rfl;(with_reducible repeat (first|refine blk_drewN ?_ _|refine blk_drew ?_|refine blk_alloc ?_ _));exact BK126.out) Try.underlying82 rfl (by kernel_rfl)) rfl ?_
     (try simp only [hl2_1])
     exact ⟨_, by first|rfl|(simp [errW_none, errW_some] <;> rfl)|(simp [*, errW_none, errW_some] <;> rfl), by (with_reducible repeat (first|apply Kd.R_alloc|apply Kd.R_drewN|apply Kd.R_drew));exact Kd.R_mono (Kd.R_far (p:=⟨gb126, 2, none⟩) (Kd.R_far (p:=⟨gb126, 1, none⟩) (Kd.R_far (p:=⟨gb126, 0, none⟩) (Kd.R_types HO_129002.out BK126.out (by decide)) (fun _ hk=>hk.2) (.int .i64 a0)) (fun _ hk=>hk.2) (.int .i64 a1)) (fun _ hk=>hk.2) (.slice Ao73 x129002_1.length co73)) (fun _ hk=>⟨hk.1.1, hk.1.2.1⟩),(by first|exact (by (with_reducible repeat (first|apply Kd.R_alloc|apply Kd.R_drewN|apply Kd.R_drew));exact Kd.R_mono (Kd.R_far (p:=⟨gb126, 2, none⟩) (Kd.R_far (p:=⟨gb126, 1, none⟩) (Kd.R_far (p:=⟨gb126, 0, none⟩) (Kd.R_types HO_2.out BK126.out (by decide)) (fun _ hk=>hk.2) (.int .i64 a0)) (fun _ hk=>hk.2) (.int .i64 a1)) (fun _ hk=>hk.2) (.slice Ao73 x129002_1.length co73)) (fun _ hk=>hk.1.1))|(simp only [hl2_1];exact (by (with_reducible repeat (first|apply Kd.R_alloc|apply Kd.R_drewN|apply Kd.R_drew));exact Kd.R_mono (Kd.R_far (p:=⟨gb126, 2, none⟩) (Kd.R_far (p:=⟨gb126, 1, none⟩) (Kd.R_far (p:=⟨gb126, 0, none⟩) (Kd.R_types HO_2.out BK126.out (by decide)) (fun _ hk=>hk.2) (.int .i64 a0)) (fun _ hk=>hk.2) (.int .i64 a1)) (fun _ hk=>hk.2) (.slice Ao73 x129002_1.length co73)) (fun _ hk=>hk.1.1)))), by repeat (first|(with_reducible first|exact HB.out|apply below_alloc|apply pw_below_drewN|apply below_drew1|refine below_set ?_ GE126.out|refine below_set ?_ GE128.out)|exact HB.out), by repeat (first|(with_reducible first|exact HK.out|apply Kept.alloc|apply Kept.drewN|apply Kept.drew|refine Kept.setCell ?_ (.inr GW126.out) _|refine Kept.setCell ?_ (.inr GW128.out) _)|exact HK.out)⟩
    ·rw [if_neg c70] at H
     have c70b0 : (t129 == 0) = false:=beq_eq_false_iff_ne.mpr c70
     have c70b1 : (t129 != 0) = true:=bne_iff_ne.mpr c70
     (try (have c70b0h:=c70b0;simp only [hl2_1] at c70b0h))
     (try (have c70b1h:=c70b1;simp only [hl2_1] at c70b1h))
     simp only [Option.some.injEq, Prod.mk.injEq] at H
     obtain ⟨rfl, rfl, rfl, rfl, rfl⟩:=H
     have hnb77:=NB128_126.out
     have hnc77:=NB126_128.out
     have hcz78_0 : wr.cell? ⟨gb128, 0, none⟩ = some (.int .i64 a0):=(blk_cell BK128.out 0).trans rfl
     have hcz78_1 : wr.cell? ⟨gb128, 1, none⟩ = some (.int .i64 a1):=(blk_cell BK128.out 1).trans rfl
     have hcz78_2 : wr.cell? ⟨gb128, 2, none⟩ = some (u129002):=(blk_cell BK128.out 2).trans rfl
     have hfz78_0:=blk_frozen BK128.out 0
     have hfz78_1:=blk_frozen BK128.out 1
     have hfz78_2:=blk_frozen BK128.out 2
     obtain ⟨Ao79, co79, eo79⟩:=Kd.R_slice HO_129002.out
     subst eo79
     go_wp2_with (first|((with_reducible refine gate_callee (f:=71) rfl ?_);refine goesL_ (some 64) rfl rfl Try.func71 (by kernel_rfl) rfl #[.agg #[.int .i64 a0, .int .i64 a1, .slice Ao79 x129002_1.length co79]] rfl (by (try simp only [List.map_toArray, List.map_cons, List.map_nil]);first|done|rfl|(simp only [List.length_drop, List.length_take];rfl)) ?_;(with_reducible refine (convexpl_Check.calls k1 a0 a1 _ _ x129002_1 t129 _ ?side1 ?side2 A69.out).mono ?_);(case side1=>repeat (first|exact (Kd.R_reads' HO_129002.out).2.2|(with_reducible refine Kd.C_alloc ?_ _)|(with_reducible refine Kd.C_drewN ?_ _)|(with_reducible refine Kd.C_drew ?_)));(case side2=>exact (Kd.R_reads' HO_129002.out).2.1);rintro e w80 ⟨rfl, hb⟩;refine ⟨_, rfl, ?_⟩;have n0_:=Aside0.mk (Kd.R_below (by (with_reducible repeat (first|apply Kd.R_alloc|apply Kd.R_drewN|apply Kd.R_drew));exact HO_2.out) hb);have n1_:=Aside0.mk (Kd.R_below (by (with_reducible repeat (first|apply Kd.R_alloc|apply Kd.R_drewN|apply Kd.R_drew));exact HO_17.out) hb);have n2_:=Aside0.mk (Kd.R_below (by (with_reducible repeat (first|apply Kd.R_alloc|apply Kd.R_drewN|apply Kd.R_drew));exact HO_129002.out) hb);have n3_:=Aside0.mk (blk_below (g:=gb126) (o:=.cells #[.int .i64 0, .int .i64 0, .slice none 0 0] 82 (0, 0)) (by (with_reducible repeat (first|refine blk_drewN ?_ _|refine blk_drew ?_|refine blk_alloc ?_ _));exact BK126.out) hb);have n4_:=Aside0.mk (blk_below (g:=gb128) (o:=.cells #[.int .i64 a0, .int .i64 a1, .slice Ao79 x129002_1.length co79] 82 (0, 0)) (by (with_reducible repeat (first|refine blk_drewN ?_ _|refine blk_drew ?_|refine blk_alloc ?_ _));exact BK128.out) hb);have n5_:=Aside0.mk (Kept.below (S:=(fun k_=>P2_ k_)) (by repeat (first|(with_reducible first|exact HK.out|apply Kept.alloc|apply Kept.drewN|apply Kept.drew|refine Kept.setCell ?_ (.inr GW126.out) _|refine Kept.setCell ?_ (.inr GW128.out) _)|exact HK.out)) hb);have n6_:=Aside0.mk (below_step (by repeat (first|(with_reducible first|exact HB.out|apply below_alloc|apply pw_below_drewN|apply below_drew1|refine below_set ?_ GE126.out|refine below_set ?_ GE128.out)|exact HB.out)) hb);clear HO_2;clear HO_17;clear HO_129002;clear BK126;clear BK128;clear HK;clear HB;have HO_2:=n0_;have HO_17:=n1_;have HO_129002:=n2_;have BK126:=n3_;have BK128:=n4_;have HK:=n5_;have HB:=n6_;clear n0_ n1_ n2_ n3_ n4_ n5_ n6_;(try clear hb);(try clear hb2);(try clear hk);(try clear hi);have hcz81_0 : w80.cell? ⟨gb126, 0, none⟩ = some (.int .i64 0):=(blk_cell BK126.out 0).trans rfl;have hcz81_1 : w80.cell? ⟨gb126, 1, none⟩ = some (.int .i64 0):=(blk_cell BK126.out 1).trans rfl;have hcz81_2 : w80.cell? ⟨gb126, 2, none⟩ = some (.slice none 0 0):=(blk_cell BK126.out 2).trans rfl;have hfz81_0:=blk_frozen BK126.out 0;have hfz81_1:=blk_frozen BK126.out 1;have hfz81_2:=blk_frozen BK126.out 2))
     refine bodyPost_ret (results_ct rfl _ _ gb126 82 #[.int .i64 0, .int .i64 0, .slice none 0 0] (0, 0) _ rfl (by (with_reducible repeat (first|refine blk_drewN ?_ _|refine blk_drew ?_|refine blk_alloc ?_ _));refine blk_put (cs:=#[.int .i64 0, .int .i64 0, .slice none 0 0]) ?_ 2 _ rfl;(with_reducible repeat (first|refine blk_drewN ?_ _|refine blk_drew ?_|refine blk_alloc ?_ _));refine blk_put (cs:=#[.int .i64 0, .int .i64 0, .slice none 0 0]) ?_ 1 _ rfl;(with_reducible repeat (first|refine blk_drewN ?_ _|refine blk_drew ?_|refine blk_alloc ?_ _));refine blk_put (cs:=#[.int .i64 0, .int .i64 0, .slice none 0 0]) ?_ 0 _ rfl;(with_reducible repeat (first|refine blk_drewN ?_ _|refine blk_drew ?_|refine blk_alloc ?_ _));exact BK126.out) Try.underlying82 rfl (by kernel_rfl)) rfl ?_
     (try simp only [hl2_1])
     exact ⟨_, by first|rfl|(simp [errW_none, errW_some] <;> rfl)|(simp [*, errW_none, errW_some] <;> rfl), by first|exact Kd.R_nil _ _ _ _ _|exact Kd.N_nil _ _ _ _ _|exact Kd.V_nil _ _ _ _ _|exact Kd.Q_nil _ _ _ _ _|exact Kd.S_nil _ _ _ _ _, (by first|exact (by (with_reducible repeat (first|apply Kd.R_alloc|apply Kd.R_drewN|apply Kd.R_drew));exact Kd.R_mono (Kd.R_far (p:=⟨gb126, 2, none⟩) (Kd.R_far (p:=⟨gb126, 1, none⟩) (Kd.R_far (p:=⟨gb126, 0, none⟩) (Kd.R_types HO_2.out BK126.out (by decide)) (fun _ hk=>hk.2) (.int .i64 0)) (fun _ hk=>hk.2) (.int .i64 0)) (fun _ hk=>hk.2) (.slice none 0 0)) (fun _ hk=>hk.1.1))|(simp only [hl2_1];exact (by (with_reducible repeat (first|apply Kd.R_alloc|apply Kd.R_drewN|apply Kd.R_drew));exact Kd.R_mono (Kd.R_far (p:=⟨gb126, 2, none⟩) (Kd.R_far (p:=⟨gb126, 1, none⟩) (Kd.R_far (p:=⟨gb126, 0, none⟩) (Kd.R_types HO_2.out BK126.out (by decide)) (fun _ hk=>hk.2) (.int .i64 0)) (fun _ hk=>hk.2) (.int .i64 0)) (fun _ hk=>hk.2) (.slice none 0 0)) (fun _ hk=>hk.1.1)))), by repeat (first|(with_reducible first|exact HB.out|apply below_alloc|apply pw_below_drewN|apply below_drew1|refine below_set ?_ GE126.out|refine below_set ?_ GE128.out)|exact HB.out), by repeat (first|(with_reducible first|exact HK.out|apply Kept.alloc|apply Kept.drewN|apply Kept.drew|refine Kept.setCell ?_ (.inr GW126.out) _|refine Kept.setCell ?_ (.inr GW128.out) _)|exact HK.out)⟩
end Go.Proofs.Ytdgjelbkogfedaa.PConvexMoves
