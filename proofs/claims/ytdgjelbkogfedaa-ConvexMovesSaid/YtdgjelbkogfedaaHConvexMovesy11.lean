import Derived.Test.YtdgjelbkogfedaaHConvexMovesy0
import Derived.Test.YtdgjelbkogfedaaHConvexMovesy1
namespace Go.Proofs.Ytdgjelbkogfedaa.PConvexMoves
open Go.RowKit Go.Proofs.YtdgjelbkogfedaaW.PrintWords Go.Proofs.YtdgjelbkogfedaaW.PrintLast Go.Proofs.YtdgjelbkogfedaaW.PrintMore
attribute [local go_sem] max2_int min2_int max_two min_two max_three min_three max_four min_four
set_option linter.unusedVariables false
set_option linter.unusedSimpArgs false
mutual
def gridhallref3_ConvexError.j0 : Nat → Bool → Int → Int → List (S88) → Option (Int)
|0, _, _, _, _ => none
|k + 1, x20, x199000, x199001, x199002 => if x20 = true then (some 4) else (gridhallref3_ConvexError.l0 k x199000 x199001 x199002 (x199002.length : Int) 0 x199000 x199001 x199002)
def gridhallref3_ConvexError.l0 : Nat → Int → Int → List (S88) → Int → Int → Int → Int → List (S88) → Option (Int)
|0, _, _, _, _, _, _, _, _ => none
|k + 1, x3, x4, x26, x27, x28, x199000, x199001, x199002 => if x28 < x27 then (if 0 ≤ x28 then (if x28 < (x26.length : Int) then ((gridhallref3_In.f ((rd_T88 x26 x28).f0) 1 2000000).bind fun t203 => (if t203 = true then ((gridhallref3_In.f ((rd_T88 x26 x28).f1) (-10000000) 10000000).bind fun t204 => (gridhallref3_ConvexError.j2 k x3 x4 x28 x26 x27 x28 (!t204) x199000 x199001 x199002 ((rd_T88 x26 x28).f0) ((rd_T88 x26 x28).f1))) else (gridhallref3_ConvexError.j2 k x3 x4 x28 x26 x27 x28 true x199000 x199001 x199002 ((rd_T88 x26 x28).f0) ((rd_T88 x26 x28).f1)))) else (none)) else (none)) else (some 0)
def gridhallref3_ConvexError.j2 : Nat → Int → Int → Int → List (S88) → Int → Int → Bool → Int → Int → List (S88) → Int → Int → Option (Int)
|0, _, _, _, _, _, _, _, _, _, _, _, _ => none
|k + 1, x3, x4, x5, x26, x27, x28, x42, x199000, x199001, x199002, x203000, x203001 => if x42 = true then (some 4) else (if x5 > 0 then (if 0 ≤ (wrap64 (x5 - 1)) then (if (wrap64 (x5 - 1)) < (x199002.length : Int) then (gridhallref3_ConvexError.j3 k x3 x4 x26 x27 x28 (decide (((rd_T88 x199002 (wrap64 (x5 - 1))).f1) ≥ x203001)) x199000 x199001 x199002 x203000 x203001) else (none)) else (none)) else (gridhallref3_ConvexError.j3 k x3 x4 x26 x27 x28 false x199000 x199001 x199002 x203000 x203001))
def gridhallref3_ConvexError.j3 : Nat → Int → Int → List (S88) → Int → Int → Bool → Int → Int → List (S88) → Int → Int → Option (Int)
|0, _, _, _, _, _, _, _, _, _, _, _ => none
|k + 1, x3, x4, x26, x27, x28, x56, x199000, x199001, x199002, x203000, x203001 => if x56 = true then (some 3) else (if (wrap64 (x3 + x203000)) > 1000000 then (some 4) else ((gridhallref3_In.f (wrap64 (x4 + (wrap64 (x203000 * x203001)))) (-1000000000000000) 1000000000000000).bind fun t206 => (if t206 = true then (gridhallref3_ConvexError.l0 k (wrap64 (x3 + x203000)) (wrap64 (x4 + (wrap64 (x203000 * x203001)))) x26 x27 (wrap64 (x28 + 1)) x199000 x199001 x199002) else (some 4))))
end
def gridhallref3_ConvexError.f (k : Nat) (a0_0 : Int) (a0_1 : Int) (l0_2 : List (S88)) : Option (Int) := if (l0_2.length : Int) > 64 then (some 2) else ((gridhallref3_In.f a0_0 (-1000000) 1000000).bind fun t199 => (if t199 = true then ((gridhallref3_In.f a0_1 (-1000000000000000) 1000000000000000).bind fun t200 => (gridhallref3_ConvexError.j0 k (!t200) a0_0 a0_1 l0_2)) else (gridhallref3_ConvexError.j0 k true a0_0 a0_1 l0_2)))
theorem gridhallref3_ConvexError.mono_l : ∀ k, (∀ y0 y1 y2 y3, LeO (gridhallref3_ConvexError.j0 k y0 y1 y2 y3) (gridhallref3_ConvexError.j0 (k + 1) y0 y1 y2 y3)) ∧ (∀ y0 y1 y2 y3 y4 y5 y6 y7, LeO (gridhallref3_ConvexError.l0 k y0 y1 y2 y3 y4 y5 y6 y7) (gridhallref3_ConvexError.l0 (k + 1) y0 y1 y2 y3 y4 y5 y6 y7)) ∧ (∀ y0 y1 y2 y3 y4 y5 y6 y7 y8 y9 y10 y11, LeO (gridhallref3_ConvexError.j2 k y0 y1 y2 y3 y4 y5 y6 y7 y8 y9 y10 y11) (gridhallref3_ConvexError.j2 (k + 1) y0 y1 y2 y3 y4 y5 y6 y7 y8 y9 y10 y11)) ∧ (∀ y0 y1 y2 y3 y4 y5 y6 y7 y8 y9 y10, LeO (gridhallref3_ConvexError.j3 k y0 y1 y2 y3 y4 y5 y6 y7 y8 y9 y10) (gridhallref3_ConvexError.j3 (k + 1) y0 y1 y2 y3 y4 y5 y6 y7 y8 y9 y10))
|0 => ⟨fun _ _ _ _ r h => by simp [gridhallref3_ConvexError.j0] at h, fun _ _ _ _ _ _ _ _ r h => by simp [gridhallref3_ConvexError.l0] at h, fun _ _ _ _ _ _ _ _ _ _ _ _ r h => by simp [gridhallref3_ConvexError.j2] at h, fun _ _ _ _ _ _ _ _ _ _ _ r h => by simp [gridhallref3_ConvexError.j3] at h⟩
|k + 1 => by
  obtain ⟨ih0, ih1, ih2, ih3⟩:=gridhallref3_ConvexError.mono_l k
  refine ⟨?_, ?_, ?_, ?_⟩
  ·intro y0 y1 y2 y3
   unfold gridhallref3_ConvexError.j0
   repeat' first
  |(with_reducible exact ih0 _ _ _ _)
  |(with_reducible exact ih1 _ _ _ _ _ _ _ _)
  |(with_reducible exact ih2 _ _ _ _ _ _ _ _ _ _ _ _)
  |(with_reducible exact ih3 _ _ _ _ _ _ _ _ _ _ _)
  |(with_reducible exact LeO.refl _)
  |(with_reducible exact LeO.none _)
  |(with_reducible refine LeO.ite ?_ ?_)
  |(with_reducible refine LeO.bind ?_ (fun _ => ?_))
  |exact ih0 _ _ _ _
  |exact ih1 _ _ _ _ _ _ _ _
  |exact ih2 _ _ _ _ _ _ _ _ _ _ _ _
  |exact ih3 _ _ _ _ _ _ _ _ _ _ _
  |exact LeO.none _
  |refine LeO.ite ?_ ?_
  |refine LeO.bind ?_ (fun _ => ?_)
  ·intro y0 y1 y2 y3 y4 y5 y6 y7
   unfold gridhallref3_ConvexError.l0
   repeat' first
  |(with_reducible exact ih0 _ _ _ _)
  |(with_reducible exact ih1 _ _ _ _ _ _ _ _)
  |(with_reducible exact ih2 _ _ _ _ _ _ _ _ _ _ _ _)
  |(with_reducible exact ih3 _ _ _ _ _ _ _ _ _ _ _)
  |(with_reducible exact LeO.refl _)
  |(with_reducible exact LeO.none _)
  |(with_reducible refine LeO.ite ?_ ?_)
  |(with_reducible refine LeO.bind ?_ (fun _ => ?_))
  |exact ih0 _ _ _ _
  |exact ih1 _ _ _ _ _ _ _ _
  |exact ih2 _ _ _ _ _ _ _ _ _ _ _ _
  |exact ih3 _ _ _ _ _ _ _ _ _ _ _
  |exact LeO.none _
  |refine LeO.ite ?_ ?_
  |refine LeO.bind ?_ (fun _ => ?_)
  ·intro y0 y1 y2 y3 y4 y5 y6 y7 y8 y9 y10 y11
   unfold gridhallref3_ConvexError.j2
   repeat' first
  |(with_reducible exact ih0 _ _ _ _)
  |(with_reducible exact ih1 _ _ _ _ _ _ _ _)
  |(with_reducible exact ih2 _ _ _ _ _ _ _ _ _ _ _ _)
  |(with_reducible exact ih3 _ _ _ _ _ _ _ _ _ _ _)
  |(with_reducible exact LeO.refl _)
  |(with_reducible exact LeO.none _)
  |(with_reducible refine LeO.ite ?_ ?_)
  |(with_reducible refine LeO.bind ?_ (fun _ => ?_))
  |exact ih0 _ _ _ _
  |exact ih1 _ _ _ _ _ _ _ _
  |exact ih2 _ _ _ _ _ _ _ _ _ _ _ _
  |exact ih3 _ _ _ _ _ _ _ _ _ _ _
  |exact LeO.none _
  |refine LeO.ite ?_ ?_
  |refine LeO.bind ?_ (fun _ => ?_)
  ·intro y0 y1 y2 y3 y4 y5 y6 y7 y8 y9 y10
   unfold gridhallref3_ConvexError.j3
   repeat' first
  |(with_reducible exact ih0 _ _ _ _)
  |(with_reducible exact ih1 _ _ _ _ _ _ _ _)
  |(with_reducible exact ih2 _ _ _ _ _ _ _ _ _ _ _ _)
  |(with_reducible exact ih3 _ _ _ _ _ _ _ _ _ _ _)
  |(with_reducible exact LeO.refl _)
  |(with_reducible exact LeO.none _)
  |(with_reducible refine LeO.ite ?_ ?_)
  |(with_reducible refine LeO.bind ?_ (fun _ => ?_))
  |exact ih0 _ _ _ _
  |exact ih1 _ _ _ _ _ _ _ _
  |exact ih2 _ _ _ _ _ _ _ _ _ _ _ _
  |exact ih3 _ _ _ _ _ _ _ _ _ _ _
  |exact LeO.none _
  |refine LeO.ite ?_ ?_
  |refine LeO.bind ?_ (fun _ => ?_)
theorem gridhallref3_ConvexError.mono : ∀ a0 a1 a2 k, LeO (gridhallref3_ConvexError.f k a0 a1 a2) (gridhallref3_ConvexError.f (k + 1) a0 a1 a2) := by
 intro a0 a1 a2 k
 obtain ⟨ih0, ih1, ih2, ih3⟩:=gridhallref3_ConvexError.mono_l k
 unfold gridhallref3_ConvexError.f
 repeat' first
  |(with_reducible exact ih0 _ _ _ _)
  |(with_reducible exact ih1 _ _ _ _ _ _ _ _)
  |(with_reducible exact ih2 _ _ _ _ _ _ _ _ _ _ _ _)
  |(with_reducible exact ih3 _ _ _ _ _ _ _ _ _ _ _)
  |(with_reducible exact LeO.refl _)
  |(with_reducible exact LeO.none _)
  |(with_reducible refine LeO.ite ?_ ?_)
  |(with_reducible refine LeO.bind ?_ (fun _ => ?_))
  |exact ih0 _ _ _ _
  |exact ih1 _ _ _ _ _ _ _ _
  |exact ih2 _ _ _ _ _ _ _ _ _ _ _ _
  |exact ih3 _ _ _ _ _ _ _ _ _ _ _
  |exact LeO.none _
  |refine LeO.ite ?_ ?_
  |refine LeO.bind ?_ (fun _ => ?_)
set_option maxHeartbeats 8000000 in
set_option maxRecDepth 100000 in
theorem gridhallref3_ConvexError.calls (k : Nat) (a0_0 : Int) (a0_1 : Int) (A0_2 : Option Addr) (c0_2 : Nat) (l0_2 : List (S88)) (r : Int) (w : World) (hr0_2 : Kd.C k88 w A0_2 l0_2.length l0_2) (hc0_2 : l0_2.length ≤ c0_2) (h : gridhallref3_ConvexError.f k a0_0 a0_1 l0_2 = some r) :
  Calls Try.prog 35 #[.agg #[.int .i64 a0_0, .int .i64 a0_1, .slice A0_2 l0_2.length c0_2]] w fun e w' => e = .returned (.int .i64 r) ∧ Below w.heap.size w w' := by
 have hu82:=Try.underlying82
 have hu88:=Try.underlying88
 have HR0_2:=Aside0.mk hr0_2
 have HC0_2:=Aside0.mk hc0_2
 clear hr0_2 hc0_2
 have HB:=Aside0.mk (Below.refl w.heap.size w)
 have H : (if (l0_2.length : Int) > 64 then (some 2) else ((gridhallref3_In.f a0_0 (-1000000) 1000000).bind fun t199=>(if t199 = true then ((gridhallref3_In.f a0_1 (-1000000000000000) 1000000000000000).bind fun t200=>(gridhallref3_ConvexError.j0 k (!t200) a0_0 a0_1 l0_2)) else (gridhallref3_ConvexError.j0 k true a0_0 a0_1 l0_2)))) = some r:=h
 clear h
 by_cases c2 : (l0_2.length : Int) > 64
 ·rw [if_pos c2] at H
  have c2b0 : decide (64 < (l0_2.length : Int)) = true:=decide_eq_true c2
  have c2b1 : decide (64 < l0_2.length) = true:=decide_eq_true (by omega)
  clear c2
  obtain rfl:=Option.some.inj H
  go_enter Try.func35, Try.ntmps35
  go_wp2_with (first|((with_reducible refine gate_dst (N:=1) rfl ?_);refine box_event ?hg (N:=1) ?hd (cs:=#[.int .i64 a0_0, .int .i64 a0_1, .slice A0_2 l0_2.length c0_2]) (t:=82) ?hr ?_;(case hd=>rfl);(case hg=>rfl);(case hr=>first|(go_simp;done)|(go_simp;rfl));intro gb198 hg w3 hbox hb;have n0_:=Aside0.mk (below_step (by repeat (first|(with_reducible first|exact HB.out|apply below_alloc|apply pw_below_drewN|apply below_drew1)|exact HB.out)) hb);have n1_:=Aside0.mk (hbox);have n2_:=Aside0.mk ((by rw [hg];exact (below_size (by repeat (first|(with_reducible first|exact HB.out|apply below_alloc|apply pw_below_drewN|apply below_drew1)|exact HB.out))) : w.heap.size ≤ gb198));have n3_:=Aside0.mk ((by rw [hg];exact (below_size (by repeat (first|(with_reducible first|exact HB.out|apply below_alloc|apply pw_below_drewN|apply below_drew1)|exact HB.out))) : w.heap.size ≤ gb198));clear HB;have HB:=n0_;have BK198:=n1_;have GW198:=n2_;have GE198:=n3_;clear n0_ n1_ n2_ n3_;clear hb hbox hg;have hcz4_0 : w3.cell? ⟨gb198, 0, none⟩ = some (.int .i64 a0_0):=(blk_cell BK198.out 0).trans rfl;have hcz4_1 : w3.cell? ⟨gb198, 1, none⟩ = some (.int .i64 a0_1):=(blk_cell BK198.out 1).trans rfl;have hcz4_2 : w3.cell? ⟨gb198, 2, none⟩ = some (.slice A0_2 l0_2.length c0_2):=(blk_cell BK198.out 2).trans rfl;have hfz4_0:=blk_frozen BK198.out 0;have hfz4_1:=blk_frozen BK198.out 1;have hfz4_2:=blk_frozen BK198.out 2))
  repeat (go_quiet (first|((with_reducible refine gate_dst (N:=1) rfl ?_);refine box_event ?hg (N:=1) ?hd (cs:=#[.int .i64 a0_0, .int .i64 a0_1, .slice A0_2 l0_2.length c0_2]) (t:=82) ?hr ?_;(case hd=>rfl);(case hg=>rfl);(case hr=>first|(go_simp;done)|(go_simp;rfl));intro gb198 hg w3 hbox hb;have n0_:=Aside0.mk (below_step (by repeat (first|(with_reducible first|exact HB.out|apply below_alloc|apply pw_below_drewN|apply below_drew1)|exact HB.out)) hb);have n1_:=Aside0.mk (hbox);have n2_:=Aside0.mk ((by rw [hg];exact (below_size (by repeat (first|(with_reducible first|exact HB.out|apply below_alloc|apply pw_below_drewN|apply below_drew1)|exact HB.out))) : w.heap.size ≤ gb198));have n3_:=Aside0.mk ((by rw [hg];exact (below_size (by repeat (first|(with_reducible first|exact HB.out|apply below_alloc|apply pw_below_drewN|apply below_drew1)|exact HB.out))) : w.heap.size ≤ gb198));clear HB;have HB:=n0_;have BK198:=n1_;have GW198:=n2_;have GE198:=n3_;clear n0_ n1_ n2_ n3_;clear hb hbox hg;have hcz4_0 : w3.cell? ⟨gb198, 0, none⟩ = some (.int .i64 a0_0):=(blk_cell BK198.out 0).trans rfl;have hcz4_1 : w3.cell? ⟨gb198, 1, none⟩ = some (.int .i64 a0_1):=(blk_cell BK198.out 1).trans rfl;have hcz4_2 : w3.cell? ⟨gb198, 2, none⟩ = some (.slice A0_2 l0_2.length c0_2):=(blk_cell BK198.out 2).trans rfl;have hfz4_0:=blk_frozen BK198.out 0;have hfz4_1:=blk_frozen BK198.out 1;have hfz4_2:=blk_frozen BK198.out 2));try go_wp2_with (first|((with_reducible refine gate_dst (N:=1) rfl ?_);refine box_event ?hg (N:=1) ?hd (cs:=#[.int .i64 a0_0, .int .i64 a0_1, .slice A0_2 l0_2.length c0_2]) (t:=82) ?hr ?_;(case hd=>rfl);(case hg=>rfl);(case hr=>first|(go_simp;done)|(go_simp;rfl));intro gb198 hg w3 hbox hb;have n0_:=Aside0.mk (below_step (by repeat (first|(with_reducible first|exact HB.out|apply below_alloc|apply pw_below_drewN|apply below_drew1)|exact HB.out)) hb);have n1_:=Aside0.mk (hbox);have n2_:=Aside0.mk ((by rw [hg];exact (below_size (by repeat (first|(with_reducible first|exact HB.out|apply below_alloc|apply pw_below_drewN|apply below_drew1)|exact HB.out))) : w.heap.size ≤ gb198));have n3_:=Aside0.mk ((by rw [hg];exact (below_size (by repeat (first|(with_reducible first|exact HB.out|apply below_alloc|apply pw_below_drewN|apply below_drew1)|exact HB.out))) : w.heap.size ≤ gb198));clear HB;have HB:=n0_;have BK198:=n1_;have GW198:=n2_;have GE198:=n3_;clear n0_ n1_ n2_ n3_;clear hb hbox hg;have hcz4_0 : w3.cell? ⟨gb198, 0, none⟩ = some (.int .i64 a0_0):=(blk_cell BK198.out 0).trans rfl;have hcz4_1 : w3.cell? ⟨gb198, 1, none⟩ = some (.int .i64 a0_1):=(blk_cell BK198.out 1).trans rfl;have hcz4_2 : w3.cell? ⟨gb198, 2, none⟩ = some (.slice A0_2 l0_2.length c0_2):=(blk_cell BK198.out 2).trans rfl;have hfz4_0:=blk_frozen BK198.out 0;have hfz4_1:=blk_frozen BK198.out 1;have hfz4_2:=blk_frozen BK198.out 2)))
  go_ret
  exact ⟨by first|rfl|(simp [errW_none, errW_some] <;> rfl)|(simp [*, errW_none, errW_some] <;> rfl), by repeat (first|(with_reducible first|exact HB.out|apply below_alloc|apply pw_below_drewN|apply below_drew1|refine below_set ?_ GE198.out)|exact HB.out)⟩
 ·rw [if_neg c2] at H
  have c2b0 : decide (64 < (l0_2.length : Int)) = false:=decide_eq_false c2
  have c2b1 : decide (64 < l0_2.length) = false:=decide_eq_false (by omega)
  clear c2
  have HC5:=Aside0.mk H
  clear H
  go_enter Try.func35, Try.ntmps35
  go_upto_region 3 with (first|((with_reducible refine gate_dst (N:=1) rfl ?_);refine box_event ?hg (N:=1) ?hd (cs:=#[.int .i64 a0_0, .int .i64 a0_1, .slice A0_2 l0_2.length c0_2]) (t:=82) ?hr ?_;(case hd=>rfl);(case hg=>rfl);(case hr=>first|(go_simp;done)|(go_simp;rfl));intro gb198 hg w6 hbox hb;have n0_:=Aside0.mk (below_step (by repeat (first|(with_reducible first|exact HB.out|apply below_alloc|apply pw_below_drewN|apply below_drew1)|exact HB.out)) hb);have n1_:=Aside0.mk (hbox);have n2_:=Aside0.mk ((by rw [hg];exact (below_size (by repeat (first|(with_reducible first|exact HB.out|apply below_alloc|apply pw_below_drewN|apply below_drew1)|exact HB.out))) : w.heap.size ≤ gb198));have n3_:=Aside0.mk ((by rw [hg];exact (below_size (by repeat (first|(with_reducible first|exact HB.out|apply below_alloc|apply pw_below_drewN|apply below_drew1)|exact HB.out))) : w.heap.size ≤ gb198));clear HB;have HB:=n0_;have BK198:=n1_;have GW198:=n2_;have GE198:=n3_;clear n0_ n1_ n2_ n3_;clear hb hbox hg;have hcz7_0 : w6.cell? ⟨gb198, 0, none⟩ = some (.int .i64 a0_0):=(blk_cell BK198.out 0).trans rfl;have hcz7_1 : w6.cell? ⟨gb198, 1, none⟩ = some (.int .i64 a0_1):=(blk_cell BK198.out 1).trans rfl;have hcz7_2 : w6.cell? ⟨gb198, 2, none⟩ = some (.slice A0_2 l0_2.length c0_2):=(blk_cell BK198.out 2).trans rfl;have hfz7_0:=blk_frozen BK198.out 0;have hfz7_1:=blk_frozen BK198.out 1;have hfz7_2:=blk_frozen BK198.out 2))
  repeat (go_quiet (first|((with_reducible refine gate_dst (N:=1) rfl ?_);refine box_event ?hg (N:=1) ?hd (cs:=#[.int .i64 a0_0, .int .i64 a0_1, .slice A0_2 l0_2.length c0_2]) (t:=82) ?hr ?_;(case hd=>rfl);(case hg=>rfl);(case hr=>first|(go_simp;done)|(go_simp;rfl));intro gb198 hg w6 hbox hb;have n0_:=Aside0.mk (below_step (by repeat (first|(with_reducible first|exact HB.out|apply below_alloc|apply pw_below_drewN|apply below_drew1)|exact HB.out)) hb);have n1_:=Aside0.mk (hbox);have n2_:=Aside0.mk ((by rw [hg];exact (below_size (by repeat (first|(with_reducible first|exact HB.out|apply below_alloc|apply pw_below_drewN|apply below_drew1)|exact HB.out))) : w.heap.size ≤ gb198));have n3_:=Aside0.mk ((by rw [hg];exact (below_size (by repeat (first|(with_reducible first|exact HB.out|apply below_alloc|apply pw_below_drewN|apply below_drew1)|exact HB.out))) : w.heap.size ≤ gb198));clear HB;have HB:=n0_;have BK198:=n1_;have GW198:=n2_;have GE198:=n3_;clear n0_ n1_ n2_ n3_;clear hb hbox hg;have hcz7_0 : w6.cell? ⟨gb198, 0, none⟩ = some (.int .i64 a0_0):=(blk_cell BK198.out 0).trans rfl;have hcz7_1 : w6.cell? ⟨gb198, 1, none⟩ = some (.int .i64 a0_1):=(blk_cell BK198.out 1).trans rfl;have hcz7_2 : w6.cell? ⟨gb198, 2, none⟩ = some (.slice A0_2 l0_2.length c0_2):=(blk_cell BK198.out 2).trans rfl;have hfz7_0:=blk_frozen BK198.out 0;have hfz7_1:=blk_frozen BK198.out 1;have hfz7_2:=blk_frozen BK198.out 2));go_upto_region 3 with (first|((with_reducible refine gate_dst (N:=1) rfl ?_);refine box_event ?hg (N:=1) ?hd (cs:=#[.int .i64 a0_0, .int .i64 a0_1, .slice A0_2 l0_2.length c0_2]) (t:=82) ?hr ?_;(case hd=>rfl);(case hg=>rfl);(case hr=>first|(go_simp;done)|(go_simp;rfl));intro gb198 hg w6 hbox hb;have n0_:=Aside0.mk (below_step (by repeat (first|(with_reducible first|exact HB.out|apply below_alloc|apply pw_below_drewN|apply below_drew1)|exact HB.out)) hb);have n1_:=Aside0.mk (hbox);have n2_:=Aside0.mk ((by rw [hg];exact (below_size (by repeat (first|(with_reducible first|exact HB.out|apply below_alloc|apply pw_below_drewN|apply below_drew1)|exact HB.out))) : w.heap.size ≤ gb198));have n3_:=Aside0.mk ((by rw [hg];exact (below_size (by repeat (first|(with_reducible first|exact HB.out|apply below_alloc|apply pw_below_drewN|apply below_drew1)|exact HB.out))) : w.heap.size ≤ gb198));clear HB;have HB:=n0_;have BK198:=n1_;have GW198:=n2_;have GE198:=n3_;clear n0_ n1_ n2_ n3_;clear hb hbox hg;have hcz7_0 : w6.cell? ⟨gb198, 0, none⟩ = some (.int .i64 a0_0):=(blk_cell BK198.out 0).trans rfl;have hcz7_1 : w6.cell? ⟨gb198, 1, none⟩ = some (.int .i64 a0_1):=(blk_cell BK198.out 1).trans rfl;have hcz7_2 : w6.cell? ⟨gb198, 2, none⟩ = some (.slice A0_2 l0_2.length c0_2):=(blk_cell BK198.out 2).trans rfl;have hfz7_0:=blk_frozen BK198.out 0;have hfz7_1:=blk_frozen BK198.out 1;have hfz7_2:=blk_frozen BK198.out 2)))
  (try simp only [Act.put, List.setIfInBounds_toArray, List.set_cons_zero, List.set_cons_succ])
  go_cut [20] (fun v20 wc=>∃ (kq : Nat) (x20_4 : Bool), v20 = .bool x20_4∧Aside0 (gridhallref3_ConvexError.j0 kq x20_4 a0_0 a0_1 l0_2 = some r)∧Aside0 (kq ≤ k)∧Aside0 (wc.heap[gb198]? = some (.cells #[.int .i64 a0_0, .int .i64 a0_1, (.slice A0_2 l0_2.length c0_2)] 82 (0, 0)))∧Aside0 (Below w.heap.size w wc))
  case first =>
   have H:=HC5.out
   clear HC5
   replace H:=Option.bind_eq_some_iff.mp H
   obtain ⟨t199, A80, H⟩:=H
   replace H : (if t199 = true then ((gridhallref3_In.f a0_1 (-1000000000000000) 1000000000000000).bind fun t200=>(gridhallref3_ConvexError.j0 k (!t200) a0_0 a0_1 l0_2)) else (gridhallref3_ConvexError.j0 k true a0_0 a0_1 l0_2)) = some r:=H
   have A8:=Aside0.mk A80
   clear A80
   by_cases c9 : t199 = true
   ·subst c9
    have H1 : ((gridhallref3_In.f a0_1 (-1000000000000000) 1000000000000000).bind fun t200=>(gridhallref3_ConvexError.j0 k (!t200) a0_0 a0_1 l0_2)) = some r:=by rw [if_pos rfl] at H;exact H
    clear H
    have H:=H1
    clear H1
    replace H:=Option.bind_eq_some_iff.mp H
    obtain ⟨t200, A100, H⟩:=H
    replace H : (gridhallref3_ConvexError.j0 k (!t200) a0_0 a0_1 l0_2) = some r:=H
    have A10:=Aside0.mk A100
    clear A100
    have H':=Aside0.mk H
    clear H
    have hcz11_0 : w6.cell? ⟨gb198, 0, none⟩ = some (.int .i64 a0_0):=(blk_cell BK198.out 0).trans rfl
    have hcz11_1 : w6.cell? ⟨gb198, 1, none⟩ = some (.int .i64 a0_1):=(blk_cell BK198.out 1).trans rfl
    have hcz11_2 : w6.cell? ⟨gb198, 2, none⟩ = some (.slice A0_2 l0_2.length c0_2):=(blk_cell BK198.out 2).trans rfl
    have hfz11_0:=blk_frozen BK198.out 0
    have hfz11_1:=blk_frozen BK198.out 1
    have hfz11_2:=blk_frozen BK198.out 2
    go_wp2_with (first|(go_at_call 14;(with_reducible refine (gridhallref3_In.calls a0_0 (-1000000) 1000000 true _ A8.out).mono ?_);rintro e w' ⟨rfl, ⟨nd, rfl⟩⟩;(try first|exact ⟨rfl, _, World.drewN_drewN _ _ _⟩|exact ⟨rfl, _, Eq.trans (World.drewN_drewN _ _ _) (congrArg (World.drewN _) (Nat.add_assoc _ _ _))⟩))|(go_at_call 14;(with_reducible refine (gridhallref3_In.calls a0_1 (-1000000000000000) 1000000000000000 t200 _ A10.out).mono ?_);rintro e w' ⟨rfl, ⟨nd, rfl⟩⟩;(try first|exact ⟨rfl, _, World.drewN_drewN _ _ _⟩|exact ⟨rfl, _, Eq.trans (World.drewN_drewN _ _ _) (congrArg (World.drewN _) (Nat.add_assoc _ _ _))⟩)))
    repeat (go_quiet (first|(go_at_call 14;(with_reducible refine (gridhallref3_In.calls a0_0 (-1000000) 1000000 true _ A8.out).mono ?_);rintro e w' ⟨rfl, ⟨nd, rfl⟩⟩;(try first|exact ⟨rfl, _, World.drewN_drewN _ _ _⟩|exact ⟨rfl, _, Eq.trans (World.drewN_drewN _ _ _) (congrArg (World.drewN _) (Nat.add_assoc _ _ _))⟩))|(go_at_call 14;(with_reducible refine (gridhallref3_In.calls a0_1 (-1000000000000000) 1000000000000000 t200 _ A10.out).mono ?_);rintro e w' ⟨rfl, ⟨nd, rfl⟩⟩;(try first|exact ⟨rfl, _, World.drewN_drewN _ _ _⟩|exact ⟨rfl, _, Eq.trans (World.drewN_drewN _ _ _) (congrArg (World.drewN _) (Nat.add_assoc _ _ _))⟩)));try go_wp2_with (first|(go_at_call 14;(with_reducible refine (gridhallref3_In.calls a0_0 (-1000000) 1000000 true _ A8.out).mono ?_);rintro e w' ⟨rfl, ⟨nd, rfl⟩⟩;(try first|exact ⟨rfl, _, World.drewN_drewN _ _ _⟩|exact ⟨rfl, _, Eq.trans (World.drewN_drewN _ _ _) (congrArg (World.drewN _) (Nat.add_assoc _ _ _))⟩))|(go_at_call 14;(with_reducible refine (gridhallref3_In.calls a0_1 (-1000000000000000) 1000000000000000 t200 _ A10.out).mono ?_);rintro e w' ⟨rfl, ⟨nd, rfl⟩⟩;(try first|exact ⟨rfl, _, World.drewN_drewN _ _ _⟩|exact ⟨rfl, _, Eq.trans (World.drewN_drewN _ _ _) (congrArg (World.drewN _) (Nat.add_assoc _ _ _))⟩))))
    go_meet
    case rel=>exact ⟨_, (!t200),(by first|rfl|(simp;done)|(simp [*];done)), H', ⟨by first|omega|exact Nat.le_refl _⟩,⟨by (with_reducible repeat (first|refine blk_drewN ?_ _|refine blk_drew ?_|refine blk_alloc ?_ _));exact BK198.out⟩,⟨by repeat (first|(with_reducible first|exact HB.out|apply below_alloc|apply pw_below_drewN|apply below_drew1|refine below_set ?_ GE198.out)|exact HB.out)⟩⟩
   ·replace c9:=Bool.eq_false_iff.mpr c9
    subst c9
    have H1 : (gridhallref3_ConvexError.j0 k true a0_0 a0_1 l0_2) = some r:=by rw [if_neg (show ¬ (false = true) by decide)] at H;exact H
    clear H
    have H:=H1
    clear H1
    have H':=Aside0.mk H
    clear H
    have hcz12_0 : w6.cell? ⟨gb198, 0, none⟩ = some (.int .i64 a0_0):=(blk_cell BK198.out 0).trans rfl
    have hcz12_1 : w6.cell? ⟨gb198, 1, none⟩ = some (.int .i64 a0_1):=(blk_cell BK198.out 1).trans rfl
    have hcz12_2 : w6.cell? ⟨gb198, 2, none⟩ = some (.slice A0_2 l0_2.length c0_2):=(blk_cell BK198.out 2).trans rfl
    have hfz12_0:=blk_frozen BK198.out 0
    have hfz12_1:=blk_frozen BK198.out 1
    have hfz12_2:=blk_frozen BK198.out 2
    go_wp2_with (first|(go_at_call 14;(with_reducible refine (gridhallref3_In.calls a0_0 (-1000000) 1000000 false _ A8.out).mono ?_);rintro e w' ⟨rfl, ⟨nd, rfl⟩⟩;(try first|exact ⟨rfl, _, World.drewN_drewN _ _ _⟩|exact ⟨rfl, _, Eq.trans (World.drewN_drewN _ _ _) (congrArg (World.drewN _) (Nat.add_assoc _ _ _))⟩)))
    repeat (go_quiet (first|(go_at_call 14;(with_reducible refine (gridhallref3_In.calls a0_0 (-1000000) 1000000 false _ A8.out).mono ?_);rintro e w' ⟨rfl, ⟨nd, rfl⟩⟩;(try first|exact ⟨rfl, _, World.drewN_drewN _ _ _⟩|exact ⟨rfl, _, Eq.trans (World.drewN_drewN _ _ _) (congrArg (World.drewN _) (Nat.add_assoc _ _ _))⟩)));try go_wp2_with (first|(go_at_call 14;(with_reducible refine (gridhallref3_In.calls a0_0 (-1000000) 1000000 false _ A8.out).mono ?_);rintro e w' ⟨rfl, ⟨nd, rfl⟩⟩;(try first|exact ⟨rfl, _, World.drewN_drewN _ _ _⟩|exact ⟨rfl, _, Eq.trans (World.drewN_drewN _ _ _) (congrArg (World.drewN _) (Nat.add_assoc _ _ _))⟩))))
    go_meet
    case rel=>exact ⟨_, (true),(by first|rfl|(simp;done)|(simp [*];done)), H', ⟨by first|omega|exact Nat.le_refl _⟩,⟨by (with_reducible repeat (first|refine blk_drewN ?_ _|refine blk_drew ?_|refine blk_alloc ?_ _));exact BK198.out⟩,⟨by repeat (first|(with_reducible first|exact HB.out|apply below_alloc|apply pw_below_drewN|apply below_drew1|refine below_set ?_ GE198.out)|exact HB.out)⟩⟩
  case rest =>
   clear HC5
   try clear c2
   try clear c2b0
   try clear c2b1
   try clear p2
   try clear c3
   try clear c9
   try clear hcz11_0
   try clear hcz11_1
   try clear hcz11_2
   try clear hcz12_0
   try clear hcz12_1
   try clear hcz12_2
   try clear hcz4_0
   try clear hcz4_1
   try clear hcz4_2
   try clear hcz7_0
   try clear hcz7_1
   try clear hcz7_2
   try clear hfz11_0
   try clear hfz11_1
   try clear hfz11_2
   try clear hfz12_0
   try clear hfz12_1
   try clear hfz12_2
   try clear hfz4_0
   try clear hfz4_1
   try clear hfz4_2
   try clear hfz7_0
   try clear hfz7_1
   try clear hfz7_2
   obtain ⟨kq, x20_4, rfl, HA, HJ4, BK198, HB⟩:=hcut
   cases kq with
  |zero => exact absurd HA.out (by simp [gridhallref3_ConvexError.j0])
  |succ kj4 =>
    have H:=HA.out
    clear HA
    simp only [gridhallref3_ConvexError.j0] at H
    by_cases c13 : x20_4 = true
    ·subst c13
     have H1 : (some 4) = some r:=by rw [if_pos rfl] at H;exact H
     clear H
     have H:=H1
     clear H1
     obtain rfl:=Option.some.inj H
     go_wp2
     repeat (go_quiet (fail);try go_wp2)
     go_ret
     exact ⟨by first|rfl|(simp [errW_none, errW_some] <;> rfl)|(simp [*, errW_none, errW_some] <;> rfl), by repeat (first|(with_reducible first|exact HB.out|apply below_alloc|apply pw_below_drewN|apply below_drew1|refine below_set ?_ GE198.out)|exact HB.out)⟩
    ·replace c13:=Bool.eq_false_iff.mpr c13
     subst c13
     have H1 : (gridhallref3_ConvexError.l0 kj4 a0_0 a0_1 l0_2 (l0_2.length : Int) 0 a0_0 a0_1 l0_2) = some r:=by rw [if_neg (show ¬ (false = true) by decide)] at H;exact H
     clear H
     have H:=H1
     clear H1
     have H':=Aside0.mk H
     clear H
     have hcz14_0 : wc.cell? ⟨gb198, 0, none⟩ = some (.int .i64 a0_0):=(blk_cell BK198.out 0).trans rfl
     have hcz14_1 : wc.cell? ⟨gb198, 1, none⟩ = some (.int .i64 a0_1):=(blk_cell BK198.out 1).trans rfl
     have hcz14_2 : wc.cell? ⟨gb198, 2, none⟩ = some (.slice A0_2 l0_2.length c0_2):=(blk_cell BK198.out 2).trans rfl
     have hfz14_0:=blk_frozen BK198.out 0
     have hfz14_1:=blk_frozen BK198.out 1
     have hfz14_2:=blk_frozen BK198.out 2
     go_wp2
     repeat (go_quiet (fail);try go_wp2)
     go_loopg [3, 4, 28] kj4 (fun kq v3 v4 v28 w'=>∃ (x3_2 : Int) (x4_2 : Int) (x28_2 : Int), v3 = .int .i64 x3_2∧v4 = .int .i64 x4_2∧v28 = .int .i64 x28_2∧Aside0 (gridhallref3_ConvexError.l0 kq x3_2 x4_2 l0_2 (l0_2.length : Int) x28_2 a0_0 a0_1 l0_2 = some r)∧Aside0 (kq ≤ kj4)∧Aside0 (w'.heap[gb198]? = some (.cells #[.int .i64 a0_0, .int .i64 a0_1, (.slice A0_2 l0_2.length c0_2)] 82 (0, 0)))∧Aside0 (Below w.heap.size w w'))
     case atStart=>exact ⟨(a0_0),(a0_1),(0),(by first|rfl|(simp;done)|(simp [*];done)),(by first|rfl|(simp;done)|(simp [*];done)),(by first|rfl|(simp;done)|(simp [*];done)), H', ⟨Nat.le_refl _⟩,⟨by (with_reducible repeat (first|refine blk_drewN ?_ _|refine blk_drew ?_|refine blk_alloc ?_ _));exact BK198.out⟩,⟨by repeat (first|(with_reducible first|exact HB.out|apply below_alloc|apply pw_below_drewN|apply below_drew1|refine below_set ?_ GE198.out)|exact HB.out)⟩⟩
     case round =>
      clear H'
      try clear c1
      try clear c2
      try clear c2b0
      try clear c2b1
      try clear p2
      try clear c3
      try clear c9
      try clear c13
      try clear hcz11_0
      try clear hcz11_1
      try clear hcz11_2
      try clear hcz12_0
      try clear hcz12_1
      try clear hcz12_2
      try clear hcz14_0
      try clear hcz14_1
      try clear hcz14_2
      try clear hcz4_0
      try clear hcz4_1
      try clear hcz4_2
      try clear hcz7_0
      try clear hcz7_1
      try clear hcz7_2
      try clear hfz11_0
      try clear hfz11_1
      try clear hfz11_2
      try clear hfz12_0
      try clear hfz12_1
      try clear hfz12_2
      try clear hfz14_0
      try clear hfz14_1
      try clear hfz14_2
      try clear hfz4_0
      try clear hfz4_1
      try clear hfz4_2
      try clear hfz7_0
      try clear hfz7_1
      try clear hfz7_2
      try clear p2
      obtain ⟨x3_2, x4_2, x28_2, rfl, rfl, rfl, HA, HK2, BK198, HB⟩:=hrel
      cases gk with
     |zero => exact absurd HA.out (by simp [gridhallref3_ConvexError.l0])
     |succ k2 =>
       have H:=HA.out
       clear HA
       simp only [gridhallref3_ConvexError.l0] at H
       by_cases c15 : x28_2 < (l0_2.length : Int)
       ·rw [if_pos c15] at H
        have c15b0 : decide (x28_2 < (l0_2.length : Int)) = true:=decide_eq_true c15
        clear c15
        by_cases c16 : 0 ≤ x28_2
        ·rw [if_pos c16] at H
         have c16b0 : decide (0 ≤ x28_2) = true:=decide_eq_true c16
         clear c16
         by_cases c17 : x28_2 < (l0_2.length : Int)
         ·rw [if_pos c17] at H
          have c17b0 : decide (x28_2 < (l0_2.length : Int)) = true:=decide_eq_true c17
          clear c17
          have HC18:=Aside0.mk H
          clear H
          have p201 : 0 ≤ (x28_2 : Int):=of_decide_eq_true (by first|(with_reducible assumption)|assumption)
          have q201 : x28_2 < (l0_2.length : Int):=of_decide_eq_true (by first|(with_reducible assumption)|assumption)
          obtain ⟨ad201, e201, hx201_0, hx201_1⟩:=at_T88 HR0_2.out x28_2 p201 q201
          cases e201
          replace hx201_0:=(HB.out.cell (World.block_lt_of_cell? w _ hx201_0)).trans hx201_0
          replace hx201_1:=(HB.out.cell (World.block_lt_of_cell? w _ hx201_1)).trans hx201_1
          replace p201:=eq_true p201
          replace q201:=eq_true q201
          go_upto_region 9 with (first|((with_reducible refine gate_dst (N:=6) rfl ?_);refine box_event ?hg (N:=6) ?hd (cs:=#[.int .i64 0, .int .i64 0]) (t:=88) ?hr ?_;(case hd=>rfl);(case hg=>rfl);(case hr=>first|(go_simp;done)|(go_simp;rfl));intro gb202 hg w19 hbox hb;have n0_:=Aside0.mk (blk_below (g:=gb198) (o:=.cells #[.int .i64 a0_0, .int .i64 a0_1, .slice (some ad201) l0_2.length c0_2] 82 (0, 0)) (by (with_reducible repeat (first|refine blk_drewN ?_ _|refine blk_drew ?_|refine blk_alloc ?_ _));exact BK198.out) hb);have n1_:=Aside0.mk (below_step (by repeat (first|(with_reducible first|exact HB.out|apply below_alloc|apply pw_below_drewN|apply below_drew1|refine below_set ?_ GE198.out)|exact HB.out)) hb);have n2_:=Aside0.mk (hbox);have n3_:=Aside0.mk ((by rw [hg];exact (below_size (by repeat (first|(with_reducible first|exact HB.out|apply below_alloc|apply pw_below_drewN|apply below_drew1|refine below_set ?_ GE198.out)|exact HB.out))) : w.heap.size ≤ gb202));have n4_:=Aside0.mk ((by rw [hg];exact (below_size (by repeat (first|(with_reducible first|exact HB.out|apply below_alloc|apply pw_below_drewN|apply below_drew1|refine below_set ?_ GE198.out)|exact HB.out))) : w.heap.size ≤ gb202));have n5_:=Aside0.mk ((by rw [hg];exact Nat.ne_of_lt (blk_lt (g:=gb198) (o:=.cells #[.int .i64 a0_0, .int .i64 a0_1, .slice (some ad201) l0_2.length c0_2] 82 (0, 0)) (by (with_reducible repeat (first|refine blk_drewN ?_ _|refine blk_drew ?_|refine blk_alloc ?_ _));exact BK198.out)) : gb198 ≠ gb202));have n6_:=Aside0.mk ((by rw [hg];exact Nat.ne_of_gt (blk_lt (g:=gb198) (o:=.cells #[.int .i64 a0_0, .int .i64 a0_1, .slice (some ad201) l0_2.length c0_2] 82 (0, 0)) (by (with_reducible repeat (first|refine blk_drewN ?_ _|refine blk_drew ?_|refine blk_alloc ?_ _));exact BK198.out)) : gb202 ≠ gb198));clear BK198;clear HB;have BK198:=n0_;have HB:=n1_;have BK202:=n2_;have GW202:=n3_;have GE202:=n4_;have NB198_202:=n5_;have NB202_198:=n6_;clear n0_ n1_ n2_ n3_ n4_ n5_ n6_;clear hb hbox hg;have hnb20:=NB202_198.out;have hnc20:=NB198_202.out;have hcz21_0 : w19.cell? ⟨gb202, 0, none⟩ = some (.int .i64 0):=(blk_cell BK202.out 0).trans rfl;have hcz21_1 : w19.cell? ⟨gb202, 1, none⟩ = some (.int .i64 0):=(blk_cell BK202.out 1).trans rfl;have hfz21_0:=blk_frozen BK202.out 0;have hfz21_1:=blk_frozen BK202.out 1))
          repeat (go_quiet (first|((with_reducible refine gate_dst (N:=6) rfl ?_);refine box_event ?hg (N:=6) ?hd (cs:=#[.int .i64 0, .int .i64 0]) (t:=88) ?hr ?_;(case hd=>rfl);(case hg=>rfl);(case hr=>first|(go_simp;done)|(go_simp;rfl));intro gb202 hg w19 hbox hb;have n0_:=Aside0.mk (blk_below (g:=gb198) (o:=.cells #[.int .i64 a0_0, .int .i64 a0_1, .slice (some ad201) l0_2.length c0_2] 82 (0, 0)) (by (with_reducible repeat (first|refine blk_drewN ?_ _|refine blk_drew ?_|refine blk_alloc ?_ _));exact BK198.out) hb);have n1_:=Aside0.mk (below_step (by repeat (first|(with_reducible first|exact HB.out|apply below_alloc|apply pw_below_drewN|apply below_drew1|refine below_set ?_ GE198.out)|exact HB.out)) hb);have n2_:=Aside0.mk (hbox);have n3_:=Aside0.mk ((by rw [hg];exact (below_size (by repeat (first|(with_reducible first|exact HB.out|apply below_alloc|apply pw_below_drewN|apply below_drew1|refine below_set ?_ GE198.out)|exact HB.out))) : w.heap.size ≤ gb202));have n4_:=Aside0.mk ((by rw [hg];exact (below_size (by repeat (first|(with_reducible first|exact HB.out|apply below_alloc|apply pw_below_drewN|apply below_drew1|refine below_set ?_ GE198.out)|exact HB.out))) : w.heap.size ≤ gb202));have n5_:=Aside0.mk ((by rw [hg];exact Nat.ne_of_lt (blk_lt (g:=gb198) (o:=.cells #[.int .i64 a0_0, .int .i64 a0_1, .slice (some ad201) l0_2.length c0_2] 82 (0, 0)) (by (with_reducible repeat (first|refine blk_drewN ?_ _|refine blk_drew ?_|refine blk_alloc ?_ _));exact BK198.out)) : gb198 ≠ gb202));have n6_:=Aside0.mk ((by rw [hg];exact Nat.ne_of_gt (blk_lt (g:=gb198) (o:=.cells #[.int .i64 a0_0, .int .i64 a0_1, .slice (some ad201) l0_2.length c0_2] 82 (0, 0)) (by (with_reducible repeat (first|refine blk_drewN ?_ _|refine blk_drew ?_|refine blk_alloc ?_ _));exact BK198.out)) : gb202 ≠ gb198));clear BK198;clear HB;have BK198:=n0_;have HB:=n1_;have BK202:=n2_;have GW202:=n3_;have GE202:=n4_;have NB198_202:=n5_;have NB202_198:=n6_;clear n0_ n1_ n2_ n3_ n4_ n5_ n6_;clear hb hbox hg;have hnb20:=NB202_198.out;have hnc20:=NB198_202.out;have hcz21_0 : w19.cell? ⟨gb202, 0, none⟩ = some (.int .i64 0):=(blk_cell BK202.out 0).trans rfl;have hcz21_1 : w19.cell? ⟨gb202, 1, none⟩ = some (.int .i64 0):=(blk_cell BK202.out 1).trans rfl;have hfz21_0:=blk_frozen BK202.out 0;have hfz21_1:=blk_frozen BK202.out 1));go_upto_region 9 with (first|((with_reducible refine gate_dst (N:=6) rfl ?_);refine box_event ?hg (N:=6) ?hd (cs:=#[.int .i64 0, .int .i64 0]) (t:=88) ?hr ?_;(case hd=>rfl);(case hg=>rfl);(case hr=>first|(go_simp;done)|(go_simp;rfl));intro gb202 hg w19 hbox hb;have n0_:=Aside0.mk (blk_below (g:=gb198) (o:=.cells #[.int .i64 a0_0, .int .i64 a0_1, .slice (some ad201) l0_2.length c0_2] 82 (0, 0)) (by (with_reducible repeat (first|refine blk_drewN ?_ _|refine blk_drew ?_|refine blk_alloc ?_ _));exact BK198.out) hb);have n1_:=Aside0.mk (below_step (by repeat (first|(with_reducible first|exact HB.out|apply below_alloc|apply pw_below_drewN|apply below_drew1|refine below_set ?_ GE198.out)|exact HB.out)) hb);have n2_:=Aside0.mk (hbox);have n3_:=Aside0.mk ((by rw [hg];exact (below_size (by repeat (first|(with_reducible first|exact HB.out|apply below_alloc|apply pw_below_drewN|apply below_drew1|refine below_set ?_ GE198.out)|exact HB.out))) : w.heap.size ≤ gb202));have n4_:=Aside0.mk ((by rw [hg];exact (below_size (by repeat (first|(with_reducible first|exact HB.out|apply below_alloc|apply pw_below_drewN|apply below_drew1|refine below_set ?_ GE198.out)|exact HB.out))) : w.heap.size ≤ gb202));have n5_:=Aside0.mk ((by rw [hg];exact Nat.ne_of_lt (blk_lt (g:=gb198) (o:=.cells #[.int .i64 a0_0, .int .i64 a0_1, .slice (some ad201) l0_2.length c0_2] 82 (0, 0)) (by (with_reducible repeat (first|refine blk_drewN ?_ _|refine blk_drew ?_|refine blk_alloc ?_ _));exact BK198.out)) : gb198 ≠ gb202));have n6_:=Aside0.mk ((by rw [hg];exact Nat.ne_of_gt (blk_lt (g:=gb198) (o:=.cells #[.int .i64 a0_0, .int .i64 a0_1, .slice (some ad201) l0_2.length c0_2] 82 (0, 0)) (by (with_reducible repeat (first|refine blk_drewN ?_ _|refine blk_drew ?_|refine blk_alloc ?_ _));exact BK198.out)) : gb202 ≠ gb198));clear BK198;clear HB;have BK198:=n0_;have HB:=n1_;have BK202:=n2_;have GW202:=n3_;have GE202:=n4_;have NB198_202:=n5_;have NB202_198:=n6_;clear n0_ n1_ n2_ n3_ n4_ n5_ n6_;clear hb hbox hg;have hnb20:=NB202_198.out;have hnc20:=NB198_202.out;have hcz21_0 : w19.cell? ⟨gb202, 0, none⟩ = some (.int .i64 0):=(blk_cell BK202.out 0).trans rfl;have hcz21_1 : w19.cell? ⟨gb202, 1, none⟩ = some (.int .i64 0):=(blk_cell BK202.out 1).trans rfl;have hfz21_0:=blk_frozen BK202.out 0;have hfz21_1:=blk_frozen BK202.out 1)))
          (try simp only [Act.put, List.setIfInBounds_toArray, List.set_cons_zero, List.set_cons_succ])
          go_cut [42] (fun v42 wc=>∃ (kq : Nat) (x42_17 : Bool), v42 = .bool x42_17∧Aside0 (gridhallref3_ConvexError.j2 kq x3_2 x4_2 x28_2 l0_2 (l0_2.length : Int) x28_2 x42_17 a0_0 a0_1 l0_2 ((rd_T88 l0_2 x28_2).f0) ((rd_T88 l0_2 x28_2).f1) = some r)∧Aside0 (kq ≤ k2)∧Aside0 (wc.heap[gb198]? = some (.cells #[.int .i64 a0_0, .int .i64 a0_1, (.slice (some ad201) l0_2.length c0_2)] 82 (0, 0)))∧Aside0 (wc.heap[gb202]? = some (.cells #[.int .i64 ((rd_T88 l0_2 x28_2).f0), .int .i64 ((rd_T88 l0_2 x28_2).f1)] 88 (0, 0)))∧Aside0 (Below w.heap.size w wc))
          case first =>
           have H:=HC18.out
           clear HC18
           replace H:=Option.bind_eq_some_iff.mp H
           obtain ⟨t203, A220, H⟩:=H
           replace H : (if t203 = true then ((gridhallref3_In.f ((rd_T88 l0_2 x28_2).f1) (-10000000) 10000000).bind fun t204=>(gridhallref3_ConvexError.j2 k2 x3_2 x4_2 x28_2 l0_2 (l0_2.length : Int) x28_2 (!t204) a0_0 a0_1 l0_2 ((rd_T88 l0_2 x28_2).f0) ((rd_T88 l0_2 x28_2).f1))) else (gridhallref3_ConvexError.j2 k2 x3_2 x4_2 x28_2 l0_2 (l0_2.length : Int) x28_2 true a0_0 a0_1 l0_2 ((rd_T88 l0_2 x28_2).f0) ((rd_T88 l0_2 x28_2).f1))) = some r:=H
           have A22:=Aside0.mk A220
           clear A220
           by_cases c23 : t203 = true
           ·subst c23
            have H1 : ((gridhallref3_In.f ((rd_T88 l0_2 x28_2).f1) (-10000000) 10000000).bind fun t204=>(gridhallref3_ConvexError.j2 k2 x3_2 x4_2 x28_2 l0_2 (l0_2.length : Int) x28_2 (!t204) a0_0 a0_1 l0_2 ((rd_T88 l0_2 x28_2).f0) ((rd_T88 l0_2 x28_2).f1))) = some r:=by rw [if_pos rfl] at H;exact H
            clear H
            have H:=H1
            clear H1
            replace H:=Option.bind_eq_some_iff.mp H
            obtain ⟨t204, A240, H⟩:=H
            replace H : (gridhallref3_ConvexError.j2 k2 x3_2 x4_2 x28_2 l0_2 (l0_2.length : Int) x28_2 (!t204) a0_0 a0_1 l0_2 ((rd_T88 l0_2 x28_2).f0) ((rd_T88 l0_2 x28_2).f1)) = some r:=H
            have A24:=Aside0.mk A240
            clear A240
            have H':=Aside0.mk H
            clear H
            have hnb25:=NB202_198.out
            have hnc25:=NB198_202.out
            have hcz26_0 : w19.cell? ⟨gb202, 0, none⟩ = some (.int .i64 0):=(blk_cell BK202.out 0).trans rfl
            have hcz26_1 : w19.cell? ⟨gb202, 1, none⟩ = some (.int .i64 0):=(blk_cell BK202.out 1).trans rfl
            have hfz26_0:=blk_frozen BK202.out 0
            have hfz26_1:=blk_frozen BK202.out 1
            go_wp2_with (first|(go_at_call 14;(with_reducible refine (gridhallref3_In.calls ((rd_T88 l0_2 x28_2).f0) 1 2000000 true _ A22.out).mono ?_);rintro e w' ⟨rfl, ⟨nd, rfl⟩⟩;(try first|exact ⟨rfl, _, World.drewN_drewN _ _ _⟩|exact ⟨rfl, _, Eq.trans (World.drewN_drewN _ _ _) (congrArg (World.drewN _) (Nat.add_assoc _ _ _))⟩))|(go_at_call 14;(with_reducible refine (gridhallref3_In.calls ((rd_T88 l0_2 x28_2).f1) (-10000000) 10000000 t204 _ A24.out).mono ?_);rintro e w' ⟨rfl, ⟨nd, rfl⟩⟩;(try first|exact ⟨rfl, _, World.drewN_drewN _ _ _⟩|exact ⟨rfl, _, Eq.trans (World.drewN_drewN _ _ _) (congrArg (World.drewN _) (Nat.add_assoc _ _ _))⟩)))
            repeat (go_quiet (first|(go_at_call 14;(with_reducible refine (gridhallref3_In.calls ((rd_T88 l0_2 x28_2).f0) 1 2000000 true _ A22.out).mono ?_);rintro e w' ⟨rfl, ⟨nd, rfl⟩⟩;(try first|exact ⟨rfl, _, World.drewN_drewN _ _ _⟩|exact ⟨rfl, _, Eq.trans (World.drewN_drewN _ _ _) (congrArg (World.drewN _) (Nat.add_assoc _ _ _))⟩))|(go_at_call 14;(with_reducible refine (gridhallref3_In.calls ((rd_T88 l0_2 x28_2).f1) (-10000000) 10000000 t204 _ A24.out).mono ?_);rintro e w' ⟨rfl, ⟨nd, rfl⟩⟩;(try first|exact ⟨rfl, _, World.drewN_drewN _ _ _⟩|exact ⟨rfl, _, Eq.trans (World.drewN_drewN _ _ _) (congrArg (World.drewN _) (Nat.add_assoc _ _ _))⟩)));try go_wp2_with (first|(go_at_call 14;(with_reducible refine (gridhallref3_In.calls ((rd_T88 l0_2 x28_2).f0) 1 2000000 true _ A22.out).mono ?_);rintro e w' ⟨rfl, ⟨nd, rfl⟩⟩;(try first|exact ⟨rfl, _, World.drewN_drewN _ _ _⟩|exact ⟨rfl, _, Eq.trans (World.drewN_drewN _ _ _) (congrArg (World.drewN _) (Nat.add_assoc _ _ _))⟩))|(go_at_call 14;(with_reducible refine (gridhallref3_In.calls ((rd_T88 l0_2 x28_2).f1) (-10000000) 10000000 t204 _ A24.out).mono ?_);rintro e w' ⟨rfl, ⟨nd, rfl⟩⟩;(try first|exact ⟨rfl, _, World.drewN_drewN _ _ _⟩|exact ⟨rfl, _, Eq.trans (World.drewN_drewN _ _ _) (congrArg (World.drewN _) (Nat.add_assoc _ _ _))⟩))))
            go_meet
            case rel=>exact ⟨_, (!t204),(by first|rfl|(simp;done)|(simp [*];done)), H', ⟨by have:=HJ4.out;have:=HK2.out;first|omega|exact Nat.le_refl _⟩,⟨by (with_reducible repeat (first|refine blk_drewN ?_ _|refine blk_drew ?_|refine blk_alloc ?_ _));refine blk_far ?_ NB198_202.out _;(with_reducible repeat (first|refine blk_drewN ?_ _|refine blk_drew ?_|refine blk_alloc ?_ _));refine blk_far ?_ NB198_202.out _;(with_reducible repeat (first|refine blk_drewN ?_ _|refine blk_drew ?_|refine blk_alloc ?_ _));exact BK198.out⟩,⟨by (with_reducible repeat (first|refine blk_drewN ?_ _|refine blk_drew ?_|refine blk_alloc ?_ _));refine blk_put (cs:=#[.int .i64 ((rd_T88 l0_2 x28_2).f0), .int .i64 0]) ?_ 1 _ rfl;(with_reducible repeat (first|refine blk_drewN ?_ _|refine blk_drew ?_|refine blk_alloc ?_ _));refine blk_put (cs:=#[.int .i64 0, .int .i64 0]) ?_ 0 _ rfl;(with_reducible repeat (first|refine blk_drewN ?_ _|refine blk_drew ?_|refine blk_alloc ?_ _));exact BK202.out⟩,⟨by repeat (first|(with_reducible first|exact HB.out|apply below_alloc|apply pw_below_drewN|apply below_drew1|refine below_set ?_ GE198.out|refine below_set ?_ GE202.out)|exact HB.out)⟩⟩
           ·replace c23:=Bool.eq_false_iff.mpr c23
            subst c23
            have H1 : (gridhallref3_ConvexError.j2 k2 x3_2 x4_2 x28_2 l0_2 (l0_2.length : Int) x28_2 true a0_0 a0_1 l0_2 ((rd_T88 l0_2 x28_2).f0) ((rd_T88 l0_2 x28_2).f1)) = some r:=by rw [if_neg (show ¬ (false = true) by decide)] at H;exact H
            clear H
            have H:=H1
            clear H1
            have H':=Aside0.mk H
            clear H
            have hnb27:=NB202_198.out
            have hnc27:=NB198_202.out
            have hcz28_0 : w19.cell? ⟨gb202, 0, none⟩ = some (.int .i64 0):=(blk_cell BK202.out 0).trans rfl
            have hcz28_1 : w19.cell? ⟨gb202, 1, none⟩ = some (.int .i64 0):=(blk_cell BK202.out 1).trans rfl
            have hfz28_0:=blk_frozen BK202.out 0
            have hfz28_1:=blk_frozen BK202.out 1
            go_wp2_with (first|(go_at_call 14;(with_reducible refine (gridhallref3_In.calls ((rd_T88 l0_2 x28_2).f0) 1 2000000 false _ A22.out).mono ?_);rintro e w' ⟨rfl, ⟨nd, rfl⟩⟩;(try first|exact ⟨rfl, _, World.drewN_drewN _ _ _⟩|exact ⟨rfl, _, Eq.trans (World.drewN_drewN _ _ _) (congrArg (World.drewN _) (Nat.add_assoc _ _ _))⟩)))
            repeat (go_quiet (first|(go_at_call 14;(with_reducible refine (gridhallref3_In.calls ((rd_T88 l0_2 x28_2).f0) 1 2000000 false _ A22.out).mono ?_);rintro e w' ⟨rfl, ⟨nd, rfl⟩⟩;(try first|exact ⟨rfl, _, World.drewN_drewN _ _ _⟩|exact ⟨rfl, _, Eq.trans (World.drewN_drewN _ _ _) (congrArg (World.drewN _) (Nat.add_assoc _ _ _))⟩)));try go_wp2_with (first|(go_at_call 14;(with_reducible refine (gridhallref3_In.calls ((rd_T88 l0_2 x28_2).f0) 1 2000000 false _ A22.out).mono ?_);rintro e w' ⟨rfl, ⟨nd, rfl⟩⟩;(try first|exact ⟨rfl, _, World.drewN_drewN _ _ _⟩|exact ⟨rfl, _, Eq.trans (World.drewN_drewN _ _ _) (congrArg (World.drewN _) (Nat.add_assoc _ _ _))⟩))))
            go_meet
            case rel=>exact ⟨_, (true),(by first|rfl|(simp;done)|(simp [*];done)), H', ⟨by have:=HJ4.out;have:=HK2.out;first|omega|exact Nat.le_refl _⟩,⟨by (with_reducible repeat (first|refine blk_drewN ?_ _|refine blk_drew ?_|refine blk_alloc ?_ _));refine blk_far ?_ NB198_202.out _;(with_reducible repeat (first|refine blk_drewN ?_ _|refine blk_drew ?_|refine blk_alloc ?_ _));refine blk_far ?_ NB198_202.out _;(with_reducible repeat (first|refine blk_drewN ?_ _|refine blk_drew ?_|refine blk_alloc ?_ _));exact BK198.out⟩,⟨by (with_reducible repeat (first|refine blk_drewN ?_ _|refine blk_drew ?_|refine blk_alloc ?_ _));refine blk_put (cs:=#[.int .i64 ((rd_T88 l0_2 x28_2).f0), .int .i64 0]) ?_ 1 _ rfl;(with_reducible repeat (first|refine blk_drewN ?_ _|refine blk_drew ?_|refine blk_alloc ?_ _));refine blk_put (cs:=#[.int .i64 0, .int .i64 0]) ?_ 0 _ rfl;(with_reducible repeat (first|refine blk_drewN ?_ _|refine blk_drew ?_|refine blk_alloc ?_ _));exact BK202.out⟩,⟨by repeat (first|(with_reducible first|exact HB.out|apply below_alloc|apply pw_below_drewN|apply below_drew1|refine below_set ?_ GE198.out|refine below_set ?_ GE202.out)|exact HB.out)⟩⟩
          case rest =>
           clear HC18
           try clear c1
           try clear c2
           try clear c2b0
           try clear c2b1
           try clear p2
           try clear q2
           try clear hx2
           try clear c3
           try clear c9
           try clear c13
           try clear c15
           try clear c15b0
           try clear c16
           try clear c16b0
           try clear c17
           try clear c17b0
           try clear c20
           try clear p20
           try clear q20
           try clear hx20
           try clear c23
           try clear c25
           try clear c27
           try clear hcz11_0
           try clear hcz11_1
           try clear hcz11_2
           try clear hcz12_0
           try clear hcz12_1
           try clear hcz12_2
           try clear hcz14_0
           try clear hcz14_1
           try clear hcz14_2
           try clear hcz21_0
           try clear hcz21_1
           try clear hcz26_0
           try clear hcz26_1
           try clear hcz28_0
           try clear hcz28_1
           try clear hcz4_0
           try clear hcz4_1
           try clear hcz4_2
           try clear hcz7_0
           try clear hcz7_1
           try clear hcz7_2
           try clear hfz11_0
           try clear hfz11_1
           try clear hfz11_2
           try clear hfz12_0
           try clear hfz12_1
           try clear hfz12_2
           try clear hfz14_0
           try clear hfz14_1
           try clear hfz14_2
           try clear hfz21_0
           try clear hfz21_1
           try clear hfz26_0
           try clear hfz26_1
           try clear hfz28_0
           try clear hfz28_1
           try clear hfz4_0
           try clear hfz4_1
           try clear hfz4_2
           try clear hfz7_0
           try clear hfz7_1
           try clear hfz7_2
           try clear hx201_0
           try clear hx201_1
           try clear p2
           try clear p201
           try clear q201
           obtain ⟨kq, x42_17, rfl, HA, HJ17, BK198, BK202, HB⟩:=hcut
           cases kq with
          |zero => exact absurd HA.out (by simp [gridhallref3_ConvexError.j2])
          |succ kj17 =>
            have H:=HA.out
            clear HA
            simp only [gridhallref3_ConvexError.j2] at H
            by_cases c29 : x42_17 = true
            ·subst c29
             have H1 : (some 4) = some r:=by rw [if_pos rfl] at H;exact H
             clear H
             have H:=H1
             clear H1
             obtain rfl:=Option.some.inj H
             go_wp2
             repeat (go_quiet (fail);try go_wp2)
             go_ret
             exact ⟨by first|rfl|(simp [errW_none, errW_some] <;> rfl)|(simp [*, errW_none, errW_some] <;> rfl), by repeat (first|(with_reducible first|exact HB.out|apply below_alloc|apply pw_below_drewN|apply below_drew1|refine below_set ?_ GE198.out|refine below_set ?_ GE202.out)|exact HB.out)⟩
            ·replace c29:=Bool.eq_false_iff.mpr c29
             subst c29
             have H1 : (if x28_2 > 0 then (if 0 ≤ (wrap64 (x28_2 - 1)) then (if (wrap64 (x28_2 - 1)) < (l0_2.length : Int) then (gridhallref3_ConvexError.j3 kj17 x3_2 x4_2 l0_2 (l0_2.length : Int) x28_2 (decide (((rd_T88 l0_2 (wrap64 (x28_2 - 1))).f1) ≥ ((rd_T88 l0_2 x28_2).f1))) a0_0 a0_1 l0_2 ((rd_T88 l0_2 x28_2).f0) ((rd_T88 l0_2 x28_2).f1)) else (none)) else (none)) else (gridhallref3_ConvexError.j3 kj17 x3_2 x4_2 l0_2 (l0_2.length : Int) x28_2 false a0_0 a0_1 l0_2 ((rd_T88 l0_2 x28_2).f0) ((rd_T88 l0_2 x28_2).f1))) = some r:=by rw [if_neg (show ¬ (false = true) by decide)] at H;exact H
             clear H
             have H:=H1
             clear H1
             have HC30:=Aside0.mk H
             clear H
             go_upto_region 11 with (fail)
             repeat (go_quiet (fail);go_upto_region 11 with (fail))
             go_cut [56] (fun v56 wc=>∃ (kq : Nat) (x56_29 : Bool), v56 = .bool x56_29∧Aside0 (gridhallref3_ConvexError.j3 kq x3_2 x4_2 l0_2 (l0_2.length : Int) x28_2 x56_29 a0_0 a0_1 l0_2 ((rd_T88 l0_2 x28_2).f0) ((rd_T88 l0_2 x28_2).f1) = some r)∧Aside0 (kq ≤ kj17)∧Aside0 (wc.heap[gb198]? = some (.cells #[.int .i64 a0_0, .int .i64 a0_1, (.slice (some ad201) l0_2.length c0_2)] 82 (0, 0)))∧Aside0 (wc.heap[gb202]? = some (.cells #[.int .i64 ((rd_T88 l0_2 x28_2).f0), .int .i64 ((rd_T88 l0_2 x28_2).f1)] 88 (0, 0)))∧Aside0 (Below w.heap.size w wc))
             case first =>
              have H:=HC30.out
              clear HC30
              by_cases c31 : x28_2 > 0
              ·rw [if_pos c31] at H
               have c31b0 : decide (0 < x28_2) = true:=decide_eq_true c31
               clear c31
               (first|rw [c31b0]|(simp only [i64_w, i32_w];rw [c31b0])|skip)
               obtain ⟨ji32, hji32⟩ : ∃ j_ : Int, (wrap64 (x28_2 - 1)) = j_:=⟨_, rfl⟩
               replace H : (if 0 ≤ (ji32) then (if (ji32) < (l0_2.length : Int) then (gridhallref3_ConvexError.j3 kj17 x3_2 x4_2 l0_2 (l0_2.length : Int) x28_2 (decide (((rd_T88 l0_2 (ji32)).f1) ≥ ((rd_T88 l0_2 x28_2).f1))) a0_0 a0_1 l0_2 ((rd_T88 l0_2 x28_2).f0) ((rd_T88 l0_2 x28_2).f1)) else (none)) else (none)) = some r:=by first|(rw [hji32] at H;exact H)|(simp only [hji32] at H ⊢;exact H)
               have hji32w : (IntKind.i64.wrap (x28_2 - 1)) = ji32:=(i64_w _).trans hji32
               by_cases c33 : 0 ≤ (ji32)
               ·rw [if_pos c33] at H
                have c33b0 : decide (0 ≤ (ji32)) = true:=decide_eq_true c33
                clear c33
                by_cases c34 : (ji32) < (l0_2.length : Int)
                ·rw [if_pos c34] at H
                 have c34b0 : decide ((ji32) < (l0_2.length : Int)) = true:=decide_eq_true c34
                 clear c34
                 have H':=Aside0.mk H
                 clear H
                 have hnb35:=NB198_202.out
                 have hnc35:=NB202_198.out
                 have hcz36_0 : wc.cell? ⟨gb198, 0, none⟩ = some (.int .i64 a0_0):=(blk_cell BK198.out 0).trans rfl
                 have hcz36_1 : wc.cell? ⟨gb198, 1, none⟩ = some (.int .i64 a0_1):=(blk_cell BK198.out 1).trans rfl
                 have hcz36_2 : wc.cell? ⟨gb198, 2, none⟩ = some (.slice (some ad201) l0_2.length c0_2):=(blk_cell BK198.out 2).trans rfl
                 have hfz36_0:=blk_frozen BK198.out 0
                 have hfz36_1:=blk_frozen BK198.out 1
                 have hfz36_2:=blk_frozen BK198.out 2
                 have p205 : 0 ≤ ((ji32) : Int):=of_decide_eq_true (by first|(with_reducible assumption)|assumption)
                 have q205 : (ji32) < (l0_2.length : Int):=of_decide_eq_true (by first|(with_reducible assumption)|assumption)
                 obtain ⟨ad205, e205, hx205_0, hx205_1⟩:=at_T88 HR0_2.out (ji32) p205 q205
                 obtain rfl : ad201 = ad205:=(by injection e205)
                 replace hx205_0:=(HB.out.cell (World.block_lt_of_cell? w _ hx205_0)).trans hx205_0
                 replace hx205_1:=(HB.out.cell (World.block_lt_of_cell? w _ hx205_1)).trans hx205_1
                 replace p205:=eq_true p205
                 replace q205:=eq_true q205
                 have hcz37_0 : wc.cell? ⟨gb202, 0, none⟩ = some (.int .i64 ((rd_T88 l0_2 x28_2).f0)):=(blk_cell BK202.out 0).trans rfl
                 have hcz37_1 : wc.cell? ⟨gb202, 1, none⟩ = some (.int .i64 ((rd_T88 l0_2 x28_2).f1)):=(blk_cell BK202.out 1).trans rfl
                 have hfz37_0:=blk_frozen BK202.out 0
                 have hfz37_1:=blk_frozen BK202.out 1
                 go_wp2
                 repeat (go_quiet (fail);try go_wp2)
                 go_meet
                 case rel=>exact ⟨_, (decide (((rd_T88 l0_2 (ji32)).f1) ≥ ((rd_T88 l0_2 x28_2).f1))),(by first|rfl|(simp;done)|(simp only [← hji32] <;> (first|rfl|simp))|(simp [*];done)), H', ⟨by have:=HJ4.out;have:=HK2.out;have:=HJ17.out;first|omega|exact Nat.le_refl _⟩,⟨by (with_reducible repeat (first|refine blk_drewN ?_ _|refine blk_drew ?_|refine blk_alloc ?_ _));exact BK198.out⟩,⟨by (with_reducible repeat (first|refine blk_drewN ?_ _|refine blk_drew ?_|refine blk_alloc ?_ _));exact BK202.out⟩,⟨by repeat (first|(with_reducible first|exact HB.out|apply below_alloc|apply pw_below_drewN|apply below_drew1|refine below_set ?_ GE198.out|refine below_set ?_ GE202.out)|exact HB.out)⟩⟩
                ·rw [if_neg c34] at H
                 exact absurd H (by simp)
               ·rw [if_neg c33] at H
                exact absurd H (by simp)
              ·rw [if_neg c31] at H
               have c31b0 : decide (0 < x28_2) = false:=decide_eq_false c31
               clear c31
               (first|rw [c31b0]|(simp only [i64_w, i32_w];rw [c31b0])|skip)
               have H':=Aside0.mk H
               clear H
               go_wp2
               repeat (go_quiet (fail);try go_wp2)
               go_meet
               case rel=>exact ⟨_, (false),(by first|rfl|(simp;done)|(simp [*];done)), H', ⟨by have:=HJ4.out;have:=HK2.out;have:=HJ17.out;first|omega|exact Nat.le_refl _⟩,⟨by (with_reducible repeat (first|refine blk_drewN ?_ _|refine blk_drew ?_|refine blk_alloc ?_ _));exact BK198.out⟩,⟨by (with_reducible repeat (first|refine blk_drewN ?_ _|refine blk_drew ?_|refine blk_alloc ?_ _));exact BK202.out⟩,⟨by repeat (first|(with_reducible first|exact HB.out|apply below_alloc|apply pw_below_drewN|apply below_drew1|refine below_set ?_ GE198.out|refine below_set ?_ GE202.out)|exact HB.out)⟩⟩
             case rest =>
              clear HC30
              try clear c1
              try clear c2
              try clear c2b0
              try clear c2b1
              try clear p2
              try clear q2
              try clear hx2
              try clear c3
              try clear p6
              try clear c9
              try clear c13
              try clear c15
              try clear c15b0
              try clear c16
              try clear c16b0
              try clear c17
              try clear c17b0
              try clear c20
              try clear p20
              try clear q20
              try clear hx20
              try clear c23
              try clear c25
              try clear c27
              try clear c29
              try clear c31
              try clear c31b0
              try clear c33
              try clear c33b0
              try clear c34
              try clear c34b0
              try clear c35
              try clear hcz11_0
              try clear hcz11_1
              try clear hcz11_2
              try clear hcz12_0
              try clear hcz12_1
              try clear hcz12_2
              try clear hcz14_0
              try clear hcz14_1
              try clear hcz14_2
              try clear hcz21_0
              try clear hcz21_1
              try clear hcz26_0
              try clear hcz26_1
              try clear hcz28_0
              try clear hcz28_1
              try clear hcz36_0
              try clear hcz36_1
              try clear hcz36_2
              try clear hcz37_0
              try clear hcz37_1
              try clear hcz4_0
              try clear hcz4_1
              try clear hcz4_2
              try clear hcz7_0
              try clear hcz7_1
              try clear hcz7_2
              try clear hfz11_0
              try clear hfz11_1
              try clear hfz11_2
              try clear hfz12_0
              try clear hfz12_1
              try clear hfz12_2
              try clear hfz14_0
              try clear hfz14_1
              try clear hfz14_2
              try clear hfz21_0
              try clear hfz21_1
              try clear hfz26_0
              try clear hfz26_1
              try clear hfz28_0
              try clear hfz28_1
              try clear hfz36_0
              try clear hfz36_1
              try clear hfz36_2
              try clear hfz37_0
              try clear hfz37_1
              try clear hfz4_0
              try clear hfz4_1
              try clear hfz4_2
              try clear hfz7_0
              try clear hfz7_1
              try clear hfz7_2
              try clear hx201_0
              try clear hx201_1
              try clear hx205_0
              try clear hx205_1
              try clear p2
              try clear p20
              try clear p201
              try clear p205
              try clear q2
              try clear q20
              try clear q201
              try clear q205
              obtain ⟨kq, x56_29, rfl, HA, HJ29, BK198, BK202, HB⟩:=hcut
              cases kq with
             |zero => exact absurd HA.out (by simp [gridhallref3_ConvexError.j3])
             |succ kj29 =>
               have H:=HA.out
               clear HA
               simp only [gridhallref3_ConvexError.j3] at H
               by_cases c38 : x56_29 = true
               ·subst c38
                have H1 : (some 3) = some r:=by rw [if_pos rfl] at H;exact H
                clear H
                have H:=H1
                clear H1
                obtain rfl:=Option.some.inj H
                go_wp2
                repeat (go_quiet (fail);try go_wp2)
                go_ret
                exact ⟨by first|rfl|(simp [errW_none, errW_some] <;> rfl)|(simp [*, errW_none, errW_some] <;> rfl), by repeat (first|(with_reducible first|exact HB.out|apply below_alloc|apply pw_below_drewN|apply below_drew1|refine below_set ?_ GE198.out|refine below_set ?_ GE202.out)|exact HB.out)⟩
               ·replace c38:=Bool.eq_false_iff.mpr c38
                subst c38
                have H1 : (if (wrap64 (x3_2 + ((rd_T88 l0_2 x28_2).f0))) > 1000000 then (some 4) else ((gridhallref3_In.f (wrap64 (x4_2 + (wrap64 (((rd_T88 l0_2 x28_2).f0) * ((rd_T88 l0_2 x28_2).f1))))) (-1000000000000000) 1000000000000000).bind fun t206=>(if t206 = true then (gridhallref3_ConvexError.l0 kj29 (wrap64 (x3_2 + ((rd_T88 l0_2 x28_2).f0))) (wrap64 (x4_2 + (wrap64 (((rd_T88 l0_2 x28_2).f0) * ((rd_T88 l0_2 x28_2).f1))))) l0_2 (l0_2.length : Int) (wrap64 (x28_2 + 1)) a0_0 a0_1 l0_2) else (some 4)))) = some r:=by rw [if_neg (show ¬ (false = true) by decide)] at H;exact H
                clear H
                have H:=H1
                clear H1
                by_cases c39 : (wrap64 (x3_2 + ((rd_T88 l0_2 x28_2).f0))) > 1000000
                rw [if_pos c39] at H
                have c39b0 : decide (1000000 < (wrap64 (x3_2 + ((rd_T88 l0_2 x28_2).f0)))) = true:=decide_eq_true c39
                clear c39
                obtain rfl:=Option.some.inj H
                rotate_left
                rw [if_neg c39] at H
                have c39b0 : decide (1000000 < (wrap64 (x3_2 + ((rd_T88 l0_2 x28_2).f0)))) = false:=decide_eq_false c39
                clear c39
                replace H:=Option.bind_eq_some_iff.mp H
                obtain ⟨t206, A420, H⟩:=H
                replace H : (if t206 = true then (gridhallref3_ConvexError.l0 kj29 (wrap64 (x3_2 + ((rd_T88 l0_2 x28_2).f0))) (wrap64 (x4_2 + (wrap64 (((rd_T88 l0_2 x28_2).f0) * ((rd_T88 l0_2 x28_2).f1))))) l0_2 (l0_2.length : Int) (wrap64 (x28_2 + 1)) a0_0 a0_1 l0_2) else (some 4)) = some r:=H
                have A42:=Aside0.mk A420
                clear A420
                focus
                 by_cases c43 : t206 = true
                 subst c43
                 have H1 : (gridhallref3_ConvexError.l0 kj29 (wrap64 (x3_2 + ((rd_T88 l0_2 x28_2).f0))) (wrap64 (x4_2 + (wrap64 (((rd_T88 l0_2 x28_2).f0) * ((rd_T88 l0_2 x28_2).f1))))) l0_2 (l0_2.length : Int) (wrap64 (x28_2 + 1)) a0_0 a0_1 l0_2) = some r:=by rw [if_pos rfl] at H;exact H
                 clear H
                 have H:=H1
                 clear H1
                 have H':=Aside0.mk H
                 clear H
                 rotate_left
                 replace c43:=Bool.eq_false_iff.mpr c43
                 subst c43
                 have H1 : (some 4) = some r:=by rw [if_neg (show ¬ (false = true) by decide)] at H;exact H
                 clear H
                 have H:=H1
                 clear H1
                 obtain rfl:=Option.some.inj H
                 rotate_left
                rotate_left 2
                all_goals
                 have hnb40:=NB202_198.out
                 have hnc40:=NB198_202.out
                 have hcz41_0 : wc.cell? ⟨gb202, 0, none⟩ = some (.int .i64 ((rd_T88 l0_2 x28_2).f0)):=(blk_cell BK202.out 0).trans rfl
                 have hcz41_1 : wc.cell? ⟨gb202, 1, none⟩ = some (.int .i64 ((rd_T88 l0_2 x28_2).f1)):=(blk_cell BK202.out 1).trans rfl
                 have hfz41_0:=blk_frozen BK202.out 0
                 have hfz41_1:=blk_frozen BK202.out 1
                ·go_wp2
                 repeat (go_quiet (fail);try go_wp2)
                 go_ret
                 exact ⟨by first|rfl|(simp [errW_none, errW_some] <;> rfl)|(simp [*, errW_none, errW_some] <;> rfl), by repeat (first|(with_reducible first|exact HB.out|apply below_alloc|apply pw_below_drewN|apply below_drew1|refine below_set ?_ GE198.out|refine below_set ?_ GE202.out)|exact HB.out)⟩
                ·go_wp2_with (first|(go_at_call 14;(with_reducible refine (gridhallref3_In.calls (wrap64 (x4_2 + (wrap64 (((rd_T88 l0_2 x28_2).f0) * ((rd_T88 l0_2 x28_2).f1))))) (-1000000000000000) 1000000000000000 true _ A42.out).mono ?_);rintro e w' ⟨rfl, ⟨nd, rfl⟩⟩;(try first|exact ⟨rfl, _, World.drewN_drewN _ _ _⟩|exact ⟨rfl, _, Eq.trans (World.drewN_drewN _ _ _) (congrArg (World.drewN _) (Nat.add_assoc _ _ _))⟩)))
                 repeat (go_quiet (first|(go_at_call 14;(with_reducible refine (gridhallref3_In.calls (wrap64 (x4_2 + (wrap64 (((rd_T88 l0_2 x28_2).f0) * ((rd_T88 l0_2 x28_2).f1))))) (-1000000000000000) 1000000000000000 true _ A42.out).mono ?_);rintro e w' ⟨rfl, ⟨nd, rfl⟩⟩;(try first|exact ⟨rfl, _, World.drewN_drewN _ _ _⟩|exact ⟨rfl, _, Eq.trans (World.drewN_drewN _ _ _) (congrArg (World.drewN _) (Nat.add_assoc _ _ _))⟩)));try go_wp2_with (first|(go_at_call 14;(with_reducible refine (gridhallref3_In.calls (wrap64 (x4_2 + (wrap64 (((rd_T88 l0_2 x28_2).f0) * ((rd_T88 l0_2 x28_2).f1))))) (-1000000000000000) 1000000000000000 true _ A42.out).mono ?_);rintro e w' ⟨rfl, ⟨nd, rfl⟩⟩;(try first|exact ⟨rfl, _, World.drewN_drewN _ _ _⟩|exact ⟨rfl, _, Eq.trans (World.drewN_drewN _ _ _) (congrArg (World.drewN _) (Nat.add_assoc _ _ _))⟩))))
                 go_roundg kj29
                 case measure=>have:=HJ4.out;have:=HK2.out;have:=HJ17.out;have:=HJ29.out;omega
                 case rel=>exact ⟨(wrap64 (x3_2 + ((rd_T88 l0_2 x28_2).f0))),(wrap64 (x4_2 + (wrap64 (((rd_T88 l0_2 x28_2).f0) * ((rd_T88 l0_2 x28_2).f1))))),(wrap64 (x28_2 + 1)),(by first|rfl|(simp;done)|(simp [*];done)),(by first|rfl|(simp;done)|(simp [*];done)),(by first|rfl|(simp;done)|(simp [*];done)), H', ⟨by have:=HJ4.out;have:=HK2.out;have:=HJ17.out;have:=HJ29.out;omega⟩,⟨by (with_reducible repeat (first|refine blk_drewN ?_ _|refine blk_drew ?_|refine blk_alloc ?_ _));exact BK198.out⟩,⟨by repeat (first|(with_reducible first|exact HB.out|apply below_alloc|apply pw_below_drewN|apply below_drew1|refine below_set ?_ GE198.out|refine below_set ?_ GE202.out)|exact HB.out)⟩⟩
                ·go_wp2_with (first|(go_at_call 14;(with_reducible refine (gridhallref3_In.calls (wrap64 (x4_2 + (wrap64 (((rd_T88 l0_2 x28_2).f0) * ((rd_T88 l0_2 x28_2).f1))))) (-1000000000000000) 1000000000000000 false _ A42.out).mono ?_);rintro e w' ⟨rfl, ⟨nd, rfl⟩⟩;(try first|exact ⟨rfl, _, World.drewN_drewN _ _ _⟩|exact ⟨rfl, _, Eq.trans (World.drewN_drewN _ _ _) (congrArg (World.drewN _) (Nat.add_assoc _ _ _))⟩)))
                 repeat (go_quiet (first|(go_at_call 14;(with_reducible refine (gridhallref3_In.calls (wrap64 (x4_2 + (wrap64 (((rd_T88 l0_2 x28_2).f0) * ((rd_T88 l0_2 x28_2).f1))))) (-1000000000000000) 1000000000000000 false _ A42.out).mono ?_);rintro e w' ⟨rfl, ⟨nd, rfl⟩⟩;(try first|exact ⟨rfl, _, World.drewN_drewN _ _ _⟩|exact ⟨rfl, _, Eq.trans (World.drewN_drewN _ _ _) (congrArg (World.drewN _) (Nat.add_assoc _ _ _))⟩)));try go_wp2_with (first|(go_at_call 14;(with_reducible refine (gridhallref3_In.calls (wrap64 (x4_2 + (wrap64 (((rd_T88 l0_2 x28_2).f0) * ((rd_T88 l0_2 x28_2).f1))))) (-1000000000000000) 1000000000000000 false _ A42.out).mono ?_);rintro e w' ⟨rfl, ⟨nd, rfl⟩⟩;(try first|exact ⟨rfl, _, World.drewN_drewN _ _ _⟩|exact ⟨rfl, _, Eq.trans (World.drewN_drewN _ _ _) (congrArg (World.drewN _) (Nat.add_assoc _ _ _))⟩))))
                 go_ret
                 exact ⟨by first|rfl|(simp [errW_none, errW_some] <;> rfl)|(simp [*, errW_none, errW_some] <;> rfl), by repeat (first|(with_reducible first|exact HB.out|apply below_alloc|apply pw_below_drewN|apply below_drew1|refine below_set ?_ GE198.out|refine below_set ?_ GE202.out)|exact HB.out)⟩
         ·rw [if_neg c17] at H
          exact absurd H (by simp)
        ·rw [if_neg c16] at H
         exact absurd H (by simp)
       ·rw [if_neg c15] at H
        have c15b0 : decide (x28_2 < (l0_2.length : Int)) = false:=decide_eq_false c15
        clear c15
        obtain rfl:=Option.some.inj H
        go_wp2
        repeat (go_quiet (fail);try go_wp2)
        go_ret
        exact ⟨by first|rfl|(simp [errW_none, errW_some] <;> rfl)|(simp [*, errW_none, errW_some] <;> rfl), by repeat (first|(with_reducible first|exact HB.out|apply below_alloc|apply pw_below_drewN|apply below_drew1|refine below_set ?_ GE198.out)|exact HB.out)⟩
end Go.Proofs.Ytdgjelbkogfedaa.PConvexMoves
