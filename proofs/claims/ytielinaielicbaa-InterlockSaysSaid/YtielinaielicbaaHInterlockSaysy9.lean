/- Contracts of functions that InterlockSays reaches, a text of this session's own. -/
import Derived.Test.YtielinaielicbaaHInterlockSaysy0
namespace Go.Proofs.Ytielinaielicbaa.PInterlockSays
open Go.RowKit Go.Proofs.YtielinaielicbaaW.PrintWords Go.Proofs.YtielinaielicbaaW.PrintLast Go.Proofs.YtielinaielicbaaW.PrintMore
attribute [local go_sem] max2_int min2_int max_two min_two max_three min_three max_four min_four   -- for this text's walks alone
set_option linter.unusedVariables false
set_option linter.unusedSimpArgs false

/-! ### gridhallref4_Holds: function 78 -/
mutual
def gridhallref4_Holds.l0 : Nat → List (S119) → List (S63) → Bool → Bool → List (S63) → Int → Int → Int → ByteArray → Int → Int → Option (Bool)
  | 0, _, _, _, _, _, _, _, _, _, _, _ => none
  | k + 1, x0, x2, x8, x9, x16, x17, x18, x264000, x264001, x264002, x264003 => if x18 < x17 then (if 0 ≤ x18 then (if x18 < (x16.length : Int) then (if ((rd_T63 x16 x18).f0).toList = x264001.toList then (gridhallref4_Holds.l0 k x0 x2 true ((rd_T63 x16 x18).f1) x16 x17 (wrap64 (x18 + 1)) x264000 x264001 x264002 x264003) else (gridhallref4_Holds.l0 k x0 x2 x8 x9 x16 x17 (wrap64 (x18 + 1)) x264000 x264001 x264002 x264003)) else (none)) else (none)) else (if x264000 = 0 then (some true) else (if x264000 = 2 then (if x8 = true then (some (!x9)) else (some false)) else (if x264000 = 3 then (if x8 = true then (some x9) else (some false)) else (if x264000 = 4 then ((gridhallref4_Holds.f k x0 x264002 x2).bind fun t266 => (some (!t266))) else (if x264000 = 5 then ((gridhallref4_Holds.f k x0 x264002 x2).bind fun t267 => (if t267 = true then ((gridhallref4_Holds.f k x0 x264003 x2).bind fun t268 => (some t268)) else (some false))) else (if x264000 = 6 then ((gridhallref4_Holds.f k x0 x264002 x2).bind fun t269 => (if t269 = true then (some true) else ((gridhallref4_Holds.f k x0 x264003 x2).bind fun t270 => (some t270)))) else (some false)))))))
def gridhallref4_Holds.f : Nat → List (S119) → Int → List (S63) → Option (Bool)
  | 0, _, _, _ => none
  | k + 1, l0, a1, l2 => if 0 ≤ a1 then (if a1 < (l0.length : Int) then (gridhallref4_Holds.l0 k l0 l2 false false l2 (l2.length : Int) 0 ((rd_T119 l0 a1).f0) ((rd_T119 l0 a1).f1) ((rd_T119 l0 a1).f2) ((rd_T119 l0 a1).f3)) else (none)) else (none)
end
theorem gridhallref4_Holds.mono_l : ∀ k, (∀ y0 y1 y2, LeO (gridhallref4_Holds.f k y0 y1 y2) (gridhallref4_Holds.f (k + 1) y0 y1 y2)) ∧ (∀ y0 y1 y2 y3 y4 y5 y6 y7 y8 y9 y10, LeO (gridhallref4_Holds.l0 k y0 y1 y2 y3 y4 y5 y6 y7 y8 y9 y10) (gridhallref4_Holds.l0 (k + 1) y0 y1 y2 y3 y4 y5 y6 y7 y8 y9 y10))
  | 0 => ⟨fun _ _ _ r h => by simp [gridhallref4_Holds.f] at h, fun _ _ _ _ _ _ _ _ _ _ _ r h => by simp [gridhallref4_Holds.l0] at h⟩
  | k + 1 => by
    obtain ⟨ih0, ih1⟩ := gridhallref4_Holds.mono_l k
    refine ⟨?_, ?_⟩
    · intro y0 y1 y2
      unfold gridhallref4_Holds.f
      repeat' first
      | (with_reducible exact ih0 _ _ _)
      | (with_reducible exact ih1 _ _ _ _ _ _ _ _ _ _ _)
      | (with_reducible exact LeO.refl _)
      | (with_reducible exact LeO.none _)
      | (with_reducible refine LeO.ite ?_ ?_)
      | (with_reducible refine LeO.bind ?_ (fun _ => ?_))
      | exact ih0 _ _ _
      | exact ih1 _ _ _ _ _ _ _ _ _ _ _
      | exact LeO.none _
      | refine LeO.ite ?_ ?_
      | refine LeO.bind ?_ (fun _ => ?_)
    · intro y0 y1 y2 y3 y4 y5 y6 y7 y8 y9 y10
      unfold gridhallref4_Holds.l0
      repeat' first
      | (with_reducible exact ih0 _ _ _)
      | (with_reducible exact ih1 _ _ _ _ _ _ _ _ _ _ _)
      | (with_reducible exact LeO.refl _)
      | (with_reducible exact LeO.none _)
      | (with_reducible refine LeO.ite ?_ ?_)
      | (with_reducible refine LeO.bind ?_ (fun _ => ?_))
      | exact ih0 _ _ _
      | exact ih1 _ _ _ _ _ _ _ _ _ _ _
      | exact LeO.none _
      | refine LeO.ite ?_ ?_
      | refine LeO.bind ?_ (fun _ => ?_)
theorem gridhallref4_Holds.mono : ∀ a0 a1 a2 k, LeO (gridhallref4_Holds.f k a0 a1 a2) (gridhallref4_Holds.f (k + 1) a0 a1 a2) := by
  intro a0 a1 a2 k
  obtain ⟨ih0, ih1⟩ := gridhallref4_Holds.mono_l k
  exact ih0 a0 a1 a2
set_option maxHeartbeats 8000000 in
set_option maxRecDepth 100000 in
theorem gridhallref4_Holds.calls (k : Nat) : ∀ (A0 : Option Addr) (c0 : Nat) (l0 : List (S119)) (a1 : Int) (A2 : Option Addr) (c2 : Nat) (l2 : List (S63)) (r : Bool) (w : World) (hr0 : Kd.C k119 w A0 l0.length l0) (hc0 : l0.length ≤ c0) (hr2 : Kd.C k63 w A2 l2.length l2) (hc2 : l2.length ≤ c2) (h : gridhallref4_Holds.f k l0 a1 l2 = some r),
    Calls Try.prog 78 #[.slice A0 l0.length c0, .int .i64 a1, .slice A2 l2.length c2] w fun e w' => e = .returned (.bool r) ∧ Below w.heap.size w w' := by
  induction k using Nat.strongRecOn with
  | _ k ih =>
  intro A0 c0 l0 a1 A2 c2 l2 r w hr0 hc0 hr2 hc2 h
  cases k with
  | zero => exact absurd h (by simp [gridhallref4_Holds.f])
  | succ k =>
  simp only [gridhallref4_Holds.f] at h
  have hu119 := Try.underlying119
  have hu63 := Try.underlying63
  have HR0 := Aside0.mk hr0
  have HC0 := Aside0.mk hc0
  clear hr0 hc0
  have HR2 := Aside0.mk hr2
  have HC2 := Aside0.mk hc2
  clear hr2 hc2
  have HB := Aside0.mk (Below.refl w.heap.size w)
  have H : (if 0 ≤ a1 then (if a1 < (l0.length : Int) then (gridhallref4_Holds.l0 k l0 l2 false false l2 (l2.length : Int) 0 ((rd_T119 l0 a1).f0) ((rd_T119 l0 a1).f1) ((rd_T119 l0 a1).f2) ((rd_T119 l0 a1).f3)) else (none)) else (none)) = some r := h
  clear h
  by_cases c4 : 0 ≤ a1
  · rw [if_pos c4] at H
    have c4b0 : decide (0 ≤ a1) = true := decide_eq_true c4
    clear c4
    by_cases c5 : a1 < (l0.length : Int)
    · rw [if_pos c5] at H
      have c5b0 : decide (a1 < (l0.length : Int)) = true := decide_eq_true c5
      clear c5
      have H' := Aside0.mk H
      clear H
      have p262 : 0 ≤ (a1 : Int) := of_decide_eq_true (by first | (with_reducible assumption) | assumption)
      have q262 : a1 < (l0.length : Int) := of_decide_eq_true (by first | (with_reducible assumption) | assumption)
      obtain ⟨ad262, e262, hx262_0, hx262_1, hx262_2, hx262_3⟩ := at_T119 HR0.out a1 p262 q262
      cases e262
      replace p262 := eq_true p262
      replace q262 := eq_true q262
      go_enter Try.func78, Try.ntmps78
      go_wp2_with (first | ((with_reducible refine gate_dst (N := 7) rfl ?_); refine box_event ?hg (N := 7) ?hd (cs := #[.int .i64 0, .string (⟨#[]⟩ : ByteArray), .int .i64 0, .int .i64 0]) (t := 119) ?hr ?_; (case hd => rfl); (case hg => rfl); (case hr => first | (go_simp; done) | (go_simp; rfl)); intro gb263 hg w6 hbox hb; have n0_ := Aside0.mk (below_step (by repeat (first | (with_reducible first | exact HB.out | apply below_alloc | apply pw_below_drewN | apply below_drew1) | exact HB.out)) hb); have n1_ := Aside0.mk (hbox); have n2_ := Aside0.mk ((by rw [hg]; exact (below_size (by repeat (first | (with_reducible first | exact HB.out | apply below_alloc | apply pw_below_drewN | apply below_drew1) | exact HB.out))) : w.heap.size ≤ gb263)); have n3_ := Aside0.mk ((by rw [hg]; exact (below_size (by repeat (first | (with_reducible first | exact HB.out | apply below_alloc | apply pw_below_drewN | apply below_drew1) | exact HB.out))) : w.heap.size ≤ gb263)); clear HB; have HB := n0_; have BK263 := n1_; have GW263 := n2_; have GE263 := n3_; clear n0_ n1_ n2_ n3_; clear hb hbox hg; have hcz7_0 : w6.cell? ⟨gb263, 0, none⟩ = some (.int .i64 0) := (blk_cell BK263.out 0).trans rfl; have hcz7_1 : w6.cell? ⟨gb263, 1, none⟩ = some (.string (⟨#[]⟩ : ByteArray)) := (blk_cell BK263.out 1).trans rfl; have hcz7_2 : w6.cell? ⟨gb263, 2, none⟩ = some (.int .i64 0) := (blk_cell BK263.out 2).trans rfl; have hcz7_3 : w6.cell? ⟨gb263, 3, none⟩ = some (.int .i64 0) := (blk_cell BK263.out 3).trans rfl; have hfz7_0 := blk_frozen BK263.out 0; have hfz7_1 := blk_frozen BK263.out 1; have hfz7_2 := blk_frozen BK263.out 2; have hfz7_3 := blk_frozen BK263.out 3))
      repeat (go_quiet (first | ((with_reducible refine gate_dst (N := 7) rfl ?_); refine box_event ?hg (N := 7) ?hd (cs := #[.int .i64 0, .string (⟨#[]⟩ : ByteArray), .int .i64 0, .int .i64 0]) (t := 119) ?hr ?_; (case hd => rfl); (case hg => rfl); (case hr => first | (go_simp; done) | (go_simp; rfl)); intro gb263 hg w6 hbox hb; have n0_ := Aside0.mk (below_step (by repeat (first | (with_reducible first | exact HB.out | apply below_alloc | apply pw_below_drewN | apply below_drew1) | exact HB.out)) hb); have n1_ := Aside0.mk (hbox); have n2_ := Aside0.mk ((by rw [hg]; exact (below_size (by repeat (first | (with_reducible first | exact HB.out | apply below_alloc | apply pw_below_drewN | apply below_drew1) | exact HB.out))) : w.heap.size ≤ gb263)); have n3_ := Aside0.mk ((by rw [hg]; exact (below_size (by repeat (first | (with_reducible first | exact HB.out | apply below_alloc | apply pw_below_drewN | apply below_drew1) | exact HB.out))) : w.heap.size ≤ gb263)); clear HB; have HB := n0_; have BK263 := n1_; have GW263 := n2_; have GE263 := n3_; clear n0_ n1_ n2_ n3_; clear hb hbox hg; have hcz7_0 : w6.cell? ⟨gb263, 0, none⟩ = some (.int .i64 0) := (blk_cell BK263.out 0).trans rfl; have hcz7_1 : w6.cell? ⟨gb263, 1, none⟩ = some (.string (⟨#[]⟩ : ByteArray)) := (blk_cell BK263.out 1).trans rfl; have hcz7_2 : w6.cell? ⟨gb263, 2, none⟩ = some (.int .i64 0) := (blk_cell BK263.out 2).trans rfl; have hcz7_3 : w6.cell? ⟨gb263, 3, none⟩ = some (.int .i64 0) := (blk_cell BK263.out 3).trans rfl; have hfz7_0 := blk_frozen BK263.out 0; have hfz7_1 := blk_frozen BK263.out 1; have hfz7_2 := blk_frozen BK263.out 2; have hfz7_3 := blk_frozen BK263.out 3)); try go_wp2_with (first | ((with_reducible refine gate_dst (N := 7) rfl ?_); refine box_event ?hg (N := 7) ?hd (cs := #[.int .i64 0, .string (⟨#[]⟩ : ByteArray), .int .i64 0, .int .i64 0]) (t := 119) ?hr ?_; (case hd => rfl); (case hg => rfl); (case hr => first | (go_simp; done) | (go_simp; rfl)); intro gb263 hg w6 hbox hb; have n0_ := Aside0.mk (below_step (by repeat (first | (with_reducible first | exact HB.out | apply below_alloc | apply pw_below_drewN | apply below_drew1) | exact HB.out)) hb); have n1_ := Aside0.mk (hbox); have n2_ := Aside0.mk ((by rw [hg]; exact (below_size (by repeat (first | (with_reducible first | exact HB.out | apply below_alloc | apply pw_below_drewN | apply below_drew1) | exact HB.out))) : w.heap.size ≤ gb263)); have n3_ := Aside0.mk ((by rw [hg]; exact (below_size (by repeat (first | (with_reducible first | exact HB.out | apply below_alloc | apply pw_below_drewN | apply below_drew1) | exact HB.out))) : w.heap.size ≤ gb263)); clear HB; have HB := n0_; have BK263 := n1_; have GW263 := n2_; have GE263 := n3_; clear n0_ n1_ n2_ n3_; clear hb hbox hg; have hcz7_0 : w6.cell? ⟨gb263, 0, none⟩ = some (.int .i64 0) := (blk_cell BK263.out 0).trans rfl; have hcz7_1 : w6.cell? ⟨gb263, 1, none⟩ = some (.string (⟨#[]⟩ : ByteArray)) := (blk_cell BK263.out 1).trans rfl; have hcz7_2 : w6.cell? ⟨gb263, 2, none⟩ = some (.int .i64 0) := (blk_cell BK263.out 2).trans rfl; have hcz7_3 : w6.cell? ⟨gb263, 3, none⟩ = some (.int .i64 0) := (blk_cell BK263.out 3).trans rfl; have hfz7_0 := blk_frozen BK263.out 0; have hfz7_1 := blk_frozen BK263.out 1; have hfz7_2 := blk_frozen BK263.out 2; have hfz7_3 := blk_frozen BK263.out 3)))
      go_loopg [8, 9, 18] k (fun kq v8 v9 v18 w' => ∃ (x8_1 : Bool) (x9_1 : Bool) (x18_1 : Int), v8 = .bool x8_1 ∧ v9 = .bool x9_1 ∧ v18 = .int .i64 x18_1 ∧ Aside0 (gridhallref4_Holds.l0 kq l0 l2 x8_1 x9_1 l2 (l2.length : Int) x18_1 ((rd_T119 l0 a1).f0) ((rd_T119 l0 a1).f1) ((rd_T119 l0 a1).f2) ((rd_T119 l0 a1).f3) = some r) ∧ Aside0 (kq ≤ k) ∧ Aside0 (w'.heap[gb263]? = some (.cells #[.int .i64 ((rd_T119 l0 a1).f0), .string ((rd_T119 l0 a1).f1), .int .i64 ((rd_T119 l0 a1).f2), .int .i64 ((rd_T119 l0 a1).f3)] 119 (0, 0))) ∧ Aside0 (Below w.heap.size w w'))
      case atStart => exact ⟨(false), (false), (0), (by first | rfl | (simp; done) | (simp [*]; done)), (by first | rfl | (simp; done) | (simp [*]; done)), (by first | rfl | (simp; done) | (simp [*]; done)), H', ⟨Nat.le_refl _⟩, ⟨by (with_reducible repeat (first | refine blk_drewN ?_ _ | refine blk_drew ?_ | refine blk_alloc ?_ _)); refine blk_put (cs := #[.int .i64 ((rd_T119 l0 a1).f0), .string ((rd_T119 l0 a1).f1), .int .i64 ((rd_T119 l0 a1).f2), .int .i64 0]) ?_ 3 _ rfl; (with_reducible repeat (first | refine blk_drewN ?_ _ | refine blk_drew ?_ | refine blk_alloc ?_ _)); refine blk_put (cs := #[.int .i64 ((rd_T119 l0 a1).f0), .string ((rd_T119 l0 a1).f1), .int .i64 0, .int .i64 0]) ?_ 2 _ rfl; (with_reducible repeat (first | refine blk_drewN ?_ _ | refine blk_drew ?_ | refine blk_alloc ?_ _)); refine blk_put (cs := #[.int .i64 ((rd_T119 l0 a1).f0), .string (⟨#[]⟩ : ByteArray), .int .i64 0, .int .i64 0]) ?_ 1 _ rfl; (with_reducible repeat (first | refine blk_drewN ?_ _ | refine blk_drew ?_ | refine blk_alloc ?_ _)); refine blk_put (cs := #[.int .i64 0, .string (⟨#[]⟩ : ByteArray), .int .i64 0, .int .i64 0]) ?_ 0 _ rfl; (with_reducible repeat (first | refine blk_drewN ?_ _ | refine blk_drew ?_ | refine blk_alloc ?_ _)); exact BK263.out⟩, ⟨by repeat (first | (with_reducible first | exact HB.out | apply below_alloc | apply pw_below_drewN | apply below_drew1 | refine below_set ?_ GE263.out) | exact HB.out)⟩⟩
      case round =>
        clear H'
        try clear c2
        try clear p2
        try clear q2
        try clear hx2
        try clear c4
        try clear c4b0
        try clear c5
        try clear c5b0
        try clear c7
        try clear hcz7_0
        try clear hcz7_1
        try clear hcz7_2
        try clear hcz7_3
        try clear hfz7_0
        try clear hfz7_1
        try clear hfz7_2
        try clear hfz7_3
        try clear hx262_0
        try clear hx262_1
        try clear hx262_2
        try clear hx262_3
        try clear p262
        try clear q262
        obtain ⟨x8_1, x9_1, x18_1, rfl, rfl, rfl, HA, HK1, BK263, HB⟩ := hrel
        cases gk with
        | zero => exact absurd HA.out (by simp [gridhallref4_Holds.l0])
        | succ k1 =>
          have H := HA.out
          clear HA
          simp only [gridhallref4_Holds.l0] at H
          by_cases c8 : x18_1 < (l2.length : Int)
          · rw [if_pos c8] at H
            have c8b0 : decide (x18_1 < (l2.length : Int)) = true := decide_eq_true c8
            clear c8
            by_cases c9 : 0 ≤ x18_1
            · rw [if_pos c9] at H
              have c9b0 : decide (0 ≤ x18_1) = true := decide_eq_true c9
              clear c9
              by_cases c10 : x18_1 < (l2.length : Int)
              · rw [if_pos c10] at H
                have c10b0 : decide (x18_1 < (l2.length : Int)) = true := decide_eq_true c10
                clear c10
                by_cases c11 : ((rd_T63 l2 x18_1).f0).toList = ((rd_T119 l0 a1).f1).toList
                · rw [if_pos c11] at H
                  have c11b0 : (((rd_T63 l2 x18_1).f0).toList == ((rd_T119 l0 a1).f1).toList) = true := beq_iff_eq.mpr c11
                  have c11b1 : (((rd_T63 l2 x18_1).f0).toList != ((rd_T119 l0 a1).f1).toList) = false := bne_eq_false_iff_eq.mpr c11
                  clear c11
                  have H' := Aside0.mk H
                  clear H
                  have p264 : 0 ≤ (x18_1 : Int) := of_decide_eq_true (by first | (with_reducible assumption) | assumption)
                  have q264 : x18_1 < (l2.length : Int) := of_decide_eq_true (by first | (with_reducible assumption) | assumption)
                  obtain ⟨ad264, e264, hx264_0, hx264_1⟩ := at_T63 HR2.out x18_1 p264 q264
                  cases e264
                  replace hx264_0 := (HB.out.cell (World.block_lt_of_cell? w _ hx264_0)).trans hx264_0
                  replace hx264_1 := (HB.out.cell (World.block_lt_of_cell? w _ hx264_1)).trans hx264_1
                  replace p264 := eq_true p264
                  replace q264 := eq_true q264
                  go_wp2_with (first | ((with_reducible refine gate_dst (N := 11) rfl ?_); refine box_event ?hg (N := 11) ?hd (cs := #[.string (⟨#[]⟩ : ByteArray), .bool false]) (t := 63) ?hr ?_; (case hd => rfl); (case hg => rfl); (case hr => first | (go_simp; done) | (go_simp; rfl)); intro gb265 hg w12 hbox hb; have n0_ := Aside0.mk (blk_below (g := gb263) (o := .cells #[.int .i64 ((rd_T119 l0 a1).f0), .string ((rd_T119 l0 a1).f1), .int .i64 ((rd_T119 l0 a1).f2), .int .i64 ((rd_T119 l0 a1).f3)] 119 (0, 0)) (by (with_reducible repeat (first | refine blk_drewN ?_ _ | refine blk_drew ?_ | refine blk_alloc ?_ _)); exact BK263.out) hb); have n1_ := Aside0.mk (below_step (by repeat (first | (with_reducible first | exact HB.out | apply below_alloc | apply pw_below_drewN | apply below_drew1 | refine below_set ?_ GE263.out) | exact HB.out)) hb); have n2_ := Aside0.mk (hbox); have n3_ := Aside0.mk ((by rw [hg]; exact (below_size (by repeat (first | (with_reducible first | exact HB.out | apply below_alloc | apply pw_below_drewN | apply below_drew1 | refine below_set ?_ GE263.out) | exact HB.out))) : w.heap.size ≤ gb265)); have n4_ := Aside0.mk ((by rw [hg]; exact (below_size (by repeat (first | (with_reducible first | exact HB.out | apply below_alloc | apply pw_below_drewN | apply below_drew1 | refine below_set ?_ GE263.out) | exact HB.out))) : w.heap.size ≤ gb265)); have n5_ := Aside0.mk ((by rw [hg]; exact Nat.ne_of_lt (blk_lt (g := gb263) (o := .cells #[.int .i64 ((rd_T119 l0 a1).f0), .string ((rd_T119 l0 a1).f1), .int .i64 ((rd_T119 l0 a1).f2), .int .i64 ((rd_T119 l0 a1).f3)] 119 (0, 0)) (by (with_reducible repeat (first | refine blk_drewN ?_ _ | refine blk_drew ?_ | refine blk_alloc ?_ _)); exact BK263.out)) : gb263 ≠ gb265)); have n6_ := Aside0.mk ((by rw [hg]; exact Nat.ne_of_gt (blk_lt (g := gb263) (o := .cells #[.int .i64 ((rd_T119 l0 a1).f0), .string ((rd_T119 l0 a1).f1), .int .i64 ((rd_T119 l0 a1).f2), .int .i64 ((rd_T119 l0 a1).f3)] 119 (0, 0)) (by (with_reducible repeat (first | refine blk_drewN ?_ _ | refine blk_drew ?_ | refine blk_alloc ?_ _)); exact BK263.out)) : gb265 ≠ gb263)); clear BK263; clear HB; have BK263 := n0_; have HB := n1_; have BK265 := n2_; have GW265 := n3_; have GE265 := n4_; have NB263_265 := n5_; have NB265_263 := n6_; clear n0_ n1_ n2_ n3_ n4_ n5_ n6_; clear hb hbox hg; have hnb13 := NB265_263.out; have hnc13 := NB263_265.out; have hcz14_0 : w12.cell? ⟨gb265, 0, none⟩ = some (.string (⟨#[]⟩ : ByteArray)) := (blk_cell BK265.out 0).trans rfl; have hcz14_1 : w12.cell? ⟨gb265, 1, none⟩ = some (.bool false) := (blk_cell BK265.out 1).trans rfl; have hfz14_0 := blk_frozen BK265.out 0; have hfz14_1 := blk_frozen BK265.out 1; have hcz15_0 : w12.cell? ⟨gb263, 0, none⟩ = some (.int .i64 ((rd_T119 l0 a1).f0)) := (blk_cell BK263.out 0).trans rfl; have hcz15_1 : w12.cell? ⟨gb263, 1, none⟩ = some (.string ((rd_T119 l0 a1).f1)) := (blk_cell BK263.out 1).trans rfl; have hcz15_2 : w12.cell? ⟨gb263, 2, none⟩ = some (.int .i64 ((rd_T119 l0 a1).f2)) := (blk_cell BK263.out 2).trans rfl; have hcz15_3 : w12.cell? ⟨gb263, 3, none⟩ = some (.int .i64 ((rd_T119 l0 a1).f3)) := (blk_cell BK263.out 3).trans rfl; have hfz15_0 := blk_frozen BK263.out 0; have hfz15_1 := blk_frozen BK263.out 1; have hfz15_2 := blk_frozen BK263.out 2; have hfz15_3 := blk_frozen BK263.out 3))
                  repeat (go_quiet (first | ((with_reducible refine gate_dst (N := 11) rfl ?_); refine box_event ?hg (N := 11) ?hd (cs := #[.string (⟨#[]⟩ : ByteArray), .bool false]) (t := 63) ?hr ?_; (case hd => rfl); (case hg => rfl); (case hr => first | (go_simp; done) | (go_simp; rfl)); intro gb265 hg w12 hbox hb; have n0_ := Aside0.mk (blk_below (g := gb263) (o := .cells #[.int .i64 ((rd_T119 l0 a1).f0), .string ((rd_T119 l0 a1).f1), .int .i64 ((rd_T119 l0 a1).f2), .int .i64 ((rd_T119 l0 a1).f3)] 119 (0, 0)) (by (with_reducible repeat (first | refine blk_drewN ?_ _ | refine blk_drew ?_ | refine blk_alloc ?_ _)); exact BK263.out) hb); have n1_ := Aside0.mk (below_step (by repeat (first | (with_reducible first | exact HB.out | apply below_alloc | apply pw_below_drewN | apply below_drew1 | refine below_set ?_ GE263.out) | exact HB.out)) hb); have n2_ := Aside0.mk (hbox); have n3_ := Aside0.mk ((by rw [hg]; exact (below_size (by repeat (first | (with_reducible first | exact HB.out | apply below_alloc | apply pw_below_drewN | apply below_drew1 | refine below_set ?_ GE263.out) | exact HB.out))) : w.heap.size ≤ gb265)); have n4_ := Aside0.mk ((by rw [hg]; exact (below_size (by repeat (first | (with_reducible first | exact HB.out | apply below_alloc | apply pw_below_drewN | apply below_drew1 | refine below_set ?_ GE263.out) | exact HB.out))) : w.heap.size ≤ gb265)); have n5_ := Aside0.mk ((by rw [hg]; exact Nat.ne_of_lt (blk_lt (g := gb263) (o := .cells #[.int .i64 ((rd_T119 l0 a1).f0), .string ((rd_T119 l0 a1).f1), .int .i64 ((rd_T119 l0 a1).f2), .int .i64 ((rd_T119 l0 a1).f3)] 119 (0, 0)) (by (with_reducible repeat (first | refine blk_drewN ?_ _ | refine blk_drew ?_ | refine blk_alloc ?_ _)); exact BK263.out)) : gb263 ≠ gb265)); have n6_ := Aside0.mk ((by rw [hg]; exact Nat.ne_of_gt (blk_lt (g := gb263) (o := .cells #[.int .i64 ((rd_T119 l0 a1).f0), .string ((rd_T119 l0 a1).f1), .int .i64 ((rd_T119 l0 a1).f2), .int .i64 ((rd_T119 l0 a1).f3)] 119 (0, 0)) (by (with_reducible repeat (first | refine blk_drewN ?_ _ | refine blk_drew ?_ | refine blk_alloc ?_ _)); exact BK263.out)) : gb265 ≠ gb263)); clear BK263; clear HB; have BK263 := n0_; have HB := n1_; have BK265 := n2_; have GW265 := n3_; have GE265 := n4_; have NB263_265 := n5_; have NB265_263 := n6_; clear n0_ n1_ n2_ n3_ n4_ n5_ n6_; clear hb hbox hg; have hnb13 := NB265_263.out; have hnc13 := NB263_265.out; have hcz14_0 : w12.cell? ⟨gb265, 0, none⟩ = some (.string (⟨#[]⟩ : ByteArray)) := (blk_cell BK265.out 0).trans rfl; have hcz14_1 : w12.cell? ⟨gb265, 1, none⟩ = some (.bool false) := (blk_cell BK265.out 1).trans rfl; have hfz14_0 := blk_frozen BK265.out 0; have hfz14_1 := blk_frozen BK265.out 1; have hcz15_0 : w12.cell? ⟨gb263, 0, none⟩ = some (.int .i64 ((rd_T119 l0 a1).f0)) := (blk_cell BK263.out 0).trans rfl; have hcz15_1 : w12.cell? ⟨gb263, 1, none⟩ = some (.string ((rd_T119 l0 a1).f1)) := (blk_cell BK263.out 1).trans rfl; have hcz15_2 : w12.cell? ⟨gb263, 2, none⟩ = some (.int .i64 ((rd_T119 l0 a1).f2)) := (blk_cell BK263.out 2).trans rfl; have hcz15_3 : w12.cell? ⟨gb263, 3, none⟩ = some (.int .i64 ((rd_T119 l0 a1).f3)) := (blk_cell BK263.out 3).trans rfl; have hfz15_0 := blk_frozen BK263.out 0; have hfz15_1 := blk_frozen BK263.out 1; have hfz15_2 := blk_frozen BK263.out 2; have hfz15_3 := blk_frozen BK263.out 3)); try go_wp2_with (first | ((with_reducible refine gate_dst (N := 11) rfl ?_); refine box_event ?hg (N := 11) ?hd (cs := #[.string (⟨#[]⟩ : ByteArray), .bool false]) (t := 63) ?hr ?_; (case hd => rfl); (case hg => rfl); (case hr => first | (go_simp; done) | (go_simp; rfl)); intro gb265 hg w12 hbox hb; have n0_ := Aside0.mk (blk_below (g := gb263) (o := .cells #[.int .i64 ((rd_T119 l0 a1).f0), .string ((rd_T119 l0 a1).f1), .int .i64 ((rd_T119 l0 a1).f2), .int .i64 ((rd_T119 l0 a1).f3)] 119 (0, 0)) (by (with_reducible repeat (first | refine blk_drewN ?_ _ | refine blk_drew ?_ | refine blk_alloc ?_ _)); exact BK263.out) hb); have n1_ := Aside0.mk (below_step (by repeat (first | (with_reducible first | exact HB.out | apply below_alloc | apply pw_below_drewN | apply below_drew1 | refine below_set ?_ GE263.out) | exact HB.out)) hb); have n2_ := Aside0.mk (hbox); have n3_ := Aside0.mk ((by rw [hg]; exact (below_size (by repeat (first | (with_reducible first | exact HB.out | apply below_alloc | apply pw_below_drewN | apply below_drew1 | refine below_set ?_ GE263.out) | exact HB.out))) : w.heap.size ≤ gb265)); have n4_ := Aside0.mk ((by rw [hg]; exact (below_size (by repeat (first | (with_reducible first | exact HB.out | apply below_alloc | apply pw_below_drewN | apply below_drew1 | refine below_set ?_ GE263.out) | exact HB.out))) : w.heap.size ≤ gb265)); have n5_ := Aside0.mk ((by rw [hg]; exact Nat.ne_of_lt (blk_lt (g := gb263) (o := .cells #[.int .i64 ((rd_T119 l0 a1).f0), .string ((rd_T119 l0 a1).f1), .int .i64 ((rd_T119 l0 a1).f2), .int .i64 ((rd_T119 l0 a1).f3)] 119 (0, 0)) (by (with_reducible repeat (first | refine blk_drewN ?_ _ | refine blk_drew ?_ | refine blk_alloc ?_ _)); exact BK263.out)) : gb263 ≠ gb265)); have n6_ := Aside0.mk ((by rw [hg]; exact Nat.ne_of_gt (blk_lt (g := gb263) (o := .cells #[.int .i64 ((rd_T119 l0 a1).f0), .string ((rd_T119 l0 a1).f1), .int .i64 ((rd_T119 l0 a1).f2), .int .i64 ((rd_T119 l0 a1).f3)] 119 (0, 0)) (by (with_reducible repeat (first | refine blk_drewN ?_ _ | refine blk_drew ?_ | refine blk_alloc ?_ _)); exact BK263.out)) : gb265 ≠ gb263)); clear BK263; clear HB; have BK263 := n0_; have HB := n1_; have BK265 := n2_; have GW265 := n3_; have GE265 := n4_; have NB263_265 := n5_; have NB265_263 := n6_; clear n0_ n1_ n2_ n3_ n4_ n5_ n6_; clear hb hbox hg; have hnb13 := NB265_263.out; have hnc13 := NB263_265.out; have hcz14_0 : w12.cell? ⟨gb265, 0, none⟩ = some (.string (⟨#[]⟩ : ByteArray)) := (blk_cell BK265.out 0).trans rfl; have hcz14_1 : w12.cell? ⟨gb265, 1, none⟩ = some (.bool false) := (blk_cell BK265.out 1).trans rfl; have hfz14_0 := blk_frozen BK265.out 0; have hfz14_1 := blk_frozen BK265.out 1; have hcz15_0 : w12.cell? ⟨gb263, 0, none⟩ = some (.int .i64 ((rd_T119 l0 a1).f0)) := (blk_cell BK263.out 0).trans rfl; have hcz15_1 : w12.cell? ⟨gb263, 1, none⟩ = some (.string ((rd_T119 l0 a1).f1)) := (blk_cell BK263.out 1).trans rfl; have hcz15_2 : w12.cell? ⟨gb263, 2, none⟩ = some (.int .i64 ((rd_T119 l0 a1).f2)) := (blk_cell BK263.out 2).trans rfl; have hcz15_3 : w12.cell? ⟨gb263, 3, none⟩ = some (.int .i64 ((rd_T119 l0 a1).f3)) := (blk_cell BK263.out 3).trans rfl; have hfz15_0 := blk_frozen BK263.out 0; have hfz15_1 := blk_frozen BK263.out 1; have hfz15_2 := blk_frozen BK263.out 2; have hfz15_3 := blk_frozen BK263.out 3)))
                  go_roundg k1
                  case measure => have := HK1.out; omega
                  case rel => exact ⟨(true), ((rd_T63 l2 x18_1).f1), (wrap64 (x18_1 + 1)), (by first | rfl | (simp; done) | (simp [*]; done)), (by first | rfl | (simp; done) | (simp [*]; done)), (by first | rfl | (simp; done) | (simp [*]; done)), H', ⟨by have := HK1.out; omega⟩, ⟨by (with_reducible repeat (first | refine blk_drewN ?_ _ | refine blk_drew ?_ | refine blk_alloc ?_ _)); refine blk_far ?_ NB263_265.out _; (with_reducible repeat (first | refine blk_drewN ?_ _ | refine blk_drew ?_ | refine blk_alloc ?_ _)); refine blk_far ?_ NB263_265.out _; (with_reducible repeat (first | refine blk_drewN ?_ _ | refine blk_drew ?_ | refine blk_alloc ?_ _)); exact BK263.out⟩, ⟨by repeat (first | (with_reducible first | exact HB.out | apply below_alloc | apply pw_below_drewN | apply below_drew1 | refine below_set ?_ GE263.out | refine below_set ?_ GE265.out) | exact HB.out)⟩⟩
                · rw [if_neg c11] at H
                  have c11b0 : (((rd_T63 l2 x18_1).f0).toList == ((rd_T119 l0 a1).f1).toList) = false := beq_eq_false_iff_ne.mpr c11
                  have c11b1 : (((rd_T63 l2 x18_1).f0).toList != ((rd_T119 l0 a1).f1).toList) = true := bne_iff_ne.mpr c11
                  have H' := Aside0.mk H
                  clear H
                  have p264 : 0 ≤ (x18_1 : Int) := of_decide_eq_true (by first | (with_reducible assumption) | assumption)
                  have q264 : x18_1 < (l2.length : Int) := of_decide_eq_true (by first | (with_reducible assumption) | assumption)
                  obtain ⟨ad264, e264, hx264_0, hx264_1⟩ := at_T63 HR2.out x18_1 p264 q264
                  cases e264
                  replace hx264_0 := (HB.out.cell (World.block_lt_of_cell? w _ hx264_0)).trans hx264_0
                  replace hx264_1 := (HB.out.cell (World.block_lt_of_cell? w _ hx264_1)).trans hx264_1
                  replace p264 := eq_true p264
                  replace q264 := eq_true q264
                  go_wp2_with (first | ((with_reducible refine gate_dst (N := 11) rfl ?_); refine box_event ?hg (N := 11) ?hd (cs := #[.string (⟨#[]⟩ : ByteArray), .bool false]) (t := 63) ?hr ?_; (case hd => rfl); (case hg => rfl); (case hr => first | (go_simp; done) | (go_simp; rfl)); intro gb265 hg w16 hbox hb; have n0_ := Aside0.mk (blk_below (g := gb263) (o := .cells #[.int .i64 ((rd_T119 l0 a1).f0), .string ((rd_T119 l0 a1).f1), .int .i64 ((rd_T119 l0 a1).f2), .int .i64 ((rd_T119 l0 a1).f3)] 119 (0, 0)) (by (with_reducible repeat (first | refine blk_drewN ?_ _ | refine blk_drew ?_ | refine blk_alloc ?_ _)); exact BK263.out) hb); have n1_ := Aside0.mk (below_step (by repeat (first | (with_reducible first | exact HB.out | apply below_alloc | apply pw_below_drewN | apply below_drew1 | refine below_set ?_ GE263.out) | exact HB.out)) hb); have n2_ := Aside0.mk (hbox); have n3_ := Aside0.mk ((by rw [hg]; exact (below_size (by repeat (first | (with_reducible first | exact HB.out | apply below_alloc | apply pw_below_drewN | apply below_drew1 | refine below_set ?_ GE263.out) | exact HB.out))) : w.heap.size ≤ gb265)); have n4_ := Aside0.mk ((by rw [hg]; exact (below_size (by repeat (first | (with_reducible first | exact HB.out | apply below_alloc | apply pw_below_drewN | apply below_drew1 | refine below_set ?_ GE263.out) | exact HB.out))) : w.heap.size ≤ gb265)); have n5_ := Aside0.mk ((by rw [hg]; exact Nat.ne_of_lt (blk_lt (g := gb263) (o := .cells #[.int .i64 ((rd_T119 l0 a1).f0), .string ((rd_T119 l0 a1).f1), .int .i64 ((rd_T119 l0 a1).f2), .int .i64 ((rd_T119 l0 a1).f3)] 119 (0, 0)) (by (with_reducible repeat (first | refine blk_drewN ?_ _ | refine blk_drew ?_ | refine blk_alloc ?_ _)); exact BK263.out)) : gb263 ≠ gb265)); have n6_ := Aside0.mk ((by rw [hg]; exact Nat.ne_of_gt (blk_lt (g := gb263) (o := .cells #[.int .i64 ((rd_T119 l0 a1).f0), .string ((rd_T119 l0 a1).f1), .int .i64 ((rd_T119 l0 a1).f2), .int .i64 ((rd_T119 l0 a1).f3)] 119 (0, 0)) (by (with_reducible repeat (first | refine blk_drewN ?_ _ | refine blk_drew ?_ | refine blk_alloc ?_ _)); exact BK263.out)) : gb265 ≠ gb263)); clear BK263; clear HB; have BK263 := n0_; have HB := n1_; have BK265 := n2_; have GW265 := n3_; have GE265 := n4_; have NB263_265 := n5_; have NB265_263 := n6_; clear n0_ n1_ n2_ n3_ n4_ n5_ n6_; clear hb hbox hg; have hnb17 := NB265_263.out; have hnc17 := NB263_265.out; have hcz18_0 : w16.cell? ⟨gb265, 0, none⟩ = some (.string (⟨#[]⟩ : ByteArray)) := (blk_cell BK265.out 0).trans rfl; have hcz18_1 : w16.cell? ⟨gb265, 1, none⟩ = some (.bool false) := (blk_cell BK265.out 1).trans rfl; have hfz18_0 := blk_frozen BK265.out 0; have hfz18_1 := blk_frozen BK265.out 1; have hcz19_0 : w16.cell? ⟨gb263, 0, none⟩ = some (.int .i64 ((rd_T119 l0 a1).f0)) := (blk_cell BK263.out 0).trans rfl; have hcz19_1 : w16.cell? ⟨gb263, 1, none⟩ = some (.string ((rd_T119 l0 a1).f1)) := (blk_cell BK263.out 1).trans rfl; have hcz19_2 : w16.cell? ⟨gb263, 2, none⟩ = some (.int .i64 ((rd_T119 l0 a1).f2)) := (blk_cell BK263.out 2).trans rfl; have hcz19_3 : w16.cell? ⟨gb263, 3, none⟩ = some (.int .i64 ((rd_T119 l0 a1).f3)) := (blk_cell BK263.out 3).trans rfl; have hfz19_0 := blk_frozen BK263.out 0; have hfz19_1 := blk_frozen BK263.out 1; have hfz19_2 := blk_frozen BK263.out 2; have hfz19_3 := blk_frozen BK263.out 3))
                  repeat (go_quiet (first | ((with_reducible refine gate_dst (N := 11) rfl ?_); refine box_event ?hg (N := 11) ?hd (cs := #[.string (⟨#[]⟩ : ByteArray), .bool false]) (t := 63) ?hr ?_; (case hd => rfl); (case hg => rfl); (case hr => first | (go_simp; done) | (go_simp; rfl)); intro gb265 hg w16 hbox hb; have n0_ := Aside0.mk (blk_below (g := gb263) (o := .cells #[.int .i64 ((rd_T119 l0 a1).f0), .string ((rd_T119 l0 a1).f1), .int .i64 ((rd_T119 l0 a1).f2), .int .i64 ((rd_T119 l0 a1).f3)] 119 (0, 0)) (by (with_reducible repeat (first | refine blk_drewN ?_ _ | refine blk_drew ?_ | refine blk_alloc ?_ _)); exact BK263.out) hb); have n1_ := Aside0.mk (below_step (by repeat (first | (with_reducible first | exact HB.out | apply below_alloc | apply pw_below_drewN | apply below_drew1 | refine below_set ?_ GE263.out) | exact HB.out)) hb); have n2_ := Aside0.mk (hbox); have n3_ := Aside0.mk ((by rw [hg]; exact (below_size (by repeat (first | (with_reducible first | exact HB.out | apply below_alloc | apply pw_below_drewN | apply below_drew1 | refine below_set ?_ GE263.out) | exact HB.out))) : w.heap.size ≤ gb265)); have n4_ := Aside0.mk ((by rw [hg]; exact (below_size (by repeat (first | (with_reducible first | exact HB.out | apply below_alloc | apply pw_below_drewN | apply below_drew1 | refine below_set ?_ GE263.out) | exact HB.out))) : w.heap.size ≤ gb265)); have n5_ := Aside0.mk ((by rw [hg]; exact Nat.ne_of_lt (blk_lt (g := gb263) (o := .cells #[.int .i64 ((rd_T119 l0 a1).f0), .string ((rd_T119 l0 a1).f1), .int .i64 ((rd_T119 l0 a1).f2), .int .i64 ((rd_T119 l0 a1).f3)] 119 (0, 0)) (by (with_reducible repeat (first | refine blk_drewN ?_ _ | refine blk_drew ?_ | refine blk_alloc ?_ _)); exact BK263.out)) : gb263 ≠ gb265)); have n6_ := Aside0.mk ((by rw [hg]; exact Nat.ne_of_gt (blk_lt (g := gb263) (o := .cells #[.int .i64 ((rd_T119 l0 a1).f0), .string ((rd_T119 l0 a1).f1), .int .i64 ((rd_T119 l0 a1).f2), .int .i64 ((rd_T119 l0 a1).f3)] 119 (0, 0)) (by (with_reducible repeat (first | refine blk_drewN ?_ _ | refine blk_drew ?_ | refine blk_alloc ?_ _)); exact BK263.out)) : gb265 ≠ gb263)); clear BK263; clear HB; have BK263 := n0_; have HB := n1_; have BK265 := n2_; have GW265 := n3_; have GE265 := n4_; have NB263_265 := n5_; have NB265_263 := n6_; clear n0_ n1_ n2_ n3_ n4_ n5_ n6_; clear hb hbox hg; have hnb17 := NB265_263.out; have hnc17 := NB263_265.out; have hcz18_0 : w16.cell? ⟨gb265, 0, none⟩ = some (.string (⟨#[]⟩ : ByteArray)) := (blk_cell BK265.out 0).trans rfl; have hcz18_1 : w16.cell? ⟨gb265, 1, none⟩ = some (.bool false) := (blk_cell BK265.out 1).trans rfl; have hfz18_0 := blk_frozen BK265.out 0; have hfz18_1 := blk_frozen BK265.out 1; have hcz19_0 : w16.cell? ⟨gb263, 0, none⟩ = some (.int .i64 ((rd_T119 l0 a1).f0)) := (blk_cell BK263.out 0).trans rfl; have hcz19_1 : w16.cell? ⟨gb263, 1, none⟩ = some (.string ((rd_T119 l0 a1).f1)) := (blk_cell BK263.out 1).trans rfl; have hcz19_2 : w16.cell? ⟨gb263, 2, none⟩ = some (.int .i64 ((rd_T119 l0 a1).f2)) := (blk_cell BK263.out 2).trans rfl; have hcz19_3 : w16.cell? ⟨gb263, 3, none⟩ = some (.int .i64 ((rd_T119 l0 a1).f3)) := (blk_cell BK263.out 3).trans rfl; have hfz19_0 := blk_frozen BK263.out 0; have hfz19_1 := blk_frozen BK263.out 1; have hfz19_2 := blk_frozen BK263.out 2; have hfz19_3 := blk_frozen BK263.out 3)); try go_wp2_with (first | ((with_reducible refine gate_dst (N := 11) rfl ?_); refine box_event ?hg (N := 11) ?hd (cs := #[.string (⟨#[]⟩ : ByteArray), .bool false]) (t := 63) ?hr ?_; (case hd => rfl); (case hg => rfl); (case hr => first | (go_simp; done) | (go_simp; rfl)); intro gb265 hg w16 hbox hb; have n0_ := Aside0.mk (blk_below (g := gb263) (o := .cells #[.int .i64 ((rd_T119 l0 a1).f0), .string ((rd_T119 l0 a1).f1), .int .i64 ((rd_T119 l0 a1).f2), .int .i64 ((rd_T119 l0 a1).f3)] 119 (0, 0)) (by (with_reducible repeat (first | refine blk_drewN ?_ _ | refine blk_drew ?_ | refine blk_alloc ?_ _)); exact BK263.out) hb); have n1_ := Aside0.mk (below_step (by repeat (first | (with_reducible first | exact HB.out | apply below_alloc | apply pw_below_drewN | apply below_drew1 | refine below_set ?_ GE263.out) | exact HB.out)) hb); have n2_ := Aside0.mk (hbox); have n3_ := Aside0.mk ((by rw [hg]; exact (below_size (by repeat (first | (with_reducible first | exact HB.out | apply below_alloc | apply pw_below_drewN | apply below_drew1 | refine below_set ?_ GE263.out) | exact HB.out))) : w.heap.size ≤ gb265)); have n4_ := Aside0.mk ((by rw [hg]; exact (below_size (by repeat (first | (with_reducible first | exact HB.out | apply below_alloc | apply pw_below_drewN | apply below_drew1 | refine below_set ?_ GE263.out) | exact HB.out))) : w.heap.size ≤ gb265)); have n5_ := Aside0.mk ((by rw [hg]; exact Nat.ne_of_lt (blk_lt (g := gb263) (o := .cells #[.int .i64 ((rd_T119 l0 a1).f0), .string ((rd_T119 l0 a1).f1), .int .i64 ((rd_T119 l0 a1).f2), .int .i64 ((rd_T119 l0 a1).f3)] 119 (0, 0)) (by (with_reducible repeat (first | refine blk_drewN ?_ _ | refine blk_drew ?_ | refine blk_alloc ?_ _)); exact BK263.out)) : gb263 ≠ gb265)); have n6_ := Aside0.mk ((by rw [hg]; exact Nat.ne_of_gt (blk_lt (g := gb263) (o := .cells #[.int .i64 ((rd_T119 l0 a1).f0), .string ((rd_T119 l0 a1).f1), .int .i64 ((rd_T119 l0 a1).f2), .int .i64 ((rd_T119 l0 a1).f3)] 119 (0, 0)) (by (with_reducible repeat (first | refine blk_drewN ?_ _ | refine blk_drew ?_ | refine blk_alloc ?_ _)); exact BK263.out)) : gb265 ≠ gb263)); clear BK263; clear HB; have BK263 := n0_; have HB := n1_; have BK265 := n2_; have GW265 := n3_; have GE265 := n4_; have NB263_265 := n5_; have NB265_263 := n6_; clear n0_ n1_ n2_ n3_ n4_ n5_ n6_; clear hb hbox hg; have hnb17 := NB265_263.out; have hnc17 := NB263_265.out; have hcz18_0 : w16.cell? ⟨gb265, 0, none⟩ = some (.string (⟨#[]⟩ : ByteArray)) := (blk_cell BK265.out 0).trans rfl; have hcz18_1 : w16.cell? ⟨gb265, 1, none⟩ = some (.bool false) := (blk_cell BK265.out 1).trans rfl; have hfz18_0 := blk_frozen BK265.out 0; have hfz18_1 := blk_frozen BK265.out 1; have hcz19_0 : w16.cell? ⟨gb263, 0, none⟩ = some (.int .i64 ((rd_T119 l0 a1).f0)) := (blk_cell BK263.out 0).trans rfl; have hcz19_1 : w16.cell? ⟨gb263, 1, none⟩ = some (.string ((rd_T119 l0 a1).f1)) := (blk_cell BK263.out 1).trans rfl; have hcz19_2 : w16.cell? ⟨gb263, 2, none⟩ = some (.int .i64 ((rd_T119 l0 a1).f2)) := (blk_cell BK263.out 2).trans rfl; have hcz19_3 : w16.cell? ⟨gb263, 3, none⟩ = some (.int .i64 ((rd_T119 l0 a1).f3)) := (blk_cell BK263.out 3).trans rfl; have hfz19_0 := blk_frozen BK263.out 0; have hfz19_1 := blk_frozen BK263.out 1; have hfz19_2 := blk_frozen BK263.out 2; have hfz19_3 := blk_frozen BK263.out 3)))
                  go_roundg k1
                  case measure => have := HK1.out; omega
                  case rel => exact ⟨(x8_1), (x9_1), (wrap64 (x18_1 + 1)), (by first | rfl | (simp; done) | (simp [*]; done)), (by first | rfl | (simp; done) | (simp [*]; done)), (by first | rfl | (simp; done) | (simp [*]; done)), H', ⟨by have := HK1.out; omega⟩, ⟨by (with_reducible repeat (first | refine blk_drewN ?_ _ | refine blk_drew ?_ | refine blk_alloc ?_ _)); refine blk_far ?_ NB263_265.out _; (with_reducible repeat (first | refine blk_drewN ?_ _ | refine blk_drew ?_ | refine blk_alloc ?_ _)); refine blk_far ?_ NB263_265.out _; (with_reducible repeat (first | refine blk_drewN ?_ _ | refine blk_drew ?_ | refine blk_alloc ?_ _)); exact BK263.out⟩, ⟨by repeat (first | (with_reducible first | exact HB.out | apply below_alloc | apply pw_below_drewN | apply below_drew1 | refine below_set ?_ GE263.out | refine below_set ?_ GE265.out) | exact HB.out)⟩⟩
              · rw [if_neg c10] at H
                exact absurd H (by simp)
            · rw [if_neg c9] at H
              exact absurd H (by simp)
          · rw [if_neg c8] at H
            have c8b0 : decide (x18_1 < (l2.length : Int)) = false := decide_eq_false c8
            clear c8
            by_cases c20 : ((rd_T119 l0 a1).f0) = 0
            · rw [if_pos c20] at H
              have c20b0 : (((rd_T119 l0 a1).f0) == 0) = true := beq_iff_eq.mpr c20
              have c20b1 : (((rd_T119 l0 a1).f0) != 0) = false := bne_eq_false_iff_eq.mpr c20
              clear c20
              obtain rfl := Option.some.inj H
              have hcz21_0 : wr.cell? ⟨gb263, 0, none⟩ = some (.int .i64 ((rd_T119 l0 a1).f0)) := (blk_cell BK263.out 0).trans rfl
              have hcz21_1 : wr.cell? ⟨gb263, 1, none⟩ = some (.string ((rd_T119 l0 a1).f1)) := (blk_cell BK263.out 1).trans rfl
              have hcz21_2 : wr.cell? ⟨gb263, 2, none⟩ = some (.int .i64 ((rd_T119 l0 a1).f2)) := (blk_cell BK263.out 2).trans rfl
              have hcz21_3 : wr.cell? ⟨gb263, 3, none⟩ = some (.int .i64 ((rd_T119 l0 a1).f3)) := (blk_cell BK263.out 3).trans rfl
              have hfz21_0 := blk_frozen BK263.out 0
              have hfz21_1 := blk_frozen BK263.out 1
              have hfz21_2 := blk_frozen BK263.out 2
              have hfz21_3 := blk_frozen BK263.out 3
              go_wp2
              repeat (go_quiet (fail); try go_wp2)
              go_ret
              exact ⟨by first | rfl | (simp [errW_none, errW_some] <;> rfl) | (simp [*, errW_none, errW_some] <;> rfl), by repeat (first | (with_reducible first | exact HB.out | apply below_alloc | apply pw_below_drewN | apply below_drew1 | refine below_set ?_ GE263.out) | exact HB.out)⟩
            · rw [if_neg c20] at H
              have c20b0 : (((rd_T119 l0 a1).f0) == 0) = false := beq_eq_false_iff_ne.mpr c20
              have c20b1 : (((rd_T119 l0 a1).f0) != 0) = true := bne_iff_ne.mpr c20
              by_cases c22 : ((rd_T119 l0 a1).f0) = 2
              · rw [if_pos c22] at H
                have c22b0 : (((rd_T119 l0 a1).f0) == 2) = true := beq_iff_eq.mpr c22
                have c22b1 : (((rd_T119 l0 a1).f0) != 2) = false := bne_eq_false_iff_eq.mpr c22
                clear c22
                by_cases c23 : x8_1 = true
                · subst c23
                  have H1 : (some (!x9_1)) = some r := by rw [if_pos rfl] at H; exact H
                  clear H
                  have H := H1
                  clear H1
                  obtain rfl := Option.some.inj H
                  have hcz24_0 : wr.cell? ⟨gb263, 0, none⟩ = some (.int .i64 ((rd_T119 l0 a1).f0)) := (blk_cell BK263.out 0).trans rfl
                  have hcz24_1 : wr.cell? ⟨gb263, 1, none⟩ = some (.string ((rd_T119 l0 a1).f1)) := (blk_cell BK263.out 1).trans rfl
                  have hcz24_2 : wr.cell? ⟨gb263, 2, none⟩ = some (.int .i64 ((rd_T119 l0 a1).f2)) := (blk_cell BK263.out 2).trans rfl
                  have hcz24_3 : wr.cell? ⟨gb263, 3, none⟩ = some (.int .i64 ((rd_T119 l0 a1).f3)) := (blk_cell BK263.out 3).trans rfl
                  have hfz24_0 := blk_frozen BK263.out 0
                  have hfz24_1 := blk_frozen BK263.out 1
                  have hfz24_2 := blk_frozen BK263.out 2
                  have hfz24_3 := blk_frozen BK263.out 3
                  go_wp2
                  repeat (go_quiet (fail); try go_wp2)
                  go_ret
                  exact ⟨by first | rfl | (simp [errW_none, errW_some] <;> rfl) | (simp [*, errW_none, errW_some] <;> rfl), by repeat (first | (with_reducible first | exact HB.out | apply below_alloc | apply pw_below_drewN | apply below_drew1 | refine below_set ?_ GE263.out) | exact HB.out)⟩
                · replace c23 := Bool.eq_false_iff.mpr c23
                  subst c23
                  have H1 : (some false) = some r := by rw [if_neg (show ¬ (false = true) by decide)] at H; exact H
                  clear H
                  have H := H1
                  clear H1
                  obtain rfl := Option.some.inj H
                  have hcz25_0 : wr.cell? ⟨gb263, 0, none⟩ = some (.int .i64 ((rd_T119 l0 a1).f0)) := (blk_cell BK263.out 0).trans rfl
                  have hcz25_1 : wr.cell? ⟨gb263, 1, none⟩ = some (.string ((rd_T119 l0 a1).f1)) := (blk_cell BK263.out 1).trans rfl
                  have hcz25_2 : wr.cell? ⟨gb263, 2, none⟩ = some (.int .i64 ((rd_T119 l0 a1).f2)) := (blk_cell BK263.out 2).trans rfl
                  have hcz25_3 : wr.cell? ⟨gb263, 3, none⟩ = some (.int .i64 ((rd_T119 l0 a1).f3)) := (blk_cell BK263.out 3).trans rfl
                  have hfz25_0 := blk_frozen BK263.out 0
                  have hfz25_1 := blk_frozen BK263.out 1
                  have hfz25_2 := blk_frozen BK263.out 2
                  have hfz25_3 := blk_frozen BK263.out 3
                  go_wp2
                  repeat (go_quiet (fail); try go_wp2)
                  go_ret
                  exact ⟨by first | rfl | (simp [errW_none, errW_some] <;> rfl) | (simp [*, errW_none, errW_some] <;> rfl), by repeat (first | (with_reducible first | exact HB.out | apply below_alloc | apply pw_below_drewN | apply below_drew1 | refine below_set ?_ GE263.out) | exact HB.out)⟩
              · rw [if_neg c22] at H
                have c22b0 : (((rd_T119 l0 a1).f0) == 2) = false := beq_eq_false_iff_ne.mpr c22
                have c22b1 : (((rd_T119 l0 a1).f0) != 2) = true := bne_iff_ne.mpr c22
                by_cases c26 : ((rd_T119 l0 a1).f0) = 3
                · rw [if_pos c26] at H
                  have c26b0 : (((rd_T119 l0 a1).f0) == 3) = true := beq_iff_eq.mpr c26
                  have c26b1 : (((rd_T119 l0 a1).f0) != 3) = false := bne_eq_false_iff_eq.mpr c26
                  clear c26
                  by_cases c27 : x8_1 = true
                  · subst c27
                    have H1 : (some x9_1) = some r := by rw [if_pos rfl] at H; exact H
                    clear H
                    have H := H1
                    clear H1
                    obtain rfl := Option.some.inj H
                    have hcz28_0 : wr.cell? ⟨gb263, 0, none⟩ = some (.int .i64 ((rd_T119 l0 a1).f0)) := (blk_cell BK263.out 0).trans rfl
                    have hcz28_1 : wr.cell? ⟨gb263, 1, none⟩ = some (.string ((rd_T119 l0 a1).f1)) := (blk_cell BK263.out 1).trans rfl
                    have hcz28_2 : wr.cell? ⟨gb263, 2, none⟩ = some (.int .i64 ((rd_T119 l0 a1).f2)) := (blk_cell BK263.out 2).trans rfl
                    have hcz28_3 : wr.cell? ⟨gb263, 3, none⟩ = some (.int .i64 ((rd_T119 l0 a1).f3)) := (blk_cell BK263.out 3).trans rfl
                    have hfz28_0 := blk_frozen BK263.out 0
                    have hfz28_1 := blk_frozen BK263.out 1
                    have hfz28_2 := blk_frozen BK263.out 2
                    have hfz28_3 := blk_frozen BK263.out 3
                    go_wp2
                    repeat (go_quiet (fail); try go_wp2)
                    go_ret
                    exact ⟨by first | rfl | (simp [errW_none, errW_some] <;> rfl) | (simp [*, errW_none, errW_some] <;> rfl), by repeat (first | (with_reducible first | exact HB.out | apply below_alloc | apply pw_below_drewN | apply below_drew1 | refine below_set ?_ GE263.out) | exact HB.out)⟩
                  · replace c27 := Bool.eq_false_iff.mpr c27
                    subst c27
                    have H1 : (some false) = some r := by rw [if_neg (show ¬ (false = true) by decide)] at H; exact H
                    clear H
                    have H := H1
                    clear H1
                    obtain rfl := Option.some.inj H
                    have hcz29_0 : wr.cell? ⟨gb263, 0, none⟩ = some (.int .i64 ((rd_T119 l0 a1).f0)) := (blk_cell BK263.out 0).trans rfl
                    have hcz29_1 : wr.cell? ⟨gb263, 1, none⟩ = some (.string ((rd_T119 l0 a1).f1)) := (blk_cell BK263.out 1).trans rfl
                    have hcz29_2 : wr.cell? ⟨gb263, 2, none⟩ = some (.int .i64 ((rd_T119 l0 a1).f2)) := (blk_cell BK263.out 2).trans rfl
                    have hcz29_3 : wr.cell? ⟨gb263, 3, none⟩ = some (.int .i64 ((rd_T119 l0 a1).f3)) := (blk_cell BK263.out 3).trans rfl
                    have hfz29_0 := blk_frozen BK263.out 0
                    have hfz29_1 := blk_frozen BK263.out 1
                    have hfz29_2 := blk_frozen BK263.out 2
                    have hfz29_3 := blk_frozen BK263.out 3
                    go_wp2
                    repeat (go_quiet (fail); try go_wp2)
                    go_ret
                    exact ⟨by first | rfl | (simp [errW_none, errW_some] <;> rfl) | (simp [*, errW_none, errW_some] <;> rfl), by repeat (first | (with_reducible first | exact HB.out | apply below_alloc | apply pw_below_drewN | apply below_drew1 | refine below_set ?_ GE263.out) | exact HB.out)⟩
                · rw [if_neg c26] at H
                  have c26b0 : (((rd_T119 l0 a1).f0) == 3) = false := beq_eq_false_iff_ne.mpr c26
                  have c26b1 : (((rd_T119 l0 a1).f0) != 3) = true := bne_iff_ne.mpr c26
                  by_cases c30 : ((rd_T119 l0 a1).f0) = 4
                  · rw [if_pos c30] at H
                    have c30b0 : (((rd_T119 l0 a1).f0) == 4) = true := beq_iff_eq.mpr c30
                    have c30b1 : (((rd_T119 l0 a1).f0) != 4) = false := bne_eq_false_iff_eq.mpr c30
                    clear c30
                    replace H := Option.bind_eq_some_iff.mp H
                    obtain ⟨t266, A310, H⟩ := H
                    replace H : (some (!t266)) = some r := H
                    have A31 := Aside0.mk A310
                    clear A310
                    obtain rfl := Option.some.inj H
                    have hcz32_0 : wr.cell? ⟨gb263, 0, none⟩ = some (.int .i64 ((rd_T119 l0 a1).f0)) := (blk_cell BK263.out 0).trans rfl
                    have hcz32_1 : wr.cell? ⟨gb263, 1, none⟩ = some (.string ((rd_T119 l0 a1).f1)) := (blk_cell BK263.out 1).trans rfl
                    have hcz32_2 : wr.cell? ⟨gb263, 2, none⟩ = some (.int .i64 ((rd_T119 l0 a1).f2)) := (blk_cell BK263.out 2).trans rfl
                    have hcz32_3 : wr.cell? ⟨gb263, 3, none⟩ = some (.int .i64 ((rd_T119 l0 a1).f3)) := (blk_cell BK263.out 3).trans rfl
                    have hfz32_0 := blk_frozen BK263.out 0
                    have hfz32_1 := blk_frozen BK263.out 1
                    have hfz32_2 := blk_frozen BK263.out 2
                    have hfz32_3 := blk_frozen BK263.out 3
                    go_wp2_with (first | (go_at_call 78; (with_reducible refine (ih k1 (by have := HK1.out; omega) _ _ l0 ((rd_T119 l0 a1).f2) _ _ l2 t266 _ ?side1 ?side2 ?side3 ?side4 A31.out).mono ?_); (case side1 => repeat (first | exact (Kd.C_below HR0.out HB.out) | (with_reducible refine Kd.C_alloc ?_ _) | (with_reducible refine Kd.C_drewN ?_ _) | (with_reducible refine Kd.C_drew ?_))); (case side2 => exact HC0.out); (case side3 => repeat (first | exact (Kd.C_below HR2.out HB.out) | (with_reducible refine Kd.C_alloc ?_ _) | (with_reducible refine Kd.C_drewN ?_ _) | (with_reducible refine Kd.C_drew ?_))); (case side4 => exact HC2.out); rintro e w33 ⟨rfl, hb⟩; have n0_ := Aside0.mk (blk_below (g := gb263) (o := .cells #[.int .i64 ((rd_T119 l0 a1).f0), .string ((rd_T119 l0 a1).f1), .int .i64 ((rd_T119 l0 a1).f2), .int .i64 ((rd_T119 l0 a1).f3)] 119 (0, 0)) (by (with_reducible repeat (first | refine blk_drewN ?_ _ | refine blk_drew ?_ | refine blk_alloc ?_ _)); exact BK263.out) hb); have n1_ := Aside0.mk (below_step (by repeat (first | (with_reducible first | exact HB.out | apply below_alloc | apply pw_below_drewN | apply below_drew1 | refine below_set ?_ GE263.out) | exact HB.out)) hb); clear BK263; clear HB; have BK263 := n0_; have HB := n1_; clear n0_ n1_; (try clear hb); (try clear hb2); (try clear hk); (try clear hi)))
                    repeat (go_quiet (first | (go_at_call 78; (with_reducible refine (ih k1 (by have := HK1.out; omega) _ _ l0 ((rd_T119 l0 a1).f2) _ _ l2 t266 _ ?side1 ?side2 ?side3 ?side4 A31.out).mono ?_); (case side1 => repeat (first | exact (Kd.C_below HR0.out HB.out) | (with_reducible refine Kd.C_alloc ?_ _) | (with_reducible refine Kd.C_drewN ?_ _) | (with_reducible refine Kd.C_drew ?_))); (case side2 => exact HC0.out); (case side3 => repeat (first | exact (Kd.C_below HR2.out HB.out) | (with_reducible refine Kd.C_alloc ?_ _) | (with_reducible refine Kd.C_drewN ?_ _) | (with_reducible refine Kd.C_drew ?_))); (case side4 => exact HC2.out); rintro e w33 ⟨rfl, hb⟩; have n0_ := Aside0.mk (blk_below (g := gb263) (o := .cells #[.int .i64 ((rd_T119 l0 a1).f0), .string ((rd_T119 l0 a1).f1), .int .i64 ((rd_T119 l0 a1).f2), .int .i64 ((rd_T119 l0 a1).f3)] 119 (0, 0)) (by (with_reducible repeat (first | refine blk_drewN ?_ _ | refine blk_drew ?_ | refine blk_alloc ?_ _)); exact BK263.out) hb); have n1_ := Aside0.mk (below_step (by repeat (first | (with_reducible first | exact HB.out | apply below_alloc | apply pw_below_drewN | apply below_drew1 | refine below_set ?_ GE263.out) | exact HB.out)) hb); clear BK263; clear HB; have BK263 := n0_; have HB := n1_; clear n0_ n1_; (try clear hb); (try clear hb2); (try clear hk); (try clear hi))); try go_wp2_with (first | (go_at_call 78; (with_reducible refine (ih k1 (by have := HK1.out; omega) _ _ l0 ((rd_T119 l0 a1).f2) _ _ l2 t266 _ ?side1 ?side2 ?side3 ?side4 A31.out).mono ?_); (case side1 => repeat (first | exact (Kd.C_below HR0.out HB.out) | (with_reducible refine Kd.C_alloc ?_ _) | (with_reducible refine Kd.C_drewN ?_ _) | (with_reducible refine Kd.C_drew ?_))); (case side2 => exact HC0.out); (case side3 => repeat (first | exact (Kd.C_below HR2.out HB.out) | (with_reducible refine Kd.C_alloc ?_ _) | (with_reducible refine Kd.C_drewN ?_ _) | (with_reducible refine Kd.C_drew ?_))); (case side4 => exact HC2.out); rintro e w33 ⟨rfl, hb⟩; have n0_ := Aside0.mk (blk_below (g := gb263) (o := .cells #[.int .i64 ((rd_T119 l0 a1).f0), .string ((rd_T119 l0 a1).f1), .int .i64 ((rd_T119 l0 a1).f2), .int .i64 ((rd_T119 l0 a1).f3)] 119 (0, 0)) (by (with_reducible repeat (first | refine blk_drewN ?_ _ | refine blk_drew ?_ | refine blk_alloc ?_ _)); exact BK263.out) hb); have n1_ := Aside0.mk (below_step (by repeat (first | (with_reducible first | exact HB.out | apply below_alloc | apply pw_below_drewN | apply below_drew1 | refine below_set ?_ GE263.out) | exact HB.out)) hb); clear BK263; clear HB; have BK263 := n0_; have HB := n1_; clear n0_ n1_; (try clear hb); (try clear hb2); (try clear hk); (try clear hi))))
                    go_ret
                    exact ⟨by first | rfl | (simp [errW_none, errW_some] <;> rfl) | (simp [*, errW_none, errW_some] <;> rfl), by repeat (first | (with_reducible first | exact HB.out | apply below_alloc | apply pw_below_drewN | apply below_drew1 | refine below_set ?_ GE263.out) | exact HB.out)⟩
                  · rw [if_neg c30] at H
                    have c30b0 : (((rd_T119 l0 a1).f0) == 4) = false := beq_eq_false_iff_ne.mpr c30
                    have c30b1 : (((rd_T119 l0 a1).f0) != 4) = true := bne_iff_ne.mpr c30
                    by_cases c34 : ((rd_T119 l0 a1).f0) = 5
                    · rw [if_pos c34] at H
                      have c34b0 : (((rd_T119 l0 a1).f0) == 5) = true := beq_iff_eq.mpr c34
                      have c34b1 : (((rd_T119 l0 a1).f0) != 5) = false := bne_eq_false_iff_eq.mpr c34
                      clear c34
                      replace H := Option.bind_eq_some_iff.mp H
                      obtain ⟨t267, A350, H⟩ := H
                      replace H : (if t267 = true then ((gridhallref4_Holds.f k1 l0 ((rd_T119 l0 a1).f3) l2).bind fun t268 => (some t268)) else (some false)) = some r := H
                      have A35 := Aside0.mk A350
                      clear A350
                      by_cases c36 : t267 = true
                      · subst c36
                        have H1 : ((gridhallref4_Holds.f k1 l0 ((rd_T119 l0 a1).f3) l2).bind fun t268 => (some t268)) = some r := by rw [if_pos rfl] at H; exact H
                        clear H
                        have H := H1
                        clear H1
                        replace H := Option.bind_eq_some_iff.mp H
                        obtain ⟨t268, A370, H⟩ := H
                        replace H : (some t268) = some r := H
                        have A37 := Aside0.mk A370
                        clear A370
                        obtain rfl := Option.some.inj H
                        have hcz38_0 : wr.cell? ⟨gb263, 0, none⟩ = some (.int .i64 ((rd_T119 l0 a1).f0)) := (blk_cell BK263.out 0).trans rfl
                        have hcz38_1 : wr.cell? ⟨gb263, 1, none⟩ = some (.string ((rd_T119 l0 a1).f1)) := (blk_cell BK263.out 1).trans rfl
                        have hcz38_2 : wr.cell? ⟨gb263, 2, none⟩ = some (.int .i64 ((rd_T119 l0 a1).f2)) := (blk_cell BK263.out 2).trans rfl
                        have hcz38_3 : wr.cell? ⟨gb263, 3, none⟩ = some (.int .i64 ((rd_T119 l0 a1).f3)) := (blk_cell BK263.out 3).trans rfl
                        have hfz38_0 := blk_frozen BK263.out 0
                        have hfz38_1 := blk_frozen BK263.out 1
                        have hfz38_2 := blk_frozen BK263.out 2
                        have hfz38_3 := blk_frozen BK263.out 3
                        go_wp2_with (first | (go_at_call 78; (with_reducible refine (ih k1 (by have := HK1.out; omega) _ _ l0 ((rd_T119 l0 a1).f2) _ _ l2 true _ ?side1 ?side2 ?side3 ?side4 A35.out).mono ?_); (case side1 => repeat (first | exact (Kd.C_below HR0.out HB.out) | (with_reducible refine Kd.C_alloc ?_ _) | (with_reducible refine Kd.C_drewN ?_ _) | (with_reducible refine Kd.C_drew ?_))); (case side2 => exact HC0.out); (case side3 => repeat (first | exact (Kd.C_below HR2.out HB.out) | (with_reducible refine Kd.C_alloc ?_ _) | (with_reducible refine Kd.C_drewN ?_ _) | (with_reducible refine Kd.C_drew ?_))); (case side4 => exact HC2.out); rintro e w39 ⟨rfl, hb⟩; have n0_ := Aside0.mk (blk_below (g := gb263) (o := .cells #[.int .i64 ((rd_T119 l0 a1).f0), .string ((rd_T119 l0 a1).f1), .int .i64 ((rd_T119 l0 a1).f2), .int .i64 ((rd_T119 l0 a1).f3)] 119 (0, 0)) (by (with_reducible repeat (first | refine blk_drewN ?_ _ | refine blk_drew ?_ | refine blk_alloc ?_ _)); exact BK263.out) hb); have n1_ := Aside0.mk (below_step (by repeat (first | (with_reducible first | exact HB.out | apply below_alloc | apply pw_below_drewN | apply below_drew1 | refine below_set ?_ GE263.out) | exact HB.out)) hb); clear BK263; clear HB; have BK263 := n0_; have HB := n1_; clear n0_ n1_; (try clear hb); (try clear hb2); (try clear hk); (try clear hi); have hcz40_0 : w39.cell? ⟨gb263, 0, none⟩ = some (.int .i64 ((rd_T119 l0 a1).f0)) := (blk_cell BK263.out 0).trans rfl; have hcz40_1 : w39.cell? ⟨gb263, 1, none⟩ = some (.string ((rd_T119 l0 a1).f1)) := (blk_cell BK263.out 1).trans rfl; have hcz40_2 : w39.cell? ⟨gb263, 2, none⟩ = some (.int .i64 ((rd_T119 l0 a1).f2)) := (blk_cell BK263.out 2).trans rfl; have hcz40_3 : w39.cell? ⟨gb263, 3, none⟩ = some (.int .i64 ((rd_T119 l0 a1).f3)) := (blk_cell BK263.out 3).trans rfl; have hfz40_0 := blk_frozen BK263.out 0; have hfz40_1 := blk_frozen BK263.out 1; have hfz40_2 := blk_frozen BK263.out 2; have hfz40_3 := blk_frozen BK263.out 3) | (go_at_call 78; (with_reducible refine (ih k1 (by have := HK1.out; omega) _ _ l0 ((rd_T119 l0 a1).f3) _ _ l2 t268 _ ?side1 ?side2 ?side3 ?side4 A37.out).mono ?_); (case side1 => repeat (first | exact (Kd.C_below HR0.out HB.out) | (with_reducible refine Kd.C_alloc ?_ _) | (with_reducible refine Kd.C_drewN ?_ _) | (with_reducible refine Kd.C_drew ?_))); (case side2 => exact HC0.out); (case side3 => repeat (first | exact (Kd.C_below HR2.out HB.out) | (with_reducible refine Kd.C_alloc ?_ _) | (with_reducible refine Kd.C_drewN ?_ _) | (with_reducible refine Kd.C_drew ?_))); (case side4 => exact HC2.out); rintro e w41 ⟨rfl, hb⟩; have n0_ := Aside0.mk (blk_below (g := gb263) (o := .cells #[.int .i64 ((rd_T119 l0 a1).f0), .string ((rd_T119 l0 a1).f1), .int .i64 ((rd_T119 l0 a1).f2), .int .i64 ((rd_T119 l0 a1).f3)] 119 (0, 0)) (by (with_reducible repeat (first | refine blk_drewN ?_ _ | refine blk_drew ?_ | refine blk_alloc ?_ _)); exact BK263.out) hb); have n1_ := Aside0.mk (below_step (by repeat (first | (with_reducible first | exact HB.out | apply below_alloc | apply pw_below_drewN | apply below_drew1 | refine below_set ?_ GE263.out) | exact HB.out)) hb); clear BK263; clear HB; have BK263 := n0_; have HB := n1_; clear n0_ n1_; (try clear hb); (try clear hb2); (try clear hk); (try clear hi)))
                        repeat (go_quiet (first | (go_at_call 78; (with_reducible refine (ih k1 (by have := HK1.out; omega) _ _ l0 ((rd_T119 l0 a1).f2) _ _ l2 true _ ?side1 ?side2 ?side3 ?side4 A35.out).mono ?_); (case side1 => repeat (first | exact (Kd.C_below HR0.out HB.out) | (with_reducible refine Kd.C_alloc ?_ _) | (with_reducible refine Kd.C_drewN ?_ _) | (with_reducible refine Kd.C_drew ?_))); (case side2 => exact HC0.out); (case side3 => repeat (first | exact (Kd.C_below HR2.out HB.out) | (with_reducible refine Kd.C_alloc ?_ _) | (with_reducible refine Kd.C_drewN ?_ _) | (with_reducible refine Kd.C_drew ?_))); (case side4 => exact HC2.out); rintro e w39 ⟨rfl, hb⟩; have n0_ := Aside0.mk (blk_below (g := gb263) (o := .cells #[.int .i64 ((rd_T119 l0 a1).f0), .string ((rd_T119 l0 a1).f1), .int .i64 ((rd_T119 l0 a1).f2), .int .i64 ((rd_T119 l0 a1).f3)] 119 (0, 0)) (by (with_reducible repeat (first | refine blk_drewN ?_ _ | refine blk_drew ?_ | refine blk_alloc ?_ _)); exact BK263.out) hb); have n1_ := Aside0.mk (below_step (by repeat (first | (with_reducible first | exact HB.out | apply below_alloc | apply pw_below_drewN | apply below_drew1 | refine below_set ?_ GE263.out) | exact HB.out)) hb); clear BK263; clear HB; have BK263 := n0_; have HB := n1_; clear n0_ n1_; (try clear hb); (try clear hb2); (try clear hk); (try clear hi); have hcz40_0 : w39.cell? ⟨gb263, 0, none⟩ = some (.int .i64 ((rd_T119 l0 a1).f0)) := (blk_cell BK263.out 0).trans rfl; have hcz40_1 : w39.cell? ⟨gb263, 1, none⟩ = some (.string ((rd_T119 l0 a1).f1)) := (blk_cell BK263.out 1).trans rfl; have hcz40_2 : w39.cell? ⟨gb263, 2, none⟩ = some (.int .i64 ((rd_T119 l0 a1).f2)) := (blk_cell BK263.out 2).trans rfl; have hcz40_3 : w39.cell? ⟨gb263, 3, none⟩ = some (.int .i64 ((rd_T119 l0 a1).f3)) := (blk_cell BK263.out 3).trans rfl; have hfz40_0 := blk_frozen BK263.out 0; have hfz40_1 := blk_frozen BK263.out 1; have hfz40_2 := blk_frozen BK263.out 2; have hfz40_3 := blk_frozen BK263.out 3) | (go_at_call 78; (with_reducible refine (ih k1 (by have := HK1.out; omega) _ _ l0 ((rd_T119 l0 a1).f3) _ _ l2 t268 _ ?side1 ?side2 ?side3 ?side4 A37.out).mono ?_); (case side1 => repeat (first | exact (Kd.C_below HR0.out HB.out) | (with_reducible refine Kd.C_alloc ?_ _) | (with_reducible refine Kd.C_drewN ?_ _) | (with_reducible refine Kd.C_drew ?_))); (case side2 => exact HC0.out); (case side3 => repeat (first | exact (Kd.C_below HR2.out HB.out) | (with_reducible refine Kd.C_alloc ?_ _) | (with_reducible refine Kd.C_drewN ?_ _) | (with_reducible refine Kd.C_drew ?_))); (case side4 => exact HC2.out); rintro e w41 ⟨rfl, hb⟩; have n0_ := Aside0.mk (blk_below (g := gb263) (o := .cells #[.int .i64 ((rd_T119 l0 a1).f0), .string ((rd_T119 l0 a1).f1), .int .i64 ((rd_T119 l0 a1).f2), .int .i64 ((rd_T119 l0 a1).f3)] 119 (0, 0)) (by (with_reducible repeat (first | refine blk_drewN ?_ _ | refine blk_drew ?_ | refine blk_alloc ?_ _)); exact BK263.out) hb); have n1_ := Aside0.mk (below_step (by repeat (first | (with_reducible first | exact HB.out | apply below_alloc | apply pw_below_drewN | apply below_drew1 | refine below_set ?_ GE263.out) | exact HB.out)) hb); clear BK263; clear HB; have BK263 := n0_; have HB := n1_; clear n0_ n1_; (try clear hb); (try clear hb2); (try clear hk); (try clear hi))); try go_wp2_with (first | (go_at_call 78; (with_reducible refine (ih k1 (by have := HK1.out; omega) _ _ l0 ((rd_T119 l0 a1).f2) _ _ l2 true _ ?side1 ?side2 ?side3 ?side4 A35.out).mono ?_); (case side1 => repeat (first | exact (Kd.C_below HR0.out HB.out) | (with_reducible refine Kd.C_alloc ?_ _) | (with_reducible refine Kd.C_drewN ?_ _) | (with_reducible refine Kd.C_drew ?_))); (case side2 => exact HC0.out); (case side3 => repeat (first | exact (Kd.C_below HR2.out HB.out) | (with_reducible refine Kd.C_alloc ?_ _) | (with_reducible refine Kd.C_drewN ?_ _) | (with_reducible refine Kd.C_drew ?_))); (case side4 => exact HC2.out); rintro e w39 ⟨rfl, hb⟩; have n0_ := Aside0.mk (blk_below (g := gb263) (o := .cells #[.int .i64 ((rd_T119 l0 a1).f0), .string ((rd_T119 l0 a1).f1), .int .i64 ((rd_T119 l0 a1).f2), .int .i64 ((rd_T119 l0 a1).f3)] 119 (0, 0)) (by (with_reducible repeat (first | refine blk_drewN ?_ _ | refine blk_drew ?_ | refine blk_alloc ?_ _)); exact BK263.out) hb); have n1_ := Aside0.mk (below_step (by repeat (first | (with_reducible first | exact HB.out | apply below_alloc | apply pw_below_drewN | apply below_drew1 | refine below_set ?_ GE263.out) | exact HB.out)) hb); clear BK263; clear HB; have BK263 := n0_; have HB := n1_; clear n0_ n1_; (try clear hb); (try clear hb2); (try clear hk); (try clear hi); have hcz40_0 : w39.cell? ⟨gb263, 0, none⟩ = some (.int .i64 ((rd_T119 l0 a1).f0)) := (blk_cell BK263.out 0).trans rfl; have hcz40_1 : w39.cell? ⟨gb263, 1, none⟩ = some (.string ((rd_T119 l0 a1).f1)) := (blk_cell BK263.out 1).trans rfl; have hcz40_2 : w39.cell? ⟨gb263, 2, none⟩ = some (.int .i64 ((rd_T119 l0 a1).f2)) := (blk_cell BK263.out 2).trans rfl; have hcz40_3 : w39.cell? ⟨gb263, 3, none⟩ = some (.int .i64 ((rd_T119 l0 a1).f3)) := (blk_cell BK263.out 3).trans rfl; have hfz40_0 := blk_frozen BK263.out 0; have hfz40_1 := blk_frozen BK263.out 1; have hfz40_2 := blk_frozen BK263.out 2; have hfz40_3 := blk_frozen BK263.out 3) | (go_at_call 78; (with_reducible refine (ih k1 (by have := HK1.out; omega) _ _ l0 ((rd_T119 l0 a1).f3) _ _ l2 t268 _ ?side1 ?side2 ?side3 ?side4 A37.out).mono ?_); (case side1 => repeat (first | exact (Kd.C_below HR0.out HB.out) | (with_reducible refine Kd.C_alloc ?_ _) | (with_reducible refine Kd.C_drewN ?_ _) | (with_reducible refine Kd.C_drew ?_))); (case side2 => exact HC0.out); (case side3 => repeat (first | exact (Kd.C_below HR2.out HB.out) | (with_reducible refine Kd.C_alloc ?_ _) | (with_reducible refine Kd.C_drewN ?_ _) | (with_reducible refine Kd.C_drew ?_))); (case side4 => exact HC2.out); rintro e w41 ⟨rfl, hb⟩; have n0_ := Aside0.mk (blk_below (g := gb263) (o := .cells #[.int .i64 ((rd_T119 l0 a1).f0), .string ((rd_T119 l0 a1).f1), .int .i64 ((rd_T119 l0 a1).f2), .int .i64 ((rd_T119 l0 a1).f3)] 119 (0, 0)) (by (with_reducible repeat (first | refine blk_drewN ?_ _ | refine blk_drew ?_ | refine blk_alloc ?_ _)); exact BK263.out) hb); have n1_ := Aside0.mk (below_step (by repeat (first | (with_reducible first | exact HB.out | apply below_alloc | apply pw_below_drewN | apply below_drew1 | refine below_set ?_ GE263.out) | exact HB.out)) hb); clear BK263; clear HB; have BK263 := n0_; have HB := n1_; clear n0_ n1_; (try clear hb); (try clear hb2); (try clear hk); (try clear hi))))
                        go_ret
                        exact ⟨by first | rfl | (simp [errW_none, errW_some] <;> rfl) | (simp [*, errW_none, errW_some] <;> rfl), by repeat (first | (with_reducible first | exact HB.out | apply below_alloc | apply pw_below_drewN | apply below_drew1 | refine below_set ?_ GE263.out) | exact HB.out)⟩
                      · replace c36 := Bool.eq_false_iff.mpr c36
                        subst c36
                        have H1 : (some false) = some r := by rw [if_neg (show ¬ (false = true) by decide)] at H; exact H
                        clear H
                        have H := H1
                        clear H1
                        obtain rfl := Option.some.inj H
                        have hcz42_0 : wr.cell? ⟨gb263, 0, none⟩ = some (.int .i64 ((rd_T119 l0 a1).f0)) := (blk_cell BK263.out 0).trans rfl
                        have hcz42_1 : wr.cell? ⟨gb263, 1, none⟩ = some (.string ((rd_T119 l0 a1).f1)) := (blk_cell BK263.out 1).trans rfl
                        have hcz42_2 : wr.cell? ⟨gb263, 2, none⟩ = some (.int .i64 ((rd_T119 l0 a1).f2)) := (blk_cell BK263.out 2).trans rfl
                        have hcz42_3 : wr.cell? ⟨gb263, 3, none⟩ = some (.int .i64 ((rd_T119 l0 a1).f3)) := (blk_cell BK263.out 3).trans rfl
                        have hfz42_0 := blk_frozen BK263.out 0
                        have hfz42_1 := blk_frozen BK263.out 1
                        have hfz42_2 := blk_frozen BK263.out 2
                        have hfz42_3 := blk_frozen BK263.out 3
                        go_wp2_with (first | (go_at_call 78; (with_reducible refine (ih k1 (by have := HK1.out; omega) _ _ l0 ((rd_T119 l0 a1).f2) _ _ l2 false _ ?side1 ?side2 ?side3 ?side4 A35.out).mono ?_); (case side1 => repeat (first | exact (Kd.C_below HR0.out HB.out) | (with_reducible refine Kd.C_alloc ?_ _) | (with_reducible refine Kd.C_drewN ?_ _) | (with_reducible refine Kd.C_drew ?_))); (case side2 => exact HC0.out); (case side3 => repeat (first | exact (Kd.C_below HR2.out HB.out) | (with_reducible refine Kd.C_alloc ?_ _) | (with_reducible refine Kd.C_drewN ?_ _) | (with_reducible refine Kd.C_drew ?_))); (case side4 => exact HC2.out); rintro e w43 ⟨rfl, hb⟩; have n0_ := Aside0.mk (blk_below (g := gb263) (o := .cells #[.int .i64 ((rd_T119 l0 a1).f0), .string ((rd_T119 l0 a1).f1), .int .i64 ((rd_T119 l0 a1).f2), .int .i64 ((rd_T119 l0 a1).f3)] 119 (0, 0)) (by (with_reducible repeat (first | refine blk_drewN ?_ _ | refine blk_drew ?_ | refine blk_alloc ?_ _)); exact BK263.out) hb); have n1_ := Aside0.mk (below_step (by repeat (first | (with_reducible first | exact HB.out | apply below_alloc | apply pw_below_drewN | apply below_drew1 | refine below_set ?_ GE263.out) | exact HB.out)) hb); clear BK263; clear HB; have BK263 := n0_; have HB := n1_; clear n0_ n1_; (try clear hb); (try clear hb2); (try clear hk); (try clear hi)))
                        repeat (go_quiet (first | (go_at_call 78; (with_reducible refine (ih k1 (by have := HK1.out; omega) _ _ l0 ((rd_T119 l0 a1).f2) _ _ l2 false _ ?side1 ?side2 ?side3 ?side4 A35.out).mono ?_); (case side1 => repeat (first | exact (Kd.C_below HR0.out HB.out) | (with_reducible refine Kd.C_alloc ?_ _) | (with_reducible refine Kd.C_drewN ?_ _) | (with_reducible refine Kd.C_drew ?_))); (case side2 => exact HC0.out); (case side3 => repeat (first | exact (Kd.C_below HR2.out HB.out) | (with_reducible refine Kd.C_alloc ?_ _) | (with_reducible refine Kd.C_drewN ?_ _) | (with_reducible refine Kd.C_drew ?_))); (case side4 => exact HC2.out); rintro e w43 ⟨rfl, hb⟩; have n0_ := Aside0.mk (blk_below (g := gb263) (o := .cells #[.int .i64 ((rd_T119 l0 a1).f0), .string ((rd_T119 l0 a1).f1), .int .i64 ((rd_T119 l0 a1).f2), .int .i64 ((rd_T119 l0 a1).f3)] 119 (0, 0)) (by (with_reducible repeat (first | refine blk_drewN ?_ _ | refine blk_drew ?_ | refine blk_alloc ?_ _)); exact BK263.out) hb); have n1_ := Aside0.mk (below_step (by repeat (first | (with_reducible first | exact HB.out | apply below_alloc | apply pw_below_drewN | apply below_drew1 | refine below_set ?_ GE263.out) | exact HB.out)) hb); clear BK263; clear HB; have BK263 := n0_; have HB := n1_; clear n0_ n1_; (try clear hb); (try clear hb2); (try clear hk); (try clear hi))); try go_wp2_with (first | (go_at_call 78; (with_reducible refine (ih k1 (by have := HK1.out; omega) _ _ l0 ((rd_T119 l0 a1).f2) _ _ l2 false _ ?side1 ?side2 ?side3 ?side4 A35.out).mono ?_); (case side1 => repeat (first | exact (Kd.C_below HR0.out HB.out) | (with_reducible refine Kd.C_alloc ?_ _) | (with_reducible refine Kd.C_drewN ?_ _) | (with_reducible refine Kd.C_drew ?_))); (case side2 => exact HC0.out); (case side3 => repeat (first | exact (Kd.C_below HR2.out HB.out) | (with_reducible refine Kd.C_alloc ?_ _) | (with_reducible refine Kd.C_drewN ?_ _) | (with_reducible refine Kd.C_drew ?_))); (case side4 => exact HC2.out); rintro e w43 ⟨rfl, hb⟩; have n0_ := Aside0.mk (blk_below (g := gb263) (o := .cells #[.int .i64 ((rd_T119 l0 a1).f0), .string ((rd_T119 l0 a1).f1), .int .i64 ((rd_T119 l0 a1).f2), .int .i64 ((rd_T119 l0 a1).f3)] 119 (0, 0)) (by (with_reducible repeat (first | refine blk_drewN ?_ _ | refine blk_drew ?_ | refine blk_alloc ?_ _)); exact BK263.out) hb); have n1_ := Aside0.mk (below_step (by repeat (first | (with_reducible first | exact HB.out | apply below_alloc | apply pw_below_drewN | apply below_drew1 | refine below_set ?_ GE263.out) | exact HB.out)) hb); clear BK263; clear HB; have BK263 := n0_; have HB := n1_; clear n0_ n1_; (try clear hb); (try clear hb2); (try clear hk); (try clear hi))))
                        go_ret
                        exact ⟨by first | rfl | (simp [errW_none, errW_some] <;> rfl) | (simp [*, errW_none, errW_some] <;> rfl), by repeat (first | (with_reducible first | exact HB.out | apply below_alloc | apply pw_below_drewN | apply below_drew1 | refine below_set ?_ GE263.out) | exact HB.out)⟩
                    · rw [if_neg c34] at H
                      have c34b0 : (((rd_T119 l0 a1).f0) == 5) = false := beq_eq_false_iff_ne.mpr c34
                      have c34b1 : (((rd_T119 l0 a1).f0) != 5) = true := bne_iff_ne.mpr c34
                      by_cases c44 : ((rd_T119 l0 a1).f0) = 6
                      · rw [if_pos c44] at H
                        have c44b0 : (((rd_T119 l0 a1).f0) == 6) = true := beq_iff_eq.mpr c44
                        have c44b1 : (((rd_T119 l0 a1).f0) != 6) = false := bne_eq_false_iff_eq.mpr c44
                        clear c44
                        replace H := Option.bind_eq_some_iff.mp H
                        obtain ⟨t269, A450, H⟩ := H
                        replace H : (if t269 = true then (some true) else ((gridhallref4_Holds.f k1 l0 ((rd_T119 l0 a1).f3) l2).bind fun t270 => (some t270))) = some r := H
                        have A45 := Aside0.mk A450
                        clear A450
                        by_cases c46 : t269 = true
                        · subst c46
                          have H1 : (some true) = some r := by rw [if_pos rfl] at H; exact H
                          clear H
                          have H := H1
                          clear H1
                          obtain rfl := Option.some.inj H
                          have hcz47_0 : wr.cell? ⟨gb263, 0, none⟩ = some (.int .i64 ((rd_T119 l0 a1).f0)) := (blk_cell BK263.out 0).trans rfl
                          have hcz47_1 : wr.cell? ⟨gb263, 1, none⟩ = some (.string ((rd_T119 l0 a1).f1)) := (blk_cell BK263.out 1).trans rfl
                          have hcz47_2 : wr.cell? ⟨gb263, 2, none⟩ = some (.int .i64 ((rd_T119 l0 a1).f2)) := (blk_cell BK263.out 2).trans rfl
                          have hcz47_3 : wr.cell? ⟨gb263, 3, none⟩ = some (.int .i64 ((rd_T119 l0 a1).f3)) := (blk_cell BK263.out 3).trans rfl
                          have hfz47_0 := blk_frozen BK263.out 0
                          have hfz47_1 := blk_frozen BK263.out 1
                          have hfz47_2 := blk_frozen BK263.out 2
                          have hfz47_3 := blk_frozen BK263.out 3
                          go_wp2_with (first | (go_at_call 78; (with_reducible refine (ih k1 (by have := HK1.out; omega) _ _ l0 ((rd_T119 l0 a1).f2) _ _ l2 true _ ?side1 ?side2 ?side3 ?side4 A45.out).mono ?_); (case side1 => repeat (first | exact (Kd.C_below HR0.out HB.out) | (with_reducible refine Kd.C_alloc ?_ _) | (with_reducible refine Kd.C_drewN ?_ _) | (with_reducible refine Kd.C_drew ?_))); (case side2 => exact HC0.out); (case side3 => repeat (first | exact (Kd.C_below HR2.out HB.out) | (with_reducible refine Kd.C_alloc ?_ _) | (with_reducible refine Kd.C_drewN ?_ _) | (with_reducible refine Kd.C_drew ?_))); (case side4 => exact HC2.out); rintro e w48 ⟨rfl, hb⟩; have n0_ := Aside0.mk (blk_below (g := gb263) (o := .cells #[.int .i64 ((rd_T119 l0 a1).f0), .string ((rd_T119 l0 a1).f1), .int .i64 ((rd_T119 l0 a1).f2), .int .i64 ((rd_T119 l0 a1).f3)] 119 (0, 0)) (by (with_reducible repeat (first | refine blk_drewN ?_ _ | refine blk_drew ?_ | refine blk_alloc ?_ _)); exact BK263.out) hb); have n1_ := Aside0.mk (below_step (by repeat (first | (with_reducible first | exact HB.out | apply below_alloc | apply pw_below_drewN | apply below_drew1 | refine below_set ?_ GE263.out) | exact HB.out)) hb); clear BK263; clear HB; have BK263 := n0_; have HB := n1_; clear n0_ n1_; (try clear hb); (try clear hb2); (try clear hk); (try clear hi)))
                          repeat (go_quiet (first | (go_at_call 78; (with_reducible refine (ih k1 (by have := HK1.out; omega) _ _ l0 ((rd_T119 l0 a1).f2) _ _ l2 true _ ?side1 ?side2 ?side3 ?side4 A45.out).mono ?_); (case side1 => repeat (first | exact (Kd.C_below HR0.out HB.out) | (with_reducible refine Kd.C_alloc ?_ _) | (with_reducible refine Kd.C_drewN ?_ _) | (with_reducible refine Kd.C_drew ?_))); (case side2 => exact HC0.out); (case side3 => repeat (first | exact (Kd.C_below HR2.out HB.out) | (with_reducible refine Kd.C_alloc ?_ _) | (with_reducible refine Kd.C_drewN ?_ _) | (with_reducible refine Kd.C_drew ?_))); (case side4 => exact HC2.out); rintro e w48 ⟨rfl, hb⟩; have n0_ := Aside0.mk (blk_below (g := gb263) (o := .cells #[.int .i64 ((rd_T119 l0 a1).f0), .string ((rd_T119 l0 a1).f1), .int .i64 ((rd_T119 l0 a1).f2), .int .i64 ((rd_T119 l0 a1).f3)] 119 (0, 0)) (by (with_reducible repeat (first | refine blk_drewN ?_ _ | refine blk_drew ?_ | refine blk_alloc ?_ _)); exact BK263.out) hb); have n1_ := Aside0.mk (below_step (by repeat (first | (with_reducible first | exact HB.out | apply below_alloc | apply pw_below_drewN | apply below_drew1 | refine below_set ?_ GE263.out) | exact HB.out)) hb); clear BK263; clear HB; have BK263 := n0_; have HB := n1_; clear n0_ n1_; (try clear hb); (try clear hb2); (try clear hk); (try clear hi))); try go_wp2_with (first | (go_at_call 78; (with_reducible refine (ih k1 (by have := HK1.out; omega) _ _ l0 ((rd_T119 l0 a1).f2) _ _ l2 true _ ?side1 ?side2 ?side3 ?side4 A45.out).mono ?_); (case side1 => repeat (first | exact (Kd.C_below HR0.out HB.out) | (with_reducible refine Kd.C_alloc ?_ _) | (with_reducible refine Kd.C_drewN ?_ _) | (with_reducible refine Kd.C_drew ?_))); (case side2 => exact HC0.out); (case side3 => repeat (first | exact (Kd.C_below HR2.out HB.out) | (with_reducible refine Kd.C_alloc ?_ _) | (with_reducible refine Kd.C_drewN ?_ _) | (with_reducible refine Kd.C_drew ?_))); (case side4 => exact HC2.out); rintro e w48 ⟨rfl, hb⟩; have n0_ := Aside0.mk (blk_below (g := gb263) (o := .cells #[.int .i64 ((rd_T119 l0 a1).f0), .string ((rd_T119 l0 a1).f1), .int .i64 ((rd_T119 l0 a1).f2), .int .i64 ((rd_T119 l0 a1).f3)] 119 (0, 0)) (by (with_reducible repeat (first | refine blk_drewN ?_ _ | refine blk_drew ?_ | refine blk_alloc ?_ _)); exact BK263.out) hb); have n1_ := Aside0.mk (below_step (by repeat (first | (with_reducible first | exact HB.out | apply below_alloc | apply pw_below_drewN | apply below_drew1 | refine below_set ?_ GE263.out) | exact HB.out)) hb); clear BK263; clear HB; have BK263 := n0_; have HB := n1_; clear n0_ n1_; (try clear hb); (try clear hb2); (try clear hk); (try clear hi))))
                          go_ret
                          exact ⟨by first | rfl | (simp [errW_none, errW_some] <;> rfl) | (simp [*, errW_none, errW_some] <;> rfl), by repeat (first | (with_reducible first | exact HB.out | apply below_alloc | apply pw_below_drewN | apply below_drew1 | refine below_set ?_ GE263.out) | exact HB.out)⟩
                        · replace c46 := Bool.eq_false_iff.mpr c46
                          subst c46
                          have H1 : ((gridhallref4_Holds.f k1 l0 ((rd_T119 l0 a1).f3) l2).bind fun t270 => (some t270)) = some r := by rw [if_neg (show ¬ (false = true) by decide)] at H; exact H
                          clear H
                          have H := H1
                          clear H1
                          replace H := Option.bind_eq_some_iff.mp H
                          obtain ⟨t270, A490, H⟩ := H
                          replace H : (some t270) = some r := H
                          have A49 := Aside0.mk A490
                          clear A490
                          obtain rfl := Option.some.inj H
                          have hcz50_0 : wr.cell? ⟨gb263, 0, none⟩ = some (.int .i64 ((rd_T119 l0 a1).f0)) := (blk_cell BK263.out 0).trans rfl
                          have hcz50_1 : wr.cell? ⟨gb263, 1, none⟩ = some (.string ((rd_T119 l0 a1).f1)) := (blk_cell BK263.out 1).trans rfl
                          have hcz50_2 : wr.cell? ⟨gb263, 2, none⟩ = some (.int .i64 ((rd_T119 l0 a1).f2)) := (blk_cell BK263.out 2).trans rfl
                          have hcz50_3 : wr.cell? ⟨gb263, 3, none⟩ = some (.int .i64 ((rd_T119 l0 a1).f3)) := (blk_cell BK263.out 3).trans rfl
                          have hfz50_0 := blk_frozen BK263.out 0
                          have hfz50_1 := blk_frozen BK263.out 1
                          have hfz50_2 := blk_frozen BK263.out 2
                          have hfz50_3 := blk_frozen BK263.out 3
                          go_wp2_with (first | (go_at_call 78; (with_reducible refine (ih k1 (by have := HK1.out; omega) _ _ l0 ((rd_T119 l0 a1).f2) _ _ l2 false _ ?side1 ?side2 ?side3 ?side4 A45.out).mono ?_); (case side1 => repeat (first | exact (Kd.C_below HR0.out HB.out) | (with_reducible refine Kd.C_alloc ?_ _) | (with_reducible refine Kd.C_drewN ?_ _) | (with_reducible refine Kd.C_drew ?_))); (case side2 => exact HC0.out); (case side3 => repeat (first | exact (Kd.C_below HR2.out HB.out) | (with_reducible refine Kd.C_alloc ?_ _) | (with_reducible refine Kd.C_drewN ?_ _) | (with_reducible refine Kd.C_drew ?_))); (case side4 => exact HC2.out); rintro e w51 ⟨rfl, hb⟩; have n0_ := Aside0.mk (blk_below (g := gb263) (o := .cells #[.int .i64 ((rd_T119 l0 a1).f0), .string ((rd_T119 l0 a1).f1), .int .i64 ((rd_T119 l0 a1).f2), .int .i64 ((rd_T119 l0 a1).f3)] 119 (0, 0)) (by (with_reducible repeat (first | refine blk_drewN ?_ _ | refine blk_drew ?_ | refine blk_alloc ?_ _)); exact BK263.out) hb); have n1_ := Aside0.mk (below_step (by repeat (first | (with_reducible first | exact HB.out | apply below_alloc | apply pw_below_drewN | apply below_drew1 | refine below_set ?_ GE263.out) | exact HB.out)) hb); clear BK263; clear HB; have BK263 := n0_; have HB := n1_; clear n0_ n1_; (try clear hb); (try clear hb2); (try clear hk); (try clear hi); have hcz52_0 : w51.cell? ⟨gb263, 0, none⟩ = some (.int .i64 ((rd_T119 l0 a1).f0)) := (blk_cell BK263.out 0).trans rfl; have hcz52_1 : w51.cell? ⟨gb263, 1, none⟩ = some (.string ((rd_T119 l0 a1).f1)) := (blk_cell BK263.out 1).trans rfl; have hcz52_2 : w51.cell? ⟨gb263, 2, none⟩ = some (.int .i64 ((rd_T119 l0 a1).f2)) := (blk_cell BK263.out 2).trans rfl; have hcz52_3 : w51.cell? ⟨gb263, 3, none⟩ = some (.int .i64 ((rd_T119 l0 a1).f3)) := (blk_cell BK263.out 3).trans rfl; have hfz52_0 := blk_frozen BK263.out 0; have hfz52_1 := blk_frozen BK263.out 1; have hfz52_2 := blk_frozen BK263.out 2; have hfz52_3 := blk_frozen BK263.out 3) | (go_at_call 78; (with_reducible refine (ih k1 (by have := HK1.out; omega) _ _ l0 ((rd_T119 l0 a1).f3) _ _ l2 t270 _ ?side1 ?side2 ?side3 ?side4 A49.out).mono ?_); (case side1 => repeat (first | exact (Kd.C_below HR0.out HB.out) | (with_reducible refine Kd.C_alloc ?_ _) | (with_reducible refine Kd.C_drewN ?_ _) | (with_reducible refine Kd.C_drew ?_))); (case side2 => exact HC0.out); (case side3 => repeat (first | exact (Kd.C_below HR2.out HB.out) | (with_reducible refine Kd.C_alloc ?_ _) | (with_reducible refine Kd.C_drewN ?_ _) | (with_reducible refine Kd.C_drew ?_))); (case side4 => exact HC2.out); rintro e w53 ⟨rfl, hb⟩; have n0_ := Aside0.mk (blk_below (g := gb263) (o := .cells #[.int .i64 ((rd_T119 l0 a1).f0), .string ((rd_T119 l0 a1).f1), .int .i64 ((rd_T119 l0 a1).f2), .int .i64 ((rd_T119 l0 a1).f3)] 119 (0, 0)) (by (with_reducible repeat (first | refine blk_drewN ?_ _ | refine blk_drew ?_ | refine blk_alloc ?_ _)); exact BK263.out) hb); have n1_ := Aside0.mk (below_step (by repeat (first | (with_reducible first | exact HB.out | apply below_alloc | apply pw_below_drewN | apply below_drew1 | refine below_set ?_ GE263.out) | exact HB.out)) hb); clear BK263; clear HB; have BK263 := n0_; have HB := n1_; clear n0_ n1_; (try clear hb); (try clear hb2); (try clear hk); (try clear hi)))
                          repeat (go_quiet (first | (go_at_call 78; (with_reducible refine (ih k1 (by have := HK1.out; omega) _ _ l0 ((rd_T119 l0 a1).f2) _ _ l2 false _ ?side1 ?side2 ?side3 ?side4 A45.out).mono ?_); (case side1 => repeat (first | exact (Kd.C_below HR0.out HB.out) | (with_reducible refine Kd.C_alloc ?_ _) | (with_reducible refine Kd.C_drewN ?_ _) | (with_reducible refine Kd.C_drew ?_))); (case side2 => exact HC0.out); (case side3 => repeat (first | exact (Kd.C_below HR2.out HB.out) | (with_reducible refine Kd.C_alloc ?_ _) | (with_reducible refine Kd.C_drewN ?_ _) | (with_reducible refine Kd.C_drew ?_))); (case side4 => exact HC2.out); rintro e w51 ⟨rfl, hb⟩; have n0_ := Aside0.mk (blk_below (g := gb263) (o := .cells #[.int .i64 ((rd_T119 l0 a1).f0), .string ((rd_T119 l0 a1).f1), .int .i64 ((rd_T119 l0 a1).f2), .int .i64 ((rd_T119 l0 a1).f3)] 119 (0, 0)) (by (with_reducible repeat (first | refine blk_drewN ?_ _ | refine blk_drew ?_ | refine blk_alloc ?_ _)); exact BK263.out) hb); have n1_ := Aside0.mk (below_step (by repeat (first | (with_reducible first | exact HB.out | apply below_alloc | apply pw_below_drewN | apply below_drew1 | refine below_set ?_ GE263.out) | exact HB.out)) hb); clear BK263; clear HB; have BK263 := n0_; have HB := n1_; clear n0_ n1_; (try clear hb); (try clear hb2); (try clear hk); (try clear hi); have hcz52_0 : w51.cell? ⟨gb263, 0, none⟩ = some (.int .i64 ((rd_T119 l0 a1).f0)) := (blk_cell BK263.out 0).trans rfl; have hcz52_1 : w51.cell? ⟨gb263, 1, none⟩ = some (.string ((rd_T119 l0 a1).f1)) := (blk_cell BK263.out 1).trans rfl; have hcz52_2 : w51.cell? ⟨gb263, 2, none⟩ = some (.int .i64 ((rd_T119 l0 a1).f2)) := (blk_cell BK263.out 2).trans rfl; have hcz52_3 : w51.cell? ⟨gb263, 3, none⟩ = some (.int .i64 ((rd_T119 l0 a1).f3)) := (blk_cell BK263.out 3).trans rfl; have hfz52_0 := blk_frozen BK263.out 0; have hfz52_1 := blk_frozen BK263.out 1; have hfz52_2 := blk_frozen BK263.out 2; have hfz52_3 := blk_frozen BK263.out 3) | (go_at_call 78; (with_reducible refine (ih k1 (by have := HK1.out; omega) _ _ l0 ((rd_T119 l0 a1).f3) _ _ l2 t270 _ ?side1 ?side2 ?side3 ?side4 A49.out).mono ?_); (case side1 => repeat (first | exact (Kd.C_below HR0.out HB.out) | (with_reducible refine Kd.C_alloc ?_ _) | (with_reducible refine Kd.C_drewN ?_ _) | (with_reducible refine Kd.C_drew ?_))); (case side2 => exact HC0.out); (case side3 => repeat (first | exact (Kd.C_below HR2.out HB.out) | (with_reducible refine Kd.C_alloc ?_ _) | (with_reducible refine Kd.C_drewN ?_ _) | (with_reducible refine Kd.C_drew ?_))); (case side4 => exact HC2.out); rintro e w53 ⟨rfl, hb⟩; have n0_ := Aside0.mk (blk_below (g := gb263) (o := .cells #[.int .i64 ((rd_T119 l0 a1).f0), .string ((rd_T119 l0 a1).f1), .int .i64 ((rd_T119 l0 a1).f2), .int .i64 ((rd_T119 l0 a1).f3)] 119 (0, 0)) (by (with_reducible repeat (first | refine blk_drewN ?_ _ | refine blk_drew ?_ | refine blk_alloc ?_ _)); exact BK263.out) hb); have n1_ := Aside0.mk (below_step (by repeat (first | (with_reducible first | exact HB.out | apply below_alloc | apply pw_below_drewN | apply below_drew1 | refine below_set ?_ GE263.out) | exact HB.out)) hb); clear BK263; clear HB; have BK263 := n0_; have HB := n1_; clear n0_ n1_; (try clear hb); (try clear hb2); (try clear hk); (try clear hi))); try go_wp2_with (first | (go_at_call 78; (with_reducible refine (ih k1 (by have := HK1.out; omega) _ _ l0 ((rd_T119 l0 a1).f2) _ _ l2 false _ ?side1 ?side2 ?side3 ?side4 A45.out).mono ?_); (case side1 => repeat (first | exact (Kd.C_below HR0.out HB.out) | (with_reducible refine Kd.C_alloc ?_ _) | (with_reducible refine Kd.C_drewN ?_ _) | (with_reducible refine Kd.C_drew ?_))); (case side2 => exact HC0.out); (case side3 => repeat (first | exact (Kd.C_below HR2.out HB.out) | (with_reducible refine Kd.C_alloc ?_ _) | (with_reducible refine Kd.C_drewN ?_ _) | (with_reducible refine Kd.C_drew ?_))); (case side4 => exact HC2.out); rintro e w51 ⟨rfl, hb⟩; have n0_ := Aside0.mk (blk_below (g := gb263) (o := .cells #[.int .i64 ((rd_T119 l0 a1).f0), .string ((rd_T119 l0 a1).f1), .int .i64 ((rd_T119 l0 a1).f2), .int .i64 ((rd_T119 l0 a1).f3)] 119 (0, 0)) (by (with_reducible repeat (first | refine blk_drewN ?_ _ | refine blk_drew ?_ | refine blk_alloc ?_ _)); exact BK263.out) hb); have n1_ := Aside0.mk (below_step (by repeat (first | (with_reducible first | exact HB.out | apply below_alloc | apply pw_below_drewN | apply below_drew1 | refine below_set ?_ GE263.out) | exact HB.out)) hb); clear BK263; clear HB; have BK263 := n0_; have HB := n1_; clear n0_ n1_; (try clear hb); (try clear hb2); (try clear hk); (try clear hi); have hcz52_0 : w51.cell? ⟨gb263, 0, none⟩ = some (.int .i64 ((rd_T119 l0 a1).f0)) := (blk_cell BK263.out 0).trans rfl; have hcz52_1 : w51.cell? ⟨gb263, 1, none⟩ = some (.string ((rd_T119 l0 a1).f1)) := (blk_cell BK263.out 1).trans rfl; have hcz52_2 : w51.cell? ⟨gb263, 2, none⟩ = some (.int .i64 ((rd_T119 l0 a1).f2)) := (blk_cell BK263.out 2).trans rfl; have hcz52_3 : w51.cell? ⟨gb263, 3, none⟩ = some (.int .i64 ((rd_T119 l0 a1).f3)) := (blk_cell BK263.out 3).trans rfl; have hfz52_0 := blk_frozen BK263.out 0; have hfz52_1 := blk_frozen BK263.out 1; have hfz52_2 := blk_frozen BK263.out 2; have hfz52_3 := blk_frozen BK263.out 3) | (go_at_call 78; (with_reducible refine (ih k1 (by have := HK1.out; omega) _ _ l0 ((rd_T119 l0 a1).f3) _ _ l2 t270 _ ?side1 ?side2 ?side3 ?side4 A49.out).mono ?_); (case side1 => repeat (first | exact (Kd.C_below HR0.out HB.out) | (with_reducible refine Kd.C_alloc ?_ _) | (with_reducible refine Kd.C_drewN ?_ _) | (with_reducible refine Kd.C_drew ?_))); (case side2 => exact HC0.out); (case side3 => repeat (first | exact (Kd.C_below HR2.out HB.out) | (with_reducible refine Kd.C_alloc ?_ _) | (with_reducible refine Kd.C_drewN ?_ _) | (with_reducible refine Kd.C_drew ?_))); (case side4 => exact HC2.out); rintro e w53 ⟨rfl, hb⟩; have n0_ := Aside0.mk (blk_below (g := gb263) (o := .cells #[.int .i64 ((rd_T119 l0 a1).f0), .string ((rd_T119 l0 a1).f1), .int .i64 ((rd_T119 l0 a1).f2), .int .i64 ((rd_T119 l0 a1).f3)] 119 (0, 0)) (by (with_reducible repeat (first | refine blk_drewN ?_ _ | refine blk_drew ?_ | refine blk_alloc ?_ _)); exact BK263.out) hb); have n1_ := Aside0.mk (below_step (by repeat (first | (with_reducible first | exact HB.out | apply below_alloc | apply pw_below_drewN | apply below_drew1 | refine below_set ?_ GE263.out) | exact HB.out)) hb); clear BK263; clear HB; have BK263 := n0_; have HB := n1_; clear n0_ n1_; (try clear hb); (try clear hb2); (try clear hk); (try clear hi))))
                          go_ret
                          exact ⟨by first | rfl | (simp [errW_none, errW_some] <;> rfl) | (simp [*, errW_none, errW_some] <;> rfl), by repeat (first | (with_reducible first | exact HB.out | apply below_alloc | apply pw_below_drewN | apply below_drew1 | refine below_set ?_ GE263.out) | exact HB.out)⟩
                      · rw [if_neg c44] at H
                        have c44b0 : (((rd_T119 l0 a1).f0) == 6) = false := beq_eq_false_iff_ne.mpr c44
                        have c44b1 : (((rd_T119 l0 a1).f0) != 6) = true := bne_iff_ne.mpr c44
                        obtain rfl := Option.some.inj H
                        have hcz54_0 : wr.cell? ⟨gb263, 0, none⟩ = some (.int .i64 ((rd_T119 l0 a1).f0)) := (blk_cell BK263.out 0).trans rfl
                        have hcz54_1 : wr.cell? ⟨gb263, 1, none⟩ = some (.string ((rd_T119 l0 a1).f1)) := (blk_cell BK263.out 1).trans rfl
                        have hcz54_2 : wr.cell? ⟨gb263, 2, none⟩ = some (.int .i64 ((rd_T119 l0 a1).f2)) := (blk_cell BK263.out 2).trans rfl
                        have hcz54_3 : wr.cell? ⟨gb263, 3, none⟩ = some (.int .i64 ((rd_T119 l0 a1).f3)) := (blk_cell BK263.out 3).trans rfl
                        have hfz54_0 := blk_frozen BK263.out 0
                        have hfz54_1 := blk_frozen BK263.out 1
                        have hfz54_2 := blk_frozen BK263.out 2
                        have hfz54_3 := blk_frozen BK263.out 3
                        go_wp2
                        repeat (go_quiet (fail); try go_wp2)
                        go_ret
                        exact ⟨by first | rfl | (simp [errW_none, errW_some] <;> rfl) | (simp [*, errW_none, errW_some] <;> rfl), by repeat (first | (with_reducible first | exact HB.out | apply below_alloc | apply pw_below_drewN | apply below_drew1 | refine below_set ?_ GE263.out) | exact HB.out)⟩
    · rw [if_neg c5] at H
      exact absurd H (by simp)
  · rw [if_neg c4] at H
    exact absurd H (by simp)

/-! ### gridhallref4_Forbids: function 34 -/
def gridhallref4_Forbids.l0 : Nat → List (S63) → Bool → ByteArray → List Int → List (S122) → Int → Int → Option (List Int)
  | 0, _, _, _, _, _, _, _ => none
  | k + 1, x1, x2, x3, x9, x12, x13, x14 => if x14 < x13 then (if 0 ≤ x14 then (if x14 < (x12.length : Int) then (if (((rd_T122 x12 x14).f0) == x2) = true then (if ((rd_T122 x12 x14).f1).toList = x3.toList then ((gridhallref4_Holds.f k ((rd_T122 x12 x14).f2) (wrap64 ((((rd_T122 x12 x14).f2).length : Int) - 1)) x1).bind fun t273 => (if t273 = true then (gridhallref4_Forbids.l0 k x1 x2 x3 x9 x12 x13 (wrap64 (x14 + 1))) else (if x9.length < 17592186044416 then (gridhallref4_Forbids.l0 k x1 x2 x3 (x9 ++ [x14]) x12 x13 (wrap64 (x14 + 1))) else (none)))) else (gridhallref4_Forbids.l0 k x1 x2 x3 x9 x12 x13 (wrap64 (x14 + 1)))) else (gridhallref4_Forbids.l0 k x1 x2 x3 x9 x12 x13 (wrap64 (x14 + 1)))) else (none)) else (none)) else (some x9)
def gridhallref4_Forbids.f (k : Nat) (l0 : List (S122)) (l1 : List (S63)) (a2 : Bool) (a3 : ByteArray) : Option (List Int) := gridhallref4_Forbids.l0 k l1 a2 a3 ([] : List Int) l0 (l0.length : Int) 0
theorem gridhallref4_Forbids.mono_l : ∀ k, (∀ y0 y1 y2 y3 y4 y5 y6, LeO (gridhallref4_Forbids.l0 k y0 y1 y2 y3 y4 y5 y6) (gridhallref4_Forbids.l0 (k + 1) y0 y1 y2 y3 y4 y5 y6))
  | 0 => fun _ _ _ _ _ _ _ r h => by simp [gridhallref4_Forbids.l0] at h
  | k + 1 => by
    have ih0 := gridhallref4_Forbids.mono_l k
    · intro y0 y1 y2 y3 y4 y5 y6
      unfold gridhallref4_Forbids.l0
      repeat' first
      | (with_reducible exact ih0 _ _ _ _ _ _ _)
      | (with_reducible exact gridhallref4_Holds.mono _ _ _ _)
      | (with_reducible exact LeO.refl _)
      | (with_reducible exact LeO.none _)
      | (with_reducible refine LeO.ite ?_ ?_)
      | (with_reducible refine LeO.bind ?_ (fun _ => ?_))
      | exact ih0 _ _ _ _ _ _ _
      | exact gridhallref4_Holds.mono _ _ _ _
      | exact LeO.none _
      | refine LeO.ite ?_ ?_
      | refine LeO.bind ?_ (fun _ => ?_)
theorem gridhallref4_Forbids.mono : ∀ a0 a1 a2 a3 k, LeO (gridhallref4_Forbids.f k a0 a1 a2 a3) (gridhallref4_Forbids.f (k + 1) a0 a1 a2 a3) := by
  intro a0 a1 a2 a3 k
  have ih0 := gridhallref4_Forbids.mono_l k
  unfold gridhallref4_Forbids.f
  repeat' first
      | (with_reducible exact ih0 _ _ _ _ _ _ _)
      | (with_reducible exact gridhallref4_Holds.mono _ _ _ _)
      | (with_reducible exact LeO.refl _)
      | (with_reducible exact LeO.none _)
      | (with_reducible refine LeO.ite ?_ ?_)
      | (with_reducible refine LeO.bind ?_ (fun _ => ?_))
      | exact ih0 _ _ _ _ _ _ _
      | exact gridhallref4_Holds.mono _ _ _ _
      | exact LeO.none _
      | refine LeO.ite ?_ ?_
      | refine LeO.bind ?_ (fun _ => ?_)
set_option maxHeartbeats 8000000 in
set_option maxRecDepth 100000 in
theorem gridhallref4_Forbids.calls (k : Nat) (A0 : Option Addr) (c0 : Nat) (l0 : List (S122)) (A1 : Option Addr) (c1 : Nat) (l1 : List (S63)) (a2 : Bool) (a3 : ByteArray) (r : List Int) (w : World) (hr0 : Kd.C k122 w A0 l0.length l0) (hc0 : l0.length ≤ c0) (hr1 : Kd.C k63 w A1 l1.length l1) (hc1 : l1.length ≤ c1) (h : gridhallref4_Forbids.f k l0 l1 a2 a3 = some r) :
    Calls Try.prog 34 #[.slice A0 l0.length c0, .slice A1 l1.length c1, .bool a2, .string a3] w fun e w' => ∃ v0_ : Value, e = .returned (v0_) ∧ Kd.R (Kd.int .i64) 3 w' w.heap.size (fun _ => True) v0_ r ∧ Below w.heap.size w w' := by
  have hu122 := Try.underlying122
  have HR0 := Aside0.mk hr0
  have HC0 := Aside0.mk hc0
  clear hr0 hc0
  have HR1 := Aside0.mk hr1
  have HC1 := Aside0.mk hc1
  clear hr1 hc1
  have HB := Aside0.mk (Below.refl w.heap.size w)
  have H : (gridhallref4_Forbids.l0 k l1 a2 a3 ([] : List Int) l0 (l0.length : Int) 0) = some r := h
  clear h
  have H' := Aside0.mk H
  clear H
  go_enter Try.func34, Try.ntmps34
  go_wp2
  go_loopg [9, 14] k (fun kq v9 v14 w' => ∃ (x9_1 : List Int) (x14_1 : Int), v14 = .int .i64 x14_1 ∧ Aside0 (gridhallref4_Forbids.l0 kq l1 a2 a3 x9_1 l0 (l0.length : Int) x14_1 = some r) ∧ Aside0 (kq ≤ k) ∧ Aside0 (Kd.R (Kd.int .i64) 3 w' w.heap.size (fun _ => True) v9 x9_1) ∧ Aside0 (Below w.heap.size w w'))
  case atStart => exact ⟨(([] : List Int)), (0), (by first | rfl | (simp; done) | (simp [*]; done)), H', ⟨Nat.le_refl _⟩, ⟨by first | exact Kd.R_nil _ _ _ _ _ | exact Kd.N_nil _ _ _ _ _ | exact Kd.V_nil _ _ _ _ _ | exact Kd.Q_nil _ _ _ _ _ | exact Kd.S_nil _ _ _ _ _⟩, ⟨by repeat (first | (with_reducible first | exact HB.out | apply below_alloc | apply pw_below_drewN | apply below_drew1) | exact HB.out)⟩⟩
  case round =>
    clear H'
    try clear c1
    try clear p2
    try clear c3
    obtain ⟨x9_1, x14_1, rfl, HA, HK1, HO_9, HB⟩ := hrel
    cases gk with
    | zero => exact absurd HA.out (by simp [gridhallref4_Forbids.l0])
    | succ k1 =>
      have H := HA.out
      clear HA
      simp only [gridhallref4_Forbids.l0] at H
      by_cases c5 : x14_1 < (l0.length : Int)
      · rw [if_pos c5] at H
        have c5b0 : decide (x14_1 < (l0.length : Int)) = true := decide_eq_true c5
        clear c5
        by_cases c6 : 0 ≤ x14_1
        · rw [if_pos c6] at H
          have c6b0 : decide (0 ≤ x14_1) = true := decide_eq_true c6
          clear c6
          by_cases c7 : x14_1 < (l0.length : Int)
          · rw [if_pos c7] at H
            have c7b0 : decide (x14_1 < (l0.length : Int)) = true := decide_eq_true c7
            clear c7
            by_cases c8 : (((rd_T122 l0 x14_1).f0) == a2) = true
            · rw [if_pos c8] at H
              have c8b0 : (((rd_T122 l0 x14_1).f0) == a2) = true := c8
              (try (have c8b1 : decide (((rd_T122 l0 x14_1).f0) = a2) = true := by simpa using c8))
              (try (have c8b2 : (((rd_T122 l0 x14_1).f0) == a2) = true := by simpa using c8))
              clear c8
              by_cases c9 : ((rd_T122 l0 x14_1).f1).toList = a3.toList
              · rw [if_pos c9] at H
                have c9b0 : (((rd_T122 l0 x14_1).f1).toList == a3.toList) = true := beq_iff_eq.mpr c9
                have c9b1 : (((rd_T122 l0 x14_1).f1).toList != a3.toList) = false := bne_eq_false_iff_eq.mpr c9
                clear c9
                replace H := Option.bind_eq_some_iff.mp H
                obtain ⟨t273, A100, H⟩ := H
                replace H : (if t273 = true then (gridhallref4_Forbids.l0 k1 l1 a2 a3 x9_1 l0 (l0.length : Int) (wrap64 (x14_1 + 1))) else (if x9_1.length < 17592186044416 then (gridhallref4_Forbids.l0 k1 l1 a2 a3 (x9_1 ++ [x14_1]) l0 (l0.length : Int) (wrap64 (x14_1 + 1))) else (none))) = some r := H
                have A10 := Aside0.mk A100
                clear A100
                by_cases c11 : t273 = true
                · subst c11
                  have H1 : (gridhallref4_Forbids.l0 k1 l1 a2 a3 x9_1 l0 (l0.length : Int) (wrap64 (x14_1 + 1))) = some r := by rw [if_pos rfl] at H; exact H
                  clear H
                  have H := H1
                  clear H1
                  have H' := Aside0.mk H
                  clear H
                  have p271 : 0 ≤ (x14_1 : Int) := of_decide_eq_true (by first | (with_reducible assumption) | assumption)
                  have q271 : x14_1 < (l0.length : Int) := of_decide_eq_true (by first | (with_reducible assumption) | assumption)
                  obtain ⟨ad271, A271_2, c271_2, e271, hx271_0, hx271_1, hx271_2, hl271_2, hi271_2⟩ := at_T122 HR0.out x14_1 p271 q271
                  cases e271
                  replace hx271_0 := (HB.out.cell (World.block_lt_of_cell? w _ hx271_0)).trans hx271_0
                  replace hx271_1 := (HB.out.cell (World.block_lt_of_cell? w _ hx271_1)).trans hx271_1
                  replace hx271_2 := (HB.out.cell (World.block_lt_of_cell? w _ hx271_2)).trans hx271_2
                  have HR271_2 := Aside0.mk hi271_2
                  have HC271_2 := Aside0.mk hl271_2
                  clear hi271_2 hl271_2
                  replace p271 := eq_true p271
                  replace q271 := eq_true q271
                  go_wp2_with (first | ((with_reducible refine gate_dst (N := 11) rfl ?_); (try (refine gate_guard (by rfl) ?_; dsimp only)); refine box_event ?hg (N := 11) ?hd (cs := #[.bool false, .string (⟨#[]⟩ : ByteArray), .slice none 0 0]) (t := 122) ?hr ?_; (case hd => rfl); (case hg => rfl); (case hr => first | (go_simp; done) | (go_simp; rfl)); intro gb272 hg w12 hbox hb; have n0_ := Aside0.mk (Kd.R_below (by (with_reducible repeat (first | apply Kd.R_alloc | apply Kd.R_drewN | apply Kd.R_drew)); exact HO_9.out) hb); have n1_ := Aside0.mk (below_step (by repeat (first | (with_reducible first | exact HB.out | apply below_alloc | apply pw_below_drewN | apply below_drew1) | exact HB.out)) hb); have n2_ := Aside0.mk (hbox); have n3_ := Aside0.mk ((by rw [hg]; exact (below_size (by repeat (first | (with_reducible first | exact HB.out | apply below_alloc | apply pw_below_drewN | apply below_drew1) | exact HB.out))) : w.heap.size ≤ gb272)); have n4_ := Aside0.mk ((by rw [hg]; exact (below_size (by repeat (first | (with_reducible first | exact HB.out | apply below_alloc | apply pw_below_drewN | apply below_drew1) | exact HB.out))) : w.heap.size ≤ gb272)); clear HO_9; clear HB; have HO_9 := n0_; have HB := n1_; have BK272 := n2_; have GW272 := n3_; have GE272 := n4_; clear n0_ n1_ n2_ n3_ n4_; clear hb hbox hg; have hcz13_0 : w12.cell? ⟨gb272, 0, none⟩ = some (.bool false) := (blk_cell BK272.out 0).trans rfl; have hcz13_1 : w12.cell? ⟨gb272, 1, none⟩ = some (.string (⟨#[]⟩ : ByteArray)) := (blk_cell BK272.out 1).trans rfl; have hcz13_2 : w12.cell? ⟨gb272, 2, none⟩ = some (.slice none 0 0) := (blk_cell BK272.out 2).trans rfl; have hfz13_0 := blk_frozen BK272.out 0; have hfz13_1 := blk_frozen BK272.out 1; have hfz13_2 := blk_frozen BK272.out 2) | (go_at_call 78; (with_reducible refine (gridhallref4_Holds.calls k1 _ _ ((rd_T122 l0 x14_1).f2) (wrap64 ((((rd_T122 l0 x14_1).f2).length : Int) - 1)) _ _ l1 true _ ?side1 ?side2 ?side3 ?side4 A10.out).mono ?_); (case side1 => exact Kd.C_below HR271_2.out (by repeat (first | (with_reducible first | exact HB.out | apply below_alloc | apply pw_below_drewN | apply below_drew1 | refine below_set ?_ GE272.out) | exact HB.out))); (case side2 => exact HC271_2.out); (case side3 => exact Kd.C_below HR1.out (by repeat (first | (with_reducible first | exact HB.out | apply below_alloc | apply pw_below_drewN | apply below_drew1 | refine below_set ?_ GE272.out) | exact HB.out))); (case side4 => exact HC1.out); rintro e w14 ⟨rfl, hb⟩; have n0_ := Aside0.mk (Kd.R_below (by (with_reducible repeat (first | apply Kd.R_alloc | apply Kd.R_drewN | apply Kd.R_drew)); exact (Kd.R_mono (Kd.R_far (p := ⟨gb272, 2, none⟩) (Kd.R_far (p := ⟨gb272, 1, none⟩) (Kd.R_far (p := ⟨gb272, 0, none⟩) (Kd.R_types HO_9.out BK272.out (by decide)) (fun _ hk => hk.2) (.bool ((rd_T122 l0 x14_1).f0))) (fun _ hk => hk.2) (.string ((rd_T122 l0 x14_1).f1))) (fun _ hk => hk.2) (.slice A271_2 ((rd_T122 l0 x14_1).f2).length c271_2)) (fun _ h_ => h_.1))) hb); have n1_ := Aside0.mk (blk_below (g := gb272) (o := .cells #[.bool ((rd_T122 l0 x14_1).f0), .string ((rd_T122 l0 x14_1).f1), .slice A271_2 ((rd_T122 l0 x14_1).f2).length c271_2] 122 (0, 0)) (by (with_reducible repeat (first | refine blk_drewN ?_ _ | refine blk_drew ?_ | refine blk_alloc ?_ _)); refine blk_put (cs := #[.bool ((rd_T122 l0 x14_1).f0), .string ((rd_T122 l0 x14_1).f1), .slice none 0 0]) ?_ 2 _ rfl; (with_reducible repeat (first | refine blk_drewN ?_ _ | refine blk_drew ?_ | refine blk_alloc ?_ _)); refine blk_put (cs := #[.bool ((rd_T122 l0 x14_1).f0), .string (⟨#[]⟩ : ByteArray), .slice none 0 0]) ?_ 1 _ rfl; (with_reducible repeat (first | refine blk_drewN ?_ _ | refine blk_drew ?_ | refine blk_alloc ?_ _)); refine blk_put (cs := #[.bool false, .string (⟨#[]⟩ : ByteArray), .slice none 0 0]) ?_ 0 _ rfl; (with_reducible repeat (first | refine blk_drewN ?_ _ | refine blk_drew ?_ | refine blk_alloc ?_ _)); exact BK272.out) hb); have n2_ := Aside0.mk (below_step (by repeat (first | (with_reducible first | exact HB.out | apply below_alloc | apply pw_below_drewN | apply below_drew1 | refine below_set ?_ GE272.out) | exact HB.out)) hb); clear HO_9; clear BK272; clear HB; have HO_9 := n0_; have BK272 := n1_; have HB := n2_; clear n0_ n1_ n2_; (try clear hb); (try clear hb2); (try clear hk); (try clear hi)))
                  go_roundg k1
                  case measure => have := HK1.out; omega
                  case rel => exact ⟨(x9_1), (wrap64 (x14_1 + 1)), (by first | rfl | (simp; done) | (simp [*]; done)), H', ⟨by have := HK1.out; omega⟩, ⟨by (with_reducible repeat (first | apply Kd.R_alloc | apply Kd.R_drewN | apply Kd.R_drew)); exact HO_9.out⟩, ⟨by repeat (first | (with_reducible first | exact HB.out | apply below_alloc | apply pw_below_drewN | apply below_drew1 | refine below_set ?_ GE272.out) | exact HB.out)⟩⟩
                · replace c11 := Bool.eq_false_iff.mpr c11
                  subst c11
                  have H1 : (if x9_1.length < 17592186044416 then (gridhallref4_Forbids.l0 k1 l1 a2 a3 (x9_1 ++ [x14_1]) l0 (l0.length : Int) (wrap64 (x14_1 + 1))) else (none)) = some r := by rw [if_neg (show ¬ (false = true) by decide)] at H; exact H
                  clear H
                  have H := H1
                  clear H1
                  by_cases c15 : x9_1.length < 17592186044416
                  · rw [if_pos c15] at H
                    have LMc15 := Aside0.mk c15
                    clear c15
                    obtain ⟨y274, hy274⟩ : ∃ y_ : List Int, y_ = (x9_1 ++ [x14_1]) := ⟨_, rfl⟩
                    replace H : (gridhallref4_Forbids.l0 k1 l1 a2 a3 y274 l0 (l0.length : Int) (wrap64 (x14_1 + 1))) = some r := by first | (rw [hy274]; with_reducible exact H) | (have H2_ := (Option.bind_some _ _).symm.trans H; rw [hy274]; with_reducible exact H2_) | (have H2_ := (Option.bind_some _ _).symm.trans H; with_reducible exact H2_) | with_reducible exact H | (rw [hy274]; exact H) | exact H
                    have Ny274 := Aside0.mk hy274
                    clear hy274
                    have H' := Aside0.mk H
                    clear H
                    have p271 : 0 ≤ (x14_1 : Int) := of_decide_eq_true (by first | (with_reducible assumption) | assumption)
                    have q271 : x14_1 < (l0.length : Int) := of_decide_eq_true (by first | (with_reducible assumption) | assumption)
                    obtain ⟨ad271, A271_2, c271_2, e271, hx271_0, hx271_1, hx271_2, hl271_2, hi271_2⟩ := at_T122 HR0.out x14_1 p271 q271
                    cases e271
                    replace hx271_0 := (HB.out.cell (World.block_lt_of_cell? w _ hx271_0)).trans hx271_0
                    replace hx271_1 := (HB.out.cell (World.block_lt_of_cell? w _ hx271_1)).trans hx271_1
                    replace hx271_2 := (HB.out.cell (World.block_lt_of_cell? w _ hx271_2)).trans hx271_2
                    have HR271_2 := Aside0.mk hi271_2
                    have HC271_2 := Aside0.mk hl271_2
                    clear hi271_2 hl271_2
                    replace p271 := eq_true p271
                    replace q271 := eq_true q271
                    go_wp2_with (first | ((with_reducible refine gate_dst (N := 11) rfl ?_); (try (refine gate_guard (by rfl) ?_; dsimp only)); refine box_event ?hg (N := 11) ?hd (cs := #[.bool false, .string (⟨#[]⟩ : ByteArray), .slice none 0 0]) (t := 122) ?hr ?_; (case hd => rfl); (case hg => rfl); (case hr => first | (go_simp; done) | (go_simp; rfl)); intro gb272 hg w16 hbox hb; have n0_ := Aside0.mk (Kd.R_below (by (with_reducible repeat (first | apply Kd.R_alloc | apply Kd.R_drewN | apply Kd.R_drew)); exact HO_9.out) hb); have n1_ := Aside0.mk (below_step (by repeat (first | (with_reducible first | exact HB.out | apply below_alloc | apply pw_below_drewN | apply below_drew1) | exact HB.out)) hb); have n2_ := Aside0.mk (hbox); have n3_ := Aside0.mk ((by rw [hg]; exact (below_size (by repeat (first | (with_reducible first | exact HB.out | apply below_alloc | apply pw_below_drewN | apply below_drew1) | exact HB.out))) : w.heap.size ≤ gb272)); have n4_ := Aside0.mk ((by rw [hg]; exact (below_size (by repeat (first | (with_reducible first | exact HB.out | apply below_alloc | apply pw_below_drewN | apply below_drew1) | exact HB.out))) : w.heap.size ≤ gb272)); clear HO_9; clear HB; have HO_9 := n0_; have HB := n1_; have BK272 := n2_; have GW272 := n3_; have GE272 := n4_; clear n0_ n1_ n2_ n3_ n4_; clear hb hbox hg; have hcz17_0 : w16.cell? ⟨gb272, 0, none⟩ = some (.bool false) := (blk_cell BK272.out 0).trans rfl; have hcz17_1 : w16.cell? ⟨gb272, 1, none⟩ = some (.string (⟨#[]⟩ : ByteArray)) := (blk_cell BK272.out 1).trans rfl; have hcz17_2 : w16.cell? ⟨gb272, 2, none⟩ = some (.slice none 0 0) := (blk_cell BK272.out 2).trans rfl; have hfz17_0 := blk_frozen BK272.out 0; have hfz17_1 := blk_frozen BK272.out 1; have hfz17_2 := blk_frozen BK272.out 2) | (go_at_call 78; (with_reducible refine (gridhallref4_Holds.calls k1 _ _ ((rd_T122 l0 x14_1).f2) (wrap64 ((((rd_T122 l0 x14_1).f2).length : Int) - 1)) _ _ l1 false _ ?side1 ?side2 ?side3 ?side4 A10.out).mono ?_); (case side1 => exact Kd.C_below HR271_2.out (by repeat (first | (with_reducible first | exact HB.out | apply below_alloc | apply pw_below_drewN | apply below_drew1 | refine below_set ?_ GE272.out) | exact HB.out))); (case side2 => exact HC271_2.out); (case side3 => exact Kd.C_below HR1.out (by repeat (first | (with_reducible first | exact HB.out | apply below_alloc | apply pw_below_drewN | apply below_drew1 | refine below_set ?_ GE272.out) | exact HB.out))); (case side4 => exact HC1.out); rintro e w18 ⟨rfl, hb⟩; have n0_ := Aside0.mk (Kd.R_below (by (with_reducible repeat (first | apply Kd.R_alloc | apply Kd.R_drewN | apply Kd.R_drew)); exact (Kd.R_mono (Kd.R_far (p := ⟨gb272, 2, none⟩) (Kd.R_far (p := ⟨gb272, 1, none⟩) (Kd.R_far (p := ⟨gb272, 0, none⟩) (Kd.R_types HO_9.out BK272.out (by decide)) (fun _ hk => hk.2) (.bool ((rd_T122 l0 x14_1).f0))) (fun _ hk => hk.2) (.string ((rd_T122 l0 x14_1).f1))) (fun _ hk => hk.2) (.slice A271_2 ((rd_T122 l0 x14_1).f2).length c271_2)) (fun _ h_ => h_.1))) hb); have n1_ := Aside0.mk (blk_below (g := gb272) (o := .cells #[.bool ((rd_T122 l0 x14_1).f0), .string ((rd_T122 l0 x14_1).f1), .slice A271_2 ((rd_T122 l0 x14_1).f2).length c271_2] 122 (0, 0)) (by (with_reducible repeat (first | refine blk_drewN ?_ _ | refine blk_drew ?_ | refine blk_alloc ?_ _)); refine blk_put (cs := #[.bool ((rd_T122 l0 x14_1).f0), .string ((rd_T122 l0 x14_1).f1), .slice none 0 0]) ?_ 2 _ rfl; (with_reducible repeat (first | refine blk_drewN ?_ _ | refine blk_drew ?_ | refine blk_alloc ?_ _)); refine blk_put (cs := #[.bool ((rd_T122 l0 x14_1).f0), .string (⟨#[]⟩ : ByteArray), .slice none 0 0]) ?_ 1 _ rfl; (with_reducible repeat (first | refine blk_drewN ?_ _ | refine blk_drew ?_ | refine blk_alloc ?_ _)); refine blk_put (cs := #[.bool false, .string (⟨#[]⟩ : ByteArray), .slice none 0 0]) ?_ 0 _ rfl; (with_reducible repeat (first | refine blk_drewN ?_ _ | refine blk_drew ?_ | refine blk_alloc ?_ _)); exact BK272.out) hb); have n2_ := Aside0.mk (below_step (by repeat (first | (with_reducible first | exact HB.out | apply below_alloc | apply pw_below_drewN | apply below_drew1 | refine below_set ?_ GE272.out) | exact HB.out)) hb); clear HO_9; clear BK272; clear HB; have HO_9 := n0_; have BK272 := n1_; have HB := n2_; clear n0_ n1_ n2_; (try clear hb); (try clear hb2); (try clear hk); (try clear hi)) | ((with_reducible refine gate_builtin (b := .append) (xs := #[.tmp 40, .tmp 42]) rfl ?_); (try (refine gate_guard (by rfl) ?_; dsimp only)); at_builtin; refine Kd.R_append (Kd.int .i64) (w0 := w) w.heap.size rfl (.tmp 40) (.tmp 42) 26 3 (.int .i64 0) 8 rfl Try.underlying26 info3 rfl (by decide) (by omega) u9 x9_1 x14_1 [.int .i64 x14_1] (fun _ => True) (fun _ => False) rfl rfl ?aP (fun _ hk => hk.elim) ?aF ?aO ?aB ?aS ?aL ?_; (case aP => exact rfl); (case aB => exact (by repeat (first | (with_reducible first | exact HB.out | apply below_alloc | apply pw_below_drewN | apply below_drew1 | refine below_set ?_ GE272.out) | exact HB.out))); (case aF => exact (fun _ _ => trivial)); (case aO => exact (by (with_reducible repeat (first | apply Kd.R_alloc | apply Kd.R_drewN | apply Kd.R_drew)); exact HO_9.out)); (case aS => exact (below_size (by repeat (first | (with_reducible first | exact HB.out | apply below_alloc | apply pw_below_drewN | apply below_drew1 | refine below_set ?_ GE272.out) | exact HB.out)))); (case aL => have := LMc15.out; omega); intro v275 w19 ho hb hg hat; rw [← Ny274.out] at ho; have n0_ := Aside0.mk (blk_grown (g := gb272) (o := .cells #[.bool ((rd_T122 l0 x14_1).f0), .string ((rd_T122 l0 x14_1).f1), .slice A271_2 ((rd_T122 l0 x14_1).f2).length c271_2] 122 (0, 0)) (by (with_reducible repeat (first | refine blk_drewN ?_ _ | refine blk_drew ?_ | refine blk_alloc ?_ _)); exact BK272.out) hg (Kd.R_ne HO_9.out BK272.out (by decide))); have n1_ := Aside0.mk (hb); have n2_ := Aside0.mk (ho); clear BK272; clear HB; clear HO_9; have BK272 := n0_; have HB := n1_; have HO276 := n2_; clear n0_ n1_ n2_; clear ho hb hg hat))
                    go_roundg k1
                    case measure => have := HK1.out; omega
                    case rel => exact ⟨(y274), (wrap64 (x14_1 + 1)), (by first | rfl | (simp; done) | (simp [*]; done)), H', ⟨by have := HK1.out; omega⟩, ⟨by (with_reducible repeat (first | apply Kd.R_alloc | apply Kd.R_drewN | apply Kd.R_drew)); exact HO276.out⟩, ⟨by repeat (first | (with_reducible first | exact HB.out | apply below_alloc | apply pw_below_drewN | apply below_drew1 | refine below_set ?_ GE272.out) | exact HB.out)⟩⟩
                  · rw [if_neg c15] at H
                    exact absurd H (by simp)
              · rw [if_neg c9] at H
                have c9b0 : (((rd_T122 l0 x14_1).f1).toList == a3.toList) = false := beq_eq_false_iff_ne.mpr c9
                have c9b1 : (((rd_T122 l0 x14_1).f1).toList != a3.toList) = true := bne_iff_ne.mpr c9
                have H' := Aside0.mk H
                clear H
                have p271 : 0 ≤ (x14_1 : Int) := of_decide_eq_true (by first | (with_reducible assumption) | assumption)
                have q271 : x14_1 < (l0.length : Int) := of_decide_eq_true (by first | (with_reducible assumption) | assumption)
                obtain ⟨ad271, A271_2, c271_2, e271, hx271_0, hx271_1, hx271_2, hl271_2, hi271_2⟩ := at_T122 HR0.out x14_1 p271 q271
                cases e271
                replace hx271_0 := (HB.out.cell (World.block_lt_of_cell? w _ hx271_0)).trans hx271_0
                replace hx271_1 := (HB.out.cell (World.block_lt_of_cell? w _ hx271_1)).trans hx271_1
                replace hx271_2 := (HB.out.cell (World.block_lt_of_cell? w _ hx271_2)).trans hx271_2
                have HR271_2 := Aside0.mk hi271_2
                have HC271_2 := Aside0.mk hl271_2
                clear hi271_2 hl271_2
                replace p271 := eq_true p271
                replace q271 := eq_true q271
                go_wp2_with (first | ((with_reducible refine gate_dst (N := 11) rfl ?_); (try (refine gate_guard (by rfl) ?_; dsimp only)); refine box_event ?hg (N := 11) ?hd (cs := #[.bool false, .string (⟨#[]⟩ : ByteArray), .slice none 0 0]) (t := 122) ?hr ?_; (case hd => rfl); (case hg => rfl); (case hr => first | (go_simp; done) | (go_simp; rfl)); intro gb272 hg w20 hbox hb; have n0_ := Aside0.mk (Kd.R_below (by (with_reducible repeat (first | apply Kd.R_alloc | apply Kd.R_drewN | apply Kd.R_drew)); exact HO_9.out) hb); have n1_ := Aside0.mk (below_step (by repeat (first | (with_reducible first | exact HB.out | apply below_alloc | apply pw_below_drewN | apply below_drew1) | exact HB.out)) hb); have n2_ := Aside0.mk (hbox); have n3_ := Aside0.mk ((by rw [hg]; exact (below_size (by repeat (first | (with_reducible first | exact HB.out | apply below_alloc | apply pw_below_drewN | apply below_drew1) | exact HB.out))) : w.heap.size ≤ gb272)); have n4_ := Aside0.mk ((by rw [hg]; exact (below_size (by repeat (first | (with_reducible first | exact HB.out | apply below_alloc | apply pw_below_drewN | apply below_drew1) | exact HB.out))) : w.heap.size ≤ gb272)); clear HO_9; clear HB; have HO_9 := n0_; have HB := n1_; have BK272 := n2_; have GW272 := n3_; have GE272 := n4_; clear n0_ n1_ n2_ n3_ n4_; clear hb hbox hg; have hcz21_0 : w20.cell? ⟨gb272, 0, none⟩ = some (.bool false) := (blk_cell BK272.out 0).trans rfl; have hcz21_1 : w20.cell? ⟨gb272, 1, none⟩ = some (.string (⟨#[]⟩ : ByteArray)) := (blk_cell BK272.out 1).trans rfl; have hcz21_2 : w20.cell? ⟨gb272, 2, none⟩ = some (.slice none 0 0) := (blk_cell BK272.out 2).trans rfl; have hfz21_0 := blk_frozen BK272.out 0; have hfz21_1 := blk_frozen BK272.out 1; have hfz21_2 := blk_frozen BK272.out 2))
                go_roundg k1
                case measure => have := HK1.out; omega
                case rel => exact ⟨(x9_1), (wrap64 (x14_1 + 1)), (by first | rfl | (simp; done) | (simp [*]; done)), H', ⟨by have := HK1.out; omega⟩, ⟨by (with_reducible repeat (first | apply Kd.R_alloc | apply Kd.R_drewN | apply Kd.R_drew)); exact Kd.R_mono (Kd.R_far (p := ⟨gb272, 2, none⟩) (Kd.R_far (p := ⟨gb272, 1, none⟩) (Kd.R_far (p := ⟨gb272, 0, none⟩) (Kd.R_types HO_9.out BK272.out (by decide)) (fun _ hk => hk.2) (.bool ((rd_T122 l0 x14_1).f0))) (fun _ hk => hk.2) (.string ((rd_T122 l0 x14_1).f1))) (fun _ hk => hk.2) (.slice A271_2 ((rd_T122 l0 x14_1).f2).length c271_2)) (fun _ hk => trivial)⟩, ⟨by repeat (first | (with_reducible first | exact HB.out | apply below_alloc | apply pw_below_drewN | apply below_drew1 | refine below_set ?_ GE272.out) | exact HB.out)⟩⟩
            · rw [if_neg c8] at H
              have c8b0 : (((rd_T122 l0 x14_1).f0) == a2) = false := by simpa using c8
              (try (have c8b1 : decide (((rd_T122 l0 x14_1).f0) = a2) = false := by simpa using c8))
              (try (have c8b2 : (((rd_T122 l0 x14_1).f0) == a2) = false := by simpa using c8))
              (try (have c8b3 : ¬ (((rd_T122 l0 x14_1).f0) = a2) := by simpa using c8))
              clear c8
              have H' := Aside0.mk H
              clear H
              have p271 : 0 ≤ (x14_1 : Int) := of_decide_eq_true (by first | (with_reducible assumption) | assumption)
              have q271 : x14_1 < (l0.length : Int) := of_decide_eq_true (by first | (with_reducible assumption) | assumption)
              obtain ⟨ad271, A271_2, c271_2, e271, hx271_0, hx271_1, hx271_2, hl271_2, hi271_2⟩ := at_T122 HR0.out x14_1 p271 q271
              cases e271
              replace hx271_0 := (HB.out.cell (World.block_lt_of_cell? w _ hx271_0)).trans hx271_0
              replace hx271_1 := (HB.out.cell (World.block_lt_of_cell? w _ hx271_1)).trans hx271_1
              replace hx271_2 := (HB.out.cell (World.block_lt_of_cell? w _ hx271_2)).trans hx271_2
              have HR271_2 := Aside0.mk hi271_2
              have HC271_2 := Aside0.mk hl271_2
              clear hi271_2 hl271_2
              replace p271 := eq_true p271
              replace q271 := eq_true q271
              go_wp2_with (first | ((with_reducible refine gate_dst (N := 11) rfl ?_); (try (refine gate_guard (by rfl) ?_; dsimp only)); refine box_event ?hg (N := 11) ?hd (cs := #[.bool false, .string (⟨#[]⟩ : ByteArray), .slice none 0 0]) (t := 122) ?hr ?_; (case hd => rfl); (case hg => rfl); (case hr => first | (go_simp; done) | (go_simp; rfl)); intro gb272 hg w22 hbox hb; have n0_ := Aside0.mk (Kd.R_below (by (with_reducible repeat (first | apply Kd.R_alloc | apply Kd.R_drewN | apply Kd.R_drew)); exact HO_9.out) hb); have n1_ := Aside0.mk (below_step (by repeat (first | (with_reducible first | exact HB.out | apply below_alloc | apply pw_below_drewN | apply below_drew1) | exact HB.out)) hb); have n2_ := Aside0.mk (hbox); have n3_ := Aside0.mk ((by rw [hg]; exact (below_size (by repeat (first | (with_reducible first | exact HB.out | apply below_alloc | apply pw_below_drewN | apply below_drew1) | exact HB.out))) : w.heap.size ≤ gb272)); have n4_ := Aside0.mk ((by rw [hg]; exact (below_size (by repeat (first | (with_reducible first | exact HB.out | apply below_alloc | apply pw_below_drewN | apply below_drew1) | exact HB.out))) : w.heap.size ≤ gb272)); clear HO_9; clear HB; have HO_9 := n0_; have HB := n1_; have BK272 := n2_; have GW272 := n3_; have GE272 := n4_; clear n0_ n1_ n2_ n3_ n4_; clear hb hbox hg; have hcz23_0 : w22.cell? ⟨gb272, 0, none⟩ = some (.bool false) := (blk_cell BK272.out 0).trans rfl; have hcz23_1 : w22.cell? ⟨gb272, 1, none⟩ = some (.string (⟨#[]⟩ : ByteArray)) := (blk_cell BK272.out 1).trans rfl; have hcz23_2 : w22.cell? ⟨gb272, 2, none⟩ = some (.slice none 0 0) := (blk_cell BK272.out 2).trans rfl; have hfz23_0 := blk_frozen BK272.out 0; have hfz23_1 := blk_frozen BK272.out 1; have hfz23_2 := blk_frozen BK272.out 2))
              go_roundg k1
              case measure => have := HK1.out; omega
              case rel => exact ⟨(x9_1), (wrap64 (x14_1 + 1)), (by first | rfl | (simp; done) | (simp [*]; done)), H', ⟨by have := HK1.out; omega⟩, ⟨by (with_reducible repeat (first | apply Kd.R_alloc | apply Kd.R_drewN | apply Kd.R_drew)); exact Kd.R_mono (Kd.R_far (p := ⟨gb272, 2, none⟩) (Kd.R_far (p := ⟨gb272, 1, none⟩) (Kd.R_far (p := ⟨gb272, 0, none⟩) (Kd.R_types HO_9.out BK272.out (by decide)) (fun _ hk => hk.2) (.bool ((rd_T122 l0 x14_1).f0))) (fun _ hk => hk.2) (.string ((rd_T122 l0 x14_1).f1))) (fun _ hk => hk.2) (.slice A271_2 ((rd_T122 l0 x14_1).f2).length c271_2)) (fun _ hk => trivial)⟩, ⟨by repeat (first | (with_reducible first | exact HB.out | apply below_alloc | apply pw_below_drewN | apply below_drew1 | refine below_set ?_ GE272.out) | exact HB.out)⟩⟩
          · rw [if_neg c7] at H
            exact absurd H (by simp)
        · rw [if_neg c6] at H
          exact absurd H (by simp)
      · rw [if_neg c5] at H
        have c5b0 : decide (x14_1 < (l0.length : Int)) = false := decide_eq_false c5
        clear c5
        obtain rfl := Option.some.inj H
        go_wp2
        go_ret
        exact ⟨_, by first | rfl | (simp [errW_none, errW_some] <;> rfl) | (simp [*, errW_none, errW_some] <;> rfl), by (with_reducible repeat (first | apply Kd.R_alloc | apply Kd.R_drewN | apply Kd.R_drew)); exact HO_9.out, by repeat (first | (with_reducible first | exact HB.out | apply below_alloc | apply pw_below_drewN | apply below_drew1) | exact HB.out)⟩

end Go.Proofs.Ytielinaielicbaa.PInterlockSays
