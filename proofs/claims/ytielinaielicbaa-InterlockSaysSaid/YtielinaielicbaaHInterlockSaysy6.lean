/- Contracts of functions that InterlockSays reaches, a text of this session's own. -/
import Derived.Test.YtielinaielicbaaHInterlockSaysy0
namespace Go.Proofs.Ytielinaielicbaa.PInterlockSays
open Go.RowKit Go.Proofs.YtielinaielicbaaW.PrintWords Go.Proofs.YtielinaielicbaaW.PrintLast Go.Proofs.YtielinaielicbaaW.PrintMore
attribute [local go_sem] max2_int min2_int max_two min_two max_three min_three max_four min_four   -- for this text's walks alone
set_option linter.unusedVariables false
set_option linter.unusedSimpArgs false

/-! ### gridhallref4_span: function 92 -/
mutual
def gridhallref4_span.j0 : Nat → List (S119) → Int → Bool → Int → ByteArray → Int → Int → Option (Int)
  | 0, _, _, _, _, _, _, _ => none
  | k + 1, x0, x1, x26, x225000, x225001, x225002, x225003 => if x26 = true then (if x225003 = (wrap64 (x1 - 1)) then ((gridhallref4_span.f k x0 x225003).bind fun t226 => (if t226 < 1 then (some (-1)) else (if x225002 = (wrap64 (t226 - 1)) then ((gridhallref4_span.f k x0 x225002).bind fun t227 => (some t227)) else (some (-1))))) else (some (-1))) else (some x1)
def gridhallref4_span.f : Nat → List (S119) → Int → Option (Int)
  | 0, _, _ => none
  | k + 1, l0, a1 => if a1 < 0 then (some (-1)) else (if 0 ≤ a1 then (if a1 < (l0.length : Int) then (if ((rd_T119 l0 a1).f0) = 4 then (if ((rd_T119 l0 a1).f2) = (wrap64 (a1 - 1)) then ((gridhallref4_span.f k l0 ((rd_T119 l0 a1).f2)).bind fun t225 => (some t225)) else (some (-1))) else (if ((rd_T119 l0 a1).f0) = 5 then (gridhallref4_span.j0 k l0 a1 (((rd_T119 l0 a1).f0) == 5) ((rd_T119 l0 a1).f0) ((rd_T119 l0 a1).f1) ((rd_T119 l0 a1).f2) ((rd_T119 l0 a1).f3)) else (gridhallref4_span.j0 k l0 a1 (((rd_T119 l0 a1).f0) == 6) ((rd_T119 l0 a1).f0) ((rd_T119 l0 a1).f1) ((rd_T119 l0 a1).f2) ((rd_T119 l0 a1).f3)))) else (none)) else (none))
end
theorem gridhallref4_span.mono_l : ∀ k, (∀ y0 y1, LeO (gridhallref4_span.f k y0 y1) (gridhallref4_span.f (k + 1) y0 y1)) ∧ (∀ y0 y1 y2 y3 y4 y5 y6, LeO (gridhallref4_span.j0 k y0 y1 y2 y3 y4 y5 y6) (gridhallref4_span.j0 (k + 1) y0 y1 y2 y3 y4 y5 y6))
  | 0 => ⟨fun _ _ r h => by simp [gridhallref4_span.f] at h, fun _ _ _ _ _ _ _ r h => by simp [gridhallref4_span.j0] at h⟩
  | k + 1 => by
    obtain ⟨ih0, ih1⟩ := gridhallref4_span.mono_l k
    refine ⟨?_, ?_⟩
    · intro y0 y1
      unfold gridhallref4_span.f
      repeat' first
      | (with_reducible exact ih0 _ _)
      | (with_reducible exact ih1 _ _ _ _ _ _ _)
      | (with_reducible exact LeO.refl _)
      | (with_reducible exact LeO.none _)
      | (with_reducible refine LeO.ite ?_ ?_)
      | (with_reducible refine LeO.bind ?_ (fun _ => ?_))
      | exact ih0 _ _
      | exact ih1 _ _ _ _ _ _ _
      | exact LeO.none _
      | refine LeO.ite ?_ ?_
      | refine LeO.bind ?_ (fun _ => ?_)
    · intro y0 y1 y2 y3 y4 y5 y6
      unfold gridhallref4_span.j0
      repeat' first
      | (with_reducible exact ih0 _ _)
      | (with_reducible exact ih1 _ _ _ _ _ _ _)
      | (with_reducible exact LeO.refl _)
      | (with_reducible exact LeO.none _)
      | (with_reducible refine LeO.ite ?_ ?_)
      | (with_reducible refine LeO.bind ?_ (fun _ => ?_))
      | exact ih0 _ _
      | exact ih1 _ _ _ _ _ _ _
      | exact LeO.none _
      | refine LeO.ite ?_ ?_
      | refine LeO.bind ?_ (fun _ => ?_)
theorem gridhallref4_span.mono : ∀ a0 a1 k, LeO (gridhallref4_span.f k a0 a1) (gridhallref4_span.f (k + 1) a0 a1) := by
  intro a0 a1 k
  obtain ⟨ih0, ih1⟩ := gridhallref4_span.mono_l k
  exact ih0 a0 a1
set_option maxHeartbeats 8000000 in
set_option maxRecDepth 100000 in
theorem gridhallref4_span.calls (k : Nat) : ∀ (A0 : Option Addr) (c0 : Nat) (l0 : List (S119)) (a1 : Int) (r : Int) (w : World) (hr0 : Kd.C k119 w A0 l0.length l0) (hc0 : l0.length ≤ c0) (h : gridhallref4_span.f k l0 a1 = some r),
    Calls Try.prog 92 #[.slice A0 l0.length c0, .int .i64 a1] w fun e w' => e = .returned (.int .i64 r) ∧ Below w.heap.size w w' := by
  induction k using Nat.strongRecOn with
  | _ k ih =>
  intro A0 c0 l0 a1 r w hr0 hc0 h
  cases k with
  | zero => exact absurd h (by simp [gridhallref4_span.f])
  | succ k =>
  simp only [gridhallref4_span.f] at h
  have hu119 := Try.underlying119
  have HR0 := Aside0.mk hr0
  have HC0 := Aside0.mk hc0
  clear hr0 hc0
  have HB := Aside0.mk (Below.refl w.heap.size w)
  have H : (if a1 < 0 then (some (-1)) else (if 0 ≤ a1 then (if a1 < (l0.length : Int) then (if ((rd_T119 l0 a1).f0) = 4 then (if ((rd_T119 l0 a1).f2) = (wrap64 (a1 - 1)) then ((gridhallref4_span.f k l0 ((rd_T119 l0 a1).f2)).bind fun t225 => (some t225)) else (some (-1))) else (if ((rd_T119 l0 a1).f0) = 5 then (gridhallref4_span.j0 k l0 a1 (((rd_T119 l0 a1).f0) == 5) ((rd_T119 l0 a1).f0) ((rd_T119 l0 a1).f1) ((rd_T119 l0 a1).f2) ((rd_T119 l0 a1).f3)) else (gridhallref4_span.j0 k l0 a1 (((rd_T119 l0 a1).f0) == 6) ((rd_T119 l0 a1).f0) ((rd_T119 l0 a1).f1) ((rd_T119 l0 a1).f2) ((rd_T119 l0 a1).f3)))) else (none)) else (none))) = some r := h
  clear h
  by_cases c3 : a1 < 0
  · rw [if_pos c3] at H
    have c3b0 : decide (a1 < 0) = true := decide_eq_true c3
    clear c3
    obtain rfl := Option.some.inj H
    go_enter Try.func92, Try.ntmps92
    go_wp2
    go_ret
    exact ⟨by first | rfl | (simp [errW_none, errW_some] <;> rfl) | (simp [*, errW_none, errW_some] <;> rfl), by repeat (first | (with_reducible first | exact HB.out | apply below_alloc | apply pw_below_drewN | apply below_drew1) | exact HB.out)⟩
  · rw [if_neg c3] at H
    have c3b0 : decide (a1 < 0) = false := decide_eq_false c3
    clear c3
    by_cases c4 : 0 ≤ a1
    · rw [if_pos c4] at H
      have c4b0 : decide (0 ≤ a1) = true := decide_eq_true c4
      clear c4
      by_cases c5 : a1 < (l0.length : Int)
      · rw [if_pos c5] at H
        have c5b0 : decide (a1 < (l0.length : Int)) = true := decide_eq_true c5
        clear c5
        by_cases c6 : ((rd_T119 l0 a1).f0) = 4
        · rw [if_pos c6] at H
          have c6b0 : (((rd_T119 l0 a1).f0) == 4) = true := beq_iff_eq.mpr c6
          have c6b1 : (((rd_T119 l0 a1).f0) != 4) = false := bne_eq_false_iff_eq.mpr c6
          clear c6
          by_cases c7 : ((rd_T119 l0 a1).f2) = (wrap64 (a1 - 1))
          · rw [if_pos c7] at H
            have c7b0 : (((rd_T119 l0 a1).f2) == (wrap64 (a1 - 1))) = true := beq_iff_eq.mpr c7
            have c7b1 : (((rd_T119 l0 a1).f2) != (wrap64 (a1 - 1))) = false := bne_eq_false_iff_eq.mpr c7
            clear c7
            replace H := Option.bind_eq_some_iff.mp H
            obtain ⟨t225, A80, H⟩ := H
            replace H : (some t225) = some r := H
            have A8 := Aside0.mk A80
            clear A80
            obtain rfl := Option.some.inj H
            have p223 : 0 ≤ (a1 : Int) := of_decide_eq_true (by first | (with_reducible assumption) | assumption)
            have q223 : a1 < (l0.length : Int) := of_decide_eq_true (by first | (with_reducible assumption) | assumption)
            obtain ⟨ad223, e223, hx223_0, hx223_1, hx223_2, hx223_3⟩ := at_T119 HR0.out a1 p223 q223
            cases e223
            replace p223 := eq_true p223
            replace q223 := eq_true q223
            go_enter Try.func92, Try.ntmps92
            go_wp2_with (first | ((with_reducible refine gate_dst (N := 5) rfl ?_); refine box_event ?hg (N := 5) ?hd (cs := #[.int .i64 0, .string (⟨#[]⟩ : ByteArray), .int .i64 0, .int .i64 0]) (t := 119) ?hr ?_; (case hd => rfl); (case hg => rfl); (case hr => first | (go_simp; done) | (go_simp; rfl)); intro gb224 hg w9 hbox hb; have n0_ := Aside0.mk (below_step (by repeat (first | (with_reducible first | exact HB.out | apply below_alloc | apply pw_below_drewN | apply below_drew1) | exact HB.out)) hb); have n1_ := Aside0.mk (hbox); have n2_ := Aside0.mk ((by rw [hg]; exact (below_size (by repeat (first | (with_reducible first | exact HB.out | apply below_alloc | apply pw_below_drewN | apply below_drew1) | exact HB.out))) : w.heap.size ≤ gb224)); have n3_ := Aside0.mk ((by rw [hg]; exact (below_size (by repeat (first | (with_reducible first | exact HB.out | apply below_alloc | apply pw_below_drewN | apply below_drew1) | exact HB.out))) : w.heap.size ≤ gb224)); clear HB; have HB := n0_; have BK224 := n1_; have GW224 := n2_; have GE224 := n3_; clear n0_ n1_ n2_ n3_; clear hb hbox hg; have hcz10_0 : w9.cell? ⟨gb224, 0, none⟩ = some (.int .i64 0) := (blk_cell BK224.out 0).trans rfl; have hcz10_1 : w9.cell? ⟨gb224, 1, none⟩ = some (.string (⟨#[]⟩ : ByteArray)) := (blk_cell BK224.out 1).trans rfl; have hcz10_2 : w9.cell? ⟨gb224, 2, none⟩ = some (.int .i64 0) := (blk_cell BK224.out 2).trans rfl; have hcz10_3 : w9.cell? ⟨gb224, 3, none⟩ = some (.int .i64 0) := (blk_cell BK224.out 3).trans rfl; have hfz10_0 := blk_frozen BK224.out 0; have hfz10_1 := blk_frozen BK224.out 1; have hfz10_2 := blk_frozen BK224.out 2; have hfz10_3 := blk_frozen BK224.out 3) | ((with_reducible refine gate_callee (f := 92) rfl ?_); refine goesL_ (some 25) rfl rfl Try.func92 (by kernel_rfl) rfl #[.slice (some ad223) l0.length c0, .int .i64 ((rd_T119 l0 a1).f2)] rfl (by (try simp only [List.map_toArray, List.map_cons, List.map_nil]); first | done | rfl | (simp only [List.length_drop, List.length_take]; rfl)) ?_; (with_reducible refine (ih k (by omega) _ _ l0 ((rd_T119 l0 a1).f2) t225 _ ?side1 ?side2 A8.out).mono ?_); (case side1 => exact Kd.C_below HR0.out (by repeat (first | (with_reducible first | exact HB.out | apply below_alloc | apply pw_below_drewN | apply below_drew1 | refine below_set ?_ GE224.out) | exact HB.out))); (case side2 => exact HC0.out); rintro e w11 ⟨rfl, hb⟩; refine ⟨_, rfl, ?_⟩; have n0_ := Aside0.mk (blk_below (g := gb224) (o := .cells #[.int .i64 ((rd_T119 l0 a1).f0), .string ((rd_T119 l0 a1).f1), .int .i64 ((rd_T119 l0 a1).f2), .int .i64 ((rd_T119 l0 a1).f3)] 119 (0, 0)) (by (with_reducible repeat (first | refine blk_drewN ?_ _ | refine blk_drew ?_ | refine blk_alloc ?_ _)); refine blk_put (cs := #[.int .i64 ((rd_T119 l0 a1).f0), .string ((rd_T119 l0 a1).f1), .int .i64 ((rd_T119 l0 a1).f2), .int .i64 0]) ?_ 3 _ rfl; (with_reducible repeat (first | refine blk_drewN ?_ _ | refine blk_drew ?_ | refine blk_alloc ?_ _)); refine blk_put (cs := #[.int .i64 ((rd_T119 l0 a1).f0), .string ((rd_T119 l0 a1).f1), .int .i64 0, .int .i64 0]) ?_ 2 _ rfl; (with_reducible repeat (first | refine blk_drewN ?_ _ | refine blk_drew ?_ | refine blk_alloc ?_ _)); refine blk_put (cs := #[.int .i64 ((rd_T119 l0 a1).f0), .string (⟨#[]⟩ : ByteArray), .int .i64 0, .int .i64 0]) ?_ 1 _ rfl; (with_reducible repeat (first | refine blk_drewN ?_ _ | refine blk_drew ?_ | refine blk_alloc ?_ _)); refine blk_put (cs := #[.int .i64 0, .string (⟨#[]⟩ : ByteArray), .int .i64 0, .int .i64 0]) ?_ 0 _ rfl; (with_reducible repeat (first | refine blk_drewN ?_ _ | refine blk_drew ?_ | refine blk_alloc ?_ _)); exact BK224.out) hb); have n1_ := Aside0.mk (below_step (by repeat (first | (with_reducible first | exact HB.out | apply below_alloc | apply pw_below_drewN | apply below_drew1 | refine below_set ?_ GE224.out) | exact HB.out)) hb); clear BK224; clear HB; have BK224 := n0_; have HB := n1_; clear n0_ n1_; (try clear hb); (try clear hb2); (try clear hk); (try clear hi)))
            go_ret
            exact ⟨by first | rfl | (simp [errW_none, errW_some] <;> rfl) | (simp [*, errW_none, errW_some] <;> rfl), by repeat (first | (with_reducible first | exact HB.out | apply below_alloc | apply pw_below_drewN | apply below_drew1 | refine below_set ?_ GE224.out) | exact HB.out)⟩
          · rw [if_neg c7] at H
            have c7b0 : (((rd_T119 l0 a1).f2) == (wrap64 (a1 - 1))) = false := beq_eq_false_iff_ne.mpr c7
            have c7b1 : (((rd_T119 l0 a1).f2) != (wrap64 (a1 - 1))) = true := bne_iff_ne.mpr c7
            obtain rfl := Option.some.inj H
            have p223 : 0 ≤ (a1 : Int) := of_decide_eq_true (by first | (with_reducible assumption) | assumption)
            have q223 : a1 < (l0.length : Int) := of_decide_eq_true (by first | (with_reducible assumption) | assumption)
            obtain ⟨ad223, e223, hx223_0, hx223_1, hx223_2, hx223_3⟩ := at_T119 HR0.out a1 p223 q223
            cases e223
            replace p223 := eq_true p223
            replace q223 := eq_true q223
            go_enter Try.func92, Try.ntmps92
            go_wp2_with (first | ((with_reducible refine gate_dst (N := 5) rfl ?_); refine box_event ?hg (N := 5) ?hd (cs := #[.int .i64 0, .string (⟨#[]⟩ : ByteArray), .int .i64 0, .int .i64 0]) (t := 119) ?hr ?_; (case hd => rfl); (case hg => rfl); (case hr => first | (go_simp; done) | (go_simp; rfl)); intro gb224 hg w12 hbox hb; have n0_ := Aside0.mk (below_step (by repeat (first | (with_reducible first | exact HB.out | apply below_alloc | apply pw_below_drewN | apply below_drew1) | exact HB.out)) hb); have n1_ := Aside0.mk (hbox); have n2_ := Aside0.mk ((by rw [hg]; exact (below_size (by repeat (first | (with_reducible first | exact HB.out | apply below_alloc | apply pw_below_drewN | apply below_drew1) | exact HB.out))) : w.heap.size ≤ gb224)); have n3_ := Aside0.mk ((by rw [hg]; exact (below_size (by repeat (first | (with_reducible first | exact HB.out | apply below_alloc | apply pw_below_drewN | apply below_drew1) | exact HB.out))) : w.heap.size ≤ gb224)); clear HB; have HB := n0_; have BK224 := n1_; have GW224 := n2_; have GE224 := n3_; clear n0_ n1_ n2_ n3_; clear hb hbox hg; have hcz13_0 : w12.cell? ⟨gb224, 0, none⟩ = some (.int .i64 0) := (blk_cell BK224.out 0).trans rfl; have hcz13_1 : w12.cell? ⟨gb224, 1, none⟩ = some (.string (⟨#[]⟩ : ByteArray)) := (blk_cell BK224.out 1).trans rfl; have hcz13_2 : w12.cell? ⟨gb224, 2, none⟩ = some (.int .i64 0) := (blk_cell BK224.out 2).trans rfl; have hcz13_3 : w12.cell? ⟨gb224, 3, none⟩ = some (.int .i64 0) := (blk_cell BK224.out 3).trans rfl; have hfz13_0 := blk_frozen BK224.out 0; have hfz13_1 := blk_frozen BK224.out 1; have hfz13_2 := blk_frozen BK224.out 2; have hfz13_3 := blk_frozen BK224.out 3))
            go_ret
            exact ⟨by first | rfl | (simp [errW_none, errW_some] <;> rfl) | (simp [*, errW_none, errW_some] <;> rfl), by repeat (first | (with_reducible first | exact HB.out | apply below_alloc | apply pw_below_drewN | apply below_drew1 | refine below_set ?_ GE224.out) | exact HB.out)⟩
        · rw [if_neg c6] at H
          have c6b0 : (((rd_T119 l0 a1).f0) == 4) = false := beq_eq_false_iff_ne.mpr c6
          have c6b1 : (((rd_T119 l0 a1).f0) != 4) = true := bne_iff_ne.mpr c6
          have HC14 := Aside0.mk H
          clear H
          have p223 : 0 ≤ (a1 : Int) := of_decide_eq_true (by first | (with_reducible assumption) | assumption)
          have q223 : a1 < (l0.length : Int) := of_decide_eq_true (by first | (with_reducible assumption) | assumption)
          obtain ⟨ad223, e223, hx223_0, hx223_1, hx223_2, hx223_3⟩ := at_T119 HR0.out a1 p223 q223
          cases e223
          replace p223 := eq_true p223
          replace q223 := eq_true q223
          go_enter Try.func92, Try.ntmps92
          go_upto_if 26 with (first | ((with_reducible refine gate_dst (N := 5) rfl ?_); refine box_event ?hg (N := 5) ?hd (cs := #[.int .i64 0, .string (⟨#[]⟩ : ByteArray), .int .i64 0, .int .i64 0]) (t := 119) ?hr ?_; (case hd => rfl); (case hg => rfl); (case hr => first | (go_simp; done) | (go_simp; rfl)); intro gb224 hg w15 hbox hb; have n0_ := Aside0.mk (below_step (by repeat (first | (with_reducible first | exact HB.out | apply below_alloc | apply pw_below_drewN | apply below_drew1) | exact HB.out)) hb); have n1_ := Aside0.mk (hbox); have n2_ := Aside0.mk ((by rw [hg]; exact (below_size (by repeat (first | (with_reducible first | exact HB.out | apply below_alloc | apply pw_below_drewN | apply below_drew1) | exact HB.out))) : w.heap.size ≤ gb224)); have n3_ := Aside0.mk ((by rw [hg]; exact (below_size (by repeat (first | (with_reducible first | exact HB.out | apply below_alloc | apply pw_below_drewN | apply below_drew1) | exact HB.out))) : w.heap.size ≤ gb224)); clear HB; have HB := n0_; have BK224 := n1_; have GW224 := n2_; have GE224 := n3_; clear n0_ n1_ n2_ n3_; clear hb hbox hg; have hcz16_0 : w15.cell? ⟨gb224, 0, none⟩ = some (.int .i64 0) := (blk_cell BK224.out 0).trans rfl; have hcz16_1 : w15.cell? ⟨gb224, 1, none⟩ = some (.string (⟨#[]⟩ : ByteArray)) := (blk_cell BK224.out 1).trans rfl; have hcz16_2 : w15.cell? ⟨gb224, 2, none⟩ = some (.int .i64 0) := (blk_cell BK224.out 2).trans rfl; have hcz16_3 : w15.cell? ⟨gb224, 3, none⟩ = some (.int .i64 0) := (blk_cell BK224.out 3).trans rfl; have hfz16_0 := blk_frozen BK224.out 0; have hfz16_1 := blk_frozen BK224.out 1; have hfz16_2 := blk_frozen BK224.out 2; have hfz16_3 := blk_frozen BK224.out 3))
          (try simp only [Act.put, List.setIfInBounds_toArray, List.set_cons_zero, List.set_cons_succ])
          go_cut [26] (fun v26 wc => ∃ (kq : Nat) (x26_13 : Bool), v26 = .bool x26_13 ∧ Aside0 (gridhallref4_span.j0 kq l0 a1 x26_13 ((rd_T119 l0 a1).f0) ((rd_T119 l0 a1).f1) ((rd_T119 l0 a1).f2) ((rd_T119 l0 a1).f3) = some r) ∧ Aside0 (kq ≤ k) ∧ Aside0 (wc.heap[gb224]? = some (.cells #[.int .i64 ((rd_T119 l0 a1).f0), .string ((rd_T119 l0 a1).f1), .int .i64 ((rd_T119 l0 a1).f2), .int .i64 ((rd_T119 l0 a1).f3)] 119 (0, 0))) ∧ Aside0 (Below w.heap.size w wc))
          case first =>
            have H := HC14.out
            clear HC14
            by_cases c17 : ((rd_T119 l0 a1).f0) = 5
            · rw [if_pos c17] at H
              have c17b0 : (((rd_T119 l0 a1).f0) == 5) = true := beq_iff_eq.mpr c17
              have c17b1 : (((rd_T119 l0 a1).f0) != 5) = false := bne_eq_false_iff_eq.mpr c17
              clear c17
              (first | rw [c17b0] | (simp only [i64_w, i32_w]; rw [c17b0]) | skip)
              have H' := Aside0.mk H
              clear H
              go_wp2
              go_meet
              case rel => exact ⟨_, ((((rd_T119 l0 a1).f0) == 5)), (by first | rfl | (simp; done) | (simp [*]; done)), H', ⟨by first | omega | exact Nat.le_refl _⟩, ⟨by (with_reducible repeat (first | refine blk_drewN ?_ _ | refine blk_drew ?_ | refine blk_alloc ?_ _)); refine blk_put (cs := #[.int .i64 ((rd_T119 l0 a1).f0), .string ((rd_T119 l0 a1).f1), .int .i64 ((rd_T119 l0 a1).f2), .int .i64 0]) ?_ 3 _ rfl; (with_reducible repeat (first | refine blk_drewN ?_ _ | refine blk_drew ?_ | refine blk_alloc ?_ _)); refine blk_put (cs := #[.int .i64 ((rd_T119 l0 a1).f0), .string ((rd_T119 l0 a1).f1), .int .i64 0, .int .i64 0]) ?_ 2 _ rfl; (with_reducible repeat (first | refine blk_drewN ?_ _ | refine blk_drew ?_ | refine blk_alloc ?_ _)); refine blk_put (cs := #[.int .i64 ((rd_T119 l0 a1).f0), .string (⟨#[]⟩ : ByteArray), .int .i64 0, .int .i64 0]) ?_ 1 _ rfl; (with_reducible repeat (first | refine blk_drewN ?_ _ | refine blk_drew ?_ | refine blk_alloc ?_ _)); refine blk_put (cs := #[.int .i64 0, .string (⟨#[]⟩ : ByteArray), .int .i64 0, .int .i64 0]) ?_ 0 _ rfl; (with_reducible repeat (first | refine blk_drewN ?_ _ | refine blk_drew ?_ | refine blk_alloc ?_ _)); exact BK224.out⟩, ⟨by repeat (first | (with_reducible first | exact HB.out | apply below_alloc | apply pw_below_drewN | apply below_drew1 | refine below_set ?_ GE224.out) | exact HB.out)⟩⟩
            · rw [if_neg c17] at H
              have c17b0 : (((rd_T119 l0 a1).f0) == 5) = false := beq_eq_false_iff_ne.mpr c17
              have c17b1 : (((rd_T119 l0 a1).f0) != 5) = true := bne_iff_ne.mpr c17
              (first | rw [c17b0] | (simp only [i64_w, i32_w]; rw [c17b0]) | skip)
              have H' := Aside0.mk H
              clear H
              go_wp2
              go_meet
              case rel => exact ⟨_, ((((rd_T119 l0 a1).f0) == 6)), (by first | rfl | (simp; done) | (simp [*]; done)), H', ⟨by first | omega | exact Nat.le_refl _⟩, ⟨by (with_reducible repeat (first | refine blk_drewN ?_ _ | refine blk_drew ?_ | refine blk_alloc ?_ _)); refine blk_put (cs := #[.int .i64 ((rd_T119 l0 a1).f0), .string ((rd_T119 l0 a1).f1), .int .i64 ((rd_T119 l0 a1).f2), .int .i64 0]) ?_ 3 _ rfl; (with_reducible repeat (first | refine blk_drewN ?_ _ | refine blk_drew ?_ | refine blk_alloc ?_ _)); refine blk_put (cs := #[.int .i64 ((rd_T119 l0 a1).f0), .string ((rd_T119 l0 a1).f1), .int .i64 0, .int .i64 0]) ?_ 2 _ rfl; (with_reducible repeat (first | refine blk_drewN ?_ _ | refine blk_drew ?_ | refine blk_alloc ?_ _)); refine blk_put (cs := #[.int .i64 ((rd_T119 l0 a1).f0), .string (⟨#[]⟩ : ByteArray), .int .i64 0, .int .i64 0]) ?_ 1 _ rfl; (with_reducible repeat (first | refine blk_drewN ?_ _ | refine blk_drew ?_ | refine blk_alloc ?_ _)); refine blk_put (cs := #[.int .i64 0, .string (⟨#[]⟩ : ByteArray), .int .i64 0, .int .i64 0]) ?_ 0 _ rfl; (with_reducible repeat (first | refine blk_drewN ?_ _ | refine blk_drew ?_ | refine blk_alloc ?_ _)); exact BK224.out⟩, ⟨by repeat (first | (with_reducible first | exact HB.out | apply below_alloc | apply pw_below_drewN | apply below_drew1 | refine below_set ?_ GE224.out) | exact HB.out)⟩⟩
          case rest =>
            clear HC14
            try clear c1
            try clear p2
            try clear q2
            try clear hx2
            try clear c3
            try clear c3b0
            try clear c4
            try clear c4b0
            try clear c5
            try clear c5b0
            try clear c6
            try clear c6b0
            try clear c6b1
            try clear p6
            try clear c7
            try clear c7b0
            try clear c7b1
            try clear c9
            try clear c17
            try clear c17b0
            try clear c17b1
            try clear hcz10_0
            try clear hcz10_1
            try clear hcz10_2
            try clear hcz10_3
            try clear hcz13_0
            try clear hcz13_1
            try clear hcz13_2
            try clear hcz13_3
            try clear hcz16_0
            try clear hcz16_1
            try clear hcz16_2
            try clear hcz16_3
            try clear hfz10_0
            try clear hfz10_1
            try clear hfz10_2
            try clear hfz10_3
            try clear hfz13_0
            try clear hfz13_1
            try clear hfz13_2
            try clear hfz13_3
            try clear hfz16_0
            try clear hfz16_1
            try clear hfz16_2
            try clear hfz16_3
            try clear hx223_0
            try clear hx223_1
            try clear hx223_2
            try clear hx223_3
            try clear p223
            try clear q223
            obtain ⟨kq, x26_13, rfl, HA, HJ13, BK224, HB⟩ := hcut
            cases kq with
            | zero => exact absurd HA.out (by simp [gridhallref4_span.j0])
            | succ kj13 =>
              have H := HA.out
              clear HA
              simp only [gridhallref4_span.j0] at H
              by_cases c18 : x26_13 = true
              · subst c18
                have H1 : (if ((rd_T119 l0 a1).f3) = (wrap64 (a1 - 1)) then ((gridhallref4_span.f kj13 l0 ((rd_T119 l0 a1).f3)).bind fun t226 => (if t226 < 1 then (some (-1)) else (if ((rd_T119 l0 a1).f2) = (wrap64 (t226 - 1)) then ((gridhallref4_span.f kj13 l0 ((rd_T119 l0 a1).f2)).bind fun t227 => (some t227)) else (some (-1))))) else (some (-1))) = some r := by rw [if_pos rfl] at H; exact H
                clear H
                have H := H1
                clear H1
                by_cases c19 : ((rd_T119 l0 a1).f3) = (wrap64 (a1 - 1))
                · rw [if_pos c19] at H
                  have c19b0 : (((rd_T119 l0 a1).f3) == (wrap64 (a1 - 1))) = true := beq_iff_eq.mpr c19
                  have c19b1 : (((rd_T119 l0 a1).f3) != (wrap64 (a1 - 1))) = false := bne_eq_false_iff_eq.mpr c19
                  clear c19
                  replace H := Option.bind_eq_some_iff.mp H
                  obtain ⟨t226, A200, H⟩ := H
                  replace H : (if t226 < 1 then (some (-1)) else (if ((rd_T119 l0 a1).f2) = (wrap64 (t226 - 1)) then ((gridhallref4_span.f kj13 l0 ((rd_T119 l0 a1).f2)).bind fun t227 => (some t227)) else (some (-1)))) = some r := H
                  have A20 := Aside0.mk A200
                  clear A200
                  by_cases c21 : t226 < 1
                  · rw [if_pos c21] at H
                    have c21b0 : decide (t226 < 1) = true := decide_eq_true c21
                    clear c21
                    obtain rfl := Option.some.inj H
                    have hcz22_0 : wc.cell? ⟨gb224, 0, none⟩ = some (.int .i64 ((rd_T119 l0 a1).f0)) := (blk_cell BK224.out 0).trans rfl
                    have hcz22_1 : wc.cell? ⟨gb224, 1, none⟩ = some (.string ((rd_T119 l0 a1).f1)) := (blk_cell BK224.out 1).trans rfl
                    have hcz22_2 : wc.cell? ⟨gb224, 2, none⟩ = some (.int .i64 ((rd_T119 l0 a1).f2)) := (blk_cell BK224.out 2).trans rfl
                    have hcz22_3 : wc.cell? ⟨gb224, 3, none⟩ = some (.int .i64 ((rd_T119 l0 a1).f3)) := (blk_cell BK224.out 3).trans rfl
                    have hfz22_0 := blk_frozen BK224.out 0
                    have hfz22_1 := blk_frozen BK224.out 1
                    have hfz22_2 := blk_frozen BK224.out 2
                    have hfz22_3 := blk_frozen BK224.out 3
                    go_wp2_with (first | ((with_reducible refine gate_callee (f := 92) rfl ?_); refine goesL_ (some 37) rfl rfl Try.func92 (by kernel_rfl) rfl #[.slice (some ad223) l0.length c0, .int .i64 ((rd_T119 l0 a1).f3)] rfl (by (try simp only [List.map_toArray, List.map_cons, List.map_nil]); first | done | rfl | (simp only [List.length_drop, List.length_take]; rfl)) ?_; (with_reducible refine (ih kj13 (by have := HJ13.out; omega) _ _ l0 ((rd_T119 l0 a1).f3) t226 _ ?side1 ?side2 A20.out).mono ?_); (case side1 => repeat (first | exact (Kd.C_below HR0.out HB.out) | (with_reducible refine Kd.C_alloc ?_ _) | (with_reducible refine Kd.C_drewN ?_ _) | (with_reducible refine Kd.C_drew ?_))); (case side2 => exact HC0.out); rintro e w23 ⟨rfl, hb⟩; refine ⟨_, rfl, ?_⟩; have n0_ := Aside0.mk (blk_below (g := gb224) (o := .cells #[.int .i64 ((rd_T119 l0 a1).f0), .string ((rd_T119 l0 a1).f1), .int .i64 ((rd_T119 l0 a1).f2), .int .i64 ((rd_T119 l0 a1).f3)] 119 (0, 0)) (by (with_reducible repeat (first | refine blk_drewN ?_ _ | refine blk_drew ?_ | refine blk_alloc ?_ _)); exact BK224.out) hb); have n1_ := Aside0.mk (below_step (by repeat (first | (with_reducible first | exact HB.out | apply below_alloc | apply pw_below_drewN | apply below_drew1 | refine below_set ?_ GE224.out) | exact HB.out)) hb); clear BK224; clear HB; have BK224 := n0_; have HB := n1_; clear n0_ n1_; (try clear hb); (try clear hb2); (try clear hk); (try clear hi)))
                    go_ret
                    exact ⟨by first | rfl | (simp [errW_none, errW_some] <;> rfl) | (simp [*, errW_none, errW_some] <;> rfl), by repeat (first | (with_reducible first | exact HB.out | apply below_alloc | apply pw_below_drewN | apply below_drew1 | refine below_set ?_ GE224.out) | exact HB.out)⟩
                  · rw [if_neg c21] at H
                    have c21b0 : decide (t226 < 1) = false := decide_eq_false c21
                    clear c21
                    by_cases c24 : ((rd_T119 l0 a1).f2) = (wrap64 (t226 - 1))
                    · rw [if_pos c24] at H
                      have c24b0 : (((rd_T119 l0 a1).f2) == (wrap64 (t226 - 1))) = true := beq_iff_eq.mpr c24
                      have c24b1 : (((rd_T119 l0 a1).f2) != (wrap64 (t226 - 1))) = false := bne_eq_false_iff_eq.mpr c24
                      clear c24
                      replace H := Option.bind_eq_some_iff.mp H
                      obtain ⟨t227, A250, H⟩ := H
                      replace H : (some t227) = some r := H
                      have A25 := Aside0.mk A250
                      clear A250
                      obtain rfl := Option.some.inj H
                      have hcz26_0 : wc.cell? ⟨gb224, 0, none⟩ = some (.int .i64 ((rd_T119 l0 a1).f0)) := (blk_cell BK224.out 0).trans rfl
                      have hcz26_1 : wc.cell? ⟨gb224, 1, none⟩ = some (.string ((rd_T119 l0 a1).f1)) := (blk_cell BK224.out 1).trans rfl
                      have hcz26_2 : wc.cell? ⟨gb224, 2, none⟩ = some (.int .i64 ((rd_T119 l0 a1).f2)) := (blk_cell BK224.out 2).trans rfl
                      have hcz26_3 : wc.cell? ⟨gb224, 3, none⟩ = some (.int .i64 ((rd_T119 l0 a1).f3)) := (blk_cell BK224.out 3).trans rfl
                      have hfz26_0 := blk_frozen BK224.out 0
                      have hfz26_1 := blk_frozen BK224.out 1
                      have hfz26_2 := blk_frozen BK224.out 2
                      have hfz26_3 := blk_frozen BK224.out 3
                      go_wp2_with (first | ((with_reducible refine gate_callee (f := 92) rfl ?_); refine goesL_ (some 37) rfl rfl Try.func92 (by kernel_rfl) rfl #[.slice (some ad223) l0.length c0, .int .i64 ((rd_T119 l0 a1).f3)] rfl (by (try simp only [List.map_toArray, List.map_cons, List.map_nil]); first | done | rfl | (simp only [List.length_drop, List.length_take]; rfl)) ?_; (with_reducible refine (ih kj13 (by have := HJ13.out; omega) _ _ l0 ((rd_T119 l0 a1).f3) t226 _ ?side1 ?side2 A20.out).mono ?_); (case side1 => repeat (first | exact (Kd.C_below HR0.out HB.out) | (with_reducible refine Kd.C_alloc ?_ _) | (with_reducible refine Kd.C_drewN ?_ _) | (with_reducible refine Kd.C_drew ?_))); (case side2 => exact HC0.out); rintro e w27 ⟨rfl, hb⟩; refine ⟨_, rfl, ?_⟩; have n0_ := Aside0.mk (blk_below (g := gb224) (o := .cells #[.int .i64 ((rd_T119 l0 a1).f0), .string ((rd_T119 l0 a1).f1), .int .i64 ((rd_T119 l0 a1).f2), .int .i64 ((rd_T119 l0 a1).f3)] 119 (0, 0)) (by (with_reducible repeat (first | refine blk_drewN ?_ _ | refine blk_drew ?_ | refine blk_alloc ?_ _)); exact BK224.out) hb); have n1_ := Aside0.mk (below_step (by repeat (first | (with_reducible first | exact HB.out | apply below_alloc | apply pw_below_drewN | apply below_drew1 | refine below_set ?_ GE224.out) | exact HB.out)) hb); clear BK224; clear HB; have BK224 := n0_; have HB := n1_; clear n0_ n1_; (try clear hb); (try clear hb2); (try clear hk); (try clear hi); have hcz28_0 : w27.cell? ⟨gb224, 0, none⟩ = some (.int .i64 ((rd_T119 l0 a1).f0)) := (blk_cell BK224.out 0).trans rfl; have hcz28_1 : w27.cell? ⟨gb224, 1, none⟩ = some (.string ((rd_T119 l0 a1).f1)) := (blk_cell BK224.out 1).trans rfl; have hcz28_2 : w27.cell? ⟨gb224, 2, none⟩ = some (.int .i64 ((rd_T119 l0 a1).f2)) := (blk_cell BK224.out 2).trans rfl; have hcz28_3 : w27.cell? ⟨gb224, 3, none⟩ = some (.int .i64 ((rd_T119 l0 a1).f3)) := (blk_cell BK224.out 3).trans rfl; have hfz28_0 := blk_frozen BK224.out 0; have hfz28_1 := blk_frozen BK224.out 1; have hfz28_2 := blk_frozen BK224.out 2; have hfz28_3 := blk_frozen BK224.out 3) | ((with_reducible refine gate_callee (f := 92) rfl ?_); refine goesL_ (some 50) rfl rfl Try.func92 (by kernel_rfl) rfl #[.slice (some ad223) l0.length c0, .int .i64 ((rd_T119 l0 a1).f2)] rfl (by (try simp only [List.map_toArray, List.map_cons, List.map_nil]); first | done | rfl | (simp only [List.length_drop, List.length_take]; rfl)) ?_; (with_reducible refine (ih kj13 (by have := HJ13.out; omega) _ _ l0 ((rd_T119 l0 a1).f2) t227 _ ?side1 ?side2 A25.out).mono ?_); (case side1 => repeat (first | exact (Kd.C_below HR0.out HB.out) | (with_reducible refine Kd.C_alloc ?_ _) | (with_reducible refine Kd.C_drewN ?_ _) | (with_reducible refine Kd.C_drew ?_))); (case side2 => exact HC0.out); rintro e w29 ⟨rfl, hb⟩; refine ⟨_, rfl, ?_⟩; have n0_ := Aside0.mk (blk_below (g := gb224) (o := .cells #[.int .i64 ((rd_T119 l0 a1).f0), .string ((rd_T119 l0 a1).f1), .int .i64 ((rd_T119 l0 a1).f2), .int .i64 ((rd_T119 l0 a1).f3)] 119 (0, 0)) (by (with_reducible repeat (first | refine blk_drewN ?_ _ | refine blk_drew ?_ | refine blk_alloc ?_ _)); exact BK224.out) hb); have n1_ := Aside0.mk (below_step (by repeat (first | (with_reducible first | exact HB.out | apply below_alloc | apply pw_below_drewN | apply below_drew1 | refine below_set ?_ GE224.out) | exact HB.out)) hb); clear BK224; clear HB; have BK224 := n0_; have HB := n1_; clear n0_ n1_; (try clear hb); (try clear hb2); (try clear hk); (try clear hi)))
                      go_ret
                      exact ⟨by first | rfl | (simp [errW_none, errW_some] <;> rfl) | (simp [*, errW_none, errW_some] <;> rfl), by repeat (first | (with_reducible first | exact HB.out | apply below_alloc | apply pw_below_drewN | apply below_drew1 | refine below_set ?_ GE224.out) | exact HB.out)⟩
                    · rw [if_neg c24] at H
                      have c24b0 : (((rd_T119 l0 a1).f2) == (wrap64 (t226 - 1))) = false := beq_eq_false_iff_ne.mpr c24
                      have c24b1 : (((rd_T119 l0 a1).f2) != (wrap64 (t226 - 1))) = true := bne_iff_ne.mpr c24
                      obtain rfl := Option.some.inj H
                      have hcz30_0 : wc.cell? ⟨gb224, 0, none⟩ = some (.int .i64 ((rd_T119 l0 a1).f0)) := (blk_cell BK224.out 0).trans rfl
                      have hcz30_1 : wc.cell? ⟨gb224, 1, none⟩ = some (.string ((rd_T119 l0 a1).f1)) := (blk_cell BK224.out 1).trans rfl
                      have hcz30_2 : wc.cell? ⟨gb224, 2, none⟩ = some (.int .i64 ((rd_T119 l0 a1).f2)) := (blk_cell BK224.out 2).trans rfl
                      have hcz30_3 : wc.cell? ⟨gb224, 3, none⟩ = some (.int .i64 ((rd_T119 l0 a1).f3)) := (blk_cell BK224.out 3).trans rfl
                      have hfz30_0 := blk_frozen BK224.out 0
                      have hfz30_1 := blk_frozen BK224.out 1
                      have hfz30_2 := blk_frozen BK224.out 2
                      have hfz30_3 := blk_frozen BK224.out 3
                      go_wp2_with (first | ((with_reducible refine gate_callee (f := 92) rfl ?_); refine goesL_ (some 37) rfl rfl Try.func92 (by kernel_rfl) rfl #[.slice (some ad223) l0.length c0, .int .i64 ((rd_T119 l0 a1).f3)] rfl (by (try simp only [List.map_toArray, List.map_cons, List.map_nil]); first | done | rfl | (simp only [List.length_drop, List.length_take]; rfl)) ?_; (with_reducible refine (ih kj13 (by have := HJ13.out; omega) _ _ l0 ((rd_T119 l0 a1).f3) t226 _ ?side1 ?side2 A20.out).mono ?_); (case side1 => repeat (first | exact (Kd.C_below HR0.out HB.out) | (with_reducible refine Kd.C_alloc ?_ _) | (with_reducible refine Kd.C_drewN ?_ _) | (with_reducible refine Kd.C_drew ?_))); (case side2 => exact HC0.out); rintro e w31 ⟨rfl, hb⟩; refine ⟨_, rfl, ?_⟩; have n0_ := Aside0.mk (blk_below (g := gb224) (o := .cells #[.int .i64 ((rd_T119 l0 a1).f0), .string ((rd_T119 l0 a1).f1), .int .i64 ((rd_T119 l0 a1).f2), .int .i64 ((rd_T119 l0 a1).f3)] 119 (0, 0)) (by (with_reducible repeat (first | refine blk_drewN ?_ _ | refine blk_drew ?_ | refine blk_alloc ?_ _)); exact BK224.out) hb); have n1_ := Aside0.mk (below_step (by repeat (first | (with_reducible first | exact HB.out | apply below_alloc | apply pw_below_drewN | apply below_drew1 | refine below_set ?_ GE224.out) | exact HB.out)) hb); clear BK224; clear HB; have BK224 := n0_; have HB := n1_; clear n0_ n1_; (try clear hb); (try clear hb2); (try clear hk); (try clear hi); have hcz32_0 : w31.cell? ⟨gb224, 0, none⟩ = some (.int .i64 ((rd_T119 l0 a1).f0)) := (blk_cell BK224.out 0).trans rfl; have hcz32_1 : w31.cell? ⟨gb224, 1, none⟩ = some (.string ((rd_T119 l0 a1).f1)) := (blk_cell BK224.out 1).trans rfl; have hcz32_2 : w31.cell? ⟨gb224, 2, none⟩ = some (.int .i64 ((rd_T119 l0 a1).f2)) := (blk_cell BK224.out 2).trans rfl; have hcz32_3 : w31.cell? ⟨gb224, 3, none⟩ = some (.int .i64 ((rd_T119 l0 a1).f3)) := (blk_cell BK224.out 3).trans rfl; have hfz32_0 := blk_frozen BK224.out 0; have hfz32_1 := blk_frozen BK224.out 1; have hfz32_2 := blk_frozen BK224.out 2; have hfz32_3 := blk_frozen BK224.out 3))
                      go_ret
                      exact ⟨by first | rfl | (simp [errW_none, errW_some] <;> rfl) | (simp [*, errW_none, errW_some] <;> rfl), by repeat (first | (with_reducible first | exact HB.out | apply below_alloc | apply pw_below_drewN | apply below_drew1 | refine below_set ?_ GE224.out) | exact HB.out)⟩
                · rw [if_neg c19] at H
                  have c19b0 : (((rd_T119 l0 a1).f3) == (wrap64 (a1 - 1))) = false := beq_eq_false_iff_ne.mpr c19
                  have c19b1 : (((rd_T119 l0 a1).f3) != (wrap64 (a1 - 1))) = true := bne_iff_ne.mpr c19
                  obtain rfl := Option.some.inj H
                  have hcz33_0 : wc.cell? ⟨gb224, 0, none⟩ = some (.int .i64 ((rd_T119 l0 a1).f0)) := (blk_cell BK224.out 0).trans rfl
                  have hcz33_1 : wc.cell? ⟨gb224, 1, none⟩ = some (.string ((rd_T119 l0 a1).f1)) := (blk_cell BK224.out 1).trans rfl
                  have hcz33_2 : wc.cell? ⟨gb224, 2, none⟩ = some (.int .i64 ((rd_T119 l0 a1).f2)) := (blk_cell BK224.out 2).trans rfl
                  have hcz33_3 : wc.cell? ⟨gb224, 3, none⟩ = some (.int .i64 ((rd_T119 l0 a1).f3)) := (blk_cell BK224.out 3).trans rfl
                  have hfz33_0 := blk_frozen BK224.out 0
                  have hfz33_1 := blk_frozen BK224.out 1
                  have hfz33_2 := blk_frozen BK224.out 2
                  have hfz33_3 := blk_frozen BK224.out 3
                  go_wp2
                  go_ret
                  exact ⟨by first | rfl | (simp [errW_none, errW_some] <;> rfl) | (simp [*, errW_none, errW_some] <;> rfl), by repeat (first | (with_reducible first | exact HB.out | apply below_alloc | apply pw_below_drewN | apply below_drew1 | refine below_set ?_ GE224.out) | exact HB.out)⟩
              · replace c18 := Bool.eq_false_iff.mpr c18
                subst c18
                have H1 : (some a1) = some r := by rw [if_neg (show ¬ (false = true) by decide)] at H; exact H
                clear H
                have H := H1
                clear H1
                obtain rfl := Option.some.inj H
                go_wp2
                go_ret
                exact ⟨by first | rfl | (simp [errW_none, errW_some] <;> rfl) | (simp [*, errW_none, errW_some] <;> rfl), by repeat (first | (with_reducible first | exact HB.out | apply below_alloc | apply pw_below_drewN | apply below_drew1 | refine below_set ?_ GE224.out) | exact HB.out)⟩
      · rw [if_neg c5] at H
        exact absurd H (by simp)
    · rw [if_neg c4] at H
      exact absurd H (by simp)

end Go.Proofs.Ytielinaielicbaa.PInterlockSays
