/- Contracts of functions that InterlockSays reaches, a text of this session's own. -/
import Derived.Test.YtielinaielicbaaHInterlockSaysy0
import Derived.Test.YtielinaielicbaaHInterlockSaysy5
import Derived.Test.YtielinaielicbaaHInterlockSaysy6
namespace Go.Proofs.Ytielinaielicbaa.PInterlockSays
open Go.RowKit Go.Proofs.YtielinaielicbaaW.PrintWords Go.Proofs.YtielinaielicbaaW.PrintLast Go.Proofs.YtielinaielicbaaW.PrintMore
attribute [local go_sem] max2_int min2_int max_two min_two max_three min_three max_four min_four   -- for this text's walks alone
set_option linter.unusedVariables false
set_option linter.unusedSimpArgs false

/-! ### gridhallref4_ConditionError: function 71 -/
mutual
def gridhallref4_ConditionError.l0 : Nat → List (S119) → List (S119) → Int → Int → Option (Int)
  | 0, _, _, _, _ => none
  | k + 1, x0, x13, x14, x15 => if x15 < x14 then (if 0 ≤ x15 then (if x15 < (x13.length : Int) then ((some (([0, 0, 0, 0, 1, 2, 2] : List Int) : List Int)).bind fun y231 => (if ((rd_T119 x13 x15).f0) < 0 then (gridhallref4_ConditionError.j1 k x0 x15 y231 x13 x14 x15 true ((rd_T119 x13 x15).f0) ((rd_T119 x13 x15).f1) ((rd_T119 x13 x15).f2) ((rd_T119 x13 x15).f3)) else (gridhallref4_ConditionError.j1 k x0 x15 y231 x13 x14 x15 (decide (((rd_T119 x13 x15).f0) > 6)) ((rd_T119 x13 x15).f0) ((rd_T119 x13 x15).f1) ((rd_T119 x13 x15).f2) ((rd_T119 x13 x15).f3)))) else (none)) else (none)) else ((gridhallref4_span.f k x0 (wrap64 ((x0.length : Int) - 1))).bind fun t228 => (if t228 = 0 then (some 0) else (some 3)))
def gridhallref4_ConditionError.j1 : Nat → List (S119) → Int → List Int → List (S119) → Int → Int → Bool → Int → ByteArray → Int → Int → Option (Int)
  | 0, _, _, _, _, _, _, _, _, _, _, _ => none
  | k + 1, x0, x3, x5, x13, x14, x15, x28, x231000, x231001, x231002, x231003 => if x28 = true then (some 1) else (if x231000 = 2 then (gridhallref4_ConditionError.j2 k x0 x3 x5 true x13 x14 x15 x231000 x231001 x231002 x231003) else (gridhallref4_ConditionError.j2 k x0 x3 x5 (x231000 == 3) x13 x14 x15 x231000 x231001 x231002 x231003))
def gridhallref4_ConditionError.j2 : Nat → List (S119) → Int → List Int → Bool → List (S119) → Int → Int → Int → ByteArray → Int → Int → Option (Int)
  | 0, _, _, _, _, _, _, _, _, _, _, _ => none
  | k + 1, x0, x3, x5, x6, x13, x14, x15, x231000, x231001, x231002, x231003 => if x6 = true then ((gridhallref4_Named.f k x231001).bind fun t234 => (gridhallref4_ConditionError.j3 k x0 x3 x5 x6 x13 x14 x15 (!t234) x231000 x231001 x231002 x231003)) else (gridhallref4_ConditionError.j3 k x0 x3 x5 x6 x13 x14 x15 false x231000 x231001 x231002 x231003)
def gridhallref4_ConditionError.j3 : Nat → List (S119) → Int → List Int → Bool → List (S119) → Int → Int → Bool → Int → ByteArray → Int → Int → Option (Int)
  | 0, _, _, _, _, _, _, _, _, _, _, _, _ => none
  | k + 1, x0, x3, x5, x6, x13, x14, x15, x43, x231000, x231001, x231002, x231003 => if x43 = true then (some 6) else (if x6 = true then (if 0 ≤ x231000 then (if x231000 < (x5.length : Int) then (if (rd x5 x231000) < 1 then (if x231002 = 0 then (if (rd x5 x231000) < 2 then (if x231003 = 0 then ((gridhallref4_span.f k x0 x3).bind fun t237 => (if t237 < 0 then (some 3) else (gridhallref4_ConditionError.l0 k x0 x13 x14 (wrap64 (x15 + 1))))) else (some 3)) else ((gridhallref4_span.f k x0 x3).bind fun t238 => (if t238 < 0 then (some 3) else (gridhallref4_ConditionError.l0 k x0 x13 x14 (wrap64 (x15 + 1)))))) else (some 3)) else (if (rd x5 x231000) < 2 then (if x231003 = 0 then ((gridhallref4_span.f k x0 x3).bind fun t240 => (if t240 < 0 then (some 3) else (gridhallref4_ConditionError.l0 k x0 x13 x14 (wrap64 (x15 + 1))))) else (some 3)) else ((gridhallref4_span.f k x0 x3).bind fun t241 => (if t241 < 0 then (some 3) else (gridhallref4_ConditionError.l0 k x0 x13 x14 (wrap64 (x15 + 1))))))) else (none)) else (none)) else (if x231001.toList = ([] : List UInt8) then (if 0 ≤ x231000 then (if x231000 < (x5.length : Int) then (if (rd x5 x231000) < 1 then (if x231002 = 0 then (if (rd x5 x231000) < 2 then (if x231003 = 0 then ((gridhallref4_span.f k x0 x3).bind fun t244 => (if t244 < 0 then (some 3) else (gridhallref4_ConditionError.l0 k x0 x13 x14 (wrap64 (x15 + 1))))) else (some 3)) else ((gridhallref4_span.f k x0 x3).bind fun t245 => (if t245 < 0 then (some 3) else (gridhallref4_ConditionError.l0 k x0 x13 x14 (wrap64 (x15 + 1)))))) else (some 3)) else (if (rd x5 x231000) < 2 then (if x231003 = 0 then ((gridhallref4_span.f k x0 x3).bind fun t247 => (if t247 < 0 then (some 3) else (gridhallref4_ConditionError.l0 k x0 x13 x14 (wrap64 (x15 + 1))))) else (some 3)) else ((gridhallref4_span.f k x0 x3).bind fun t248 => (if t248 < 0 then (some 3) else (gridhallref4_ConditionError.l0 k x0 x13 x14 (wrap64 (x15 + 1))))))) else (none)) else (none)) else (some 3)))
end
def gridhallref4_ConditionError.f (k : Nat) (l0 : List (S119)) : Option (Int) := if (l0.length : Int) > 40 then (some 2) else (if (l0.length : Int) = 0 then (some 3) else (gridhallref4_ConditionError.l0 k l0 l0 (l0.length : Int) 0))
theorem gridhallref4_ConditionError.mono_l : ∀ k, (∀ y0 y1 y2 y3, LeO (gridhallref4_ConditionError.l0 k y0 y1 y2 y3) (gridhallref4_ConditionError.l0 (k + 1) y0 y1 y2 y3)) ∧ (∀ y0 y1 y2 y3 y4 y5 y6 y7 y8 y9 y10, LeO (gridhallref4_ConditionError.j1 k y0 y1 y2 y3 y4 y5 y6 y7 y8 y9 y10) (gridhallref4_ConditionError.j1 (k + 1) y0 y1 y2 y3 y4 y5 y6 y7 y8 y9 y10)) ∧ (∀ y0 y1 y2 y3 y4 y5 y6 y7 y8 y9 y10, LeO (gridhallref4_ConditionError.j2 k y0 y1 y2 y3 y4 y5 y6 y7 y8 y9 y10) (gridhallref4_ConditionError.j2 (k + 1) y0 y1 y2 y3 y4 y5 y6 y7 y8 y9 y10)) ∧ (∀ y0 y1 y2 y3 y4 y5 y6 y7 y8 y9 y10 y11, LeO (gridhallref4_ConditionError.j3 k y0 y1 y2 y3 y4 y5 y6 y7 y8 y9 y10 y11) (gridhallref4_ConditionError.j3 (k + 1) y0 y1 y2 y3 y4 y5 y6 y7 y8 y9 y10 y11))
  | 0 => ⟨fun _ _ _ _ r h => by simp [gridhallref4_ConditionError.l0] at h, fun _ _ _ _ _ _ _ _ _ _ _ r h => by simp [gridhallref4_ConditionError.j1] at h, fun _ _ _ _ _ _ _ _ _ _ _ r h => by simp [gridhallref4_ConditionError.j2] at h, fun _ _ _ _ _ _ _ _ _ _ _ _ r h => by simp [gridhallref4_ConditionError.j3] at h⟩
  | k + 1 => by
    obtain ⟨ih0, ih1, ih2, ih3⟩ := gridhallref4_ConditionError.mono_l k
    refine ⟨?_, ?_, ?_, ?_⟩
    · intro y0 y1 y2 y3
      unfold gridhallref4_ConditionError.l0
      repeat' first
      | (with_reducible exact ih0 _ _ _ _)
      | (with_reducible exact ih1 _ _ _ _ _ _ _ _ _ _ _)
      | (with_reducible exact ih2 _ _ _ _ _ _ _ _ _ _ _)
      | (with_reducible exact ih3 _ _ _ _ _ _ _ _ _ _ _ _)
      | (with_reducible exact gridhallref4_Named.mono _ _)
      | (with_reducible exact gridhallref4_span.mono _ _ _)
      | (with_reducible exact LeO.refl _)
      | (with_reducible exact LeO.none _)
      | (with_reducible refine LeO.ite ?_ ?_)
      | (with_reducible refine LeO.bind ?_ (fun _ => ?_))
      | exact ih0 _ _ _ _
      | exact ih1 _ _ _ _ _ _ _ _ _ _ _
      | exact ih2 _ _ _ _ _ _ _ _ _ _ _
      | exact ih3 _ _ _ _ _ _ _ _ _ _ _ _
      | exact gridhallref4_Named.mono _ _
      | exact gridhallref4_span.mono _ _ _
      | exact LeO.none _
      | refine LeO.ite ?_ ?_
      | refine LeO.bind ?_ (fun _ => ?_)
    · intro y0 y1 y2 y3 y4 y5 y6 y7 y8 y9 y10
      unfold gridhallref4_ConditionError.j1
      repeat' first
      | (with_reducible exact ih0 _ _ _ _)
      | (with_reducible exact ih1 _ _ _ _ _ _ _ _ _ _ _)
      | (with_reducible exact ih2 _ _ _ _ _ _ _ _ _ _ _)
      | (with_reducible exact ih3 _ _ _ _ _ _ _ _ _ _ _ _)
      | (with_reducible exact gridhallref4_Named.mono _ _)
      | (with_reducible exact gridhallref4_span.mono _ _ _)
      | (with_reducible exact LeO.refl _)
      | (with_reducible exact LeO.none _)
      | (with_reducible refine LeO.ite ?_ ?_)
      | (with_reducible refine LeO.bind ?_ (fun _ => ?_))
      | exact ih0 _ _ _ _
      | exact ih1 _ _ _ _ _ _ _ _ _ _ _
      | exact ih2 _ _ _ _ _ _ _ _ _ _ _
      | exact ih3 _ _ _ _ _ _ _ _ _ _ _ _
      | exact gridhallref4_Named.mono _ _
      | exact gridhallref4_span.mono _ _ _
      | exact LeO.none _
      | refine LeO.ite ?_ ?_
      | refine LeO.bind ?_ (fun _ => ?_)
    · intro y0 y1 y2 y3 y4 y5 y6 y7 y8 y9 y10
      unfold gridhallref4_ConditionError.j2
      repeat' first
      | (with_reducible exact ih0 _ _ _ _)
      | (with_reducible exact ih1 _ _ _ _ _ _ _ _ _ _ _)
      | (with_reducible exact ih2 _ _ _ _ _ _ _ _ _ _ _)
      | (with_reducible exact ih3 _ _ _ _ _ _ _ _ _ _ _ _)
      | (with_reducible exact gridhallref4_Named.mono _ _)
      | (with_reducible exact gridhallref4_span.mono _ _ _)
      | (with_reducible exact LeO.refl _)
      | (with_reducible exact LeO.none _)
      | (with_reducible refine LeO.ite ?_ ?_)
      | (with_reducible refine LeO.bind ?_ (fun _ => ?_))
      | exact ih0 _ _ _ _
      | exact ih1 _ _ _ _ _ _ _ _ _ _ _
      | exact ih2 _ _ _ _ _ _ _ _ _ _ _
      | exact ih3 _ _ _ _ _ _ _ _ _ _ _ _
      | exact gridhallref4_Named.mono _ _
      | exact gridhallref4_span.mono _ _ _
      | exact LeO.none _
      | refine LeO.ite ?_ ?_
      | refine LeO.bind ?_ (fun _ => ?_)
    · intro y0 y1 y2 y3 y4 y5 y6 y7 y8 y9 y10 y11
      unfold gridhallref4_ConditionError.j3
      repeat' first
      | (with_reducible exact ih0 _ _ _ _)
      | (with_reducible exact ih1 _ _ _ _ _ _ _ _ _ _ _)
      | (with_reducible exact ih2 _ _ _ _ _ _ _ _ _ _ _)
      | (with_reducible exact ih3 _ _ _ _ _ _ _ _ _ _ _ _)
      | (with_reducible exact gridhallref4_Named.mono _ _)
      | (with_reducible exact gridhallref4_span.mono _ _ _)
      | (with_reducible exact LeO.refl _)
      | (with_reducible exact LeO.none _)
      | (with_reducible refine LeO.ite ?_ ?_)
      | (with_reducible refine LeO.bind ?_ (fun _ => ?_))
      | exact ih0 _ _ _ _
      | exact ih1 _ _ _ _ _ _ _ _ _ _ _
      | exact ih2 _ _ _ _ _ _ _ _ _ _ _
      | exact ih3 _ _ _ _ _ _ _ _ _ _ _ _
      | exact gridhallref4_Named.mono _ _
      | exact gridhallref4_span.mono _ _ _
      | exact LeO.none _
      | refine LeO.ite ?_ ?_
      | refine LeO.bind ?_ (fun _ => ?_)
theorem gridhallref4_ConditionError.mono : ∀ a0 k, LeO (gridhallref4_ConditionError.f k a0) (gridhallref4_ConditionError.f (k + 1) a0) := by
  intro a0 k
  obtain ⟨ih0, ih1, ih2, ih3⟩ := gridhallref4_ConditionError.mono_l k
  unfold gridhallref4_ConditionError.f
  repeat' first
      | (with_reducible exact ih0 _ _ _ _)
      | (with_reducible exact ih1 _ _ _ _ _ _ _ _ _ _ _)
      | (with_reducible exact ih2 _ _ _ _ _ _ _ _ _ _ _)
      | (with_reducible exact ih3 _ _ _ _ _ _ _ _ _ _ _ _)
      | (with_reducible exact gridhallref4_Named.mono _ _)
      | (with_reducible exact gridhallref4_span.mono _ _ _)
      | (with_reducible exact LeO.refl _)
      | (with_reducible exact LeO.none _)
      | (with_reducible refine LeO.ite ?_ ?_)
      | (with_reducible refine LeO.bind ?_ (fun _ => ?_))
      | exact ih0 _ _ _ _
      | exact ih1 _ _ _ _ _ _ _ _ _ _ _
      | exact ih2 _ _ _ _ _ _ _ _ _ _ _
      | exact ih3 _ _ _ _ _ _ _ _ _ _ _ _
      | exact gridhallref4_Named.mono _ _
      | exact gridhallref4_span.mono _ _ _
      | exact LeO.none _
      | refine LeO.ite ?_ ?_
      | refine LeO.bind ?_ (fun _ => ?_)
set_option maxHeartbeats 8000000 in
set_option maxRecDepth 100000 in
theorem gridhallref4_ConditionError.calls (k : Nat) (A0 : Option Addr) (c0 : Nat) (l0 : List (S119)) (r : Int) (w : World) (hr0 : Kd.C k119 w A0 l0.length l0) (hc0 : l0.length ≤ c0) (h : gridhallref4_ConditionError.f k l0 = some r) :
    Calls Try.prog 71 #[.slice A0 l0.length c0] w fun e w' => e = .returned (.int .i64 r) ∧ Below w.heap.size w w' := by
  have hu119 := Try.underlying119
  have HR0 := Aside0.mk hr0
  have HC0 := Aside0.mk hc0
  clear hr0 hc0
  have HB := Aside0.mk (Below.refl w.heap.size w)
  have H : (if (l0.length : Int) > 40 then (some 2) else (if (l0.length : Int) = 0 then (some 3) else (gridhallref4_ConditionError.l0 k l0 l0 (l0.length : Int) 0))) = some r := h
  clear h
  by_cases c2 : (l0.length : Int) > 40
  · rw [if_pos c2] at H
    have c2b0 : decide (40 < (l0.length : Int)) = true := decide_eq_true c2
    have c2b1 : decide (40 < l0.length) = true := decide_eq_true (by omega)
    clear c2
    obtain rfl := Option.some.inj H
    go_enter Try.func71, Try.ntmps71
    go_wp2
    go_ret
    exact ⟨by first | rfl | (simp [errW_none, errW_some] <;> rfl) | (simp [*, errW_none, errW_some] <;> rfl), by repeat (first | (with_reducible first | exact HB.out | apply below_alloc | apply pw_below_drewN | apply below_drew1) | exact HB.out)⟩
  · rw [if_neg c2] at H
    have c2b0 : decide (40 < (l0.length : Int)) = false := decide_eq_false c2
    have c2b1 : decide (40 < l0.length) = false := decide_eq_false (by omega)
    clear c2
    by_cases c3 : (l0.length : Int) = 0
    · rw [if_pos c3] at H
      have c3b0 : ((l0.length : Int) == 0) = true := beq_iff_eq.mpr c3
      have c3b1 : ((l0.length : Int) != 0) = false := bne_eq_false_iff_eq.mpr c3
      clear c3
      obtain rfl := Option.some.inj H
      go_enter Try.func71, Try.ntmps71
      go_wp2
      go_ret
      exact ⟨by first | rfl | (simp [errW_none, errW_some] <;> rfl) | (simp [*, errW_none, errW_some] <;> rfl), by repeat (first | (with_reducible first | exact HB.out | apply below_alloc | apply pw_below_drewN | apply below_drew1) | exact HB.out)⟩
    · rw [if_neg c3] at H
      have c3b0 : ((l0.length : Int) == 0) = false := beq_eq_false_iff_ne.mpr c3
      have c3b1 : ((l0.length : Int) != 0) = true := bne_iff_ne.mpr c3
      have c3b2 : ¬ (l0 = []) := fun h_ => c3 (by rw [h_]; rfl)
      have H' := Aside0.mk H
      clear H
      go_enter Try.func71, Try.ntmps71
      go_wp2
      go_loopg [15] k (fun kq v15 w' => ∃ (x15_1 : Int), v15 = .int .i64 x15_1 ∧ Aside0 (gridhallref4_ConditionError.l0 kq l0 l0 (l0.length : Int) x15_1 = some r) ∧ Aside0 (kq ≤ k) ∧ Aside0 (Below w.heap.size w w'))
      case atStart => exact ⟨(0), (by first | rfl | (simp; done) | (simp [*]; done)), H', ⟨Nat.le_refl _⟩, ⟨by repeat (first | (with_reducible first | exact HB.out | apply below_alloc | apply pw_below_drewN | apply below_drew1) | exact HB.out)⟩⟩
      case round =>
        clear H'
        try clear c2
        try clear c2b0
        try clear c2b1
        try clear p2
        try clear c3
        try clear c3b0
        try clear c3b1
        try clear c3b2
        obtain ⟨x15_1, rfl, HA, HK1, HB⟩ := hrel
        cases gk with
        | zero => exact absurd HA.out (by simp [gridhallref4_ConditionError.l0])
        | succ k1 =>
          have H := HA.out
          clear HA
          simp only [gridhallref4_ConditionError.l0] at H
          by_cases c4 : x15_1 < (l0.length : Int)
          · rw [if_pos c4] at H
            have c4b0 : decide (x15_1 < (l0.length : Int)) = true := decide_eq_true c4
            clear c4
            by_cases c5 : 0 ≤ x15_1
            · rw [if_pos c5] at H
              have c5b0 : decide (0 ≤ x15_1) = true := decide_eq_true c5
              clear c5
              by_cases c6 : x15_1 < (l0.length : Int)
              · rw [if_pos c6] at H
                have c6b0 : decide (x15_1 < (l0.length : Int)) = true := decide_eq_true c6
                clear c6
                obtain ⟨y231, hy231⟩ : ∃ y_ : List Int, y_ = (([0, 0, 0, 0, 1, 2, 2] : List Int)) := ⟨_, rfl⟩
                replace H : (if ((rd_T119 l0 x15_1).f0) < 0 then (gridhallref4_ConditionError.j1 k1 l0 x15_1 y231 l0 (l0.length : Int) x15_1 true ((rd_T119 l0 x15_1).f0) ((rd_T119 l0 x15_1).f1) ((rd_T119 l0 x15_1).f2) ((rd_T119 l0 x15_1).f3)) else (gridhallref4_ConditionError.j1 k1 l0 x15_1 y231 l0 (l0.length : Int) x15_1 (decide (((rd_T119 l0 x15_1).f0) > 6)) ((rd_T119 l0 x15_1).f0) ((rd_T119 l0 x15_1).f1) ((rd_T119 l0 x15_1).f2) ((rd_T119 l0 x15_1).f3))) = some r := by first | (rw [hy231]; with_reducible exact H) | (have H2_ := (Option.bind_some _ _).symm.trans H; rw [hy231]; with_reducible exact H2_) | (have H2_ := (Option.bind_some _ _).symm.trans H; with_reducible exact H2_) | with_reducible exact H | (rw [hy231]; exact H) | exact H
                have Ny231 := Aside0.mk hy231
                clear hy231
                have HC7 := Aside0.mk H
                clear H
                have p229 : 0 ≤ (x15_1 : Int) := of_decide_eq_true (by first | (with_reducible assumption) | assumption)
                have q229 : x15_1 < (l0.length : Int) := of_decide_eq_true (by first | (with_reducible assumption) | assumption)
                obtain ⟨ad229, e229, hx229_0, hx229_1, hx229_2, hx229_3⟩ := at_T119 HR0.out x15_1 p229 q229
                cases e229
                replace hx229_0 := (HB.out.cell (World.block_lt_of_cell? w _ hx229_0)).trans hx229_0
                replace hx229_1 := (HB.out.cell (World.block_lt_of_cell? w _ hx229_1)).trans hx229_1
                replace hx229_2 := (HB.out.cell (World.block_lt_of_cell? w _ hx229_2)).trans hx229_2
                replace hx229_3 := (HB.out.cell (World.block_lt_of_cell? w _ hx229_3)).trans hx229_3
                replace p229 := eq_true p229
                replace q229 := eq_true q229
                go_upto_region 9 with (first | ((with_reducible refine gate_dst (N := 4) rfl ?_); refine box_event ?hg (N := 4) ?hd (cs := #[.int .i64 0, .string (⟨#[]⟩ : ByteArray), .int .i64 0, .int .i64 0]) (t := 119) ?hr ?_; (case hd => rfl); (case hg => rfl); (case hr => first | (go_simp; done) | (go_simp; rfl)); intro gb230 hg w8 hbox hb; have n0_ := Aside0.mk (below_step (by repeat (first | (with_reducible first | exact HB.out | apply below_alloc | apply pw_below_drewN | apply below_drew1) | exact HB.out)) hb); have n1_ := Aside0.mk (hbox); have n2_ := Aside0.mk ((by rw [hg]; exact (below_size (by repeat (first | (with_reducible first | exact HB.out | apply below_alloc | apply pw_below_drewN | apply below_drew1) | exact HB.out))) : w.heap.size ≤ gb230)); have n3_ := Aside0.mk ((by rw [hg]; exact (below_size (by repeat (first | (with_reducible first | exact HB.out | apply below_alloc | apply pw_below_drewN | apply below_drew1) | exact HB.out))) : w.heap.size ≤ gb230)); clear HB; have HB := n0_; have BK230 := n1_; have GW230 := n2_; have GE230 := n3_; clear n0_ n1_ n2_ n3_; clear hb hbox hg; have hcz9_0 : w8.cell? ⟨gb230, 0, none⟩ = some (.int .i64 0) := (blk_cell BK230.out 0).trans rfl; have hcz9_1 : w8.cell? ⟨gb230, 1, none⟩ = some (.string (⟨#[]⟩ : ByteArray)) := (blk_cell BK230.out 1).trans rfl; have hcz9_2 : w8.cell? ⟨gb230, 2, none⟩ = some (.int .i64 0) := (blk_cell BK230.out 2).trans rfl; have hcz9_3 : w8.cell? ⟨gb230, 3, none⟩ = some (.int .i64 0) := (blk_cell BK230.out 3).trans rfl; have hfz9_0 := blk_frozen BK230.out 0; have hfz9_1 := blk_frozen BK230.out 1; have hfz9_2 := blk_frozen BK230.out 2; have hfz9_3 := blk_frozen BK230.out 3) | ((with_reducible refine gate_dst (N := 20) rfl ?_); refine Kd.R_lit (Kd.int .i64) _ 3 ?hg (N := 20) ?hd (xs := ([0, 0, 0, 0, 1, 2, 2] : List Int)) (inner := [.int .i64 0, .int .i64 0, .int .i64 0, .int .i64 0, .int .i64 1, .int .i64 2, .int .i64 2]) (ok := fun _ => True) (okp := fun _ => True) ?hr ?hp (fun _ hk => hk) trivial (Below.refl _ _) (Nat.le_refl _) (by simp) ?_; (case hd => rfl); (case hg => rfl); (case hr => first | (go_simp; done) | (go_simp; rfl)); (case hp => exact (Reps.one (show Kd.M (Kd.int .i64) _ _ _ 0 [.int .i64 0] from rfl) (Reps.one (show Kd.M (Kd.int .i64) _ _ _ 0 [.int .i64 0] from rfl) (Reps.one (show Kd.M (Kd.int .i64) _ _ _ 0 [.int .i64 0] from rfl) (Reps.one (show Kd.M (Kd.int .i64) _ _ _ 0 [.int .i64 0] from rfl) (Reps.one (show Kd.M (Kd.int .i64) _ _ _ 1 [.int .i64 1] from rfl) (Reps.one (show Kd.M (Kd.int .i64) _ _ _ 2 [.int .i64 2] from rfl) (Reps.one (show Kd.M (Kd.int .i64) _ _ _ 2 [.int .i64 2] from rfl) (Reps.none _ _))))))))); intro v232 w10 ho11 hb hg_ hnew_; clear hg_ hnew_; (first | rw [← Ny231.out] at ho11 | (simp only [Int.reduceToNat] at ho11; rw [← Ny231.out] at ho11)); have n0_ := Aside0.mk (Kd.R_lower ho11 (below_size (by repeat (first | (with_reducible first | exact HB.out | apply below_alloc | apply pw_below_drewN | apply below_drew1 | refine below_set ?_ GE230.out) | exact HB.out)))); have n1_ := Aside0.mk (blk_below (g := gb230) (o := .cells #[.int .i64 ((rd_T119 l0 x15_1).f0), .string ((rd_T119 l0 x15_1).f1), .int .i64 ((rd_T119 l0 x15_1).f2), .int .i64 ((rd_T119 l0 x15_1).f3)] 119 (0, 0)) (by (with_reducible repeat (first | refine blk_drewN ?_ _ | refine blk_drew ?_ | refine blk_alloc ?_ _)); refine blk_put (cs := #[.int .i64 ((rd_T119 l0 x15_1).f0), .string ((rd_T119 l0 x15_1).f1), .int .i64 ((rd_T119 l0 x15_1).f2), .int .i64 0]) ?_ 3 _ rfl; (with_reducible repeat (first | refine blk_drewN ?_ _ | refine blk_drew ?_ | refine blk_alloc ?_ _)); refine blk_put (cs := #[.int .i64 ((rd_T119 l0 x15_1).f0), .string ((rd_T119 l0 x15_1).f1), .int .i64 0, .int .i64 0]) ?_ 2 _ rfl; (with_reducible repeat (first | refine blk_drewN ?_ _ | refine blk_drew ?_ | refine blk_alloc ?_ _)); refine blk_put (cs := #[.int .i64 ((rd_T119 l0 x15_1).f0), .string (⟨#[]⟩ : ByteArray), .int .i64 0, .int .i64 0]) ?_ 1 _ rfl; (with_reducible repeat (first | refine blk_drewN ?_ _ | refine blk_drew ?_ | refine blk_alloc ?_ _)); refine blk_put (cs := #[.int .i64 0, .string (⟨#[]⟩ : ByteArray), .int .i64 0, .int .i64 0]) ?_ 0 _ rfl; (with_reducible repeat (first | refine blk_drewN ?_ _ | refine blk_drew ?_ | refine blk_alloc ?_ _)); exact BK230.out) hb); have n2_ := Aside0.mk (below_step (by repeat (first | (with_reducible first | exact HB.out | apply below_alloc | apply pw_below_drewN | apply below_drew1 | refine below_set ?_ GE230.out) | exact HB.out)) hb); clear BK230; clear HB; have HO233 := n0_; have BK230 := n1_; have HB := n2_; clear n0_ n1_ n2_; clear hb ho11))
                (try simp only [Act.put, List.setIfInBounds_toArray, List.set_cons_zero, List.set_cons_succ])
                go_cut [28] (fun v28 wc => ∃ (kq : Nat) (x28_6 : Bool), v28 = .bool x28_6 ∧ Aside0 (gridhallref4_ConditionError.j1 kq l0 x15_1 y231 l0 (l0.length : Int) x15_1 x28_6 ((rd_T119 l0 x15_1).f0) ((rd_T119 l0 x15_1).f1) ((rd_T119 l0 x15_1).f2) ((rd_T119 l0 x15_1).f3) = some r) ∧ Aside0 (kq ≤ k1) ∧ Aside0 (Kd.R (Kd.int .i64) 3 wc w.heap.size (fun _ => True) v232 y231) ∧ Aside0 (wc.heap[gb230]? = some (.cells #[.int .i64 ((rd_T119 l0 x15_1).f0), .string ((rd_T119 l0 x15_1).f1), .int .i64 ((rd_T119 l0 x15_1).f2), .int .i64 ((rd_T119 l0 x15_1).f3)] 119 (0, 0))) ∧ Aside0 (Below w.heap.size w wc))
                case first =>
                  have H := HC7.out
                  clear HC7
                  by_cases c12 : ((rd_T119 l0 x15_1).f0) < 0
                  · rw [if_pos c12] at H
                    have c12b0 : decide (((rd_T119 l0 x15_1).f0) < 0) = true := decide_eq_true c12
                    clear c12
                    (first | rw [c12b0] | (simp only [i64_w, i32_w]; rw [c12b0]) | skip)
                    have H' := Aside0.mk H
                    clear H
                    have hcz13_0 : w10.cell? ⟨gb230, 0, none⟩ = some (.int .i64 ((rd_T119 l0 x15_1).f0)) := (blk_cell BK230.out 0).trans rfl
                    have hcz13_1 : w10.cell? ⟨gb230, 1, none⟩ = some (.string ((rd_T119 l0 x15_1).f1)) := (blk_cell BK230.out 1).trans rfl
                    have hcz13_2 : w10.cell? ⟨gb230, 2, none⟩ = some (.int .i64 ((rd_T119 l0 x15_1).f2)) := (blk_cell BK230.out 2).trans rfl
                    have hcz13_3 : w10.cell? ⟨gb230, 3, none⟩ = some (.int .i64 ((rd_T119 l0 x15_1).f3)) := (blk_cell BK230.out 3).trans rfl
                    have hfz13_0 := blk_frozen BK230.out 0
                    have hfz13_1 := blk_frozen BK230.out 1
                    have hfz13_2 := blk_frozen BK230.out 2
                    have hfz13_3 := blk_frozen BK230.out 3
                    go_wp2
                    go_meet
                    case rel => exact ⟨_, (true), (by first | rfl | (simp; done) | (simp [*]; done)), H', ⟨by have := HK1.out; first | omega | exact Nat.le_refl _⟩, ⟨by (with_reducible repeat (first | apply Kd.R_alloc | apply Kd.R_drewN | apply Kd.R_drew)); exact HO233.out⟩, ⟨by (with_reducible repeat (first | refine blk_drewN ?_ _ | refine blk_drew ?_ | refine blk_alloc ?_ _)); exact BK230.out⟩, ⟨by repeat (first | (with_reducible first | exact HB.out | apply below_alloc | apply pw_below_drewN | apply below_drew1 | refine below_set ?_ GE230.out) | exact HB.out)⟩⟩
                  · rw [if_neg c12] at H
                    have c12b0 : decide (((rd_T119 l0 x15_1).f0) < 0) = false := decide_eq_false c12
                    clear c12
                    (first | rw [c12b0] | (simp only [i64_w, i32_w]; rw [c12b0]) | skip)
                    have H' := Aside0.mk H
                    clear H
                    have hcz14_0 : w10.cell? ⟨gb230, 0, none⟩ = some (.int .i64 ((rd_T119 l0 x15_1).f0)) := (blk_cell BK230.out 0).trans rfl
                    have hcz14_1 : w10.cell? ⟨gb230, 1, none⟩ = some (.string ((rd_T119 l0 x15_1).f1)) := (blk_cell BK230.out 1).trans rfl
                    have hcz14_2 : w10.cell? ⟨gb230, 2, none⟩ = some (.int .i64 ((rd_T119 l0 x15_1).f2)) := (blk_cell BK230.out 2).trans rfl
                    have hcz14_3 : w10.cell? ⟨gb230, 3, none⟩ = some (.int .i64 ((rd_T119 l0 x15_1).f3)) := (blk_cell BK230.out 3).trans rfl
                    have hfz14_0 := blk_frozen BK230.out 0
                    have hfz14_1 := blk_frozen BK230.out 1
                    have hfz14_2 := blk_frozen BK230.out 2
                    have hfz14_3 := blk_frozen BK230.out 3
                    go_wp2
                    go_meet
                    case rel => exact ⟨_, (decide (((rd_T119 l0 x15_1).f0) > 6)), (by first | rfl | (simp; done) | (simp [*]; done)), H', ⟨by have := HK1.out; first | omega | exact Nat.le_refl _⟩, ⟨by (with_reducible repeat (first | apply Kd.R_alloc | apply Kd.R_drewN | apply Kd.R_drew)); exact HO233.out⟩, ⟨by (with_reducible repeat (first | refine blk_drewN ?_ _ | refine blk_drew ?_ | refine blk_alloc ?_ _)); exact BK230.out⟩, ⟨by repeat (first | (with_reducible first | exact HB.out | apply below_alloc | apply pw_below_drewN | apply below_drew1 | refine below_set ?_ GE230.out) | exact HB.out)⟩⟩
                case rest =>
                  clear HC7
                  try clear c1
                  try clear c2
                  try clear c2b0
                  try clear c2b1
                  try clear p2
                  try clear q2
                  try clear hx2
                  try clear c3
                  try clear c3b0
                  try clear c3b1
                  try clear c3b2
                  try clear c4
                  try clear c4b0
                  try clear c5
                  try clear c5b0
                  try clear c6
                  try clear c6b0
                  try clear c7
                  try clear c12
                  try clear c12b0
                  try clear hcz13_0
                  try clear hcz13_1
                  try clear hcz13_2
                  try clear hcz13_3
                  try clear hcz14_0
                  try clear hcz14_1
                  try clear hcz14_2
                  try clear hcz14_3
                  try clear hcz9_0
                  try clear hcz9_1
                  try clear hcz9_2
                  try clear hcz9_3
                  try clear hfz13_0
                  try clear hfz13_1
                  try clear hfz13_2
                  try clear hfz13_3
                  try clear hfz14_0
                  try clear hfz14_1
                  try clear hfz14_2
                  try clear hfz14_3
                  try clear hfz9_0
                  try clear hfz9_1
                  try clear hfz9_2
                  try clear hfz9_3
                  try clear hx229_0
                  try clear hx229_1
                  try clear hx229_2
                  try clear hx229_3
                  try clear p2
                  try clear p229
                  try clear q229
                  obtain ⟨kq, x28_6, rfl, HA, HJ6, HO_5, BK230, HB⟩ := hcut
                  cases kq with
                  | zero => exact absurd HA.out (by simp [gridhallref4_ConditionError.j1])
                  | succ kj6 =>
                    have H := HA.out
                    clear HA
                    simp only [gridhallref4_ConditionError.j1] at H
                    by_cases c15 : x28_6 = true
                    · subst c15
                      have H1 : (some 1) = some r := by rw [if_pos rfl] at H; exact H
                      clear H
                      have H := H1
                      clear H1
                      obtain rfl := Option.some.inj H
                      go_wp2
                      go_ret
                      exact ⟨by first | rfl | (simp [errW_none, errW_some] <;> rfl) | (simp [*, errW_none, errW_some] <;> rfl), by repeat (first | (with_reducible first | exact HB.out | apply below_alloc | apply pw_below_drewN | apply below_drew1 | refine below_set ?_ GE230.out) | exact HB.out)⟩
                    · replace c15 := Bool.eq_false_iff.mpr c15
                      subst c15
                      have H1 : (if ((rd_T119 l0 x15_1).f0) = 2 then (gridhallref4_ConditionError.j2 kj6 l0 x15_1 y231 true l0 (l0.length : Int) x15_1 ((rd_T119 l0 x15_1).f0) ((rd_T119 l0 x15_1).f1) ((rd_T119 l0 x15_1).f2) ((rd_T119 l0 x15_1).f3)) else (gridhallref4_ConditionError.j2 kj6 l0 x15_1 y231 (((rd_T119 l0 x15_1).f0) == 3) l0 (l0.length : Int) x15_1 ((rd_T119 l0 x15_1).f0) ((rd_T119 l0 x15_1).f1) ((rd_T119 l0 x15_1).f2) ((rd_T119 l0 x15_1).f3))) = some r := by rw [if_neg (show ¬ (false = true) by decide)] at H; exact H
                      clear H
                      have H := H1
                      clear H1
                      have HC16 := Aside0.mk H
                      clear H
                      go_upto_region 11 with (fail)
                      go_cut [6] (fun v6 wc => ∃ (kq : Nat) (x6_15 : Bool), v6 = .bool x6_15 ∧ Aside0 (gridhallref4_ConditionError.j2 kq l0 x15_1 y231 x6_15 l0 (l0.length : Int) x15_1 ((rd_T119 l0 x15_1).f0) ((rd_T119 l0 x15_1).f1) ((rd_T119 l0 x15_1).f2) ((rd_T119 l0 x15_1).f3) = some r) ∧ Aside0 (kq ≤ kj6) ∧ Aside0 (Kd.R (Kd.int .i64) 3 wc w.heap.size (fun _ => True) v232 y231) ∧ Aside0 (wc.heap[gb230]? = some (.cells #[.int .i64 ((rd_T119 l0 x15_1).f0), .string ((rd_T119 l0 x15_1).f1), .int .i64 ((rd_T119 l0 x15_1).f2), .int .i64 ((rd_T119 l0 x15_1).f3)] 119 (0, 0))) ∧ Aside0 (Below w.heap.size w wc))
                      case first =>
                        have H := HC16.out
                        clear HC16
                        by_cases c17 : ((rd_T119 l0 x15_1).f0) = 2
                        · rw [if_pos c17] at H
                          have c17b0 : (((rd_T119 l0 x15_1).f0) == 2) = true := beq_iff_eq.mpr c17
                          have c17b1 : (((rd_T119 l0 x15_1).f0) != 2) = false := bne_eq_false_iff_eq.mpr c17
                          clear c17
                          (first | rw [c17b0] | (simp only [i64_w, i32_w]; rw [c17b0]) | skip)
                          have H' := Aside0.mk H
                          clear H
                          have hcz18_0 : wc.cell? ⟨gb230, 0, none⟩ = some (.int .i64 ((rd_T119 l0 x15_1).f0)) := (blk_cell BK230.out 0).trans rfl
                          have hcz18_1 : wc.cell? ⟨gb230, 1, none⟩ = some (.string ((rd_T119 l0 x15_1).f1)) := (blk_cell BK230.out 1).trans rfl
                          have hcz18_2 : wc.cell? ⟨gb230, 2, none⟩ = some (.int .i64 ((rd_T119 l0 x15_1).f2)) := (blk_cell BK230.out 2).trans rfl
                          have hcz18_3 : wc.cell? ⟨gb230, 3, none⟩ = some (.int .i64 ((rd_T119 l0 x15_1).f3)) := (blk_cell BK230.out 3).trans rfl
                          have hfz18_0 := blk_frozen BK230.out 0
                          have hfz18_1 := blk_frozen BK230.out 1
                          have hfz18_2 := blk_frozen BK230.out 2
                          have hfz18_3 := blk_frozen BK230.out 3
                          go_wp2
                          go_meet
                          case rel => exact ⟨_, (true), (by first | rfl | (simp; done) | (simp [*]; done)), H', ⟨by have := HK1.out; have := HJ6.out; first | omega | exact Nat.le_refl _⟩, ⟨by (with_reducible repeat (first | apply Kd.R_alloc | apply Kd.R_drewN | apply Kd.R_drew)); exact HO_5.out⟩, ⟨by (with_reducible repeat (first | refine blk_drewN ?_ _ | refine blk_drew ?_ | refine blk_alloc ?_ _)); exact BK230.out⟩, ⟨by repeat (first | (with_reducible first | exact HB.out | apply below_alloc | apply pw_below_drewN | apply below_drew1 | refine below_set ?_ GE230.out) | exact HB.out)⟩⟩
                        · rw [if_neg c17] at H
                          have c17b0 : (((rd_T119 l0 x15_1).f0) == 2) = false := beq_eq_false_iff_ne.mpr c17
                          have c17b1 : (((rd_T119 l0 x15_1).f0) != 2) = true := bne_iff_ne.mpr c17
                          (first | rw [c17b0] | (simp only [i64_w, i32_w]; rw [c17b0]) | skip)
                          have H' := Aside0.mk H
                          clear H
                          have hcz19_0 : wc.cell? ⟨gb230, 0, none⟩ = some (.int .i64 ((rd_T119 l0 x15_1).f0)) := (blk_cell BK230.out 0).trans rfl
                          have hcz19_1 : wc.cell? ⟨gb230, 1, none⟩ = some (.string ((rd_T119 l0 x15_1).f1)) := (blk_cell BK230.out 1).trans rfl
                          have hcz19_2 : wc.cell? ⟨gb230, 2, none⟩ = some (.int .i64 ((rd_T119 l0 x15_1).f2)) := (blk_cell BK230.out 2).trans rfl
                          have hcz19_3 : wc.cell? ⟨gb230, 3, none⟩ = some (.int .i64 ((rd_T119 l0 x15_1).f3)) := (blk_cell BK230.out 3).trans rfl
                          have hfz19_0 := blk_frozen BK230.out 0
                          have hfz19_1 := blk_frozen BK230.out 1
                          have hfz19_2 := blk_frozen BK230.out 2
                          have hfz19_3 := blk_frozen BK230.out 3
                          go_wp2
                          go_meet
                          case rel => exact ⟨_, ((((rd_T119 l0 x15_1).f0) == 3)), (by first | rfl | (simp; done) | (simp [*]; done)), H', ⟨by have := HK1.out; have := HJ6.out; first | omega | exact Nat.le_refl _⟩, ⟨by (with_reducible repeat (first | apply Kd.R_alloc | apply Kd.R_drewN | apply Kd.R_drew)); exact HO_5.out⟩, ⟨by (with_reducible repeat (first | refine blk_drewN ?_ _ | refine blk_drew ?_ | refine blk_alloc ?_ _)); exact BK230.out⟩, ⟨by repeat (first | (with_reducible first | exact HB.out | apply below_alloc | apply pw_below_drewN | apply below_drew1 | refine below_set ?_ GE230.out) | exact HB.out)⟩⟩
                      case rest =>
                        clear HC16
                        try clear c1
                        try clear c2
                        try clear c2b0
                        try clear c2b1
                        try clear p2
                        try clear q2
                        try clear hx2
                        try clear c3
                        try clear c3b0
                        try clear c3b1
                        try clear c3b2
                        try clear c4
                        try clear c4b0
                        try clear c5
                        try clear c5b0
                        try clear c6
                        try clear c6b0
                        try clear c7
                        try clear c12
                        try clear c12b0
                        try clear c15
                        try clear c17
                        try clear c17b0
                        try clear c17b1
                        try clear hcz13_0
                        try clear hcz13_1
                        try clear hcz13_2
                        try clear hcz13_3
                        try clear hcz14_0
                        try clear hcz14_1
                        try clear hcz14_2
                        try clear hcz14_3
                        try clear hcz18_0
                        try clear hcz18_1
                        try clear hcz18_2
                        try clear hcz18_3
                        try clear hcz19_0
                        try clear hcz19_1
                        try clear hcz19_2
                        try clear hcz19_3
                        try clear hcz9_0
                        try clear hcz9_1
                        try clear hcz9_2
                        try clear hcz9_3
                        try clear hfz13_0
                        try clear hfz13_1
                        try clear hfz13_2
                        try clear hfz13_3
                        try clear hfz14_0
                        try clear hfz14_1
                        try clear hfz14_2
                        try clear hfz14_3
                        try clear hfz18_0
                        try clear hfz18_1
                        try clear hfz18_2
                        try clear hfz18_3
                        try clear hfz19_0
                        try clear hfz19_1
                        try clear hfz19_2
                        try clear hfz19_3
                        try clear hfz9_0
                        try clear hfz9_1
                        try clear hfz9_2
                        try clear hfz9_3
                        try clear hx229_0
                        try clear hx229_1
                        try clear hx229_2
                        try clear hx229_3
                        try clear p2
                        try clear p229
                        try clear q2
                        try clear q229
                        obtain ⟨kq, x6_15, rfl, HA, HJ15, HO_5, BK230, HB⟩ := hcut
                        cases kq with
                        | zero => exact absurd HA.out (by simp [gridhallref4_ConditionError.j2])
                        | succ kj15 =>
                          have H := HA.out
                          clear HA
                          simp only [gridhallref4_ConditionError.j2] at H
                          have HC20 := Aside0.mk H
                          clear H
                          go_upto_region 12 with (fail)
                          go_cut [43] (fun v43 wc => ∃ (kq : Nat) (x43_19 : Bool), v43 = .bool x43_19 ∧ Aside0 (gridhallref4_ConditionError.j3 kq l0 x15_1 y231 x6_15 l0 (l0.length : Int) x15_1 x43_19 ((rd_T119 l0 x15_1).f0) ((rd_T119 l0 x15_1).f1) ((rd_T119 l0 x15_1).f2) ((rd_T119 l0 x15_1).f3) = some r) ∧ Aside0 (kq ≤ kj15) ∧ Aside0 (Kd.R (Kd.int .i64) 3 wc w.heap.size (fun _ => True) v232 y231) ∧ Aside0 (wc.heap[gb230]? = some (.cells #[.int .i64 ((rd_T119 l0 x15_1).f0), .string ((rd_T119 l0 x15_1).f1), .int .i64 ((rd_T119 l0 x15_1).f2), .int .i64 ((rd_T119 l0 x15_1).f3)] 119 (0, 0))) ∧ Aside0 (Below w.heap.size w wc))
                          case first =>
                            have H := HC20.out
                            clear HC20
                            by_cases c21 : x6_15 = true
                            · subst c21
                              have H1 : ((gridhallref4_Named.f kj15 ((rd_T119 l0 x15_1).f1)).bind fun t234 => (gridhallref4_ConditionError.j3 kj15 l0 x15_1 y231 true l0 (l0.length : Int) x15_1 (!t234) ((rd_T119 l0 x15_1).f0) ((rd_T119 l0 x15_1).f1) ((rd_T119 l0 x15_1).f2) ((rd_T119 l0 x15_1).f3))) = some r := by rw [if_pos rfl] at H; exact H
                              clear H
                              have H := H1
                              clear H1
                              replace H := Option.bind_eq_some_iff.mp H
                              obtain ⟨t234, A220, H⟩ := H
                              replace H : (gridhallref4_ConditionError.j3 kj15 l0 x15_1 y231 true l0 (l0.length : Int) x15_1 (!t234) ((rd_T119 l0 x15_1).f0) ((rd_T119 l0 x15_1).f1) ((rd_T119 l0 x15_1).f2) ((rd_T119 l0 x15_1).f3)) = some r := H
                              have A22 := Aside0.mk A220
                              clear A220
                              have H' := Aside0.mk H
                              clear H
                              have hcz23_0 : wc.cell? ⟨gb230, 0, none⟩ = some (.int .i64 ((rd_T119 l0 x15_1).f0)) := (blk_cell BK230.out 0).trans rfl
                              have hcz23_1 : wc.cell? ⟨gb230, 1, none⟩ = some (.string ((rd_T119 l0 x15_1).f1)) := (blk_cell BK230.out 1).trans rfl
                              have hcz23_2 : wc.cell? ⟨gb230, 2, none⟩ = some (.int .i64 ((rd_T119 l0 x15_1).f2)) := (blk_cell BK230.out 2).trans rfl
                              have hcz23_3 : wc.cell? ⟨gb230, 3, none⟩ = some (.int .i64 ((rd_T119 l0 x15_1).f3)) := (blk_cell BK230.out 3).trans rfl
                              have hfz23_0 := blk_frozen BK230.out 0
                              have hfz23_1 := blk_frozen BK230.out 1
                              have hfz23_2 := blk_frozen BK230.out 2
                              have hfz23_3 := blk_frozen BK230.out 3
                              go_wp2_with (first | (go_at_call 49; (with_reducible refine (gridhallref4_Named.calls kj15 ((rd_T119 l0 x15_1).f1) t234 _ A22.out).mono ?_); rintro e w' ⟨rfl, ⟨nd, rfl⟩⟩))
                              go_meet
                              case rel => exact ⟨_, (!t234), (by first | rfl | (simp; done) | (simp [*]; done)), H', ⟨by have := HK1.out; have := HJ6.out; have := HJ15.out; first | omega | exact Nat.le_refl _⟩, ⟨by (with_reducible repeat (first | apply Kd.R_alloc | apply Kd.R_drewN | apply Kd.R_drew)); exact HO_5.out⟩, ⟨by (with_reducible repeat (first | refine blk_drewN ?_ _ | refine blk_drew ?_ | refine blk_alloc ?_ _)); exact BK230.out⟩, ⟨by repeat (first | (with_reducible first | exact HB.out | apply below_alloc | apply pw_below_drewN | apply below_drew1 | refine below_set ?_ GE230.out) | exact HB.out)⟩⟩
                            · replace c21 := Bool.eq_false_iff.mpr c21
                              subst c21
                              have H1 : (gridhallref4_ConditionError.j3 kj15 l0 x15_1 y231 false l0 (l0.length : Int) x15_1 false ((rd_T119 l0 x15_1).f0) ((rd_T119 l0 x15_1).f1) ((rd_T119 l0 x15_1).f2) ((rd_T119 l0 x15_1).f3)) = some r := by rw [if_neg (show ¬ (false = true) by decide)] at H; exact H
                              clear H
                              have H := H1
                              clear H1
                              have H' := Aside0.mk H
                              clear H
                              go_wp2
                              go_meet
                              case rel => exact ⟨_, (false), (by first | rfl | (simp; done) | (simp [*]; done)), H', ⟨by have := HK1.out; have := HJ6.out; have := HJ15.out; first | omega | exact Nat.le_refl _⟩, ⟨by (with_reducible repeat (first | apply Kd.R_alloc | apply Kd.R_drewN | apply Kd.R_drew)); exact HO_5.out⟩, ⟨by (with_reducible repeat (first | refine blk_drewN ?_ _ | refine blk_drew ?_ | refine blk_alloc ?_ _)); exact BK230.out⟩, ⟨by repeat (first | (with_reducible first | exact HB.out | apply below_alloc | apply pw_below_drewN | apply below_drew1 | refine below_set ?_ GE230.out) | exact HB.out)⟩⟩
                          case rest =>
                            clear HC20
                            try clear c1
                            try clear c2
                            try clear c2b0
                            try clear c2b1
                            try clear p2
                            try clear q2
                            try clear hx2
                            try clear c3
                            try clear c3b0
                            try clear c3b1
                            try clear c3b2
                            try clear c4
                            try clear c4b0
                            try clear c5
                            try clear c5b0
                            try clear c6
                            try clear c6b0
                            try clear c7
                            try clear c12
                            try clear c12b0
                            try clear c15
                            try clear c17
                            try clear c17b0
                            try clear c17b1
                            try clear c21
                            try clear p22
                            try clear q22
                            try clear hx22
                            try clear hcz13_0
                            try clear hcz13_1
                            try clear hcz13_2
                            try clear hcz13_3
                            try clear hcz14_0
                            try clear hcz14_1
                            try clear hcz14_2
                            try clear hcz14_3
                            try clear hcz18_0
                            try clear hcz18_1
                            try clear hcz18_2
                            try clear hcz18_3
                            try clear hcz19_0
                            try clear hcz19_1
                            try clear hcz19_2
                            try clear hcz19_3
                            try clear hcz23_0
                            try clear hcz23_1
                            try clear hcz23_2
                            try clear hcz23_3
                            try clear hcz9_0
                            try clear hcz9_1
                            try clear hcz9_2
                            try clear hcz9_3
                            try clear hfz13_0
                            try clear hfz13_1
                            try clear hfz13_2
                            try clear hfz13_3
                            try clear hfz14_0
                            try clear hfz14_1
                            try clear hfz14_2
                            try clear hfz14_3
                            try clear hfz18_0
                            try clear hfz18_1
                            try clear hfz18_2
                            try clear hfz18_3
                            try clear hfz19_0
                            try clear hfz19_1
                            try clear hfz19_2
                            try clear hfz19_3
                            try clear hfz23_0
                            try clear hfz23_1
                            try clear hfz23_2
                            try clear hfz23_3
                            try clear hfz9_0
                            try clear hfz9_1
                            try clear hfz9_2
                            try clear hfz9_3
                            try clear hx229_0
                            try clear hx229_1
                            try clear hx229_2
                            try clear hx229_3
                            try clear p2
                            try clear p229
                            try clear q2
                            try clear q229
                            obtain ⟨kq, x43_19, rfl, HA, HJ19, HO_5, BK230, HB⟩ := hcut
                            cases kq with
                            | zero => exact absurd HA.out (by simp [gridhallref4_ConditionError.j3])
                            | succ kj19 =>
                              have H := HA.out
                              clear HA
                              simp only [gridhallref4_ConditionError.j3] at H
                              by_cases c24 : x43_19 = true
                              · subst c24
                                have H1 : (some 6) = some r := by rw [if_pos rfl] at H; exact H
                                clear H
                                have H := H1
                                clear H1
                                obtain rfl := Option.some.inj H
                                go_wp2
                                go_ret
                                exact ⟨by first | rfl | (simp [errW_none, errW_some] <;> rfl) | (simp [*, errW_none, errW_some] <;> rfl), by repeat (first | (with_reducible first | exact HB.out | apply below_alloc | apply pw_below_drewN | apply below_drew1 | refine below_set ?_ GE230.out) | exact HB.out)⟩
                              · replace c24 := Bool.eq_false_iff.mpr c24
                                subst c24
                                have H1 : (if x6_15 = true then (if 0 ≤ ((rd_T119 l0 x15_1).f0) then (if ((rd_T119 l0 x15_1).f0) < (y231.length : Int) then (if (rd y231 ((rd_T119 l0 x15_1).f0)) < 1 then (if ((rd_T119 l0 x15_1).f2) = 0 then (if (rd y231 ((rd_T119 l0 x15_1).f0)) < 2 then (if ((rd_T119 l0 x15_1).f3) = 0 then ((gridhallref4_span.f kj19 l0 x15_1).bind fun t237 => (if t237 < 0 then (some 3) else (gridhallref4_ConditionError.l0 kj19 l0 l0 (l0.length : Int) (wrap64 (x15_1 + 1))))) else (some 3)) else ((gridhallref4_span.f kj19 l0 x15_1).bind fun t238 => (if t238 < 0 then (some 3) else (gridhallref4_ConditionError.l0 kj19 l0 l0 (l0.length : Int) (wrap64 (x15_1 + 1)))))) else (some 3)) else (if (rd y231 ((rd_T119 l0 x15_1).f0)) < 2 then (if ((rd_T119 l0 x15_1).f3) = 0 then ((gridhallref4_span.f kj19 l0 x15_1).bind fun t240 => (if t240 < 0 then (some 3) else (gridhallref4_ConditionError.l0 kj19 l0 l0 (l0.length : Int) (wrap64 (x15_1 + 1))))) else (some 3)) else ((gridhallref4_span.f kj19 l0 x15_1).bind fun t241 => (if t241 < 0 then (some 3) else (gridhallref4_ConditionError.l0 kj19 l0 l0 (l0.length : Int) (wrap64 (x15_1 + 1))))))) else (none)) else (none)) else (if ((rd_T119 l0 x15_1).f1).toList = ([] : List UInt8) then (if 0 ≤ ((rd_T119 l0 x15_1).f0) then (if ((rd_T119 l0 x15_1).f0) < (y231.length : Int) then (if (rd y231 ((rd_T119 l0 x15_1).f0)) < 1 then (if ((rd_T119 l0 x15_1).f2) = 0 then (if (rd y231 ((rd_T119 l0 x15_1).f0)) < 2 then (if ((rd_T119 l0 x15_1).f3) = 0 then ((gridhallref4_span.f kj19 l0 x15_1).bind fun t244 => (if t244 < 0 then (some 3) else (gridhallref4_ConditionError.l0 kj19 l0 l0 (l0.length : Int) (wrap64 (x15_1 + 1))))) else (some 3)) else ((gridhallref4_span.f kj19 l0 x15_1).bind fun t245 => (if t245 < 0 then (some 3) else (gridhallref4_ConditionError.l0 kj19 l0 l0 (l0.length : Int) (wrap64 (x15_1 + 1)))))) else (some 3)) else (if (rd y231 ((rd_T119 l0 x15_1).f0)) < 2 then (if ((rd_T119 l0 x15_1).f3) = 0 then ((gridhallref4_span.f kj19 l0 x15_1).bind fun t247 => (if t247 < 0 then (some 3) else (gridhallref4_ConditionError.l0 kj19 l0 l0 (l0.length : Int) (wrap64 (x15_1 + 1))))) else (some 3)) else ((gridhallref4_span.f kj19 l0 x15_1).bind fun t248 => (if t248 < 0 then (some 3) else (gridhallref4_ConditionError.l0 kj19 l0 l0 (l0.length : Int) (wrap64 (x15_1 + 1))))))) else (none)) else (none)) else (some 3))) = some r := by rw [if_neg (show ¬ (false = true) by decide)] at H; exact H
                                clear H
                                have H := H1
                                clear H1
                                by_cases c25 : x6_15 = true
                                · subst c25
                                  have H1 : (if 0 ≤ ((rd_T119 l0 x15_1).f0) then (if ((rd_T119 l0 x15_1).f0) < (y231.length : Int) then (if (rd y231 ((rd_T119 l0 x15_1).f0)) < 1 then (if ((rd_T119 l0 x15_1).f2) = 0 then (if (rd y231 ((rd_T119 l0 x15_1).f0)) < 2 then (if ((rd_T119 l0 x15_1).f3) = 0 then ((gridhallref4_span.f kj19 l0 x15_1).bind fun t237 => (if t237 < 0 then (some 3) else (gridhallref4_ConditionError.l0 kj19 l0 l0 (l0.length : Int) (wrap64 (x15_1 + 1))))) else (some 3)) else ((gridhallref4_span.f kj19 l0 x15_1).bind fun t238 => (if t238 < 0 then (some 3) else (gridhallref4_ConditionError.l0 kj19 l0 l0 (l0.length : Int) (wrap64 (x15_1 + 1)))))) else (some 3)) else (if (rd y231 ((rd_T119 l0 x15_1).f0)) < 2 then (if ((rd_T119 l0 x15_1).f3) = 0 then ((gridhallref4_span.f kj19 l0 x15_1).bind fun t240 => (if t240 < 0 then (some 3) else (gridhallref4_ConditionError.l0 kj19 l0 l0 (l0.length : Int) (wrap64 (x15_1 + 1))))) else (some 3)) else ((gridhallref4_span.f kj19 l0 x15_1).bind fun t241 => (if t241 < 0 then (some 3) else (gridhallref4_ConditionError.l0 kj19 l0 l0 (l0.length : Int) (wrap64 (x15_1 + 1))))))) else (none)) else (none)) = some r := by rw [if_pos rfl] at H; exact H
                                  clear H
                                  have H := H1
                                  clear H1
                                  by_cases c26 : 0 ≤ ((rd_T119 l0 x15_1).f0)
                                  · rw [if_pos c26] at H
                                    have c26b0 : decide (0 ≤ ((rd_T119 l0 x15_1).f0)) = true := decide_eq_true c26
                                    clear c26
                                    by_cases c27 : ((rd_T119 l0 x15_1).f0) < (y231.length : Int)
                                    · rw [if_pos c27] at H
                                      have c27b0 : decide (((rd_T119 l0 x15_1).f0) < (y231.length : Int)) = true := decide_eq_true c27
                                      clear c27
                                      by_cases c28 : (rd y231 ((rd_T119 l0 x15_1).f0)) < 1
                                      · rw [if_pos c28] at H
                                        have c28b0 : decide ((rd y231 ((rd_T119 l0 x15_1).f0)) < 1) = true := decide_eq_true c28
                                        clear c28
                                        by_cases c29 : ((rd_T119 l0 x15_1).f2) = 0
                                        · rw [if_pos c29] at H
                                          have c29b0 : (((rd_T119 l0 x15_1).f2) == 0) = true := beq_iff_eq.mpr c29
                                          have c29b1 : (((rd_T119 l0 x15_1).f2) != 0) = false := bne_eq_false_iff_eq.mpr c29
                                          clear c29
                                          by_cases c30 : (rd y231 ((rd_T119 l0 x15_1).f0)) < 2
                                          · rw [if_pos c30] at H
                                            have c30b0 : decide ((rd y231 ((rd_T119 l0 x15_1).f0)) < 2) = true := decide_eq_true c30
                                            clear c30
                                            by_cases c31 : ((rd_T119 l0 x15_1).f3) = 0
                                            · rw [if_pos c31] at H
                                              have c31b0 : (((rd_T119 l0 x15_1).f3) == 0) = true := beq_iff_eq.mpr c31
                                              have c31b1 : (((rd_T119 l0 x15_1).f3) != 0) = false := bne_eq_false_iff_eq.mpr c31
                                              clear c31
                                              replace H := Option.bind_eq_some_iff.mp H
                                              obtain ⟨t237, A320, H⟩ := H
                                              replace H : (if t237 < 0 then (some 3) else (gridhallref4_ConditionError.l0 kj19 l0 l0 (l0.length : Int) (wrap64 (x15_1 + 1)))) = some r := H
                                              have A32 := Aside0.mk A320
                                              clear A320
                                              by_cases c33 : t237 < 0
                                              · rw [if_pos c33] at H
                                                have c33b0 : decide (t237 < 0) = true := decide_eq_true c33
                                                clear c33
                                                obtain rfl := Option.some.inj H
                                                have hcz34_0 : wc.cell? ⟨gb230, 0, none⟩ = some (.int .i64 ((rd_T119 l0 x15_1).f0)) := (blk_cell BK230.out 0).trans rfl
                                                have hcz34_1 : wc.cell? ⟨gb230, 1, none⟩ = some (.string ((rd_T119 l0 x15_1).f1)) := (blk_cell BK230.out 1).trans rfl
                                                have hcz34_2 : wc.cell? ⟨gb230, 2, none⟩ = some (.int .i64 ((rd_T119 l0 x15_1).f2)) := (blk_cell BK230.out 2).trans rfl
                                                have hcz34_3 : wc.cell? ⟨gb230, 3, none⟩ = some (.int .i64 ((rd_T119 l0 x15_1).f3)) := (blk_cell BK230.out 3).trans rfl
                                                have hfz34_0 := blk_frozen BK230.out 0
                                                have hfz34_1 := blk_frozen BK230.out 1
                                                have hfz34_2 := blk_frozen BK230.out 2
                                                have hfz34_3 := blk_frozen BK230.out 3
                                                obtain ⟨Ao35, co35, eo35⟩ := Kd.R_slice HO_5.out
                                                subst eo35
                                                have p235 : 0 ≤ (((rd_T119 l0 x15_1).f0) : Int) := of_decide_eq_true (by first | (with_reducible assumption) | assumption)
                                                have q235 : ((rd_T119 l0 x15_1).f0) < (y231.length : Int) := of_decide_eq_true (by first | (with_reducible assumption) | assumption)
                                                obtain ⟨ad235, e235, hx235_0⟩ := Kd.at_int (Kd.R_reads' HO_5.out).2.2 ((rd_T119 l0 x15_1).f0) p235 q235
                                                cases e235
                                                replace p235 := eq_true p235
                                                replace q235 := eq_true q235
                                                have p236 : 0 ≤ (((rd_T119 l0 x15_1).f0) : Int) := of_decide_eq_true (by first | (with_reducible assumption) | assumption)
                                                have q236 : ((rd_T119 l0 x15_1).f0) < (y231.length : Int) := of_decide_eq_true (by first | (with_reducible assumption) | assumption)
                                                obtain ⟨ad236, e236, hx236_0⟩ := Kd.at_int (Kd.R_reads' HO_5.out).2.2 ((rd_T119 l0 x15_1).f0) p236 q236
                                                obtain rfl : ad235 = ad236 := (by injection e236)
                                                replace p236 := eq_true p236
                                                replace q236 := eq_true q236
                                                go_wp2_with (first | (go_at_call 92; (with_reducible refine (gridhallref4_span.calls kj19 _ _ l0 x15_1 t237 _ ?side1 ?side2 A32.out).mono ?_); (case side1 => repeat (first | exact (Kd.C_below HR0.out HB.out) | (with_reducible refine Kd.C_alloc ?_ _) | (with_reducible refine Kd.C_drewN ?_ _) | (with_reducible refine Kd.C_drew ?_))); (case side2 => exact HC0.out); rintro e w36 ⟨rfl, hb⟩; have n0_ := Aside0.mk (Kd.R_below (by (with_reducible repeat (first | apply Kd.R_alloc | apply Kd.R_drewN | apply Kd.R_drew)); exact HO_5.out) hb); have n1_ := Aside0.mk (blk_below (g := gb230) (o := .cells #[.int .i64 ((rd_T119 l0 x15_1).f0), .string ((rd_T119 l0 x15_1).f1), .int .i64 ((rd_T119 l0 x15_1).f2), .int .i64 ((rd_T119 l0 x15_1).f3)] 119 (0, 0)) (by (with_reducible repeat (first | refine blk_drewN ?_ _ | refine blk_drew ?_ | refine blk_alloc ?_ _)); exact BK230.out) hb); have n2_ := Aside0.mk (below_step (by repeat (first | (with_reducible first | exact HB.out | apply below_alloc | apply pw_below_drewN | apply below_drew1 | refine below_set ?_ GE230.out) | exact HB.out)) hb); clear HO_5; clear BK230; clear HB; have HO_5 := n0_; have BK230 := n1_; have HB := n2_; clear n0_ n1_ n2_; (try clear hb); (try clear hb2); (try clear hk); (try clear hi)))
                                                go_ret
                                                exact ⟨by first | rfl | (simp [errW_none, errW_some] <;> rfl) | (simp [*, errW_none, errW_some] <;> rfl), by repeat (first | (with_reducible first | exact HB.out | apply below_alloc | apply pw_below_drewN | apply below_drew1 | refine below_set ?_ GE230.out) | exact HB.out)⟩
                                              · rw [if_neg c33] at H
                                                have c33b0 : decide (t237 < 0) = false := decide_eq_false c33
                                                clear c33
                                                have H' := Aside0.mk H
                                                clear H
                                                have hcz37_0 : wc.cell? ⟨gb230, 0, none⟩ = some (.int .i64 ((rd_T119 l0 x15_1).f0)) := (blk_cell BK230.out 0).trans rfl
                                                have hcz37_1 : wc.cell? ⟨gb230, 1, none⟩ = some (.string ((rd_T119 l0 x15_1).f1)) := (blk_cell BK230.out 1).trans rfl
                                                have hcz37_2 : wc.cell? ⟨gb230, 2, none⟩ = some (.int .i64 ((rd_T119 l0 x15_1).f2)) := (blk_cell BK230.out 2).trans rfl
                                                have hcz37_3 : wc.cell? ⟨gb230, 3, none⟩ = some (.int .i64 ((rd_T119 l0 x15_1).f3)) := (blk_cell BK230.out 3).trans rfl
                                                have hfz37_0 := blk_frozen BK230.out 0
                                                have hfz37_1 := blk_frozen BK230.out 1
                                                have hfz37_2 := blk_frozen BK230.out 2
                                                have hfz37_3 := blk_frozen BK230.out 3
                                                obtain ⟨Ao38, co38, eo38⟩ := Kd.R_slice HO_5.out
                                                subst eo38
                                                have p235 : 0 ≤ (((rd_T119 l0 x15_1).f0) : Int) := of_decide_eq_true (by first | (with_reducible assumption) | assumption)
                                                have q235 : ((rd_T119 l0 x15_1).f0) < (y231.length : Int) := of_decide_eq_true (by first | (with_reducible assumption) | assumption)
                                                obtain ⟨ad235, e235, hx235_0⟩ := Kd.at_int (Kd.R_reads' HO_5.out).2.2 ((rd_T119 l0 x15_1).f0) p235 q235
                                                cases e235
                                                replace p235 := eq_true p235
                                                replace q235 := eq_true q235
                                                have p236 : 0 ≤ (((rd_T119 l0 x15_1).f0) : Int) := of_decide_eq_true (by first | (with_reducible assumption) | assumption)
                                                have q236 : ((rd_T119 l0 x15_1).f0) < (y231.length : Int) := of_decide_eq_true (by first | (with_reducible assumption) | assumption)
                                                obtain ⟨ad236, e236, hx236_0⟩ := Kd.at_int (Kd.R_reads' HO_5.out).2.2 ((rd_T119 l0 x15_1).f0) p236 q236
                                                obtain rfl : ad235 = ad236 := (by injection e236)
                                                replace p236 := eq_true p236
                                                replace q236 := eq_true q236
                                                go_wp2_with (first | (go_at_call 92; (with_reducible refine (gridhallref4_span.calls kj19 _ _ l0 x15_1 t237 _ ?side1 ?side2 A32.out).mono ?_); (case side1 => repeat (first | exact (Kd.C_below HR0.out HB.out) | (with_reducible refine Kd.C_alloc ?_ _) | (with_reducible refine Kd.C_drewN ?_ _) | (with_reducible refine Kd.C_drew ?_))); (case side2 => exact HC0.out); rintro e w39 ⟨rfl, hb⟩; have n0_ := Aside0.mk (Kd.R_below (by (with_reducible repeat (first | apply Kd.R_alloc | apply Kd.R_drewN | apply Kd.R_drew)); exact HO_5.out) hb); have n1_ := Aside0.mk (blk_below (g := gb230) (o := .cells #[.int .i64 ((rd_T119 l0 x15_1).f0), .string ((rd_T119 l0 x15_1).f1), .int .i64 ((rd_T119 l0 x15_1).f2), .int .i64 ((rd_T119 l0 x15_1).f3)] 119 (0, 0)) (by (with_reducible repeat (first | refine blk_drewN ?_ _ | refine blk_drew ?_ | refine blk_alloc ?_ _)); exact BK230.out) hb); have n2_ := Aside0.mk (below_step (by repeat (first | (with_reducible first | exact HB.out | apply below_alloc | apply pw_below_drewN | apply below_drew1 | refine below_set ?_ GE230.out) | exact HB.out)) hb); clear HO_5; clear BK230; clear HB; have HO_5 := n0_; have BK230 := n1_; have HB := n2_; clear n0_ n1_ n2_; (try clear hb); (try clear hb2); (try clear hk); (try clear hi)))
                                                go_roundg kj19
                                                case measure => have := HK1.out; have := HJ6.out; have := HJ15.out; have := HJ19.out; omega
                                                case rel => exact ⟨(wrap64 (x15_1 + 1)), (by first | rfl | (simp; done) | (simp [*]; done)), H', ⟨by have := HK1.out; have := HJ6.out; have := HJ15.out; have := HJ19.out; omega⟩, ⟨by repeat (first | (with_reducible first | exact HB.out | apply below_alloc | apply pw_below_drewN | apply below_drew1 | refine below_set ?_ GE230.out) | exact HB.out)⟩⟩
                                            · rw [if_neg c31] at H
                                              have c31b0 : (((rd_T119 l0 x15_1).f3) == 0) = false := beq_eq_false_iff_ne.mpr c31
                                              have c31b1 : (((rd_T119 l0 x15_1).f3) != 0) = true := bne_iff_ne.mpr c31
                                              obtain rfl := Option.some.inj H
                                              have hcz40_0 : wc.cell? ⟨gb230, 0, none⟩ = some (.int .i64 ((rd_T119 l0 x15_1).f0)) := (blk_cell BK230.out 0).trans rfl
                                              have hcz40_1 : wc.cell? ⟨gb230, 1, none⟩ = some (.string ((rd_T119 l0 x15_1).f1)) := (blk_cell BK230.out 1).trans rfl
                                              have hcz40_2 : wc.cell? ⟨gb230, 2, none⟩ = some (.int .i64 ((rd_T119 l0 x15_1).f2)) := (blk_cell BK230.out 2).trans rfl
                                              have hcz40_3 : wc.cell? ⟨gb230, 3, none⟩ = some (.int .i64 ((rd_T119 l0 x15_1).f3)) := (blk_cell BK230.out 3).trans rfl
                                              have hfz40_0 := blk_frozen BK230.out 0
                                              have hfz40_1 := blk_frozen BK230.out 1
                                              have hfz40_2 := blk_frozen BK230.out 2
                                              have hfz40_3 := blk_frozen BK230.out 3
                                              obtain ⟨Ao41, co41, eo41⟩ := Kd.R_slice HO_5.out
                                              subst eo41
                                              have p235 : 0 ≤ (((rd_T119 l0 x15_1).f0) : Int) := of_decide_eq_true (by first | (with_reducible assumption) | assumption)
                                              have q235 : ((rd_T119 l0 x15_1).f0) < (y231.length : Int) := of_decide_eq_true (by first | (with_reducible assumption) | assumption)
                                              obtain ⟨ad235, e235, hx235_0⟩ := Kd.at_int (Kd.R_reads' HO_5.out).2.2 ((rd_T119 l0 x15_1).f0) p235 q235
                                              cases e235
                                              replace p235 := eq_true p235
                                              replace q235 := eq_true q235
                                              have p236 : 0 ≤ (((rd_T119 l0 x15_1).f0) : Int) := of_decide_eq_true (by first | (with_reducible assumption) | assumption)
                                              have q236 : ((rd_T119 l0 x15_1).f0) < (y231.length : Int) := of_decide_eq_true (by first | (with_reducible assumption) | assumption)
                                              obtain ⟨ad236, e236, hx236_0⟩ := Kd.at_int (Kd.R_reads' HO_5.out).2.2 ((rd_T119 l0 x15_1).f0) p236 q236
                                              obtain rfl : ad235 = ad236 := (by injection e236)
                                              replace p236 := eq_true p236
                                              replace q236 := eq_true q236
                                              go_wp2
                                              go_ret
                                              exact ⟨by first | rfl | (simp [errW_none, errW_some] <;> rfl) | (simp [*, errW_none, errW_some] <;> rfl), by repeat (first | (with_reducible first | exact HB.out | apply below_alloc | apply pw_below_drewN | apply below_drew1 | refine below_set ?_ GE230.out) | exact HB.out)⟩
                                          · rw [if_neg c30] at H
                                            have c30b0 : decide ((rd y231 ((rd_T119 l0 x15_1).f0)) < 2) = false := decide_eq_false c30
                                            clear c30
                                            replace H := Option.bind_eq_some_iff.mp H
                                            obtain ⟨t238, A420, H⟩ := H
                                            replace H : (if t238 < 0 then (some 3) else (gridhallref4_ConditionError.l0 kj19 l0 l0 (l0.length : Int) (wrap64 (x15_1 + 1)))) = some r := H
                                            have A42 := Aside0.mk A420
                                            clear A420
                                            by_cases c43 : t238 < 0
                                            · rw [if_pos c43] at H
                                              have c43b0 : decide (t238 < 0) = true := decide_eq_true c43
                                              clear c43
                                              obtain rfl := Option.some.inj H
                                              have hcz44_0 : wc.cell? ⟨gb230, 0, none⟩ = some (.int .i64 ((rd_T119 l0 x15_1).f0)) := (blk_cell BK230.out 0).trans rfl
                                              have hcz44_1 : wc.cell? ⟨gb230, 1, none⟩ = some (.string ((rd_T119 l0 x15_1).f1)) := (blk_cell BK230.out 1).trans rfl
                                              have hcz44_2 : wc.cell? ⟨gb230, 2, none⟩ = some (.int .i64 ((rd_T119 l0 x15_1).f2)) := (blk_cell BK230.out 2).trans rfl
                                              have hcz44_3 : wc.cell? ⟨gb230, 3, none⟩ = some (.int .i64 ((rd_T119 l0 x15_1).f3)) := (blk_cell BK230.out 3).trans rfl
                                              have hfz44_0 := blk_frozen BK230.out 0
                                              have hfz44_1 := blk_frozen BK230.out 1
                                              have hfz44_2 := blk_frozen BK230.out 2
                                              have hfz44_3 := blk_frozen BK230.out 3
                                              obtain ⟨Ao45, co45, eo45⟩ := Kd.R_slice HO_5.out
                                              subst eo45
                                              have p235 : 0 ≤ (((rd_T119 l0 x15_1).f0) : Int) := of_decide_eq_true (by first | (with_reducible assumption) | assumption)
                                              have q235 : ((rd_T119 l0 x15_1).f0) < (y231.length : Int) := of_decide_eq_true (by first | (with_reducible assumption) | assumption)
                                              obtain ⟨ad235, e235, hx235_0⟩ := Kd.at_int (Kd.R_reads' HO_5.out).2.2 ((rd_T119 l0 x15_1).f0) p235 q235
                                              cases e235
                                              replace p235 := eq_true p235
                                              replace q235 := eq_true q235
                                              have p236 : 0 ≤ (((rd_T119 l0 x15_1).f0) : Int) := of_decide_eq_true (by first | (with_reducible assumption) | assumption)
                                              have q236 : ((rd_T119 l0 x15_1).f0) < (y231.length : Int) := of_decide_eq_true (by first | (with_reducible assumption) | assumption)
                                              obtain ⟨ad236, e236, hx236_0⟩ := Kd.at_int (Kd.R_reads' HO_5.out).2.2 ((rd_T119 l0 x15_1).f0) p236 q236
                                              obtain rfl : ad235 = ad236 := (by injection e236)
                                              replace p236 := eq_true p236
                                              replace q236 := eq_true q236
                                              go_wp2_with (first | (go_at_call 92; (with_reducible refine (gridhallref4_span.calls kj19 _ _ l0 x15_1 t238 _ ?side1 ?side2 A42.out).mono ?_); (case side1 => repeat (first | exact (Kd.C_below HR0.out HB.out) | (with_reducible refine Kd.C_alloc ?_ _) | (with_reducible refine Kd.C_drewN ?_ _) | (with_reducible refine Kd.C_drew ?_))); (case side2 => exact HC0.out); rintro e w46 ⟨rfl, hb⟩; have n0_ := Aside0.mk (Kd.R_below (by (with_reducible repeat (first | apply Kd.R_alloc | apply Kd.R_drewN | apply Kd.R_drew)); exact HO_5.out) hb); have n1_ := Aside0.mk (blk_below (g := gb230) (o := .cells #[.int .i64 ((rd_T119 l0 x15_1).f0), .string ((rd_T119 l0 x15_1).f1), .int .i64 ((rd_T119 l0 x15_1).f2), .int .i64 ((rd_T119 l0 x15_1).f3)] 119 (0, 0)) (by (with_reducible repeat (first | refine blk_drewN ?_ _ | refine blk_drew ?_ | refine blk_alloc ?_ _)); exact BK230.out) hb); have n2_ := Aside0.mk (below_step (by repeat (first | (with_reducible first | exact HB.out | apply below_alloc | apply pw_below_drewN | apply below_drew1 | refine below_set ?_ GE230.out) | exact HB.out)) hb); clear HO_5; clear BK230; clear HB; have HO_5 := n0_; have BK230 := n1_; have HB := n2_; clear n0_ n1_ n2_; (try clear hb); (try clear hb2); (try clear hk); (try clear hi)))
                                              go_ret
                                              exact ⟨by first | rfl | (simp [errW_none, errW_some] <;> rfl) | (simp [*, errW_none, errW_some] <;> rfl), by repeat (first | (with_reducible first | exact HB.out | apply below_alloc | apply pw_below_drewN | apply below_drew1 | refine below_set ?_ GE230.out) | exact HB.out)⟩
                                            · rw [if_neg c43] at H
                                              have c43b0 : decide (t238 < 0) = false := decide_eq_false c43
                                              clear c43
                                              have H' := Aside0.mk H
                                              clear H
                                              have hcz47_0 : wc.cell? ⟨gb230, 0, none⟩ = some (.int .i64 ((rd_T119 l0 x15_1).f0)) := (blk_cell BK230.out 0).trans rfl
                                              have hcz47_1 : wc.cell? ⟨gb230, 1, none⟩ = some (.string ((rd_T119 l0 x15_1).f1)) := (blk_cell BK230.out 1).trans rfl
                                              have hcz47_2 : wc.cell? ⟨gb230, 2, none⟩ = some (.int .i64 ((rd_T119 l0 x15_1).f2)) := (blk_cell BK230.out 2).trans rfl
                                              have hcz47_3 : wc.cell? ⟨gb230, 3, none⟩ = some (.int .i64 ((rd_T119 l0 x15_1).f3)) := (blk_cell BK230.out 3).trans rfl
                                              have hfz47_0 := blk_frozen BK230.out 0
                                              have hfz47_1 := blk_frozen BK230.out 1
                                              have hfz47_2 := blk_frozen BK230.out 2
                                              have hfz47_3 := blk_frozen BK230.out 3
                                              obtain ⟨Ao48, co48, eo48⟩ := Kd.R_slice HO_5.out
                                              subst eo48
                                              have p235 : 0 ≤ (((rd_T119 l0 x15_1).f0) : Int) := of_decide_eq_true (by first | (with_reducible assumption) | assumption)
                                              have q235 : ((rd_T119 l0 x15_1).f0) < (y231.length : Int) := of_decide_eq_true (by first | (with_reducible assumption) | assumption)
                                              obtain ⟨ad235, e235, hx235_0⟩ := Kd.at_int (Kd.R_reads' HO_5.out).2.2 ((rd_T119 l0 x15_1).f0) p235 q235
                                              cases e235
                                              replace p235 := eq_true p235
                                              replace q235 := eq_true q235
                                              have p236 : 0 ≤ (((rd_T119 l0 x15_1).f0) : Int) := of_decide_eq_true (by first | (with_reducible assumption) | assumption)
                                              have q236 : ((rd_T119 l0 x15_1).f0) < (y231.length : Int) := of_decide_eq_true (by first | (with_reducible assumption) | assumption)
                                              obtain ⟨ad236, e236, hx236_0⟩ := Kd.at_int (Kd.R_reads' HO_5.out).2.2 ((rd_T119 l0 x15_1).f0) p236 q236
                                              obtain rfl : ad235 = ad236 := (by injection e236)
                                              replace p236 := eq_true p236
                                              replace q236 := eq_true q236
                                              go_wp2_with (first | (go_at_call 92; (with_reducible refine (gridhallref4_span.calls kj19 _ _ l0 x15_1 t238 _ ?side1 ?side2 A42.out).mono ?_); (case side1 => repeat (first | exact (Kd.C_below HR0.out HB.out) | (with_reducible refine Kd.C_alloc ?_ _) | (with_reducible refine Kd.C_drewN ?_ _) | (with_reducible refine Kd.C_drew ?_))); (case side2 => exact HC0.out); rintro e w49 ⟨rfl, hb⟩; have n0_ := Aside0.mk (Kd.R_below (by (with_reducible repeat (first | apply Kd.R_alloc | apply Kd.R_drewN | apply Kd.R_drew)); exact HO_5.out) hb); have n1_ := Aside0.mk (blk_below (g := gb230) (o := .cells #[.int .i64 ((rd_T119 l0 x15_1).f0), .string ((rd_T119 l0 x15_1).f1), .int .i64 ((rd_T119 l0 x15_1).f2), .int .i64 ((rd_T119 l0 x15_1).f3)] 119 (0, 0)) (by (with_reducible repeat (first | refine blk_drewN ?_ _ | refine blk_drew ?_ | refine blk_alloc ?_ _)); exact BK230.out) hb); have n2_ := Aside0.mk (below_step (by repeat (first | (with_reducible first | exact HB.out | apply below_alloc | apply pw_below_drewN | apply below_drew1 | refine below_set ?_ GE230.out) | exact HB.out)) hb); clear HO_5; clear BK230; clear HB; have HO_5 := n0_; have BK230 := n1_; have HB := n2_; clear n0_ n1_ n2_; (try clear hb); (try clear hb2); (try clear hk); (try clear hi)))
                                              go_roundg kj19
                                              case measure => have := HK1.out; have := HJ6.out; have := HJ15.out; have := HJ19.out; omega
                                              case rel => exact ⟨(wrap64 (x15_1 + 1)), (by first | rfl | (simp; done) | (simp [*]; done)), H', ⟨by have := HK1.out; have := HJ6.out; have := HJ15.out; have := HJ19.out; omega⟩, ⟨by repeat (first | (with_reducible first | exact HB.out | apply below_alloc | apply pw_below_drewN | apply below_drew1 | refine below_set ?_ GE230.out) | exact HB.out)⟩⟩
                                        · rw [if_neg c29] at H
                                          have c29b0 : (((rd_T119 l0 x15_1).f2) == 0) = false := beq_eq_false_iff_ne.mpr c29
                                          have c29b1 : (((rd_T119 l0 x15_1).f2) != 0) = true := bne_iff_ne.mpr c29
                                          obtain rfl := Option.some.inj H
                                          have hcz50_0 : wc.cell? ⟨gb230, 0, none⟩ = some (.int .i64 ((rd_T119 l0 x15_1).f0)) := (blk_cell BK230.out 0).trans rfl
                                          have hcz50_1 : wc.cell? ⟨gb230, 1, none⟩ = some (.string ((rd_T119 l0 x15_1).f1)) := (blk_cell BK230.out 1).trans rfl
                                          have hcz50_2 : wc.cell? ⟨gb230, 2, none⟩ = some (.int .i64 ((rd_T119 l0 x15_1).f2)) := (blk_cell BK230.out 2).trans rfl
                                          have hcz50_3 : wc.cell? ⟨gb230, 3, none⟩ = some (.int .i64 ((rd_T119 l0 x15_1).f3)) := (blk_cell BK230.out 3).trans rfl
                                          have hfz50_0 := blk_frozen BK230.out 0
                                          have hfz50_1 := blk_frozen BK230.out 1
                                          have hfz50_2 := blk_frozen BK230.out 2
                                          have hfz50_3 := blk_frozen BK230.out 3
                                          obtain ⟨Ao51, co51, eo51⟩ := Kd.R_slice HO_5.out
                                          subst eo51
                                          have p235 : 0 ≤ (((rd_T119 l0 x15_1).f0) : Int) := of_decide_eq_true (by first | (with_reducible assumption) | assumption)
                                          have q235 : ((rd_T119 l0 x15_1).f0) < (y231.length : Int) := of_decide_eq_true (by first | (with_reducible assumption) | assumption)
                                          obtain ⟨ad235, e235, hx235_0⟩ := Kd.at_int (Kd.R_reads' HO_5.out).2.2 ((rd_T119 l0 x15_1).f0) p235 q235
                                          cases e235
                                          replace p235 := eq_true p235
                                          replace q235 := eq_true q235
                                          go_wp2
                                          go_ret
                                          exact ⟨by first | rfl | (simp [errW_none, errW_some] <;> rfl) | (simp [*, errW_none, errW_some] <;> rfl), by repeat (first | (with_reducible first | exact HB.out | apply below_alloc | apply pw_below_drewN | apply below_drew1 | refine below_set ?_ GE230.out) | exact HB.out)⟩
                                      · rw [if_neg c28] at H
                                        have c28b0 : decide ((rd y231 ((rd_T119 l0 x15_1).f0)) < 1) = false := decide_eq_false c28
                                        clear c28
                                        by_cases c52 : (rd y231 ((rd_T119 l0 x15_1).f0)) < 2
                                        · rw [if_pos c52] at H
                                          have c52b0 : decide ((rd y231 ((rd_T119 l0 x15_1).f0)) < 2) = true := decide_eq_true c52
                                          clear c52
                                          by_cases c53 : ((rd_T119 l0 x15_1).f3) = 0
                                          · rw [if_pos c53] at H
                                            have c53b0 : (((rd_T119 l0 x15_1).f3) == 0) = true := beq_iff_eq.mpr c53
                                            have c53b1 : (((rd_T119 l0 x15_1).f3) != 0) = false := bne_eq_false_iff_eq.mpr c53
                                            clear c53
                                            replace H := Option.bind_eq_some_iff.mp H
                                            obtain ⟨t240, A540, H⟩ := H
                                            replace H : (if t240 < 0 then (some 3) else (gridhallref4_ConditionError.l0 kj19 l0 l0 (l0.length : Int) (wrap64 (x15_1 + 1)))) = some r := H
                                            have A54 := Aside0.mk A540
                                            clear A540
                                            by_cases c55 : t240 < 0
                                            · rw [if_pos c55] at H
                                              have c55b0 : decide (t240 < 0) = true := decide_eq_true c55
                                              clear c55
                                              obtain rfl := Option.some.inj H
                                              have hcz56_0 : wc.cell? ⟨gb230, 0, none⟩ = some (.int .i64 ((rd_T119 l0 x15_1).f0)) := (blk_cell BK230.out 0).trans rfl
                                              have hcz56_1 : wc.cell? ⟨gb230, 1, none⟩ = some (.string ((rd_T119 l0 x15_1).f1)) := (blk_cell BK230.out 1).trans rfl
                                              have hcz56_2 : wc.cell? ⟨gb230, 2, none⟩ = some (.int .i64 ((rd_T119 l0 x15_1).f2)) := (blk_cell BK230.out 2).trans rfl
                                              have hcz56_3 : wc.cell? ⟨gb230, 3, none⟩ = some (.int .i64 ((rd_T119 l0 x15_1).f3)) := (blk_cell BK230.out 3).trans rfl
                                              have hfz56_0 := blk_frozen BK230.out 0
                                              have hfz56_1 := blk_frozen BK230.out 1
                                              have hfz56_2 := blk_frozen BK230.out 2
                                              have hfz56_3 := blk_frozen BK230.out 3
                                              obtain ⟨Ao57, co57, eo57⟩ := Kd.R_slice HO_5.out
                                              subst eo57
                                              have p235 : 0 ≤ (((rd_T119 l0 x15_1).f0) : Int) := of_decide_eq_true (by first | (with_reducible assumption) | assumption)
                                              have q235 : ((rd_T119 l0 x15_1).f0) < (y231.length : Int) := of_decide_eq_true (by first | (with_reducible assumption) | assumption)
                                              obtain ⟨ad235, e235, hx235_0⟩ := Kd.at_int (Kd.R_reads' HO_5.out).2.2 ((rd_T119 l0 x15_1).f0) p235 q235
                                              cases e235
                                              replace p235 := eq_true p235
                                              replace q235 := eq_true q235
                                              have p239 : 0 ≤ (((rd_T119 l0 x15_1).f0) : Int) := of_decide_eq_true (by first | (with_reducible assumption) | assumption)
                                              have q239 : ((rd_T119 l0 x15_1).f0) < (y231.length : Int) := of_decide_eq_true (by first | (with_reducible assumption) | assumption)
                                              obtain ⟨ad239, e239, hx239_0⟩ := Kd.at_int (Kd.R_reads' HO_5.out).2.2 ((rd_T119 l0 x15_1).f0) p239 q239
                                              obtain rfl : ad235 = ad239 := (by injection e239)
                                              replace p239 := eq_true p239
                                              replace q239 := eq_true q239
                                              go_wp2_with (first | (go_at_call 92; (with_reducible refine (gridhallref4_span.calls kj19 _ _ l0 x15_1 t240 _ ?side1 ?side2 A54.out).mono ?_); (case side1 => repeat (first | exact (Kd.C_below HR0.out HB.out) | (with_reducible refine Kd.C_alloc ?_ _) | (with_reducible refine Kd.C_drewN ?_ _) | (with_reducible refine Kd.C_drew ?_))); (case side2 => exact HC0.out); rintro e w58 ⟨rfl, hb⟩; have n0_ := Aside0.mk (Kd.R_below (by (with_reducible repeat (first | apply Kd.R_alloc | apply Kd.R_drewN | apply Kd.R_drew)); exact HO_5.out) hb); have n1_ := Aside0.mk (blk_below (g := gb230) (o := .cells #[.int .i64 ((rd_T119 l0 x15_1).f0), .string ((rd_T119 l0 x15_1).f1), .int .i64 ((rd_T119 l0 x15_1).f2), .int .i64 ((rd_T119 l0 x15_1).f3)] 119 (0, 0)) (by (with_reducible repeat (first | refine blk_drewN ?_ _ | refine blk_drew ?_ | refine blk_alloc ?_ _)); exact BK230.out) hb); have n2_ := Aside0.mk (below_step (by repeat (first | (with_reducible first | exact HB.out | apply below_alloc | apply pw_below_drewN | apply below_drew1 | refine below_set ?_ GE230.out) | exact HB.out)) hb); clear HO_5; clear BK230; clear HB; have HO_5 := n0_; have BK230 := n1_; have HB := n2_; clear n0_ n1_ n2_; (try clear hb); (try clear hb2); (try clear hk); (try clear hi)))
                                              go_ret
                                              exact ⟨by first | rfl | (simp [errW_none, errW_some] <;> rfl) | (simp [*, errW_none, errW_some] <;> rfl), by repeat (first | (with_reducible first | exact HB.out | apply below_alloc | apply pw_below_drewN | apply below_drew1 | refine below_set ?_ GE230.out) | exact HB.out)⟩
                                            · rw [if_neg c55] at H
                                              have c55b0 : decide (t240 < 0) = false := decide_eq_false c55
                                              clear c55
                                              have H' := Aside0.mk H
                                              clear H
                                              have hcz59_0 : wc.cell? ⟨gb230, 0, none⟩ = some (.int .i64 ((rd_T119 l0 x15_1).f0)) := (blk_cell BK230.out 0).trans rfl
                                              have hcz59_1 : wc.cell? ⟨gb230, 1, none⟩ = some (.string ((rd_T119 l0 x15_1).f1)) := (blk_cell BK230.out 1).trans rfl
                                              have hcz59_2 : wc.cell? ⟨gb230, 2, none⟩ = some (.int .i64 ((rd_T119 l0 x15_1).f2)) := (blk_cell BK230.out 2).trans rfl
                                              have hcz59_3 : wc.cell? ⟨gb230, 3, none⟩ = some (.int .i64 ((rd_T119 l0 x15_1).f3)) := (blk_cell BK230.out 3).trans rfl
                                              have hfz59_0 := blk_frozen BK230.out 0
                                              have hfz59_1 := blk_frozen BK230.out 1
                                              have hfz59_2 := blk_frozen BK230.out 2
                                              have hfz59_3 := blk_frozen BK230.out 3
                                              obtain ⟨Ao60, co60, eo60⟩ := Kd.R_slice HO_5.out
                                              subst eo60
                                              have p235 : 0 ≤ (((rd_T119 l0 x15_1).f0) : Int) := of_decide_eq_true (by first | (with_reducible assumption) | assumption)
                                              have q235 : ((rd_T119 l0 x15_1).f0) < (y231.length : Int) := of_decide_eq_true (by first | (with_reducible assumption) | assumption)
                                              obtain ⟨ad235, e235, hx235_0⟩ := Kd.at_int (Kd.R_reads' HO_5.out).2.2 ((rd_T119 l0 x15_1).f0) p235 q235
                                              cases e235
                                              replace p235 := eq_true p235
                                              replace q235 := eq_true q235
                                              have p239 : 0 ≤ (((rd_T119 l0 x15_1).f0) : Int) := of_decide_eq_true (by first | (with_reducible assumption) | assumption)
                                              have q239 : ((rd_T119 l0 x15_1).f0) < (y231.length : Int) := of_decide_eq_true (by first | (with_reducible assumption) | assumption)
                                              obtain ⟨ad239, e239, hx239_0⟩ := Kd.at_int (Kd.R_reads' HO_5.out).2.2 ((rd_T119 l0 x15_1).f0) p239 q239
                                              obtain rfl : ad235 = ad239 := (by injection e239)
                                              replace p239 := eq_true p239
                                              replace q239 := eq_true q239
                                              go_wp2_with (first | (go_at_call 92; (with_reducible refine (gridhallref4_span.calls kj19 _ _ l0 x15_1 t240 _ ?side1 ?side2 A54.out).mono ?_); (case side1 => repeat (first | exact (Kd.C_below HR0.out HB.out) | (with_reducible refine Kd.C_alloc ?_ _) | (with_reducible refine Kd.C_drewN ?_ _) | (with_reducible refine Kd.C_drew ?_))); (case side2 => exact HC0.out); rintro e w61 ⟨rfl, hb⟩; have n0_ := Aside0.mk (Kd.R_below (by (with_reducible repeat (first | apply Kd.R_alloc | apply Kd.R_drewN | apply Kd.R_drew)); exact HO_5.out) hb); have n1_ := Aside0.mk (blk_below (g := gb230) (o := .cells #[.int .i64 ((rd_T119 l0 x15_1).f0), .string ((rd_T119 l0 x15_1).f1), .int .i64 ((rd_T119 l0 x15_1).f2), .int .i64 ((rd_T119 l0 x15_1).f3)] 119 (0, 0)) (by (with_reducible repeat (first | refine blk_drewN ?_ _ | refine blk_drew ?_ | refine blk_alloc ?_ _)); exact BK230.out) hb); have n2_ := Aside0.mk (below_step (by repeat (first | (with_reducible first | exact HB.out | apply below_alloc | apply pw_below_drewN | apply below_drew1 | refine below_set ?_ GE230.out) | exact HB.out)) hb); clear HO_5; clear BK230; clear HB; have HO_5 := n0_; have BK230 := n1_; have HB := n2_; clear n0_ n1_ n2_; (try clear hb); (try clear hb2); (try clear hk); (try clear hi)))
                                              go_roundg kj19
                                              case measure => have := HK1.out; have := HJ6.out; have := HJ15.out; have := HJ19.out; omega
                                              case rel => exact ⟨(wrap64 (x15_1 + 1)), (by first | rfl | (simp; done) | (simp [*]; done)), H', ⟨by have := HK1.out; have := HJ6.out; have := HJ15.out; have := HJ19.out; omega⟩, ⟨by repeat (first | (with_reducible first | exact HB.out | apply below_alloc | apply pw_below_drewN | apply below_drew1 | refine below_set ?_ GE230.out) | exact HB.out)⟩⟩
                                          · rw [if_neg c53] at H
                                            have c53b0 : (((rd_T119 l0 x15_1).f3) == 0) = false := beq_eq_false_iff_ne.mpr c53
                                            have c53b1 : (((rd_T119 l0 x15_1).f3) != 0) = true := bne_iff_ne.mpr c53
                                            obtain rfl := Option.some.inj H
                                            have hcz62_0 : wc.cell? ⟨gb230, 0, none⟩ = some (.int .i64 ((rd_T119 l0 x15_1).f0)) := (blk_cell BK230.out 0).trans rfl
                                            have hcz62_1 : wc.cell? ⟨gb230, 1, none⟩ = some (.string ((rd_T119 l0 x15_1).f1)) := (blk_cell BK230.out 1).trans rfl
                                            have hcz62_2 : wc.cell? ⟨gb230, 2, none⟩ = some (.int .i64 ((rd_T119 l0 x15_1).f2)) := (blk_cell BK230.out 2).trans rfl
                                            have hcz62_3 : wc.cell? ⟨gb230, 3, none⟩ = some (.int .i64 ((rd_T119 l0 x15_1).f3)) := (blk_cell BK230.out 3).trans rfl
                                            have hfz62_0 := blk_frozen BK230.out 0
                                            have hfz62_1 := blk_frozen BK230.out 1
                                            have hfz62_2 := blk_frozen BK230.out 2
                                            have hfz62_3 := blk_frozen BK230.out 3
                                            obtain ⟨Ao63, co63, eo63⟩ := Kd.R_slice HO_5.out
                                            subst eo63
                                            have p235 : 0 ≤ (((rd_T119 l0 x15_1).f0) : Int) := of_decide_eq_true (by first | (with_reducible assumption) | assumption)
                                            have q235 : ((rd_T119 l0 x15_1).f0) < (y231.length : Int) := of_decide_eq_true (by first | (with_reducible assumption) | assumption)
                                            obtain ⟨ad235, e235, hx235_0⟩ := Kd.at_int (Kd.R_reads' HO_5.out).2.2 ((rd_T119 l0 x15_1).f0) p235 q235
                                            cases e235
                                            replace p235 := eq_true p235
                                            replace q235 := eq_true q235
                                            have p239 : 0 ≤ (((rd_T119 l0 x15_1).f0) : Int) := of_decide_eq_true (by first | (with_reducible assumption) | assumption)
                                            have q239 : ((rd_T119 l0 x15_1).f0) < (y231.length : Int) := of_decide_eq_true (by first | (with_reducible assumption) | assumption)
                                            obtain ⟨ad239, e239, hx239_0⟩ := Kd.at_int (Kd.R_reads' HO_5.out).2.2 ((rd_T119 l0 x15_1).f0) p239 q239
                                            obtain rfl : ad235 = ad239 := (by injection e239)
                                            replace p239 := eq_true p239
                                            replace q239 := eq_true q239
                                            go_wp2
                                            go_ret
                                            exact ⟨by first | rfl | (simp [errW_none, errW_some] <;> rfl) | (simp [*, errW_none, errW_some] <;> rfl), by repeat (first | (with_reducible first | exact HB.out | apply below_alloc | apply pw_below_drewN | apply below_drew1 | refine below_set ?_ GE230.out) | exact HB.out)⟩
                                        · rw [if_neg c52] at H
                                          have c52b0 : decide ((rd y231 ((rd_T119 l0 x15_1).f0)) < 2) = false := decide_eq_false c52
                                          clear c52
                                          replace H := Option.bind_eq_some_iff.mp H
                                          obtain ⟨t241, A640, H⟩ := H
                                          replace H : (if t241 < 0 then (some 3) else (gridhallref4_ConditionError.l0 kj19 l0 l0 (l0.length : Int) (wrap64 (x15_1 + 1)))) = some r := H
                                          have A64 := Aside0.mk A640
                                          clear A640
                                          by_cases c65 : t241 < 0
                                          · rw [if_pos c65] at H
                                            have c65b0 : decide (t241 < 0) = true := decide_eq_true c65
                                            clear c65
                                            obtain rfl := Option.some.inj H
                                            have hcz66_0 : wc.cell? ⟨gb230, 0, none⟩ = some (.int .i64 ((rd_T119 l0 x15_1).f0)) := (blk_cell BK230.out 0).trans rfl
                                            have hcz66_1 : wc.cell? ⟨gb230, 1, none⟩ = some (.string ((rd_T119 l0 x15_1).f1)) := (blk_cell BK230.out 1).trans rfl
                                            have hcz66_2 : wc.cell? ⟨gb230, 2, none⟩ = some (.int .i64 ((rd_T119 l0 x15_1).f2)) := (blk_cell BK230.out 2).trans rfl
                                            have hcz66_3 : wc.cell? ⟨gb230, 3, none⟩ = some (.int .i64 ((rd_T119 l0 x15_1).f3)) := (blk_cell BK230.out 3).trans rfl
                                            have hfz66_0 := blk_frozen BK230.out 0
                                            have hfz66_1 := blk_frozen BK230.out 1
                                            have hfz66_2 := blk_frozen BK230.out 2
                                            have hfz66_3 := blk_frozen BK230.out 3
                                            obtain ⟨Ao67, co67, eo67⟩ := Kd.R_slice HO_5.out
                                            subst eo67
                                            have p235 : 0 ≤ (((rd_T119 l0 x15_1).f0) : Int) := of_decide_eq_true (by first | (with_reducible assumption) | assumption)
                                            have q235 : ((rd_T119 l0 x15_1).f0) < (y231.length : Int) := of_decide_eq_true (by first | (with_reducible assumption) | assumption)
                                            obtain ⟨ad235, e235, hx235_0⟩ := Kd.at_int (Kd.R_reads' HO_5.out).2.2 ((rd_T119 l0 x15_1).f0) p235 q235
                                            cases e235
                                            replace p235 := eq_true p235
                                            replace q235 := eq_true q235
                                            have p239 : 0 ≤ (((rd_T119 l0 x15_1).f0) : Int) := of_decide_eq_true (by first | (with_reducible assumption) | assumption)
                                            have q239 : ((rd_T119 l0 x15_1).f0) < (y231.length : Int) := of_decide_eq_true (by first | (with_reducible assumption) | assumption)
                                            obtain ⟨ad239, e239, hx239_0⟩ := Kd.at_int (Kd.R_reads' HO_5.out).2.2 ((rd_T119 l0 x15_1).f0) p239 q239
                                            obtain rfl : ad235 = ad239 := (by injection e239)
                                            replace p239 := eq_true p239
                                            replace q239 := eq_true q239
                                            go_wp2_with (first | (go_at_call 92; (with_reducible refine (gridhallref4_span.calls kj19 _ _ l0 x15_1 t241 _ ?side1 ?side2 A64.out).mono ?_); (case side1 => repeat (first | exact (Kd.C_below HR0.out HB.out) | (with_reducible refine Kd.C_alloc ?_ _) | (with_reducible refine Kd.C_drewN ?_ _) | (with_reducible refine Kd.C_drew ?_))); (case side2 => exact HC0.out); rintro e w68 ⟨rfl, hb⟩; have n0_ := Aside0.mk (Kd.R_below (by (with_reducible repeat (first | apply Kd.R_alloc | apply Kd.R_drewN | apply Kd.R_drew)); exact HO_5.out) hb); have n1_ := Aside0.mk (blk_below (g := gb230) (o := .cells #[.int .i64 ((rd_T119 l0 x15_1).f0), .string ((rd_T119 l0 x15_1).f1), .int .i64 ((rd_T119 l0 x15_1).f2), .int .i64 ((rd_T119 l0 x15_1).f3)] 119 (0, 0)) (by (with_reducible repeat (first | refine blk_drewN ?_ _ | refine blk_drew ?_ | refine blk_alloc ?_ _)); exact BK230.out) hb); have n2_ := Aside0.mk (below_step (by repeat (first | (with_reducible first | exact HB.out | apply below_alloc | apply pw_below_drewN | apply below_drew1 | refine below_set ?_ GE230.out) | exact HB.out)) hb); clear HO_5; clear BK230; clear HB; have HO_5 := n0_; have BK230 := n1_; have HB := n2_; clear n0_ n1_ n2_; (try clear hb); (try clear hb2); (try clear hk); (try clear hi)))
                                            go_ret
                                            exact ⟨by first | rfl | (simp [errW_none, errW_some] <;> rfl) | (simp [*, errW_none, errW_some] <;> rfl), by repeat (first | (with_reducible first | exact HB.out | apply below_alloc | apply pw_below_drewN | apply below_drew1 | refine below_set ?_ GE230.out) | exact HB.out)⟩
                                          · rw [if_neg c65] at H
                                            have c65b0 : decide (t241 < 0) = false := decide_eq_false c65
                                            clear c65
                                            have H' := Aside0.mk H
                                            clear H
                                            have hcz69_0 : wc.cell? ⟨gb230, 0, none⟩ = some (.int .i64 ((rd_T119 l0 x15_1).f0)) := (blk_cell BK230.out 0).trans rfl
                                            have hcz69_1 : wc.cell? ⟨gb230, 1, none⟩ = some (.string ((rd_T119 l0 x15_1).f1)) := (blk_cell BK230.out 1).trans rfl
                                            have hcz69_2 : wc.cell? ⟨gb230, 2, none⟩ = some (.int .i64 ((rd_T119 l0 x15_1).f2)) := (blk_cell BK230.out 2).trans rfl
                                            have hcz69_3 : wc.cell? ⟨gb230, 3, none⟩ = some (.int .i64 ((rd_T119 l0 x15_1).f3)) := (blk_cell BK230.out 3).trans rfl
                                            have hfz69_0 := blk_frozen BK230.out 0
                                            have hfz69_1 := blk_frozen BK230.out 1
                                            have hfz69_2 := blk_frozen BK230.out 2
                                            have hfz69_3 := blk_frozen BK230.out 3
                                            obtain ⟨Ao70, co70, eo70⟩ := Kd.R_slice HO_5.out
                                            subst eo70
                                            have p235 : 0 ≤ (((rd_T119 l0 x15_1).f0) : Int) := of_decide_eq_true (by first | (with_reducible assumption) | assumption)
                                            have q235 : ((rd_T119 l0 x15_1).f0) < (y231.length : Int) := of_decide_eq_true (by first | (with_reducible assumption) | assumption)
                                            obtain ⟨ad235, e235, hx235_0⟩ := Kd.at_int (Kd.R_reads' HO_5.out).2.2 ((rd_T119 l0 x15_1).f0) p235 q235
                                            cases e235
                                            replace p235 := eq_true p235
                                            replace q235 := eq_true q235
                                            have p239 : 0 ≤ (((rd_T119 l0 x15_1).f0) : Int) := of_decide_eq_true (by first | (with_reducible assumption) | assumption)
                                            have q239 : ((rd_T119 l0 x15_1).f0) < (y231.length : Int) := of_decide_eq_true (by first | (with_reducible assumption) | assumption)
                                            obtain ⟨ad239, e239, hx239_0⟩ := Kd.at_int (Kd.R_reads' HO_5.out).2.2 ((rd_T119 l0 x15_1).f0) p239 q239
                                            obtain rfl : ad235 = ad239 := (by injection e239)
                                            replace p239 := eq_true p239
                                            replace q239 := eq_true q239
                                            go_wp2_with (first | (go_at_call 92; (with_reducible refine (gridhallref4_span.calls kj19 _ _ l0 x15_1 t241 _ ?side1 ?side2 A64.out).mono ?_); (case side1 => repeat (first | exact (Kd.C_below HR0.out HB.out) | (with_reducible refine Kd.C_alloc ?_ _) | (with_reducible refine Kd.C_drewN ?_ _) | (with_reducible refine Kd.C_drew ?_))); (case side2 => exact HC0.out); rintro e w71 ⟨rfl, hb⟩; have n0_ := Aside0.mk (Kd.R_below (by (with_reducible repeat (first | apply Kd.R_alloc | apply Kd.R_drewN | apply Kd.R_drew)); exact HO_5.out) hb); have n1_ := Aside0.mk (blk_below (g := gb230) (o := .cells #[.int .i64 ((rd_T119 l0 x15_1).f0), .string ((rd_T119 l0 x15_1).f1), .int .i64 ((rd_T119 l0 x15_1).f2), .int .i64 ((rd_T119 l0 x15_1).f3)] 119 (0, 0)) (by (with_reducible repeat (first | refine blk_drewN ?_ _ | refine blk_drew ?_ | refine blk_alloc ?_ _)); exact BK230.out) hb); have n2_ := Aside0.mk (below_step (by repeat (first | (with_reducible first | exact HB.out | apply below_alloc | apply pw_below_drewN | apply below_drew1 | refine below_set ?_ GE230.out) | exact HB.out)) hb); clear HO_5; clear BK230; clear HB; have HO_5 := n0_; have BK230 := n1_; have HB := n2_; clear n0_ n1_ n2_; (try clear hb); (try clear hb2); (try clear hk); (try clear hi)))
                                            go_roundg kj19
                                            case measure => have := HK1.out; have := HJ6.out; have := HJ15.out; have := HJ19.out; omega
                                            case rel => exact ⟨(wrap64 (x15_1 + 1)), (by first | rfl | (simp; done) | (simp [*]; done)), H', ⟨by have := HK1.out; have := HJ6.out; have := HJ15.out; have := HJ19.out; omega⟩, ⟨by repeat (first | (with_reducible first | exact HB.out | apply below_alloc | apply pw_below_drewN | apply below_drew1 | refine below_set ?_ GE230.out) | exact HB.out)⟩⟩
                                    · rw [if_neg c27] at H
                                      exact absurd H (by simp)
                                  · rw [if_neg c26] at H
                                    exact absurd H (by simp)
                                · replace c25 := Bool.eq_false_iff.mpr c25
                                  subst c25
                                  have H1 : (if ((rd_T119 l0 x15_1).f1).toList = ([] : List UInt8) then (if 0 ≤ ((rd_T119 l0 x15_1).f0) then (if ((rd_T119 l0 x15_1).f0) < (y231.length : Int) then (if (rd y231 ((rd_T119 l0 x15_1).f0)) < 1 then (if ((rd_T119 l0 x15_1).f2) = 0 then (if (rd y231 ((rd_T119 l0 x15_1).f0)) < 2 then (if ((rd_T119 l0 x15_1).f3) = 0 then ((gridhallref4_span.f kj19 l0 x15_1).bind fun t244 => (if t244 < 0 then (some 3) else (gridhallref4_ConditionError.l0 kj19 l0 l0 (l0.length : Int) (wrap64 (x15_1 + 1))))) else (some 3)) else ((gridhallref4_span.f kj19 l0 x15_1).bind fun t245 => (if t245 < 0 then (some 3) else (gridhallref4_ConditionError.l0 kj19 l0 l0 (l0.length : Int) (wrap64 (x15_1 + 1)))))) else (some 3)) else (if (rd y231 ((rd_T119 l0 x15_1).f0)) < 2 then (if ((rd_T119 l0 x15_1).f3) = 0 then ((gridhallref4_span.f kj19 l0 x15_1).bind fun t247 => (if t247 < 0 then (some 3) else (gridhallref4_ConditionError.l0 kj19 l0 l0 (l0.length : Int) (wrap64 (x15_1 + 1))))) else (some 3)) else ((gridhallref4_span.f kj19 l0 x15_1).bind fun t248 => (if t248 < 0 then (some 3) else (gridhallref4_ConditionError.l0 kj19 l0 l0 (l0.length : Int) (wrap64 (x15_1 + 1))))))) else (none)) else (none)) else (some 3)) = some r := by rw [if_neg (show ¬ (false = true) by decide)] at H; exact H
                                  clear H
                                  have H := H1
                                  clear H1
                                  by_cases c72 : ((rd_T119 l0 x15_1).f1).toList = ([] : List UInt8)
                                  · rw [if_pos c72] at H
                                    have c72b0 : (((rd_T119 l0 x15_1).f1).toList == ([] : List UInt8)) = true := beq_iff_eq.mpr c72
                                    have c72b1 : (((rd_T119 l0 x15_1).f1).toList != ([] : List UInt8)) = false := bne_eq_false_iff_eq.mpr c72
                                    clear c72
                                    by_cases c73 : 0 ≤ ((rd_T119 l0 x15_1).f0)
                                    · rw [if_pos c73] at H
                                      have c73b0 : decide (0 ≤ ((rd_T119 l0 x15_1).f0)) = true := decide_eq_true c73
                                      clear c73
                                      by_cases c74 : ((rd_T119 l0 x15_1).f0) < (y231.length : Int)
                                      · rw [if_pos c74] at H
                                        have c74b0 : decide (((rd_T119 l0 x15_1).f0) < (y231.length : Int)) = true := decide_eq_true c74
                                        clear c74
                                        by_cases c75 : (rd y231 ((rd_T119 l0 x15_1).f0)) < 1
                                        · rw [if_pos c75] at H
                                          have c75b0 : decide ((rd y231 ((rd_T119 l0 x15_1).f0)) < 1) = true := decide_eq_true c75
                                          clear c75
                                          by_cases c76 : ((rd_T119 l0 x15_1).f2) = 0
                                          · rw [if_pos c76] at H
                                            have c76b0 : (((rd_T119 l0 x15_1).f2) == 0) = true := beq_iff_eq.mpr c76
                                            have c76b1 : (((rd_T119 l0 x15_1).f2) != 0) = false := bne_eq_false_iff_eq.mpr c76
                                            clear c76
                                            by_cases c77 : (rd y231 ((rd_T119 l0 x15_1).f0)) < 2
                                            · rw [if_pos c77] at H
                                              have c77b0 : decide ((rd y231 ((rd_T119 l0 x15_1).f0)) < 2) = true := decide_eq_true c77
                                              clear c77
                                              by_cases c78 : ((rd_T119 l0 x15_1).f3) = 0
                                              · rw [if_pos c78] at H
                                                have c78b0 : (((rd_T119 l0 x15_1).f3) == 0) = true := beq_iff_eq.mpr c78
                                                have c78b1 : (((rd_T119 l0 x15_1).f3) != 0) = false := bne_eq_false_iff_eq.mpr c78
                                                clear c78
                                                replace H := Option.bind_eq_some_iff.mp H
                                                obtain ⟨t244, A790, H⟩ := H
                                                replace H : (if t244 < 0 then (some 3) else (gridhallref4_ConditionError.l0 kj19 l0 l0 (l0.length : Int) (wrap64 (x15_1 + 1)))) = some r := H
                                                have A79 := Aside0.mk A790
                                                clear A790
                                                by_cases c80 : t244 < 0
                                                · rw [if_pos c80] at H
                                                  have c80b0 : decide (t244 < 0) = true := decide_eq_true c80
                                                  clear c80
                                                  obtain rfl := Option.some.inj H
                                                  have hcz81_0 : wc.cell? ⟨gb230, 0, none⟩ = some (.int .i64 ((rd_T119 l0 x15_1).f0)) := (blk_cell BK230.out 0).trans rfl
                                                  have hcz81_1 : wc.cell? ⟨gb230, 1, none⟩ = some (.string ((rd_T119 l0 x15_1).f1)) := (blk_cell BK230.out 1).trans rfl
                                                  have hcz81_2 : wc.cell? ⟨gb230, 2, none⟩ = some (.int .i64 ((rd_T119 l0 x15_1).f2)) := (blk_cell BK230.out 2).trans rfl
                                                  have hcz81_3 : wc.cell? ⟨gb230, 3, none⟩ = some (.int .i64 ((rd_T119 l0 x15_1).f3)) := (blk_cell BK230.out 3).trans rfl
                                                  have hfz81_0 := blk_frozen BK230.out 0
                                                  have hfz81_1 := blk_frozen BK230.out 1
                                                  have hfz81_2 := blk_frozen BK230.out 2
                                                  have hfz81_3 := blk_frozen BK230.out 3
                                                  obtain ⟨Ao82, co82, eo82⟩ := Kd.R_slice HO_5.out
                                                  subst eo82
                                                  have p242 : 0 ≤ (((rd_T119 l0 x15_1).f0) : Int) := of_decide_eq_true (by first | (with_reducible assumption) | assumption)
                                                  have q242 : ((rd_T119 l0 x15_1).f0) < (y231.length : Int) := of_decide_eq_true (by first | (with_reducible assumption) | assumption)
                                                  obtain ⟨ad242, e242, hx242_0⟩ := Kd.at_int (Kd.R_reads' HO_5.out).2.2 ((rd_T119 l0 x15_1).f0) p242 q242
                                                  cases e242
                                                  replace p242 := eq_true p242
                                                  replace q242 := eq_true q242
                                                  have p243 : 0 ≤ (((rd_T119 l0 x15_1).f0) : Int) := of_decide_eq_true (by first | (with_reducible assumption) | assumption)
                                                  have q243 : ((rd_T119 l0 x15_1).f0) < (y231.length : Int) := of_decide_eq_true (by first | (with_reducible assumption) | assumption)
                                                  obtain ⟨ad243, e243, hx243_0⟩ := Kd.at_int (Kd.R_reads' HO_5.out).2.2 ((rd_T119 l0 x15_1).f0) p243 q243
                                                  obtain rfl : ad242 = ad243 := (by injection e243)
                                                  replace p243 := eq_true p243
                                                  replace q243 := eq_true q243
                                                  go_wp2_with (first | (go_at_call 92; (with_reducible refine (gridhallref4_span.calls kj19 _ _ l0 x15_1 t244 _ ?side1 ?side2 A79.out).mono ?_); (case side1 => repeat (first | exact (Kd.C_below HR0.out HB.out) | (with_reducible refine Kd.C_alloc ?_ _) | (with_reducible refine Kd.C_drewN ?_ _) | (with_reducible refine Kd.C_drew ?_))); (case side2 => exact HC0.out); rintro e w83 ⟨rfl, hb⟩; have n0_ := Aside0.mk (Kd.R_below (by (with_reducible repeat (first | apply Kd.R_alloc | apply Kd.R_drewN | apply Kd.R_drew)); exact HO_5.out) hb); have n1_ := Aside0.mk (blk_below (g := gb230) (o := .cells #[.int .i64 ((rd_T119 l0 x15_1).f0), .string ((rd_T119 l0 x15_1).f1), .int .i64 ((rd_T119 l0 x15_1).f2), .int .i64 ((rd_T119 l0 x15_1).f3)] 119 (0, 0)) (by (with_reducible repeat (first | refine blk_drewN ?_ _ | refine blk_drew ?_ | refine blk_alloc ?_ _)); exact BK230.out) hb); have n2_ := Aside0.mk (below_step (by repeat (first | (with_reducible first | exact HB.out | apply below_alloc | apply pw_below_drewN | apply below_drew1 | refine below_set ?_ GE230.out) | exact HB.out)) hb); clear HO_5; clear BK230; clear HB; have HO_5 := n0_; have BK230 := n1_; have HB := n2_; clear n0_ n1_ n2_; (try clear hb); (try clear hb2); (try clear hk); (try clear hi)))
                                                  go_ret
                                                  exact ⟨by first | rfl | (simp [errW_none, errW_some] <;> rfl) | (simp [*, errW_none, errW_some] <;> rfl), by repeat (first | (with_reducible first | exact HB.out | apply below_alloc | apply pw_below_drewN | apply below_drew1 | refine below_set ?_ GE230.out) | exact HB.out)⟩
                                                · rw [if_neg c80] at H
                                                  have c80b0 : decide (t244 < 0) = false := decide_eq_false c80
                                                  clear c80
                                                  have H' := Aside0.mk H
                                                  clear H
                                                  have hcz84_0 : wc.cell? ⟨gb230, 0, none⟩ = some (.int .i64 ((rd_T119 l0 x15_1).f0)) := (blk_cell BK230.out 0).trans rfl
                                                  have hcz84_1 : wc.cell? ⟨gb230, 1, none⟩ = some (.string ((rd_T119 l0 x15_1).f1)) := (blk_cell BK230.out 1).trans rfl
                                                  have hcz84_2 : wc.cell? ⟨gb230, 2, none⟩ = some (.int .i64 ((rd_T119 l0 x15_1).f2)) := (blk_cell BK230.out 2).trans rfl
                                                  have hcz84_3 : wc.cell? ⟨gb230, 3, none⟩ = some (.int .i64 ((rd_T119 l0 x15_1).f3)) := (blk_cell BK230.out 3).trans rfl
                                                  have hfz84_0 := blk_frozen BK230.out 0
                                                  have hfz84_1 := blk_frozen BK230.out 1
                                                  have hfz84_2 := blk_frozen BK230.out 2
                                                  have hfz84_3 := blk_frozen BK230.out 3
                                                  obtain ⟨Ao85, co85, eo85⟩ := Kd.R_slice HO_5.out
                                                  subst eo85
                                                  have p242 : 0 ≤ (((rd_T119 l0 x15_1).f0) : Int) := of_decide_eq_true (by first | (with_reducible assumption) | assumption)
                                                  have q242 : ((rd_T119 l0 x15_1).f0) < (y231.length : Int) := of_decide_eq_true (by first | (with_reducible assumption) | assumption)
                                                  obtain ⟨ad242, e242, hx242_0⟩ := Kd.at_int (Kd.R_reads' HO_5.out).2.2 ((rd_T119 l0 x15_1).f0) p242 q242
                                                  cases e242
                                                  replace p242 := eq_true p242
                                                  replace q242 := eq_true q242
                                                  have p243 : 0 ≤ (((rd_T119 l0 x15_1).f0) : Int) := of_decide_eq_true (by first | (with_reducible assumption) | assumption)
                                                  have q243 : ((rd_T119 l0 x15_1).f0) < (y231.length : Int) := of_decide_eq_true (by first | (with_reducible assumption) | assumption)
                                                  obtain ⟨ad243, e243, hx243_0⟩ := Kd.at_int (Kd.R_reads' HO_5.out).2.2 ((rd_T119 l0 x15_1).f0) p243 q243
                                                  obtain rfl : ad242 = ad243 := (by injection e243)
                                                  replace p243 := eq_true p243
                                                  replace q243 := eq_true q243
                                                  go_wp2_with (first | (go_at_call 92; (with_reducible refine (gridhallref4_span.calls kj19 _ _ l0 x15_1 t244 _ ?side1 ?side2 A79.out).mono ?_); (case side1 => repeat (first | exact (Kd.C_below HR0.out HB.out) | (with_reducible refine Kd.C_alloc ?_ _) | (with_reducible refine Kd.C_drewN ?_ _) | (with_reducible refine Kd.C_drew ?_))); (case side2 => exact HC0.out); rintro e w86 ⟨rfl, hb⟩; have n0_ := Aside0.mk (Kd.R_below (by (with_reducible repeat (first | apply Kd.R_alloc | apply Kd.R_drewN | apply Kd.R_drew)); exact HO_5.out) hb); have n1_ := Aside0.mk (blk_below (g := gb230) (o := .cells #[.int .i64 ((rd_T119 l0 x15_1).f0), .string ((rd_T119 l0 x15_1).f1), .int .i64 ((rd_T119 l0 x15_1).f2), .int .i64 ((rd_T119 l0 x15_1).f3)] 119 (0, 0)) (by (with_reducible repeat (first | refine blk_drewN ?_ _ | refine blk_drew ?_ | refine blk_alloc ?_ _)); exact BK230.out) hb); have n2_ := Aside0.mk (below_step (by repeat (first | (with_reducible first | exact HB.out | apply below_alloc | apply pw_below_drewN | apply below_drew1 | refine below_set ?_ GE230.out) | exact HB.out)) hb); clear HO_5; clear BK230; clear HB; have HO_5 := n0_; have BK230 := n1_; have HB := n2_; clear n0_ n1_ n2_; (try clear hb); (try clear hb2); (try clear hk); (try clear hi)))
                                                  go_roundg kj19
                                                  case measure => have := HK1.out; have := HJ6.out; have := HJ15.out; have := HJ19.out; omega
                                                  case rel => exact ⟨(wrap64 (x15_1 + 1)), (by first | rfl | (simp; done) | (simp [*]; done)), H', ⟨by have := HK1.out; have := HJ6.out; have := HJ15.out; have := HJ19.out; omega⟩, ⟨by repeat (first | (with_reducible first | exact HB.out | apply below_alloc | apply pw_below_drewN | apply below_drew1 | refine below_set ?_ GE230.out) | exact HB.out)⟩⟩
                                              · rw [if_neg c78] at H
                                                have c78b0 : (((rd_T119 l0 x15_1).f3) == 0) = false := beq_eq_false_iff_ne.mpr c78
                                                have c78b1 : (((rd_T119 l0 x15_1).f3) != 0) = true := bne_iff_ne.mpr c78
                                                obtain rfl := Option.some.inj H
                                                have hcz87_0 : wc.cell? ⟨gb230, 0, none⟩ = some (.int .i64 ((rd_T119 l0 x15_1).f0)) := (blk_cell BK230.out 0).trans rfl
                                                have hcz87_1 : wc.cell? ⟨gb230, 1, none⟩ = some (.string ((rd_T119 l0 x15_1).f1)) := (blk_cell BK230.out 1).trans rfl
                                                have hcz87_2 : wc.cell? ⟨gb230, 2, none⟩ = some (.int .i64 ((rd_T119 l0 x15_1).f2)) := (blk_cell BK230.out 2).trans rfl
                                                have hcz87_3 : wc.cell? ⟨gb230, 3, none⟩ = some (.int .i64 ((rd_T119 l0 x15_1).f3)) := (blk_cell BK230.out 3).trans rfl
                                                have hfz87_0 := blk_frozen BK230.out 0
                                                have hfz87_1 := blk_frozen BK230.out 1
                                                have hfz87_2 := blk_frozen BK230.out 2
                                                have hfz87_3 := blk_frozen BK230.out 3
                                                obtain ⟨Ao88, co88, eo88⟩ := Kd.R_slice HO_5.out
                                                subst eo88
                                                have p242 : 0 ≤ (((rd_T119 l0 x15_1).f0) : Int) := of_decide_eq_true (by first | (with_reducible assumption) | assumption)
                                                have q242 : ((rd_T119 l0 x15_1).f0) < (y231.length : Int) := of_decide_eq_true (by first | (with_reducible assumption) | assumption)
                                                obtain ⟨ad242, e242, hx242_0⟩ := Kd.at_int (Kd.R_reads' HO_5.out).2.2 ((rd_T119 l0 x15_1).f0) p242 q242
                                                cases e242
                                                replace p242 := eq_true p242
                                                replace q242 := eq_true q242
                                                have p243 : 0 ≤ (((rd_T119 l0 x15_1).f0) : Int) := of_decide_eq_true (by first | (with_reducible assumption) | assumption)
                                                have q243 : ((rd_T119 l0 x15_1).f0) < (y231.length : Int) := of_decide_eq_true (by first | (with_reducible assumption) | assumption)
                                                obtain ⟨ad243, e243, hx243_0⟩ := Kd.at_int (Kd.R_reads' HO_5.out).2.2 ((rd_T119 l0 x15_1).f0) p243 q243
                                                obtain rfl : ad242 = ad243 := (by injection e243)
                                                replace p243 := eq_true p243
                                                replace q243 := eq_true q243
                                                go_wp2
                                                go_ret
                                                exact ⟨by first | rfl | (simp [errW_none, errW_some] <;> rfl) | (simp [*, errW_none, errW_some] <;> rfl), by repeat (first | (with_reducible first | exact HB.out | apply below_alloc | apply pw_below_drewN | apply below_drew1 | refine below_set ?_ GE230.out) | exact HB.out)⟩
                                            · rw [if_neg c77] at H
                                              have c77b0 : decide ((rd y231 ((rd_T119 l0 x15_1).f0)) < 2) = false := decide_eq_false c77
                                              clear c77
                                              replace H := Option.bind_eq_some_iff.mp H
                                              obtain ⟨t245, A890, H⟩ := H
                                              replace H : (if t245 < 0 then (some 3) else (gridhallref4_ConditionError.l0 kj19 l0 l0 (l0.length : Int) (wrap64 (x15_1 + 1)))) = some r := H
                                              have A89 := Aside0.mk A890
                                              clear A890
                                              by_cases c90 : t245 < 0
                                              · rw [if_pos c90] at H
                                                have c90b0 : decide (t245 < 0) = true := decide_eq_true c90
                                                clear c90
                                                obtain rfl := Option.some.inj H
                                                have hcz91_0 : wc.cell? ⟨gb230, 0, none⟩ = some (.int .i64 ((rd_T119 l0 x15_1).f0)) := (blk_cell BK230.out 0).trans rfl
                                                have hcz91_1 : wc.cell? ⟨gb230, 1, none⟩ = some (.string ((rd_T119 l0 x15_1).f1)) := (blk_cell BK230.out 1).trans rfl
                                                have hcz91_2 : wc.cell? ⟨gb230, 2, none⟩ = some (.int .i64 ((rd_T119 l0 x15_1).f2)) := (blk_cell BK230.out 2).trans rfl
                                                have hcz91_3 : wc.cell? ⟨gb230, 3, none⟩ = some (.int .i64 ((rd_T119 l0 x15_1).f3)) := (blk_cell BK230.out 3).trans rfl
                                                have hfz91_0 := blk_frozen BK230.out 0
                                                have hfz91_1 := blk_frozen BK230.out 1
                                                have hfz91_2 := blk_frozen BK230.out 2
                                                have hfz91_3 := blk_frozen BK230.out 3
                                                obtain ⟨Ao92, co92, eo92⟩ := Kd.R_slice HO_5.out
                                                subst eo92
                                                have p242 : 0 ≤ (((rd_T119 l0 x15_1).f0) : Int) := of_decide_eq_true (by first | (with_reducible assumption) | assumption)
                                                have q242 : ((rd_T119 l0 x15_1).f0) < (y231.length : Int) := of_decide_eq_true (by first | (with_reducible assumption) | assumption)
                                                obtain ⟨ad242, e242, hx242_0⟩ := Kd.at_int (Kd.R_reads' HO_5.out).2.2 ((rd_T119 l0 x15_1).f0) p242 q242
                                                cases e242
                                                replace p242 := eq_true p242
                                                replace q242 := eq_true q242
                                                have p243 : 0 ≤ (((rd_T119 l0 x15_1).f0) : Int) := of_decide_eq_true (by first | (with_reducible assumption) | assumption)
                                                have q243 : ((rd_T119 l0 x15_1).f0) < (y231.length : Int) := of_decide_eq_true (by first | (with_reducible assumption) | assumption)
                                                obtain ⟨ad243, e243, hx243_0⟩ := Kd.at_int (Kd.R_reads' HO_5.out).2.2 ((rd_T119 l0 x15_1).f0) p243 q243
                                                obtain rfl : ad242 = ad243 := (by injection e243)
                                                replace p243 := eq_true p243
                                                replace q243 := eq_true q243
                                                go_wp2_with (first | (go_at_call 92; (with_reducible refine (gridhallref4_span.calls kj19 _ _ l0 x15_1 t245 _ ?side1 ?side2 A89.out).mono ?_); (case side1 => repeat (first | exact (Kd.C_below HR0.out HB.out) | (with_reducible refine Kd.C_alloc ?_ _) | (with_reducible refine Kd.C_drewN ?_ _) | (with_reducible refine Kd.C_drew ?_))); (case side2 => exact HC0.out); rintro e w93 ⟨rfl, hb⟩; have n0_ := Aside0.mk (Kd.R_below (by (with_reducible repeat (first | apply Kd.R_alloc | apply Kd.R_drewN | apply Kd.R_drew)); exact HO_5.out) hb); have n1_ := Aside0.mk (blk_below (g := gb230) (o := .cells #[.int .i64 ((rd_T119 l0 x15_1).f0), .string ((rd_T119 l0 x15_1).f1), .int .i64 ((rd_T119 l0 x15_1).f2), .int .i64 ((rd_T119 l0 x15_1).f3)] 119 (0, 0)) (by (with_reducible repeat (first | refine blk_drewN ?_ _ | refine blk_drew ?_ | refine blk_alloc ?_ _)); exact BK230.out) hb); have n2_ := Aside0.mk (below_step (by repeat (first | (with_reducible first | exact HB.out | apply below_alloc | apply pw_below_drewN | apply below_drew1 | refine below_set ?_ GE230.out) | exact HB.out)) hb); clear HO_5; clear BK230; clear HB; have HO_5 := n0_; have BK230 := n1_; have HB := n2_; clear n0_ n1_ n2_; (try clear hb); (try clear hb2); (try clear hk); (try clear hi)))
                                                go_ret
                                                exact ⟨by first | rfl | (simp [errW_none, errW_some] <;> rfl) | (simp [*, errW_none, errW_some] <;> rfl), by repeat (first | (with_reducible first | exact HB.out | apply below_alloc | apply pw_below_drewN | apply below_drew1 | refine below_set ?_ GE230.out) | exact HB.out)⟩
                                              · rw [if_neg c90] at H
                                                have c90b0 : decide (t245 < 0) = false := decide_eq_false c90
                                                clear c90
                                                have H' := Aside0.mk H
                                                clear H
                                                have hcz94_0 : wc.cell? ⟨gb230, 0, none⟩ = some (.int .i64 ((rd_T119 l0 x15_1).f0)) := (blk_cell BK230.out 0).trans rfl
                                                have hcz94_1 : wc.cell? ⟨gb230, 1, none⟩ = some (.string ((rd_T119 l0 x15_1).f1)) := (blk_cell BK230.out 1).trans rfl
                                                have hcz94_2 : wc.cell? ⟨gb230, 2, none⟩ = some (.int .i64 ((rd_T119 l0 x15_1).f2)) := (blk_cell BK230.out 2).trans rfl
                                                have hcz94_3 : wc.cell? ⟨gb230, 3, none⟩ = some (.int .i64 ((rd_T119 l0 x15_1).f3)) := (blk_cell BK230.out 3).trans rfl
                                                have hfz94_0 := blk_frozen BK230.out 0
                                                have hfz94_1 := blk_frozen BK230.out 1
                                                have hfz94_2 := blk_frozen BK230.out 2
                                                have hfz94_3 := blk_frozen BK230.out 3
                                                obtain ⟨Ao95, co95, eo95⟩ := Kd.R_slice HO_5.out
                                                subst eo95
                                                have p242 : 0 ≤ (((rd_T119 l0 x15_1).f0) : Int) := of_decide_eq_true (by first | (with_reducible assumption) | assumption)
                                                have q242 : ((rd_T119 l0 x15_1).f0) < (y231.length : Int) := of_decide_eq_true (by first | (with_reducible assumption) | assumption)
                                                obtain ⟨ad242, e242, hx242_0⟩ := Kd.at_int (Kd.R_reads' HO_5.out).2.2 ((rd_T119 l0 x15_1).f0) p242 q242
                                                cases e242
                                                replace p242 := eq_true p242
                                                replace q242 := eq_true q242
                                                have p243 : 0 ≤ (((rd_T119 l0 x15_1).f0) : Int) := of_decide_eq_true (by first | (with_reducible assumption) | assumption)
                                                have q243 : ((rd_T119 l0 x15_1).f0) < (y231.length : Int) := of_decide_eq_true (by first | (with_reducible assumption) | assumption)
                                                obtain ⟨ad243, e243, hx243_0⟩ := Kd.at_int (Kd.R_reads' HO_5.out).2.2 ((rd_T119 l0 x15_1).f0) p243 q243
                                                obtain rfl : ad242 = ad243 := (by injection e243)
                                                replace p243 := eq_true p243
                                                replace q243 := eq_true q243
                                                go_wp2_with (first | (go_at_call 92; (with_reducible refine (gridhallref4_span.calls kj19 _ _ l0 x15_1 t245 _ ?side1 ?side2 A89.out).mono ?_); (case side1 => repeat (first | exact (Kd.C_below HR0.out HB.out) | (with_reducible refine Kd.C_alloc ?_ _) | (with_reducible refine Kd.C_drewN ?_ _) | (with_reducible refine Kd.C_drew ?_))); (case side2 => exact HC0.out); rintro e w96 ⟨rfl, hb⟩; have n0_ := Aside0.mk (Kd.R_below (by (with_reducible repeat (first | apply Kd.R_alloc | apply Kd.R_drewN | apply Kd.R_drew)); exact HO_5.out) hb); have n1_ := Aside0.mk (blk_below (g := gb230) (o := .cells #[.int .i64 ((rd_T119 l0 x15_1).f0), .string ((rd_T119 l0 x15_1).f1), .int .i64 ((rd_T119 l0 x15_1).f2), .int .i64 ((rd_T119 l0 x15_1).f3)] 119 (0, 0)) (by (with_reducible repeat (first | refine blk_drewN ?_ _ | refine blk_drew ?_ | refine blk_alloc ?_ _)); exact BK230.out) hb); have n2_ := Aside0.mk (below_step (by repeat (first | (with_reducible first | exact HB.out | apply below_alloc | apply pw_below_drewN | apply below_drew1 | refine below_set ?_ GE230.out) | exact HB.out)) hb); clear HO_5; clear BK230; clear HB; have HO_5 := n0_; have BK230 := n1_; have HB := n2_; clear n0_ n1_ n2_; (try clear hb); (try clear hb2); (try clear hk); (try clear hi)))
                                                go_roundg kj19
                                                case measure => have := HK1.out; have := HJ6.out; have := HJ15.out; have := HJ19.out; omega
                                                case rel => exact ⟨(wrap64 (x15_1 + 1)), (by first | rfl | (simp; done) | (simp [*]; done)), H', ⟨by have := HK1.out; have := HJ6.out; have := HJ15.out; have := HJ19.out; omega⟩, ⟨by repeat (first | (with_reducible first | exact HB.out | apply below_alloc | apply pw_below_drewN | apply below_drew1 | refine below_set ?_ GE230.out) | exact HB.out)⟩⟩
                                          · rw [if_neg c76] at H
                                            have c76b0 : (((rd_T119 l0 x15_1).f2) == 0) = false := beq_eq_false_iff_ne.mpr c76
                                            have c76b1 : (((rd_T119 l0 x15_1).f2) != 0) = true := bne_iff_ne.mpr c76
                                            obtain rfl := Option.some.inj H
                                            have hcz97_0 : wc.cell? ⟨gb230, 0, none⟩ = some (.int .i64 ((rd_T119 l0 x15_1).f0)) := (blk_cell BK230.out 0).trans rfl
                                            have hcz97_1 : wc.cell? ⟨gb230, 1, none⟩ = some (.string ((rd_T119 l0 x15_1).f1)) := (blk_cell BK230.out 1).trans rfl
                                            have hcz97_2 : wc.cell? ⟨gb230, 2, none⟩ = some (.int .i64 ((rd_T119 l0 x15_1).f2)) := (blk_cell BK230.out 2).trans rfl
                                            have hcz97_3 : wc.cell? ⟨gb230, 3, none⟩ = some (.int .i64 ((rd_T119 l0 x15_1).f3)) := (blk_cell BK230.out 3).trans rfl
                                            have hfz97_0 := blk_frozen BK230.out 0
                                            have hfz97_1 := blk_frozen BK230.out 1
                                            have hfz97_2 := blk_frozen BK230.out 2
                                            have hfz97_3 := blk_frozen BK230.out 3
                                            obtain ⟨Ao98, co98, eo98⟩ := Kd.R_slice HO_5.out
                                            subst eo98
                                            have p242 : 0 ≤ (((rd_T119 l0 x15_1).f0) : Int) := of_decide_eq_true (by first | (with_reducible assumption) | assumption)
                                            have q242 : ((rd_T119 l0 x15_1).f0) < (y231.length : Int) := of_decide_eq_true (by first | (with_reducible assumption) | assumption)
                                            obtain ⟨ad242, e242, hx242_0⟩ := Kd.at_int (Kd.R_reads' HO_5.out).2.2 ((rd_T119 l0 x15_1).f0) p242 q242
                                            cases e242
                                            replace p242 := eq_true p242
                                            replace q242 := eq_true q242
                                            go_wp2
                                            go_ret
                                            exact ⟨by first | rfl | (simp [errW_none, errW_some] <;> rfl) | (simp [*, errW_none, errW_some] <;> rfl), by repeat (first | (with_reducible first | exact HB.out | apply below_alloc | apply pw_below_drewN | apply below_drew1 | refine below_set ?_ GE230.out) | exact HB.out)⟩
                                        · rw [if_neg c75] at H
                                          have c75b0 : decide ((rd y231 ((rd_T119 l0 x15_1).f0)) < 1) = false := decide_eq_false c75
                                          clear c75
                                          by_cases c99 : (rd y231 ((rd_T119 l0 x15_1).f0)) < 2
                                          · rw [if_pos c99] at H
                                            have c99b0 : decide ((rd y231 ((rd_T119 l0 x15_1).f0)) < 2) = true := decide_eq_true c99
                                            clear c99
                                            by_cases c100 : ((rd_T119 l0 x15_1).f3) = 0
                                            · rw [if_pos c100] at H
                                              have c100b0 : (((rd_T119 l0 x15_1).f3) == 0) = true := beq_iff_eq.mpr c100
                                              have c100b1 : (((rd_T119 l0 x15_1).f3) != 0) = false := bne_eq_false_iff_eq.mpr c100
                                              clear c100
                                              replace H := Option.bind_eq_some_iff.mp H
                                              obtain ⟨t247, A1010, H⟩ := H
                                              replace H : (if t247 < 0 then (some 3) else (gridhallref4_ConditionError.l0 kj19 l0 l0 (l0.length : Int) (wrap64 (x15_1 + 1)))) = some r := H
                                              have A101 := Aside0.mk A1010
                                              clear A1010
                                              by_cases c102 : t247 < 0
                                              · rw [if_pos c102] at H
                                                have c102b0 : decide (t247 < 0) = true := decide_eq_true c102
                                                clear c102
                                                obtain rfl := Option.some.inj H
                                                have hcz103_0 : wc.cell? ⟨gb230, 0, none⟩ = some (.int .i64 ((rd_T119 l0 x15_1).f0)) := (blk_cell BK230.out 0).trans rfl
                                                have hcz103_1 : wc.cell? ⟨gb230, 1, none⟩ = some (.string ((rd_T119 l0 x15_1).f1)) := (blk_cell BK230.out 1).trans rfl
                                                have hcz103_2 : wc.cell? ⟨gb230, 2, none⟩ = some (.int .i64 ((rd_T119 l0 x15_1).f2)) := (blk_cell BK230.out 2).trans rfl
                                                have hcz103_3 : wc.cell? ⟨gb230, 3, none⟩ = some (.int .i64 ((rd_T119 l0 x15_1).f3)) := (blk_cell BK230.out 3).trans rfl
                                                have hfz103_0 := blk_frozen BK230.out 0
                                                have hfz103_1 := blk_frozen BK230.out 1
                                                have hfz103_2 := blk_frozen BK230.out 2
                                                have hfz103_3 := blk_frozen BK230.out 3
                                                obtain ⟨Ao104, co104, eo104⟩ := Kd.R_slice HO_5.out
                                                subst eo104
                                                have p242 : 0 ≤ (((rd_T119 l0 x15_1).f0) : Int) := of_decide_eq_true (by first | (with_reducible assumption) | assumption)
                                                have q242 : ((rd_T119 l0 x15_1).f0) < (y231.length : Int) := of_decide_eq_true (by first | (with_reducible assumption) | assumption)
                                                obtain ⟨ad242, e242, hx242_0⟩ := Kd.at_int (Kd.R_reads' HO_5.out).2.2 ((rd_T119 l0 x15_1).f0) p242 q242
                                                cases e242
                                                replace p242 := eq_true p242
                                                replace q242 := eq_true q242
                                                have p246 : 0 ≤ (((rd_T119 l0 x15_1).f0) : Int) := of_decide_eq_true (by first | (with_reducible assumption) | assumption)
                                                have q246 : ((rd_T119 l0 x15_1).f0) < (y231.length : Int) := of_decide_eq_true (by first | (with_reducible assumption) | assumption)
                                                obtain ⟨ad246, e246, hx246_0⟩ := Kd.at_int (Kd.R_reads' HO_5.out).2.2 ((rd_T119 l0 x15_1).f0) p246 q246
                                                obtain rfl : ad242 = ad246 := (by injection e246)
                                                replace p246 := eq_true p246
                                                replace q246 := eq_true q246
                                                go_wp2_with (first | (go_at_call 92; (with_reducible refine (gridhallref4_span.calls kj19 _ _ l0 x15_1 t247 _ ?side1 ?side2 A101.out).mono ?_); (case side1 => repeat (first | exact (Kd.C_below HR0.out HB.out) | (with_reducible refine Kd.C_alloc ?_ _) | (with_reducible refine Kd.C_drewN ?_ _) | (with_reducible refine Kd.C_drew ?_))); (case side2 => exact HC0.out); rintro e w105 ⟨rfl, hb⟩; have n0_ := Aside0.mk (Kd.R_below (by (with_reducible repeat (first | apply Kd.R_alloc | apply Kd.R_drewN | apply Kd.R_drew)); exact HO_5.out) hb); have n1_ := Aside0.mk (blk_below (g := gb230) (o := .cells #[.int .i64 ((rd_T119 l0 x15_1).f0), .string ((rd_T119 l0 x15_1).f1), .int .i64 ((rd_T119 l0 x15_1).f2), .int .i64 ((rd_T119 l0 x15_1).f3)] 119 (0, 0)) (by (with_reducible repeat (first | refine blk_drewN ?_ _ | refine blk_drew ?_ | refine blk_alloc ?_ _)); exact BK230.out) hb); have n2_ := Aside0.mk (below_step (by repeat (first | (with_reducible first | exact HB.out | apply below_alloc | apply pw_below_drewN | apply below_drew1 | refine below_set ?_ GE230.out) | exact HB.out)) hb); clear HO_5; clear BK230; clear HB; have HO_5 := n0_; have BK230 := n1_; have HB := n2_; clear n0_ n1_ n2_; (try clear hb); (try clear hb2); (try clear hk); (try clear hi)))
                                                go_ret
                                                exact ⟨by first | rfl | (simp [errW_none, errW_some] <;> rfl) | (simp [*, errW_none, errW_some] <;> rfl), by repeat (first | (with_reducible first | exact HB.out | apply below_alloc | apply pw_below_drewN | apply below_drew1 | refine below_set ?_ GE230.out) | exact HB.out)⟩
                                              · rw [if_neg c102] at H
                                                have c102b0 : decide (t247 < 0) = false := decide_eq_false c102
                                                clear c102
                                                have H' := Aside0.mk H
                                                clear H
                                                have hcz106_0 : wc.cell? ⟨gb230, 0, none⟩ = some (.int .i64 ((rd_T119 l0 x15_1).f0)) := (blk_cell BK230.out 0).trans rfl
                                                have hcz106_1 : wc.cell? ⟨gb230, 1, none⟩ = some (.string ((rd_T119 l0 x15_1).f1)) := (blk_cell BK230.out 1).trans rfl
                                                have hcz106_2 : wc.cell? ⟨gb230, 2, none⟩ = some (.int .i64 ((rd_T119 l0 x15_1).f2)) := (blk_cell BK230.out 2).trans rfl
                                                have hcz106_3 : wc.cell? ⟨gb230, 3, none⟩ = some (.int .i64 ((rd_T119 l0 x15_1).f3)) := (blk_cell BK230.out 3).trans rfl
                                                have hfz106_0 := blk_frozen BK230.out 0
                                                have hfz106_1 := blk_frozen BK230.out 1
                                                have hfz106_2 := blk_frozen BK230.out 2
                                                have hfz106_3 := blk_frozen BK230.out 3
                                                obtain ⟨Ao107, co107, eo107⟩ := Kd.R_slice HO_5.out
                                                subst eo107
                                                have p242 : 0 ≤ (((rd_T119 l0 x15_1).f0) : Int) := of_decide_eq_true (by first | (with_reducible assumption) | assumption)
                                                have q242 : ((rd_T119 l0 x15_1).f0) < (y231.length : Int) := of_decide_eq_true (by first | (with_reducible assumption) | assumption)
                                                obtain ⟨ad242, e242, hx242_0⟩ := Kd.at_int (Kd.R_reads' HO_5.out).2.2 ((rd_T119 l0 x15_1).f0) p242 q242
                                                cases e242
                                                replace p242 := eq_true p242
                                                replace q242 := eq_true q242
                                                have p246 : 0 ≤ (((rd_T119 l0 x15_1).f0) : Int) := of_decide_eq_true (by first | (with_reducible assumption) | assumption)
                                                have q246 : ((rd_T119 l0 x15_1).f0) < (y231.length : Int) := of_decide_eq_true (by first | (with_reducible assumption) | assumption)
                                                obtain ⟨ad246, e246, hx246_0⟩ := Kd.at_int (Kd.R_reads' HO_5.out).2.2 ((rd_T119 l0 x15_1).f0) p246 q246
                                                obtain rfl : ad242 = ad246 := (by injection e246)
                                                replace p246 := eq_true p246
                                                replace q246 := eq_true q246
                                                go_wp2_with (first | (go_at_call 92; (with_reducible refine (gridhallref4_span.calls kj19 _ _ l0 x15_1 t247 _ ?side1 ?side2 A101.out).mono ?_); (case side1 => repeat (first | exact (Kd.C_below HR0.out HB.out) | (with_reducible refine Kd.C_alloc ?_ _) | (with_reducible refine Kd.C_drewN ?_ _) | (with_reducible refine Kd.C_drew ?_))); (case side2 => exact HC0.out); rintro e w108 ⟨rfl, hb⟩; have n0_ := Aside0.mk (Kd.R_below (by (with_reducible repeat (first | apply Kd.R_alloc | apply Kd.R_drewN | apply Kd.R_drew)); exact HO_5.out) hb); have n1_ := Aside0.mk (blk_below (g := gb230) (o := .cells #[.int .i64 ((rd_T119 l0 x15_1).f0), .string ((rd_T119 l0 x15_1).f1), .int .i64 ((rd_T119 l0 x15_1).f2), .int .i64 ((rd_T119 l0 x15_1).f3)] 119 (0, 0)) (by (with_reducible repeat (first | refine blk_drewN ?_ _ | refine blk_drew ?_ | refine blk_alloc ?_ _)); exact BK230.out) hb); have n2_ := Aside0.mk (below_step (by repeat (first | (with_reducible first | exact HB.out | apply below_alloc | apply pw_below_drewN | apply below_drew1 | refine below_set ?_ GE230.out) | exact HB.out)) hb); clear HO_5; clear BK230; clear HB; have HO_5 := n0_; have BK230 := n1_; have HB := n2_; clear n0_ n1_ n2_; (try clear hb); (try clear hb2); (try clear hk); (try clear hi)))
                                                go_roundg kj19
                                                case measure => have := HK1.out; have := HJ6.out; have := HJ15.out; have := HJ19.out; omega
                                                case rel => exact ⟨(wrap64 (x15_1 + 1)), (by first | rfl | (simp; done) | (simp [*]; done)), H', ⟨by have := HK1.out; have := HJ6.out; have := HJ15.out; have := HJ19.out; omega⟩, ⟨by repeat (first | (with_reducible first | exact HB.out | apply below_alloc | apply pw_below_drewN | apply below_drew1 | refine below_set ?_ GE230.out) | exact HB.out)⟩⟩
                                            · rw [if_neg c100] at H
                                              have c100b0 : (((rd_T119 l0 x15_1).f3) == 0) = false := beq_eq_false_iff_ne.mpr c100
                                              have c100b1 : (((rd_T119 l0 x15_1).f3) != 0) = true := bne_iff_ne.mpr c100
                                              obtain rfl := Option.some.inj H
                                              have hcz109_0 : wc.cell? ⟨gb230, 0, none⟩ = some (.int .i64 ((rd_T119 l0 x15_1).f0)) := (blk_cell BK230.out 0).trans rfl
                                              have hcz109_1 : wc.cell? ⟨gb230, 1, none⟩ = some (.string ((rd_T119 l0 x15_1).f1)) := (blk_cell BK230.out 1).trans rfl
                                              have hcz109_2 : wc.cell? ⟨gb230, 2, none⟩ = some (.int .i64 ((rd_T119 l0 x15_1).f2)) := (blk_cell BK230.out 2).trans rfl
                                              have hcz109_3 : wc.cell? ⟨gb230, 3, none⟩ = some (.int .i64 ((rd_T119 l0 x15_1).f3)) := (blk_cell BK230.out 3).trans rfl
                                              have hfz109_0 := blk_frozen BK230.out 0
                                              have hfz109_1 := blk_frozen BK230.out 1
                                              have hfz109_2 := blk_frozen BK230.out 2
                                              have hfz109_3 := blk_frozen BK230.out 3
                                              obtain ⟨Ao110, co110, eo110⟩ := Kd.R_slice HO_5.out
                                              subst eo110
                                              have p242 : 0 ≤ (((rd_T119 l0 x15_1).f0) : Int) := of_decide_eq_true (by first | (with_reducible assumption) | assumption)
                                              have q242 : ((rd_T119 l0 x15_1).f0) < (y231.length : Int) := of_decide_eq_true (by first | (with_reducible assumption) | assumption)
                                              obtain ⟨ad242, e242, hx242_0⟩ := Kd.at_int (Kd.R_reads' HO_5.out).2.2 ((rd_T119 l0 x15_1).f0) p242 q242
                                              cases e242
                                              replace p242 := eq_true p242
                                              replace q242 := eq_true q242
                                              have p246 : 0 ≤ (((rd_T119 l0 x15_1).f0) : Int) := of_decide_eq_true (by first | (with_reducible assumption) | assumption)
                                              have q246 : ((rd_T119 l0 x15_1).f0) < (y231.length : Int) := of_decide_eq_true (by first | (with_reducible assumption) | assumption)
                                              obtain ⟨ad246, e246, hx246_0⟩ := Kd.at_int (Kd.R_reads' HO_5.out).2.2 ((rd_T119 l0 x15_1).f0) p246 q246
                                              obtain rfl : ad242 = ad246 := (by injection e246)
                                              replace p246 := eq_true p246
                                              replace q246 := eq_true q246
                                              go_wp2
                                              go_ret
                                              exact ⟨by first | rfl | (simp [errW_none, errW_some] <;> rfl) | (simp [*, errW_none, errW_some] <;> rfl), by repeat (first | (with_reducible first | exact HB.out | apply below_alloc | apply pw_below_drewN | apply below_drew1 | refine below_set ?_ GE230.out) | exact HB.out)⟩
                                          · rw [if_neg c99] at H
                                            have c99b0 : decide ((rd y231 ((rd_T119 l0 x15_1).f0)) < 2) = false := decide_eq_false c99
                                            clear c99
                                            replace H := Option.bind_eq_some_iff.mp H
                                            obtain ⟨t248, A1110, H⟩ := H
                                            replace H : (if t248 < 0 then (some 3) else (gridhallref4_ConditionError.l0 kj19 l0 l0 (l0.length : Int) (wrap64 (x15_1 + 1)))) = some r := H
                                            have A111 := Aside0.mk A1110
                                            clear A1110
                                            by_cases c112 : t248 < 0
                                            · rw [if_pos c112] at H
                                              have c112b0 : decide (t248 < 0) = true := decide_eq_true c112
                                              clear c112
                                              obtain rfl := Option.some.inj H
                                              have hcz113_0 : wc.cell? ⟨gb230, 0, none⟩ = some (.int .i64 ((rd_T119 l0 x15_1).f0)) := (blk_cell BK230.out 0).trans rfl
                                              have hcz113_1 : wc.cell? ⟨gb230, 1, none⟩ = some (.string ((rd_T119 l0 x15_1).f1)) := (blk_cell BK230.out 1).trans rfl
                                              have hcz113_2 : wc.cell? ⟨gb230, 2, none⟩ = some (.int .i64 ((rd_T119 l0 x15_1).f2)) := (blk_cell BK230.out 2).trans rfl
                                              have hcz113_3 : wc.cell? ⟨gb230, 3, none⟩ = some (.int .i64 ((rd_T119 l0 x15_1).f3)) := (blk_cell BK230.out 3).trans rfl
                                              have hfz113_0 := blk_frozen BK230.out 0
                                              have hfz113_1 := blk_frozen BK230.out 1
                                              have hfz113_2 := blk_frozen BK230.out 2
                                              have hfz113_3 := blk_frozen BK230.out 3
                                              obtain ⟨Ao114, co114, eo114⟩ := Kd.R_slice HO_5.out
                                              subst eo114
                                              have p242 : 0 ≤ (((rd_T119 l0 x15_1).f0) : Int) := of_decide_eq_true (by first | (with_reducible assumption) | assumption)
                                              have q242 : ((rd_T119 l0 x15_1).f0) < (y231.length : Int) := of_decide_eq_true (by first | (with_reducible assumption) | assumption)
                                              obtain ⟨ad242, e242, hx242_0⟩ := Kd.at_int (Kd.R_reads' HO_5.out).2.2 ((rd_T119 l0 x15_1).f0) p242 q242
                                              cases e242
                                              replace p242 := eq_true p242
                                              replace q242 := eq_true q242
                                              have p246 : 0 ≤ (((rd_T119 l0 x15_1).f0) : Int) := of_decide_eq_true (by first | (with_reducible assumption) | assumption)
                                              have q246 : ((rd_T119 l0 x15_1).f0) < (y231.length : Int) := of_decide_eq_true (by first | (with_reducible assumption) | assumption)
                                              obtain ⟨ad246, e246, hx246_0⟩ := Kd.at_int (Kd.R_reads' HO_5.out).2.2 ((rd_T119 l0 x15_1).f0) p246 q246
                                              obtain rfl : ad242 = ad246 := (by injection e246)
                                              replace p246 := eq_true p246
                                              replace q246 := eq_true q246
                                              go_wp2_with (first | (go_at_call 92; (with_reducible refine (gridhallref4_span.calls kj19 _ _ l0 x15_1 t248 _ ?side1 ?side2 A111.out).mono ?_); (case side1 => repeat (first | exact (Kd.C_below HR0.out HB.out) | (with_reducible refine Kd.C_alloc ?_ _) | (with_reducible refine Kd.C_drewN ?_ _) | (with_reducible refine Kd.C_drew ?_))); (case side2 => exact HC0.out); rintro e w115 ⟨rfl, hb⟩; have n0_ := Aside0.mk (Kd.R_below (by (with_reducible repeat (first | apply Kd.R_alloc | apply Kd.R_drewN | apply Kd.R_drew)); exact HO_5.out) hb); have n1_ := Aside0.mk (blk_below (g := gb230) (o := .cells #[.int .i64 ((rd_T119 l0 x15_1).f0), .string ((rd_T119 l0 x15_1).f1), .int .i64 ((rd_T119 l0 x15_1).f2), .int .i64 ((rd_T119 l0 x15_1).f3)] 119 (0, 0)) (by (with_reducible repeat (first | refine blk_drewN ?_ _ | refine blk_drew ?_ | refine blk_alloc ?_ _)); exact BK230.out) hb); have n2_ := Aside0.mk (below_step (by repeat (first | (with_reducible first | exact HB.out | apply below_alloc | apply pw_below_drewN | apply below_drew1 | refine below_set ?_ GE230.out) | exact HB.out)) hb); clear HO_5; clear BK230; clear HB; have HO_5 := n0_; have BK230 := n1_; have HB := n2_; clear n0_ n1_ n2_; (try clear hb); (try clear hb2); (try clear hk); (try clear hi)))
                                              go_ret
                                              exact ⟨by first | rfl | (simp [errW_none, errW_some] <;> rfl) | (simp [*, errW_none, errW_some] <;> rfl), by repeat (first | (with_reducible first | exact HB.out | apply below_alloc | apply pw_below_drewN | apply below_drew1 | refine below_set ?_ GE230.out) | exact HB.out)⟩
                                            · rw [if_neg c112] at H
                                              have c112b0 : decide (t248 < 0) = false := decide_eq_false c112
                                              clear c112
                                              have H' := Aside0.mk H
                                              clear H
                                              have hcz116_0 : wc.cell? ⟨gb230, 0, none⟩ = some (.int .i64 ((rd_T119 l0 x15_1).f0)) := (blk_cell BK230.out 0).trans rfl
                                              have hcz116_1 : wc.cell? ⟨gb230, 1, none⟩ = some (.string ((rd_T119 l0 x15_1).f1)) := (blk_cell BK230.out 1).trans rfl
                                              have hcz116_2 : wc.cell? ⟨gb230, 2, none⟩ = some (.int .i64 ((rd_T119 l0 x15_1).f2)) := (blk_cell BK230.out 2).trans rfl
                                              have hcz116_3 : wc.cell? ⟨gb230, 3, none⟩ = some (.int .i64 ((rd_T119 l0 x15_1).f3)) := (blk_cell BK230.out 3).trans rfl
                                              have hfz116_0 := blk_frozen BK230.out 0
                                              have hfz116_1 := blk_frozen BK230.out 1
                                              have hfz116_2 := blk_frozen BK230.out 2
                                              have hfz116_3 := blk_frozen BK230.out 3
                                              obtain ⟨Ao117, co117, eo117⟩ := Kd.R_slice HO_5.out
                                              subst eo117
                                              have p242 : 0 ≤ (((rd_T119 l0 x15_1).f0) : Int) := of_decide_eq_true (by first | (with_reducible assumption) | assumption)
                                              have q242 : ((rd_T119 l0 x15_1).f0) < (y231.length : Int) := of_decide_eq_true (by first | (with_reducible assumption) | assumption)
                                              obtain ⟨ad242, e242, hx242_0⟩ := Kd.at_int (Kd.R_reads' HO_5.out).2.2 ((rd_T119 l0 x15_1).f0) p242 q242
                                              cases e242
                                              replace p242 := eq_true p242
                                              replace q242 := eq_true q242
                                              have p246 : 0 ≤ (((rd_T119 l0 x15_1).f0) : Int) := of_decide_eq_true (by first | (with_reducible assumption) | assumption)
                                              have q246 : ((rd_T119 l0 x15_1).f0) < (y231.length : Int) := of_decide_eq_true (by first | (with_reducible assumption) | assumption)
                                              obtain ⟨ad246, e246, hx246_0⟩ := Kd.at_int (Kd.R_reads' HO_5.out).2.2 ((rd_T119 l0 x15_1).f0) p246 q246
                                              obtain rfl : ad242 = ad246 := (by injection e246)
                                              replace p246 := eq_true p246
                                              replace q246 := eq_true q246
                                              go_wp2_with (first | (go_at_call 92; (with_reducible refine (gridhallref4_span.calls kj19 _ _ l0 x15_1 t248 _ ?side1 ?side2 A111.out).mono ?_); (case side1 => repeat (first | exact (Kd.C_below HR0.out HB.out) | (with_reducible refine Kd.C_alloc ?_ _) | (with_reducible refine Kd.C_drewN ?_ _) | (with_reducible refine Kd.C_drew ?_))); (case side2 => exact HC0.out); rintro e w118 ⟨rfl, hb⟩; have n0_ := Aside0.mk (Kd.R_below (by (with_reducible repeat (first | apply Kd.R_alloc | apply Kd.R_drewN | apply Kd.R_drew)); exact HO_5.out) hb); have n1_ := Aside0.mk (blk_below (g := gb230) (o := .cells #[.int .i64 ((rd_T119 l0 x15_1).f0), .string ((rd_T119 l0 x15_1).f1), .int .i64 ((rd_T119 l0 x15_1).f2), .int .i64 ((rd_T119 l0 x15_1).f3)] 119 (0, 0)) (by (with_reducible repeat (first | refine blk_drewN ?_ _ | refine blk_drew ?_ | refine blk_alloc ?_ _)); exact BK230.out) hb); have n2_ := Aside0.mk (below_step (by repeat (first | (with_reducible first | exact HB.out | apply below_alloc | apply pw_below_drewN | apply below_drew1 | refine below_set ?_ GE230.out) | exact HB.out)) hb); clear HO_5; clear BK230; clear HB; have HO_5 := n0_; have BK230 := n1_; have HB := n2_; clear n0_ n1_ n2_; (try clear hb); (try clear hb2); (try clear hk); (try clear hi)))
                                              go_roundg kj19
                                              case measure => have := HK1.out; have := HJ6.out; have := HJ15.out; have := HJ19.out; omega
                                              case rel => exact ⟨(wrap64 (x15_1 + 1)), (by first | rfl | (simp; done) | (simp [*]; done)), H', ⟨by have := HK1.out; have := HJ6.out; have := HJ15.out; have := HJ19.out; omega⟩, ⟨by repeat (first | (with_reducible first | exact HB.out | apply below_alloc | apply pw_below_drewN | apply below_drew1 | refine below_set ?_ GE230.out) | exact HB.out)⟩⟩
                                      · rw [if_neg c74] at H
                                        exact absurd H (by simp)
                                    · rw [if_neg c73] at H
                                      exact absurd H (by simp)
                                  · rw [if_neg c72] at H
                                    have c72b0 : (((rd_T119 l0 x15_1).f1).toList == ([] : List UInt8)) = false := beq_eq_false_iff_ne.mpr c72
                                    have c72b1 : (((rd_T119 l0 x15_1).f1).toList != ([] : List UInt8)) = true := bne_iff_ne.mpr c72
                                    obtain rfl := Option.some.inj H
                                    have hcz119_0 : wc.cell? ⟨gb230, 0, none⟩ = some (.int .i64 ((rd_T119 l0 x15_1).f0)) := (blk_cell BK230.out 0).trans rfl
                                    have hcz119_1 : wc.cell? ⟨gb230, 1, none⟩ = some (.string ((rd_T119 l0 x15_1).f1)) := (blk_cell BK230.out 1).trans rfl
                                    have hcz119_2 : wc.cell? ⟨gb230, 2, none⟩ = some (.int .i64 ((rd_T119 l0 x15_1).f2)) := (blk_cell BK230.out 2).trans rfl
                                    have hcz119_3 : wc.cell? ⟨gb230, 3, none⟩ = some (.int .i64 ((rd_T119 l0 x15_1).f3)) := (blk_cell BK230.out 3).trans rfl
                                    have hfz119_0 := blk_frozen BK230.out 0
                                    have hfz119_1 := blk_frozen BK230.out 1
                                    have hfz119_2 := blk_frozen BK230.out 2
                                    have hfz119_3 := blk_frozen BK230.out 3
                                    go_wp2
                                    go_ret
                                    exact ⟨by first | rfl | (simp [errW_none, errW_some] <;> rfl) | (simp [*, errW_none, errW_some] <;> rfl), by repeat (first | (with_reducible first | exact HB.out | apply below_alloc | apply pw_below_drewN | apply below_drew1 | refine below_set ?_ GE230.out) | exact HB.out)⟩
              · rw [if_neg c6] at H
                exact absurd H (by simp)
            · rw [if_neg c5] at H
              exact absurd H (by simp)
          · rw [if_neg c4] at H
            have c4b0 : decide (x15_1 < (l0.length : Int)) = false := decide_eq_false c4
            clear c4
            replace H := Option.bind_eq_some_iff.mp H
            obtain ⟨t228, A1200, H⟩ := H
            replace H : (if t228 = 0 then (some 0) else (some 3)) = some r := H
            have A120 := Aside0.mk A1200
            clear A1200
            by_cases c121 : t228 = 0
            · rw [if_pos c121] at H
              have c121b0 : (t228 == 0) = true := beq_iff_eq.mpr c121
              have c121b1 : (t228 != 0) = false := bne_eq_false_iff_eq.mpr c121
              clear c121
              obtain rfl := Option.some.inj H
              go_wp2_with (first | ((with_reducible refine gate_callee (f := 92) rfl ?_); refine goesL_ (some 88) rfl rfl Try.func92 (by kernel_rfl) rfl #[.slice A0 l0.length c0, .int .i64 (wrap64 ((l0.length : Int) - 1))] rfl (by (try simp only [List.map_toArray, List.map_cons, List.map_nil]); first | done | rfl | (simp only [List.length_drop, List.length_take]; rfl)) ?_; (with_reducible refine (gridhallref4_span.calls k1 _ _ l0 (wrap64 ((l0.length : Int) - 1)) t228 _ ?side1 ?side2 A120.out).mono ?_); (case side1 => repeat (first | exact (Kd.C_below HR0.out HB.out) | (with_reducible refine Kd.C_alloc ?_ _) | (with_reducible refine Kd.C_drewN ?_ _) | (with_reducible refine Kd.C_drew ?_))); (case side2 => exact HC0.out); rintro e w122 ⟨rfl, hb⟩; refine ⟨_, rfl, ?_⟩; have n0_ := Aside0.mk (below_step (by repeat (first | (with_reducible first | exact HB.out | apply below_alloc | apply pw_below_drewN | apply below_drew1) | exact HB.out)) hb); clear HB; have HB := n0_; clear n0_; (try clear hb); (try clear hb2); (try clear hk); (try clear hi)))
              go_ret
              exact ⟨by first | rfl | (simp [errW_none, errW_some] <;> rfl) | (simp [*, errW_none, errW_some] <;> rfl), by repeat (first | (with_reducible first | exact HB.out | apply below_alloc | apply pw_below_drewN | apply below_drew1) | exact HB.out)⟩
            · rw [if_neg c121] at H
              have c121b0 : (t228 == 0) = false := beq_eq_false_iff_ne.mpr c121
              have c121b1 : (t228 != 0) = true := bne_iff_ne.mpr c121
              obtain rfl := Option.some.inj H
              go_wp2_with (first | ((with_reducible refine gate_callee (f := 92) rfl ?_); refine goesL_ (some 88) rfl rfl Try.func92 (by kernel_rfl) rfl #[.slice A0 l0.length c0, .int .i64 (wrap64 ((l0.length : Int) - 1))] rfl (by (try simp only [List.map_toArray, List.map_cons, List.map_nil]); first | done | rfl | (simp only [List.length_drop, List.length_take]; rfl)) ?_; (with_reducible refine (gridhallref4_span.calls k1 _ _ l0 (wrap64 ((l0.length : Int) - 1)) t228 _ ?side1 ?side2 A120.out).mono ?_); (case side1 => repeat (first | exact (Kd.C_below HR0.out HB.out) | (with_reducible refine Kd.C_alloc ?_ _) | (with_reducible refine Kd.C_drewN ?_ _) | (with_reducible refine Kd.C_drew ?_))); (case side2 => exact HC0.out); rintro e w123 ⟨rfl, hb⟩; refine ⟨_, rfl, ?_⟩; have n0_ := Aside0.mk (below_step (by repeat (first | (with_reducible first | exact HB.out | apply below_alloc | apply pw_below_drewN | apply below_drew1) | exact HB.out)) hb); clear HB; have HB := n0_; clear n0_; (try clear hb); (try clear hb2); (try clear hk); (try clear hi)))
              go_ret
              exact ⟨by first | rfl | (simp [errW_none, errW_some] <;> rfl) | (simp [*, errW_none, errW_some] <;> rfl), by repeat (first | (with_reducible first | exact HB.out | apply below_alloc | apply pw_below_drewN | apply below_drew1) | exact HB.out)⟩

end Go.Proofs.Ytielinaielicbaa.PInterlockSays
