/- Contracts of functions that InterlockSays reaches, a text of this session's own. -/
import Derived.Test.YtielinaielicbaaHInterlockSaysy0
import Derived.Test.YtielinaielicbaaHInterlockSaysy1
namespace Go.Proofs.Ytielinaielicbaa.PInterlockSays
open Go.RowKit Go.Proofs.YtielinaielicbaaW.PrintWords Go.Proofs.YtielinaielicbaaW.PrintLast Go.Proofs.YtielinaielicbaaW.PrintMore
attribute [local go_sem] max2_int min2_int max_two min_two max_three min_three max_four min_four   -- for this text's walks alone
set_option linter.unusedVariables false
set_option linter.unusedSimpArgs false

/-! ### interlock_condition: function 73 -/
mutual
def interlock_condition.l0 : Nat → List Int → List (S119) → Int → Int → Option (Int)
  | 0, _, _, _, _ => none
  | k + 1, x4, x18, x19, x20 => if x20 < x19 then (if 0 ≤ x20 then (if x20 < (x18.length : Int) then ((interlock_arity.f k ((rd_T119 x18 x20).f0)).bind fun bt109 => (if bt109.1 < 0 then (some 1) else (if bt109.2 = true then ((interlock_named.f k ((rd_T119 x18 x20).f1)).bind fun t111 => (interlock_condition.j1 k x4 x20 bt109.1 bt109.2 x18 x19 x20 (!t111) ((rd_T119 x18 x20).f0) ((rd_T119 x18 x20).f1) ((rd_T119 x18 x20).f2) ((rd_T119 x18 x20).f3))) else (interlock_condition.j1 k x4 x20 bt109.1 bt109.2 x18 x19 x20 false ((rd_T119 x18 x20).f0) ((rd_T119 x18 x20).f1) ((rd_T119 x18 x20).f2) ((rd_T119 x18 x20).f3))))) else (none)) else (none)) else (if (x4.length : Int) = 1 then (some 0) else (some 3))
def interlock_condition.j1 : Nat → List Int → Int → Int → Bool → List (S119) → Int → Int → Bool → Int → ByteArray → Int → Int → Option (Int)
  | 0, _, _, _, _, _, _, _, _, _, _, _, _ => none
  | k + 1, x4, x5, x7, x8, x18, x19, x20, x34, x109000, x109001, x109002, x109003 => if x34 = true then (some 6) else (if x8 = true then (if x7 < 1 then (if x109002 = 0 then (if x7 < 2 then (if x109003 = 0 then (interlock_condition.j2 k x4 x5 x7 x18 x19 x20 (decide ((x4.length : Int) < x7)) x109000 x109001 x109002 x109003) else (interlock_condition.j2 k x4 x5 x7 x18 x19 x20 true x109000 x109001 x109002 x109003)) else (interlock_condition.j2 k x4 x5 x7 x18 x19 x20 (decide ((x4.length : Int) < x7)) x109000 x109001 x109002 x109003)) else (interlock_condition.j2 k x4 x5 x7 x18 x19 x20 true x109000 x109001 x109002 x109003)) else (if x7 < 2 then (if x109003 = 0 then (interlock_condition.j2 k x4 x5 x7 x18 x19 x20 (decide ((x4.length : Int) < x7)) x109000 x109001 x109002 x109003) else (interlock_condition.j2 k x4 x5 x7 x18 x19 x20 true x109000 x109001 x109002 x109003)) else (interlock_condition.j2 k x4 x5 x7 x18 x19 x20 (decide ((x4.length : Int) < x7)) x109000 x109001 x109002 x109003))) else (if x109001.toList = ([] : List UInt8) then (if x7 < 1 then (if x109002 = 0 then (if x7 < 2 then (if x109003 = 0 then (interlock_condition.j2 k x4 x5 x7 x18 x19 x20 (decide ((x4.length : Int) < x7)) x109000 x109001 x109002 x109003) else (interlock_condition.j2 k x4 x5 x7 x18 x19 x20 true x109000 x109001 x109002 x109003)) else (interlock_condition.j2 k x4 x5 x7 x18 x19 x20 (decide ((x4.length : Int) < x7)) x109000 x109001 x109002 x109003)) else (interlock_condition.j2 k x4 x5 x7 x18 x19 x20 true x109000 x109001 x109002 x109003)) else (if x7 < 2 then (if x109003 = 0 then (interlock_condition.j2 k x4 x5 x7 x18 x19 x20 (decide ((x4.length : Int) < x7)) x109000 x109001 x109002 x109003) else (interlock_condition.j2 k x4 x5 x7 x18 x19 x20 true x109000 x109001 x109002 x109003)) else (interlock_condition.j2 k x4 x5 x7 x18 x19 x20 (decide ((x4.length : Int) < x7)) x109000 x109001 x109002 x109003))) else (interlock_condition.j2 k x4 x5 x7 x18 x19 x20 true x109000 x109001 x109002 x109003)))
def interlock_condition.j2 : Nat → List Int → Int → Int → List (S119) → Int → Int → Bool → Int → ByteArray → Int → Int → Option (Int)
  | 0, _, _, _, _, _, _, _, _, _, _, _ => none
  | k + 1, x4, x5, x7, x18, x19, x20, x42, x109000, x109001, x109002, x109003 => if x42 = true then (some 3) else (if x7 = 1 then (if 0 ≤ (wrap64 ((x4.length : Int) - 1)) then (if (wrap64 ((x4.length : Int) - 1)) < (x4.length : Int) then (if x109002 = (rd x4 (wrap64 ((x4.length : Int) - 1))) then (if x7 = 2 then (if 0 ≤ (wrap64 ((x4.length : Int) - 2)) then (if (wrap64 ((x4.length : Int) - 2)) < (x4.length : Int) then (if x109002 = (rd x4 (wrap64 ((x4.length : Int) - 2))) then (if x109003 = (rd x4 (wrap64 ((x4.length : Int) - 1))) then (if 0 ≤ (wrap64 ((x4.length : Int) - x7)) then (if (wrap64 ((x4.length : Int) - x7)) ≤ (x4.length : Int) then ((some (x4.take ((wrap64 ((x4.length : Int) - x7)) : Int).toNat : List Int)).bind fun y115 => (if y115.length < 17592186044416 then (interlock_condition.l0 k (y115 ++ [x5]) x18 x19 (wrap64 (x20 + 1))) else (none))) else (none)) else (none)) else (some 3)) else (some 3)) else (none)) else (none)) else (if 0 ≤ (wrap64 ((x4.length : Int) - x7)) then (if (wrap64 ((x4.length : Int) - x7)) ≤ (x4.length : Int) then ((some (x4.take ((wrap64 ((x4.length : Int) - x7)) : Int).toNat : List Int)).bind fun y121 => (if y121.length < 17592186044416 then (interlock_condition.l0 k (y121 ++ [x5]) x18 x19 (wrap64 (x20 + 1))) else (none))) else (none)) else (none))) else (some 3)) else (none)) else (none)) else (if x7 = 2 then (if 0 ≤ (wrap64 ((x4.length : Int) - 2)) then (if (wrap64 ((x4.length : Int) - 2)) < (x4.length : Int) then (if x109002 = (rd x4 (wrap64 ((x4.length : Int) - 2))) then (if 0 ≤ (wrap64 ((x4.length : Int) - 1)) then (if (wrap64 ((x4.length : Int) - 1)) < (x4.length : Int) then (if x109003 = (rd x4 (wrap64 ((x4.length : Int) - 1))) then (if 0 ≤ (wrap64 ((x4.length : Int) - x7)) then (if (wrap64 ((x4.length : Int) - x7)) ≤ (x4.length : Int) then ((some (x4.take ((wrap64 ((x4.length : Int) - x7)) : Int).toNat : List Int)).bind fun y129 => (if y129.length < 17592186044416 then (interlock_condition.l0 k (y129 ++ [x5]) x18 x19 (wrap64 (x20 + 1))) else (none))) else (none)) else (none)) else (some 3)) else (none)) else (none)) else (some 3)) else (none)) else (none)) else (if 0 ≤ (wrap64 ((x4.length : Int) - x7)) then (if (wrap64 ((x4.length : Int) - x7)) ≤ (x4.length : Int) then ((some (x4.take ((wrap64 ((x4.length : Int) - x7)) : Int).toNat : List Int)).bind fun y135 => (if y135.length < 17592186044416 then (interlock_condition.l0 k (y135 ++ [x5]) x18 x19 (wrap64 (x20 + 1))) else (none))) else (none)) else (none))))
end
def interlock_condition.f (k : Nat) (l0 : List (S119)) : Option (Int) := if (l0.length : Int) > 40 then (some 2) else (if (l0.length : Int) = 0 then (some 3) else (interlock_condition.l0 k ([] : List Int) l0 (l0.length : Int) 0))
theorem interlock_condition.mono_l : ∀ k, (∀ y0 y1 y2 y3, LeO (interlock_condition.l0 k y0 y1 y2 y3) (interlock_condition.l0 (k + 1) y0 y1 y2 y3)) ∧ (∀ y0 y1 y2 y3 y4 y5 y6 y7 y8 y9 y10 y11, LeO (interlock_condition.j1 k y0 y1 y2 y3 y4 y5 y6 y7 y8 y9 y10 y11) (interlock_condition.j1 (k + 1) y0 y1 y2 y3 y4 y5 y6 y7 y8 y9 y10 y11)) ∧ (∀ y0 y1 y2 y3 y4 y5 y6 y7 y8 y9 y10, LeO (interlock_condition.j2 k y0 y1 y2 y3 y4 y5 y6 y7 y8 y9 y10) (interlock_condition.j2 (k + 1) y0 y1 y2 y3 y4 y5 y6 y7 y8 y9 y10))
  | 0 => ⟨fun _ _ _ _ r h => by simp [interlock_condition.l0] at h, fun _ _ _ _ _ _ _ _ _ _ _ _ r h => by simp [interlock_condition.j1] at h, fun _ _ _ _ _ _ _ _ _ _ _ r h => by simp [interlock_condition.j2] at h⟩
  | k + 1 => by
    obtain ⟨ih0, ih1, ih2⟩ := interlock_condition.mono_l k
    refine ⟨?_, ?_, ?_⟩
    · intro y0 y1 y2 y3
      unfold interlock_condition.l0
      repeat' first
      | (with_reducible exact ih0 _ _ _ _)
      | (with_reducible exact ih1 _ _ _ _ _ _ _ _ _ _ _ _)
      | (with_reducible exact ih2 _ _ _ _ _ _ _ _ _ _ _)
      | (with_reducible exact interlock_arity.mono _ _)
      | (with_reducible exact interlock_named.mono _ _)
      | (with_reducible exact LeO.refl _)
      | (with_reducible exact LeO.none _)
      | (with_reducible refine LeO.ite ?_ ?_)
      | (with_reducible refine LeO.bind ?_ (fun _ => ?_))
      | exact ih0 _ _ _ _
      | exact ih1 _ _ _ _ _ _ _ _ _ _ _ _
      | exact ih2 _ _ _ _ _ _ _ _ _ _ _
      | exact interlock_arity.mono _ _
      | exact interlock_named.mono _ _
      | exact LeO.none _
      | refine LeO.ite ?_ ?_
      | refine LeO.bind ?_ (fun _ => ?_)
    · intro y0 y1 y2 y3 y4 y5 y6 y7 y8 y9 y10 y11
      unfold interlock_condition.j1
      repeat' first
      | (with_reducible exact ih0 _ _ _ _)
      | (with_reducible exact ih1 _ _ _ _ _ _ _ _ _ _ _ _)
      | (with_reducible exact ih2 _ _ _ _ _ _ _ _ _ _ _)
      | (with_reducible exact interlock_arity.mono _ _)
      | (with_reducible exact interlock_named.mono _ _)
      | (with_reducible exact LeO.refl _)
      | (with_reducible exact LeO.none _)
      | (with_reducible refine LeO.ite ?_ ?_)
      | (with_reducible refine LeO.bind ?_ (fun _ => ?_))
      | exact ih0 _ _ _ _
      | exact ih1 _ _ _ _ _ _ _ _ _ _ _ _
      | exact ih2 _ _ _ _ _ _ _ _ _ _ _
      | exact interlock_arity.mono _ _
      | exact interlock_named.mono _ _
      | exact LeO.none _
      | refine LeO.ite ?_ ?_
      | refine LeO.bind ?_ (fun _ => ?_)
    · intro y0 y1 y2 y3 y4 y5 y6 y7 y8 y9 y10
      unfold interlock_condition.j2
      repeat' first
      | (with_reducible exact ih0 _ _ _ _)
      | (with_reducible exact ih1 _ _ _ _ _ _ _ _ _ _ _ _)
      | (with_reducible exact ih2 _ _ _ _ _ _ _ _ _ _ _)
      | (with_reducible exact interlock_arity.mono _ _)
      | (with_reducible exact interlock_named.mono _ _)
      | (with_reducible exact LeO.refl _)
      | (with_reducible exact LeO.none _)
      | (with_reducible refine LeO.ite ?_ ?_)
      | (with_reducible refine LeO.bind ?_ (fun _ => ?_))
      | exact ih0 _ _ _ _
      | exact ih1 _ _ _ _ _ _ _ _ _ _ _ _
      | exact ih2 _ _ _ _ _ _ _ _ _ _ _
      | exact interlock_arity.mono _ _
      | exact interlock_named.mono _ _
      | exact LeO.none _
      | refine LeO.ite ?_ ?_
      | refine LeO.bind ?_ (fun _ => ?_)
theorem interlock_condition.mono : ∀ a0 k, LeO (interlock_condition.f k a0) (interlock_condition.f (k + 1) a0) := by
  intro a0 k
  obtain ⟨ih0, ih1, ih2⟩ := interlock_condition.mono_l k
  unfold interlock_condition.f
  repeat' first
      | (with_reducible exact ih0 _ _ _ _)
      | (with_reducible exact ih1 _ _ _ _ _ _ _ _ _ _ _ _)
      | (with_reducible exact ih2 _ _ _ _ _ _ _ _ _ _ _)
      | (with_reducible exact interlock_arity.mono _ _)
      | (with_reducible exact interlock_named.mono _ _)
      | (with_reducible exact LeO.refl _)
      | (with_reducible exact LeO.none _)
      | (with_reducible refine LeO.ite ?_ ?_)
      | (with_reducible refine LeO.bind ?_ (fun _ => ?_))
      | exact ih0 _ _ _ _
      | exact ih1 _ _ _ _ _ _ _ _ _ _ _ _
      | exact ih2 _ _ _ _ _ _ _ _ _ _ _
      | exact interlock_arity.mono _ _
      | exact interlock_named.mono _ _
      | exact LeO.none _
      | refine LeO.ite ?_ ?_
      | refine LeO.bind ?_ (fun _ => ?_)
set_option maxHeartbeats 8000000 in
set_option maxRecDepth 100000 in
theorem interlock_condition.calls (k : Nat) (A0 : Option Addr) (c0 : Nat) (l0 : List (S119)) (r : Int) (w : World) (hr0 : Kd.C k119 w A0 l0.length l0) (hc0 : l0.length ≤ c0) (h : interlock_condition.f k l0 = some r) :
    Calls Try.prog 73 #[.slice A0 l0.length c0] w fun e w' => e = .returned (.int .i64 r) ∧ Below w.heap.size w w' := by
  have hu119 := Try.underlying119
  have HR0 := Aside0.mk hr0
  have HC0 := Aside0.mk hc0
  clear hr0 hc0
  have HB := Aside0.mk (Below.refl w.heap.size w)
  have H : (if (l0.length : Int) > 40 then (some 2) else (if (l0.length : Int) = 0 then (some 3) else (interlock_condition.l0 k ([] : List Int) l0 (l0.length : Int) 0))) = some r := h
  clear h
  by_cases c2 : (l0.length : Int) > 40
  · rw [if_pos c2] at H
    have c2b0 : decide (40 < (l0.length : Int)) = true := decide_eq_true c2
    have c2b1 : decide (40 < l0.length) = true := decide_eq_true (by omega)
    clear c2
    obtain rfl := Option.some.inj H
    go_enter Try.func73, Try.ntmps73
    go_wp2
    repeat (go_quiet (fail); try go_wp2)
    go_ret
    exact ⟨by first | rfl | (simp [errW_none, errW_some] <;> rfl) | (simp [*, errW_none, errW_some] <;> rfl), by repeat (first | (with_reducible first | exact HB.out | apply below_alloc | apply pw_below_drewN | apply below_drew1) | exact HB.out)⟩
  · rw [if_neg c2] at H
    have c2b0 : decide (40 < (l0.length : Int)) = false := decide_eq_false c2
    have c2b1 : decide (40 < l0.length) = false := decide_eq_false (by omega)
    clear c2
    by_cases c3 : (l0.length : Int) = 0
    · rw [if_pos c3] at H
      have c3b0 : ((l0.length : Int) == 0) = true := beq_iff_eq.mpr c3
      have c3b1 : ((l0.length : Int) != 0) = false := bne_eq_false_iff_eq.mpr c3
      clear c3
      obtain rfl := Option.some.inj H
      go_enter Try.func73, Try.ntmps73
      go_wp2
      repeat (go_quiet (fail); try go_wp2)
      go_ret
      exact ⟨by first | rfl | (simp [errW_none, errW_some] <;> rfl) | (simp [*, errW_none, errW_some] <;> rfl), by repeat (first | (with_reducible first | exact HB.out | apply below_alloc | apply pw_below_drewN | apply below_drew1) | exact HB.out)⟩
    · rw [if_neg c3] at H
      have c3b0 : ((l0.length : Int) == 0) = false := beq_eq_false_iff_ne.mpr c3
      have c3b1 : ((l0.length : Int) != 0) = true := bne_iff_ne.mpr c3
      have c3b2 : ¬ (l0 = []) := fun h_ => c3 (by rw [h_]; rfl)
      have H' := Aside0.mk H
      clear H
      go_enter Try.func73, Try.ntmps73
      go_wp2
      repeat (go_quiet (fail); try go_wp2)
      go_loopg [4, 20] k (fun kq v4 v20 w' => ∃ (x4_1 : List Int) (x20_1 : Int), v20 = .int .i64 x20_1 ∧ Aside0 (interlock_condition.l0 kq x4_1 l0 (l0.length : Int) x20_1 = some r) ∧ Aside0 (kq ≤ k) ∧ Aside0 (Kd.R (Kd.int .i64) 3 w' w.heap.size (fun _ => True) v4 x4_1) ∧ Aside0 (Below w.heap.size w w'))
      case atStart => exact ⟨(([] : List Int)), (0), (by first | rfl | (simp; done) | (simp [*]; done)), H', ⟨Nat.le_refl _⟩, ⟨by first | exact Kd.R_nil _ _ _ _ _ | exact Kd.N_nil _ _ _ _ _ | exact Kd.V_nil _ _ _ _ _ | exact Kd.Q_nil _ _ _ _ _ | exact Kd.S_nil _ _ _ _ _⟩, ⟨by repeat (first | (with_reducible first | exact HB.out | apply below_alloc | apply pw_below_drewN | apply below_drew1) | exact HB.out)⟩⟩
      case round =>
        clear H'
        try clear c2
        try clear c2b0
        try clear c2b1
        try clear p2
        try clear c3
        try clear c3b0
        try clear c3b1
        try clear c3b2
        obtain ⟨x4_1, x20_1, rfl, HA, HK1, HO_4, HB⟩ := hrel
        cases gk with
        | zero => exact absurd HA.out (by simp [interlock_condition.l0])
        | succ k1 =>
          have H := HA.out
          clear HA
          simp only [interlock_condition.l0] at H
          by_cases c4 : x20_1 < (l0.length : Int)
          · rw [if_pos c4] at H
            have c4b0 : decide (x20_1 < (l0.length : Int)) = true := decide_eq_true c4
            clear c4
            by_cases c5 : 0 ≤ x20_1
            · rw [if_pos c5] at H
              have c5b0 : decide (0 ≤ x20_1) = true := decide_eq_true c5
              clear c5
              by_cases c6 : x20_1 < (l0.length : Int)
              · rw [if_pos c6] at H
                have c6b0 : decide (x20_1 < (l0.length : Int)) = true := decide_eq_true c6
                clear c6
                replace H := Option.bind_eq_some_iff.mp H
                obtain ⟨⟨t109, t110⟩, A70, H⟩ := H
                replace H : (if t109 < 0 then (some 1) else (if t110 = true then ((interlock_named.f k1 ((rd_T119 l0 x20_1).f1)).bind fun t111 => (interlock_condition.j1 k1 x4_1 x20_1 t109 t110 l0 (l0.length : Int) x20_1 (!t111) ((rd_T119 l0 x20_1).f0) ((rd_T119 l0 x20_1).f1) ((rd_T119 l0 x20_1).f2) ((rd_T119 l0 x20_1).f3))) else (interlock_condition.j1 k1 x4_1 x20_1 t109 t110 l0 (l0.length : Int) x20_1 false ((rd_T119 l0 x20_1).f0) ((rd_T119 l0 x20_1).f1) ((rd_T119 l0 x20_1).f2) ((rd_T119 l0 x20_1).f3)))) = some r := H
                have A7 := Aside0.mk A70
                clear A70
                by_cases c8 : t109 < 0
                · rw [if_pos c8] at H
                  have c8b0 : decide (t109 < 0) = true := decide_eq_true c8
                  clear c8
                  obtain rfl := Option.some.inj H
                  have p107 : 0 ≤ (x20_1 : Int) := of_decide_eq_true (by first | (with_reducible assumption) | assumption)
                  have q107 : x20_1 < (l0.length : Int) := of_decide_eq_true (by first | (with_reducible assumption) | assumption)
                  obtain ⟨ad107, e107, hx107_0, hx107_1, hx107_2, hx107_3⟩ := at_T119 HR0.out x20_1 p107 q107
                  cases e107
                  replace hx107_0 := (HB.out.cell (World.block_lt_of_cell? w _ hx107_0)).trans hx107_0
                  replace hx107_1 := (HB.out.cell (World.block_lt_of_cell? w _ hx107_1)).trans hx107_1
                  replace hx107_2 := (HB.out.cell (World.block_lt_of_cell? w _ hx107_2)).trans hx107_2
                  replace hx107_3 := (HB.out.cell (World.block_lt_of_cell? w _ hx107_3)).trans hx107_3
                  replace p107 := eq_true p107
                  replace q107 := eq_true q107
                  go_wp2_with (first | ((with_reducible refine gate_dst (N := 6) rfl ?_); (try (refine gate_guard (by rfl) ?_; dsimp only)); refine box_event ?hg (N := 6) ?hd (cs := #[.int .i64 0, .string (⟨#[]⟩ : ByteArray), .int .i64 0, .int .i64 0]) (t := 119) ?hr ?_; (case hd => rfl); (case hg => rfl); (case hr => first | (go_simp; done) | (go_simp; rfl)); intro gb108 hg w9 hbox hb; have n0_ := Aside0.mk (Kd.R_below (by (with_reducible repeat (first | apply Kd.R_alloc | apply Kd.R_drewN | apply Kd.R_drew)); exact HO_4.out) hb); have n1_ := Aside0.mk (below_step (by repeat (first | (with_reducible first | exact HB.out | apply below_alloc | apply pw_below_drewN | apply below_drew1) | exact HB.out)) hb); have n2_ := Aside0.mk (hbox); have n3_ := Aside0.mk ((by rw [hg]; exact (below_size (by repeat (first | (with_reducible first | exact HB.out | apply below_alloc | apply pw_below_drewN | apply below_drew1) | exact HB.out))) : w.heap.size ≤ gb108)); have n4_ := Aside0.mk ((by rw [hg]; exact (below_size (by repeat (first | (with_reducible first | exact HB.out | apply below_alloc | apply pw_below_drewN | apply below_drew1) | exact HB.out))) : w.heap.size ≤ gb108)); clear HO_4; clear HB; have HO_4 := n0_; have HB := n1_; have BK108 := n2_; have GW108 := n3_; have GE108 := n4_; clear n0_ n1_ n2_ n3_ n4_; clear hb hbox hg; have hcz10_0 : w9.cell? ⟨gb108, 0, none⟩ = some (.int .i64 0) := (blk_cell BK108.out 0).trans rfl; have hcz10_1 : w9.cell? ⟨gb108, 1, none⟩ = some (.string (⟨#[]⟩ : ByteArray)) := (blk_cell BK108.out 1).trans rfl; have hcz10_2 : w9.cell? ⟨gb108, 2, none⟩ = some (.int .i64 0) := (blk_cell BK108.out 2).trans rfl; have hcz10_3 : w9.cell? ⟨gb108, 3, none⟩ = some (.int .i64 0) := (blk_cell BK108.out 3).trans rfl; have hfz10_0 := blk_frozen BK108.out 0; have hfz10_1 := blk_frozen BK108.out 1; have hfz10_2 := blk_frozen BK108.out 2; have hfz10_3 := blk_frozen BK108.out 3) | (go_at_call 93; (with_reducible refine (interlock_arity.calls k1 ((rd_T119 l0 x20_1).f0) t109 t110 _ A7.out).mono ?_); rintro e w' ⟨rfl, ⟨nd, rfl⟩⟩; (try first | exact ⟨rfl, _, World.drewN_drewN _ _ _⟩ | exact ⟨rfl, _, Eq.trans (World.drewN_drewN _ _ _) (congrArg (World.drewN _) (Nat.add_assoc _ _ _))⟩)))
                  repeat (go_quiet (first | ((with_reducible refine gate_dst (N := 6) rfl ?_); (try (refine gate_guard (by rfl) ?_; dsimp only)); refine box_event ?hg (N := 6) ?hd (cs := #[.int .i64 0, .string (⟨#[]⟩ : ByteArray), .int .i64 0, .int .i64 0]) (t := 119) ?hr ?_; (case hd => rfl); (case hg => rfl); (case hr => first | (go_simp; done) | (go_simp; rfl)); intro gb108 hg w9 hbox hb; have n0_ := Aside0.mk (Kd.R_below (by (with_reducible repeat (first | apply Kd.R_alloc | apply Kd.R_drewN | apply Kd.R_drew)); exact HO_4.out) hb); have n1_ := Aside0.mk (below_step (by repeat (first | (with_reducible first | exact HB.out | apply below_alloc | apply pw_below_drewN | apply below_drew1) | exact HB.out)) hb); have n2_ := Aside0.mk (hbox); have n3_ := Aside0.mk ((by rw [hg]; exact (below_size (by repeat (first | (with_reducible first | exact HB.out | apply below_alloc | apply pw_below_drewN | apply below_drew1) | exact HB.out))) : w.heap.size ≤ gb108)); have n4_ := Aside0.mk ((by rw [hg]; exact (below_size (by repeat (first | (with_reducible first | exact HB.out | apply below_alloc | apply pw_below_drewN | apply below_drew1) | exact HB.out))) : w.heap.size ≤ gb108)); clear HO_4; clear HB; have HO_4 := n0_; have HB := n1_; have BK108 := n2_; have GW108 := n3_; have GE108 := n4_; clear n0_ n1_ n2_ n3_ n4_; clear hb hbox hg; have hcz10_0 : w9.cell? ⟨gb108, 0, none⟩ = some (.int .i64 0) := (blk_cell BK108.out 0).trans rfl; have hcz10_1 : w9.cell? ⟨gb108, 1, none⟩ = some (.string (⟨#[]⟩ : ByteArray)) := (blk_cell BK108.out 1).trans rfl; have hcz10_2 : w9.cell? ⟨gb108, 2, none⟩ = some (.int .i64 0) := (blk_cell BK108.out 2).trans rfl; have hcz10_3 : w9.cell? ⟨gb108, 3, none⟩ = some (.int .i64 0) := (blk_cell BK108.out 3).trans rfl; have hfz10_0 := blk_frozen BK108.out 0; have hfz10_1 := blk_frozen BK108.out 1; have hfz10_2 := blk_frozen BK108.out 2; have hfz10_3 := blk_frozen BK108.out 3) | (go_at_call 93; (with_reducible refine (interlock_arity.calls k1 ((rd_T119 l0 x20_1).f0) t109 t110 _ A7.out).mono ?_); rintro e w' ⟨rfl, ⟨nd, rfl⟩⟩; (try first | exact ⟨rfl, _, World.drewN_drewN _ _ _⟩ | exact ⟨rfl, _, Eq.trans (World.drewN_drewN _ _ _) (congrArg (World.drewN _) (Nat.add_assoc _ _ _))⟩))); try go_wp2_with (first | ((with_reducible refine gate_dst (N := 6) rfl ?_); (try (refine gate_guard (by rfl) ?_; dsimp only)); refine box_event ?hg (N := 6) ?hd (cs := #[.int .i64 0, .string (⟨#[]⟩ : ByteArray), .int .i64 0, .int .i64 0]) (t := 119) ?hr ?_; (case hd => rfl); (case hg => rfl); (case hr => first | (go_simp; done) | (go_simp; rfl)); intro gb108 hg w9 hbox hb; have n0_ := Aside0.mk (Kd.R_below (by (with_reducible repeat (first | apply Kd.R_alloc | apply Kd.R_drewN | apply Kd.R_drew)); exact HO_4.out) hb); have n1_ := Aside0.mk (below_step (by repeat (first | (with_reducible first | exact HB.out | apply below_alloc | apply pw_below_drewN | apply below_drew1) | exact HB.out)) hb); have n2_ := Aside0.mk (hbox); have n3_ := Aside0.mk ((by rw [hg]; exact (below_size (by repeat (first | (with_reducible first | exact HB.out | apply below_alloc | apply pw_below_drewN | apply below_drew1) | exact HB.out))) : w.heap.size ≤ gb108)); have n4_ := Aside0.mk ((by rw [hg]; exact (below_size (by repeat (first | (with_reducible first | exact HB.out | apply below_alloc | apply pw_below_drewN | apply below_drew1) | exact HB.out))) : w.heap.size ≤ gb108)); clear HO_4; clear HB; have HO_4 := n0_; have HB := n1_; have BK108 := n2_; have GW108 := n3_; have GE108 := n4_; clear n0_ n1_ n2_ n3_ n4_; clear hb hbox hg; have hcz10_0 : w9.cell? ⟨gb108, 0, none⟩ = some (.int .i64 0) := (blk_cell BK108.out 0).trans rfl; have hcz10_1 : w9.cell? ⟨gb108, 1, none⟩ = some (.string (⟨#[]⟩ : ByteArray)) := (blk_cell BK108.out 1).trans rfl; have hcz10_2 : w9.cell? ⟨gb108, 2, none⟩ = some (.int .i64 0) := (blk_cell BK108.out 2).trans rfl; have hcz10_3 : w9.cell? ⟨gb108, 3, none⟩ = some (.int .i64 0) := (blk_cell BK108.out 3).trans rfl; have hfz10_0 := blk_frozen BK108.out 0; have hfz10_1 := blk_frozen BK108.out 1; have hfz10_2 := blk_frozen BK108.out 2; have hfz10_3 := blk_frozen BK108.out 3) | (go_at_call 93; (with_reducible refine (interlock_arity.calls k1 ((rd_T119 l0 x20_1).f0) t109 t110 _ A7.out).mono ?_); rintro e w' ⟨rfl, ⟨nd, rfl⟩⟩; (try first | exact ⟨rfl, _, World.drewN_drewN _ _ _⟩ | exact ⟨rfl, _, Eq.trans (World.drewN_drewN _ _ _) (congrArg (World.drewN _) (Nat.add_assoc _ _ _))⟩))))
                  go_ret
                  exact ⟨by first | rfl | (simp [errW_none, errW_some] <;> rfl) | (simp [*, errW_none, errW_some] <;> rfl), by repeat (first | (with_reducible first | exact HB.out | apply below_alloc | apply pw_below_drewN | apply below_drew1 | refine below_set ?_ GE108.out) | exact HB.out)⟩
                · rw [if_neg c8] at H
                  have c8b0 : decide (t109 < 0) = false := decide_eq_false c8
                  clear c8
                  have HC11 := Aside0.mk H
                  clear H
                  have p107 : 0 ≤ (x20_1 : Int) := of_decide_eq_true (by first | (with_reducible assumption) | assumption)
                  have q107 : x20_1 < (l0.length : Int) := of_decide_eq_true (by first | (with_reducible assumption) | assumption)
                  obtain ⟨ad107, e107, hx107_0, hx107_1, hx107_2, hx107_3⟩ := at_T119 HR0.out x20_1 p107 q107
                  cases e107
                  replace hx107_0 := (HB.out.cell (World.block_lt_of_cell? w _ hx107_0)).trans hx107_0
                  replace hx107_1 := (HB.out.cell (World.block_lt_of_cell? w _ hx107_1)).trans hx107_1
                  replace hx107_2 := (HB.out.cell (World.block_lt_of_cell? w _ hx107_2)).trans hx107_2
                  replace hx107_3 := (HB.out.cell (World.block_lt_of_cell? w _ hx107_3)).trans hx107_3
                  replace p107 := eq_true p107
                  replace q107 := eq_true q107
                  go_upto_region 13 with (first | ((with_reducible refine gate_dst (N := 6) rfl ?_); (try (refine gate_guard (by rfl) ?_; dsimp only)); refine box_event ?hg (N := 6) ?hd (cs := #[.int .i64 0, .string (⟨#[]⟩ : ByteArray), .int .i64 0, .int .i64 0]) (t := 119) ?hr ?_; (case hd => rfl); (case hg => rfl); (case hr => first | (go_simp; done) | (go_simp; rfl)); intro gb108 hg w12 hbox hb; have n0_ := Aside0.mk (Kd.R_below (by (with_reducible repeat (first | apply Kd.R_alloc | apply Kd.R_drewN | apply Kd.R_drew)); exact HO_4.out) hb); have n1_ := Aside0.mk (below_step (by repeat (first | (with_reducible first | exact HB.out | apply below_alloc | apply pw_below_drewN | apply below_drew1) | exact HB.out)) hb); have n2_ := Aside0.mk (hbox); have n3_ := Aside0.mk ((by rw [hg]; exact (below_size (by repeat (first | (with_reducible first | exact HB.out | apply below_alloc | apply pw_below_drewN | apply below_drew1) | exact HB.out))) : w.heap.size ≤ gb108)); have n4_ := Aside0.mk ((by rw [hg]; exact (below_size (by repeat (first | (with_reducible first | exact HB.out | apply below_alloc | apply pw_below_drewN | apply below_drew1) | exact HB.out))) : w.heap.size ≤ gb108)); clear HO_4; clear HB; have HO_4 := n0_; have HB := n1_; have BK108 := n2_; have GW108 := n3_; have GE108 := n4_; clear n0_ n1_ n2_ n3_ n4_; clear hb hbox hg; have hcz13_0 : w12.cell? ⟨gb108, 0, none⟩ = some (.int .i64 0) := (blk_cell BK108.out 0).trans rfl; have hcz13_1 : w12.cell? ⟨gb108, 1, none⟩ = some (.string (⟨#[]⟩ : ByteArray)) := (blk_cell BK108.out 1).trans rfl; have hcz13_2 : w12.cell? ⟨gb108, 2, none⟩ = some (.int .i64 0) := (blk_cell BK108.out 2).trans rfl; have hcz13_3 : w12.cell? ⟨gb108, 3, none⟩ = some (.int .i64 0) := (blk_cell BK108.out 3).trans rfl; have hfz13_0 := blk_frozen BK108.out 0; have hfz13_1 := blk_frozen BK108.out 1; have hfz13_2 := blk_frozen BK108.out 2; have hfz13_3 := blk_frozen BK108.out 3) | (go_at_call 93; (with_reducible refine (interlock_arity.calls k1 ((rd_T119 l0 x20_1).f0) t109 t110 _ A7.out).mono ?_); rintro e w' ⟨rfl, ⟨nd, rfl⟩⟩; (try first | exact ⟨rfl, _, World.drewN_drewN _ _ _⟩ | exact ⟨rfl, _, Eq.trans (World.drewN_drewN _ _ _) (congrArg (World.drewN _) (Nat.add_assoc _ _ _))⟩)))
                  repeat (go_quiet (first | ((with_reducible refine gate_dst (N := 6) rfl ?_); (try (refine gate_guard (by rfl) ?_; dsimp only)); refine box_event ?hg (N := 6) ?hd (cs := #[.int .i64 0, .string (⟨#[]⟩ : ByteArray), .int .i64 0, .int .i64 0]) (t := 119) ?hr ?_; (case hd => rfl); (case hg => rfl); (case hr => first | (go_simp; done) | (go_simp; rfl)); intro gb108 hg w12 hbox hb; have n0_ := Aside0.mk (Kd.R_below (by (with_reducible repeat (first | apply Kd.R_alloc | apply Kd.R_drewN | apply Kd.R_drew)); exact HO_4.out) hb); have n1_ := Aside0.mk (below_step (by repeat (first | (with_reducible first | exact HB.out | apply below_alloc | apply pw_below_drewN | apply below_drew1) | exact HB.out)) hb); have n2_ := Aside0.mk (hbox); have n3_ := Aside0.mk ((by rw [hg]; exact (below_size (by repeat (first | (with_reducible first | exact HB.out | apply below_alloc | apply pw_below_drewN | apply below_drew1) | exact HB.out))) : w.heap.size ≤ gb108)); have n4_ := Aside0.mk ((by rw [hg]; exact (below_size (by repeat (first | (with_reducible first | exact HB.out | apply below_alloc | apply pw_below_drewN | apply below_drew1) | exact HB.out))) : w.heap.size ≤ gb108)); clear HO_4; clear HB; have HO_4 := n0_; have HB := n1_; have BK108 := n2_; have GW108 := n3_; have GE108 := n4_; clear n0_ n1_ n2_ n3_ n4_; clear hb hbox hg; have hcz13_0 : w12.cell? ⟨gb108, 0, none⟩ = some (.int .i64 0) := (blk_cell BK108.out 0).trans rfl; have hcz13_1 : w12.cell? ⟨gb108, 1, none⟩ = some (.string (⟨#[]⟩ : ByteArray)) := (blk_cell BK108.out 1).trans rfl; have hcz13_2 : w12.cell? ⟨gb108, 2, none⟩ = some (.int .i64 0) := (blk_cell BK108.out 2).trans rfl; have hcz13_3 : w12.cell? ⟨gb108, 3, none⟩ = some (.int .i64 0) := (blk_cell BK108.out 3).trans rfl; have hfz13_0 := blk_frozen BK108.out 0; have hfz13_1 := blk_frozen BK108.out 1; have hfz13_2 := blk_frozen BK108.out 2; have hfz13_3 := blk_frozen BK108.out 3) | (go_at_call 93; (with_reducible refine (interlock_arity.calls k1 ((rd_T119 l0 x20_1).f0) t109 t110 _ A7.out).mono ?_); rintro e w' ⟨rfl, ⟨nd, rfl⟩⟩; (try first | exact ⟨rfl, _, World.drewN_drewN _ _ _⟩ | exact ⟨rfl, _, Eq.trans (World.drewN_drewN _ _ _) (congrArg (World.drewN _) (Nat.add_assoc _ _ _))⟩))); go_upto_region 13 with (first | ((with_reducible refine gate_dst (N := 6) rfl ?_); (try (refine gate_guard (by rfl) ?_; dsimp only)); refine box_event ?hg (N := 6) ?hd (cs := #[.int .i64 0, .string (⟨#[]⟩ : ByteArray), .int .i64 0, .int .i64 0]) (t := 119) ?hr ?_; (case hd => rfl); (case hg => rfl); (case hr => first | (go_simp; done) | (go_simp; rfl)); intro gb108 hg w12 hbox hb; have n0_ := Aside0.mk (Kd.R_below (by (with_reducible repeat (first | apply Kd.R_alloc | apply Kd.R_drewN | apply Kd.R_drew)); exact HO_4.out) hb); have n1_ := Aside0.mk (below_step (by repeat (first | (with_reducible first | exact HB.out | apply below_alloc | apply pw_below_drewN | apply below_drew1) | exact HB.out)) hb); have n2_ := Aside0.mk (hbox); have n3_ := Aside0.mk ((by rw [hg]; exact (below_size (by repeat (first | (with_reducible first | exact HB.out | apply below_alloc | apply pw_below_drewN | apply below_drew1) | exact HB.out))) : w.heap.size ≤ gb108)); have n4_ := Aside0.mk ((by rw [hg]; exact (below_size (by repeat (first | (with_reducible first | exact HB.out | apply below_alloc | apply pw_below_drewN | apply below_drew1) | exact HB.out))) : w.heap.size ≤ gb108)); clear HO_4; clear HB; have HO_4 := n0_; have HB := n1_; have BK108 := n2_; have GW108 := n3_; have GE108 := n4_; clear n0_ n1_ n2_ n3_ n4_; clear hb hbox hg; have hcz13_0 : w12.cell? ⟨gb108, 0, none⟩ = some (.int .i64 0) := (blk_cell BK108.out 0).trans rfl; have hcz13_1 : w12.cell? ⟨gb108, 1, none⟩ = some (.string (⟨#[]⟩ : ByteArray)) := (blk_cell BK108.out 1).trans rfl; have hcz13_2 : w12.cell? ⟨gb108, 2, none⟩ = some (.int .i64 0) := (blk_cell BK108.out 2).trans rfl; have hcz13_3 : w12.cell? ⟨gb108, 3, none⟩ = some (.int .i64 0) := (blk_cell BK108.out 3).trans rfl; have hfz13_0 := blk_frozen BK108.out 0; have hfz13_1 := blk_frozen BK108.out 1; have hfz13_2 := blk_frozen BK108.out 2; have hfz13_3 := blk_frozen BK108.out 3) | (go_at_call 93; (with_reducible refine (interlock_arity.calls k1 ((rd_T119 l0 x20_1).f0) t109 t110 _ A7.out).mono ?_); rintro e w' ⟨rfl, ⟨nd, rfl⟩⟩; (try first | exact ⟨rfl, _, World.drewN_drewN _ _ _⟩ | exact ⟨rfl, _, Eq.trans (World.drewN_drewN _ _ _) (congrArg (World.drewN _) (Nat.add_assoc _ _ _))⟩))))
                  (try simp only [Act.put, List.setIfInBounds_toArray, List.set_cons_zero, List.set_cons_succ])
                  go_cut [34] (fun v34 wc => ∃ (kq : Nat) (x34_10 : Bool), v34 = .bool x34_10 ∧ Aside0 (interlock_condition.j1 kq x4_1 x20_1 t109 t110 l0 (l0.length : Int) x20_1 x34_10 ((rd_T119 l0 x20_1).f0) ((rd_T119 l0 x20_1).f1) ((rd_T119 l0 x20_1).f2) ((rd_T119 l0 x20_1).f3) = some r) ∧ Aside0 (kq ≤ k1) ∧ Aside0 (Kd.R (Kd.int .i64) 3 wc w.heap.size (fun _ => True) u4 x4_1) ∧ Aside0 (wc.heap[gb108]? = some (.cells #[.int .i64 ((rd_T119 l0 x20_1).f0), .string ((rd_T119 l0 x20_1).f1), .int .i64 ((rd_T119 l0 x20_1).f2), .int .i64 ((rd_T119 l0 x20_1).f3)] 119 (0, 0))) ∧ Aside0 (Below w.heap.size w wc))
                  case first =>
                    have H := HC11.out
                    clear HC11
                    by_cases c14 : t110 = true
                    · subst c14
                      have H1 : ((interlock_named.f k1 ((rd_T119 l0 x20_1).f1)).bind fun t111 => (interlock_condition.j1 k1 x4_1 x20_1 t109 true l0 (l0.length : Int) x20_1 (!t111) ((rd_T119 l0 x20_1).f0) ((rd_T119 l0 x20_1).f1) ((rd_T119 l0 x20_1).f2) ((rd_T119 l0 x20_1).f3))) = some r := by rw [if_pos rfl] at H; exact H
                      clear H
                      have H := H1
                      clear H1
                      replace H := Option.bind_eq_some_iff.mp H
                      obtain ⟨t111, A150, H⟩ := H
                      replace H : (interlock_condition.j1 k1 x4_1 x20_1 t109 true l0 (l0.length : Int) x20_1 (!t111) ((rd_T119 l0 x20_1).f0) ((rd_T119 l0 x20_1).f1) ((rd_T119 l0 x20_1).f2) ((rd_T119 l0 x20_1).f3)) = some r := H
                      have A15 := Aside0.mk A150
                      clear A150
                      have H' := Aside0.mk H
                      clear H
                      have hcz16_0 : w12.cell? ⟨gb108, 0, none⟩ = some (.int .i64 0) := (blk_cell BK108.out 0).trans rfl
                      have hcz16_1 : w12.cell? ⟨gb108, 1, none⟩ = some (.string (⟨#[]⟩ : ByteArray)) := (blk_cell BK108.out 1).trans rfl
                      have hcz16_2 : w12.cell? ⟨gb108, 2, none⟩ = some (.int .i64 0) := (blk_cell BK108.out 2).trans rfl
                      have hcz16_3 : w12.cell? ⟨gb108, 3, none⟩ = some (.int .i64 0) := (blk_cell BK108.out 3).trans rfl
                      have hfz16_0 := blk_frozen BK108.out 0
                      have hfz16_1 := blk_frozen BK108.out 1
                      have hfz16_2 := blk_frozen BK108.out 2
                      have hfz16_3 := blk_frozen BK108.out 3
                      go_wp2_with (first | (go_at_call 72; (with_reducible refine (interlock_named.calls k1 ((rd_T119 l0 x20_1).f1) t111 _ A15.out).mono ?_); rintro e w17 ⟨rfl, hb⟩; have n0_ := Aside0.mk (Kd.R_below (by (with_reducible repeat (first | apply Kd.R_alloc | apply Kd.R_drewN | apply Kd.R_drew)); exact (Kd.R_mono (Kd.R_far (p := ⟨gb108, 3, none⟩) (Kd.R_far (p := ⟨gb108, 2, none⟩) (Kd.R_far (p := ⟨gb108, 1, none⟩) (Kd.R_far (p := ⟨gb108, 0, none⟩) (Kd.R_types HO_4.out BK108.out (by decide)) (fun _ hk => hk.2) (.int .i64 ((rd_T119 l0 x20_1).f0))) (fun _ hk => hk.2) (.string ((rd_T119 l0 x20_1).f1))) (fun _ hk => hk.2) (.int .i64 ((rd_T119 l0 x20_1).f2))) (fun _ hk => hk.2) (.int .i64 ((rd_T119 l0 x20_1).f3))) (fun _ h_ => h_.1))) hb); have n1_ := Aside0.mk (blk_below (g := gb108) (o := .cells #[.int .i64 ((rd_T119 l0 x20_1).f0), .string ((rd_T119 l0 x20_1).f1), .int .i64 ((rd_T119 l0 x20_1).f2), .int .i64 ((rd_T119 l0 x20_1).f3)] 119 (0, 0)) (by (with_reducible repeat (first | refine blk_drewN ?_ _ | refine blk_drew ?_ | refine blk_alloc ?_ _)); refine blk_put (cs := #[.int .i64 ((rd_T119 l0 x20_1).f0), .string ((rd_T119 l0 x20_1).f1), .int .i64 ((rd_T119 l0 x20_1).f2), .int .i64 0]) ?_ 3 _ rfl; (with_reducible repeat (first | refine blk_drewN ?_ _ | refine blk_drew ?_ | refine blk_alloc ?_ _)); refine blk_put (cs := #[.int .i64 ((rd_T119 l0 x20_1).f0), .string ((rd_T119 l0 x20_1).f1), .int .i64 0, .int .i64 0]) ?_ 2 _ rfl; (with_reducible repeat (first | refine blk_drewN ?_ _ | refine blk_drew ?_ | refine blk_alloc ?_ _)); refine blk_put (cs := #[.int .i64 ((rd_T119 l0 x20_1).f0), .string (⟨#[]⟩ : ByteArray), .int .i64 0, .int .i64 0]) ?_ 1 _ rfl; (with_reducible repeat (first | refine blk_drewN ?_ _ | refine blk_drew ?_ | refine blk_alloc ?_ _)); refine blk_put (cs := #[.int .i64 0, .string (⟨#[]⟩ : ByteArray), .int .i64 0, .int .i64 0]) ?_ 0 _ rfl; (with_reducible repeat (first | refine blk_drewN ?_ _ | refine blk_drew ?_ | refine blk_alloc ?_ _)); exact BK108.out) hb); have n2_ := Aside0.mk (below_step (by repeat (first | (with_reducible first | exact HB.out | apply below_alloc | apply pw_below_drewN | apply below_drew1 | refine below_set ?_ GE108.out) | exact HB.out)) hb); clear HO_4; clear BK108; clear HB; have HO_4 := n0_; have BK108 := n1_; have HB := n2_; clear n0_ n1_ n2_; (try clear hb); (try clear hb2); (try clear hk); (try clear hi)))
                      repeat (go_quiet (first | (go_at_call 72; (with_reducible refine (interlock_named.calls k1 ((rd_T119 l0 x20_1).f1) t111 _ A15.out).mono ?_); rintro e w17 ⟨rfl, hb⟩; have n0_ := Aside0.mk (Kd.R_below (by (with_reducible repeat (first | apply Kd.R_alloc | apply Kd.R_drewN | apply Kd.R_drew)); exact (Kd.R_mono (Kd.R_far (p := ⟨gb108, 3, none⟩) (Kd.R_far (p := ⟨gb108, 2, none⟩) (Kd.R_far (p := ⟨gb108, 1, none⟩) (Kd.R_far (p := ⟨gb108, 0, none⟩) (Kd.R_types HO_4.out BK108.out (by decide)) (fun _ hk => hk.2) (.int .i64 ((rd_T119 l0 x20_1).f0))) (fun _ hk => hk.2) (.string ((rd_T119 l0 x20_1).f1))) (fun _ hk => hk.2) (.int .i64 ((rd_T119 l0 x20_1).f2))) (fun _ hk => hk.2) (.int .i64 ((rd_T119 l0 x20_1).f3))) (fun _ h_ => h_.1))) hb); have n1_ := Aside0.mk (blk_below (g := gb108) (o := .cells #[.int .i64 ((rd_T119 l0 x20_1).f0), .string ((rd_T119 l0 x20_1).f1), .int .i64 ((rd_T119 l0 x20_1).f2), .int .i64 ((rd_T119 l0 x20_1).f3)] 119 (0, 0)) (by (with_reducible repeat (first | refine blk_drewN ?_ _ | refine blk_drew ?_ | refine blk_alloc ?_ _)); refine blk_put (cs := #[.int .i64 ((rd_T119 l0 x20_1).f0), .string ((rd_T119 l0 x20_1).f1), .int .i64 ((rd_T119 l0 x20_1).f2), .int .i64 0]) ?_ 3 _ rfl; (with_reducible repeat (first | refine blk_drewN ?_ _ | refine blk_drew ?_ | refine blk_alloc ?_ _)); refine blk_put (cs := #[.int .i64 ((rd_T119 l0 x20_1).f0), .string ((rd_T119 l0 x20_1).f1), .int .i64 0, .int .i64 0]) ?_ 2 _ rfl; (with_reducible repeat (first | refine blk_drewN ?_ _ | refine blk_drew ?_ | refine blk_alloc ?_ _)); refine blk_put (cs := #[.int .i64 ((rd_T119 l0 x20_1).f0), .string (⟨#[]⟩ : ByteArray), .int .i64 0, .int .i64 0]) ?_ 1 _ rfl; (with_reducible repeat (first | refine blk_drewN ?_ _ | refine blk_drew ?_ | refine blk_alloc ?_ _)); refine blk_put (cs := #[.int .i64 0, .string (⟨#[]⟩ : ByteArray), .int .i64 0, .int .i64 0]) ?_ 0 _ rfl; (with_reducible repeat (first | refine blk_drewN ?_ _ | refine blk_drew ?_ | refine blk_alloc ?_ _)); exact BK108.out) hb); have n2_ := Aside0.mk (below_step (by repeat (first | (with_reducible first | exact HB.out | apply below_alloc | apply pw_below_drewN | apply below_drew1 | refine below_set ?_ GE108.out) | exact HB.out)) hb); clear HO_4; clear BK108; clear HB; have HO_4 := n0_; have BK108 := n1_; have HB := n2_; clear n0_ n1_ n2_; (try clear hb); (try clear hb2); (try clear hk); (try clear hi))); try go_wp2_with (first | (go_at_call 72; (with_reducible refine (interlock_named.calls k1 ((rd_T119 l0 x20_1).f1) t111 _ A15.out).mono ?_); rintro e w17 ⟨rfl, hb⟩; have n0_ := Aside0.mk (Kd.R_below (by (with_reducible repeat (first | apply Kd.R_alloc | apply Kd.R_drewN | apply Kd.R_drew)); exact (Kd.R_mono (Kd.R_far (p := ⟨gb108, 3, none⟩) (Kd.R_far (p := ⟨gb108, 2, none⟩) (Kd.R_far (p := ⟨gb108, 1, none⟩) (Kd.R_far (p := ⟨gb108, 0, none⟩) (Kd.R_types HO_4.out BK108.out (by decide)) (fun _ hk => hk.2) (.int .i64 ((rd_T119 l0 x20_1).f0))) (fun _ hk => hk.2) (.string ((rd_T119 l0 x20_1).f1))) (fun _ hk => hk.2) (.int .i64 ((rd_T119 l0 x20_1).f2))) (fun _ hk => hk.2) (.int .i64 ((rd_T119 l0 x20_1).f3))) (fun _ h_ => h_.1))) hb); have n1_ := Aside0.mk (blk_below (g := gb108) (o := .cells #[.int .i64 ((rd_T119 l0 x20_1).f0), .string ((rd_T119 l0 x20_1).f1), .int .i64 ((rd_T119 l0 x20_1).f2), .int .i64 ((rd_T119 l0 x20_1).f3)] 119 (0, 0)) (by (with_reducible repeat (first | refine blk_drewN ?_ _ | refine blk_drew ?_ | refine blk_alloc ?_ _)); refine blk_put (cs := #[.int .i64 ((rd_T119 l0 x20_1).f0), .string ((rd_T119 l0 x20_1).f1), .int .i64 ((rd_T119 l0 x20_1).f2), .int .i64 0]) ?_ 3 _ rfl; (with_reducible repeat (first | refine blk_drewN ?_ _ | refine blk_drew ?_ | refine blk_alloc ?_ _)); refine blk_put (cs := #[.int .i64 ((rd_T119 l0 x20_1).f0), .string ((rd_T119 l0 x20_1).f1), .int .i64 0, .int .i64 0]) ?_ 2 _ rfl; (with_reducible repeat (first | refine blk_drewN ?_ _ | refine blk_drew ?_ | refine blk_alloc ?_ _)); refine blk_put (cs := #[.int .i64 ((rd_T119 l0 x20_1).f0), .string (⟨#[]⟩ : ByteArray), .int .i64 0, .int .i64 0]) ?_ 1 _ rfl; (with_reducible repeat (first | refine blk_drewN ?_ _ | refine blk_drew ?_ | refine blk_alloc ?_ _)); refine blk_put (cs := #[.int .i64 0, .string (⟨#[]⟩ : ByteArray), .int .i64 0, .int .i64 0]) ?_ 0 _ rfl; (with_reducible repeat (first | refine blk_drewN ?_ _ | refine blk_drew ?_ | refine blk_alloc ?_ _)); exact BK108.out) hb); have n2_ := Aside0.mk (below_step (by repeat (first | (with_reducible first | exact HB.out | apply below_alloc | apply pw_below_drewN | apply below_drew1 | refine below_set ?_ GE108.out) | exact HB.out)) hb); clear HO_4; clear BK108; clear HB; have HO_4 := n0_; have BK108 := n1_; have HB := n2_; clear n0_ n1_ n2_; (try clear hb); (try clear hb2); (try clear hk); (try clear hi))))
                      go_meet
                      case rel => exact ⟨_, (!t111), (by first | rfl | (simp; done) | (simp [*]; done)), H', ⟨by have := HK1.out; first | omega | exact Nat.le_refl _⟩, ⟨by (with_reducible repeat (first | apply Kd.R_alloc | apply Kd.R_drewN | apply Kd.R_drew)); exact HO_4.out⟩, ⟨by (with_reducible repeat (first | refine blk_drewN ?_ _ | refine blk_drew ?_ | refine blk_alloc ?_ _)); exact BK108.out⟩, ⟨by repeat (first | (with_reducible first | exact HB.out | apply below_alloc | apply pw_below_drewN | apply below_drew1 | refine below_set ?_ GE108.out) | exact HB.out)⟩⟩
                    · replace c14 := Bool.eq_false_iff.mpr c14
                      subst c14
                      have H1 : (interlock_condition.j1 k1 x4_1 x20_1 t109 false l0 (l0.length : Int) x20_1 false ((rd_T119 l0 x20_1).f0) ((rd_T119 l0 x20_1).f1) ((rd_T119 l0 x20_1).f2) ((rd_T119 l0 x20_1).f3)) = some r := by rw [if_neg (show ¬ (false = true) by decide)] at H; exact H
                      clear H
                      have H := H1
                      clear H1
                      have H' := Aside0.mk H
                      clear H
                      go_wp2
                      repeat (go_quiet (fail); try go_wp2)
                      go_meet
                      case rel => exact ⟨_, (false), (by first | rfl | (simp; done) | (simp [*]; done)), H', ⟨by have := HK1.out; first | omega | exact Nat.le_refl _⟩, ⟨by (with_reducible repeat (first | apply Kd.R_alloc | apply Kd.R_drewN | apply Kd.R_drew)); exact Kd.R_mono (Kd.R_far (p := ⟨gb108, 3, none⟩) (Kd.R_far (p := ⟨gb108, 2, none⟩) (Kd.R_far (p := ⟨gb108, 1, none⟩) (Kd.R_far (p := ⟨gb108, 0, none⟩) (Kd.R_types HO_4.out BK108.out (by decide)) (fun _ hk => hk.2) (.int .i64 ((rd_T119 l0 x20_1).f0))) (fun _ hk => hk.2) (.string ((rd_T119 l0 x20_1).f1))) (fun _ hk => hk.2) (.int .i64 ((rd_T119 l0 x20_1).f2))) (fun _ hk => hk.2) (.int .i64 ((rd_T119 l0 x20_1).f3))) (fun _ hk => trivial)⟩, ⟨by (with_reducible repeat (first | refine blk_drewN ?_ _ | refine blk_drew ?_ | refine blk_alloc ?_ _)); refine blk_put (cs := #[.int .i64 ((rd_T119 l0 x20_1).f0), .string ((rd_T119 l0 x20_1).f1), .int .i64 ((rd_T119 l0 x20_1).f2), .int .i64 0]) ?_ 3 _ rfl; (with_reducible repeat (first | refine blk_drewN ?_ _ | refine blk_drew ?_ | refine blk_alloc ?_ _)); refine blk_put (cs := #[.int .i64 ((rd_T119 l0 x20_1).f0), .string ((rd_T119 l0 x20_1).f1), .int .i64 0, .int .i64 0]) ?_ 2 _ rfl; (with_reducible repeat (first | refine blk_drewN ?_ _ | refine blk_drew ?_ | refine blk_alloc ?_ _)); refine blk_put (cs := #[.int .i64 ((rd_T119 l0 x20_1).f0), .string (⟨#[]⟩ : ByteArray), .int .i64 0, .int .i64 0]) ?_ 1 _ rfl; (with_reducible repeat (first | refine blk_drewN ?_ _ | refine blk_drew ?_ | refine blk_alloc ?_ _)); refine blk_put (cs := #[.int .i64 0, .string (⟨#[]⟩ : ByteArray), .int .i64 0, .int .i64 0]) ?_ 0 _ rfl; (with_reducible repeat (first | refine blk_drewN ?_ _ | refine blk_drew ?_ | refine blk_alloc ?_ _)); exact BK108.out⟩, ⟨by repeat (first | (with_reducible first | exact HB.out | apply below_alloc | apply pw_below_drewN | apply below_drew1 | refine below_set ?_ GE108.out) | exact HB.out)⟩⟩
                  case rest =>
                    clear HC11
                    try clear c1
                    try clear p1
                    try clear q1
                    try clear hx1
                    try clear c2
                    try clear c2b0
                    try clear c2b1
                    try clear p2
                    try clear c3
                    try clear c3b0
                    try clear c3b1
                    try clear c3b2
                    try clear c4
                    try clear c4b0
                    try clear c5
                    try clear c5b0
                    try clear c6
                    try clear c6b0
                    try clear c7
                    try clear c8
                    try clear c8b0
                    try clear p10
                    try clear q10
                    try clear hx10
                    try clear c14
                    try clear hcz10_0
                    try clear hcz10_1
                    try clear hcz10_2
                    try clear hcz10_3
                    try clear hcz13_0
                    try clear hcz13_1
                    try clear hcz13_2
                    try clear hcz13_3
                    try clear hcz16_0
                    try clear hcz16_1
                    try clear hcz16_2
                    try clear hcz16_3
                    try clear hfz10_0
                    try clear hfz10_1
                    try clear hfz10_2
                    try clear hfz10_3
                    try clear hfz13_0
                    try clear hfz13_1
                    try clear hfz13_2
                    try clear hfz13_3
                    try clear hfz16_0
                    try clear hfz16_1
                    try clear hfz16_2
                    try clear hfz16_3
                    try clear hx107_0
                    try clear hx107_1
                    try clear hx107_2
                    try clear hx107_3
                    try clear p107
                    try clear p2
                    try clear q107
                    obtain ⟨kq, x34_10, rfl, HA, HJ10, HO_4, BK108, HB⟩ := hcut
                    cases kq with
                    | zero => exact absurd HA.out (by simp [interlock_condition.j1])
                    | succ kj10 =>
                      have H := HA.out
                      clear HA
                      simp only [interlock_condition.j1] at H
                      by_cases c18 : x34_10 = true
                      · subst c18
                        have H1 : (some 6) = some r := by rw [if_pos rfl] at H; exact H
                        clear H
                        have H := H1
                        clear H1
                        obtain rfl := Option.some.inj H
                        go_wp2
                        repeat (go_quiet (fail); try go_wp2)
                        go_ret
                        exact ⟨by first | rfl | (simp [errW_none, errW_some] <;> rfl) | (simp [*, errW_none, errW_some] <;> rfl), by repeat (first | (with_reducible first | exact HB.out | apply below_alloc | apply pw_below_drewN | apply below_drew1 | refine below_set ?_ GE108.out) | exact HB.out)⟩
                      · replace c18 := Bool.eq_false_iff.mpr c18
                        subst c18
                        have H1 : (if t110 = true then (if t109 < 1 then (if ((rd_T119 l0 x20_1).f2) = 0 then (if t109 < 2 then (if ((rd_T119 l0 x20_1).f3) = 0 then (interlock_condition.j2 kj10 x4_1 x20_1 t109 l0 (l0.length : Int) x20_1 (decide ((x4_1.length : Int) < t109)) ((rd_T119 l0 x20_1).f0) ((rd_T119 l0 x20_1).f1) ((rd_T119 l0 x20_1).f2) ((rd_T119 l0 x20_1).f3)) else (interlock_condition.j2 kj10 x4_1 x20_1 t109 l0 (l0.length : Int) x20_1 true ((rd_T119 l0 x20_1).f0) ((rd_T119 l0 x20_1).f1) ((rd_T119 l0 x20_1).f2) ((rd_T119 l0 x20_1).f3))) else (interlock_condition.j2 kj10 x4_1 x20_1 t109 l0 (l0.length : Int) x20_1 (decide ((x4_1.length : Int) < t109)) ((rd_T119 l0 x20_1).f0) ((rd_T119 l0 x20_1).f1) ((rd_T119 l0 x20_1).f2) ((rd_T119 l0 x20_1).f3))) else (interlock_condition.j2 kj10 x4_1 x20_1 t109 l0 (l0.length : Int) x20_1 true ((rd_T119 l0 x20_1).f0) ((rd_T119 l0 x20_1).f1) ((rd_T119 l0 x20_1).f2) ((rd_T119 l0 x20_1).f3))) else (if t109 < 2 then (if ((rd_T119 l0 x20_1).f3) = 0 then (interlock_condition.j2 kj10 x4_1 x20_1 t109 l0 (l0.length : Int) x20_1 (decide ((x4_1.length : Int) < t109)) ((rd_T119 l0 x20_1).f0) ((rd_T119 l0 x20_1).f1) ((rd_T119 l0 x20_1).f2) ((rd_T119 l0 x20_1).f3)) else (interlock_condition.j2 kj10 x4_1 x20_1 t109 l0 (l0.length : Int) x20_1 true ((rd_T119 l0 x20_1).f0) ((rd_T119 l0 x20_1).f1) ((rd_T119 l0 x20_1).f2) ((rd_T119 l0 x20_1).f3))) else (interlock_condition.j2 kj10 x4_1 x20_1 t109 l0 (l0.length : Int) x20_1 (decide ((x4_1.length : Int) < t109)) ((rd_T119 l0 x20_1).f0) ((rd_T119 l0 x20_1).f1) ((rd_T119 l0 x20_1).f2) ((rd_T119 l0 x20_1).f3)))) else (if ((rd_T119 l0 x20_1).f1).toList = ([] : List UInt8) then (if t109 < 1 then (if ((rd_T119 l0 x20_1).f2) = 0 then (if t109 < 2 then (if ((rd_T119 l0 x20_1).f3) = 0 then (interlock_condition.j2 kj10 x4_1 x20_1 t109 l0 (l0.length : Int) x20_1 (decide ((x4_1.length : Int) < t109)) ((rd_T119 l0 x20_1).f0) ((rd_T119 l0 x20_1).f1) ((rd_T119 l0 x20_1).f2) ((rd_T119 l0 x20_1).f3)) else (interlock_condition.j2 kj10 x4_1 x20_1 t109 l0 (l0.length : Int) x20_1 true ((rd_T119 l0 x20_1).f0) ((rd_T119 l0 x20_1).f1) ((rd_T119 l0 x20_1).f2) ((rd_T119 l0 x20_1).f3))) else (interlock_condition.j2 kj10 x4_1 x20_1 t109 l0 (l0.length : Int) x20_1 (decide ((x4_1.length : Int) < t109)) ((rd_T119 l0 x20_1).f0) ((rd_T119 l0 x20_1).f1) ((rd_T119 l0 x20_1).f2) ((rd_T119 l0 x20_1).f3))) else (interlock_condition.j2 kj10 x4_1 x20_1 t109 l0 (l0.length : Int) x20_1 true ((rd_T119 l0 x20_1).f0) ((rd_T119 l0 x20_1).f1) ((rd_T119 l0 x20_1).f2) ((rd_T119 l0 x20_1).f3))) else (if t109 < 2 then (if ((rd_T119 l0 x20_1).f3) = 0 then (interlock_condition.j2 kj10 x4_1 x20_1 t109 l0 (l0.length : Int) x20_1 (decide ((x4_1.length : Int) < t109)) ((rd_T119 l0 x20_1).f0) ((rd_T119 l0 x20_1).f1) ((rd_T119 l0 x20_1).f2) ((rd_T119 l0 x20_1).f3)) else (interlock_condition.j2 kj10 x4_1 x20_1 t109 l0 (l0.length : Int) x20_1 true ((rd_T119 l0 x20_1).f0) ((rd_T119 l0 x20_1).f1) ((rd_T119 l0 x20_1).f2) ((rd_T119 l0 x20_1).f3))) else (interlock_condition.j2 kj10 x4_1 x20_1 t109 l0 (l0.length : Int) x20_1 (decide ((x4_1.length : Int) < t109)) ((rd_T119 l0 x20_1).f0) ((rd_T119 l0 x20_1).f1) ((rd_T119 l0 x20_1).f2) ((rd_T119 l0 x20_1).f3)))) else (interlock_condition.j2 kj10 x4_1 x20_1 t109 l0 (l0.length : Int) x20_1 true ((rd_T119 l0 x20_1).f0) ((rd_T119 l0 x20_1).f1) ((rd_T119 l0 x20_1).f2) ((rd_T119 l0 x20_1).f3)))) = some r := by rw [if_neg (show ¬ (false = true) by decide)] at H; exact H
                        clear H
                        have H := H1
                        clear H1
                        have HC19 := Aside0.mk H
                        clear H
                        go_upto_region 15 with (fail)
                        repeat (go_quiet (fail); go_upto_region 15 with (fail))
                        go_cut [42] (fun v42 wc => ∃ (kq : Nat) (x42_18 : Bool), v42 = .bool x42_18 ∧ Aside0 (interlock_condition.j2 kq x4_1 x20_1 t109 l0 (l0.length : Int) x20_1 x42_18 ((rd_T119 l0 x20_1).f0) ((rd_T119 l0 x20_1).f1) ((rd_T119 l0 x20_1).f2) ((rd_T119 l0 x20_1).f3) = some r) ∧ Aside0 (kq ≤ kj10) ∧ Aside0 (Kd.R (Kd.int .i64) 3 wc w.heap.size (fun _ => True) u4 x4_1) ∧ Aside0 (wc.heap[gb108]? = some (.cells #[.int .i64 ((rd_T119 l0 x20_1).f0), .string ((rd_T119 l0 x20_1).f1), .int .i64 ((rd_T119 l0 x20_1).f2), .int .i64 ((rd_T119 l0 x20_1).f3)] 119 (0, 0))) ∧ Aside0 (Below w.heap.size w wc))
                        case first =>
                          have H := HC19.out
                          clear HC19
                          by_cases c20 : t110 = true
                          · subst c20
                            have H1 : (if t109 < 1 then (if ((rd_T119 l0 x20_1).f2) = 0 then (if t109 < 2 then (if ((rd_T119 l0 x20_1).f3) = 0 then (interlock_condition.j2 kj10 x4_1 x20_1 t109 l0 (l0.length : Int) x20_1 (decide ((x4_1.length : Int) < t109)) ((rd_T119 l0 x20_1).f0) ((rd_T119 l0 x20_1).f1) ((rd_T119 l0 x20_1).f2) ((rd_T119 l0 x20_1).f3)) else (interlock_condition.j2 kj10 x4_1 x20_1 t109 l0 (l0.length : Int) x20_1 true ((rd_T119 l0 x20_1).f0) ((rd_T119 l0 x20_1).f1) ((rd_T119 l0 x20_1).f2) ((rd_T119 l0 x20_1).f3))) else (interlock_condition.j2 kj10 x4_1 x20_1 t109 l0 (l0.length : Int) x20_1 (decide ((x4_1.length : Int) < t109)) ((rd_T119 l0 x20_1).f0) ((rd_T119 l0 x20_1).f1) ((rd_T119 l0 x20_1).f2) ((rd_T119 l0 x20_1).f3))) else (interlock_condition.j2 kj10 x4_1 x20_1 t109 l0 (l0.length : Int) x20_1 true ((rd_T119 l0 x20_1).f0) ((rd_T119 l0 x20_1).f1) ((rd_T119 l0 x20_1).f2) ((rd_T119 l0 x20_1).f3))) else (if t109 < 2 then (if ((rd_T119 l0 x20_1).f3) = 0 then (interlock_condition.j2 kj10 x4_1 x20_1 t109 l0 (l0.length : Int) x20_1 (decide ((x4_1.length : Int) < t109)) ((rd_T119 l0 x20_1).f0) ((rd_T119 l0 x20_1).f1) ((rd_T119 l0 x20_1).f2) ((rd_T119 l0 x20_1).f3)) else (interlock_condition.j2 kj10 x4_1 x20_1 t109 l0 (l0.length : Int) x20_1 true ((rd_T119 l0 x20_1).f0) ((rd_T119 l0 x20_1).f1) ((rd_T119 l0 x20_1).f2) ((rd_T119 l0 x20_1).f3))) else (interlock_condition.j2 kj10 x4_1 x20_1 t109 l0 (l0.length : Int) x20_1 (decide ((x4_1.length : Int) < t109)) ((rd_T119 l0 x20_1).f0) ((rd_T119 l0 x20_1).f1) ((rd_T119 l0 x20_1).f2) ((rd_T119 l0 x20_1).f3)))) = some r := by rw [if_pos rfl] at H; exact H
                            clear H
                            have H := H1
                            clear H1
                            by_cases c21 : t109 < 1
                            · rw [if_pos c21] at H
                              have c21b0 : decide (t109 < 1) = true := decide_eq_true c21
                              clear c21
                              (first | rw [c21b0] | (simp only [i64_w, i32_w]; rw [c21b0]) | skip)
                              by_cases c22 : ((rd_T119 l0 x20_1).f2) = 0
                              · rw [if_pos c22] at H
                                have c22b0 : (((rd_T119 l0 x20_1).f2) == 0) = true := beq_iff_eq.mpr c22
                                have c22b1 : (((rd_T119 l0 x20_1).f2) != 0) = false := bne_eq_false_iff_eq.mpr c22
                                clear c22
                                by_cases c23 : t109 < 2
                                · rw [if_pos c23] at H
                                  have c23b0 : decide (t109 < 2) = true := decide_eq_true c23
                                  clear c23
                                  by_cases c24 : ((rd_T119 l0 x20_1).f3) = 0
                                  · rw [if_pos c24] at H
                                    have c24b0 : (((rd_T119 l0 x20_1).f3) == 0) = true := beq_iff_eq.mpr c24
                                    have c24b1 : (((rd_T119 l0 x20_1).f3) != 0) = false := bne_eq_false_iff_eq.mpr c24
                                    clear c24
                                    have H' := Aside0.mk H
                                    clear H
                                    have hcz25_0 : wc.cell? ⟨gb108, 0, none⟩ = some (.int .i64 ((rd_T119 l0 x20_1).f0)) := (blk_cell BK108.out 0).trans rfl
                                    have hcz25_1 : wc.cell? ⟨gb108, 1, none⟩ = some (.string ((rd_T119 l0 x20_1).f1)) := (blk_cell BK108.out 1).trans rfl
                                    have hcz25_2 : wc.cell? ⟨gb108, 2, none⟩ = some (.int .i64 ((rd_T119 l0 x20_1).f2)) := (blk_cell BK108.out 2).trans rfl
                                    have hcz25_3 : wc.cell? ⟨gb108, 3, none⟩ = some (.int .i64 ((rd_T119 l0 x20_1).f3)) := (blk_cell BK108.out 3).trans rfl
                                    have hfz25_0 := blk_frozen BK108.out 0
                                    have hfz25_1 := blk_frozen BK108.out 1
                                    have hfz25_2 := blk_frozen BK108.out 2
                                    have hfz25_3 := blk_frozen BK108.out 3
                                    obtain ⟨Ao26, co26, eo26⟩ := Kd.R_slice HO_4.out
                                    subst eo26
                                    go_wp2
                                    repeat (go_quiet (fail); try go_wp2)
                                    go_meet
                                    case rel => exact ⟨_, (decide ((x4_1.length : Int) < t109)), (by first | rfl | (simp; done) | (simp [*]; done)), H', ⟨by have := HK1.out; have := HJ10.out; first | omega | exact Nat.le_refl _⟩, ⟨by (with_reducible repeat (first | apply Kd.R_alloc | apply Kd.R_drewN | apply Kd.R_drew)); exact HO_4.out⟩, ⟨by (with_reducible repeat (first | refine blk_drewN ?_ _ | refine blk_drew ?_ | refine blk_alloc ?_ _)); exact BK108.out⟩, ⟨by repeat (first | (with_reducible first | exact HB.out | apply below_alloc | apply pw_below_drewN | apply below_drew1 | refine below_set ?_ GE108.out) | exact HB.out)⟩⟩
                                  · rw [if_neg c24] at H
                                    have c24b0 : (((rd_T119 l0 x20_1).f3) == 0) = false := beq_eq_false_iff_ne.mpr c24
                                    have c24b1 : (((rd_T119 l0 x20_1).f3) != 0) = true := bne_iff_ne.mpr c24
                                    have H' := Aside0.mk H
                                    clear H
                                    have hcz27_0 : wc.cell? ⟨gb108, 0, none⟩ = some (.int .i64 ((rd_T119 l0 x20_1).f0)) := (blk_cell BK108.out 0).trans rfl
                                    have hcz27_1 : wc.cell? ⟨gb108, 1, none⟩ = some (.string ((rd_T119 l0 x20_1).f1)) := (blk_cell BK108.out 1).trans rfl
                                    have hcz27_2 : wc.cell? ⟨gb108, 2, none⟩ = some (.int .i64 ((rd_T119 l0 x20_1).f2)) := (blk_cell BK108.out 2).trans rfl
                                    have hcz27_3 : wc.cell? ⟨gb108, 3, none⟩ = some (.int .i64 ((rd_T119 l0 x20_1).f3)) := (blk_cell BK108.out 3).trans rfl
                                    have hfz27_0 := blk_frozen BK108.out 0
                                    have hfz27_1 := blk_frozen BK108.out 1
                                    have hfz27_2 := blk_frozen BK108.out 2
                                    have hfz27_3 := blk_frozen BK108.out 3
                                    go_wp2
                                    repeat (go_quiet (fail); try go_wp2)
                                    go_meet
                                    case rel => exact ⟨_, (true), (by first | rfl | (simp; done) | (simp [*]; done)), H', ⟨by have := HK1.out; have := HJ10.out; first | omega | exact Nat.le_refl _⟩, ⟨by (with_reducible repeat (first | apply Kd.R_alloc | apply Kd.R_drewN | apply Kd.R_drew)); exact HO_4.out⟩, ⟨by (with_reducible repeat (first | refine blk_drewN ?_ _ | refine blk_drew ?_ | refine blk_alloc ?_ _)); exact BK108.out⟩, ⟨by repeat (first | (with_reducible first | exact HB.out | apply below_alloc | apply pw_below_drewN | apply below_drew1 | refine below_set ?_ GE108.out) | exact HB.out)⟩⟩
                                · rw [if_neg c23] at H
                                  have c23b0 : decide (t109 < 2) = false := decide_eq_false c23
                                  clear c23
                                  have H' := Aside0.mk H
                                  clear H
                                  have hcz28_0 : wc.cell? ⟨gb108, 0, none⟩ = some (.int .i64 ((rd_T119 l0 x20_1).f0)) := (blk_cell BK108.out 0).trans rfl
                                  have hcz28_1 : wc.cell? ⟨gb108, 1, none⟩ = some (.string ((rd_T119 l0 x20_1).f1)) := (blk_cell BK108.out 1).trans rfl
                                  have hcz28_2 : wc.cell? ⟨gb108, 2, none⟩ = some (.int .i64 ((rd_T119 l0 x20_1).f2)) := (blk_cell BK108.out 2).trans rfl
                                  have hcz28_3 : wc.cell? ⟨gb108, 3, none⟩ = some (.int .i64 ((rd_T119 l0 x20_1).f3)) := (blk_cell BK108.out 3).trans rfl
                                  have hfz28_0 := blk_frozen BK108.out 0
                                  have hfz28_1 := blk_frozen BK108.out 1
                                  have hfz28_2 := blk_frozen BK108.out 2
                                  have hfz28_3 := blk_frozen BK108.out 3
                                  obtain ⟨Ao29, co29, eo29⟩ := Kd.R_slice HO_4.out
                                  subst eo29
                                  go_wp2
                                  repeat (go_quiet (fail); try go_wp2)
                                  go_meet
                                  case rel => exact ⟨_, (decide ((x4_1.length : Int) < t109)), (by first | rfl | (simp; done) | (simp [*]; done)), H', ⟨by have := HK1.out; have := HJ10.out; first | omega | exact Nat.le_refl _⟩, ⟨by (with_reducible repeat (first | apply Kd.R_alloc | apply Kd.R_drewN | apply Kd.R_drew)); exact HO_4.out⟩, ⟨by (with_reducible repeat (first | refine blk_drewN ?_ _ | refine blk_drew ?_ | refine blk_alloc ?_ _)); exact BK108.out⟩, ⟨by repeat (first | (with_reducible first | exact HB.out | apply below_alloc | apply pw_below_drewN | apply below_drew1 | refine below_set ?_ GE108.out) | exact HB.out)⟩⟩
                              · rw [if_neg c22] at H
                                have c22b0 : (((rd_T119 l0 x20_1).f2) == 0) = false := beq_eq_false_iff_ne.mpr c22
                                have c22b1 : (((rd_T119 l0 x20_1).f2) != 0) = true := bne_iff_ne.mpr c22
                                have H' := Aside0.mk H
                                clear H
                                have hcz30_0 : wc.cell? ⟨gb108, 0, none⟩ = some (.int .i64 ((rd_T119 l0 x20_1).f0)) := (blk_cell BK108.out 0).trans rfl
                                have hcz30_1 : wc.cell? ⟨gb108, 1, none⟩ = some (.string ((rd_T119 l0 x20_1).f1)) := (blk_cell BK108.out 1).trans rfl
                                have hcz30_2 : wc.cell? ⟨gb108, 2, none⟩ = some (.int .i64 ((rd_T119 l0 x20_1).f2)) := (blk_cell BK108.out 2).trans rfl
                                have hcz30_3 : wc.cell? ⟨gb108, 3, none⟩ = some (.int .i64 ((rd_T119 l0 x20_1).f3)) := (blk_cell BK108.out 3).trans rfl
                                have hfz30_0 := blk_frozen BK108.out 0
                                have hfz30_1 := blk_frozen BK108.out 1
                                have hfz30_2 := blk_frozen BK108.out 2
                                have hfz30_3 := blk_frozen BK108.out 3
                                go_wp2
                                repeat (go_quiet (fail); try go_wp2)
                                go_meet
                                case rel => exact ⟨_, (true), (by first | rfl | (simp; done) | (simp [*]; done)), H', ⟨by have := HK1.out; have := HJ10.out; first | omega | exact Nat.le_refl _⟩, ⟨by (with_reducible repeat (first | apply Kd.R_alloc | apply Kd.R_drewN | apply Kd.R_drew)); exact HO_4.out⟩, ⟨by (with_reducible repeat (first | refine blk_drewN ?_ _ | refine blk_drew ?_ | refine blk_alloc ?_ _)); exact BK108.out⟩, ⟨by repeat (first | (with_reducible first | exact HB.out | apply below_alloc | apply pw_below_drewN | apply below_drew1 | refine below_set ?_ GE108.out) | exact HB.out)⟩⟩
                            · rw [if_neg c21] at H
                              have c21b0 : decide (t109 < 1) = false := decide_eq_false c21
                              clear c21
                              (first | rw [c21b0] | (simp only [i64_w, i32_w]; rw [c21b0]) | skip)
                              by_cases c31 : t109 < 2
                              · rw [if_pos c31] at H
                                have c31b0 : decide (t109 < 2) = true := decide_eq_true c31
                                clear c31
                                by_cases c32 : ((rd_T119 l0 x20_1).f3) = 0
                                · rw [if_pos c32] at H
                                  have c32b0 : (((rd_T119 l0 x20_1).f3) == 0) = true := beq_iff_eq.mpr c32
                                  have c32b1 : (((rd_T119 l0 x20_1).f3) != 0) = false := bne_eq_false_iff_eq.mpr c32
                                  clear c32
                                  have H' := Aside0.mk H
                                  clear H
                                  have hcz33_0 : wc.cell? ⟨gb108, 0, none⟩ = some (.int .i64 ((rd_T119 l0 x20_1).f0)) := (blk_cell BK108.out 0).trans rfl
                                  have hcz33_1 : wc.cell? ⟨gb108, 1, none⟩ = some (.string ((rd_T119 l0 x20_1).f1)) := (blk_cell BK108.out 1).trans rfl
                                  have hcz33_2 : wc.cell? ⟨gb108, 2, none⟩ = some (.int .i64 ((rd_T119 l0 x20_1).f2)) := (blk_cell BK108.out 2).trans rfl
                                  have hcz33_3 : wc.cell? ⟨gb108, 3, none⟩ = some (.int .i64 ((rd_T119 l0 x20_1).f3)) := (blk_cell BK108.out 3).trans rfl
                                  have hfz33_0 := blk_frozen BK108.out 0
                                  have hfz33_1 := blk_frozen BK108.out 1
                                  have hfz33_2 := blk_frozen BK108.out 2
                                  have hfz33_3 := blk_frozen BK108.out 3
                                  obtain ⟨Ao34, co34, eo34⟩ := Kd.R_slice HO_4.out
                                  subst eo34
                                  go_wp2
                                  repeat (go_quiet (fail); try go_wp2)
                                  go_meet
                                  case rel => exact ⟨_, (decide ((x4_1.length : Int) < t109)), (by first | rfl | (simp; done) | (simp [*]; done)), H', ⟨by have := HK1.out; have := HJ10.out; first | omega | exact Nat.le_refl _⟩, ⟨by (with_reducible repeat (first | apply Kd.R_alloc | apply Kd.R_drewN | apply Kd.R_drew)); exact HO_4.out⟩, ⟨by (with_reducible repeat (first | refine blk_drewN ?_ _ | refine blk_drew ?_ | refine blk_alloc ?_ _)); exact BK108.out⟩, ⟨by repeat (first | (with_reducible first | exact HB.out | apply below_alloc | apply pw_below_drewN | apply below_drew1 | refine below_set ?_ GE108.out) | exact HB.out)⟩⟩
                                · rw [if_neg c32] at H
                                  have c32b0 : (((rd_T119 l0 x20_1).f3) == 0) = false := beq_eq_false_iff_ne.mpr c32
                                  have c32b1 : (((rd_T119 l0 x20_1).f3) != 0) = true := bne_iff_ne.mpr c32
                                  have H' := Aside0.mk H
                                  clear H
                                  have hcz35_0 : wc.cell? ⟨gb108, 0, none⟩ = some (.int .i64 ((rd_T119 l0 x20_1).f0)) := (blk_cell BK108.out 0).trans rfl
                                  have hcz35_1 : wc.cell? ⟨gb108, 1, none⟩ = some (.string ((rd_T119 l0 x20_1).f1)) := (blk_cell BK108.out 1).trans rfl
                                  have hcz35_2 : wc.cell? ⟨gb108, 2, none⟩ = some (.int .i64 ((rd_T119 l0 x20_1).f2)) := (blk_cell BK108.out 2).trans rfl
                                  have hcz35_3 : wc.cell? ⟨gb108, 3, none⟩ = some (.int .i64 ((rd_T119 l0 x20_1).f3)) := (blk_cell BK108.out 3).trans rfl
                                  have hfz35_0 := blk_frozen BK108.out 0
                                  have hfz35_1 := blk_frozen BK108.out 1
                                  have hfz35_2 := blk_frozen BK108.out 2
                                  have hfz35_3 := blk_frozen BK108.out 3
                                  go_wp2
                                  repeat (go_quiet (fail); try go_wp2)
                                  go_meet
                                  case rel => exact ⟨_, (true), (by first | rfl | (simp; done) | (simp [*]; done)), H', ⟨by have := HK1.out; have := HJ10.out; first | omega | exact Nat.le_refl _⟩, ⟨by (with_reducible repeat (first | apply Kd.R_alloc | apply Kd.R_drewN | apply Kd.R_drew)); exact HO_4.out⟩, ⟨by (with_reducible repeat (first | refine blk_drewN ?_ _ | refine blk_drew ?_ | refine blk_alloc ?_ _)); exact BK108.out⟩, ⟨by repeat (first | (with_reducible first | exact HB.out | apply below_alloc | apply pw_below_drewN | apply below_drew1 | refine below_set ?_ GE108.out) | exact HB.out)⟩⟩
                              · rw [if_neg c31] at H
                                have c31b0 : decide (t109 < 2) = false := decide_eq_false c31
                                clear c31
                                have H' := Aside0.mk H
                                clear H
                                obtain ⟨Ao36, co36, eo36⟩ := Kd.R_slice HO_4.out
                                subst eo36
                                go_wp2
                                repeat (go_quiet (fail); try go_wp2)
                                go_meet
                                case rel => exact ⟨_, (decide ((x4_1.length : Int) < t109)), (by first | rfl | (simp; done) | (simp [*]; done)), H', ⟨by have := HK1.out; have := HJ10.out; first | omega | exact Nat.le_refl _⟩, ⟨by (with_reducible repeat (first | apply Kd.R_alloc | apply Kd.R_drewN | apply Kd.R_drew)); exact HO_4.out⟩, ⟨by (with_reducible repeat (first | refine blk_drewN ?_ _ | refine blk_drew ?_ | refine blk_alloc ?_ _)); exact BK108.out⟩, ⟨by repeat (first | (with_reducible first | exact HB.out | apply below_alloc | apply pw_below_drewN | apply below_drew1 | refine below_set ?_ GE108.out) | exact HB.out)⟩⟩
                          · replace c20 := Bool.eq_false_iff.mpr c20
                            subst c20
                            have H1 : (if ((rd_T119 l0 x20_1).f1).toList = ([] : List UInt8) then (if t109 < 1 then (if ((rd_T119 l0 x20_1).f2) = 0 then (if t109 < 2 then (if ((rd_T119 l0 x20_1).f3) = 0 then (interlock_condition.j2 kj10 x4_1 x20_1 t109 l0 (l0.length : Int) x20_1 (decide ((x4_1.length : Int) < t109)) ((rd_T119 l0 x20_1).f0) ((rd_T119 l0 x20_1).f1) ((rd_T119 l0 x20_1).f2) ((rd_T119 l0 x20_1).f3)) else (interlock_condition.j2 kj10 x4_1 x20_1 t109 l0 (l0.length : Int) x20_1 true ((rd_T119 l0 x20_1).f0) ((rd_T119 l0 x20_1).f1) ((rd_T119 l0 x20_1).f2) ((rd_T119 l0 x20_1).f3))) else (interlock_condition.j2 kj10 x4_1 x20_1 t109 l0 (l0.length : Int) x20_1 (decide ((x4_1.length : Int) < t109)) ((rd_T119 l0 x20_1).f0) ((rd_T119 l0 x20_1).f1) ((rd_T119 l0 x20_1).f2) ((rd_T119 l0 x20_1).f3))) else (interlock_condition.j2 kj10 x4_1 x20_1 t109 l0 (l0.length : Int) x20_1 true ((rd_T119 l0 x20_1).f0) ((rd_T119 l0 x20_1).f1) ((rd_T119 l0 x20_1).f2) ((rd_T119 l0 x20_1).f3))) else (if t109 < 2 then (if ((rd_T119 l0 x20_1).f3) = 0 then (interlock_condition.j2 kj10 x4_1 x20_1 t109 l0 (l0.length : Int) x20_1 (decide ((x4_1.length : Int) < t109)) ((rd_T119 l0 x20_1).f0) ((rd_T119 l0 x20_1).f1) ((rd_T119 l0 x20_1).f2) ((rd_T119 l0 x20_1).f3)) else (interlock_condition.j2 kj10 x4_1 x20_1 t109 l0 (l0.length : Int) x20_1 true ((rd_T119 l0 x20_1).f0) ((rd_T119 l0 x20_1).f1) ((rd_T119 l0 x20_1).f2) ((rd_T119 l0 x20_1).f3))) else (interlock_condition.j2 kj10 x4_1 x20_1 t109 l0 (l0.length : Int) x20_1 (decide ((x4_1.length : Int) < t109)) ((rd_T119 l0 x20_1).f0) ((rd_T119 l0 x20_1).f1) ((rd_T119 l0 x20_1).f2) ((rd_T119 l0 x20_1).f3)))) else (interlock_condition.j2 kj10 x4_1 x20_1 t109 l0 (l0.length : Int) x20_1 true ((rd_T119 l0 x20_1).f0) ((rd_T119 l0 x20_1).f1) ((rd_T119 l0 x20_1).f2) ((rd_T119 l0 x20_1).f3))) = some r := by rw [if_neg (show ¬ (false = true) by decide)] at H; exact H
                            clear H
                            have H := H1
                            clear H1
                            by_cases c37 : ((rd_T119 l0 x20_1).f1).toList = ([] : List UInt8)
                            · rw [if_pos c37] at H
                              have c37b0 : (((rd_T119 l0 x20_1).f1).toList == ([] : List UInt8)) = true := beq_iff_eq.mpr c37
                              have c37b1 : (((rd_T119 l0 x20_1).f1).toList != ([] : List UInt8)) = false := bne_eq_false_iff_eq.mpr c37
                              clear c37
                              by_cases c38 : t109 < 1
                              · rw [if_pos c38] at H
                                have c38b0 : decide (t109 < 1) = true := decide_eq_true c38
                                clear c38
                                by_cases c39 : ((rd_T119 l0 x20_1).f2) = 0
                                · rw [if_pos c39] at H
                                  have c39b0 : (((rd_T119 l0 x20_1).f2) == 0) = true := beq_iff_eq.mpr c39
                                  have c39b1 : (((rd_T119 l0 x20_1).f2) != 0) = false := bne_eq_false_iff_eq.mpr c39
                                  clear c39
                                  by_cases c40 : t109 < 2
                                  · rw [if_pos c40] at H
                                    have c40b0 : decide (t109 < 2) = true := decide_eq_true c40
                                    clear c40
                                    by_cases c41 : ((rd_T119 l0 x20_1).f3) = 0
                                    · rw [if_pos c41] at H
                                      have c41b0 : (((rd_T119 l0 x20_1).f3) == 0) = true := beq_iff_eq.mpr c41
                                      have c41b1 : (((rd_T119 l0 x20_1).f3) != 0) = false := bne_eq_false_iff_eq.mpr c41
                                      clear c41
                                      have H' := Aside0.mk H
                                      clear H
                                      have hcz42_0 : wc.cell? ⟨gb108, 0, none⟩ = some (.int .i64 ((rd_T119 l0 x20_1).f0)) := (blk_cell BK108.out 0).trans rfl
                                      have hcz42_1 : wc.cell? ⟨gb108, 1, none⟩ = some (.string ((rd_T119 l0 x20_1).f1)) := (blk_cell BK108.out 1).trans rfl
                                      have hcz42_2 : wc.cell? ⟨gb108, 2, none⟩ = some (.int .i64 ((rd_T119 l0 x20_1).f2)) := (blk_cell BK108.out 2).trans rfl
                                      have hcz42_3 : wc.cell? ⟨gb108, 3, none⟩ = some (.int .i64 ((rd_T119 l0 x20_1).f3)) := (blk_cell BK108.out 3).trans rfl
                                      have hfz42_0 := blk_frozen BK108.out 0
                                      have hfz42_1 := blk_frozen BK108.out 1
                                      have hfz42_2 := blk_frozen BK108.out 2
                                      have hfz42_3 := blk_frozen BK108.out 3
                                      obtain ⟨Ao43, co43, eo43⟩ := Kd.R_slice HO_4.out
                                      subst eo43
                                      go_wp2
                                      repeat (go_quiet (fail); try go_wp2)
                                      go_meet
                                      case rel => exact ⟨_, (decide ((x4_1.length : Int) < t109)), (by first | rfl | (simp; done) | (simp [*]; done)), H', ⟨by have := HK1.out; have := HJ10.out; first | omega | exact Nat.le_refl _⟩, ⟨by (with_reducible repeat (first | apply Kd.R_alloc | apply Kd.R_drewN | apply Kd.R_drew)); exact HO_4.out⟩, ⟨by (with_reducible repeat (first | refine blk_drewN ?_ _ | refine blk_drew ?_ | refine blk_alloc ?_ _)); exact BK108.out⟩, ⟨by repeat (first | (with_reducible first | exact HB.out | apply below_alloc | apply pw_below_drewN | apply below_drew1 | refine below_set ?_ GE108.out) | exact HB.out)⟩⟩
                                    · rw [if_neg c41] at H
                                      have c41b0 : (((rd_T119 l0 x20_1).f3) == 0) = false := beq_eq_false_iff_ne.mpr c41
                                      have c41b1 : (((rd_T119 l0 x20_1).f3) != 0) = true := bne_iff_ne.mpr c41
                                      have H' := Aside0.mk H
                                      clear H
                                      have hcz44_0 : wc.cell? ⟨gb108, 0, none⟩ = some (.int .i64 ((rd_T119 l0 x20_1).f0)) := (blk_cell BK108.out 0).trans rfl
                                      have hcz44_1 : wc.cell? ⟨gb108, 1, none⟩ = some (.string ((rd_T119 l0 x20_1).f1)) := (blk_cell BK108.out 1).trans rfl
                                      have hcz44_2 : wc.cell? ⟨gb108, 2, none⟩ = some (.int .i64 ((rd_T119 l0 x20_1).f2)) := (blk_cell BK108.out 2).trans rfl
                                      have hcz44_3 : wc.cell? ⟨gb108, 3, none⟩ = some (.int .i64 ((rd_T119 l0 x20_1).f3)) := (blk_cell BK108.out 3).trans rfl
                                      have hfz44_0 := blk_frozen BK108.out 0
                                      have hfz44_1 := blk_frozen BK108.out 1
                                      have hfz44_2 := blk_frozen BK108.out 2
                                      have hfz44_3 := blk_frozen BK108.out 3
                                      go_wp2
                                      repeat (go_quiet (fail); try go_wp2)
                                      go_meet
                                      case rel => exact ⟨_, (true), (by first | rfl | (simp; done) | (simp [*]; done)), H', ⟨by have := HK1.out; have := HJ10.out; first | omega | exact Nat.le_refl _⟩, ⟨by (with_reducible repeat (first | apply Kd.R_alloc | apply Kd.R_drewN | apply Kd.R_drew)); exact HO_4.out⟩, ⟨by (with_reducible repeat (first | refine blk_drewN ?_ _ | refine blk_drew ?_ | refine blk_alloc ?_ _)); exact BK108.out⟩, ⟨by repeat (first | (with_reducible first | exact HB.out | apply below_alloc | apply pw_below_drewN | apply below_drew1 | refine below_set ?_ GE108.out) | exact HB.out)⟩⟩
                                  · rw [if_neg c40] at H
                                    have c40b0 : decide (t109 < 2) = false := decide_eq_false c40
                                    clear c40
                                    have H' := Aside0.mk H
                                    clear H
                                    have hcz45_0 : wc.cell? ⟨gb108, 0, none⟩ = some (.int .i64 ((rd_T119 l0 x20_1).f0)) := (blk_cell BK108.out 0).trans rfl
                                    have hcz45_1 : wc.cell? ⟨gb108, 1, none⟩ = some (.string ((rd_T119 l0 x20_1).f1)) := (blk_cell BK108.out 1).trans rfl
                                    have hcz45_2 : wc.cell? ⟨gb108, 2, none⟩ = some (.int .i64 ((rd_T119 l0 x20_1).f2)) := (blk_cell BK108.out 2).trans rfl
                                    have hcz45_3 : wc.cell? ⟨gb108, 3, none⟩ = some (.int .i64 ((rd_T119 l0 x20_1).f3)) := (blk_cell BK108.out 3).trans rfl
                                    have hfz45_0 := blk_frozen BK108.out 0
                                    have hfz45_1 := blk_frozen BK108.out 1
                                    have hfz45_2 := blk_frozen BK108.out 2
                                    have hfz45_3 := blk_frozen BK108.out 3
                                    obtain ⟨Ao46, co46, eo46⟩ := Kd.R_slice HO_4.out
                                    subst eo46
                                    go_wp2
                                    repeat (go_quiet (fail); try go_wp2)
                                    go_meet
                                    case rel => exact ⟨_, (decide ((x4_1.length : Int) < t109)), (by first | rfl | (simp; done) | (simp [*]; done)), H', ⟨by have := HK1.out; have := HJ10.out; first | omega | exact Nat.le_refl _⟩, ⟨by (with_reducible repeat (first | apply Kd.R_alloc | apply Kd.R_drewN | apply Kd.R_drew)); exact HO_4.out⟩, ⟨by (with_reducible repeat (first | refine blk_drewN ?_ _ | refine blk_drew ?_ | refine blk_alloc ?_ _)); exact BK108.out⟩, ⟨by repeat (first | (with_reducible first | exact HB.out | apply below_alloc | apply pw_below_drewN | apply below_drew1 | refine below_set ?_ GE108.out) | exact HB.out)⟩⟩
                                · rw [if_neg c39] at H
                                  have c39b0 : (((rd_T119 l0 x20_1).f2) == 0) = false := beq_eq_false_iff_ne.mpr c39
                                  have c39b1 : (((rd_T119 l0 x20_1).f2) != 0) = true := bne_iff_ne.mpr c39
                                  have H' := Aside0.mk H
                                  clear H
                                  have hcz47_0 : wc.cell? ⟨gb108, 0, none⟩ = some (.int .i64 ((rd_T119 l0 x20_1).f0)) := (blk_cell BK108.out 0).trans rfl
                                  have hcz47_1 : wc.cell? ⟨gb108, 1, none⟩ = some (.string ((rd_T119 l0 x20_1).f1)) := (blk_cell BK108.out 1).trans rfl
                                  have hcz47_2 : wc.cell? ⟨gb108, 2, none⟩ = some (.int .i64 ((rd_T119 l0 x20_1).f2)) := (blk_cell BK108.out 2).trans rfl
                                  have hcz47_3 : wc.cell? ⟨gb108, 3, none⟩ = some (.int .i64 ((rd_T119 l0 x20_1).f3)) := (blk_cell BK108.out 3).trans rfl
                                  have hfz47_0 := blk_frozen BK108.out 0
                                  have hfz47_1 := blk_frozen BK108.out 1
                                  have hfz47_2 := blk_frozen BK108.out 2
                                  have hfz47_3 := blk_frozen BK108.out 3
                                  go_wp2
                                  repeat (go_quiet (fail); try go_wp2)
                                  go_meet
                                  case rel => exact ⟨_, (true), (by first | rfl | (simp; done) | (simp [*]; done)), H', ⟨by have := HK1.out; have := HJ10.out; first | omega | exact Nat.le_refl _⟩, ⟨by (with_reducible repeat (first | apply Kd.R_alloc | apply Kd.R_drewN | apply Kd.R_drew)); exact HO_4.out⟩, ⟨by (with_reducible repeat (first | refine blk_drewN ?_ _ | refine blk_drew ?_ | refine blk_alloc ?_ _)); exact BK108.out⟩, ⟨by repeat (first | (with_reducible first | exact HB.out | apply below_alloc | apply pw_below_drewN | apply below_drew1 | refine below_set ?_ GE108.out) | exact HB.out)⟩⟩
                              · rw [if_neg c38] at H
                                have c38b0 : decide (t109 < 1) = false := decide_eq_false c38
                                clear c38
                                by_cases c48 : t109 < 2
                                · rw [if_pos c48] at H
                                  have c48b0 : decide (t109 < 2) = true := decide_eq_true c48
                                  clear c48
                                  by_cases c49 : ((rd_T119 l0 x20_1).f3) = 0
                                  · rw [if_pos c49] at H
                                    have c49b0 : (((rd_T119 l0 x20_1).f3) == 0) = true := beq_iff_eq.mpr c49
                                    have c49b1 : (((rd_T119 l0 x20_1).f3) != 0) = false := bne_eq_false_iff_eq.mpr c49
                                    clear c49
                                    have H' := Aside0.mk H
                                    clear H
                                    have hcz50_0 : wc.cell? ⟨gb108, 0, none⟩ = some (.int .i64 ((rd_T119 l0 x20_1).f0)) := (blk_cell BK108.out 0).trans rfl
                                    have hcz50_1 : wc.cell? ⟨gb108, 1, none⟩ = some (.string ((rd_T119 l0 x20_1).f1)) := (blk_cell BK108.out 1).trans rfl
                                    have hcz50_2 : wc.cell? ⟨gb108, 2, none⟩ = some (.int .i64 ((rd_T119 l0 x20_1).f2)) := (blk_cell BK108.out 2).trans rfl
                                    have hcz50_3 : wc.cell? ⟨gb108, 3, none⟩ = some (.int .i64 ((rd_T119 l0 x20_1).f3)) := (blk_cell BK108.out 3).trans rfl
                                    have hfz50_0 := blk_frozen BK108.out 0
                                    have hfz50_1 := blk_frozen BK108.out 1
                                    have hfz50_2 := blk_frozen BK108.out 2
                                    have hfz50_3 := blk_frozen BK108.out 3
                                    obtain ⟨Ao51, co51, eo51⟩ := Kd.R_slice HO_4.out
                                    subst eo51
                                    go_wp2
                                    repeat (go_quiet (fail); try go_wp2)
                                    go_meet
                                    case rel => exact ⟨_, (decide ((x4_1.length : Int) < t109)), (by first | rfl | (simp; done) | (simp [*]; done)), H', ⟨by have := HK1.out; have := HJ10.out; first | omega | exact Nat.le_refl _⟩, ⟨by (with_reducible repeat (first | apply Kd.R_alloc | apply Kd.R_drewN | apply Kd.R_drew)); exact HO_4.out⟩, ⟨by (with_reducible repeat (first | refine blk_drewN ?_ _ | refine blk_drew ?_ | refine blk_alloc ?_ _)); exact BK108.out⟩, ⟨by repeat (first | (with_reducible first | exact HB.out | apply below_alloc | apply pw_below_drewN | apply below_drew1 | refine below_set ?_ GE108.out) | exact HB.out)⟩⟩
                                  · rw [if_neg c49] at H
                                    have c49b0 : (((rd_T119 l0 x20_1).f3) == 0) = false := beq_eq_false_iff_ne.mpr c49
                                    have c49b1 : (((rd_T119 l0 x20_1).f3) != 0) = true := bne_iff_ne.mpr c49
                                    have H' := Aside0.mk H
                                    clear H
                                    have hcz52_0 : wc.cell? ⟨gb108, 0, none⟩ = some (.int .i64 ((rd_T119 l0 x20_1).f0)) := (blk_cell BK108.out 0).trans rfl
                                    have hcz52_1 : wc.cell? ⟨gb108, 1, none⟩ = some (.string ((rd_T119 l0 x20_1).f1)) := (blk_cell BK108.out 1).trans rfl
                                    have hcz52_2 : wc.cell? ⟨gb108, 2, none⟩ = some (.int .i64 ((rd_T119 l0 x20_1).f2)) := (blk_cell BK108.out 2).trans rfl
                                    have hcz52_3 : wc.cell? ⟨gb108, 3, none⟩ = some (.int .i64 ((rd_T119 l0 x20_1).f3)) := (blk_cell BK108.out 3).trans rfl
                                    have hfz52_0 := blk_frozen BK108.out 0
                                    have hfz52_1 := blk_frozen BK108.out 1
                                    have hfz52_2 := blk_frozen BK108.out 2
                                    have hfz52_3 := blk_frozen BK108.out 3
                                    go_wp2
                                    repeat (go_quiet (fail); try go_wp2)
                                    go_meet
                                    case rel => exact ⟨_, (true), (by first | rfl | (simp; done) | (simp [*]; done)), H', ⟨by have := HK1.out; have := HJ10.out; first | omega | exact Nat.le_refl _⟩, ⟨by (with_reducible repeat (first | apply Kd.R_alloc | apply Kd.R_drewN | apply Kd.R_drew)); exact HO_4.out⟩, ⟨by (with_reducible repeat (first | refine blk_drewN ?_ _ | refine blk_drew ?_ | refine blk_alloc ?_ _)); exact BK108.out⟩, ⟨by repeat (first | (with_reducible first | exact HB.out | apply below_alloc | apply pw_below_drewN | apply below_drew1 | refine below_set ?_ GE108.out) | exact HB.out)⟩⟩
                                · rw [if_neg c48] at H
                                  have c48b0 : decide (t109 < 2) = false := decide_eq_false c48
                                  clear c48
                                  have H' := Aside0.mk H
                                  clear H
                                  have hcz53_0 : wc.cell? ⟨gb108, 0, none⟩ = some (.int .i64 ((rd_T119 l0 x20_1).f0)) := (blk_cell BK108.out 0).trans rfl
                                  have hcz53_1 : wc.cell? ⟨gb108, 1, none⟩ = some (.string ((rd_T119 l0 x20_1).f1)) := (blk_cell BK108.out 1).trans rfl
                                  have hcz53_2 : wc.cell? ⟨gb108, 2, none⟩ = some (.int .i64 ((rd_T119 l0 x20_1).f2)) := (blk_cell BK108.out 2).trans rfl
                                  have hcz53_3 : wc.cell? ⟨gb108, 3, none⟩ = some (.int .i64 ((rd_T119 l0 x20_1).f3)) := (blk_cell BK108.out 3).trans rfl
                                  have hfz53_0 := blk_frozen BK108.out 0
                                  have hfz53_1 := blk_frozen BK108.out 1
                                  have hfz53_2 := blk_frozen BK108.out 2
                                  have hfz53_3 := blk_frozen BK108.out 3
                                  obtain ⟨Ao54, co54, eo54⟩ := Kd.R_slice HO_4.out
                                  subst eo54
                                  go_wp2
                                  repeat (go_quiet (fail); try go_wp2)
                                  go_meet
                                  case rel => exact ⟨_, (decide ((x4_1.length : Int) < t109)), (by first | rfl | (simp; done) | (simp [*]; done)), H', ⟨by have := HK1.out; have := HJ10.out; first | omega | exact Nat.le_refl _⟩, ⟨by (with_reducible repeat (first | apply Kd.R_alloc | apply Kd.R_drewN | apply Kd.R_drew)); exact HO_4.out⟩, ⟨by (with_reducible repeat (first | refine blk_drewN ?_ _ | refine blk_drew ?_ | refine blk_alloc ?_ _)); exact BK108.out⟩, ⟨by repeat (first | (with_reducible first | exact HB.out | apply below_alloc | apply pw_below_drewN | apply below_drew1 | refine below_set ?_ GE108.out) | exact HB.out)⟩⟩
                            · rw [if_neg c37] at H
                              have c37b0 : (((rd_T119 l0 x20_1).f1).toList == ([] : List UInt8)) = false := beq_eq_false_iff_ne.mpr c37
                              have c37b1 : (((rd_T119 l0 x20_1).f1).toList != ([] : List UInt8)) = true := bne_iff_ne.mpr c37
                              have H' := Aside0.mk H
                              clear H
                              have hcz55_0 : wc.cell? ⟨gb108, 0, none⟩ = some (.int .i64 ((rd_T119 l0 x20_1).f0)) := (blk_cell BK108.out 0).trans rfl
                              have hcz55_1 : wc.cell? ⟨gb108, 1, none⟩ = some (.string ((rd_T119 l0 x20_1).f1)) := (blk_cell BK108.out 1).trans rfl
                              have hcz55_2 : wc.cell? ⟨gb108, 2, none⟩ = some (.int .i64 ((rd_T119 l0 x20_1).f2)) := (blk_cell BK108.out 2).trans rfl
                              have hcz55_3 : wc.cell? ⟨gb108, 3, none⟩ = some (.int .i64 ((rd_T119 l0 x20_1).f3)) := (blk_cell BK108.out 3).trans rfl
                              have hfz55_0 := blk_frozen BK108.out 0
                              have hfz55_1 := blk_frozen BK108.out 1
                              have hfz55_2 := blk_frozen BK108.out 2
                              have hfz55_3 := blk_frozen BK108.out 3
                              go_wp2
                              repeat (go_quiet (fail); try go_wp2)
                              go_meet
                              case rel => exact ⟨_, (true), (by first | rfl | (simp; done) | (simp [*]; done)), H', ⟨by have := HK1.out; have := HJ10.out; first | omega | exact Nat.le_refl _⟩, ⟨by (with_reducible repeat (first | apply Kd.R_alloc | apply Kd.R_drewN | apply Kd.R_drew)); exact HO_4.out⟩, ⟨by (with_reducible repeat (first | refine blk_drewN ?_ _ | refine blk_drew ?_ | refine blk_alloc ?_ _)); exact BK108.out⟩, ⟨by repeat (first | (with_reducible first | exact HB.out | apply below_alloc | apply pw_below_drewN | apply below_drew1 | refine below_set ?_ GE108.out) | exact HB.out)⟩⟩
                        case rest =>
                          clear HC19
                          try clear c1
                          try clear p1
                          try clear q1
                          try clear hx1
                          try clear c2
                          try clear c2b0
                          try clear c2b1
                          try clear p2
                          try clear c3
                          try clear c3b0
                          try clear c3b1
                          try clear c3b2
                          try clear c4
                          try clear c4b0
                          try clear c5
                          try clear c5b0
                          try clear c6
                          try clear c6b0
                          try clear c7
                          try clear c8
                          try clear c8b0
                          try clear p10
                          try clear q10
                          try clear hx10
                          try clear c14
                          try clear c18
                          try clear c20
                          try clear c21
                          try clear c21b0
                          try clear c22
                          try clear c22b0
                          try clear c22b1
                          try clear c23
                          try clear c23b0
                          try clear c24
                          try clear c24b0
                          try clear c24b1
                          try clear c31
                          try clear c31b0
                          try clear c32
                          try clear c32b0
                          try clear c32b1
                          try clear c37
                          try clear c37b0
                          try clear c37b1
                          try clear c38
                          try clear c38b0
                          try clear c39
                          try clear c39b0
                          try clear c39b1
                          try clear c40
                          try clear c40b0
                          try clear c41
                          try clear c41b0
                          try clear c41b1
                          try clear c48
                          try clear c48b0
                          try clear c49
                          try clear c49b0
                          try clear c49b1
                          try clear hcz10_0
                          try clear hcz10_1
                          try clear hcz10_2
                          try clear hcz10_3
                          try clear hcz13_0
                          try clear hcz13_1
                          try clear hcz13_2
                          try clear hcz13_3
                          try clear hcz16_0
                          try clear hcz16_1
                          try clear hcz16_2
                          try clear hcz16_3
                          try clear hcz25_0
                          try clear hcz25_1
                          try clear hcz25_2
                          try clear hcz25_3
                          try clear hcz27_0
                          try clear hcz27_1
                          try clear hcz27_2
                          try clear hcz27_3
                          try clear hcz28_0
                          try clear hcz28_1
                          try clear hcz28_2
                          try clear hcz28_3
                          try clear hcz30_0
                          try clear hcz30_1
                          try clear hcz30_2
                          try clear hcz30_3
                          try clear hcz33_0
                          try clear hcz33_1
                          try clear hcz33_2
                          try clear hcz33_3
                          try clear hcz35_0
                          try clear hcz35_1
                          try clear hcz35_2
                          try clear hcz35_3
                          try clear hcz42_0
                          try clear hcz42_1
                          try clear hcz42_2
                          try clear hcz42_3
                          try clear hcz44_0
                          try clear hcz44_1
                          try clear hcz44_2
                          try clear hcz44_3
                          try clear hcz45_0
                          try clear hcz45_1
                          try clear hcz45_2
                          try clear hcz45_3
                          try clear hcz47_0
                          try clear hcz47_1
                          try clear hcz47_2
                          try clear hcz47_3
                          try clear hcz50_0
                          try clear hcz50_1
                          try clear hcz50_2
                          try clear hcz50_3
                          try clear hcz52_0
                          try clear hcz52_1
                          try clear hcz52_2
                          try clear hcz52_3
                          try clear hcz53_0
                          try clear hcz53_1
                          try clear hcz53_2
                          try clear hcz53_3
                          try clear hcz55_0
                          try clear hcz55_1
                          try clear hcz55_2
                          try clear hcz55_3
                          try clear hfz10_0
                          try clear hfz10_1
                          try clear hfz10_2
                          try clear hfz10_3
                          try clear hfz13_0
                          try clear hfz13_1
                          try clear hfz13_2
                          try clear hfz13_3
                          try clear hfz16_0
                          try clear hfz16_1
                          try clear hfz16_2
                          try clear hfz16_3
                          try clear hfz25_0
                          try clear hfz25_1
                          try clear hfz25_2
                          try clear hfz25_3
                          try clear hfz27_0
                          try clear hfz27_1
                          try clear hfz27_2
                          try clear hfz27_3
                          try clear hfz28_0
                          try clear hfz28_1
                          try clear hfz28_2
                          try clear hfz28_3
                          try clear hfz30_0
                          try clear hfz30_1
                          try clear hfz30_2
                          try clear hfz30_3
                          try clear hfz33_0
                          try clear hfz33_1
                          try clear hfz33_2
                          try clear hfz33_3
                          try clear hfz35_0
                          try clear hfz35_1
                          try clear hfz35_2
                          try clear hfz35_3
                          try clear hfz42_0
                          try clear hfz42_1
                          try clear hfz42_2
                          try clear hfz42_3
                          try clear hfz44_0
                          try clear hfz44_1
                          try clear hfz44_2
                          try clear hfz44_3
                          try clear hfz45_0
                          try clear hfz45_1
                          try clear hfz45_2
                          try clear hfz45_3
                          try clear hfz47_0
                          try clear hfz47_1
                          try clear hfz47_2
                          try clear hfz47_3
                          try clear hfz50_0
                          try clear hfz50_1
                          try clear hfz50_2
                          try clear hfz50_3
                          try clear hfz52_0
                          try clear hfz52_1
                          try clear hfz52_2
                          try clear hfz52_3
                          try clear hfz53_0
                          try clear hfz53_1
                          try clear hfz53_2
                          try clear hfz53_3
                          try clear hfz55_0
                          try clear hfz55_1
                          try clear hfz55_2
                          try clear hfz55_3
                          try clear hx107_0
                          try clear hx107_1
                          try clear hx107_2
                          try clear hx107_3
                          try clear p1
                          try clear p10
                          try clear p107
                          try clear p2
                          try clear q1
                          try clear q10
                          try clear q107
                          obtain ⟨kq, x42_18, rfl, HA, HJ18, HO_4, BK108, HB⟩ := hcut
                          cases kq with
                          | zero => exact absurd HA.out (by simp [interlock_condition.j2])
                          | succ kj18 =>
                            have H := HA.out
                            clear HA
                            simp only [interlock_condition.j2] at H
                            by_cases c56 : x42_18 = true
                            · subst c56
                              have H1 : (some 3) = some r := by rw [if_pos rfl] at H; exact H
                              clear H
                              have H := H1
                              clear H1
                              obtain rfl := Option.some.inj H
                              go_wp2
                              repeat (go_quiet (fail); try go_wp2)
                              go_ret
                              exact ⟨by first | rfl | (simp [errW_none, errW_some] <;> rfl) | (simp [*, errW_none, errW_some] <;> rfl), by repeat (first | (with_reducible first | exact HB.out | apply below_alloc | apply pw_below_drewN | apply below_drew1 | refine below_set ?_ GE108.out) | exact HB.out)⟩
                            · replace c56 := Bool.eq_false_iff.mpr c56
                              subst c56
                              have H1 : (if t109 = 1 then (if 0 ≤ (wrap64 ((x4_1.length : Int) - 1)) then (if (wrap64 ((x4_1.length : Int) - 1)) < (x4_1.length : Int) then (if ((rd_T119 l0 x20_1).f2) = (rd x4_1 (wrap64 ((x4_1.length : Int) - 1))) then (if t109 = 2 then (if 0 ≤ (wrap64 ((x4_1.length : Int) - 2)) then (if (wrap64 ((x4_1.length : Int) - 2)) < (x4_1.length : Int) then (if ((rd_T119 l0 x20_1).f2) = (rd x4_1 (wrap64 ((x4_1.length : Int) - 2))) then (if ((rd_T119 l0 x20_1).f3) = (rd x4_1 (wrap64 ((x4_1.length : Int) - 1))) then (if 0 ≤ (wrap64 ((x4_1.length : Int) - t109)) then (if (wrap64 ((x4_1.length : Int) - t109)) ≤ (x4_1.length : Int) then ((some (x4_1.take ((wrap64 ((x4_1.length : Int) - t109)) : Int).toNat : List Int)).bind fun y115 => (if y115.length < 17592186044416 then (interlock_condition.l0 kj18 (y115 ++ [x20_1]) l0 (l0.length : Int) (wrap64 (x20_1 + 1))) else (none))) else (none)) else (none)) else (some 3)) else (some 3)) else (none)) else (none)) else (if 0 ≤ (wrap64 ((x4_1.length : Int) - t109)) then (if (wrap64 ((x4_1.length : Int) - t109)) ≤ (x4_1.length : Int) then ((some (x4_1.take ((wrap64 ((x4_1.length : Int) - t109)) : Int).toNat : List Int)).bind fun y121 => (if y121.length < 17592186044416 then (interlock_condition.l0 kj18 (y121 ++ [x20_1]) l0 (l0.length : Int) (wrap64 (x20_1 + 1))) else (none))) else (none)) else (none))) else (some 3)) else (none)) else (none)) else (if t109 = 2 then (if 0 ≤ (wrap64 ((x4_1.length : Int) - 2)) then (if (wrap64 ((x4_1.length : Int) - 2)) < (x4_1.length : Int) then (if ((rd_T119 l0 x20_1).f2) = (rd x4_1 (wrap64 ((x4_1.length : Int) - 2))) then (if 0 ≤ (wrap64 ((x4_1.length : Int) - 1)) then (if (wrap64 ((x4_1.length : Int) - 1)) < (x4_1.length : Int) then (if ((rd_T119 l0 x20_1).f3) = (rd x4_1 (wrap64 ((x4_1.length : Int) - 1))) then (if 0 ≤ (wrap64 ((x4_1.length : Int) - t109)) then (if (wrap64 ((x4_1.length : Int) - t109)) ≤ (x4_1.length : Int) then ((some (x4_1.take ((wrap64 ((x4_1.length : Int) - t109)) : Int).toNat : List Int)).bind fun y129 => (if y129.length < 17592186044416 then (interlock_condition.l0 kj18 (y129 ++ [x20_1]) l0 (l0.length : Int) (wrap64 (x20_1 + 1))) else (none))) else (none)) else (none)) else (some 3)) else (none)) else (none)) else (some 3)) else (none)) else (none)) else (if 0 ≤ (wrap64 ((x4_1.length : Int) - t109)) then (if (wrap64 ((x4_1.length : Int) - t109)) ≤ (x4_1.length : Int) then ((some (x4_1.take ((wrap64 ((x4_1.length : Int) - t109)) : Int).toNat : List Int)).bind fun y135 => (if y135.length < 17592186044416 then (interlock_condition.l0 kj18 (y135 ++ [x20_1]) l0 (l0.length : Int) (wrap64 (x20_1 + 1))) else (none))) else (none)) else (none)))) = some r := by rw [if_neg (show ¬ (false = true) by decide)] at H; exact H
                              clear H
                              have H := H1
                              clear H1
                              by_cases c57 : t109 = 1
                              · rw [if_pos c57] at H
                                have c57b0 : (t109 == 1) = true := beq_iff_eq.mpr c57
                                have c57b1 : (t109 != 1) = false := bne_eq_false_iff_eq.mpr c57
                                clear c57
                                obtain ⟨ji58, hji58⟩ : ∃ j_ : Int, (wrap64 ((x4_1.length : Int) - 1)) = j_ := ⟨_, rfl⟩
                                replace H : (if 0 ≤ (ji58) then (if (ji58) < (x4_1.length : Int) then (if ((rd_T119 l0 x20_1).f2) = (rd x4_1 (ji58)) then (if t109 = 2 then (if 0 ≤ (wrap64 ((x4_1.length : Int) - 2)) then (if (wrap64 ((x4_1.length : Int) - 2)) < (x4_1.length : Int) then (if ((rd_T119 l0 x20_1).f2) = (rd x4_1 (wrap64 ((x4_1.length : Int) - 2))) then (if ((rd_T119 l0 x20_1).f3) = (rd x4_1 (ji58)) then (if 0 ≤ (wrap64 ((x4_1.length : Int) - t109)) then (if (wrap64 ((x4_1.length : Int) - t109)) ≤ (x4_1.length : Int) then ((some (x4_1.take ((wrap64 ((x4_1.length : Int) - t109)) : Int).toNat : List Int)).bind fun y115 => (if y115.length < 17592186044416 then (interlock_condition.l0 kj18 (y115 ++ [x20_1]) l0 (l0.length : Int) (wrap64 (x20_1 + 1))) else (none))) else (none)) else (none)) else (some 3)) else (some 3)) else (none)) else (none)) else (if 0 ≤ (wrap64 ((x4_1.length : Int) - t109)) then (if (wrap64 ((x4_1.length : Int) - t109)) ≤ (x4_1.length : Int) then ((some (x4_1.take ((wrap64 ((x4_1.length : Int) - t109)) : Int).toNat : List Int)).bind fun y121 => (if y121.length < 17592186044416 then (interlock_condition.l0 kj18 (y121 ++ [x20_1]) l0 (l0.length : Int) (wrap64 (x20_1 + 1))) else (none))) else (none)) else (none))) else (some 3)) else (none)) else (none)) = some r := by first | (rw [hji58] at H; exact H) | (simp only [hji58] at H ⊢; exact H)
                                have hji58w : (IntKind.i64.wrap ((x4_1.length : Int) - 1)) = ji58 := (i64_w _).trans hji58
                                by_cases c59 : 0 ≤ (ji58)
                                · rw [if_pos c59] at H
                                  have c59b0 : decide (0 ≤ (ji58)) = true := decide_eq_true c59
                                  clear c59
                                  by_cases c60 : (ji58) < (x4_1.length : Int)
                                  · rw [if_pos c60] at H
                                    have c60b0 : decide ((ji58) < (x4_1.length : Int)) = true := decide_eq_true c60
                                    clear c60
                                    by_cases c61 : ((rd_T119 l0 x20_1).f2) = (rd x4_1 (ji58))
                                    · rw [if_pos c61] at H
                                      have c61b0 : (((rd_T119 l0 x20_1).f2) == (rd x4_1 (ji58))) = true := beq_iff_eq.mpr c61
                                      have c61b1 : (((rd_T119 l0 x20_1).f2) != (rd x4_1 (ji58))) = false := bne_eq_false_iff_eq.mpr c61
                                      clear c61
                                      by_cases c62 : t109 = 2
                                      · rw [if_pos c62] at H
                                        have c62b0 : (t109 == 2) = true := beq_iff_eq.mpr c62
                                        have c62b1 : (t109 != 2) = false := bne_eq_false_iff_eq.mpr c62
                                        clear c62
                                        obtain ⟨ji63, hji63⟩ : ∃ j_ : Int, (wrap64 ((x4_1.length : Int) - 2)) = j_ := ⟨_, rfl⟩
                                        replace H : (if 0 ≤ (ji63) then (if (ji63) < (x4_1.length : Int) then (if ((rd_T119 l0 x20_1).f2) = (rd x4_1 (ji63)) then (if ((rd_T119 l0 x20_1).f3) = (rd x4_1 (ji58)) then (if 0 ≤ (wrap64 ((x4_1.length : Int) - t109)) then (if (wrap64 ((x4_1.length : Int) - t109)) ≤ (x4_1.length : Int) then ((some (x4_1.take ((wrap64 ((x4_1.length : Int) - t109)) : Int).toNat : List Int)).bind fun y115 => (if y115.length < 17592186044416 then (interlock_condition.l0 kj18 (y115 ++ [x20_1]) l0 (l0.length : Int) (wrap64 (x20_1 + 1))) else (none))) else (none)) else (none)) else (some 3)) else (some 3)) else (none)) else (none)) = some r := by first | (rw [hji63] at H; exact H) | (simp only [hji63] at H ⊢; exact H)
                                        have hji63w : (IntKind.i64.wrap ((x4_1.length : Int) - 2)) = ji63 := (i64_w _).trans hji63
                                        by_cases c64 : 0 ≤ (ji63)
                                        · rw [if_pos c64] at H
                                          have c64b0 : decide (0 ≤ (ji63)) = true := decide_eq_true c64
                                          clear c64
                                          by_cases c65 : (ji63) < (x4_1.length : Int)
                                          · rw [if_pos c65] at H
                                            have c65b0 : decide ((ji63) < (x4_1.length : Int)) = true := decide_eq_true c65
                                            clear c65
                                            by_cases c66 : ((rd_T119 l0 x20_1).f2) = (rd x4_1 (ji63))
                                            · rw [if_pos c66] at H
                                              have c66b0 : (((rd_T119 l0 x20_1).f2) == (rd x4_1 (ji63))) = true := beq_iff_eq.mpr c66
                                              have c66b1 : (((rd_T119 l0 x20_1).f2) != (rd x4_1 (ji63))) = false := bne_eq_false_iff_eq.mpr c66
                                              clear c66
                                              by_cases c67 : ((rd_T119 l0 x20_1).f3) = (rd x4_1 (ji58))
                                              · rw [if_pos c67] at H
                                                have c67b0 : (((rd_T119 l0 x20_1).f3) == (rd x4_1 (ji58))) = true := beq_iff_eq.mpr c67
                                                have c67b1 : (((rd_T119 l0 x20_1).f3) != (rd x4_1 (ji58))) = false := bne_eq_false_iff_eq.mpr c67
                                                clear c67
                                                obtain ⟨ji68, hji68⟩ : ∃ j_ : Int, (wrap64 ((x4_1.length : Int) - t109)) = j_ := ⟨_, rfl⟩
                                                replace H : (if 0 ≤ (ji68) then (if (ji68) ≤ (x4_1.length : Int) then ((some (x4_1.take ((ji68) : Int).toNat : List Int)).bind fun y115 => (if y115.length < 17592186044416 then (interlock_condition.l0 kj18 (y115 ++ [x20_1]) l0 (l0.length : Int) (wrap64 (x20_1 + 1))) else (none))) else (none)) else (none)) = some r := by first | (rw [hji68] at H; exact H) | (simp only [hji68] at H ⊢; exact H)
                                                have hji68w : (IntKind.i64.wrap ((x4_1.length : Int) - t109)) = ji68 := (i64_w _).trans hji68
                                                by_cases c69 : 0 ≤ (ji68)
                                                · rw [if_pos c69] at H
                                                  have c69b0 := eq_true c69
                                                  have c69b1 : decide (0 ≤ (ji68)) = true := decide_eq_true c69
                                                  clear c69
                                                  by_cases c70 : (ji68) ≤ (x4_1.length : Int)
                                                  · rw [if_pos c70] at H
                                                    have c70b0 := eq_true c70
                                                    have c70b1 : decide ((ji68) ≤ (x4_1.length : Int)) = true := decide_eq_true c70
                                                    clear c70
                                                    obtain ⟨y115, hy115⟩ : ∃ y_ : List Int, y_ = (x4_1.take ((ji68) : Int).toNat) := ⟨_, rfl⟩
                                                    replace H : (if y115.length < 17592186044416 then (interlock_condition.l0 kj18 (y115 ++ [x20_1]) l0 (l0.length : Int) (wrap64 (x20_1 + 1))) else (none)) = some r := by first | (rw [hy115]; with_reducible exact H) | (have H2_ := (Option.bind_some _ _).symm.trans H; rw [hy115]; with_reducible exact H2_) | (have H2_ := (Option.bind_some _ _).symm.trans H; with_reducible exact H2_) | with_reducible exact H | (rw [hy115]; exact H) | exact H
                                                    have Ny115 := Aside0.mk hy115
                                                    clear hy115
                                                    by_cases c71 : y115.length < 17592186044416
                                                    · rw [if_pos c71] at H
                                                      have LMc71 := Aside0.mk c71
                                                      clear c71
                                                      obtain ⟨y118, hy118⟩ : ∃ y_ : List Int, y_ = (y115 ++ [x20_1]) := ⟨_, rfl⟩
                                                      replace H : (interlock_condition.l0 kj18 y118 l0 (l0.length : Int) (wrap64 (x20_1 + 1))) = some r := by first | (rw [hy118]; with_reducible exact H) | (have H2_ := (Option.bind_some _ _).symm.trans H; rw [hy118]; with_reducible exact H2_) | (have H2_ := (Option.bind_some _ _).symm.trans H; with_reducible exact H2_) | with_reducible exact H | (rw [hy118]; exact H) | exact H
                                                      have Ny118 := Aside0.mk hy118
                                                      clear hy118
                                                      have H' := Aside0.mk H
                                                      clear H
                                                      obtain ⟨Ao72, co72, eo72⟩ := Kd.R_slice HO_4.out
                                                      subst eo72
                                                      have hcz73_0 : wc.cell? ⟨gb108, 0, none⟩ = some (.int .i64 ((rd_T119 l0 x20_1).f0)) := (blk_cell BK108.out 0).trans rfl
                                                      have hcz73_1 : wc.cell? ⟨gb108, 1, none⟩ = some (.string ((rd_T119 l0 x20_1).f1)) := (blk_cell BK108.out 1).trans rfl
                                                      have hcz73_2 : wc.cell? ⟨gb108, 2, none⟩ = some (.int .i64 ((rd_T119 l0 x20_1).f2)) := (blk_cell BK108.out 2).trans rfl
                                                      have hcz73_3 : wc.cell? ⟨gb108, 3, none⟩ = some (.int .i64 ((rd_T119 l0 x20_1).f3)) := (blk_cell BK108.out 3).trans rfl
                                                      have hfz73_0 := blk_frozen BK108.out 0
                                                      have hfz73_1 := blk_frozen BK108.out 1
                                                      have hfz73_2 := blk_frozen BK108.out 2
                                                      have hfz73_3 := blk_frozen BK108.out 3
                                                      have p112 : 0 ≤ ((ji58) : Int) := of_decide_eq_true (by first | (with_reducible assumption) | assumption)
                                                      have q112 : (ji58) < (x4_1.length : Int) := of_decide_eq_true (by first | (with_reducible assumption) | assumption)
                                                      obtain ⟨ad112, e112, hx112_0⟩ := Kd.at_int (Kd.R_reads' HO_4.out).2.2 (ji58) p112 q112
                                                      cases e112
                                                      replace p112 := eq_true p112
                                                      replace q112 := eq_true q112
                                                      have p113 : 0 ≤ ((ji63) : Int) := of_decide_eq_true (by first | (with_reducible assumption) | assumption)
                                                      have q113 : (ji63) < (x4_1.length : Int) := of_decide_eq_true (by first | (with_reducible assumption) | assumption)
                                                      obtain ⟨ad113, e113, hx113_0⟩ := Kd.at_int (Kd.R_reads' HO_4.out).2.2 (ji63) p113 q113
                                                      obtain rfl : ad112 = ad113 := (by injection e113)
                                                      replace p113 := eq_true p113
                                                      replace q113 := eq_true q113
                                                      have p114 : 0 ≤ ((ji58) : Int) := of_decide_eq_true (by first | (with_reducible assumption) | assumption)
                                                      have q114 : (ji58) < (x4_1.length : Int) := of_decide_eq_true (by first | (with_reducible assumption) | assumption)
                                                      obtain ⟨ad114, e114, hx114_0⟩ := Kd.at_int (Kd.R_reads' HO_4.out).2.2 (ji58) p114 q114
                                                      obtain rfl : ad112 = ad114 := (by injection e114)
                                                      replace p114 := eq_true p114
                                                      replace q114 := eq_true q114
                                                      have q74 : ((ji68) : Int) ≤ ((x4_1.length : Int) : Int) := of_decide_eq_true (by first | (with_reducible assumption) | assumption)
                                                      obtain ⟨i074, hi074, _, hsz74, _⟩ := info_parts info3
                                                      have hcut74 := cut_to (P := Try.prog) 26 3 .i64 Try.underlying26 hi074 (some ad112) x4_1.length co72 (ji68) (of_decide_eq_true (by first | (with_reducible assumption) | assumption)) q74 (Kd.R_reads' HO_4.out).2.1
                                                      have hr74 := Kd.R_take (m := ((ji68) : Int).toNat) HO_4.out (by omega)
                                                      have hy74 : y115.length = ((ji68) : Int).toNat := (by rw [Ny115.out, List.length_take]; omega)
                                                      rw [← Ny115.out] at hr74
                                                      rw [← hy74] at hr74 hcut74
                                                      clear hy74 hi074 hsz74 HO_4
                                                      have HO117 := Aside0.mk hr74
                                                      clear hr74
                                                      replace q74 := eq_true q74
                                                      go_wp2_with (first | ((with_reducible refine gate_builtin (b := .append) (xs := #[.tmp 116, .tmp 118]) rfl ?_); (try (refine gate_guard (by rfl) ?_; dsimp only)); at_builtin; refine Kd.R_append (Kd.int .i64) (w0 := w) w.heap.size rfl (.tmp 116) (.tmp 118) 26 3 (.int .i64 0) 8 rfl Try.underlying26 info3 rfl (by decide) (by omega) (.slice (some ad112) y115.length co72) y115 x20_1 [.int .i64 x20_1] (fun _ => True) (fun _ => False) rfl rfl ?aP (fun _ hk => hk.elim) ?aF ?aO ?aB ?aS ?aL ?_; (case aP => exact rfl); (case aB => exact (by repeat (first | (with_reducible first | exact HB.out | apply below_alloc | apply pw_below_drewN | apply below_drew1 | refine below_set ?_ GE108.out) | exact HB.out))); (case aF => exact (fun _ _ => trivial)); (case aO => exact (by (with_reducible repeat (first | apply Kd.R_alloc | apply Kd.R_drewN | apply Kd.R_drew)); exact HO117.out)); (case aS => exact (below_size (by repeat (first | (with_reducible first | exact HB.out | apply below_alloc | apply pw_below_drewN | apply below_drew1 | refine below_set ?_ GE108.out) | exact HB.out)))); (case aL => have := LMc71.out; omega); intro v119 w75 ho hb hg hat; rw [← Ny118.out] at ho; have n0_ := Aside0.mk (blk_grown (g := gb108) (o := .cells #[.int .i64 ((rd_T119 l0 x20_1).f0), .string ((rd_T119 l0 x20_1).f1), .int .i64 ((rd_T119 l0 x20_1).f2), .int .i64 ((rd_T119 l0 x20_1).f3)] 119 (0, 0)) (by (with_reducible repeat (first | refine blk_drewN ?_ _ | refine blk_drew ?_ | refine blk_alloc ?_ _)); exact BK108.out) hg (Kd.R_ne HO117.out BK108.out (by decide))); have n1_ := Aside0.mk (hb); have n2_ := Aside0.mk (ho); clear BK108; clear HB; clear HO117; have BK108 := n0_; have HB := n1_; have HO120 := n2_; clear n0_ n1_ n2_; clear ho hb hg hat))
                                                      repeat (go_quiet (first | ((with_reducible refine gate_builtin (b := .append) (xs := #[.tmp 116, .tmp 118]) rfl ?_); (try (refine gate_guard (by rfl) ?_; dsimp only)); at_builtin; refine Kd.R_append (Kd.int .i64) (w0 := w) w.heap.size rfl (.tmp 116) (.tmp 118) 26 3 (.int .i64 0) 8 rfl Try.underlying26 info3 rfl (by decide) (by omega) (.slice (some ad112) y115.length co72) y115 x20_1 [.int .i64 x20_1] (fun _ => True) (fun _ => False) rfl rfl ?aP (fun _ hk => hk.elim) ?aF ?aO ?aB ?aS ?aL ?_; (case aP => exact rfl); (case aB => exact (by repeat (first | (with_reducible first | exact HB.out | apply below_alloc | apply pw_below_drewN | apply below_drew1 | refine below_set ?_ GE108.out) | exact HB.out))); (case aF => exact (fun _ _ => trivial)); (case aO => exact (by (with_reducible repeat (first | apply Kd.R_alloc | apply Kd.R_drewN | apply Kd.R_drew)); exact HO117.out)); (case aS => exact (below_size (by repeat (first | (with_reducible first | exact HB.out | apply below_alloc | apply pw_below_drewN | apply below_drew1 | refine below_set ?_ GE108.out) | exact HB.out)))); (case aL => have := LMc71.out; omega); intro v119 w75 ho hb hg hat; rw [← Ny118.out] at ho; have n0_ := Aside0.mk (blk_grown (g := gb108) (o := .cells #[.int .i64 ((rd_T119 l0 x20_1).f0), .string ((rd_T119 l0 x20_1).f1), .int .i64 ((rd_T119 l0 x20_1).f2), .int .i64 ((rd_T119 l0 x20_1).f3)] 119 (0, 0)) (by (with_reducible repeat (first | refine blk_drewN ?_ _ | refine blk_drew ?_ | refine blk_alloc ?_ _)); exact BK108.out) hg (Kd.R_ne HO117.out BK108.out (by decide))); have n1_ := Aside0.mk (hb); have n2_ := Aside0.mk (ho); clear BK108; clear HB; clear HO117; have BK108 := n0_; have HB := n1_; have HO120 := n2_; clear n0_ n1_ n2_; clear ho hb hg hat)); try go_wp2_with (first | ((with_reducible refine gate_builtin (b := .append) (xs := #[.tmp 116, .tmp 118]) rfl ?_); (try (refine gate_guard (by rfl) ?_; dsimp only)); at_builtin; refine Kd.R_append (Kd.int .i64) (w0 := w) w.heap.size rfl (.tmp 116) (.tmp 118) 26 3 (.int .i64 0) 8 rfl Try.underlying26 info3 rfl (by decide) (by omega) (.slice (some ad112) y115.length co72) y115 x20_1 [.int .i64 x20_1] (fun _ => True) (fun _ => False) rfl rfl ?aP (fun _ hk => hk.elim) ?aF ?aO ?aB ?aS ?aL ?_; (case aP => exact rfl); (case aB => exact (by repeat (first | (with_reducible first | exact HB.out | apply below_alloc | apply pw_below_drewN | apply below_drew1 | refine below_set ?_ GE108.out) | exact HB.out))); (case aF => exact (fun _ _ => trivial)); (case aO => exact (by (with_reducible repeat (first | apply Kd.R_alloc | apply Kd.R_drewN | apply Kd.R_drew)); exact HO117.out)); (case aS => exact (below_size (by repeat (first | (with_reducible first | exact HB.out | apply below_alloc | apply pw_below_drewN | apply below_drew1 | refine below_set ?_ GE108.out) | exact HB.out)))); (case aL => have := LMc71.out; omega); intro v119 w75 ho hb hg hat; rw [← Ny118.out] at ho; have n0_ := Aside0.mk (blk_grown (g := gb108) (o := .cells #[.int .i64 ((rd_T119 l0 x20_1).f0), .string ((rd_T119 l0 x20_1).f1), .int .i64 ((rd_T119 l0 x20_1).f2), .int .i64 ((rd_T119 l0 x20_1).f3)] 119 (0, 0)) (by (with_reducible repeat (first | refine blk_drewN ?_ _ | refine blk_drew ?_ | refine blk_alloc ?_ _)); exact BK108.out) hg (Kd.R_ne HO117.out BK108.out (by decide))); have n1_ := Aside0.mk (hb); have n2_ := Aside0.mk (ho); clear BK108; clear HB; clear HO117; have BK108 := n0_; have HB := n1_; have HO120 := n2_; clear n0_ n1_ n2_; clear ho hb hg hat)))
                                                      go_roundg kj18
                                                      case measure => have := HK1.out; have := HJ10.out; have := HJ18.out; omega
                                                      case rel => exact ⟨(y118), (wrap64 (x20_1 + 1)), (by first | rfl | (simp; done) | (simp [*]; done)), H', ⟨by have := HK1.out; have := HJ10.out; have := HJ18.out; omega⟩, ⟨by (with_reducible repeat (first | apply Kd.R_alloc | apply Kd.R_drewN | apply Kd.R_drew)); exact HO120.out⟩, ⟨by repeat (first | (with_reducible first | exact HB.out | apply below_alloc | apply pw_below_drewN | apply below_drew1 | refine below_set ?_ GE108.out) | exact HB.out)⟩⟩
                                                    · rw [if_neg c71] at H
                                                      exact absurd H (by simp)
                                                  · rw [if_neg c70] at H
                                                    exact absurd H (by simp)
                                                · rw [if_neg c69] at H
                                                  exact absurd H (by simp)
                                              · rw [if_neg c67] at H
                                                have c67b0 : (((rd_T119 l0 x20_1).f3) == (rd x4_1 (ji58))) = false := beq_eq_false_iff_ne.mpr c67
                                                have c67b1 : (((rd_T119 l0 x20_1).f3) != (rd x4_1 (ji58))) = true := bne_iff_ne.mpr c67
                                                obtain rfl := Option.some.inj H
                                                obtain ⟨Ao76, co76, eo76⟩ := Kd.R_slice HO_4.out
                                                subst eo76
                                                have hcz77_0 : wc.cell? ⟨gb108, 0, none⟩ = some (.int .i64 ((rd_T119 l0 x20_1).f0)) := (blk_cell BK108.out 0).trans rfl
                                                have hcz77_1 : wc.cell? ⟨gb108, 1, none⟩ = some (.string ((rd_T119 l0 x20_1).f1)) := (blk_cell BK108.out 1).trans rfl
                                                have hcz77_2 : wc.cell? ⟨gb108, 2, none⟩ = some (.int .i64 ((rd_T119 l0 x20_1).f2)) := (blk_cell BK108.out 2).trans rfl
                                                have hcz77_3 : wc.cell? ⟨gb108, 3, none⟩ = some (.int .i64 ((rd_T119 l0 x20_1).f3)) := (blk_cell BK108.out 3).trans rfl
                                                have hfz77_0 := blk_frozen BK108.out 0
                                                have hfz77_1 := blk_frozen BK108.out 1
                                                have hfz77_2 := blk_frozen BK108.out 2
                                                have hfz77_3 := blk_frozen BK108.out 3
                                                have p112 : 0 ≤ ((ji58) : Int) := of_decide_eq_true (by first | (with_reducible assumption) | assumption)
                                                have q112 : (ji58) < (x4_1.length : Int) := of_decide_eq_true (by first | (with_reducible assumption) | assumption)
                                                obtain ⟨ad112, e112, hx112_0⟩ := Kd.at_int (Kd.R_reads' HO_4.out).2.2 (ji58) p112 q112
                                                cases e112
                                                replace p112 := eq_true p112
                                                replace q112 := eq_true q112
                                                have p113 : 0 ≤ ((ji63) : Int) := of_decide_eq_true (by first | (with_reducible assumption) | assumption)
                                                have q113 : (ji63) < (x4_1.length : Int) := of_decide_eq_true (by first | (with_reducible assumption) | assumption)
                                                obtain ⟨ad113, e113, hx113_0⟩ := Kd.at_int (Kd.R_reads' HO_4.out).2.2 (ji63) p113 q113
                                                obtain rfl : ad112 = ad113 := (by injection e113)
                                                replace p113 := eq_true p113
                                                replace q113 := eq_true q113
                                                have p114 : 0 ≤ ((ji58) : Int) := of_decide_eq_true (by first | (with_reducible assumption) | assumption)
                                                have q114 : (ji58) < (x4_1.length : Int) := of_decide_eq_true (by first | (with_reducible assumption) | assumption)
                                                obtain ⟨ad114, e114, hx114_0⟩ := Kd.at_int (Kd.R_reads' HO_4.out).2.2 (ji58) p114 q114
                                                obtain rfl : ad112 = ad114 := (by injection e114)
                                                replace p114 := eq_true p114
                                                replace q114 := eq_true q114
                                                go_wp2
                                                repeat (go_quiet (fail); try go_wp2)
                                                go_ret
                                                exact ⟨by first | rfl | (simp [errW_none, errW_some] <;> rfl) | (simp only [← hji58, ← hji63]; first | rfl | (simp [errW_none, errW_some] <;> rfl)) | (simp [*, errW_none, errW_some] <;> rfl), by repeat (first | (with_reducible first | exact HB.out | apply below_alloc | apply pw_below_drewN | apply below_drew1 | refine below_set ?_ GE108.out) | exact HB.out)⟩
                                            · rw [if_neg c66] at H
                                              have c66b0 : (((rd_T119 l0 x20_1).f2) == (rd x4_1 (ji63))) = false := beq_eq_false_iff_ne.mpr c66
                                              have c66b1 : (((rd_T119 l0 x20_1).f2) != (rd x4_1 (ji63))) = true := bne_iff_ne.mpr c66
                                              obtain rfl := Option.some.inj H
                                              obtain ⟨Ao78, co78, eo78⟩ := Kd.R_slice HO_4.out
                                              subst eo78
                                              have hcz79_0 : wc.cell? ⟨gb108, 0, none⟩ = some (.int .i64 ((rd_T119 l0 x20_1).f0)) := (blk_cell BK108.out 0).trans rfl
                                              have hcz79_1 : wc.cell? ⟨gb108, 1, none⟩ = some (.string ((rd_T119 l0 x20_1).f1)) := (blk_cell BK108.out 1).trans rfl
                                              have hcz79_2 : wc.cell? ⟨gb108, 2, none⟩ = some (.int .i64 ((rd_T119 l0 x20_1).f2)) := (blk_cell BK108.out 2).trans rfl
                                              have hcz79_3 : wc.cell? ⟨gb108, 3, none⟩ = some (.int .i64 ((rd_T119 l0 x20_1).f3)) := (blk_cell BK108.out 3).trans rfl
                                              have hfz79_0 := blk_frozen BK108.out 0
                                              have hfz79_1 := blk_frozen BK108.out 1
                                              have hfz79_2 := blk_frozen BK108.out 2
                                              have hfz79_3 := blk_frozen BK108.out 3
                                              have p112 : 0 ≤ ((ji58) : Int) := of_decide_eq_true (by first | (with_reducible assumption) | assumption)
                                              have q112 : (ji58) < (x4_1.length : Int) := of_decide_eq_true (by first | (with_reducible assumption) | assumption)
                                              obtain ⟨ad112, e112, hx112_0⟩ := Kd.at_int (Kd.R_reads' HO_4.out).2.2 (ji58) p112 q112
                                              cases e112
                                              replace p112 := eq_true p112
                                              replace q112 := eq_true q112
                                              have p113 : 0 ≤ ((ji63) : Int) := of_decide_eq_true (by first | (with_reducible assumption) | assumption)
                                              have q113 : (ji63) < (x4_1.length : Int) := of_decide_eq_true (by first | (with_reducible assumption) | assumption)
                                              obtain ⟨ad113, e113, hx113_0⟩ := Kd.at_int (Kd.R_reads' HO_4.out).2.2 (ji63) p113 q113
                                              obtain rfl : ad112 = ad113 := (by injection e113)
                                              replace p113 := eq_true p113
                                              replace q113 := eq_true q113
                                              go_wp2
                                              repeat (go_quiet (fail); try go_wp2)
                                              go_ret
                                              exact ⟨by first | rfl | (simp [errW_none, errW_some] <;> rfl) | (simp only [← hji58, ← hji63]; first | rfl | (simp [errW_none, errW_some] <;> rfl)) | (simp [*, errW_none, errW_some] <;> rfl), by repeat (first | (with_reducible first | exact HB.out | apply below_alloc | apply pw_below_drewN | apply below_drew1 | refine below_set ?_ GE108.out) | exact HB.out)⟩
                                          · rw [if_neg c65] at H
                                            exact absurd H (by simp)
                                        · rw [if_neg c64] at H
                                          exact absurd H (by simp)
                                      · rw [if_neg c62] at H
                                        have c62b0 : (t109 == 2) = false := beq_eq_false_iff_ne.mpr c62
                                        have c62b1 : (t109 != 2) = true := bne_iff_ne.mpr c62
                                        obtain ⟨ji80, hji80⟩ : ∃ j_ : Int, (wrap64 ((x4_1.length : Int) - t109)) = j_ := ⟨_, rfl⟩
                                        replace H : (if 0 ≤ (ji80) then (if (ji80) ≤ (x4_1.length : Int) then ((some (x4_1.take ((ji80) : Int).toNat : List Int)).bind fun y121 => (if y121.length < 17592186044416 then (interlock_condition.l0 kj18 (y121 ++ [x20_1]) l0 (l0.length : Int) (wrap64 (x20_1 + 1))) else (none))) else (none)) else (none)) = some r := by first | (rw [hji80] at H; exact H) | (simp only [hji80] at H ⊢; exact H)
                                        have hji80w : (IntKind.i64.wrap ((x4_1.length : Int) - t109)) = ji80 := (i64_w _).trans hji80
                                        by_cases c81 : 0 ≤ (ji80)
                                        · rw [if_pos c81] at H
                                          have c81b0 := eq_true c81
                                          have c81b1 : decide (0 ≤ (ji80)) = true := decide_eq_true c81
                                          clear c81
                                          by_cases c82 : (ji80) ≤ (x4_1.length : Int)
                                          · rw [if_pos c82] at H
                                            have c82b0 := eq_true c82
                                            have c82b1 : decide ((ji80) ≤ (x4_1.length : Int)) = true := decide_eq_true c82
                                            clear c82
                                            obtain ⟨y121, hy121⟩ : ∃ y_ : List Int, y_ = (x4_1.take ((ji80) : Int).toNat) := ⟨_, rfl⟩
                                            replace H : (if y121.length < 17592186044416 then (interlock_condition.l0 kj18 (y121 ++ [x20_1]) l0 (l0.length : Int) (wrap64 (x20_1 + 1))) else (none)) = some r := by first | (rw [hy121]; with_reducible exact H) | (have H2_ := (Option.bind_some _ _).symm.trans H; rw [hy121]; with_reducible exact H2_) | (have H2_ := (Option.bind_some _ _).symm.trans H; with_reducible exact H2_) | with_reducible exact H | (rw [hy121]; exact H) | exact H
                                            have Ny121 := Aside0.mk hy121
                                            clear hy121
                                            by_cases c83 : y121.length < 17592186044416
                                            · rw [if_pos c83] at H
                                              have LMc83 := Aside0.mk c83
                                              clear c83
                                              obtain ⟨y124, hy124⟩ : ∃ y_ : List Int, y_ = (y121 ++ [x20_1]) := ⟨_, rfl⟩
                                              replace H : (interlock_condition.l0 kj18 y124 l0 (l0.length : Int) (wrap64 (x20_1 + 1))) = some r := by first | (rw [hy124]; with_reducible exact H) | (have H2_ := (Option.bind_some _ _).symm.trans H; rw [hy124]; with_reducible exact H2_) | (have H2_ := (Option.bind_some _ _).symm.trans H; with_reducible exact H2_) | with_reducible exact H | (rw [hy124]; exact H) | exact H
                                              have Ny124 := Aside0.mk hy124
                                              clear hy124
                                              have H' := Aside0.mk H
                                              clear H
                                              obtain ⟨Ao84, co84, eo84⟩ := Kd.R_slice HO_4.out
                                              subst eo84
                                              have hcz85_0 : wc.cell? ⟨gb108, 0, none⟩ = some (.int .i64 ((rd_T119 l0 x20_1).f0)) := (blk_cell BK108.out 0).trans rfl
                                              have hcz85_1 : wc.cell? ⟨gb108, 1, none⟩ = some (.string ((rd_T119 l0 x20_1).f1)) := (blk_cell BK108.out 1).trans rfl
                                              have hcz85_2 : wc.cell? ⟨gb108, 2, none⟩ = some (.int .i64 ((rd_T119 l0 x20_1).f2)) := (blk_cell BK108.out 2).trans rfl
                                              have hcz85_3 : wc.cell? ⟨gb108, 3, none⟩ = some (.int .i64 ((rd_T119 l0 x20_1).f3)) := (blk_cell BK108.out 3).trans rfl
                                              have hfz85_0 := blk_frozen BK108.out 0
                                              have hfz85_1 := blk_frozen BK108.out 1
                                              have hfz85_2 := blk_frozen BK108.out 2
                                              have hfz85_3 := blk_frozen BK108.out 3
                                              have p112 : 0 ≤ ((ji58) : Int) := of_decide_eq_true (by first | (with_reducible assumption) | assumption)
                                              have q112 : (ji58) < (x4_1.length : Int) := of_decide_eq_true (by first | (with_reducible assumption) | assumption)
                                              obtain ⟨ad112, e112, hx112_0⟩ := Kd.at_int (Kd.R_reads' HO_4.out).2.2 (ji58) p112 q112
                                              cases e112
                                              replace p112 := eq_true p112
                                              replace q112 := eq_true q112
                                              have q86 : ((ji80) : Int) ≤ ((x4_1.length : Int) : Int) := of_decide_eq_true (by first | (with_reducible assumption) | assumption)
                                              obtain ⟨i086, hi086, _, hsz86, _⟩ := info_parts info3
                                              have hcut86 := cut_to (P := Try.prog) 26 3 .i64 Try.underlying26 hi086 (some ad112) x4_1.length co84 (ji80) (of_decide_eq_true (by first | (with_reducible assumption) | assumption)) q86 (Kd.R_reads' HO_4.out).2.1
                                              have hr86 := Kd.R_take (m := ((ji80) : Int).toNat) HO_4.out (by omega)
                                              have hy86 : y121.length = ((ji80) : Int).toNat := (by rw [Ny121.out, List.length_take]; omega)
                                              rw [← Ny121.out] at hr86
                                              rw [← hy86] at hr86 hcut86
                                              clear hy86 hi086 hsz86 HO_4
                                              have HO123 := Aside0.mk hr86
                                              clear hr86
                                              replace q86 := eq_true q86
                                              go_wp2_with (first | ((with_reducible refine gate_builtin (b := .append) (xs := #[.tmp 116, .tmp 118]) rfl ?_); (try (refine gate_guard (by rfl) ?_; dsimp only)); at_builtin; refine Kd.R_append (Kd.int .i64) (w0 := w) w.heap.size rfl (.tmp 116) (.tmp 118) 26 3 (.int .i64 0) 8 rfl Try.underlying26 info3 rfl (by decide) (by omega) (.slice (some ad112) y121.length co84) y121 x20_1 [.int .i64 x20_1] (fun _ => True) (fun _ => False) rfl rfl ?aP (fun _ hk => hk.elim) ?aF ?aO ?aB ?aS ?aL ?_; (case aP => exact rfl); (case aB => exact (by repeat (first | (with_reducible first | exact HB.out | apply below_alloc | apply pw_below_drewN | apply below_drew1 | refine below_set ?_ GE108.out) | exact HB.out))); (case aF => exact (fun _ _ => trivial)); (case aO => exact (by (with_reducible repeat (first | apply Kd.R_alloc | apply Kd.R_drewN | apply Kd.R_drew)); exact HO123.out)); (case aS => exact (below_size (by repeat (first | (with_reducible first | exact HB.out | apply below_alloc | apply pw_below_drewN | apply below_drew1 | refine below_set ?_ GE108.out) | exact HB.out)))); (case aL => have := LMc83.out; omega); intro v125 w87 ho hb hg hat; rw [← Ny124.out] at ho; have n0_ := Aside0.mk (blk_grown (g := gb108) (o := .cells #[.int .i64 ((rd_T119 l0 x20_1).f0), .string ((rd_T119 l0 x20_1).f1), .int .i64 ((rd_T119 l0 x20_1).f2), .int .i64 ((rd_T119 l0 x20_1).f3)] 119 (0, 0)) (by (with_reducible repeat (first | refine blk_drewN ?_ _ | refine blk_drew ?_ | refine blk_alloc ?_ _)); exact BK108.out) hg (Kd.R_ne HO123.out BK108.out (by decide))); have n1_ := Aside0.mk (hb); have n2_ := Aside0.mk (ho); clear BK108; clear HB; clear HO123; have BK108 := n0_; have HB := n1_; have HO126 := n2_; clear n0_ n1_ n2_; clear ho hb hg hat))
                                              repeat (go_quiet (first | ((with_reducible refine gate_builtin (b := .append) (xs := #[.tmp 116, .tmp 118]) rfl ?_); (try (refine gate_guard (by rfl) ?_; dsimp only)); at_builtin; refine Kd.R_append (Kd.int .i64) (w0 := w) w.heap.size rfl (.tmp 116) (.tmp 118) 26 3 (.int .i64 0) 8 rfl Try.underlying26 info3 rfl (by decide) (by omega) (.slice (some ad112) y121.length co84) y121 x20_1 [.int .i64 x20_1] (fun _ => True) (fun _ => False) rfl rfl ?aP (fun _ hk => hk.elim) ?aF ?aO ?aB ?aS ?aL ?_; (case aP => exact rfl); (case aB => exact (by repeat (first | (with_reducible first | exact HB.out | apply below_alloc | apply pw_below_drewN | apply below_drew1 | refine below_set ?_ GE108.out) | exact HB.out))); (case aF => exact (fun _ _ => trivial)); (case aO => exact (by (with_reducible repeat (first | apply Kd.R_alloc | apply Kd.R_drewN | apply Kd.R_drew)); exact HO123.out)); (case aS => exact (below_size (by repeat (first | (with_reducible first | exact HB.out | apply below_alloc | apply pw_below_drewN | apply below_drew1 | refine below_set ?_ GE108.out) | exact HB.out)))); (case aL => have := LMc83.out; omega); intro v125 w87 ho hb hg hat; rw [← Ny124.out] at ho; have n0_ := Aside0.mk (blk_grown (g := gb108) (o := .cells #[.int .i64 ((rd_T119 l0 x20_1).f0), .string ((rd_T119 l0 x20_1).f1), .int .i64 ((rd_T119 l0 x20_1).f2), .int .i64 ((rd_T119 l0 x20_1).f3)] 119 (0, 0)) (by (with_reducible repeat (first | refine blk_drewN ?_ _ | refine blk_drew ?_ | refine blk_alloc ?_ _)); exact BK108.out) hg (Kd.R_ne HO123.out BK108.out (by decide))); have n1_ := Aside0.mk (hb); have n2_ := Aside0.mk (ho); clear BK108; clear HB; clear HO123; have BK108 := n0_; have HB := n1_; have HO126 := n2_; clear n0_ n1_ n2_; clear ho hb hg hat)); try go_wp2_with (first | ((with_reducible refine gate_builtin (b := .append) (xs := #[.tmp 116, .tmp 118]) rfl ?_); (try (refine gate_guard (by rfl) ?_; dsimp only)); at_builtin; refine Kd.R_append (Kd.int .i64) (w0 := w) w.heap.size rfl (.tmp 116) (.tmp 118) 26 3 (.int .i64 0) 8 rfl Try.underlying26 info3 rfl (by decide) (by omega) (.slice (some ad112) y121.length co84) y121 x20_1 [.int .i64 x20_1] (fun _ => True) (fun _ => False) rfl rfl ?aP (fun _ hk => hk.elim) ?aF ?aO ?aB ?aS ?aL ?_; (case aP => exact rfl); (case aB => exact (by repeat (first | (with_reducible first | exact HB.out | apply below_alloc | apply pw_below_drewN | apply below_drew1 | refine below_set ?_ GE108.out) | exact HB.out))); (case aF => exact (fun _ _ => trivial)); (case aO => exact (by (with_reducible repeat (first | apply Kd.R_alloc | apply Kd.R_drewN | apply Kd.R_drew)); exact HO123.out)); (case aS => exact (below_size (by repeat (first | (with_reducible first | exact HB.out | apply below_alloc | apply pw_below_drewN | apply below_drew1 | refine below_set ?_ GE108.out) | exact HB.out)))); (case aL => have := LMc83.out; omega); intro v125 w87 ho hb hg hat; rw [← Ny124.out] at ho; have n0_ := Aside0.mk (blk_grown (g := gb108) (o := .cells #[.int .i64 ((rd_T119 l0 x20_1).f0), .string ((rd_T119 l0 x20_1).f1), .int .i64 ((rd_T119 l0 x20_1).f2), .int .i64 ((rd_T119 l0 x20_1).f3)] 119 (0, 0)) (by (with_reducible repeat (first | refine blk_drewN ?_ _ | refine blk_drew ?_ | refine blk_alloc ?_ _)); exact BK108.out) hg (Kd.R_ne HO123.out BK108.out (by decide))); have n1_ := Aside0.mk (hb); have n2_ := Aside0.mk (ho); clear BK108; clear HB; clear HO123; have BK108 := n0_; have HB := n1_; have HO126 := n2_; clear n0_ n1_ n2_; clear ho hb hg hat)))
                                              go_roundg kj18
                                              case measure => have := HK1.out; have := HJ10.out; have := HJ18.out; omega
                                              case rel => exact ⟨(y124), (wrap64 (x20_1 + 1)), (by first | rfl | (simp; done) | (simp [*]; done)), H', ⟨by have := HK1.out; have := HJ10.out; have := HJ18.out; omega⟩, ⟨by (with_reducible repeat (first | apply Kd.R_alloc | apply Kd.R_drewN | apply Kd.R_drew)); exact HO126.out⟩, ⟨by repeat (first | (with_reducible first | exact HB.out | apply below_alloc | apply pw_below_drewN | apply below_drew1 | refine below_set ?_ GE108.out) | exact HB.out)⟩⟩
                                            · rw [if_neg c83] at H
                                              exact absurd H (by simp)
                                          · rw [if_neg c82] at H
                                            exact absurd H (by simp)
                                        · rw [if_neg c81] at H
                                          exact absurd H (by simp)
                                    · rw [if_neg c61] at H
                                      have c61b0 : (((rd_T119 l0 x20_1).f2) == (rd x4_1 (ji58))) = false := beq_eq_false_iff_ne.mpr c61
                                      have c61b1 : (((rd_T119 l0 x20_1).f2) != (rd x4_1 (ji58))) = true := bne_iff_ne.mpr c61
                                      obtain rfl := Option.some.inj H
                                      obtain ⟨Ao88, co88, eo88⟩ := Kd.R_slice HO_4.out
                                      subst eo88
                                      have hcz89_0 : wc.cell? ⟨gb108, 0, none⟩ = some (.int .i64 ((rd_T119 l0 x20_1).f0)) := (blk_cell BK108.out 0).trans rfl
                                      have hcz89_1 : wc.cell? ⟨gb108, 1, none⟩ = some (.string ((rd_T119 l0 x20_1).f1)) := (blk_cell BK108.out 1).trans rfl
                                      have hcz89_2 : wc.cell? ⟨gb108, 2, none⟩ = some (.int .i64 ((rd_T119 l0 x20_1).f2)) := (blk_cell BK108.out 2).trans rfl
                                      have hcz89_3 : wc.cell? ⟨gb108, 3, none⟩ = some (.int .i64 ((rd_T119 l0 x20_1).f3)) := (blk_cell BK108.out 3).trans rfl
                                      have hfz89_0 := blk_frozen BK108.out 0
                                      have hfz89_1 := blk_frozen BK108.out 1
                                      have hfz89_2 := blk_frozen BK108.out 2
                                      have hfz89_3 := blk_frozen BK108.out 3
                                      have p112 : 0 ≤ ((ji58) : Int) := of_decide_eq_true (by first | (with_reducible assumption) | assumption)
                                      have q112 : (ji58) < (x4_1.length : Int) := of_decide_eq_true (by first | (with_reducible assumption) | assumption)
                                      obtain ⟨ad112, e112, hx112_0⟩ := Kd.at_int (Kd.R_reads' HO_4.out).2.2 (ji58) p112 q112
                                      cases e112
                                      replace p112 := eq_true p112
                                      replace q112 := eq_true q112
                                      go_wp2
                                      repeat (go_quiet (fail); try go_wp2)
                                      go_ret
                                      exact ⟨by first | rfl | (simp [errW_none, errW_some] <;> rfl) | (simp only [← hji58]; first | rfl | (simp [errW_none, errW_some] <;> rfl)) | (simp [*, errW_none, errW_some] <;> rfl), by repeat (first | (with_reducible first | exact HB.out | apply below_alloc | apply pw_below_drewN | apply below_drew1 | refine below_set ?_ GE108.out) | exact HB.out)⟩
                                  · rw [if_neg c60] at H
                                    exact absurd H (by simp)
                                · rw [if_neg c59] at H
                                  exact absurd H (by simp)
                              · rw [if_neg c57] at H
                                have c57b0 : (t109 == 1) = false := beq_eq_false_iff_ne.mpr c57
                                have c57b1 : (t109 != 1) = true := bne_iff_ne.mpr c57
                                by_cases c90 : t109 = 2
                                · rw [if_pos c90] at H
                                  have c90b0 : (t109 == 2) = true := beq_iff_eq.mpr c90
                                  have c90b1 : (t109 != 2) = false := bne_eq_false_iff_eq.mpr c90
                                  clear c90
                                  obtain ⟨ji91, hji91⟩ : ∃ j_ : Int, (wrap64 ((x4_1.length : Int) - 2)) = j_ := ⟨_, rfl⟩
                                  replace H : (if 0 ≤ (ji91) then (if (ji91) < (x4_1.length : Int) then (if ((rd_T119 l0 x20_1).f2) = (rd x4_1 (ji91)) then (if 0 ≤ (wrap64 ((x4_1.length : Int) - 1)) then (if (wrap64 ((x4_1.length : Int) - 1)) < (x4_1.length : Int) then (if ((rd_T119 l0 x20_1).f3) = (rd x4_1 (wrap64 ((x4_1.length : Int) - 1))) then (if 0 ≤ (wrap64 ((x4_1.length : Int) - t109)) then (if (wrap64 ((x4_1.length : Int) - t109)) ≤ (x4_1.length : Int) then ((some (x4_1.take ((wrap64 ((x4_1.length : Int) - t109)) : Int).toNat : List Int)).bind fun y129 => (if y129.length < 17592186044416 then (interlock_condition.l0 kj18 (y129 ++ [x20_1]) l0 (l0.length : Int) (wrap64 (x20_1 + 1))) else (none))) else (none)) else (none)) else (some 3)) else (none)) else (none)) else (some 3)) else (none)) else (none)) = some r := by first | (rw [hji91] at H; exact H) | (simp only [hji91] at H ⊢; exact H)
                                  have hji91w : (IntKind.i64.wrap ((x4_1.length : Int) - 2)) = ji91 := (i64_w _).trans hji91
                                  by_cases c92 : 0 ≤ (ji91)
                                  · rw [if_pos c92] at H
                                    have c92b0 : decide (0 ≤ (ji91)) = true := decide_eq_true c92
                                    clear c92
                                    by_cases c93 : (ji91) < (x4_1.length : Int)
                                    · rw [if_pos c93] at H
                                      have c93b0 : decide ((ji91) < (x4_1.length : Int)) = true := decide_eq_true c93
                                      clear c93
                                      by_cases c94 : ((rd_T119 l0 x20_1).f2) = (rd x4_1 (ji91))
                                      · rw [if_pos c94] at H
                                        have c94b0 : (((rd_T119 l0 x20_1).f2) == (rd x4_1 (ji91))) = true := beq_iff_eq.mpr c94
                                        have c94b1 : (((rd_T119 l0 x20_1).f2) != (rd x4_1 (ji91))) = false := bne_eq_false_iff_eq.mpr c94
                                        clear c94
                                        obtain ⟨ji95, hji95⟩ : ∃ j_ : Int, (wrap64 ((x4_1.length : Int) - 1)) = j_ := ⟨_, rfl⟩
                                        replace H : (if 0 ≤ (ji95) then (if (ji95) < (x4_1.length : Int) then (if ((rd_T119 l0 x20_1).f3) = (rd x4_1 (ji95)) then (if 0 ≤ (wrap64 ((x4_1.length : Int) - t109)) then (if (wrap64 ((x4_1.length : Int) - t109)) ≤ (x4_1.length : Int) then ((some (x4_1.take ((wrap64 ((x4_1.length : Int) - t109)) : Int).toNat : List Int)).bind fun y129 => (if y129.length < 17592186044416 then (interlock_condition.l0 kj18 (y129 ++ [x20_1]) l0 (l0.length : Int) (wrap64 (x20_1 + 1))) else (none))) else (none)) else (none)) else (some 3)) else (none)) else (none)) = some r := by first | (rw [hji95] at H; exact H) | (simp only [hji95] at H ⊢; exact H)
                                        have hji95w : (IntKind.i64.wrap ((x4_1.length : Int) - 1)) = ji95 := (i64_w _).trans hji95
                                        by_cases c96 : 0 ≤ (ji95)
                                        · rw [if_pos c96] at H
                                          have c96b0 : decide (0 ≤ (ji95)) = true := decide_eq_true c96
                                          clear c96
                                          by_cases c97 : (ji95) < (x4_1.length : Int)
                                          · rw [if_pos c97] at H
                                            have c97b0 : decide ((ji95) < (x4_1.length : Int)) = true := decide_eq_true c97
                                            clear c97
                                            by_cases c98 : ((rd_T119 l0 x20_1).f3) = (rd x4_1 (ji95))
                                            · rw [if_pos c98] at H
                                              have c98b0 : (((rd_T119 l0 x20_1).f3) == (rd x4_1 (ji95))) = true := beq_iff_eq.mpr c98
                                              have c98b1 : (((rd_T119 l0 x20_1).f3) != (rd x4_1 (ji95))) = false := bne_eq_false_iff_eq.mpr c98
                                              clear c98
                                              obtain ⟨ji99, hji99⟩ : ∃ j_ : Int, (wrap64 ((x4_1.length : Int) - t109)) = j_ := ⟨_, rfl⟩
                                              replace H : (if 0 ≤ (ji99) then (if (ji99) ≤ (x4_1.length : Int) then ((some (x4_1.take ((ji99) : Int).toNat : List Int)).bind fun y129 => (if y129.length < 17592186044416 then (interlock_condition.l0 kj18 (y129 ++ [x20_1]) l0 (l0.length : Int) (wrap64 (x20_1 + 1))) else (none))) else (none)) else (none)) = some r := by first | (rw [hji99] at H; exact H) | (simp only [hji99] at H ⊢; exact H)
                                              have hji99w : (IntKind.i64.wrap ((x4_1.length : Int) - t109)) = ji99 := (i64_w _).trans hji99
                                              by_cases c100 : 0 ≤ (ji99)
                                              · rw [if_pos c100] at H
                                                have c100b0 := eq_true c100
                                                have c100b1 : decide (0 ≤ (ji99)) = true := decide_eq_true c100
                                                clear c100
                                                by_cases c101 : (ji99) ≤ (x4_1.length : Int)
                                                · rw [if_pos c101] at H
                                                  have c101b0 := eq_true c101
                                                  have c101b1 : decide ((ji99) ≤ (x4_1.length : Int)) = true := decide_eq_true c101
                                                  clear c101
                                                  obtain ⟨y129, hy129⟩ : ∃ y_ : List Int, y_ = (x4_1.take ((ji99) : Int).toNat) := ⟨_, rfl⟩
                                                  replace H : (if y129.length < 17592186044416 then (interlock_condition.l0 kj18 (y129 ++ [x20_1]) l0 (l0.length : Int) (wrap64 (x20_1 + 1))) else (none)) = some r := by first | (rw [hy129]; with_reducible exact H) | (have H2_ := (Option.bind_some _ _).symm.trans H; rw [hy129]; with_reducible exact H2_) | (have H2_ := (Option.bind_some _ _).symm.trans H; with_reducible exact H2_) | with_reducible exact H | (rw [hy129]; exact H) | exact H
                                                  have Ny129 := Aside0.mk hy129
                                                  clear hy129
                                                  by_cases c102 : y129.length < 17592186044416
                                                  · rw [if_pos c102] at H
                                                    have LMc102 := Aside0.mk c102
                                                    clear c102
                                                    obtain ⟨y132, hy132⟩ : ∃ y_ : List Int, y_ = (y129 ++ [x20_1]) := ⟨_, rfl⟩
                                                    replace H : (interlock_condition.l0 kj18 y132 l0 (l0.length : Int) (wrap64 (x20_1 + 1))) = some r := by first | (rw [hy132]; with_reducible exact H) | (have H2_ := (Option.bind_some _ _).symm.trans H; rw [hy132]; with_reducible exact H2_) | (have H2_ := (Option.bind_some _ _).symm.trans H; with_reducible exact H2_) | with_reducible exact H | (rw [hy132]; exact H) | exact H
                                                    have Ny132 := Aside0.mk hy132
                                                    clear hy132
                                                    have H' := Aside0.mk H
                                                    clear H
                                                    obtain ⟨Ao103, co103, eo103⟩ := Kd.R_slice HO_4.out
                                                    subst eo103
                                                    have hcz104_0 : wc.cell? ⟨gb108, 0, none⟩ = some (.int .i64 ((rd_T119 l0 x20_1).f0)) := (blk_cell BK108.out 0).trans rfl
                                                    have hcz104_1 : wc.cell? ⟨gb108, 1, none⟩ = some (.string ((rd_T119 l0 x20_1).f1)) := (blk_cell BK108.out 1).trans rfl
                                                    have hcz104_2 : wc.cell? ⟨gb108, 2, none⟩ = some (.int .i64 ((rd_T119 l0 x20_1).f2)) := (blk_cell BK108.out 2).trans rfl
                                                    have hcz104_3 : wc.cell? ⟨gb108, 3, none⟩ = some (.int .i64 ((rd_T119 l0 x20_1).f3)) := (blk_cell BK108.out 3).trans rfl
                                                    have hfz104_0 := blk_frozen BK108.out 0
                                                    have hfz104_1 := blk_frozen BK108.out 1
                                                    have hfz104_2 := blk_frozen BK108.out 2
                                                    have hfz104_3 := blk_frozen BK108.out 3
                                                    have p127 : 0 ≤ ((ji91) : Int) := of_decide_eq_true (by first | (with_reducible assumption) | assumption)
                                                    have q127 : (ji91) < (x4_1.length : Int) := of_decide_eq_true (by first | (with_reducible assumption) | assumption)
                                                    obtain ⟨ad127, e127, hx127_0⟩ := Kd.at_int (Kd.R_reads' HO_4.out).2.2 (ji91) p127 q127
                                                    cases e127
                                                    replace p127 := eq_true p127
                                                    replace q127 := eq_true q127
                                                    have p128 : 0 ≤ ((ji95) : Int) := of_decide_eq_true (by first | (with_reducible assumption) | assumption)
                                                    have q128 : (ji95) < (x4_1.length : Int) := of_decide_eq_true (by first | (with_reducible assumption) | assumption)
                                                    obtain ⟨ad128, e128, hx128_0⟩ := Kd.at_int (Kd.R_reads' HO_4.out).2.2 (ji95) p128 q128
                                                    obtain rfl : ad127 = ad128 := (by injection e128)
                                                    replace p128 := eq_true p128
                                                    replace q128 := eq_true q128
                                                    have q105 : ((ji99) : Int) ≤ ((x4_1.length : Int) : Int) := of_decide_eq_true (by first | (with_reducible assumption) | assumption)
                                                    obtain ⟨i0105, hi0105, _, hsz105, _⟩ := info_parts info3
                                                    have hcut105 := cut_to (P := Try.prog) 26 3 .i64 Try.underlying26 hi0105 (some ad127) x4_1.length co103 (ji99) (of_decide_eq_true (by first | (with_reducible assumption) | assumption)) q105 (Kd.R_reads' HO_4.out).2.1
                                                    have hr105 := Kd.R_take (m := ((ji99) : Int).toNat) HO_4.out (by omega)
                                                    have hy105 : y129.length = ((ji99) : Int).toNat := (by rw [Ny129.out, List.length_take]; omega)
                                                    rw [← Ny129.out] at hr105
                                                    rw [← hy105] at hr105 hcut105
                                                    clear hy105 hi0105 hsz105 HO_4
                                                    have HO131 := Aside0.mk hr105
                                                    clear hr105
                                                    replace q105 := eq_true q105
                                                    go_wp2_with (first | ((with_reducible refine gate_builtin (b := .append) (xs := #[.tmp 116, .tmp 118]) rfl ?_); (try (refine gate_guard (by rfl) ?_; dsimp only)); at_builtin; refine Kd.R_append (Kd.int .i64) (w0 := w) w.heap.size rfl (.tmp 116) (.tmp 118) 26 3 (.int .i64 0) 8 rfl Try.underlying26 info3 rfl (by decide) (by omega) (.slice (some ad127) y129.length co103) y129 x20_1 [.int .i64 x20_1] (fun _ => True) (fun _ => False) rfl rfl ?aP (fun _ hk => hk.elim) ?aF ?aO ?aB ?aS ?aL ?_; (case aP => exact rfl); (case aB => exact (by repeat (first | (with_reducible first | exact HB.out | apply below_alloc | apply pw_below_drewN | apply below_drew1 | refine below_set ?_ GE108.out) | exact HB.out))); (case aF => exact (fun _ _ => trivial)); (case aO => exact (by (with_reducible repeat (first | apply Kd.R_alloc | apply Kd.R_drewN | apply Kd.R_drew)); exact HO131.out)); (case aS => exact (below_size (by repeat (first | (with_reducible first | exact HB.out | apply below_alloc | apply pw_below_drewN | apply below_drew1 | refine below_set ?_ GE108.out) | exact HB.out)))); (case aL => have := LMc102.out; omega); intro v133 w106 ho hb hg hat; rw [← Ny132.out] at ho; have n0_ := Aside0.mk (blk_grown (g := gb108) (o := .cells #[.int .i64 ((rd_T119 l0 x20_1).f0), .string ((rd_T119 l0 x20_1).f1), .int .i64 ((rd_T119 l0 x20_1).f2), .int .i64 ((rd_T119 l0 x20_1).f3)] 119 (0, 0)) (by (with_reducible repeat (first | refine blk_drewN ?_ _ | refine blk_drew ?_ | refine blk_alloc ?_ _)); exact BK108.out) hg (Kd.R_ne HO131.out BK108.out (by decide))); have n1_ := Aside0.mk (hb); have n2_ := Aside0.mk (ho); clear BK108; clear HB; clear HO131; have BK108 := n0_; have HB := n1_; have HO134 := n2_; clear n0_ n1_ n2_; clear ho hb hg hat))
                                                    repeat (go_quiet (first | ((with_reducible refine gate_builtin (b := .append) (xs := #[.tmp 116, .tmp 118]) rfl ?_); (try (refine gate_guard (by rfl) ?_; dsimp only)); at_builtin; refine Kd.R_append (Kd.int .i64) (w0 := w) w.heap.size rfl (.tmp 116) (.tmp 118) 26 3 (.int .i64 0) 8 rfl Try.underlying26 info3 rfl (by decide) (by omega) (.slice (some ad127) y129.length co103) y129 x20_1 [.int .i64 x20_1] (fun _ => True) (fun _ => False) rfl rfl ?aP (fun _ hk => hk.elim) ?aF ?aO ?aB ?aS ?aL ?_; (case aP => exact rfl); (case aB => exact (by repeat (first | (with_reducible first | exact HB.out | apply below_alloc | apply pw_below_drewN | apply below_drew1 | refine below_set ?_ GE108.out) | exact HB.out))); (case aF => exact (fun _ _ => trivial)); (case aO => exact (by (with_reducible repeat (first | apply Kd.R_alloc | apply Kd.R_drewN | apply Kd.R_drew)); exact HO131.out)); (case aS => exact (below_size (by repeat (first | (with_reducible first | exact HB.out | apply below_alloc | apply pw_below_drewN | apply below_drew1 | refine below_set ?_ GE108.out) | exact HB.out)))); (case aL => have := LMc102.out; omega); intro v133 w106 ho hb hg hat; rw [← Ny132.out] at ho; have n0_ := Aside0.mk (blk_grown (g := gb108) (o := .cells #[.int .i64 ((rd_T119 l0 x20_1).f0), .string ((rd_T119 l0 x20_1).f1), .int .i64 ((rd_T119 l0 x20_1).f2), .int .i64 ((rd_T119 l0 x20_1).f3)] 119 (0, 0)) (by (with_reducible repeat (first | refine blk_drewN ?_ _ | refine blk_drew ?_ | refine blk_alloc ?_ _)); exact BK108.out) hg (Kd.R_ne HO131.out BK108.out (by decide))); have n1_ := Aside0.mk (hb); have n2_ := Aside0.mk (ho); clear BK108; clear HB; clear HO131; have BK108 := n0_; have HB := n1_; have HO134 := n2_; clear n0_ n1_ n2_; clear ho hb hg hat)); try go_wp2_with (first | ((with_reducible refine gate_builtin (b := .append) (xs := #[.tmp 116, .tmp 118]) rfl ?_); (try (refine gate_guard (by rfl) ?_; dsimp only)); at_builtin; refine Kd.R_append (Kd.int .i64) (w0 := w) w.heap.size rfl (.tmp 116) (.tmp 118) 26 3 (.int .i64 0) 8 rfl Try.underlying26 info3 rfl (by decide) (by omega) (.slice (some ad127) y129.length co103) y129 x20_1 [.int .i64 x20_1] (fun _ => True) (fun _ => False) rfl rfl ?aP (fun _ hk => hk.elim) ?aF ?aO ?aB ?aS ?aL ?_; (case aP => exact rfl); (case aB => exact (by repeat (first | (with_reducible first | exact HB.out | apply below_alloc | apply pw_below_drewN | apply below_drew1 | refine below_set ?_ GE108.out) | exact HB.out))); (case aF => exact (fun _ _ => trivial)); (case aO => exact (by (with_reducible repeat (first | apply Kd.R_alloc | apply Kd.R_drewN | apply Kd.R_drew)); exact HO131.out)); (case aS => exact (below_size (by repeat (first | (with_reducible first | exact HB.out | apply below_alloc | apply pw_below_drewN | apply below_drew1 | refine below_set ?_ GE108.out) | exact HB.out)))); (case aL => have := LMc102.out; omega); intro v133 w106 ho hb hg hat; rw [← Ny132.out] at ho; have n0_ := Aside0.mk (blk_grown (g := gb108) (o := .cells #[.int .i64 ((rd_T119 l0 x20_1).f0), .string ((rd_T119 l0 x20_1).f1), .int .i64 ((rd_T119 l0 x20_1).f2), .int .i64 ((rd_T119 l0 x20_1).f3)] 119 (0, 0)) (by (with_reducible repeat (first | refine blk_drewN ?_ _ | refine blk_drew ?_ | refine blk_alloc ?_ _)); exact BK108.out) hg (Kd.R_ne HO131.out BK108.out (by decide))); have n1_ := Aside0.mk (hb); have n2_ := Aside0.mk (ho); clear BK108; clear HB; clear HO131; have BK108 := n0_; have HB := n1_; have HO134 := n2_; clear n0_ n1_ n2_; clear ho hb hg hat)))
                                                    go_roundg kj18
                                                    case measure => have := HK1.out; have := HJ10.out; have := HJ18.out; omega
                                                    case rel => exact ⟨(y132), (wrap64 (x20_1 + 1)), (by first | rfl | (simp; done) | (simp [*]; done)), H', ⟨by have := HK1.out; have := HJ10.out; have := HJ18.out; omega⟩, ⟨by (with_reducible repeat (first | apply Kd.R_alloc | apply Kd.R_drewN | apply Kd.R_drew)); exact HO134.out⟩, ⟨by repeat (first | (with_reducible first | exact HB.out | apply below_alloc | apply pw_below_drewN | apply below_drew1 | refine below_set ?_ GE108.out) | exact HB.out)⟩⟩
                                                  · rw [if_neg c102] at H
                                                    exact absurd H (by simp)
                                                · rw [if_neg c101] at H
                                                  exact absurd H (by simp)
                                              · rw [if_neg c100] at H
                                                exact absurd H (by simp)
                                            · rw [if_neg c98] at H
                                              have c98b0 : (((rd_T119 l0 x20_1).f3) == (rd x4_1 (ji95))) = false := beq_eq_false_iff_ne.mpr c98
                                              have c98b1 : (((rd_T119 l0 x20_1).f3) != (rd x4_1 (ji95))) = true := bne_iff_ne.mpr c98
                                              obtain rfl := Option.some.inj H
                                              obtain ⟨Ao107, co107, eo107⟩ := Kd.R_slice HO_4.out
                                              subst eo107
                                              have hcz108_0 : wc.cell? ⟨gb108, 0, none⟩ = some (.int .i64 ((rd_T119 l0 x20_1).f0)) := (blk_cell BK108.out 0).trans rfl
                                              have hcz108_1 : wc.cell? ⟨gb108, 1, none⟩ = some (.string ((rd_T119 l0 x20_1).f1)) := (blk_cell BK108.out 1).trans rfl
                                              have hcz108_2 : wc.cell? ⟨gb108, 2, none⟩ = some (.int .i64 ((rd_T119 l0 x20_1).f2)) := (blk_cell BK108.out 2).trans rfl
                                              have hcz108_3 : wc.cell? ⟨gb108, 3, none⟩ = some (.int .i64 ((rd_T119 l0 x20_1).f3)) := (blk_cell BK108.out 3).trans rfl
                                              have hfz108_0 := blk_frozen BK108.out 0
                                              have hfz108_1 := blk_frozen BK108.out 1
                                              have hfz108_2 := blk_frozen BK108.out 2
                                              have hfz108_3 := blk_frozen BK108.out 3
                                              have p127 : 0 ≤ ((ji91) : Int) := of_decide_eq_true (by first | (with_reducible assumption) | assumption)
                                              have q127 : (ji91) < (x4_1.length : Int) := of_decide_eq_true (by first | (with_reducible assumption) | assumption)
                                              obtain ⟨ad127, e127, hx127_0⟩ := Kd.at_int (Kd.R_reads' HO_4.out).2.2 (ji91) p127 q127
                                              cases e127
                                              replace p127 := eq_true p127
                                              replace q127 := eq_true q127
                                              have p128 : 0 ≤ ((ji95) : Int) := of_decide_eq_true (by first | (with_reducible assumption) | assumption)
                                              have q128 : (ji95) < (x4_1.length : Int) := of_decide_eq_true (by first | (with_reducible assumption) | assumption)
                                              obtain ⟨ad128, e128, hx128_0⟩ := Kd.at_int (Kd.R_reads' HO_4.out).2.2 (ji95) p128 q128
                                              obtain rfl : ad127 = ad128 := (by injection e128)
                                              replace p128 := eq_true p128
                                              replace q128 := eq_true q128
                                              go_wp2
                                              repeat (go_quiet (fail); try go_wp2)
                                              go_ret
                                              exact ⟨by first | rfl | (simp [errW_none, errW_some] <;> rfl) | (simp only [← hji91, ← hji95]; first | rfl | (simp [errW_none, errW_some] <;> rfl)) | (simp [*, errW_none, errW_some] <;> rfl), by repeat (first | (with_reducible first | exact HB.out | apply below_alloc | apply pw_below_drewN | apply below_drew1 | refine below_set ?_ GE108.out) | exact HB.out)⟩
                                          · rw [if_neg c97] at H
                                            exact absurd H (by simp)
                                        · rw [if_neg c96] at H
                                          exact absurd H (by simp)
                                      · rw [if_neg c94] at H
                                        have c94b0 : (((rd_T119 l0 x20_1).f2) == (rd x4_1 (ji91))) = false := beq_eq_false_iff_ne.mpr c94
                                        have c94b1 : (((rd_T119 l0 x20_1).f2) != (rd x4_1 (ji91))) = true := bne_iff_ne.mpr c94
                                        obtain rfl := Option.some.inj H
                                        obtain ⟨Ao109, co109, eo109⟩ := Kd.R_slice HO_4.out
                                        subst eo109
                                        have hcz110_0 : wc.cell? ⟨gb108, 0, none⟩ = some (.int .i64 ((rd_T119 l0 x20_1).f0)) := (blk_cell BK108.out 0).trans rfl
                                        have hcz110_1 : wc.cell? ⟨gb108, 1, none⟩ = some (.string ((rd_T119 l0 x20_1).f1)) := (blk_cell BK108.out 1).trans rfl
                                        have hcz110_2 : wc.cell? ⟨gb108, 2, none⟩ = some (.int .i64 ((rd_T119 l0 x20_1).f2)) := (blk_cell BK108.out 2).trans rfl
                                        have hcz110_3 : wc.cell? ⟨gb108, 3, none⟩ = some (.int .i64 ((rd_T119 l0 x20_1).f3)) := (blk_cell BK108.out 3).trans rfl
                                        have hfz110_0 := blk_frozen BK108.out 0
                                        have hfz110_1 := blk_frozen BK108.out 1
                                        have hfz110_2 := blk_frozen BK108.out 2
                                        have hfz110_3 := blk_frozen BK108.out 3
                                        have p127 : 0 ≤ ((ji91) : Int) := of_decide_eq_true (by first | (with_reducible assumption) | assumption)
                                        have q127 : (ji91) < (x4_1.length : Int) := of_decide_eq_true (by first | (with_reducible assumption) | assumption)
                                        obtain ⟨ad127, e127, hx127_0⟩ := Kd.at_int (Kd.R_reads' HO_4.out).2.2 (ji91) p127 q127
                                        cases e127
                                        replace p127 := eq_true p127
                                        replace q127 := eq_true q127
                                        go_wp2
                                        repeat (go_quiet (fail); try go_wp2)
                                        go_ret
                                        exact ⟨by first | rfl | (simp [errW_none, errW_some] <;> rfl) | (simp only [← hji91]; first | rfl | (simp [errW_none, errW_some] <;> rfl)) | (simp [*, errW_none, errW_some] <;> rfl), by repeat (first | (with_reducible first | exact HB.out | apply below_alloc | apply pw_below_drewN | apply below_drew1 | refine below_set ?_ GE108.out) | exact HB.out)⟩
                                    · rw [if_neg c93] at H
                                      exact absurd H (by simp)
                                  · rw [if_neg c92] at H
                                    exact absurd H (by simp)
                                · rw [if_neg c90] at H
                                  have c90b0 : (t109 == 2) = false := beq_eq_false_iff_ne.mpr c90
                                  have c90b1 : (t109 != 2) = true := bne_iff_ne.mpr c90
                                  obtain ⟨ji111, hji111⟩ : ∃ j_ : Int, (wrap64 ((x4_1.length : Int) - t109)) = j_ := ⟨_, rfl⟩
                                  replace H : (if 0 ≤ (ji111) then (if (ji111) ≤ (x4_1.length : Int) then ((some (x4_1.take ((ji111) : Int).toNat : List Int)).bind fun y135 => (if y135.length < 17592186044416 then (interlock_condition.l0 kj18 (y135 ++ [x20_1]) l0 (l0.length : Int) (wrap64 (x20_1 + 1))) else (none))) else (none)) else (none)) = some r := by first | (rw [hji111] at H; exact H) | (simp only [hji111] at H ⊢; exact H)
                                  have hji111w : (IntKind.i64.wrap ((x4_1.length : Int) - t109)) = ji111 := (i64_w _).trans hji111
                                  by_cases c112 : 0 ≤ (ji111)
                                  · rw [if_pos c112] at H
                                    have c112b0 := eq_true c112
                                    have c112b1 : decide (0 ≤ (ji111)) = true := decide_eq_true c112
                                    clear c112
                                    by_cases c113 : (ji111) ≤ (x4_1.length : Int)
                                    · rw [if_pos c113] at H
                                      have c113b0 := eq_true c113
                                      have c113b1 : decide ((ji111) ≤ (x4_1.length : Int)) = true := decide_eq_true c113
                                      clear c113
                                      obtain ⟨y135, hy135⟩ : ∃ y_ : List Int, y_ = (x4_1.take ((ji111) : Int).toNat) := ⟨_, rfl⟩
                                      replace H : (if y135.length < 17592186044416 then (interlock_condition.l0 kj18 (y135 ++ [x20_1]) l0 (l0.length : Int) (wrap64 (x20_1 + 1))) else (none)) = some r := by first | (rw [hy135]; with_reducible exact H) | (have H2_ := (Option.bind_some _ _).symm.trans H; rw [hy135]; with_reducible exact H2_) | (have H2_ := (Option.bind_some _ _).symm.trans H; with_reducible exact H2_) | with_reducible exact H | (rw [hy135]; exact H) | exact H
                                      have Ny135 := Aside0.mk hy135
                                      clear hy135
                                      by_cases c114 : y135.length < 17592186044416
                                      · rw [if_pos c114] at H
                                        have LMc114 := Aside0.mk c114
                                        clear c114
                                        obtain ⟨y138, hy138⟩ : ∃ y_ : List Int, y_ = (y135 ++ [x20_1]) := ⟨_, rfl⟩
                                        replace H : (interlock_condition.l0 kj18 y138 l0 (l0.length : Int) (wrap64 (x20_1 + 1))) = some r := by first | (rw [hy138]; with_reducible exact H) | (have H2_ := (Option.bind_some _ _).symm.trans H; rw [hy138]; with_reducible exact H2_) | (have H2_ := (Option.bind_some _ _).symm.trans H; with_reducible exact H2_) | with_reducible exact H | (rw [hy138]; exact H) | exact H
                                        have Ny138 := Aside0.mk hy138
                                        clear hy138
                                        have H' := Aside0.mk H
                                        clear H
                                        obtain ⟨Ao115, co115, eo115⟩ := Kd.R_slice HO_4.out
                                        subst eo115
                                        have q116 : ((ji111) : Int) ≤ ((x4_1.length : Int) : Int) := of_decide_eq_true (by first | (with_reducible assumption) | assumption)
                                        obtain ⟨i0116, hi0116, _, hsz116, _⟩ := info_parts info3
                                        have hcut116 := cut_to (P := Try.prog) 26 3 .i64 Try.underlying26 hi0116 Ao115 x4_1.length co115 (ji111) (of_decide_eq_true (by first | (with_reducible assumption) | assumption)) q116 (Kd.R_reads' HO_4.out).2.1
                                        have hr116 := Kd.R_take (m := ((ji111) : Int).toNat) HO_4.out (by omega)
                                        have hy116 : y135.length = ((ji111) : Int).toNat := (by rw [Ny135.out, List.length_take]; omega)
                                        rw [← Ny135.out] at hr116
                                        rw [← hy116] at hr116 hcut116
                                        clear hy116 hi0116 hsz116 HO_4
                                        have HO137 := Aside0.mk hr116
                                        clear hr116
                                        replace q116 := eq_true q116
                                        go_wp2_with (first | ((with_reducible refine gate_builtin (b := .append) (xs := #[.tmp 116, .tmp 118]) rfl ?_); (try (refine gate_guard (by rfl) ?_; dsimp only)); at_builtin; refine Kd.R_append (Kd.int .i64) (w0 := w) w.heap.size rfl (.tmp 116) (.tmp 118) 26 3 (.int .i64 0) 8 rfl Try.underlying26 info3 rfl (by decide) (by omega) (.slice Ao115 y135.length co115) y135 x20_1 [.int .i64 x20_1] (fun _ => True) (fun _ => False) rfl rfl ?aP (fun _ hk => hk.elim) ?aF ?aO ?aB ?aS ?aL ?_; (case aP => exact rfl); (case aB => exact (by repeat (first | (with_reducible first | exact HB.out | apply below_alloc | apply pw_below_drewN | apply below_drew1 | refine below_set ?_ GE108.out) | exact HB.out))); (case aF => exact (fun _ _ => trivial)); (case aO => exact (by (with_reducible repeat (first | apply Kd.R_alloc | apply Kd.R_drewN | apply Kd.R_drew)); exact HO137.out)); (case aS => exact (below_size (by repeat (first | (with_reducible first | exact HB.out | apply below_alloc | apply pw_below_drewN | apply below_drew1 | refine below_set ?_ GE108.out) | exact HB.out)))); (case aL => have := LMc114.out; omega); intro v139 w117 ho hb hg hat; rw [← Ny138.out] at ho; have n0_ := Aside0.mk (blk_grown (g := gb108) (o := .cells #[.int .i64 ((rd_T119 l0 x20_1).f0), .string ((rd_T119 l0 x20_1).f1), .int .i64 ((rd_T119 l0 x20_1).f2), .int .i64 ((rd_T119 l0 x20_1).f3)] 119 (0, 0)) (by (with_reducible repeat (first | refine blk_drewN ?_ _ | refine blk_drew ?_ | refine blk_alloc ?_ _)); exact BK108.out) hg (Kd.R_ne HO137.out BK108.out (by decide))); have n1_ := Aside0.mk (hb); have n2_ := Aside0.mk (ho); clear BK108; clear HB; clear HO137; have BK108 := n0_; have HB := n1_; have HO140 := n2_; clear n0_ n1_ n2_; clear ho hb hg hat))
                                        repeat (go_quiet (first | ((with_reducible refine gate_builtin (b := .append) (xs := #[.tmp 116, .tmp 118]) rfl ?_); (try (refine gate_guard (by rfl) ?_; dsimp only)); at_builtin; refine Kd.R_append (Kd.int .i64) (w0 := w) w.heap.size rfl (.tmp 116) (.tmp 118) 26 3 (.int .i64 0) 8 rfl Try.underlying26 info3 rfl (by decide) (by omega) (.slice Ao115 y135.length co115) y135 x20_1 [.int .i64 x20_1] (fun _ => True) (fun _ => False) rfl rfl ?aP (fun _ hk => hk.elim) ?aF ?aO ?aB ?aS ?aL ?_; (case aP => exact rfl); (case aB => exact (by repeat (first | (with_reducible first | exact HB.out | apply below_alloc | apply pw_below_drewN | apply below_drew1 | refine below_set ?_ GE108.out) | exact HB.out))); (case aF => exact (fun _ _ => trivial)); (case aO => exact (by (with_reducible repeat (first | apply Kd.R_alloc | apply Kd.R_drewN | apply Kd.R_drew)); exact HO137.out)); (case aS => exact (below_size (by repeat (first | (with_reducible first | exact HB.out | apply below_alloc | apply pw_below_drewN | apply below_drew1 | refine below_set ?_ GE108.out) | exact HB.out)))); (case aL => have := LMc114.out; omega); intro v139 w117 ho hb hg hat; rw [← Ny138.out] at ho; have n0_ := Aside0.mk (blk_grown (g := gb108) (o := .cells #[.int .i64 ((rd_T119 l0 x20_1).f0), .string ((rd_T119 l0 x20_1).f1), .int .i64 ((rd_T119 l0 x20_1).f2), .int .i64 ((rd_T119 l0 x20_1).f3)] 119 (0, 0)) (by (with_reducible repeat (first | refine blk_drewN ?_ _ | refine blk_drew ?_ | refine blk_alloc ?_ _)); exact BK108.out) hg (Kd.R_ne HO137.out BK108.out (by decide))); have n1_ := Aside0.mk (hb); have n2_ := Aside0.mk (ho); clear BK108; clear HB; clear HO137; have BK108 := n0_; have HB := n1_; have HO140 := n2_; clear n0_ n1_ n2_; clear ho hb hg hat)); try go_wp2_with (first | ((with_reducible refine gate_builtin (b := .append) (xs := #[.tmp 116, .tmp 118]) rfl ?_); (try (refine gate_guard (by rfl) ?_; dsimp only)); at_builtin; refine Kd.R_append (Kd.int .i64) (w0 := w) w.heap.size rfl (.tmp 116) (.tmp 118) 26 3 (.int .i64 0) 8 rfl Try.underlying26 info3 rfl (by decide) (by omega) (.slice Ao115 y135.length co115) y135 x20_1 [.int .i64 x20_1] (fun _ => True) (fun _ => False) rfl rfl ?aP (fun _ hk => hk.elim) ?aF ?aO ?aB ?aS ?aL ?_; (case aP => exact rfl); (case aB => exact (by repeat (first | (with_reducible first | exact HB.out | apply below_alloc | apply pw_below_drewN | apply below_drew1 | refine below_set ?_ GE108.out) | exact HB.out))); (case aF => exact (fun _ _ => trivial)); (case aO => exact (by (with_reducible repeat (first | apply Kd.R_alloc | apply Kd.R_drewN | apply Kd.R_drew)); exact HO137.out)); (case aS => exact (below_size (by repeat (first | (with_reducible first | exact HB.out | apply below_alloc | apply pw_below_drewN | apply below_drew1 | refine below_set ?_ GE108.out) | exact HB.out)))); (case aL => have := LMc114.out; omega); intro v139 w117 ho hb hg hat; rw [← Ny138.out] at ho; have n0_ := Aside0.mk (blk_grown (g := gb108) (o := .cells #[.int .i64 ((rd_T119 l0 x20_1).f0), .string ((rd_T119 l0 x20_1).f1), .int .i64 ((rd_T119 l0 x20_1).f2), .int .i64 ((rd_T119 l0 x20_1).f3)] 119 (0, 0)) (by (with_reducible repeat (first | refine blk_drewN ?_ _ | refine blk_drew ?_ | refine blk_alloc ?_ _)); exact BK108.out) hg (Kd.R_ne HO137.out BK108.out (by decide))); have n1_ := Aside0.mk (hb); have n2_ := Aside0.mk (ho); clear BK108; clear HB; clear HO137; have BK108 := n0_; have HB := n1_; have HO140 := n2_; clear n0_ n1_ n2_; clear ho hb hg hat)))
                                        go_roundg kj18
                                        case measure => have := HK1.out; have := HJ10.out; have := HJ18.out; omega
                                        case rel => exact ⟨(y138), (wrap64 (x20_1 + 1)), (by first | rfl | (simp; done) | (simp [*]; done)), H', ⟨by have := HK1.out; have := HJ10.out; have := HJ18.out; omega⟩, ⟨by (with_reducible repeat (first | apply Kd.R_alloc | apply Kd.R_drewN | apply Kd.R_drew)); exact HO140.out⟩, ⟨by repeat (first | (with_reducible first | exact HB.out | apply below_alloc | apply pw_below_drewN | apply below_drew1 | refine below_set ?_ GE108.out) | exact HB.out)⟩⟩
                                      · rw [if_neg c114] at H
                                        exact absurd H (by simp)
                                    · rw [if_neg c113] at H
                                      exact absurd H (by simp)
                                  · rw [if_neg c112] at H
                                    exact absurd H (by simp)
              · rw [if_neg c6] at H
                exact absurd H (by simp)
            · rw [if_neg c5] at H
              exact absurd H (by simp)
          · rw [if_neg c4] at H
            have c4b0 : decide (x20_1 < (l0.length : Int)) = false := decide_eq_false c4
            clear c4
            by_cases c118 : (x4_1.length : Int) = 1
            · rw [if_pos c118] at H
              have c118b0 : ((x4_1.length : Int) == 1) = true := beq_iff_eq.mpr c118
              have c118b1 : ((x4_1.length : Int) != 1) = false := bne_eq_false_iff_eq.mpr c118
              clear c118
              obtain rfl := Option.some.inj H
              obtain ⟨Ao119, co119, eo119⟩ := Kd.R_slice HO_4.out
              subst eo119
              go_wp2
              repeat (go_quiet (fail); try go_wp2)
              go_ret
              exact ⟨by first | rfl | (simp [errW_none, errW_some] <;> rfl) | (simp [*, errW_none, errW_some] <;> rfl), by repeat (first | (with_reducible first | exact HB.out | apply below_alloc | apply pw_below_drewN | apply below_drew1) | exact HB.out)⟩
            · rw [if_neg c118] at H
              have c118b0 : ((x4_1.length : Int) == 1) = false := beq_eq_false_iff_ne.mpr c118
              have c118b1 : ((x4_1.length : Int) != 1) = true := bne_iff_ne.mpr c118
              obtain rfl := Option.some.inj H
              obtain ⟨Ao120, co120, eo120⟩ := Kd.R_slice HO_4.out
              subst eo120
              go_wp2
              repeat (go_quiet (fail); try go_wp2)
              go_ret
              exact ⟨by first | rfl | (simp [errW_none, errW_some] <;> rfl) | (simp [*, errW_none, errW_some] <;> rfl), by repeat (first | (with_reducible first | exact HB.out | apply below_alloc | apply pw_below_drewN | apply below_drew1) | exact HB.out)⟩

end Go.Proofs.Ytielinaielicbaa.PInterlockSays
