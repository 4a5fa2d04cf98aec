/- Contracts of functions that InterlockSays reaches, a text of this session's own. -/
import Derived.Test.YtielinaielicbaaHInterlockSaysy0
import Derived.Test.YtielinaielicbaaHInterlockSaysy3
namespace Go.Proofs.Ytielinaielicbaa.PInterlockSays
open Go.RowKit Go.Proofs.YtielinaielicbaaW.PrintWords Go.Proofs.YtielinaielicbaaW.PrintLast Go.Proofs.YtielinaielicbaaW.PrintMore
attribute [local go_sem] max2_int min2_int max_two min_two max_three min_three max_four min_four   -- for this text's walks alone
set_option linter.unusedVariables false
set_option linter.unusedSimpArgs false

/-! ### interlock_holds: function 77 -/
mutual
def interlock_holds.l0 : Nat → List (S119) → List (S63) → List Bool → List (S119) → Int → Int → Option (Bool)
  | 0, _, _, _, _, _, _ => none
  | k + 1, x0, x1, x5, x12, x13, x14 => if x14 < x13 then (if 0 ≤ x14 then (if x14 < (x12.length : Int) then (if ((rd_T119 x12 x14).f0) = 2 then (interlock_holds.j1 k x0 x1 x5 x14 (-1) x12 x13 x14 true ((rd_T119 x12 x14).f0) ((rd_T119 x12 x14).f1) ((rd_T119 x12 x14).f2) ((rd_T119 x12 x14).f3)) else (interlock_holds.j1 k x0 x1 x5 x14 (-1) x12 x13 x14 (((rd_T119 x12 x14).f0) == 3) ((rd_T119 x12 x14).f0) ((rd_T119 x12 x14).f1) ((rd_T119 x12 x14).f2) ((rd_T119 x12 x14).f3))) else (none)) else (none)) else (if 0 ≤ (wrap64 ((x0.length : Int) - 1)) then (if (wrap64 ((x0.length : Int) - 1)) < (x5.length : Int) then (some (rdOf false x5 (wrap64 ((x0.length : Int) - 1)))) else (none)) else (none))
def interlock_holds.j1 : Nat → List (S119) → List (S63) → List Bool → Int → Int → List (S119) → Int → Int → Bool → Int → ByteArray → Int → Int → Option (Bool)
  | 0, _, _, _, _, _, _, _, _, _, _, _, _, _ => none
  | k + 1, x0, x1, x5, x6, x8, x12, x13, x14, x26, x170000, x170001, x170002, x170003 => if x26 = true then ((interlock_find.f k x1 x170001).bind fun t170 => (interlock_holds.j2 k x0 x1 x5 x6 t170 x12 x13 x14 x170000 x170001 x170002 x170003)) else (interlock_holds.j2 k x0 x1 x5 x6 x8 x12 x13 x14 x170000 x170001 x170002 x170003)
def interlock_holds.j2 : Nat → List (S119) → List (S63) → List Bool → Int → Int → List (S119) → Int → Int → Int → ByteArray → Int → Int → Option (Bool)
  | 0, _, _, _, _, _, _, _, _, _, _, _, _ => none
  | k + 1, x0, x1, x5, x6, x8, x12, x13, x14, x170000, x170001, x170002, x170003 => if x170000 = 0 then (if 0 ≤ x6 then (if x6 < (x5.length : Int) then (interlock_holds.l0 k x0 x1 (x5.set (x6 : Int).toNat true) x12 x13 (wrap64 (x14 + 1))) else (none)) else (none)) else (if x170000 = 2 then (if x8 ≥ 0 then (if 0 ≤ x8 then (if x8 < (x1.length : Int) then (if 0 ≤ x6 then (if x6 < (x5.length : Int) then (interlock_holds.l0 k x0 x1 (x5.set (x6 : Int).toNat (!((rd_T63 x1 x8).f1))) x12 x13 (wrap64 (x14 + 1))) else (none)) else (none)) else (none)) else (none)) else (if 0 ≤ x6 then (if x6 < (x5.length : Int) then (interlock_holds.l0 k x0 x1 (x5.set (x6 : Int).toNat false) x12 x13 (wrap64 (x14 + 1))) else (none)) else (none))) else (if x170000 = 3 then (if x8 ≥ 0 then (if 0 ≤ x8 then (if x8 < (x1.length : Int) then (if 0 ≤ x6 then (if x6 < (x5.length : Int) then (interlock_holds.l0 k x0 x1 (x5.set (x6 : Int).toNat ((rd_T63 x1 x8).f1)) x12 x13 (wrap64 (x14 + 1))) else (none)) else (none)) else (none)) else (none)) else (if 0 ≤ x6 then (if x6 < (x5.length : Int) then (interlock_holds.l0 k x0 x1 (x5.set (x6 : Int).toNat false) x12 x13 (wrap64 (x14 + 1))) else (none)) else (none))) else (if x170000 = 4 then (if 0 ≤ x170002 then (if x170002 < (x5.length : Int) then (if 0 ≤ x6 then (if x6 < (x5.length : Int) then (interlock_holds.l0 k x0 x1 (x5.set (x6 : Int).toNat (!(rdOf false x5 x170002))) x12 x13 (wrap64 (x14 + 1))) else (none)) else (none)) else (none)) else (none)) else (if x170000 = 5 then (if 0 ≤ x170002 then (if x170002 < (x5.length : Int) then (if rdOf false x5 x170002 = true then (if 0 ≤ x170003 then (if x170003 < (x5.length : Int) then (if 0 ≤ x6 then (if x6 < (x5.length : Int) then (interlock_holds.l0 k x0 x1 (x5.set (x6 : Int).toNat (rdOf false x5 x170003)) x12 x13 (wrap64 (x14 + 1))) else (none)) else (none)) else (none)) else (none)) else (if 0 ≤ x6 then (if x6 < (x5.length : Int) then (interlock_holds.l0 k x0 x1 (x5.set (x6 : Int).toNat false) x12 x13 (wrap64 (x14 + 1))) else (none)) else (none))) else (none)) else (none)) else (if x170000 = 6 then (if 0 ≤ x170002 then (if x170002 < (x5.length : Int) then (if rdOf false x5 x170002 = true then (if 0 ≤ x6 then (if x6 < (x5.length : Int) then (interlock_holds.l0 k x0 x1 (x5.set (x6 : Int).toNat true) x12 x13 (wrap64 (x14 + 1))) else (none)) else (none)) else (if 0 ≤ x170003 then (if x170003 < (x5.length : Int) then (if 0 ≤ x6 then (if x6 < (x5.length : Int) then (interlock_holds.l0 k x0 x1 (x5.set (x6 : Int).toNat (rdOf false x5 x170003)) x12 x13 (wrap64 (x14 + 1))) else (none)) else (none)) else (none)) else (none))) else (none)) else (none)) else (interlock_holds.l0 k x0 x1 x5 x12 x13 (wrap64 (x14 + 1))))))))
end
def interlock_holds.f (k : Nat) (l0 : List (S119)) (l1 : List (S63)) : Option (Bool) := if 0 ≤ (l0.length : Int) then (if ((l0.length : Int) : Int).toNat ≤ 281474976710656 then (interlock_holds.l0 k l0 l1 (List.replicate ((l0.length : Int) : Int).toNat false) l0 (l0.length : Int) 0) else (none)) else (none)
theorem interlock_holds.mono_l : ∀ k, (∀ y0 y1 y2 y3 y4 y5, LeO (interlock_holds.l0 k y0 y1 y2 y3 y4 y5) (interlock_holds.l0 (k + 1) y0 y1 y2 y3 y4 y5)) ∧ (∀ y0 y1 y2 y3 y4 y5 y6 y7 y8 y9 y10 y11 y12, LeO (interlock_holds.j1 k y0 y1 y2 y3 y4 y5 y6 y7 y8 y9 y10 y11 y12) (interlock_holds.j1 (k + 1) y0 y1 y2 y3 y4 y5 y6 y7 y8 y9 y10 y11 y12)) ∧ (∀ y0 y1 y2 y3 y4 y5 y6 y7 y8 y9 y10 y11, LeO (interlock_holds.j2 k y0 y1 y2 y3 y4 y5 y6 y7 y8 y9 y10 y11) (interlock_holds.j2 (k + 1) y0 y1 y2 y3 y4 y5 y6 y7 y8 y9 y10 y11))
  | 0 => ⟨fun _ _ _ _ _ _ r h => by simp [interlock_holds.l0] at h, fun _ _ _ _ _ _ _ _ _ _ _ _ _ r h => by simp [interlock_holds.j1] at h, fun _ _ _ _ _ _ _ _ _ _ _ _ r h => by simp [interlock_holds.j2] at h⟩
  | k + 1 => by
    obtain ⟨ih0, ih1, ih2⟩ := interlock_holds.mono_l k
    refine ⟨?_, ?_, ?_⟩
    · intro y0 y1 y2 y3 y4 y5
      unfold interlock_holds.l0
      repeat' first
      | (with_reducible exact ih0 _ _ _ _ _ _)
      | (with_reducible exact ih1 _ _ _ _ _ _ _ _ _ _ _ _ _)
      | (with_reducible exact ih2 _ _ _ _ _ _ _ _ _ _ _ _)
      | (with_reducible exact interlock_find.mono _ _ _)
      | (with_reducible exact LeO.refl _)
      | (with_reducible exact LeO.none _)
      | (with_reducible refine LeO.ite ?_ ?_)
      | (with_reducible refine LeO.bind ?_ (fun _ => ?_))
      | exact ih0 _ _ _ _ _ _
      | exact ih1 _ _ _ _ _ _ _ _ _ _ _ _ _
      | exact ih2 _ _ _ _ _ _ _ _ _ _ _ _
      | exact interlock_find.mono _ _ _
      | exact LeO.none _
      | refine LeO.ite ?_ ?_
      | refine LeO.bind ?_ (fun _ => ?_)
    · intro y0 y1 y2 y3 y4 y5 y6 y7 y8 y9 y10 y11 y12
      unfold interlock_holds.j1
      repeat' first
      | (with_reducible exact ih0 _ _ _ _ _ _)
      | (with_reducible exact ih1 _ _ _ _ _ _ _ _ _ _ _ _ _)
      | (with_reducible exact ih2 _ _ _ _ _ _ _ _ _ _ _ _)
      | (with_reducible exact interlock_find.mono _ _ _)
      | (with_reducible exact LeO.refl _)
      | (with_reducible exact LeO.none _)
      | (with_reducible refine LeO.ite ?_ ?_)
      | (with_reducible refine LeO.bind ?_ (fun _ => ?_))
      | exact ih0 _ _ _ _ _ _
      | exact ih1 _ _ _ _ _ _ _ _ _ _ _ _ _
      | exact ih2 _ _ _ _ _ _ _ _ _ _ _ _
      | exact interlock_find.mono _ _ _
      | exact LeO.none _
      | refine LeO.ite ?_ ?_
      | refine LeO.bind ?_ (fun _ => ?_)
    · intro y0 y1 y2 y3 y4 y5 y6 y7 y8 y9 y10 y11
      unfold interlock_holds.j2
      repeat' first
      | (with_reducible exact ih0 _ _ _ _ _ _)
      | (with_reducible exact ih1 _ _ _ _ _ _ _ _ _ _ _ _ _)
      | (with_reducible exact ih2 _ _ _ _ _ _ _ _ _ _ _ _)
      | (with_reducible exact interlock_find.mono _ _ _)
      | (with_reducible exact LeO.refl _)
      | (with_reducible exact LeO.none _)
      | (with_reducible refine LeO.ite ?_ ?_)
      | (with_reducible refine LeO.bind ?_ (fun _ => ?_))
      | exact ih0 _ _ _ _ _ _
      | exact ih1 _ _ _ _ _ _ _ _ _ _ _ _ _
      | exact ih2 _ _ _ _ _ _ _ _ _ _ _ _
      | exact interlock_find.mono _ _ _
      | exact LeO.none _
      | refine LeO.ite ?_ ?_
      | refine LeO.bind ?_ (fun _ => ?_)
theorem interlock_holds.mono : ∀ a0 a1 k, LeO (interlock_holds.f k a0 a1) (interlock_holds.f (k + 1) a0 a1) := by
  intro a0 a1 k
  obtain ⟨ih0, ih1, ih2⟩ := interlock_holds.mono_l k
  unfold interlock_holds.f
  repeat' first
      | (with_reducible exact ih0 _ _ _ _ _ _)
      | (with_reducible exact ih1 _ _ _ _ _ _ _ _ _ _ _ _ _)
      | (with_reducible exact ih2 _ _ _ _ _ _ _ _ _ _ _ _)
      | (with_reducible exact interlock_find.mono _ _ _)
      | (with_reducible exact LeO.refl _)
      | (with_reducible exact LeO.none _)
      | (with_reducible refine LeO.ite ?_ ?_)
      | (with_reducible refine LeO.bind ?_ (fun _ => ?_))
      | exact ih0 _ _ _ _ _ _
      | exact ih1 _ _ _ _ _ _ _ _ _ _ _ _ _
      | exact ih2 _ _ _ _ _ _ _ _ _ _ _ _
      | exact interlock_find.mono _ _ _
      | exact LeO.none _
      | refine LeO.ite ?_ ?_
      | refine LeO.bind ?_ (fun _ => ?_)
set_option maxHeartbeats 8000000 in
set_option maxRecDepth 100000 in
theorem interlock_holds.calls (k : Nat) (A0 : Option Addr) (c0 : Nat) (l0 : List (S119)) (A1 : Option Addr) (c1 : Nat) (l1 : List (S63)) (r : Bool) (w : World) (hr0 : Kd.C k119 w A0 l0.length l0) (hc0 : l0.length ≤ c0) (hr1 : Kd.C k63 w A1 l1.length l1) (hc1 : l1.length ≤ c1) (h : interlock_holds.f k l0 l1 = some r) :
    Calls Try.prog 77 #[.slice A0 l0.length c0, .slice A1 l1.length c1] w fun e w' => e = .returned (.bool r) ∧ Below w.heap.size w w' := by
  have hu119 := Try.underlying119
  have HR0 := Aside0.mk hr0
  have HC0 := Aside0.mk hc0
  clear hr0 hc0
  have HR1 := Aside0.mk hr1
  have HC1 := Aside0.mk hc1
  clear hr1 hc1
  have HB := Aside0.mk (Below.refl w.heap.size w)
  have H : (if 0 ≤ (l0.length : Int) then (if ((l0.length : Int) : Int).toNat ≤ 281474976710656 then (interlock_holds.l0 k l0 l1 (List.replicate ((l0.length : Int) : Int).toNat false) l0 (l0.length : Int) 0) else (none)) else (none)) = some r := h
  clear h
  by_cases c3 : 0 ≤ (l0.length : Int)
  · rw [if_pos c3] at H
    have c3b0 := eq_true c3
    have c3b1 : decide (0 ≤ (l0.length : Int)) = true := decide_eq_true c3
    clear c3
    by_cases c4 : ((l0.length : Int) : Int).toNat ≤ 281474976710656
    · rw [if_pos c4] at H
      have c4b0 := eq_true c4
      have c4b1 : decide (((l0.length : Int) : Int).toNat ≤ 281474976710656) = true := decide_eq_true c4
      clear c4
      obtain ⟨y164, hy164⟩ : ∃ y_ : List Bool, y_ = (List.replicate ((l0.length : Int) : Int).toNat false) := ⟨_, rfl⟩
      replace H : (interlock_holds.l0 k l0 l1 y164 l0 (l0.length : Int) 0) = some r := by first | (rw [hy164]; with_reducible exact H) | (have H2_ := (Option.bind_some _ _).symm.trans H; rw [hy164]; with_reducible exact H2_) | (have H2_ := (Option.bind_some _ _).symm.trans H; with_reducible exact H2_) | with_reducible exact H | (rw [hy164]; exact H) | exact H
      have Ny164 := Aside0.mk hy164
      clear hy164
      have H' := Aside0.mk H
      clear H
      go_enter Try.func77, Try.ntmps77
      go_wp2_with (first | ((with_reducible refine gate_dst (N := 11) rfl ?_); refine Kd.R_make Kd.bool _ 4 rfl (N := 11) rfl 112 _ _ rfl (l0.length : Int) rfl rfl Try.underlying112 (.bool false) 1 info4 rfl (by decide) (by omega) false (ok := fun _ => True) (okp := fun _ => True) rfl (fun _ hk => hk) trivial (of_decide_eq_true (by first | (with_reducible assumption) | assumption)) (Nat.le_trans (Nat.mul_le_mul_right _ (of_decide_eq_true (by first | (with_reducible assumption) | assumption) : (l0.length : Int).toNat ≤ 281474976710656)) (by omega)) (Below.refl _ _) (Nat.le_refl _) ?_; intro v165 w5 ho6 hb hg_ hnew_; clear hg_ hnew_; (first | rw [← Ny164.out] at ho6 | (simp only [Int.reduceToNat] at ho6; rw [← Ny164.out] at ho6)); have n0_ := Aside0.mk (Kd.R_lower ho6 (below_size (by repeat (first | (with_reducible first | exact HB.out | apply below_alloc | apply pw_below_drewN | apply below_drew1) | exact HB.out)))); have n1_ := Aside0.mk (below_step (by repeat (first | (with_reducible first | exact HB.out | apply below_alloc | apply pw_below_drewN | apply below_drew1) | exact HB.out)) hb); clear HB; have HO166 := n0_; have HB := n1_; clear n0_ n1_; clear hb ho6))
      go_loopg [14] k (fun kq v14 w' => ∃ (x5_1 : List Bool) (x14_1 : Int), v14 = .int .i64 x14_1 ∧ Aside0 (interlock_holds.l0 kq l0 l1 x5_1 l0 (l0.length : Int) x14_1 = some r) ∧ Aside0 (kq ≤ k) ∧ Aside0 (Kd.R Kd.bool 4 w' w.heap.size (fun _ => True) v165 x5_1) ∧ Aside0 (Below w.heap.size w w'))
      case atStart => exact ⟨(y164), (0), (by first | rfl | (simp; done) | (simp [*]; done)), H', ⟨Nat.le_refl _⟩, ⟨by (with_reducible repeat (first | apply Kd.R_alloc | apply Kd.R_drewN | apply Kd.R_drew)); exact HO166.out⟩, ⟨by repeat (first | (with_reducible first | exact HB.out | apply below_alloc | apply pw_below_drewN | apply below_drew1) | exact HB.out)⟩⟩
      case round =>
        clear H'
        try clear c1
        try clear p2
        try clear c3
        try clear c3b0
        try clear c3b1
        try clear c4
        try clear c4b0
        try clear c4b1
        obtain ⟨x5_1, x14_1, rfl, HA, HK1, HO_5, HB⟩ := hrel
        cases gk with
        | zero => exact absurd HA.out (by simp [interlock_holds.l0])
        | succ k1 =>
          have H := HA.out
          clear HA
          simp only [interlock_holds.l0] at H
          by_cases c7 : x14_1 < (l0.length : Int)
          · rw [if_pos c7] at H
            have c7b0 : decide (x14_1 < (l0.length : Int)) = true := decide_eq_true c7
            clear c7
            by_cases c8 : 0 ≤ x14_1
            · rw [if_pos c8] at H
              have c8b0 : decide (0 ≤ x14_1) = true := decide_eq_true c8
              clear c8
              by_cases c9 : x14_1 < (l0.length : Int)
              · rw [if_pos c9] at H
                have c9b0 : decide (x14_1 < (l0.length : Int)) = true := decide_eq_true c9
                clear c9
                have HC10 := Aside0.mk H
                clear H
                have p168 : 0 ≤ (x14_1 : Int) := of_decide_eq_true (by first | (with_reducible assumption) | assumption)
                have q168 : x14_1 < (l0.length : Int) := of_decide_eq_true (by first | (with_reducible assumption) | assumption)
                obtain ⟨ad168, e168, hx168_0, hx168_1, hx168_2, hx168_3⟩ := at_T119 HR0.out x14_1 p168 q168
                cases e168
                replace hx168_0 := (HB.out.cell (World.block_lt_of_cell? w _ hx168_0)).trans hx168_0
                replace hx168_1 := (HB.out.cell (World.block_lt_of_cell? w _ hx168_1)).trans hx168_1
                replace hx168_2 := (HB.out.cell (World.block_lt_of_cell? w _ hx168_2)).trans hx168_2
                replace hx168_3 := (HB.out.cell (World.block_lt_of_cell? w _ hx168_3)).trans hx168_3
                replace p168 := eq_true p168
                replace q168 := eq_true q168
                go_upto_region 6 with (first | ((with_reducible refine gate_dst (N := 7) rfl ?_); refine box_event ?hg (N := 7) ?hd (cs := #[.int .i64 0, .string (⟨#[]⟩ : ByteArray), .int .i64 0, .int .i64 0]) (t := 119) ?hr ?_; (case hd => rfl); (case hg => rfl); (case hr => first | (go_simp; done) | (go_simp; rfl)); intro gb169 hg w11 hbox hb; have n0_ := Aside0.mk (Kd.R_below (by (with_reducible repeat (first | apply Kd.R_alloc | apply Kd.R_drewN | apply Kd.R_drew)); exact HO_5.out) hb); have n1_ := Aside0.mk (below_step (by repeat (first | (with_reducible first | exact HB.out | apply below_alloc | apply pw_below_drewN | apply below_drew1) | exact HB.out)) hb); have n2_ := Aside0.mk (hbox); have n3_ := Aside0.mk ((by rw [hg]; exact (below_size (by repeat (first | (with_reducible first | exact HB.out | apply below_alloc | apply pw_below_drewN | apply below_drew1) | exact HB.out))) : w.heap.size ≤ gb169)); have n4_ := Aside0.mk ((by rw [hg]; exact (below_size (by repeat (first | (with_reducible first | exact HB.out | apply below_alloc | apply pw_below_drewN | apply below_drew1) | exact HB.out))) : w.heap.size ≤ gb169)); clear HO_5; clear HB; have HO_5 := n0_; have HB := n1_; have BK169 := n2_; have GW169 := n3_; have GE169 := n4_; clear n0_ n1_ n2_ n3_ n4_; clear hb hbox hg; have hcz12_0 : w11.cell? ⟨gb169, 0, none⟩ = some (.int .i64 0) := (blk_cell BK169.out 0).trans rfl; have hcz12_1 : w11.cell? ⟨gb169, 1, none⟩ = some (.string (⟨#[]⟩ : ByteArray)) := (blk_cell BK169.out 1).trans rfl; have hcz12_2 : w11.cell? ⟨gb169, 2, none⟩ = some (.int .i64 0) := (blk_cell BK169.out 2).trans rfl; have hcz12_3 : w11.cell? ⟨gb169, 3, none⟩ = some (.int .i64 0) := (blk_cell BK169.out 3).trans rfl; have hfz12_0 := blk_frozen BK169.out 0; have hfz12_1 := blk_frozen BK169.out 1; have hfz12_2 := blk_frozen BK169.out 2; have hfz12_3 := blk_frozen BK169.out 3))
                (try simp only [Act.put, List.setIfInBounds_toArray, List.set_cons_zero, List.set_cons_succ])
                go_cut [26] (fun v26 wc => ∃ (kq : Nat) (x26_9 : Bool), v26 = .bool x26_9 ∧ Aside0 (interlock_holds.j1 kq l0 l1 x5_1 x14_1 (-1) l0 (l0.length : Int) x14_1 x26_9 ((rd_T119 l0 x14_1).f0) ((rd_T119 l0 x14_1).f1) ((rd_T119 l0 x14_1).f2) ((rd_T119 l0 x14_1).f3) = some r) ∧ Aside0 (kq ≤ k1) ∧ Aside0 (Kd.R Kd.bool 4 wc w.heap.size (fun _ => True) v165 x5_1) ∧ Aside0 (wc.heap[gb169]? = some (.cells #[.int .i64 ((rd_T119 l0 x14_1).f0), .string ((rd_T119 l0 x14_1).f1), .int .i64 ((rd_T119 l0 x14_1).f2), .int .i64 ((rd_T119 l0 x14_1).f3)] 119 (0, 0))) ∧ Aside0 (Below w.heap.size w wc))
                case first =>
                  have H := HC10.out
                  clear HC10
                  by_cases c13 : ((rd_T119 l0 x14_1).f0) = 2
                  · rw [if_pos c13] at H
                    have c13b0 : (((rd_T119 l0 x14_1).f0) == 2) = true := beq_iff_eq.mpr c13
                    have c13b1 : (((rd_T119 l0 x14_1).f0) != 2) = false := bne_eq_false_iff_eq.mpr c13
                    clear c13
                    (first | rw [c13b0] | (simp only [i64_w, i32_w]; rw [c13b0]) | skip)
                    have H' := Aside0.mk H
                    clear H
                    have hcz14_0 : w11.cell? ⟨gb169, 0, none⟩ = some (.int .i64 0) := (blk_cell BK169.out 0).trans rfl
                    have hcz14_1 : w11.cell? ⟨gb169, 1, none⟩ = some (.string (⟨#[]⟩ : ByteArray)) := (blk_cell BK169.out 1).trans rfl
                    have hcz14_2 : w11.cell? ⟨gb169, 2, none⟩ = some (.int .i64 0) := (blk_cell BK169.out 2).trans rfl
                    have hcz14_3 : w11.cell? ⟨gb169, 3, none⟩ = some (.int .i64 0) := (blk_cell BK169.out 3).trans rfl
                    have hfz14_0 := blk_frozen BK169.out 0
                    have hfz14_1 := blk_frozen BK169.out 1
                    have hfz14_2 := blk_frozen BK169.out 2
                    have hfz14_3 := blk_frozen BK169.out 3
                    go_wp2
                    go_meet
                    case rel => exact ⟨_, (true), (by first | rfl | (simp; done) | (simp [*]; done)), H', ⟨by have := HK1.out; first | omega | exact Nat.le_refl _⟩, ⟨by (with_reducible repeat (first | apply Kd.R_alloc | apply Kd.R_drewN | apply Kd.R_drew)); exact Kd.R_mono (Kd.R_far (p := ⟨gb169, 3, none⟩) (Kd.R_far (p := ⟨gb169, 2, none⟩) (Kd.R_far (p := ⟨gb169, 1, none⟩) (Kd.R_far (p := ⟨gb169, 0, none⟩) (Kd.R_types HO_5.out BK169.out (by decide)) (fun _ hk => hk.2) (.int .i64 ((rd_T119 l0 x14_1).f0))) (fun _ hk => hk.2) (.string ((rd_T119 l0 x14_1).f1))) (fun _ hk => hk.2) (.int .i64 ((rd_T119 l0 x14_1).f2))) (fun _ hk => hk.2) (.int .i64 ((rd_T119 l0 x14_1).f3))) (fun _ hk => trivial)⟩, ⟨by (with_reducible repeat (first | refine blk_drewN ?_ _ | refine blk_drew ?_ | refine blk_alloc ?_ _)); refine blk_put (cs := #[.int .i64 ((rd_T119 l0 x14_1).f0), .string ((rd_T119 l0 x14_1).f1), .int .i64 ((rd_T119 l0 x14_1).f2), .int .i64 0]) ?_ 3 _ rfl; (with_reducible repeat (first | refine blk_drewN ?_ _ | refine blk_drew ?_ | refine blk_alloc ?_ _)); refine blk_put (cs := #[.int .i64 ((rd_T119 l0 x14_1).f0), .string ((rd_T119 l0 x14_1).f1), .int .i64 0, .int .i64 0]) ?_ 2 _ rfl; (with_reducible repeat (first | refine blk_drewN ?_ _ | refine blk_drew ?_ | refine blk_alloc ?_ _)); refine blk_put (cs := #[.int .i64 ((rd_T119 l0 x14_1).f0), .string (⟨#[]⟩ : ByteArray), .int .i64 0, .int .i64 0]) ?_ 1 _ rfl; (with_reducible repeat (first | refine blk_drewN ?_ _ | refine blk_drew ?_ | refine blk_alloc ?_ _)); refine blk_put (cs := #[.int .i64 0, .string (⟨#[]⟩ : ByteArray), .int .i64 0, .int .i64 0]) ?_ 0 _ rfl; (with_reducible repeat (first | refine blk_drewN ?_ _ | refine blk_drew ?_ | refine blk_alloc ?_ _)); exact BK169.out⟩, ⟨by repeat (first | (with_reducible first | exact HB.out | apply below_alloc | apply pw_below_drewN | apply below_drew1 | refine below_set ?_ GE169.out) | exact HB.out)⟩⟩
                  · rw [if_neg c13] at H
                    have c13b0 : (((rd_T119 l0 x14_1).f0) == 2) = false := beq_eq_false_iff_ne.mpr c13
                    have c13b1 : (((rd_T119 l0 x14_1).f0) != 2) = true := bne_iff_ne.mpr c13
                    (first | rw [c13b0] | (simp only [i64_w, i32_w]; rw [c13b0]) | skip)
                    have H' := Aside0.mk H
                    clear H
                    have hcz15_0 : w11.cell? ⟨gb169, 0, none⟩ = some (.int .i64 0) := (blk_cell BK169.out 0).trans rfl
                    have hcz15_1 : w11.cell? ⟨gb169, 1, none⟩ = some (.string (⟨#[]⟩ : ByteArray)) := (blk_cell BK169.out 1).trans rfl
                    have hcz15_2 : w11.cell? ⟨gb169, 2, none⟩ = some (.int .i64 0) := (blk_cell BK169.out 2).trans rfl
                    have hcz15_3 : w11.cell? ⟨gb169, 3, none⟩ = some (.int .i64 0) := (blk_cell BK169.out 3).trans rfl
                    have hfz15_0 := blk_frozen BK169.out 0
                    have hfz15_1 := blk_frozen BK169.out 1
                    have hfz15_2 := blk_frozen BK169.out 2
                    have hfz15_3 := blk_frozen BK169.out 3
                    go_wp2
                    go_meet
                    case rel => exact ⟨_, ((((rd_T119 l0 x14_1).f0) == 3)), (by first | rfl | (simp; done) | (simp [*]; done)), H', ⟨by have := HK1.out; first | omega | exact Nat.le_refl _⟩, ⟨by (with_reducible repeat (first | apply Kd.R_alloc | apply Kd.R_drewN | apply Kd.R_drew)); exact Kd.R_mono (Kd.R_far (p := ⟨gb169, 3, none⟩) (Kd.R_far (p := ⟨gb169, 2, none⟩) (Kd.R_far (p := ⟨gb169, 1, none⟩) (Kd.R_far (p := ⟨gb169, 0, none⟩) (Kd.R_types HO_5.out BK169.out (by decide)) (fun _ hk => hk.2) (.int .i64 ((rd_T119 l0 x14_1).f0))) (fun _ hk => hk.2) (.string ((rd_T119 l0 x14_1).f1))) (fun _ hk => hk.2) (.int .i64 ((rd_T119 l0 x14_1).f2))) (fun _ hk => hk.2) (.int .i64 ((rd_T119 l0 x14_1).f3))) (fun _ hk => trivial)⟩, ⟨by (with_reducible repeat (first | refine blk_drewN ?_ _ | refine blk_drew ?_ | refine blk_alloc ?_ _)); refine blk_put (cs := #[.int .i64 ((rd_T119 l0 x14_1).f0), .string ((rd_T119 l0 x14_1).f1), .int .i64 ((rd_T119 l0 x14_1).f2), .int .i64 0]) ?_ 3 _ rfl; (with_reducible repeat (first | refine blk_drewN ?_ _ | refine blk_drew ?_ | refine blk_alloc ?_ _)); refine blk_put (cs := #[.int .i64 ((rd_T119 l0 x14_1).f0), .string ((rd_T119 l0 x14_1).f1), .int .i64 0, .int .i64 0]) ?_ 2 _ rfl; (with_reducible repeat (first | refine blk_drewN ?_ _ | refine blk_drew ?_ | refine blk_alloc ?_ _)); refine blk_put (cs := #[.int .i64 ((rd_T119 l0 x14_1).f0), .string (⟨#[]⟩ : ByteArray), .int .i64 0, .int .i64 0]) ?_ 1 _ rfl; (with_reducible repeat (first | refine blk_drewN ?_ _ | refine blk_drew ?_ | refine blk_alloc ?_ _)); refine blk_put (cs := #[.int .i64 0, .string (⟨#[]⟩ : ByteArray), .int .i64 0, .int .i64 0]) ?_ 0 _ rfl; (with_reducible repeat (first | refine blk_drewN ?_ _ | refine blk_drew ?_ | refine blk_alloc ?_ _)); exact BK169.out⟩, ⟨by repeat (first | (with_reducible first | exact HB.out | apply below_alloc | apply pw_below_drewN | apply below_drew1 | refine below_set ?_ GE169.out) | exact HB.out)⟩⟩
                case rest =>
                  clear HC10
                  try clear c1
                  try clear p1
                  try clear q1
                  try clear hx1
                  try clear p2
                  try clear c3
                  try clear c3b0
                  try clear c3b1
                  try clear c4
                  try clear c4b0
                  try clear c4b1
                  try clear c7
                  try clear c7b0
                  try clear c8
                  try clear c8b0
                  try clear c9
                  try clear c9b0
                  try clear c13
                  try clear c13b0
                  try clear c13b1
                  try clear hcz12_0
                  try clear hcz12_1
                  try clear hcz12_2
                  try clear hcz12_3
                  try clear hcz14_0
                  try clear hcz14_1
                  try clear hcz14_2
                  try clear hcz14_3
                  try clear hcz15_0
                  try clear hcz15_1
                  try clear hcz15_2
                  try clear hcz15_3
                  try clear hfz12_0
                  try clear hfz12_1
                  try clear hfz12_2
                  try clear hfz12_3
                  try clear hfz14_0
                  try clear hfz14_1
                  try clear hfz14_2
                  try clear hfz14_3
                  try clear hfz15_0
                  try clear hfz15_1
                  try clear hfz15_2
                  try clear hfz15_3
                  try clear hx168_0
                  try clear hx168_1
                  try clear hx168_2
                  try clear hx168_3
                  try clear p168
                  try clear p2
                  try clear q168
                  obtain ⟨kq, x26_9, rfl, HA, HJ9, HO_5, BK169, HB⟩ := hcut
                  cases kq with
                  | zero => exact absurd HA.out (by simp [interlock_holds.j1])
                  | succ kj9 =>
                    have H := HA.out
                    clear HA
                    simp only [interlock_holds.j1] at H
                    have HC16 := Aside0.mk H
                    clear H
                    go_upto_if 26 with (fail)
                    go_cut [8] (fun v8 wc => ∃ (kq : Nat) (x8_15 : Int), v8 = .int .i64 x8_15 ∧ Aside0 (interlock_holds.j2 kq l0 l1 x5_1 x14_1 x8_15 l0 (l0.length : Int) x14_1 ((rd_T119 l0 x14_1).f0) ((rd_T119 l0 x14_1).f1) ((rd_T119 l0 x14_1).f2) ((rd_T119 l0 x14_1).f3) = some r) ∧ Aside0 (kq ≤ kj9) ∧ Aside0 (Kd.R Kd.bool 4 wc w.heap.size (fun _ => True) v165 x5_1) ∧ Aside0 (wc.heap[gb169]? = some (.cells #[.int .i64 ((rd_T119 l0 x14_1).f0), .string ((rd_T119 l0 x14_1).f1), .int .i64 ((rd_T119 l0 x14_1).f2), .int .i64 ((rd_T119 l0 x14_1).f3)] 119 (0, 0))) ∧ Aside0 (Below w.heap.size w wc))
                    case first =>
                      have H := HC16.out
                      clear HC16
                      by_cases c17 : x26_9 = true
                      · subst c17
                        have H1 : ((interlock_find.f kj9 l1 ((rd_T119 l0 x14_1).f1)).bind fun t170 => (interlock_holds.j2 kj9 l0 l1 x5_1 x14_1 t170 l0 (l0.length : Int) x14_1 ((rd_T119 l0 x14_1).f0) ((rd_T119 l0 x14_1).f1) ((rd_T119 l0 x14_1).f2) ((rd_T119 l0 x14_1).f3))) = some r := by rw [if_pos rfl] at H; exact H
                        clear H
                        have H := H1
                        clear H1
                        replace H := Option.bind_eq_some_iff.mp H
                        obtain ⟨t170, A180, H⟩ := H
                        replace H : (interlock_holds.j2 kj9 l0 l1 x5_1 x14_1 t170 l0 (l0.length : Int) x14_1 ((rd_T119 l0 x14_1).f0) ((rd_T119 l0 x14_1).f1) ((rd_T119 l0 x14_1).f2) ((rd_T119 l0 x14_1).f3)) = some r := H
                        have A18 := Aside0.mk A180
                        clear A180
                        have H' := Aside0.mk H
                        clear H
                        have hcz19_0 : wc.cell? ⟨gb169, 0, none⟩ = some (.int .i64 ((rd_T119 l0 x14_1).f0)) := (blk_cell BK169.out 0).trans rfl
                        have hcz19_1 : wc.cell? ⟨gb169, 1, none⟩ = some (.string ((rd_T119 l0 x14_1).f1)) := (blk_cell BK169.out 1).trans rfl
                        have hcz19_2 : wc.cell? ⟨gb169, 2, none⟩ = some (.int .i64 ((rd_T119 l0 x14_1).f2)) := (blk_cell BK169.out 2).trans rfl
                        have hcz19_3 : wc.cell? ⟨gb169, 3, none⟩ = some (.int .i64 ((rd_T119 l0 x14_1).f3)) := (blk_cell BK169.out 3).trans rfl
                        have hfz19_0 := blk_frozen BK169.out 0
                        have hfz19_1 := blk_frozen BK169.out 1
                        have hfz19_2 := blk_frozen BK169.out 2
                        have hfz19_3 := blk_frozen BK169.out 3
                        go_wp2_with (first | ((with_reducible refine gate_callee (f := 76) rfl ?_); refine goesL_ (some 30) rfl rfl Try.func76 (by kernel_rfl) rfl #[.slice A1 l1.length c1, .string ((rd_T119 l0 x14_1).f1)] rfl (by (try simp only [List.map_toArray, List.map_cons, List.map_nil]); first | done | rfl | (simp only [List.length_drop, List.length_take]; rfl)) ?_; (with_reducible refine (interlock_find.calls kj9 _ _ l1 ((rd_T119 l0 x14_1).f1) t170 _ ?side1 ?side2 A18.out).mono ?_); (case side1 => repeat (first | exact (Kd.C_below HR1.out HB.out) | (with_reducible refine Kd.C_alloc ?_ _) | (with_reducible refine Kd.C_drewN ?_ _) | (with_reducible refine Kd.C_drew ?_))); (case side2 => exact HC1.out); rintro e w20 ⟨rfl, hb⟩; refine ⟨_, rfl, ?_⟩; have n0_ := Aside0.mk (Kd.R_below (by (with_reducible repeat (first | apply Kd.R_alloc | apply Kd.R_drewN | apply Kd.R_drew)); exact HO_5.out) hb); have n1_ := Aside0.mk (blk_below (g := gb169) (o := .cells #[.int .i64 ((rd_T119 l0 x14_1).f0), .string ((rd_T119 l0 x14_1).f1), .int .i64 ((rd_T119 l0 x14_1).f2), .int .i64 ((rd_T119 l0 x14_1).f3)] 119 (0, 0)) (by (with_reducible repeat (first | refine blk_drewN ?_ _ | refine blk_drew ?_ | refine blk_alloc ?_ _)); exact BK169.out) hb); have n2_ := Aside0.mk (below_step (by repeat (first | (with_reducible first | exact HB.out | apply below_alloc | apply pw_below_drewN | apply below_drew1 | refine below_set ?_ GE169.out) | exact HB.out)) hb); clear HO_5; clear BK169; clear HB; have HO_5 := n0_; have BK169 := n1_; have HB := n2_; clear n0_ n1_ n2_; (try clear hb); (try clear hb2); (try clear hk); (try clear hi)))
                        go_meet
                        case rel => exact ⟨_, (t170), (by first | rfl | (simp; done) | (simp [*]; done)), H', ⟨by have := HK1.out; have := HJ9.out; first | omega | exact Nat.le_refl _⟩, ⟨by (with_reducible repeat (first | apply Kd.R_alloc | apply Kd.R_drewN | apply Kd.R_drew)); exact HO_5.out⟩, ⟨by (with_reducible repeat (first | refine blk_drewN ?_ _ | refine blk_drew ?_ | refine blk_alloc ?_ _)); exact BK169.out⟩, ⟨by repeat (first | (with_reducible first | exact HB.out | apply below_alloc | apply pw_below_drewN | apply below_drew1 | refine below_set ?_ GE169.out) | exact HB.out)⟩⟩
                      · replace c17 := Bool.eq_false_iff.mpr c17
                        subst c17
                        have H1 : (interlock_holds.j2 kj9 l0 l1 x5_1 x14_1 (-1) l0 (l0.length : Int) x14_1 ((rd_T119 l0 x14_1).f0) ((rd_T119 l0 x14_1).f1) ((rd_T119 l0 x14_1).f2) ((rd_T119 l0 x14_1).f3)) = some r := by rw [if_neg (show ¬ (false = true) by decide)] at H; exact H
                        clear H
                        have H := H1
                        clear H1
                        have H' := Aside0.mk H
                        clear H
                        go_wp2
                        go_meet
                        case rel => exact ⟨_, ((-1)), (by first | rfl | (simp; done) | (simp [*]; done)), H', ⟨by have := HK1.out; have := HJ9.out; first | omega | exact Nat.le_refl _⟩, ⟨by (with_reducible repeat (first | apply Kd.R_alloc | apply Kd.R_drewN | apply Kd.R_drew)); exact HO_5.out⟩, ⟨by (with_reducible repeat (first | refine blk_drewN ?_ _ | refine blk_drew ?_ | refine blk_alloc ?_ _)); exact BK169.out⟩, ⟨by repeat (first | (with_reducible first | exact HB.out | apply below_alloc | apply pw_below_drewN | apply below_drew1 | refine below_set ?_ GE169.out) | exact HB.out)⟩⟩
                    case rest =>
                      clear HC16
                      try clear c1
                      try clear p1
                      try clear q1
                      try clear hx1
                      try clear p2
                      try clear c3
                      try clear c3b0
                      try clear c3b1
                      try clear c4
                      try clear c4b0
                      try clear c4b1
                      try clear c7
                      try clear c7b0
                      try clear c8
                      try clear c8b0
                      try clear c9
                      try clear c9b0
                      try clear c13
                      try clear c13b0
                      try clear c13b1
                      try clear p16
                      try clear q16
                      try clear hx16
                      try clear c17
                      try clear hcz12_0
                      try clear hcz12_1
                      try clear hcz12_2
                      try clear hcz12_3
                      try clear hcz14_0
                      try clear hcz14_1
                      try clear hcz14_2
                      try clear hcz14_3
                      try clear hcz15_0
                      try clear hcz15_1
                      try clear hcz15_2
                      try clear hcz15_3
                      try clear hcz19_0
                      try clear hcz19_1
                      try clear hcz19_2
                      try clear hcz19_3
                      try clear hfz12_0
                      try clear hfz12_1
                      try clear hfz12_2
                      try clear hfz12_3
                      try clear hfz14_0
                      try clear hfz14_1
                      try clear hfz14_2
                      try clear hfz14_3
                      try clear hfz15_0
                      try clear hfz15_1
                      try clear hfz15_2
                      try clear hfz15_3
                      try clear hfz19_0
                      try clear hfz19_1
                      try clear hfz19_2
                      try clear hfz19_3
                      try clear hx168_0
                      try clear hx168_1
                      try clear hx168_2
                      try clear hx168_3
                      try clear p1
                      try clear p168
                      try clear p2
                      try clear q1
                      try clear q168
                      obtain ⟨kq, x8_15, rfl, HA, HJ15, HO_5, BK169, HB⟩ := hcut
                      cases kq with
                      | zero => exact absurd HA.out (by simp [interlock_holds.j2])
                      | succ kj15 =>
                        have H := HA.out
                        clear HA
                        simp only [interlock_holds.j2] at H
                        by_cases c21 : ((rd_T119 l0 x14_1).f0) = 0
                        · rw [if_pos c21] at H
                          have c21b0 : (((rd_T119 l0 x14_1).f0) == 0) = true := beq_iff_eq.mpr c21
                          have c21b1 : (((rd_T119 l0 x14_1).f0) != 0) = false := bne_eq_false_iff_eq.mpr c21
                          clear c21
                          by_cases c22 : 0 ≤ x14_1
                          · rw [if_pos c22] at H
                            have c22b0 : decide (0 ≤ x14_1) = true := decide_eq_true c22
                            clear c22
                            by_cases c23 : x14_1 < (x5_1.length : Int)
                            · rw [if_pos c23] at H
                              have c23b0 : decide (x14_1 < (x5_1.length : Int)) = true := decide_eq_true c23
                              clear c23
                              obtain ⟨y171, hy171⟩ : ∃ y_ : List Bool, y_ = (x5_1.set (x14_1 : Int).toNat true) := ⟨_, rfl⟩
                              replace H : (interlock_holds.l0 kj15 l0 l1 y171 l0 (l0.length : Int) (wrap64 (x14_1 + 1))) = some r := by first | (rw [hy171]; with_reducible exact H) | (have H2_ := (Option.bind_some _ _).symm.trans H; rw [hy171]; with_reducible exact H2_) | (have H2_ := (Option.bind_some _ _).symm.trans H; with_reducible exact H2_) | with_reducible exact H | (rw [hy171]; exact H) | exact H
                              have Ny171 := Aside0.mk hy171
                              clear hy171
                              have H' := Aside0.mk H
                              clear H
                              have hcz25_0 : wc.cell? ⟨gb169, 0, none⟩ = some (.int .i64 ((rd_T119 l0 x14_1).f0)) := (blk_cell BK169.out 0).trans rfl
                              have hcz25_1 : wc.cell? ⟨gb169, 1, none⟩ = some (.string ((rd_T119 l0 x14_1).f1)) := (blk_cell BK169.out 1).trans rfl
                              have hcz25_2 : wc.cell? ⟨gb169, 2, none⟩ = some (.int .i64 ((rd_T119 l0 x14_1).f2)) := (blk_cell BK169.out 2).trans rfl
                              have hcz25_3 : wc.cell? ⟨gb169, 3, none⟩ = some (.int .i64 ((rd_T119 l0 x14_1).f3)) := (blk_cell BK169.out 3).trans rfl
                              have hfz25_0 := blk_frozen BK169.out 0
                              have hfz25_1 := blk_frozen BK169.out 1
                              have hfz25_2 := blk_frozen BK169.out 2
                              have hfz25_3 := blk_frozen BK169.out 3
                              have p24 : 0 ≤ (x14_1 : Int) := of_decide_eq_true (by first | (with_reducible assumption) | assumption)
                              have q24 : (x14_1 : Int) < ((x5_1.length : Int) : Int) := of_decide_eq_true (by first | (with_reducible assumption) | assumption)
                              obtain ⟨go24, co24, eo24, gb24, gl24, cl24, HG24⟩ := Kd.R_form HO_5.out (by omega)
                              (first | cases eo24 | (injection eo24 with ea_ en_ ec_; (first | subst ea_ | (injection ea_ with ea_; subst ea_)); subst ec_; clear en_))
                              have GB24 := Aside0.mk gb24
                              have GG24 := Aside0.mk HG24
                              clear gb24 gl24 HG24
                              obtain ⟨hx24_0, hf24_0⟩ := Kd.R_celln false HO_5.out (x14_1 : Int) p24 q24
                              replace p24 := eq_true p24
                              replace q24 := eq_true q24
                              have HP26 := Kd.R_putg HO_5.out (x14_1 : Int) true
                              go_wp2_with (first | ((with_reducible refine gate_store (t := 4) (p := 37) rfl ?_); refine store_event (t := 4) (p := 37) (v := ?vo_w27) (w1 := (wc.setCell ⟨go24, (x14_1 : Int).toNat, none⟩ (.bool true))) ?hg ?ho ?hn ?hr ?_; (case ho => rfl); (case hg => rfl); (case hn => rfl); (case hr => first | (go_simp; done) | (go_simp; rfl)); intro w27 hw; have hg : wc.grownBy w27 (some go24) := (by rw [hw]; exact HP26.2); have hp_ : Kd.R Kd.bool 4 w27 w.heap.size (fun _ => True) (.slice (some ⟨go24, 0, none⟩) x5_1.length co24) y171 := (by rw [hw, Ny171.out]; exact HP26.1); clear HP26; have n0_ := Aside0.mk (hp_); have n1_ := Aside0.mk (blk_grown (g := gb169) (o := .cells #[.int .i64 ((rd_T119 l0 x14_1).f0), .string ((rd_T119 l0 x14_1).f1), .int .i64 ((rd_T119 l0 x14_1).f2), .int .i64 ((rd_T119 l0 x14_1).f3)] 119 (0, 0)) (by (with_reducible repeat (first | refine blk_drewN ?_ _ | refine blk_drew ?_ | refine blk_alloc ?_ _)); exact BK169.out) hg (Kd.R_ne HO_5.out BK169.out (by decide))); have n2_ := Aside0.mk ((by rw [hw]; exact below_set (HB.out) GB24.out : Below w.heap.size w w27)); clear HO_5; clear BK169; clear HB; have HO_5 := n0_; have BK169 := n1_; have HB := n2_; clear n0_ n1_ n2_; clear hg hw hp_))
                              go_roundg kj15
                              case measure => have := HK1.out; have := HJ9.out; have := HJ15.out; omega
                              case rel => exact ⟨(y171), (wrap64 (x14_1 + 1)), (by first | rfl | (simp; done) | (simp [*]; done)), H', ⟨by have := HK1.out; have := HJ9.out; have := HJ15.out; omega⟩, ⟨by (with_reducible repeat (first | apply Kd.R_alloc | apply Kd.R_drewN | apply Kd.R_drew)); exact HO_5.out⟩, ⟨by repeat (first | (with_reducible first | exact HB.out | apply below_alloc | apply pw_below_drewN | apply below_drew1 | refine below_set ?_ GE169.out) | exact HB.out)⟩⟩
                            · rw [if_neg c23] at H
                              exact absurd H (by simp)
                          · rw [if_neg c22] at H
                            exact absurd H (by simp)
                        · rw [if_neg c21] at H
                          have c21b0 : (((rd_T119 l0 x14_1).f0) == 0) = false := beq_eq_false_iff_ne.mpr c21
                          have c21b1 : (((rd_T119 l0 x14_1).f0) != 0) = true := bne_iff_ne.mpr c21
                          by_cases c28 : ((rd_T119 l0 x14_1).f0) = 2
                          · rw [if_pos c28] at H
                            have c28b0 : (((rd_T119 l0 x14_1).f0) == 2) = true := beq_iff_eq.mpr c28
                            have c28b1 : (((rd_T119 l0 x14_1).f0) != 2) = false := bne_eq_false_iff_eq.mpr c28
                            clear c28
                            by_cases c29 : x8_15 ≥ 0
                            · rw [if_pos c29] at H
                              have c29b0 : decide (0 ≤ x8_15) = true := decide_eq_true c29
                              clear c29
                              by_cases c30 : 0 ≤ x8_15
                              · rw [if_pos c30] at H
                                have c30b0 : decide (0 ≤ x8_15) = true := decide_eq_true c30
                                clear c30
                                by_cases c31 : x8_15 < (l1.length : Int)
                                · rw [if_pos c31] at H
                                  have c31b0 : decide (x8_15 < (l1.length : Int)) = true := decide_eq_true c31
                                  clear c31
                                  by_cases c32 : 0 ≤ x14_1
                                  · rw [if_pos c32] at H
                                    have c32b0 : decide (0 ≤ x14_1) = true := decide_eq_true c32
                                    clear c32
                                    by_cases c33 : x14_1 < (x5_1.length : Int)
                                    · rw [if_pos c33] at H
                                      have c33b0 : decide (x14_1 < (x5_1.length : Int)) = true := decide_eq_true c33
                                      clear c33
                                      obtain ⟨y173, hy173⟩ : ∃ y_ : List Bool, y_ = (x5_1.set (x14_1 : Int).toNat (!((rd_T63 l1 x8_15).f1))) := ⟨_, rfl⟩
                                      replace H : (interlock_holds.l0 kj15 l0 l1 y173 l0 (l0.length : Int) (wrap64 (x14_1 + 1))) = some r := by first | (rw [hy173]; with_reducible exact H) | (have H2_ := (Option.bind_some _ _).symm.trans H; rw [hy173]; with_reducible exact H2_) | (have H2_ := (Option.bind_some _ _).symm.trans H; with_reducible exact H2_) | with_reducible exact H | (rw [hy173]; exact H) | exact H
                                      have Ny173 := Aside0.mk hy173
                                      clear hy173
                                      have H' := Aside0.mk H
                                      clear H
                                      have hcz35_0 : wc.cell? ⟨gb169, 0, none⟩ = some (.int .i64 ((rd_T119 l0 x14_1).f0)) := (blk_cell BK169.out 0).trans rfl
                                      have hcz35_1 : wc.cell? ⟨gb169, 1, none⟩ = some (.string ((rd_T119 l0 x14_1).f1)) := (blk_cell BK169.out 1).trans rfl
                                      have hcz35_2 : wc.cell? ⟨gb169, 2, none⟩ = some (.int .i64 ((rd_T119 l0 x14_1).f2)) := (blk_cell BK169.out 2).trans rfl
                                      have hcz35_3 : wc.cell? ⟨gb169, 3, none⟩ = some (.int .i64 ((rd_T119 l0 x14_1).f3)) := (blk_cell BK169.out 3).trans rfl
                                      have hfz35_0 := blk_frozen BK169.out 0
                                      have hfz35_1 := blk_frozen BK169.out 1
                                      have hfz35_2 := blk_frozen BK169.out 2
                                      have hfz35_3 := blk_frozen BK169.out 3
                                      have p172 : 0 ≤ (x8_15 : Int) := of_decide_eq_true (by first | (with_reducible assumption) | assumption)
                                      have q172 : x8_15 < (l1.length : Int) := of_decide_eq_true (by first | (with_reducible assumption) | assumption)
                                      obtain ⟨ad172, e172, hx172_0, hx172_1⟩ := at_T63 HR1.out x8_15 p172 q172
                                      cases e172
                                      replace hx172_0 := (HB.out.cell (World.block_lt_of_cell? w _ hx172_0)).trans hx172_0
                                      replace hx172_1 := (HB.out.cell (World.block_lt_of_cell? w _ hx172_1)).trans hx172_1
                                      replace p172 := eq_true p172
                                      replace q172 := eq_true q172
                                      have p34 : 0 ≤ (x14_1 : Int) := of_decide_eq_true (by first | (with_reducible assumption) | assumption)
                                      have q34 : (x14_1 : Int) < ((x5_1.length : Int) : Int) := of_decide_eq_true (by first | (with_reducible assumption) | assumption)
                                      obtain ⟨go34, co34, eo34, gb34, gl34, cl34, HG34⟩ := Kd.R_form HO_5.out (by omega)
                                      (first | cases eo34 | (injection eo34 with ea_ en_ ec_; (first | subst ea_ | (injection ea_ with ea_; subst ea_)); subst ec_; clear en_))
                                      have GB34 := Aside0.mk gb34
                                      have GG34 := Aside0.mk HG34
                                      clear gb34 gl34 HG34
                                      obtain ⟨hx34_0, hf34_0⟩ := Kd.R_celln false HO_5.out (x14_1 : Int) p34 q34
                                      replace p34 := eq_true p34
                                      replace q34 := eq_true q34
                                      have HP36 := Kd.R_putg HO_5.out (x14_1 : Int) (!((rd_T63 l1 x8_15).f1))
                                      go_wp2_with (first | ((with_reducible refine gate_store (t := 4) (p := 52) rfl ?_); refine store_event (t := 4) (p := 52) (v := ?vo_w37) (w1 := (wc.setCell ⟨go34, (x14_1 : Int).toNat, none⟩ (.bool (!((rd_T63 l1 x8_15).f1))))) ?hg ?ho ?hn ?hr ?_; (case ho => rfl); (case hg => rfl); (case hn => rfl); (case hr => first | (go_simp; done) | (go_simp; rfl)); intro w37 hw; have hg : wc.grownBy w37 (some go34) := (by rw [hw]; exact HP36.2); have hp_ : Kd.R Kd.bool 4 w37 w.heap.size (fun _ => True) (.slice (some ⟨go34, 0, none⟩) x5_1.length co34) y173 := (by rw [hw, Ny173.out]; exact HP36.1); clear HP36; have n0_ := Aside0.mk (hp_); have n1_ := Aside0.mk (blk_grown (g := gb169) (o := .cells #[.int .i64 ((rd_T119 l0 x14_1).f0), .string ((rd_T119 l0 x14_1).f1), .int .i64 ((rd_T119 l0 x14_1).f2), .int .i64 ((rd_T119 l0 x14_1).f3)] 119 (0, 0)) (by (with_reducible repeat (first | refine blk_drewN ?_ _ | refine blk_drew ?_ | refine blk_alloc ?_ _)); exact BK169.out) hg (Kd.R_ne HO_5.out BK169.out (by decide))); have n2_ := Aside0.mk ((by rw [hw]; exact below_set (HB.out) GB34.out : Below w.heap.size w w37)); clear HO_5; clear BK169; clear HB; have HO_5 := n0_; have BK169 := n1_; have HB := n2_; clear n0_ n1_ n2_; clear hg hw hp_))
                                      go_roundg kj15
                                      case measure => have := HK1.out; have := HJ9.out; have := HJ15.out; omega
                                      case rel => exact ⟨(y173), (wrap64 (x14_1 + 1)), (by first | rfl | (simp; done) | (simp [*]; done)), H', ⟨by have := HK1.out; have := HJ9.out; have := HJ15.out; omega⟩, ⟨by (with_reducible repeat (first | apply Kd.R_alloc | apply Kd.R_drewN | apply Kd.R_drew)); exact HO_5.out⟩, ⟨by repeat (first | (with_reducible first | exact HB.out | apply below_alloc | apply pw_below_drewN | apply below_drew1 | refine below_set ?_ GE169.out) | exact HB.out)⟩⟩
                                    · rw [if_neg c33] at H
                                      exact absurd H (by simp)
                                  · rw [if_neg c32] at H
                                    exact absurd H (by simp)
                                · rw [if_neg c31] at H
                                  exact absurd H (by simp)
                              · rw [if_neg c30] at H
                                exact absurd H (by simp)
                            · rw [if_neg c29] at H
                              have c29b0 : decide (0 ≤ x8_15) = false := decide_eq_false c29
                              clear c29
                              by_cases c38 : 0 ≤ x14_1
                              · rw [if_pos c38] at H
                                have c38b0 : decide (0 ≤ x14_1) = true := decide_eq_true c38
                                clear c38
                                by_cases c39 : x14_1 < (x5_1.length : Int)
                                · rw [if_pos c39] at H
                                  have c39b0 : decide (x14_1 < (x5_1.length : Int)) = true := decide_eq_true c39
                                  clear c39
                                  obtain ⟨y174, hy174⟩ : ∃ y_ : List Bool, y_ = (x5_1.set (x14_1 : Int).toNat false) := ⟨_, rfl⟩
                                  replace H : (interlock_holds.l0 kj15 l0 l1 y174 l0 (l0.length : Int) (wrap64 (x14_1 + 1))) = some r := by first | (rw [hy174]; with_reducible exact H) | (have H2_ := (Option.bind_some _ _).symm.trans H; rw [hy174]; with_reducible exact H2_) | (have H2_ := (Option.bind_some _ _).symm.trans H; with_reducible exact H2_) | with_reducible exact H | (rw [hy174]; exact H) | exact H
                                  have Ny174 := Aside0.mk hy174
                                  clear hy174
                                  have H' := Aside0.mk H
                                  clear H
                                  have hcz41_0 : wc.cell? ⟨gb169, 0, none⟩ = some (.int .i64 ((rd_T119 l0 x14_1).f0)) := (blk_cell BK169.out 0).trans rfl
                                  have hcz41_1 : wc.cell? ⟨gb169, 1, none⟩ = some (.string ((rd_T119 l0 x14_1).f1)) := (blk_cell BK169.out 1).trans rfl
                                  have hcz41_2 : wc.cell? ⟨gb169, 2, none⟩ = some (.int .i64 ((rd_T119 l0 x14_1).f2)) := (blk_cell BK169.out 2).trans rfl
                                  have hcz41_3 : wc.cell? ⟨gb169, 3, none⟩ = some (.int .i64 ((rd_T119 l0 x14_1).f3)) := (blk_cell BK169.out 3).trans rfl
                                  have hfz41_0 := blk_frozen BK169.out 0
                                  have hfz41_1 := blk_frozen BK169.out 1
                                  have hfz41_2 := blk_frozen BK169.out 2
                                  have hfz41_3 := blk_frozen BK169.out 3
                                  have p40 : 0 ≤ (x14_1 : Int) := of_decide_eq_true (by first | (with_reducible assumption) | assumption)
                                  have q40 : (x14_1 : Int) < ((x5_1.length : Int) : Int) := of_decide_eq_true (by first | (with_reducible assumption) | assumption)
                                  obtain ⟨go40, co40, eo40, gb40, gl40, cl40, HG40⟩ := Kd.R_form HO_5.out (by omega)
                                  (first | cases eo40 | (injection eo40 with ea_ en_ ec_; (first | subst ea_ | (injection ea_ with ea_; subst ea_)); subst ec_; clear en_))
                                  have GB40 := Aside0.mk gb40
                                  have GG40 := Aside0.mk HG40
                                  clear gb40 gl40 HG40
                                  obtain ⟨hx40_0, hf40_0⟩ := Kd.R_celln false HO_5.out (x14_1 : Int) p40 q40
                                  replace p40 := eq_true p40
                                  replace q40 := eq_true q40
                                  have HP42 := Kd.R_putg HO_5.out (x14_1 : Int) false
                                  go_wp2_with (first | ((with_reducible refine gate_store (t := 4) (p := 52) rfl ?_); refine store_event (t := 4) (p := 52) (v := ?vo_w43) (w1 := (wc.setCell ⟨go40, (x14_1 : Int).toNat, none⟩ (.bool false))) ?hg ?ho ?hn ?hr ?_; (case ho => rfl); (case hg => rfl); (case hn => rfl); (case hr => first | (go_simp; done) | (go_simp; rfl)); intro w43 hw; have hg : wc.grownBy w43 (some go40) := (by rw [hw]; exact HP42.2); have hp_ : Kd.R Kd.bool 4 w43 w.heap.size (fun _ => True) (.slice (some ⟨go40, 0, none⟩) x5_1.length co40) y174 := (by rw [hw, Ny174.out]; exact HP42.1); clear HP42; have n0_ := Aside0.mk (hp_); have n1_ := Aside0.mk (blk_grown (g := gb169) (o := .cells #[.int .i64 ((rd_T119 l0 x14_1).f0), .string ((rd_T119 l0 x14_1).f1), .int .i64 ((rd_T119 l0 x14_1).f2), .int .i64 ((rd_T119 l0 x14_1).f3)] 119 (0, 0)) (by (with_reducible repeat (first | refine blk_drewN ?_ _ | refine blk_drew ?_ | refine blk_alloc ?_ _)); exact BK169.out) hg (Kd.R_ne HO_5.out BK169.out (by decide))); have n2_ := Aside0.mk ((by rw [hw]; exact below_set (HB.out) GB40.out : Below w.heap.size w w43)); clear HO_5; clear BK169; clear HB; have HO_5 := n0_; have BK169 := n1_; have HB := n2_; clear n0_ n1_ n2_; clear hg hw hp_))
                                  go_roundg kj15
                                  case measure => have := HK1.out; have := HJ9.out; have := HJ15.out; omega
                                  case rel => exact ⟨(y174), (wrap64 (x14_1 + 1)), (by first | rfl | (simp; done) | (simp [*]; done)), H', ⟨by have := HK1.out; have := HJ9.out; have := HJ15.out; omega⟩, ⟨by (with_reducible repeat (first | apply Kd.R_alloc | apply Kd.R_drewN | apply Kd.R_drew)); exact HO_5.out⟩, ⟨by repeat (first | (with_reducible first | exact HB.out | apply below_alloc | apply pw_below_drewN | apply below_drew1 | refine below_set ?_ GE169.out) | exact HB.out)⟩⟩
                                · rw [if_neg c39] at H
                                  exact absurd H (by simp)
                              · rw [if_neg c38] at H
                                exact absurd H (by simp)
                          · rw [if_neg c28] at H
                            have c28b0 : (((rd_T119 l0 x14_1).f0) == 2) = false := beq_eq_false_iff_ne.mpr c28
                            have c28b1 : (((rd_T119 l0 x14_1).f0) != 2) = true := bne_iff_ne.mpr c28
                            by_cases c44 : ((rd_T119 l0 x14_1).f0) = 3
                            · rw [if_pos c44] at H
                              have c44b0 : (((rd_T119 l0 x14_1).f0) == 3) = true := beq_iff_eq.mpr c44
                              have c44b1 : (((rd_T119 l0 x14_1).f0) != 3) = false := bne_eq_false_iff_eq.mpr c44
                              clear c44
                              by_cases c45 : x8_15 ≥ 0
                              · rw [if_pos c45] at H
                                have c45b0 : decide (0 ≤ x8_15) = true := decide_eq_true c45
                                clear c45
                                by_cases c46 : 0 ≤ x8_15
                                · rw [if_pos c46] at H
                                  have c46b0 : decide (0 ≤ x8_15) = true := decide_eq_true c46
                                  clear c46
                                  by_cases c47 : x8_15 < (l1.length : Int)
                                  · rw [if_pos c47] at H
                                    have c47b0 : decide (x8_15 < (l1.length : Int)) = true := decide_eq_true c47
                                    clear c47
                                    by_cases c48 : 0 ≤ x14_1
                                    · rw [if_pos c48] at H
                                      have c48b0 : decide (0 ≤ x14_1) = true := decide_eq_true c48
                                      clear c48
                                      by_cases c49 : x14_1 < (x5_1.length : Int)
                                      · rw [if_pos c49] at H
                                        have c49b0 : decide (x14_1 < (x5_1.length : Int)) = true := decide_eq_true c49
                                        clear c49
                                        obtain ⟨y176, hy176⟩ : ∃ y_ : List Bool, y_ = (x5_1.set (x14_1 : Int).toNat ((rd_T63 l1 x8_15).f1)) := ⟨_, rfl⟩
                                        replace H : (interlock_holds.l0 kj15 l0 l1 y176 l0 (l0.length : Int) (wrap64 (x14_1 + 1))) = some r := by first | (rw [hy176]; with_reducible exact H) | (have H2_ := (Option.bind_some _ _).symm.trans H; rw [hy176]; with_reducible exact H2_) | (have H2_ := (Option.bind_some _ _).symm.trans H; with_reducible exact H2_) | with_reducible exact H | (rw [hy176]; exact H) | exact H
                                        have Ny176 := Aside0.mk hy176
                                        clear hy176
                                        have H' := Aside0.mk H
                                        clear H
                                        have hcz51_0 : wc.cell? ⟨gb169, 0, none⟩ = some (.int .i64 ((rd_T119 l0 x14_1).f0)) := (blk_cell BK169.out 0).trans rfl
                                        have hcz51_1 : wc.cell? ⟨gb169, 1, none⟩ = some (.string ((rd_T119 l0 x14_1).f1)) := (blk_cell BK169.out 1).trans rfl
                                        have hcz51_2 : wc.cell? ⟨gb169, 2, none⟩ = some (.int .i64 ((rd_T119 l0 x14_1).f2)) := (blk_cell BK169.out 2).trans rfl
                                        have hcz51_3 : wc.cell? ⟨gb169, 3, none⟩ = some (.int .i64 ((rd_T119 l0 x14_1).f3)) := (blk_cell BK169.out 3).trans rfl
                                        have hfz51_0 := blk_frozen BK169.out 0
                                        have hfz51_1 := blk_frozen BK169.out 1
                                        have hfz51_2 := blk_frozen BK169.out 2
                                        have hfz51_3 := blk_frozen BK169.out 3
                                        have p175 : 0 ≤ (x8_15 : Int) := of_decide_eq_true (by first | (with_reducible assumption) | assumption)
                                        have q175 : x8_15 < (l1.length : Int) := of_decide_eq_true (by first | (with_reducible assumption) | assumption)
                                        obtain ⟨ad175, e175, hx175_0, hx175_1⟩ := at_T63 HR1.out x8_15 p175 q175
                                        cases e175
                                        replace hx175_0 := (HB.out.cell (World.block_lt_of_cell? w _ hx175_0)).trans hx175_0
                                        replace hx175_1 := (HB.out.cell (World.block_lt_of_cell? w _ hx175_1)).trans hx175_1
                                        replace p175 := eq_true p175
                                        replace q175 := eq_true q175
                                        have p50 : 0 ≤ (x14_1 : Int) := of_decide_eq_true (by first | (with_reducible assumption) | assumption)
                                        have q50 : (x14_1 : Int) < ((x5_1.length : Int) : Int) := of_decide_eq_true (by first | (with_reducible assumption) | assumption)
                                        obtain ⟨go50, co50, eo50, gb50, gl50, cl50, HG50⟩ := Kd.R_form HO_5.out (by omega)
                                        (first | cases eo50 | (injection eo50 with ea_ en_ ec_; (first | subst ea_ | (injection ea_ with ea_; subst ea_)); subst ec_; clear en_))
                                        have GB50 := Aside0.mk gb50
                                        have GG50 := Aside0.mk HG50
                                        clear gb50 gl50 HG50
                                        obtain ⟨hx50_0, hf50_0⟩ := Kd.R_celln false HO_5.out (x14_1 : Int) p50 q50
                                        replace p50 := eq_true p50
                                        replace q50 := eq_true q50
                                        have HP52 := Kd.R_putg HO_5.out (x14_1 : Int) ((rd_T63 l1 x8_15).f1)
                                        go_wp2_with (first | ((with_reducible refine gate_store (t := 4) (p := 66) rfl ?_); refine store_event (t := 4) (p := 66) (v := ?vo_w53) (w1 := (wc.setCell ⟨go50, (x14_1 : Int).toNat, none⟩ (.bool ((rd_T63 l1 x8_15).f1)))) ?hg ?ho ?hn ?hr ?_; (case ho => rfl); (case hg => rfl); (case hn => rfl); (case hr => first | (go_simp; done) | (go_simp; rfl)); intro w53 hw; have hg : wc.grownBy w53 (some go50) := (by rw [hw]; exact HP52.2); have hp_ : Kd.R Kd.bool 4 w53 w.heap.size (fun _ => True) (.slice (some ⟨go50, 0, none⟩) x5_1.length co50) y176 := (by rw [hw, Ny176.out]; exact HP52.1); clear HP52; have n0_ := Aside0.mk (hp_); have n1_ := Aside0.mk (blk_grown (g := gb169) (o := .cells #[.int .i64 ((rd_T119 l0 x14_1).f0), .string ((rd_T119 l0 x14_1).f1), .int .i64 ((rd_T119 l0 x14_1).f2), .int .i64 ((rd_T119 l0 x14_1).f3)] 119 (0, 0)) (by (with_reducible repeat (first | refine blk_drewN ?_ _ | refine blk_drew ?_ | refine blk_alloc ?_ _)); exact BK169.out) hg (Kd.R_ne HO_5.out BK169.out (by decide))); have n2_ := Aside0.mk ((by rw [hw]; exact below_set (HB.out) GB50.out : Below w.heap.size w w53)); clear HO_5; clear BK169; clear HB; have HO_5 := n0_; have BK169 := n1_; have HB := n2_; clear n0_ n1_ n2_; clear hg hw hp_))
                                        go_roundg kj15
                                        case measure => have := HK1.out; have := HJ9.out; have := HJ15.out; omega
                                        case rel => exact ⟨(y176), (wrap64 (x14_1 + 1)), (by first | rfl | (simp; done) | (simp [*]; done)), H', ⟨by have := HK1.out; have := HJ9.out; have := HJ15.out; omega⟩, ⟨by (with_reducible repeat (first | apply Kd.R_alloc | apply Kd.R_drewN | apply Kd.R_drew)); exact HO_5.out⟩, ⟨by repeat (first | (with_reducible first | exact HB.out | apply below_alloc | apply pw_below_drewN | apply below_drew1 | refine below_set ?_ GE169.out) | exact HB.out)⟩⟩
                                      · rw [if_neg c49] at H
                                        exact absurd H (by simp)
                                    · rw [if_neg c48] at H
                                      exact absurd H (by simp)
                                  · rw [if_neg c47] at H
                                    exact absurd H (by simp)
                                · rw [if_neg c46] at H
                                  exact absurd H (by simp)
                              · rw [if_neg c45] at H
                                have c45b0 : decide (0 ≤ x8_15) = false := decide_eq_false c45
                                clear c45
                                by_cases c54 : 0 ≤ x14_1
                                · rw [if_pos c54] at H
                                  have c54b0 : decide (0 ≤ x14_1) = true := decide_eq_true c54
                                  clear c54
                                  by_cases c55 : x14_1 < (x5_1.length : Int)
                                  · rw [if_pos c55] at H
                                    have c55b0 : decide (x14_1 < (x5_1.length : Int)) = true := decide_eq_true c55
                                    clear c55
                                    obtain ⟨y177, hy177⟩ : ∃ y_ : List Bool, y_ = (x5_1.set (x14_1 : Int).toNat false) := ⟨_, rfl⟩
                                    replace H : (interlock_holds.l0 kj15 l0 l1 y177 l0 (l0.length : Int) (wrap64 (x14_1 + 1))) = some r := by first | (rw [hy177]; with_reducible exact H) | (have H2_ := (Option.bind_some _ _).symm.trans H; rw [hy177]; with_reducible exact H2_) | (have H2_ := (Option.bind_some _ _).symm.trans H; with_reducible exact H2_) | with_reducible exact H | (rw [hy177]; exact H) | exact H
                                    have Ny177 := Aside0.mk hy177
                                    clear hy177
                                    have H' := Aside0.mk H
                                    clear H
                                    have hcz57_0 : wc.cell? ⟨gb169, 0, none⟩ = some (.int .i64 ((rd_T119 l0 x14_1).f0)) := (blk_cell BK169.out 0).trans rfl
                                    have hcz57_1 : wc.cell? ⟨gb169, 1, none⟩ = some (.string ((rd_T119 l0 x14_1).f1)) := (blk_cell BK169.out 1).trans rfl
                                    have hcz57_2 : wc.cell? ⟨gb169, 2, none⟩ = some (.int .i64 ((rd_T119 l0 x14_1).f2)) := (blk_cell BK169.out 2).trans rfl
                                    have hcz57_3 : wc.cell? ⟨gb169, 3, none⟩ = some (.int .i64 ((rd_T119 l0 x14_1).f3)) := (blk_cell BK169.out 3).trans rfl
                                    have hfz57_0 := blk_frozen BK169.out 0
                                    have hfz57_1 := blk_frozen BK169.out 1
                                    have hfz57_2 := blk_frozen BK169.out 2
                                    have hfz57_3 := blk_frozen BK169.out 3
                                    have p56 : 0 ≤ (x14_1 : Int) := of_decide_eq_true (by first | (with_reducible assumption) | assumption)
                                    have q56 : (x14_1 : Int) < ((x5_1.length : Int) : Int) := of_decide_eq_true (by first | (with_reducible assumption) | assumption)
                                    obtain ⟨go56, co56, eo56, gb56, gl56, cl56, HG56⟩ := Kd.R_form HO_5.out (by omega)
                                    (first | cases eo56 | (injection eo56 with ea_ en_ ec_; (first | subst ea_ | (injection ea_ with ea_; subst ea_)); subst ec_; clear en_))
                                    have GB56 := Aside0.mk gb56
                                    have GG56 := Aside0.mk HG56
                                    clear gb56 gl56 HG56
                                    obtain ⟨hx56_0, hf56_0⟩ := Kd.R_celln false HO_5.out (x14_1 : Int) p56 q56
                                    replace p56 := eq_true p56
                                    replace q56 := eq_true q56
                                    have HP58 := Kd.R_putg HO_5.out (x14_1 : Int) false
                                    go_wp2_with (first | ((with_reducible refine gate_store (t := 4) (p := 66) rfl ?_); refine store_event (t := 4) (p := 66) (v := ?vo_w59) (w1 := (wc.setCell ⟨go56, (x14_1 : Int).toNat, none⟩ (.bool false))) ?hg ?ho ?hn ?hr ?_; (case ho => rfl); (case hg => rfl); (case hn => rfl); (case hr => first | (go_simp; done) | (go_simp; rfl)); intro w59 hw; have hg : wc.grownBy w59 (some go56) := (by rw [hw]; exact HP58.2); have hp_ : Kd.R Kd.bool 4 w59 w.heap.size (fun _ => True) (.slice (some ⟨go56, 0, none⟩) x5_1.length co56) y177 := (by rw [hw, Ny177.out]; exact HP58.1); clear HP58; have n0_ := Aside0.mk (hp_); have n1_ := Aside0.mk (blk_grown (g := gb169) (o := .cells #[.int .i64 ((rd_T119 l0 x14_1).f0), .string ((rd_T119 l0 x14_1).f1), .int .i64 ((rd_T119 l0 x14_1).f2), .int .i64 ((rd_T119 l0 x14_1).f3)] 119 (0, 0)) (by (with_reducible repeat (first | refine blk_drewN ?_ _ | refine blk_drew ?_ | refine blk_alloc ?_ _)); exact BK169.out) hg (Kd.R_ne HO_5.out BK169.out (by decide))); have n2_ := Aside0.mk ((by rw [hw]; exact below_set (HB.out) GB56.out : Below w.heap.size w w59)); clear HO_5; clear BK169; clear HB; have HO_5 := n0_; have BK169 := n1_; have HB := n2_; clear n0_ n1_ n2_; clear hg hw hp_))
                                    go_roundg kj15
                                    case measure => have := HK1.out; have := HJ9.out; have := HJ15.out; omega
                                    case rel => exact ⟨(y177), (wrap64 (x14_1 + 1)), (by first | rfl | (simp; done) | (simp [*]; done)), H', ⟨by have := HK1.out; have := HJ9.out; have := HJ15.out; omega⟩, ⟨by (with_reducible repeat (first | apply Kd.R_alloc | apply Kd.R_drewN | apply Kd.R_drew)); exact HO_5.out⟩, ⟨by repeat (first | (with_reducible first | exact HB.out | apply below_alloc | apply pw_below_drewN | apply below_drew1 | refine below_set ?_ GE169.out) | exact HB.out)⟩⟩
                                  · rw [if_neg c55] at H
                                    exact absurd H (by simp)
                                · rw [if_neg c54] at H
                                  exact absurd H (by simp)
                            · rw [if_neg c44] at H
                              have c44b0 : (((rd_T119 l0 x14_1).f0) == 3) = false := beq_eq_false_iff_ne.mpr c44
                              have c44b1 : (((rd_T119 l0 x14_1).f0) != 3) = true := bne_iff_ne.mpr c44
                              by_cases c60 : ((rd_T119 l0 x14_1).f0) = 4
                              · rw [if_pos c60] at H
                                have c60b0 : (((rd_T119 l0 x14_1).f0) == 4) = true := beq_iff_eq.mpr c60
                                have c60b1 : (((rd_T119 l0 x14_1).f0) != 4) = false := bne_eq_false_iff_eq.mpr c60
                                clear c60
                                by_cases c61 : 0 ≤ ((rd_T119 l0 x14_1).f2)
                                · rw [if_pos c61] at H
                                  have c61b0 : decide (0 ≤ ((rd_T119 l0 x14_1).f2)) = true := decide_eq_true c61
                                  clear c61
                                  by_cases c62 : ((rd_T119 l0 x14_1).f2) < (x5_1.length : Int)
                                  · rw [if_pos c62] at H
                                    have c62b0 : decide (((rd_T119 l0 x14_1).f2) < (x5_1.length : Int)) = true := decide_eq_true c62
                                    clear c62
                                    by_cases c63 : 0 ≤ x14_1
                                    · rw [if_pos c63] at H
                                      have c63b0 : decide (0 ≤ x14_1) = true := decide_eq_true c63
                                      clear c63
                                      by_cases c64 : x14_1 < (x5_1.length : Int)
                                      · rw [if_pos c64] at H
                                        have c64b0 : decide (x14_1 < (x5_1.length : Int)) = true := decide_eq_true c64
                                        clear c64
                                        obtain ⟨y179, hy179⟩ : ∃ y_ : List Bool, y_ = (x5_1.set (x14_1 : Int).toNat (!(rdOf false x5_1 ((rd_T119 l0 x14_1).f2)))) := ⟨_, rfl⟩
                                        replace H : (interlock_holds.l0 kj15 l0 l1 y179 l0 (l0.length : Int) (wrap64 (x14_1 + 1))) = some r := by first | (rw [hy179]; with_reducible exact H) | (have H2_ := (Option.bind_some _ _).symm.trans H; rw [hy179]; with_reducible exact H2_) | (have H2_ := (Option.bind_some _ _).symm.trans H; with_reducible exact H2_) | with_reducible exact H | (rw [hy179]; exact H) | exact H
                                        have Ny179 := Aside0.mk hy179
                                        clear hy179
                                        have H' := Aside0.mk H
                                        clear H
                                        have hcz66_0 : wc.cell? ⟨gb169, 0, none⟩ = some (.int .i64 ((rd_T119 l0 x14_1).f0)) := (blk_cell BK169.out 0).trans rfl
                                        have hcz66_1 : wc.cell? ⟨gb169, 1, none⟩ = some (.string ((rd_T119 l0 x14_1).f1)) := (blk_cell BK169.out 1).trans rfl
                                        have hcz66_2 : wc.cell? ⟨gb169, 2, none⟩ = some (.int .i64 ((rd_T119 l0 x14_1).f2)) := (blk_cell BK169.out 2).trans rfl
                                        have hcz66_3 : wc.cell? ⟨gb169, 3, none⟩ = some (.int .i64 ((rd_T119 l0 x14_1).f3)) := (blk_cell BK169.out 3).trans rfl
                                        have hfz66_0 := blk_frozen BK169.out 0
                                        have hfz66_1 := blk_frozen BK169.out 1
                                        have hfz66_2 := blk_frozen BK169.out 2
                                        have hfz66_3 := blk_frozen BK169.out 3
                                        obtain ⟨Ao67, co67, eo67⟩ := Kd.R_slice HO_5.out
                                        subst eo67
                                        have p178 : 0 ≤ (((rd_T119 l0 x14_1).f2) : Int) := of_decide_eq_true (by first | (with_reducible assumption) | assumption)
                                        have q178 : ((rd_T119 l0 x14_1).f2) < (x5_1.length : Int) := of_decide_eq_true (by first | (with_reducible assumption) | assumption)
                                        obtain ⟨ad178, e178, hx178_0⟩ := Kd.at_bool (Kd.R_reads' HO_5.out).2.2 ((rd_T119 l0 x14_1).f2) p178 q178
                                        cases e178
                                        replace p178 := eq_true p178
                                        replace q178 := eq_true q178
                                        have p65 : 0 ≤ (x14_1 : Int) := of_decide_eq_true (by first | (with_reducible assumption) | assumption)
                                        have q65 : (x14_1 : Int) < ((x5_1.length : Int) : Int) := of_decide_eq_true (by first | (with_reducible assumption) | assumption)
                                        obtain ⟨go65, co65, eo65, gb65, gl65, cl65, HG65⟩ := Kd.R_form HO_5.out (by omega)
                                        (first | cases eo65 | (injection eo65 with ea_ en_ ec_; (first | subst ea_ | (injection ea_ with ea_; subst ea_)); subst ec_; clear en_))
                                        have GB65 := Aside0.mk gb65
                                        have GG65 := Aside0.mk HG65
                                        clear gb65 gl65 HG65
                                        (first | simp only [add_plain] at hx178_0 | skip)
                                        obtain ⟨hx65_0, hf65_0⟩ := Kd.R_celln false HO_5.out (x14_1 : Int) p65 q65
                                        replace p65 := eq_true p65
                                        replace q65 := eq_true q65
                                        have HP68 := Kd.R_putg HO_5.out (x14_1 : Int) (!(rdOf false x5_1 ((rd_T119 l0 x14_1).f2)))
                                        go_wp2_with (first | ((with_reducible refine gate_store (t := 4) (p := 77) rfl ?_); refine store_event (t := 4) (p := 77) (v := ?vo_w69) (w1 := (wc.setCell ⟨go65, (x14_1 : Int).toNat, none⟩ (.bool (!(rdOf false x5_1 ((rd_T119 l0 x14_1).f2)))))) ?hg ?ho ?hn ?hr ?_; (case ho => rfl); (case hg => rfl); (case hn => rfl); (case hr => first | (go_simp; done) | (go_simp; rfl)); intro w69 hw; have hg : wc.grownBy w69 (some go65) := (by rw [hw]; exact HP68.2); have hp_ : Kd.R Kd.bool 4 w69 w.heap.size (fun _ => True) (.slice (some ⟨go65, 0, none⟩) x5_1.length co67) y179 := (by rw [hw, Ny179.out]; exact HP68.1); clear HP68; have n0_ := Aside0.mk (hp_); have n1_ := Aside0.mk (blk_grown (g := gb169) (o := .cells #[.int .i64 ((rd_T119 l0 x14_1).f0), .string ((rd_T119 l0 x14_1).f1), .int .i64 ((rd_T119 l0 x14_1).f2), .int .i64 ((rd_T119 l0 x14_1).f3)] 119 (0, 0)) (by (with_reducible repeat (first | refine blk_drewN ?_ _ | refine blk_drew ?_ | refine blk_alloc ?_ _)); exact BK169.out) hg (Kd.R_ne HO_5.out BK169.out (by decide))); have n2_ := Aside0.mk ((by rw [hw]; exact below_set (HB.out) GB65.out : Below w.heap.size w w69)); clear HO_5; clear BK169; clear HB; have HO_5 := n0_; have BK169 := n1_; have HB := n2_; clear n0_ n1_ n2_; clear hg hw hp_))
                                        go_roundg kj15
                                        case measure => have := HK1.out; have := HJ9.out; have := HJ15.out; omega
                                        case rel => exact ⟨(y179), (wrap64 (x14_1 + 1)), (by first | rfl | (simp; done) | (simp [*]; done)), H', ⟨by have := HK1.out; have := HJ9.out; have := HJ15.out; omega⟩, ⟨by (with_reducible repeat (first | apply Kd.R_alloc | apply Kd.R_drewN | apply Kd.R_drew)); exact HO_5.out⟩, ⟨by repeat (first | (with_reducible first | exact HB.out | apply below_alloc | apply pw_below_drewN | apply below_drew1 | refine below_set ?_ GE169.out) | exact HB.out)⟩⟩
                                      · rw [if_neg c64] at H
                                        exact absurd H (by simp)
                                    · rw [if_neg c63] at H
                                      exact absurd H (by simp)
                                  · rw [if_neg c62] at H
                                    exact absurd H (by simp)
                                · rw [if_neg c61] at H
                                  exact absurd H (by simp)
                              · rw [if_neg c60] at H
                                have c60b0 : (((rd_T119 l0 x14_1).f0) == 4) = false := beq_eq_false_iff_ne.mpr c60
                                have c60b1 : (((rd_T119 l0 x14_1).f0) != 4) = true := bne_iff_ne.mpr c60
                                by_cases c70 : ((rd_T119 l0 x14_1).f0) = 5
                                · rw [if_pos c70] at H
                                  have c70b0 : (((rd_T119 l0 x14_1).f0) == 5) = true := beq_iff_eq.mpr c70
                                  have c70b1 : (((rd_T119 l0 x14_1).f0) != 5) = false := bne_eq_false_iff_eq.mpr c70
                                  clear c70
                                  by_cases c71 : 0 ≤ ((rd_T119 l0 x14_1).f2)
                                  · rw [if_pos c71] at H
                                    have c71b0 : decide (0 ≤ ((rd_T119 l0 x14_1).f2)) = true := decide_eq_true c71
                                    clear c71
                                    by_cases c72 : ((rd_T119 l0 x14_1).f2) < (x5_1.length : Int)
                                    · rw [if_pos c72] at H
                                      have c72b0 : decide (((rd_T119 l0 x14_1).f2) < (x5_1.length : Int)) = true := decide_eq_true c72
                                      clear c72
                                      obtain ⟨bq73, hbq73⟩ : ∃ b_ : Bool, b_ = (rdOf false x5_1 ((rd_T119 l0 x14_1).f2)) := ⟨_, rfl⟩
                                      replace H : (if bq73 = true then (if 0 ≤ ((rd_T119 l0 x14_1).f3) then (if ((rd_T119 l0 x14_1).f3) < (x5_1.length : Int) then (if 0 ≤ x14_1 then (if x14_1 < (x5_1.length : Int) then (interlock_holds.l0 kj15 l0 l1 (x5_1.set (x14_1 : Int).toNat (rdOf false x5_1 ((rd_T119 l0 x14_1).f3))) l0 (l0.length : Int) (wrap64 (x14_1 + 1))) else (none)) else (none)) else (none)) else (none)) else (if 0 ≤ x14_1 then (if x14_1 < (x5_1.length : Int) then (interlock_holds.l0 kj15 l0 l1 (x5_1.set (x14_1 : Int).toNat false) l0 (l0.length : Int) (wrap64 (x14_1 + 1))) else (none)) else (none))) = some r := by rw [← hbq73] at H; exact H
                                      have Nbq73 := Aside0.mk hbq73
                                      clear hbq73
                                      by_cases c74 : bq73 = true
                                      · subst c74
                                        have H1 : (if 0 ≤ ((rd_T119 l0 x14_1).f3) then (if ((rd_T119 l0 x14_1).f3) < (x5_1.length : Int) then (if 0 ≤ x14_1 then (if x14_1 < (x5_1.length : Int) then (interlock_holds.l0 kj15 l0 l1 (x5_1.set (x14_1 : Int).toNat (rdOf false x5_1 ((rd_T119 l0 x14_1).f3))) l0 (l0.length : Int) (wrap64 (x14_1 + 1))) else (none)) else (none)) else (none)) else (none)) = some r := by rw [if_pos rfl] at H; exact H
                                        clear H
                                        have H := H1
                                        clear H1
                                        by_cases c75 : 0 ≤ ((rd_T119 l0 x14_1).f3)
                                        · rw [if_pos c75] at H
                                          have c75b0 : decide (0 ≤ ((rd_T119 l0 x14_1).f3)) = true := decide_eq_true c75
                                          clear c75
                                          by_cases c76 : ((rd_T119 l0 x14_1).f3) < (x5_1.length : Int)
                                          · rw [if_pos c76] at H
                                            have c76b0 : decide (((rd_T119 l0 x14_1).f3) < (x5_1.length : Int)) = true := decide_eq_true c76
                                            clear c76
                                            by_cases c77 : 0 ≤ x14_1
                                            · rw [if_pos c77] at H
                                              have c77b0 : decide (0 ≤ x14_1) = true := decide_eq_true c77
                                              clear c77
                                              by_cases c78 : x14_1 < (x5_1.length : Int)
                                              · rw [if_pos c78] at H
                                                have c78b0 : decide (x14_1 < (x5_1.length : Int)) = true := decide_eq_true c78
                                                clear c78
                                                obtain ⟨y182, hy182⟩ : ∃ y_ : List Bool, y_ = (x5_1.set (x14_1 : Int).toNat (rdOf false x5_1 ((rd_T119 l0 x14_1).f3))) := ⟨_, rfl⟩
                                                replace H : (interlock_holds.l0 kj15 l0 l1 y182 l0 (l0.length : Int) (wrap64 (x14_1 + 1))) = some r := by first | (rw [hy182]; with_reducible exact H) | (have H2_ := (Option.bind_some _ _).symm.trans H; rw [hy182]; with_reducible exact H2_) | (have H2_ := (Option.bind_some _ _).symm.trans H; with_reducible exact H2_) | with_reducible exact H | (rw [hy182]; exact H) | exact H
                                                have Ny182 := Aside0.mk hy182
                                                clear hy182
                                                have H' := Aside0.mk H
                                                clear H
                                                have hcz80_0 : wc.cell? ⟨gb169, 0, none⟩ = some (.int .i64 ((rd_T119 l0 x14_1).f0)) := (blk_cell BK169.out 0).trans rfl
                                                have hcz80_1 : wc.cell? ⟨gb169, 1, none⟩ = some (.string ((rd_T119 l0 x14_1).f1)) := (blk_cell BK169.out 1).trans rfl
                                                have hcz80_2 : wc.cell? ⟨gb169, 2, none⟩ = some (.int .i64 ((rd_T119 l0 x14_1).f2)) := (blk_cell BK169.out 2).trans rfl
                                                have hcz80_3 : wc.cell? ⟨gb169, 3, none⟩ = some (.int .i64 ((rd_T119 l0 x14_1).f3)) := (blk_cell BK169.out 3).trans rfl
                                                have hfz80_0 := blk_frozen BK169.out 0
                                                have hfz80_1 := blk_frozen BK169.out 1
                                                have hfz80_2 := blk_frozen BK169.out 2
                                                have hfz80_3 := blk_frozen BK169.out 3
                                                obtain ⟨Ao81, co81, eo81⟩ := Kd.R_slice HO_5.out
                                                subst eo81
                                                have p180 : 0 ≤ (((rd_T119 l0 x14_1).f2) : Int) := of_decide_eq_true (by first | (with_reducible assumption) | assumption)
                                                have q180 : ((rd_T119 l0 x14_1).f2) < (x5_1.length : Int) := of_decide_eq_true (by first | (with_reducible assumption) | assumption)
                                                obtain ⟨ad180, e180, hx180_0⟩ := Kd.at_bool (Kd.R_reads' HO_5.out).2.2 ((rd_T119 l0 x14_1).f2) p180 q180
                                                (try rw [← Nbq73.out] at hx180_0)
                                                cases e180
                                                replace p180 := eq_true p180
                                                replace q180 := eq_true q180
                                                have p181 : 0 ≤ (((rd_T119 l0 x14_1).f3) : Int) := of_decide_eq_true (by first | (with_reducible assumption) | assumption)
                                                have q181 : ((rd_T119 l0 x14_1).f3) < (x5_1.length : Int) := of_decide_eq_true (by first | (with_reducible assumption) | assumption)
                                                obtain ⟨ad181, e181, hx181_0⟩ := Kd.at_bool (Kd.R_reads' HO_5.out).2.2 ((rd_T119 l0 x14_1).f3) p181 q181
                                                (try rw [← Nbq73.out] at hx181_0)
                                                obtain rfl : ad180 = ad181 := (by injection e181)
                                                replace p181 := eq_true p181
                                                replace q181 := eq_true q181
                                                have p79 : 0 ≤ (x14_1 : Int) := of_decide_eq_true (by first | (with_reducible assumption) | assumption)
                                                have q79 : (x14_1 : Int) < ((x5_1.length : Int) : Int) := of_decide_eq_true (by first | (with_reducible assumption) | assumption)
                                                obtain ⟨go79, co79, eo79, gb79, gl79, cl79, HG79⟩ := Kd.R_form HO_5.out (by omega)
                                                (first | cases eo79 | (injection eo79 with ea_ en_ ec_; (first | subst ea_ | (injection ea_ with ea_; subst ea_)); subst ec_; clear en_))
                                                have GB79 := Aside0.mk gb79
                                                have GG79 := Aside0.mk HG79
                                                clear gb79 gl79 HG79
                                                (first | simp only [add_plain] at hx180_0 | skip)
                                                (first | simp only [add_plain] at hx181_0 | skip)
                                                obtain ⟨hx79_0, hf79_0⟩ := Kd.R_celln false HO_5.out (x14_1 : Int) p79 q79
                                                replace p79 := eq_true p79
                                                replace q79 := eq_true q79
                                                have HP82 := Kd.R_putg HO_5.out (x14_1 : Int) (rdOf false x5_1 ((rd_T119 l0 x14_1).f3))
                                                go_wp2_with (first | ((with_reducible refine gate_store (t := 4) (p := 94) rfl ?_); refine store_event (t := 4) (p := 94) (v := ?vo_w83) (w1 := (wc.setCell ⟨go79, (x14_1 : Int).toNat, none⟩ (.bool (rdOf false x5_1 ((rd_T119 l0 x14_1).f3))))) ?hg ?ho ?hn ?hr ?_; (case ho => rfl); (case hg => rfl); (case hn => rfl); (case hr => first | (go_simp; done) | (go_simp; rfl)); intro w83 hw; have hg : wc.grownBy w83 (some go79) := (by rw [hw]; exact HP82.2); have hp_ : Kd.R Kd.bool 4 w83 w.heap.size (fun _ => True) (.slice (some ⟨go79, 0, none⟩) x5_1.length co81) y182 := (by rw [hw, Ny182.out]; exact HP82.1); clear HP82; have n0_ := Aside0.mk (hp_); have n1_ := Aside0.mk (blk_grown (g := gb169) (o := .cells #[.int .i64 ((rd_T119 l0 x14_1).f0), .string ((rd_T119 l0 x14_1).f1), .int .i64 ((rd_T119 l0 x14_1).f2), .int .i64 ((rd_T119 l0 x14_1).f3)] 119 (0, 0)) (by (with_reducible repeat (first | refine blk_drewN ?_ _ | refine blk_drew ?_ | refine blk_alloc ?_ _)); exact BK169.out) hg (Kd.R_ne HO_5.out BK169.out (by decide))); have n2_ := Aside0.mk ((by rw [hw]; exact below_set (HB.out) GB79.out : Below w.heap.size w w83)); clear HO_5; clear BK169; clear HB; have HO_5 := n0_; have BK169 := n1_; have HB := n2_; clear n0_ n1_ n2_; clear hg hw hp_))
                                                go_roundg kj15
                                                case measure => have := HK1.out; have := HJ9.out; have := HJ15.out; omega
                                                case rel => exact ⟨(y182), (wrap64 (x14_1 + 1)), (by first | rfl | (simp; done) | (simp [*]; done)), H', ⟨by have := HK1.out; have := HJ9.out; have := HJ15.out; omega⟩, ⟨by (with_reducible repeat (first | apply Kd.R_alloc | apply Kd.R_drewN | apply Kd.R_drew)); exact HO_5.out⟩, ⟨by repeat (first | (with_reducible first | exact HB.out | apply below_alloc | apply pw_below_drewN | apply below_drew1 | refine below_set ?_ GE169.out) | exact HB.out)⟩⟩
                                              · rw [if_neg c78] at H
                                                exact absurd H (by simp)
                                            · rw [if_neg c77] at H
                                              exact absurd H (by simp)
                                          · rw [if_neg c76] at H
                                            exact absurd H (by simp)
                                        · rw [if_neg c75] at H
                                          exact absurd H (by simp)
                                      · replace c74 := Bool.eq_false_iff.mpr c74
                                        subst c74
                                        have H1 : (if 0 ≤ x14_1 then (if x14_1 < (x5_1.length : Int) then (interlock_holds.l0 kj15 l0 l1 (x5_1.set (x14_1 : Int).toNat false) l0 (l0.length : Int) (wrap64 (x14_1 + 1))) else (none)) else (none)) = some r := by rw [if_neg (show ¬ (false = true) by decide)] at H; exact H
                                        clear H
                                        have H := H1
                                        clear H1
                                        by_cases c84 : 0 ≤ x14_1
                                        · rw [if_pos c84] at H
                                          have c84b0 : decide (0 ≤ x14_1) = true := decide_eq_true c84
                                          clear c84
                                          by_cases c85 : x14_1 < (x5_1.length : Int)
                                          · rw [if_pos c85] at H
                                            have c85b0 : decide (x14_1 < (x5_1.length : Int)) = true := decide_eq_true c85
                                            clear c85
                                            obtain ⟨y183, hy183⟩ : ∃ y_ : List Bool, y_ = (x5_1.set (x14_1 : Int).toNat false) := ⟨_, rfl⟩
                                            replace H : (interlock_holds.l0 kj15 l0 l1 y183 l0 (l0.length : Int) (wrap64 (x14_1 + 1))) = some r := by first | (rw [hy183]; with_reducible exact H) | (have H2_ := (Option.bind_some _ _).symm.trans H; rw [hy183]; with_reducible exact H2_) | (have H2_ := (Option.bind_some _ _).symm.trans H; with_reducible exact H2_) | with_reducible exact H | (rw [hy183]; exact H) | exact H
                                            have Ny183 := Aside0.mk hy183
                                            clear hy183
                                            have H' := Aside0.mk H
                                            clear H
                                            have hcz87_0 : wc.cell? ⟨gb169, 0, none⟩ = some (.int .i64 ((rd_T119 l0 x14_1).f0)) := (blk_cell BK169.out 0).trans rfl
                                            have hcz87_1 : wc.cell? ⟨gb169, 1, none⟩ = some (.string ((rd_T119 l0 x14_1).f1)) := (blk_cell BK169.out 1).trans rfl
                                            have hcz87_2 : wc.cell? ⟨gb169, 2, none⟩ = some (.int .i64 ((rd_T119 l0 x14_1).f2)) := (blk_cell BK169.out 2).trans rfl
                                            have hcz87_3 : wc.cell? ⟨gb169, 3, none⟩ = some (.int .i64 ((rd_T119 l0 x14_1).f3)) := (blk_cell BK169.out 3).trans rfl
                                            have hfz87_0 := blk_frozen BK169.out 0
                                            have hfz87_1 := blk_frozen BK169.out 1
                                            have hfz87_2 := blk_frozen BK169.out 2
                                            have hfz87_3 := blk_frozen BK169.out 3
                                            obtain ⟨Ao88, co88, eo88⟩ := Kd.R_slice HO_5.out
                                            subst eo88
                                            have p180 : 0 ≤ (((rd_T119 l0 x14_1).f2) : Int) := of_decide_eq_true (by first | (with_reducible assumption) | assumption)
                                            have q180 : ((rd_T119 l0 x14_1).f2) < (x5_1.length : Int) := of_decide_eq_true (by first | (with_reducible assumption) | assumption)
                                            obtain ⟨ad180, e180, hx180_0⟩ := Kd.at_bool (Kd.R_reads' HO_5.out).2.2 ((rd_T119 l0 x14_1).f2) p180 q180
                                            (try rw [← Nbq73.out] at hx180_0)
                                            cases e180
                                            replace p180 := eq_true p180
                                            replace q180 := eq_true q180
                                            have p86 : 0 ≤ (x14_1 : Int) := of_decide_eq_true (by first | (with_reducible assumption) | assumption)
                                            have q86 : (x14_1 : Int) < ((x5_1.length : Int) : Int) := of_decide_eq_true (by first | (with_reducible assumption) | assumption)
                                            obtain ⟨go86, co86, eo86, gb86, gl86, cl86, HG86⟩ := Kd.R_form HO_5.out (by omega)
                                            (first | cases eo86 | (injection eo86 with ea_ en_ ec_; (first | subst ea_ | (injection ea_ with ea_; subst ea_)); subst ec_; clear en_))
                                            have GB86 := Aside0.mk gb86
                                            have GG86 := Aside0.mk HG86
                                            clear gb86 gl86 HG86
                                            (first | simp only [add_plain] at hx180_0 | skip)
                                            obtain ⟨hx86_0, hf86_0⟩ := Kd.R_celln false HO_5.out (x14_1 : Int) p86 q86
                                            replace p86 := eq_true p86
                                            replace q86 := eq_true q86
                                            have HP89 := Kd.R_putg HO_5.out (x14_1 : Int) false
                                            go_wp2_with (first | ((with_reducible refine gate_store (t := 4) (p := 94) rfl ?_); refine store_event (t := 4) (p := 94) (v := ?vo_w90) (w1 := (wc.setCell ⟨go86, (x14_1 : Int).toNat, none⟩ (.bool false))) ?hg ?ho ?hn ?hr ?_; (case ho => rfl); (case hg => rfl); (case hn => rfl); (case hr => first | (go_simp; done) | (go_simp; rfl)); intro w90 hw; have hg : wc.grownBy w90 (some go86) := (by rw [hw]; exact HP89.2); have hp_ : Kd.R Kd.bool 4 w90 w.heap.size (fun _ => True) (.slice (some ⟨go86, 0, none⟩) x5_1.length co88) y183 := (by rw [hw, Ny183.out]; exact HP89.1); clear HP89; have n0_ := Aside0.mk (hp_); have n1_ := Aside0.mk (blk_grown (g := gb169) (o := .cells #[.int .i64 ((rd_T119 l0 x14_1).f0), .string ((rd_T119 l0 x14_1).f1), .int .i64 ((rd_T119 l0 x14_1).f2), .int .i64 ((rd_T119 l0 x14_1).f3)] 119 (0, 0)) (by (with_reducible repeat (first | refine blk_drewN ?_ _ | refine blk_drew ?_ | refine blk_alloc ?_ _)); exact BK169.out) hg (Kd.R_ne HO_5.out BK169.out (by decide))); have n2_ := Aside0.mk ((by rw [hw]; exact below_set (HB.out) GB86.out : Below w.heap.size w w90)); clear HO_5; clear BK169; clear HB; have HO_5 := n0_; have BK169 := n1_; have HB := n2_; clear n0_ n1_ n2_; clear hg hw hp_))
                                            go_roundg kj15
                                            case measure => have := HK1.out; have := HJ9.out; have := HJ15.out; omega
                                            case rel => exact ⟨(y183), (wrap64 (x14_1 + 1)), (by first | rfl | (simp; done) | (simp [*]; done)), H', ⟨by have := HK1.out; have := HJ9.out; have := HJ15.out; omega⟩, ⟨by (with_reducible repeat (first | apply Kd.R_alloc | apply Kd.R_drewN | apply Kd.R_drew)); exact HO_5.out⟩, ⟨by repeat (first | (with_reducible first | exact HB.out | apply below_alloc | apply pw_below_drewN | apply below_drew1 | refine below_set ?_ GE169.out) | exact HB.out)⟩⟩
                                          · rw [if_neg c85] at H
                                            exact absurd H (by simp)
                                        · rw [if_neg c84] at H
                                          exact absurd H (by simp)
                                    · rw [if_neg c72] at H
                                      exact absurd H (by simp)
                                  · rw [if_neg c71] at H
                                    exact absurd H (by simp)
                                · rw [if_neg c70] at H
                                  have c70b0 : (((rd_T119 l0 x14_1).f0) == 5) = false := beq_eq_false_iff_ne.mpr c70
                                  have c70b1 : (((rd_T119 l0 x14_1).f0) != 5) = true := bne_iff_ne.mpr c70
                                  by_cases c91 : ((rd_T119 l0 x14_1).f0) = 6
                                  · rw [if_pos c91] at H
                                    have c91b0 : (((rd_T119 l0 x14_1).f0) == 6) = true := beq_iff_eq.mpr c91
                                    have c91b1 : (((rd_T119 l0 x14_1).f0) != 6) = false := bne_eq_false_iff_eq.mpr c91
                                    clear c91
                                    by_cases c92 : 0 ≤ ((rd_T119 l0 x14_1).f2)
                                    · rw [if_pos c92] at H
                                      have c92b0 : decide (0 ≤ ((rd_T119 l0 x14_1).f2)) = true := decide_eq_true c92
                                      clear c92
                                      by_cases c93 : ((rd_T119 l0 x14_1).f2) < (x5_1.length : Int)
                                      · rw [if_pos c93] at H
                                        have c93b0 : decide (((rd_T119 l0 x14_1).f2) < (x5_1.length : Int)) = true := decide_eq_true c93
                                        clear c93
                                        obtain ⟨bq94, hbq94⟩ : ∃ b_ : Bool, b_ = (rdOf false x5_1 ((rd_T119 l0 x14_1).f2)) := ⟨_, rfl⟩
                                        replace H : (if bq94 = true then (if 0 ≤ x14_1 then (if x14_1 < (x5_1.length : Int) then (interlock_holds.l0 kj15 l0 l1 (x5_1.set (x14_1 : Int).toNat true) l0 (l0.length : Int) (wrap64 (x14_1 + 1))) else (none)) else (none)) else (if 0 ≤ ((rd_T119 l0 x14_1).f3) then (if ((rd_T119 l0 x14_1).f3) < (x5_1.length : Int) then (if 0 ≤ x14_1 then (if x14_1 < (x5_1.length : Int) then (interlock_holds.l0 kj15 l0 l1 (x5_1.set (x14_1 : Int).toNat (rdOf false x5_1 ((rd_T119 l0 x14_1).f3))) l0 (l0.length : Int) (wrap64 (x14_1 + 1))) else (none)) else (none)) else (none)) else (none))) = some r := by rw [← hbq94] at H; exact H
                                        have Nbq94 := Aside0.mk hbq94
                                        clear hbq94
                                        by_cases c95 : bq94 = true
                                        · subst c95
                                          have H1 : (if 0 ≤ x14_1 then (if x14_1 < (x5_1.length : Int) then (interlock_holds.l0 kj15 l0 l1 (x5_1.set (x14_1 : Int).toNat true) l0 (l0.length : Int) (wrap64 (x14_1 + 1))) else (none)) else (none)) = some r := by rw [if_pos rfl] at H; exact H
                                          clear H
                                          have H := H1
                                          clear H1
                                          by_cases c96 : 0 ≤ x14_1
                                          · rw [if_pos c96] at H
                                            have c96b0 : decide (0 ≤ x14_1) = true := decide_eq_true c96
                                            clear c96
                                            by_cases c97 : x14_1 < (x5_1.length : Int)
                                            · rw [if_pos c97] at H
                                              have c97b0 : decide (x14_1 < (x5_1.length : Int)) = true := decide_eq_true c97
                                              clear c97
                                              obtain ⟨y185, hy185⟩ : ∃ y_ : List Bool, y_ = (x5_1.set (x14_1 : Int).toNat true) := ⟨_, rfl⟩
                                              replace H : (interlock_holds.l0 kj15 l0 l1 y185 l0 (l0.length : Int) (wrap64 (x14_1 + 1))) = some r := by first | (rw [hy185]; with_reducible exact H) | (have H2_ := (Option.bind_some _ _).symm.trans H; rw [hy185]; with_reducible exact H2_) | (have H2_ := (Option.bind_some _ _).symm.trans H; with_reducible exact H2_) | with_reducible exact H | (rw [hy185]; exact H) | exact H
                                              have Ny185 := Aside0.mk hy185
                                              clear hy185
                                              have H' := Aside0.mk H
                                              clear H
                                              have hcz99_0 : wc.cell? ⟨gb169, 0, none⟩ = some (.int .i64 ((rd_T119 l0 x14_1).f0)) := (blk_cell BK169.out 0).trans rfl
                                              have hcz99_1 : wc.cell? ⟨gb169, 1, none⟩ = some (.string ((rd_T119 l0 x14_1).f1)) := (blk_cell BK169.out 1).trans rfl
                                              have hcz99_2 : wc.cell? ⟨gb169, 2, none⟩ = some (.int .i64 ((rd_T119 l0 x14_1).f2)) := (blk_cell BK169.out 2).trans rfl
                                              have hcz99_3 : wc.cell? ⟨gb169, 3, none⟩ = some (.int .i64 ((rd_T119 l0 x14_1).f3)) := (blk_cell BK169.out 3).trans rfl
                                              have hfz99_0 := blk_frozen BK169.out 0
                                              have hfz99_1 := blk_frozen BK169.out 1
                                              have hfz99_2 := blk_frozen BK169.out 2
                                              have hfz99_3 := blk_frozen BK169.out 3
                                              obtain ⟨Ao100, co100, eo100⟩ := Kd.R_slice HO_5.out
                                              subst eo100
                                              have p184 : 0 ≤ (((rd_T119 l0 x14_1).f2) : Int) := of_decide_eq_true (by first | (with_reducible assumption) | assumption)
                                              have q184 : ((rd_T119 l0 x14_1).f2) < (x5_1.length : Int) := of_decide_eq_true (by first | (with_reducible assumption) | assumption)
                                              obtain ⟨ad184, e184, hx184_0⟩ := Kd.at_bool (Kd.R_reads' HO_5.out).2.2 ((rd_T119 l0 x14_1).f2) p184 q184
                                              (try rw [← Nbq94.out] at hx184_0)
                                              cases e184
                                              replace p184 := eq_true p184
                                              replace q184 := eq_true q184
                                              have p98 : 0 ≤ (x14_1 : Int) := of_decide_eq_true (by first | (with_reducible assumption) | assumption)
                                              have q98 : (x14_1 : Int) < ((x5_1.length : Int) : Int) := of_decide_eq_true (by first | (with_reducible assumption) | assumption)
                                              obtain ⟨go98, co98, eo98, gb98, gl98, cl98, HG98⟩ := Kd.R_form HO_5.out (by omega)
                                              (first | cases eo98 | (injection eo98 with ea_ en_ ec_; (first | subst ea_ | (injection ea_ with ea_; subst ea_)); subst ec_; clear en_))
                                              have GB98 := Aside0.mk gb98
                                              have GG98 := Aside0.mk HG98
                                              clear gb98 gl98 HG98
                                              (first | simp only [add_plain] at hx184_0 | skip)
                                              obtain ⟨hx98_0, hf98_0⟩ := Kd.R_celln false HO_5.out (x14_1 : Int) p98 q98
                                              replace p98 := eq_true p98
                                              replace q98 := eq_true q98
                                              have HP101 := Kd.R_putg HO_5.out (x14_1 : Int) true
                                              go_wp2_with (first | ((with_reducible refine gate_store (t := 4) (p := 111) rfl ?_); refine store_event (t := 4) (p := 111) (v := ?vo_w102) (w1 := (wc.setCell ⟨go98, (x14_1 : Int).toNat, none⟩ (.bool true))) ?hg ?ho ?hn ?hr ?_; (case ho => rfl); (case hg => rfl); (case hn => rfl); (case hr => first | (go_simp; done) | (go_simp; rfl)); intro w102 hw; have hg : wc.grownBy w102 (some go98) := (by rw [hw]; exact HP101.2); have hp_ : Kd.R Kd.bool 4 w102 w.heap.size (fun _ => True) (.slice (some ⟨go98, 0, none⟩) x5_1.length co100) y185 := (by rw [hw, Ny185.out]; exact HP101.1); clear HP101; have n0_ := Aside0.mk (hp_); have n1_ := Aside0.mk (blk_grown (g := gb169) (o := .cells #[.int .i64 ((rd_T119 l0 x14_1).f0), .string ((rd_T119 l0 x14_1).f1), .int .i64 ((rd_T119 l0 x14_1).f2), .int .i64 ((rd_T119 l0 x14_1).f3)] 119 (0, 0)) (by (with_reducible repeat (first | refine blk_drewN ?_ _ | refine blk_drew ?_ | refine blk_alloc ?_ _)); exact BK169.out) hg (Kd.R_ne HO_5.out BK169.out (by decide))); have n2_ := Aside0.mk ((by rw [hw]; exact below_set (HB.out) GB98.out : Below w.heap.size w w102)); clear HO_5; clear BK169; clear HB; have HO_5 := n0_; have BK169 := n1_; have HB := n2_; clear n0_ n1_ n2_; clear hg hw hp_))
                                              go_roundg kj15
                                              case measure => have := HK1.out; have := HJ9.out; have := HJ15.out; omega
                                              case rel => exact ⟨(y185), (wrap64 (x14_1 + 1)), (by first | rfl | (simp; done) | (simp [*]; done)), H', ⟨by have := HK1.out; have := HJ9.out; have := HJ15.out; omega⟩, ⟨by (with_reducible repeat (first | apply Kd.R_alloc | apply Kd.R_drewN | apply Kd.R_drew)); exact HO_5.out⟩, ⟨by repeat (first | (with_reducible first | exact HB.out | apply below_alloc | apply pw_below_drewN | apply below_drew1 | refine below_set ?_ GE169.out) | exact HB.out)⟩⟩
                                            · rw [if_neg c97] at H
                                              exact absurd H (by simp)
                                          · rw [if_neg c96] at H
                                            exact absurd H (by simp)
                                        · replace c95 := Bool.eq_false_iff.mpr c95
                                          subst c95
                                          have H1 : (if 0 ≤ ((rd_T119 l0 x14_1).f3) then (if ((rd_T119 l0 x14_1).f3) < (x5_1.length : Int) then (if 0 ≤ x14_1 then (if x14_1 < (x5_1.length : Int) then (interlock_holds.l0 kj15 l0 l1 (x5_1.set (x14_1 : Int).toNat (rdOf false x5_1 ((rd_T119 l0 x14_1).f3))) l0 (l0.length : Int) (wrap64 (x14_1 + 1))) else (none)) else (none)) else (none)) else (none)) = some r := by rw [if_neg (show ¬ (false = true) by decide)] at H; exact H
                                          clear H
                                          have H := H1
                                          clear H1
                                          by_cases c103 : 0 ≤ ((rd_T119 l0 x14_1).f3)
                                          · rw [if_pos c103] at H
                                            have c103b0 : decide (0 ≤ ((rd_T119 l0 x14_1).f3)) = true := decide_eq_true c103
                                            clear c103
                                            by_cases c104 : ((rd_T119 l0 x14_1).f3) < (x5_1.length : Int)
                                            · rw [if_pos c104] at H
                                              have c104b0 : decide (((rd_T119 l0 x14_1).f3) < (x5_1.length : Int)) = true := decide_eq_true c104
                                              clear c104
                                              by_cases c105 : 0 ≤ x14_1
                                              · rw [if_pos c105] at H
                                                have c105b0 : decide (0 ≤ x14_1) = true := decide_eq_true c105
                                                clear c105
                                                by_cases c106 : x14_1 < (x5_1.length : Int)
                                                · rw [if_pos c106] at H
                                                  have c106b0 : decide (x14_1 < (x5_1.length : Int)) = true := decide_eq_true c106
                                                  clear c106
                                                  obtain ⟨y187, hy187⟩ : ∃ y_ : List Bool, y_ = (x5_1.set (x14_1 : Int).toNat (rdOf false x5_1 ((rd_T119 l0 x14_1).f3))) := ⟨_, rfl⟩
                                                  replace H : (interlock_holds.l0 kj15 l0 l1 y187 l0 (l0.length : Int) (wrap64 (x14_1 + 1))) = some r := by first | (rw [hy187]; with_reducible exact H) | (have H2_ := (Option.bind_some _ _).symm.trans H; rw [hy187]; with_reducible exact H2_) | (have H2_ := (Option.bind_some _ _).symm.trans H; with_reducible exact H2_) | with_reducible exact H | (rw [hy187]; exact H) | exact H
                                                  have Ny187 := Aside0.mk hy187
                                                  clear hy187
                                                  have H' := Aside0.mk H
                                                  clear H
                                                  have hcz108_0 : wc.cell? ⟨gb169, 0, none⟩ = some (.int .i64 ((rd_T119 l0 x14_1).f0)) := (blk_cell BK169.out 0).trans rfl
                                                  have hcz108_1 : wc.cell? ⟨gb169, 1, none⟩ = some (.string ((rd_T119 l0 x14_1).f1)) := (blk_cell BK169.out 1).trans rfl
                                                  have hcz108_2 : wc.cell? ⟨gb169, 2, none⟩ = some (.int .i64 ((rd_T119 l0 x14_1).f2)) := (blk_cell BK169.out 2).trans rfl
                                                  have hcz108_3 : wc.cell? ⟨gb169, 3, none⟩ = some (.int .i64 ((rd_T119 l0 x14_1).f3)) := (blk_cell BK169.out 3).trans rfl
                                                  have hfz108_0 := blk_frozen BK169.out 0
                                                  have hfz108_1 := blk_frozen BK169.out 1
                                                  have hfz108_2 := blk_frozen BK169.out 2
                                                  have hfz108_3 := blk_frozen BK169.out 3
                                                  obtain ⟨Ao109, co109, eo109⟩ := Kd.R_slice HO_5.out
                                                  subst eo109
                                                  have p184 : 0 ≤ (((rd_T119 l0 x14_1).f2) : Int) := of_decide_eq_true (by first | (with_reducible assumption) | assumption)
                                                  have q184 : ((rd_T119 l0 x14_1).f2) < (x5_1.length : Int) := of_decide_eq_true (by first | (with_reducible assumption) | assumption)
                                                  obtain ⟨ad184, e184, hx184_0⟩ := Kd.at_bool (Kd.R_reads' HO_5.out).2.2 ((rd_T119 l0 x14_1).f2) p184 q184
                                                  (try rw [← Nbq94.out] at hx184_0)
                                                  cases e184
                                                  replace p184 := eq_true p184
                                                  replace q184 := eq_true q184
                                                  have p186 : 0 ≤ (((rd_T119 l0 x14_1).f3) : Int) := of_decide_eq_true (by first | (with_reducible assumption) | assumption)
                                                  have q186 : ((rd_T119 l0 x14_1).f3) < (x5_1.length : Int) := of_decide_eq_true (by first | (with_reducible assumption) | assumption)
                                                  obtain ⟨ad186, e186, hx186_0⟩ := Kd.at_bool (Kd.R_reads' HO_5.out).2.2 ((rd_T119 l0 x14_1).f3) p186 q186
                                                  (try rw [← Nbq94.out] at hx186_0)
                                                  obtain rfl : ad184 = ad186 := (by injection e186)
                                                  replace p186 := eq_true p186
                                                  replace q186 := eq_true q186
                                                  have p107 : 0 ≤ (x14_1 : Int) := of_decide_eq_true (by first | (with_reducible assumption) | assumption)
                                                  have q107 : (x14_1 : Int) < ((x5_1.length : Int) : Int) := of_decide_eq_true (by first | (with_reducible assumption) | assumption)
                                                  obtain ⟨go107, co107, eo107, gb107, gl107, cl107, HG107⟩ := Kd.R_form HO_5.out (by omega)
                                                  (first | cases eo107 | (injection eo107 with ea_ en_ ec_; (first | subst ea_ | (injection ea_ with ea_; subst ea_)); subst ec_; clear en_))
                                                  have GB107 := Aside0.mk gb107
                                                  have GG107 := Aside0.mk HG107
                                                  clear gb107 gl107 HG107
                                                  (first | simp only [add_plain] at hx184_0 | skip)
                                                  (first | simp only [add_plain] at hx186_0 | skip)
                                                  obtain ⟨hx107_0, hf107_0⟩ := Kd.R_celln false HO_5.out (x14_1 : Int) p107 q107
                                                  replace p107 := eq_true p107
                                                  replace q107 := eq_true q107
                                                  have HP110 := Kd.R_putg HO_5.out (x14_1 : Int) (rdOf false x5_1 ((rd_T119 l0 x14_1).f3))
                                                  go_wp2_with (first | ((with_reducible refine gate_store (t := 4) (p := 111) rfl ?_); refine store_event (t := 4) (p := 111) (v := ?vo_w111) (w1 := (wc.setCell ⟨go107, (x14_1 : Int).toNat, none⟩ (.bool (rdOf false x5_1 ((rd_T119 l0 x14_1).f3))))) ?hg ?ho ?hn ?hr ?_; (case ho => rfl); (case hg => rfl); (case hn => rfl); (case hr => first | (go_simp; done) | (go_simp; rfl)); intro w111 hw; have hg : wc.grownBy w111 (some go107) := (by rw [hw]; exact HP110.2); have hp_ : Kd.R Kd.bool 4 w111 w.heap.size (fun _ => True) (.slice (some ⟨go107, 0, none⟩) x5_1.length co109) y187 := (by rw [hw, Ny187.out]; exact HP110.1); clear HP110; have n0_ := Aside0.mk (hp_); have n1_ := Aside0.mk (blk_grown (g := gb169) (o := .cells #[.int .i64 ((rd_T119 l0 x14_1).f0), .string ((rd_T119 l0 x14_1).f1), .int .i64 ((rd_T119 l0 x14_1).f2), .int .i64 ((rd_T119 l0 x14_1).f3)] 119 (0, 0)) (by (with_reducible repeat (first | refine blk_drewN ?_ _ | refine blk_drew ?_ | refine blk_alloc ?_ _)); exact BK169.out) hg (Kd.R_ne HO_5.out BK169.out (by decide))); have n2_ := Aside0.mk ((by rw [hw]; exact below_set (HB.out) GB107.out : Below w.heap.size w w111)); clear HO_5; clear BK169; clear HB; have HO_5 := n0_; have BK169 := n1_; have HB := n2_; clear n0_ n1_ n2_; clear hg hw hp_))
                                                  go_roundg kj15
                                                  case measure => have := HK1.out; have := HJ9.out; have := HJ15.out; omega
                                                  case rel => exact ⟨(y187), (wrap64 (x14_1 + 1)), (by first | rfl | (simp; done) | (simp [*]; done)), H', ⟨by have := HK1.out; have := HJ9.out; have := HJ15.out; omega⟩, ⟨by (with_reducible repeat (first | apply Kd.R_alloc | apply Kd.R_drewN | apply Kd.R_drew)); exact HO_5.out⟩, ⟨by repeat (first | (with_reducible first | exact HB.out | apply below_alloc | apply pw_below_drewN | apply below_drew1 | refine below_set ?_ GE169.out) | exact HB.out)⟩⟩
                                                · rw [if_neg c106] at H
                                                  exact absurd H (by simp)
                                              · rw [if_neg c105] at H
                                                exact absurd H (by simp)
                                            · rw [if_neg c104] at H
                                              exact absurd H (by simp)
                                          · rw [if_neg c103] at H
                                            exact absurd H (by simp)
                                      · rw [if_neg c93] at H
                                        exact absurd H (by simp)
                                    · rw [if_neg c92] at H
                                      exact absurd H (by simp)
                                  · rw [if_neg c91] at H
                                    have c91b0 : (((rd_T119 l0 x14_1).f0) == 6) = false := beq_eq_false_iff_ne.mpr c91
                                    have c91b1 : (((rd_T119 l0 x14_1).f0) != 6) = true := bne_iff_ne.mpr c91
                                    have H' := Aside0.mk H
                                    clear H
                                    have hcz112_0 : wc.cell? ⟨gb169, 0, none⟩ = some (.int .i64 ((rd_T119 l0 x14_1).f0)) := (blk_cell BK169.out 0).trans rfl
                                    have hcz112_1 : wc.cell? ⟨gb169, 1, none⟩ = some (.string ((rd_T119 l0 x14_1).f1)) := (blk_cell BK169.out 1).trans rfl
                                    have hcz112_2 : wc.cell? ⟨gb169, 2, none⟩ = some (.int .i64 ((rd_T119 l0 x14_1).f2)) := (blk_cell BK169.out 2).trans rfl
                                    have hcz112_3 : wc.cell? ⟨gb169, 3, none⟩ = some (.int .i64 ((rd_T119 l0 x14_1).f3)) := (blk_cell BK169.out 3).trans rfl
                                    have hfz112_0 := blk_frozen BK169.out 0
                                    have hfz112_1 := blk_frozen BK169.out 1
                                    have hfz112_2 := blk_frozen BK169.out 2
                                    have hfz112_3 := blk_frozen BK169.out 3
                                    go_wp2
                                    go_roundg kj15
                                    case measure => have := HK1.out; have := HJ9.out; have := HJ15.out; omega
                                    case rel => exact ⟨(x5_1), (wrap64 (x14_1 + 1)), (by first | rfl | (simp; done) | (simp [*]; done)), H', ⟨by have := HK1.out; have := HJ9.out; have := HJ15.out; omega⟩, ⟨by (with_reducible repeat (first | apply Kd.R_alloc | apply Kd.R_drewN | apply Kd.R_drew)); exact HO_5.out⟩, ⟨by repeat (first | (with_reducible first | exact HB.out | apply below_alloc | apply pw_below_drewN | apply below_drew1 | refine below_set ?_ GE169.out) | exact HB.out)⟩⟩
              · rw [if_neg c9] at H
                exact absurd H (by simp)
            · rw [if_neg c8] at H
              exact absurd H (by simp)
          · rw [if_neg c7] at H
            have c7b0 : decide (x14_1 < (l0.length : Int)) = false := decide_eq_false c7
            clear c7
            obtain ⟨ji113, hji113⟩ : ∃ j_ : Int, (wrap64 ((l0.length : Int) - 1)) = j_ := ⟨_, rfl⟩
            replace H : (if 0 ≤ (ji113) then (if (ji113) < (x5_1.length : Int) then (some (rdOf false x5_1 (ji113))) else (none)) else (none)) = some r := by first | (rw [hji113] at H; exact H) | (simp only [hji113] at H ⊢; exact H)
            have hji113w : (IntKind.i64.wrap ((l0.length : Int) - 1)) = ji113 := (i64_w _).trans hji113
            by_cases c114 : 0 ≤ (ji113)
            · rw [if_pos c114] at H
              have c114b0 : decide (0 ≤ (ji113)) = true := decide_eq_true c114
              clear c114
              by_cases c115 : (ji113) < (x5_1.length : Int)
              · rw [if_pos c115] at H
                have c115b0 : decide ((ji113) < (x5_1.length : Int)) = true := decide_eq_true c115
                clear c115
                obtain rfl := Option.some.inj H
                obtain ⟨Ao116, co116, eo116⟩ := Kd.R_slice HO_5.out
                subst eo116
                have p167 : 0 ≤ ((ji113) : Int) := of_decide_eq_true (by first | (with_reducible assumption) | assumption)
                have q167 : (ji113) < (x5_1.length : Int) := of_decide_eq_true (by first | (with_reducible assumption) | assumption)
                obtain ⟨ad167, e167, hx167_0⟩ := Kd.at_bool (Kd.R_reads' HO_5.out).2.2 (ji113) p167 q167
                cases e167
                replace p167 := eq_true p167
                replace q167 := eq_true q167
                go_wp2
                go_ret
                exact ⟨by first | rfl | (simp [errW_none, errW_some] <;> rfl) | (simp only [← hji113]; first | rfl | (simp [errW_none, errW_some] <;> rfl)) | (simp [*, errW_none, errW_some] <;> rfl), by repeat (first | (with_reducible first | exact HB.out | apply below_alloc | apply pw_below_drewN | apply below_drew1) | exact HB.out)⟩
              · rw [if_neg c115] at H
                exact absurd H (by simp)
            · rw [if_neg c114] at H
              exact absurd H (by simp)
    · rw [if_neg c4] at H
      exact absurd H (by simp)
  · rw [if_neg c3] at H
    exact absurd H (by simp)

end Go.Proofs.Ytielinaielicbaa.PInterlockSays
