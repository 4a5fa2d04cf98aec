/- Contracts of functions that ReserveHolds reaches, a text of this session's own. -/
import Derived.Test.YtekpnmeikibioaaPReserveHoldsx0
import Derived.Test.YtekpnmeikibioaaPReserveHoldsx3
import Derived.Test.YtekpnmeikibioaaPReserveHoldsx5
import Derived.Test.YtekpnmeikibioaaPReserveHoldsx6
import Derived.Test.YtekpnmeikibioaaPReserveHoldsx8
namespace Go.Proofs.Ytekpnmeikibioaa.PReserveHolds
open Go.RowKit Go.Proofs.YtekpnmeikibioaaW.PrintWords Go.Proofs.YtekpnmeikibioaaW.PrintLast Go.Proofs.YtekpnmeikibioaaW.PrintMore
attribute [local go_sem] max2_int min2_int max_two min_two max_three min_three max_four min_four   -- for this text's walks alone
set_option linter.unusedVariables false
set_option linter.unusedSimpArgs false

/-! ### gridhalllaw3_ReserveHolds: function 3 -/
mutual
def gridhalllaw3_ReserveHolds.j0 : Nat → List (S32) → List Int → Bool → Option (Bool)
  | 0, _, _, _ => none
  | k + 1, x0, x1, x40 => if x40 = true then (some false) else ((reserve_Possible.f k x0).bind fun bt204 => ((reserve_Held.f k x0 x1).bind fun bt206 => ((reserve_Outage.f k x0 x1).bind fun bt208 => ((gridhalllaw3_unitsError.f k x0).bind fun t211 => ((reserve_Check.f k x0).bind fun t212 => (if t212 = t211 then (gridhalllaw3_ReserveHolds.j1 k x0 x1 bt204.1 bt206.1 bt206.2 bt208.1 bt208.2.1 bt208.2.2 t211 (bt204.2 != t211)) else (gridhalllaw3_ReserveHolds.j1 k x0 x1 bt204.1 bt206.1 bt206.2 bt208.1 bt208.2.1 bt208.2.2 t211 true)))))))
def gridhalllaw3_ReserveHolds.j1 : Nat → List (S32) → List Int → Int → Int → Int → Int → Int → Int → Int → Bool → Option (Bool)
  | 0, _, _, _, _, _, _, _, _, _, _ => none
  | k + 1, x0, x1, x7, x9, x10, x11, x12, x13, x14, x69 => if x69 = true then (some false) else (if x14 = 0 then (gridhalllaw3_ReserveHolds.l0 k x0 x1 x7 x9 x10 x11 x12 x13 x14 0 x0 (x0.length : Int) 0) else (gridhalllaw3_ReserveHolds.j3 k x0 x1 x7 x9 x10 x11 x12 x13 x14 0))
def gridhalllaw3_ReserveHolds.j3 : Nat → List (S32) → List Int → Int → Int → Int → Int → Int → Int → Int → Int → Option (Bool)
  | 0, _, _, _, _, _, _, _, _, _, _ => none
  | k + 1, x0, x1, x7, x9, x10, x11, x12, x13, x14, x15 => if x7 = x15 then (gridhalllaw3_ReserveHolds.l1 k x0 x1 x9 x10 x11 x12 x13 x14 0) else (some false)
def gridhalllaw3_ReserveHolds.l1 : Nat → List (S32) → List Int → Int → Int → Int → Int → Int → Int → Int → Option (Bool)
  | 0, _, _, _, _, _, _, _, _, _ => none
  | k + 1, x0, x1, x9, x10, x11, x12, x13, x14, x18 => if x14 = 0 then (gridhalllaw3_ReserveHolds.j5 k x0 x1 x9 x10 x11 x12 x13 x14 x18 (decide (x18 < (x0.length : Int)))) else (gridhalllaw3_ReserveHolds.j5 k x0 x1 x9 x10 x11 x12 x13 x14 x18 false)
def gridhalllaw3_ReserveHolds.j5 : Nat → List (S32) → List Int → Int → Int → Int → Int → Int → Int → Int → Bool → Option (Bool)
  | 0, _, _, _, _, _, _, _, _, _, _ => none
  | k + 1, x0, x1, x9, x10, x11, x12, x13, x14, x18, x102 => if x102 = true then (if 0 ≤ x18 then (if x18 < (x1.length : Int) then (if x18 < (x0.length : Int) then ((gridhallref3_All.f k ((rd_T32 x0 x18).f0.f0) ((rd_T32 x0 x18).f0.f1)).bind fun t218 => ((gridhallref3_In.f (rd x1 x18) 0 t218).bind fun t219 => (if t219 = true then (gridhalllaw3_ReserveHolds.l1 k x0 x1 x9 x10 x11 x12 x13 x14 (wrap64 (x18 + 1))) else (gridhalllaw3_ReserveHolds.l1 k x0 x1 x9 x10 x11 x12 x13 4 (wrap64 (x18 + 1)))))) else (none)) else (none)) else (none)) else (if x14 = 0 then (gridhalllaw3_ReserveHolds.l2 k x0 x1 x9 x10 x11 x12 x13 0 0 (-1) x0 (x0.length : Int) 0) else (if x10 = x14 then (if x13 = x14 then (if x9 = 0 then (if x11 = 0 then (some (x12 == 0)) else (some false)) else (some false)) else (some false)) else (some false)))
def gridhalllaw3_ReserveHolds.l2 : Nat → List (S32) → List Int → Int → Int → Int → Int → Int → Int → Int → Int → List (S32) → Int → Int → Option (Bool)
  | 0, _, _, _, _, _, _, _, _, _, _, _, _, _ => none
  | k + 1, x0, x1, x9, x10, x11, x12, x13, x19, x20, x21, x139, x140, x141 => if x141 < x140 then (if 0 ≤ x141 then (if x141 < (x139.length : Int) then ((gridhallref3_All.f k ((rd_T32 x139 x141).f0.f0) ((rd_T32 x139 x141).f0.f1)).bind fun t222 => (if x141 < (x1.length : Int) then (gridhalllaw3_ReserveHolds.l3 k x0 x1 x9 x10 x11 x12 x13 (wrap64 (x19 + (mn ((rd_T32 x139 x141).f1) (wrap64 (t222 - (rd x1 x141)))))) x20 x21 x141 0 x139 x140 x141 x0 (x0.length : Int) 0) else (none))) else (none)) else (none)) else (if x10 = 0 then (if x13 = 0 then (if x9 = x19 then (if x11 = x20 then (some (x12 == x21)) else (some false)) else (some false)) else (some false)) else (some false))
def gridhalllaw3_ReserveHolds.l3 : Nat → List (S32) → List Int → Int → Int → Int → Int → Int → Int → Int → Int → Int → Int → List (S32) → Int → Int → List (S32) → Int → Int → Option (Bool)
  | 0, _, _, _, _, _, _, _, _, _, _, _, _, _, _, _, _, _, _ => none
  | k + 1, x0, x1, x9, x10, x11, x12, x13, x19, x20, x21, x22, x24, x139, x140, x141, x159, x160, x161 => if x161 < x160 then (if 0 ≤ x161 then (if x161 < (x159.length : Int) then (if x161 = x22 then (gridhalllaw3_ReserveHolds.l3 k x0 x1 x9 x10 x11 x12 x13 x19 x20 x21 x22 x24 x139 x140 x141 x159 x160 (wrap64 (x161 + 1))) else ((gridhallref3_All.f k ((rd_T32 x159 x161).f0.f0) ((rd_T32 x159 x161).f0.f1)).bind fun t226 => (if x161 < (x1.length : Int) then (gridhalllaw3_ReserveHolds.l3 k x0 x1 x9 x10 x11 x12 x13 x19 x20 x21 x22 (wrap64 (x24 + (mn ((rd_T32 x159 x161).f1) (wrap64 (t226 - (rd x1 x161)))))) x139 x140 x141 x159 x160 (wrap64 (x161 + 1))) else (none)))) else (none)) else (none)) else (if 0 ≤ x22 then (if x22 < (x1.length : Int) then (if (wrap64 ((rd x1 x22) - x24)) > x20 then (gridhalllaw3_ReserveHolds.l2 k x0 x1 x9 x10 x11 x12 x13 x19 (wrap64 ((rd x1 x22) - x24)) x22 x139 x140 (wrap64 (x141 + 1))) else (gridhalllaw3_ReserveHolds.l2 k x0 x1 x9 x10 x11 x12 x13 x19 x20 x21 x139 x140 (wrap64 (x141 + 1)))) else (none)) else (none))
def gridhalllaw3_ReserveHolds.l0 : Nat → List (S32) → List Int → Int → Int → Int → Int → Int → Int → Int → Int → List (S32) → Int → Int → Option (Bool)
  | 0, _, _, _, _, _, _, _, _, _, _, _, _, _ => none
  | k + 1, x0, x1, x7, x9, x10, x11, x12, x13, x14, x15, x72, x73, x74 => if x74 < x73 then (if 0 ≤ x74 then (if x74 < (x72.length : Int) then ((gridhallref3_All.f k ((rd_T32 x72 x74).f0.f0) ((rd_T32 x72 x74).f0.f1)).bind fun t215 => (gridhalllaw3_ReserveHolds.l0 k x0 x1 x7 x9 x10 x11 x12 x13 x14 (wrap64 (x15 + (mn ((rd_T32 x72 x74).f1) t215))) x72 x73 (wrap64 (x74 + 1)))) else (none)) else (none)) else (if (x1.length : Int) = (x0.length : Int) then (gridhalllaw3_ReserveHolds.j3 k x0 x1 x7 x9 x10 x11 x12 x13 x14 x15) else (gridhalllaw3_ReserveHolds.j3 k x0 x1 x7 x9 x10 x11 x12 x13 3 x15))
end
def gridhalllaw3_ReserveHolds.f (k : Nat) (l0 : List (S32)) (l1 : List Int) : Option (Bool) := (gridhalllaw3_two.f (⟨#[65]⟩ : ByteArray)).bind fun bt192 => ((reserve_Held.f k (([(⟨(⟨bt192.1, bt192.2⟩ : S29), 5⟩ : S32)] : List (S32))) (([18] : List Int))).bind fun bt202 => (if bt202.2 = 0 then (gridhalllaw3_ReserveHolds.j0 k l0 l1 (bt202.1 != 2)) else (gridhalllaw3_ReserveHolds.j0 k l0 l1 true)))
theorem gridhalllaw3_ReserveHolds.mono_l : ∀ k, (∀ y0 y1 y2, LeO (gridhalllaw3_ReserveHolds.j0 k y0 y1 y2) (gridhalllaw3_ReserveHolds.j0 (k + 1) y0 y1 y2)) ∧ (∀ y0 y1 y2 y3 y4 y5 y6 y7 y8 y9, LeO (gridhalllaw3_ReserveHolds.j1 k y0 y1 y2 y3 y4 y5 y6 y7 y8 y9) (gridhalllaw3_ReserveHolds.j1 (k + 1) y0 y1 y2 y3 y4 y5 y6 y7 y8 y9)) ∧ (∀ y0 y1 y2 y3 y4 y5 y6 y7 y8 y9, LeO (gridhalllaw3_ReserveHolds.j3 k y0 y1 y2 y3 y4 y5 y6 y7 y8 y9) (gridhalllaw3_ReserveHolds.j3 (k + 1) y0 y1 y2 y3 y4 y5 y6 y7 y8 y9)) ∧ (∀ y0 y1 y2 y3 y4 y5 y6 y7 y8, LeO (gridhalllaw3_ReserveHolds.l1 k y0 y1 y2 y3 y4 y5 y6 y7 y8) (gridhalllaw3_ReserveHolds.l1 (k + 1) y0 y1 y2 y3 y4 y5 y6 y7 y8)) ∧ (∀ y0 y1 y2 y3 y4 y5 y6 y7 y8 y9, LeO (gridhalllaw3_ReserveHolds.j5 k y0 y1 y2 y3 y4 y5 y6 y7 y8 y9) (gridhalllaw3_ReserveHolds.j5 (k + 1) y0 y1 y2 y3 y4 y5 y6 y7 y8 y9)) ∧ (∀ y0 y1 y2 y3 y4 y5 y6 y7 y8 y9 y10 y11 y12, LeO (gridhalllaw3_ReserveHolds.l2 k y0 y1 y2 y3 y4 y5 y6 y7 y8 y9 y10 y11 y12) (gridhalllaw3_ReserveHolds.l2 (k + 1) y0 y1 y2 y3 y4 y5 y6 y7 y8 y9 y10 y11 y12)) ∧ (∀ y0 y1 y2 y3 y4 y5 y6 y7 y8 y9 y10 y11 y12 y13 y14 y15 y16 y17, LeO (gridhalllaw3_ReserveHolds.l3 k y0 y1 y2 y3 y4 y5 y6 y7 y8 y9 y10 y11 y12 y13 y14 y15 y16 y17) (gridhalllaw3_ReserveHolds.l3 (k + 1) y0 y1 y2 y3 y4 y5 y6 y7 y8 y9 y10 y11 y12 y13 y14 y15 y16 y17)) ∧ (∀ y0 y1 y2 y3 y4 y5 y6 y7 y8 y9 y10 y11 y12, LeO (gridhalllaw3_ReserveHolds.l0 k y0 y1 y2 y3 y4 y5 y6 y7 y8 y9 y10 y11 y12) (gridhalllaw3_ReserveHolds.l0 (k + 1) y0 y1 y2 y3 y4 y5 y6 y7 y8 y9 y10 y11 y12))
  | 0 => ⟨fun _ _ _ r h => by simp [gridhalllaw3_ReserveHolds.j0] at h, fun _ _ _ _ _ _ _ _ _ _ r h => by simp [gridhalllaw3_ReserveHolds.j1] at h, fun _ _ _ _ _ _ _ _ _ _ r h => by simp [gridhalllaw3_ReserveHolds.j3] at h, fun _ _ _ _ _ _ _ _ _ r h => by simp [gridhalllaw3_ReserveHolds.l1] at h, fun _ _ _ _ _ _ _ _ _ _ r h => by simp [gridhalllaw3_ReserveHolds.j5] at h, fun _ _ _ _ _ _ _ _ _ _ _ _ _ r h => by simp [gridhalllaw3_ReserveHolds.l2] at h, fun _ _ _ _ _ _ _ _ _ _ _ _ _ _ _ _ _ _ r h => by simp [gridhalllaw3_ReserveHolds.l3] at h, fun _ _ _ _ _ _ _ _ _ _ _ _ _ r h => by simp [gridhalllaw3_ReserveHolds.l0] at h⟩
  | k + 1 => by
    obtain ⟨ih0, ih1, ih2, ih3, ih4, ih5, ih6, ih7⟩ := gridhalllaw3_ReserveHolds.mono_l k
    refine ⟨?_, ?_, ?_, ?_, ?_, ?_, ?_, ?_⟩
    · intro y0 y1 y2
      unfold gridhalllaw3_ReserveHolds.j0
      repeat' first
      | (with_reducible exact ih0 _ _ _)
      | (with_reducible exact ih1 _ _ _ _ _ _ _ _ _ _)
      | (with_reducible exact ih2 _ _ _ _ _ _ _ _ _ _)
      | (with_reducible exact ih3 _ _ _ _ _ _ _ _ _)
      | (with_reducible exact ih4 _ _ _ _ _ _ _ _ _ _)
      | (with_reducible exact ih5 _ _ _ _ _ _ _ _ _ _ _ _ _)
      | (with_reducible exact ih6 _ _ _ _ _ _ _ _ _ _ _ _ _ _ _ _ _ _)
      | (with_reducible exact ih7 _ _ _ _ _ _ _ _ _ _ _ _ _)
      | (with_reducible exact gridhalllaw3_unitsError.mono _ _)
      | (with_reducible exact gridhallref3_All.mono _ _ _)
      | (with_reducible exact reserve_Check.mono _ _)
      | (with_reducible exact reserve_Held.mono _ _ _)
      | (with_reducible exact reserve_Outage.mono _ _ _)
      | (with_reducible exact reserve_Possible.mono _ _)
      | (with_reducible exact LeO.refl _)
      | (with_reducible exact LeO.none _)
      | (with_reducible refine LeO.ite ?_ ?_)
      | (with_reducible refine LeO.bind ?_ (fun _ => ?_))
      | exact ih0 _ _ _
      | exact ih1 _ _ _ _ _ _ _ _ _ _
      | exact ih2 _ _ _ _ _ _ _ _ _ _
      | exact ih3 _ _ _ _ _ _ _ _ _
      | exact ih4 _ _ _ _ _ _ _ _ _ _
      | exact ih5 _ _ _ _ _ _ _ _ _ _ _ _ _
      | exact ih6 _ _ _ _ _ _ _ _ _ _ _ _ _ _ _ _ _ _
      | exact ih7 _ _ _ _ _ _ _ _ _ _ _ _ _
      | exact gridhalllaw3_unitsError.mono _ _
      | exact gridhallref3_All.mono _ _ _
      | exact reserve_Check.mono _ _
      | exact reserve_Held.mono _ _ _
      | exact reserve_Outage.mono _ _ _
      | exact reserve_Possible.mono _ _
      | exact LeO.none _
      | refine LeO.ite ?_ ?_
      | refine LeO.bind ?_ (fun _ => ?_)
    · intro y0 y1 y2 y3 y4 y5 y6 y7 y8 y9
      unfold gridhalllaw3_ReserveHolds.j1
      repeat' first
      | (with_reducible exact ih0 _ _ _)
      | (with_reducible exact ih1 _ _ _ _ _ _ _ _ _ _)
      | (with_reducible exact ih2 _ _ _ _ _ _ _ _ _ _)
      | (with_reducible exact ih3 _ _ _ _ _ _ _ _ _)
      | (with_reducible exact ih4 _ _ _ _ _ _ _ _ _ _)
      | (with_reducible exact ih5 _ _ _ _ _ _ _ _ _ _ _ _ _)
      | (with_reducible exact ih6 _ _ _ _ _ _ _ _ _ _ _ _ _ _ _ _ _ _)
      | (with_reducible exact ih7 _ _ _ _ _ _ _ _ _ _ _ _ _)
      | (with_reducible exact gridhalllaw3_unitsError.mono _ _)
      | (with_reducible exact gridhallref3_All.mono _ _ _)
      | (with_reducible exact reserve_Check.mono _ _)
      | (with_reducible exact reserve_Held.mono _ _ _)
      | (with_reducible exact reserve_Outage.mono _ _ _)
      | (with_reducible exact reserve_Possible.mono _ _)
      | (with_reducible exact LeO.refl _)
      | (with_reducible exact LeO.none _)
      | (with_reducible refine LeO.ite ?_ ?_)
      | (with_reducible refine LeO.bind ?_ (fun _ => ?_))
      | exact ih0 _ _ _
      | exact ih1 _ _ _ _ _ _ _ _ _ _
      | exact ih2 _ _ _ _ _ _ _ _ _ _
      | exact ih3 _ _ _ _ _ _ _ _ _
      | exact ih4 _ _ _ _ _ _ _ _ _ _
      | exact ih5 _ _ _ _ _ _ _ _ _ _ _ _ _
      | exact ih6 _ _ _ _ _ _ _ _ _ _ _ _ _ _ _ _ _ _
      | exact ih7 _ _ _ _ _ _ _ _ _ _ _ _ _
      | exact gridhalllaw3_unitsError.mono _ _
      | exact gridhallref3_All.mono _ _ _
      | exact reserve_Check.mono _ _
      | exact reserve_Held.mono _ _ _
      | exact reserve_Outage.mono _ _ _
      | exact reserve_Possible.mono _ _
      | exact LeO.none _
      | refine LeO.ite ?_ ?_
      | refine LeO.bind ?_ (fun _ => ?_)
    · intro y0 y1 y2 y3 y4 y5 y6 y7 y8 y9
      unfold gridhalllaw3_ReserveHolds.j3
      repeat' first
      | (with_reducible exact ih0 _ _ _)
      | (with_reducible exact ih1 _ _ _ _ _ _ _ _ _ _)
      | (with_reducible exact ih2 _ _ _ _ _ _ _ _ _ _)
      | (with_reducible exact ih3 _ _ _ _ _ _ _ _ _)
      | (with_reducible exact ih4 _ _ _ _ _ _ _ _ _ _)
      | (with_reducible exact ih5 _ _ _ _ _ _ _ _ _ _ _ _ _)
      | (with_reducible exact ih6 _ _ _ _ _ _ _ _ _ _ _ _ _ _ _ _ _ _)
      | (with_reducible exact ih7 _ _ _ _ _ _ _ _ _ _ _ _ _)
      | (with_reducible exact gridhalllaw3_unitsError.mono _ _)
      | (with_reducible exact gridhallref3_All.mono _ _ _)
      | (with_reducible exact reserve_Check.mono _ _)
      | (with_reducible exact reserve_Held.mono _ _ _)
      | (with_reducible exact reserve_Outage.mono _ _ _)
      | (with_reducible exact reserve_Possible.mono _ _)
      | (with_reducible exact LeO.refl _)
      | (with_reducible exact LeO.none _)
      | (with_reducible refine LeO.ite ?_ ?_)
      | (with_reducible refine LeO.bind ?_ (fun _ => ?_))
      | exact ih0 _ _ _
      | exact ih1 _ _ _ _ _ _ _ _ _ _
      | exact ih2 _ _ _ _ _ _ _ _ _ _
      | exact ih3 _ _ _ _ _ _ _ _ _
      | exact ih4 _ _ _ _ _ _ _ _ _ _
      | exact ih5 _ _ _ _ _ _ _ _ _ _ _ _ _
      | exact ih6 _ _ _ _ _ _ _ _ _ _ _ _ _ _ _ _ _ _
      | exact ih7 _ _ _ _ _ _ _ _ _ _ _ _ _
      | exact gridhalllaw3_unitsError.mono _ _
      | exact gridhallref3_All.mono _ _ _
      | exact reserve_Check.mono _ _
      | exact reserve_Held.mono _ _ _
      | exact reserve_Outage.mono _ _ _
      | exact reserve_Possible.mono _ _
      | exact LeO.none _
      | refine LeO.ite ?_ ?_
      | refine LeO.bind ?_ (fun _ => ?_)
    · intro y0 y1 y2 y3 y4 y5 y6 y7 y8
      unfold gridhalllaw3_ReserveHolds.l1
      repeat' first
      | (with_reducible exact ih0 _ _ _)
      | (with_reducible exact ih1 _ _ _ _ _ _ _ _ _ _)
      | (with_reducible exact ih2 _ _ _ _ _ _ _ _ _ _)
      | (with_reducible exact ih3 _ _ _ _ _ _ _ _ _)
      | (with_reducible exact ih4 _ _ _ _ _ _ _ _ _ _)
      | (with_reducible exact ih5 _ _ _ _ _ _ _ _ _ _ _ _ _)
      | (with_reducible exact ih6 _ _ _ _ _ _ _ _ _ _ _ _ _ _ _ _ _ _)
      | (with_reducible exact ih7 _ _ _ _ _ _ _ _ _ _ _ _ _)
      | (with_reducible exact gridhalllaw3_unitsError.mono _ _)
      | (with_reducible exact gridhallref3_All.mono _ _ _)
      | (with_reducible exact reserve_Check.mono _ _)
      | (with_reducible exact reserve_Held.mono _ _ _)
      | (with_reducible exact reserve_Outage.mono _ _ _)
      | (with_reducible exact reserve_Possible.mono _ _)
      | (with_reducible exact LeO.refl _)
      | (with_reducible exact LeO.none _)
      | (with_reducible refine LeO.ite ?_ ?_)
      | (with_reducible refine LeO.bind ?_ (fun _ => ?_))
      | exact ih0 _ _ _
      | exact ih1 _ _ _ _ _ _ _ _ _ _
      | exact ih2 _ _ _ _ _ _ _ _ _ _
      | exact ih3 _ _ _ _ _ _ _ _ _
      | exact ih4 _ _ _ _ _ _ _ _ _ _
      | exact ih5 _ _ _ _ _ _ _ _ _ _ _ _ _
      | exact ih6 _ _ _ _ _ _ _ _ _ _ _ _ _ _ _ _ _ _
      | exact ih7 _ _ _ _ _ _ _ _ _ _ _ _ _
      | exact gridhalllaw3_unitsError.mono _ _
      | exact gridhallref3_All.mono _ _ _
      | exact reserve_Check.mono _ _
      | exact reserve_Held.mono _ _ _
      | exact reserve_Outage.mono _ _ _
      | exact reserve_Possible.mono _ _
      | exact LeO.none _
      | refine LeO.ite ?_ ?_
      | refine LeO.bind ?_ (fun _ => ?_)
    · intro y0 y1 y2 y3 y4 y5 y6 y7 y8 y9
      unfold gridhalllaw3_ReserveHolds.j5
      repeat' first
      | (with_reducible exact ih0 _ _ _)
      | (with_reducible exact ih1 _ _ _ _ _ _ _ _ _ _)
      | (with_reducible exact ih2 _ _ _ _ _ _ _ _ _ _)
      | (with_reducible exact ih3 _ _ _ _ _ _ _ _ _)
      | (with_reducible exact ih4 _ _ _ _ _ _ _ _ _ _)
      | (with_reducible exact ih5 _ _ _ _ _ _ _ _ _ _ _ _ _)
      | (with_reducible exact ih6 _ _ _ _ _ _ _ _ _ _ _ _ _ _ _ _ _ _)
      | (with_reducible exact ih7 _ _ _ _ _ _ _ _ _ _ _ _ _)
      | (with_reducible exact gridhalllaw3_unitsError.mono _ _)
      | (with_reducible exact gridhallref3_All.mono _ _ _)
      | (with_reducible exact reserve_Check.mono _ _)
      | (with_reducible exact reserve_Held.mono _ _ _)
      | (with_reducible exact reserve_Outage.mono _ _ _)
      | (with_reducible exact reserve_Possible.mono _ _)
      | (with_reducible exact LeO.refl _)
      | (with_reducible exact LeO.none _)
      | (with_reducible refine LeO.ite ?_ ?_)
      | (with_reducible refine LeO.bind ?_ (fun _ => ?_))
      | exact ih0 _ _ _
      | exact ih1 _ _ _ _ _ _ _ _ _ _
      | exact ih2 _ _ _ _ _ _ _ _ _ _
      | exact ih3 _ _ _ _ _ _ _ _ _
      | exact ih4 _ _ _ _ _ _ _ _ _ _
      | exact ih5 _ _ _ _ _ _ _ _ _ _ _ _ _
      | exact ih6 _ _ _ _ _ _ _ _ _ _ _ _ _ _ _ _ _ _
      | exact ih7 _ _ _ _ _ _ _ _ _ _ _ _ _
      | exact gridhalllaw3_unitsError.mono _ _
      | exact gridhallref3_All.mono _ _ _
      | exact reserve_Check.mono _ _
      | exact reserve_Held.mono _ _ _
      | exact reserve_Outage.mono _ _ _
      | exact reserve_Possible.mono _ _
      | exact LeO.none _
      | refine LeO.ite ?_ ?_
      | refine LeO.bind ?_ (fun _ => ?_)
    · intro y0 y1 y2 y3 y4 y5 y6 y7 y8 y9 y10 y11 y12
      unfold gridhalllaw3_ReserveHolds.l2
      repeat' first
      | (with_reducible exact ih0 _ _ _)
      | (with_reducible exact ih1 _ _ _ _ _ _ _ _ _ _)
      | (with_reducible exact ih2 _ _ _ _ _ _ _ _ _ _)
      | (with_reducible exact ih3 _ _ _ _ _ _ _ _ _)
      | (with_reducible exact ih4 _ _ _ _ _ _ _ _ _ _)
      | (with_reducible exact ih5 _ _ _ _ _ _ _ _ _ _ _ _ _)
      | (with_reducible exact ih6 _ _ _ _ _ _ _ _ _ _ _ _ _ _ _ _ _ _)
      | (with_reducible exact ih7 _ _ _ _ _ _ _ _ _ _ _ _ _)
      | (with_reducible exact gridhalllaw3_unitsError.mono _ _)
      | (with_reducible exact gridhallref3_All.mono _ _ _)
      | (with_reducible exact reserve_Check.mono _ _)
      | (with_reducible exact reserve_Held.mono _ _ _)
      | (with_reducible exact reserve_Outage.mono _ _ _)
      | (with_reducible exact reserve_Possible.mono _ _)
      | (with_reducible exact LeO.refl _)
      | (with_reducible exact LeO.none _)
      | (with_reducible refine LeO.ite ?_ ?_)
      | (with_reducible refine LeO.bind ?_ (fun _ => ?_))
      | exact ih0 _ _ _
      | exact ih1 _ _ _ _ _ _ _ _ _ _
      | exact ih2 _ _ _ _ _ _ _ _ _ _
      | exact ih3 _ _ _ _ _ _ _ _ _
      | exact ih4 _ _ _ _ _ _ _ _ _ _
      | exact ih5 _ _ _ _ _ _ _ _ _ _ _ _ _
      | exact ih6 _ _ _ _ _ _ _ _ _ _ _ _ _ _ _ _ _ _
      | exact ih7 _ _ _ _ _ _ _ _ _ _ _ _ _
      | exact gridhalllaw3_unitsError.mono _ _
      | exact gridhallref3_All.mono _ _ _
      | exact reserve_Check.mono _ _
      | exact reserve_Held.mono _ _ _
      | exact reserve_Outage.mono _ _ _
      | exact reserve_Possible.mono _ _
      | exact LeO.none _
      | refine LeO.ite ?_ ?_
      | refine LeO.bind ?_ (fun _ => ?_)
    · intro y0 y1 y2 y3 y4 y5 y6 y7 y8 y9 y10 y11 y12 y13 y14 y15 y16 y17
      unfold gridhalllaw3_ReserveHolds.l3
      repeat' first
      | (with_reducible exact ih0 _ _ _)
      | (with_reducible exact ih1 _ _ _ _ _ _ _ _ _ _)
      | (with_reducible exact ih2 _ _ _ _ _ _ _ _ _ _)
      | (with_reducible exact ih3 _ _ _ _ _ _ _ _ _)
      | (with_reducible exact ih4 _ _ _ _ _ _ _ _ _ _)
      | (with_reducible exact ih5 _ _ _ _ _ _ _ _ _ _ _ _ _)
      | (with_reducible exact ih6 _ _ _ _ _ _ _ _ _ _ _ _ _ _ _ _ _ _)
      | (with_reducible exact ih7 _ _ _ _ _ _ _ _ _ _ _ _ _)
      | (with_reducible exact gridhalllaw3_unitsError.mono _ _)
      | (with_reducible exact gridhallref3_All.mono _ _ _)
      | (with_reducible exact reserve_Check.mono _ _)
      | (with_reducible exact reserve_Held.mono _ _ _)
      | (with_reducible exact reserve_Outage.mono _ _ _)
      | (with_reducible exact reserve_Possible.mono _ _)
      | (with_reducible exact LeO.refl _)
      | (with_reducible exact LeO.none _)
      | (with_reducible refine LeO.ite ?_ ?_)
      | (with_reducible refine LeO.bind ?_ (fun _ => ?_))
      | exact ih0 _ _ _
      | exact ih1 _ _ _ _ _ _ _ _ _ _
      | exact ih2 _ _ _ _ _ _ _ _ _ _
      | exact ih3 _ _ _ _ _ _ _ _ _
      | exact ih4 _ _ _ _ _ _ _ _ _ _
      | exact ih5 _ _ _ _ _ _ _ _ _ _ _ _ _
      | exact ih6 _ _ _ _ _ _ _ _ _ _ _ _ _ _ _ _ _ _
      | exact ih7 _ _ _ _ _ _ _ _ _ _ _ _ _
      | exact gridhalllaw3_unitsError.mono _ _
      | exact gridhallref3_All.mono _ _ _
      | exact reserve_Check.mono _ _
      | exact reserve_Held.mono _ _ _
      | exact reserve_Outage.mono _ _ _
      | exact reserve_Possible.mono _ _
      | exact LeO.none _
      | refine LeO.ite ?_ ?_
      | refine LeO.bind ?_ (fun _ => ?_)
    · intro y0 y1 y2 y3 y4 y5 y6 y7 y8 y9 y10 y11 y12
      unfold gridhalllaw3_ReserveHolds.l0
      repeat' first
      | (with_reducible exact ih0 _ _ _)
      | (with_reducible exact ih1 _ _ _ _ _ _ _ _ _ _)
      | (with_reducible exact ih2 _ _ _ _ _ _ _ _ _ _)
      | (with_reducible exact ih3 _ _ _ _ _ _ _ _ _)
      | (with_reducible exact ih4 _ _ _ _ _ _ _ _ _ _)
      | (with_reducible exact ih5 _ _ _ _ _ _ _ _ _ _ _ _ _)
      | (with_reducible exact ih6 _ _ _ _ _ _ _ _ _ _ _ _ _ _ _ _ _ _)
      | (with_reducible exact ih7 _ _ _ _ _ _ _ _ _ _ _ _ _)
      | (with_reducible exact gridhalllaw3_unitsError.mono _ _)
      | (with_reducible exact gridhallref3_All.mono _ _ _)
      | (with_reducible exact reserve_Check.mono _ _)
      | (with_reducible exact reserve_Held.mono _ _ _)
      | (with_reducible exact reserve_Outage.mono _ _ _)
      | (with_reducible exact reserve_Possible.mono _ _)
      | (with_reducible exact LeO.refl _)
      | (with_reducible exact LeO.none _)
      | (with_reducible refine LeO.ite ?_ ?_)
      | (with_reducible refine LeO.bind ?_ (fun _ => ?_))
      | exact ih0 _ _ _
      | exact ih1 _ _ _ _ _ _ _ _ _ _
      | exact ih2 _ _ _ _ _ _ _ _ _ _
      | exact ih3 _ _ _ _ _ _ _ _ _
      | exact ih4 _ _ _ _ _ _ _ _ _ _
      | exact ih5 _ _ _ _ _ _ _ _ _ _ _ _ _
      | exact ih6 _ _ _ _ _ _ _ _ _ _ _ _ _ _ _ _ _ _
      | exact ih7 _ _ _ _ _ _ _ _ _ _ _ _ _
      | exact gridhalllaw3_unitsError.mono _ _
      | exact gridhallref3_All.mono _ _ _
      | exact reserve_Check.mono _ _
      | exact reserve_Held.mono _ _ _
      | exact reserve_Outage.mono _ _ _
      | exact reserve_Possible.mono _ _
      | exact LeO.none _
      | refine LeO.ite ?_ ?_
      | refine LeO.bind ?_ (fun _ => ?_)
theorem gridhalllaw3_ReserveHolds.mono : ∀ a0 a1 k, LeO (gridhalllaw3_ReserveHolds.f k a0 a1) (gridhalllaw3_ReserveHolds.f (k + 1) a0 a1) := by
  intro a0 a1 k
  obtain ⟨ih0, ih1, ih2, ih3, ih4, ih5, ih6, ih7⟩ := gridhalllaw3_ReserveHolds.mono_l k
  unfold gridhalllaw3_ReserveHolds.f
  repeat' first
      | (with_reducible exact ih0 _ _ _)
      | (with_reducible exact ih1 _ _ _ _ _ _ _ _ _ _)
      | (with_reducible exact ih2 _ _ _ _ _ _ _ _ _ _)
      | (with_reducible exact ih3 _ _ _ _ _ _ _ _ _)
      | (with_reducible exact ih4 _ _ _ _ _ _ _ _ _ _)
      | (with_reducible exact ih5 _ _ _ _ _ _ _ _ _ _ _ _ _)
      | (with_reducible exact ih6 _ _ _ _ _ _ _ _ _ _ _ _ _ _ _ _ _ _)
      | (with_reducible exact ih7 _ _ _ _ _ _ _ _ _ _ _ _ _)
      | (with_reducible exact gridhalllaw3_unitsError.mono _ _)
      | (with_reducible exact gridhallref3_All.mono _ _ _)
      | (with_reducible exact reserve_Check.mono _ _)
      | (with_reducible exact reserve_Held.mono _ _ _)
      | (with_reducible exact reserve_Outage.mono _ _ _)
      | (with_reducible exact reserve_Possible.mono _ _)
      | (with_reducible exact LeO.refl _)
      | (with_reducible exact LeO.none _)
      | (with_reducible refine LeO.ite ?_ ?_)
      | (with_reducible refine LeO.bind ?_ (fun _ => ?_))
      | exact ih0 _ _ _
      | exact ih1 _ _ _ _ _ _ _ _ _ _
      | exact ih2 _ _ _ _ _ _ _ _ _ _
      | exact ih3 _ _ _ _ _ _ _ _ _
      | exact ih4 _ _ _ _ _ _ _ _ _ _
      | exact ih5 _ _ _ _ _ _ _ _ _ _ _ _ _
      | exact ih6 _ _ _ _ _ _ _ _ _ _ _ _ _ _ _ _ _ _
      | exact ih7 _ _ _ _ _ _ _ _ _ _ _ _ _
      | exact gridhalllaw3_unitsError.mono _ _
      | exact gridhallref3_All.mono _ _ _
      | exact reserve_Check.mono _ _
      | exact reserve_Held.mono _ _ _
      | exact reserve_Outage.mono _ _ _
      | exact reserve_Possible.mono _ _
      | exact LeO.none _
      | refine LeO.ite ?_ ?_
      | refine LeO.bind ?_ (fun _ => ?_)
def gridhalllaw3_ReserveHolds.T15 : Bool × List (List Nat × List Nat) := (true, [([], []), ([], []), ([1], [1]), ([], []), ([3], [3]), ([4], [4]), ([2, 5], [2, 5]), ([0, 6], [0, 6]), ([7, 5, 0, 1, 2, 3, 4, 5, 6, 7], [0, 7])])
def gridhalllaw3_ReserveHolds.B15 : List Nat := [0, 0, 2, 0, 8, 24, 62, 127, 255]
theorem gridhalllaw3_ReserveHolds.tab15 : rtab .any (opsOf Try.f3 15) = gridhalllaw3_ReserveHolds.T15 := by kernel_rfl
theorem gridhalllaw3_ReserveHolds.bits15 : waitsOk gridhalllaw3_ReserveHolds.T15.2 gridhalllaw3_ReserveHolds.B15 = true := by kernel_rfl
def gridhalllaw3_ReserveHolds.T24 : Bool × List (List Nat × List Nat) := (true, [([], []), ([], []), ([0, 1], [0, 1]), ([2], [2]), ([], []), ([], []), ([4, 5], [4, 5]), ([6], [6]), ([7], [7]), ([8], [8]), ([3, 9, 9], [3, 9]), ([10], [10])])
def gridhalllaw3_ReserveHolds.B24 : List Nat := [0, 0, 3, 7, 0, 0, 48, 112, 240, 496, 1023, 2047]
theorem gridhalllaw3_ReserveHolds.tab24 : rtab .any (opsOf Try.f3 24) = gridhalllaw3_ReserveHolds.T24 := by kernel_rfl
theorem gridhalllaw3_ReserveHolds.bits24 : waitsOk gridhalllaw3_ReserveHolds.T24.2 gridhalllaw3_ReserveHolds.B24 = true := by kernel_rfl
def gridhalllaw3_ReserveHolds.T32 : Bool × List (List Nat × List Nat) := (true, [([], []), ([], []), ([1], [1]), ([], []), ([3], [3]), ([4], [4]), ([], []), ([], []), ([6, 7], [6, 7]), ([8], [8]), ([5, 9], [5, 9]), ([2, 10], [2, 10]), ([0, 11], [0, 11]), ([12, 5, 0, 1, 2, 3, 4, 5, 6, 7, 8, 9, 10, 11, 12], [0, 12])])
def gridhalllaw3_ReserveHolds.B32 : List Nat := [0, 0, 2, 0, 8, 24, 0, 0, 192, 448, 1016, 2046, 4095, 8191]
theorem gridhalllaw3_ReserveHolds.tab32 : rtab .any (opsOf Try.f3 32) = gridhalllaw3_ReserveHolds.T32 := by kernel_rfl
theorem gridhalllaw3_ReserveHolds.bits32 : waitsOk gridhalllaw3_ReserveHolds.T32.2 gridhalllaw3_ReserveHolds.B32 = true := by kernel_rfl
def gridhalllaw3_ReserveHolds.T38 : Bool × List (List Nat × List Nat) := (true, [([], []), ([], []), ([1], [1]), ([], []), ([3], [3]), ([4], [4]), ([], []), ([], []), ([6, 7], [6, 7]), ([8], [8]), ([5, 9], [5, 9]), ([2, 10], [2, 10]), ([0, 11], [0, 11]), ([12, 5, 0, 1, 2, 3, 4, 5, 6, 7, 8, 9, 10, 11, 12], [0, 12])])
def gridhalllaw3_ReserveHolds.B38 : List Nat := [0, 0, 2, 0, 8, 24, 0, 0, 192, 448, 1016, 2046, 4095, 8191]
theorem gridhalllaw3_ReserveHolds.tab38 : rtab .any (opsOf Try.f3 38) = gridhalllaw3_ReserveHolds.T38 := by kernel_rfl
theorem gridhalllaw3_ReserveHolds.bits38 : waitsOk gridhalllaw3_ReserveHolds.T38.2 gridhalllaw3_ReserveHolds.B38 = true := by kernel_rfl
set_option maxHeartbeats 8000000 in
set_option maxRecDepth 100000 in
theorem gridhalllaw3_ReserveHolds.calls (k : Nat) (A0 : Option Addr) (c0 : Nat) (l0 : List (S32)) (A1 : Option Addr) (c1 : Nat) (l1 : List Int) (r : Bool) (w : World) (hr0 : Kd.C k32 w A0 l0.length l0) (hc0 : l0.length ≤ c0) (hr1 : Kd.C (Kd.int .i64) w A1 l1.length l1) (hc1 : l1.length ≤ c1) (h : gridhalllaw3_ReserveHolds.f k l0 l1 = some r) :
    Calls Try.prog 3 #[.slice A0 l0.length c0, .slice A1 l1.length c1] w fun e w' => e = .returned (.bool r) ∧ Below w.heap.size w w' := by
  have hu32 := Try.underlying32
  have hu29 := Try.underlying29
  have HR0 := Aside0.mk hr0
  have HC0 := Aside0.mk hc0
  clear hr0 hc0
  have HR1 := Aside0.mk hr1
  have HC1 := Aside0.mk hc1
  clear hr1 hc1
  have HB := Aside0.mk (Below.refl w.heap.size w)
  have H : ((gridhalllaw3_two.f (⟨#[65]⟩ : ByteArray)).bind fun bt192 => ((reserve_Held.f k (([(⟨(⟨bt192.1, bt192.2⟩ : S29), 5⟩ : S32)] : List (S32))) (([18] : List Int))).bind fun bt202 => (if bt202.2 = 0 then (gridhalllaw3_ReserveHolds.j0 k l0 l1 (bt202.1 != 2)) else (gridhalllaw3_ReserveHolds.j0 k l0 l1 true)))) = some r := h
  clear h
  replace H := Option.bind_eq_some_iff.mp H
  obtain ⟨⟨t192, t193⟩, A30, H⟩ := H
  replace H : ((reserve_Held.f k (([(⟨(⟨t192, t193⟩ : S29), 5⟩ : S32)] : List (S32))) (([18] : List Int))).bind fun bt202 => (if bt202.2 = 0 then (gridhalllaw3_ReserveHolds.j0 k l0 l1 (bt202.1 != 2)) else (gridhalllaw3_ReserveHolds.j0 k l0 l1 true))) = some r := H
  have A3 := Aside0.mk A30
  clear A30
  obtain ⟨y196, hy196⟩ : ∃ y_ : List (S32), y_ = (([(⟨(⟨t192, t193⟩ : S29), 5⟩ : S32)] : List (S32))) := ⟨_, rfl⟩
  replace H : ((reserve_Held.f k y196 (([18] : List Int))).bind fun bt202 => (if bt202.2 = 0 then (gridhalllaw3_ReserveHolds.j0 k l0 l1 (bt202.1 != 2)) else (gridhalllaw3_ReserveHolds.j0 k l0 l1 true))) = some r := by first | (rw [hy196]; with_reducible exact H) | (have H2_ := (Option.bind_some _ _).symm.trans H; rw [hy196]; with_reducible exact H2_) | (have H2_ := (Option.bind_some _ _).symm.trans H; with_reducible exact H2_) | with_reducible exact H | (rw [hy196]; exact H) | exact H
  have Ny196 := Aside0.mk hy196
  clear hy196
  obtain ⟨y199, hy199⟩ : ∃ y_ : List Int, y_ = (([18] : List Int)) := ⟨_, rfl⟩
  replace H : ((reserve_Held.f k y196 y199).bind fun bt202 => (if bt202.2 = 0 then (gridhalllaw3_ReserveHolds.j0 k l0 l1 (bt202.1 != 2)) else (gridhalllaw3_ReserveHolds.j0 k l0 l1 true))) = some r := by first | (rw [hy199]; with_reducible exact H) | (have H2_ := (Option.bind_some _ _).symm.trans H; rw [hy199]; with_reducible exact H2_) | (have H2_ := (Option.bind_some _ _).symm.trans H; with_reducible exact H2_) | with_reducible exact H | (rw [hy199]; exact H) | exact H
  have Ny199 := Aside0.mk hy199
  clear hy199
  replace H := Option.bind_eq_some_iff.mp H
  obtain ⟨⟨t202, t203⟩, A40, H⟩ := H
  replace H : (if t203 = 0 then (gridhalllaw3_ReserveHolds.j0 k l0 l1 (t202 != 2)) else (gridhalllaw3_ReserveHolds.j0 k l0 l1 true)) = some r := H
  have A4 := Aside0.mk A40
  clear A40
  have HC5 := Aside0.mk H
  clear H
  go_enter Try.func3, Try.ntmps3
  go_upto_region 2 with (first | ((with_reducible refine gate_callee (f := 10) rfl ?_); refine goesL_ (some 28) rfl rfl Try.func10 (by kernel_rfl) rfl #[.string (⟨#[65]⟩ : ByteArray)] rfl (by (try simp only [List.map_toArray, List.map_cons, List.map_nil]); first | done | rfl | (simp only [List.length_drop, List.length_take]; rfl)) ?_; (with_reducible refine (gridhalllaw3_two.calls (⟨#[65]⟩ : ByteArray) t192 t193 _ A3.out).mono ?_); rintro e w6 ⟨v194, rfl, ho0, hb⟩; refine ⟨_, rfl, ?_⟩; have n0_ := Aside0.mk (Kd.R_lower ho0 (below_size (by repeat (first | (with_reducible first | exact HB.out | apply below_alloc | apply pw_below_drewN | apply below_drew1) | exact HB.out)))); have n1_ := Aside0.mk (below_step (by repeat (first | (with_reducible first | exact HB.out | apply below_alloc | apply pw_below_drewN | apply below_drew1) | exact HB.out)) hb); clear HB; have HO195 := n0_; have HB := n1_; clear n0_ n1_; (try clear hb); (try clear hb2); (try clear hk); (try clear hi); (try clear ho0); obtain ⟨Ao7, co7, eo7⟩ := Kd.R_slice HO195.out; subst eo7) | ((with_reducible refine gate_dst (N := 30) rfl ?_); (try (refine gate_guard (by rfl) ?_; dsimp only)); refine Kd.N_lit k32 _ 32 ?hg (N' := 30) ?hd (xs := ([(⟨(⟨t192, t193⟩ : S29), 5⟩ : S32)] : List (S32))) (inner := [.string t192, .slice Ao7 t193.length co7, .int .i64 5]) (ok := (fun _ => True)) (okp := (fun _ => True)) ?hr ?hp (fun _ hk => hk) ((show ∀ k_, w6.heap.size ≤ k_ → (fun _ => True) k_ from fun k_ hk => trivial) _ (Nat.le_refl _)) (Below.refl _ _) (Nat.le_refl _) (by simp) ?_; (case hd => rfl); (case hg => rfl); (case hr => first | (go_simp; done) | (go_simp; rfl)); (case hp => exact (Reps.c3 (show Kd.FK k32 _ _ (⟨(⟨t192, t193⟩ : S29), 5⟩ : S32) [.string t192, .slice Ao7 t193.length co7, .int .i64 5] from (k32_mkF _ _ (⟨(⟨t192, t193⟩ : S29), 5⟩ : S32) (Kd.R_reads' (Kd.R_mono (ok' := (fun _ => True)) (HO195.out) (fun k_ hk => trivial))).2.1 (Kd.R_F (Kd.R_mono (ok' := (fun _ => True)) (HO195.out) (fun k_ hk => trivial))))) (Reps.none _ _))); intro v197 w8 ho9 hb hg_ hnew_; clear hg_ hnew_; (first | rw [← Ny196.out] at ho9 | (simp only [Int.reduceToNat] at ho9; rw [← Ny196.out] at ho9)); have n0_ := Aside0.mk (Kd.N_lower ho9 (below_size (by repeat (first | (with_reducible first | exact HB.out | apply below_alloc | apply pw_below_drewN | apply below_drew1) | exact HB.out)))); have n1_ := Aside0.mk (below_step (by repeat (first | (with_reducible first | exact HB.out | apply below_alloc | apply pw_below_drewN | apply below_drew1) | exact HB.out)) hb); clear HB; clear HO195; have HO198 := n0_; have HB := n1_; clear n0_ n1_; clear hb ho9) | ((with_reducible refine gate_dst (N := 31) rfl ?_); (try (refine gate_guard (by rfl) ?_; dsimp only)); refine Kd.R_lit (Kd.int .i64) _ 3 ?hg (N := 31) ?hd (xs := ([18] : List Int)) (inner := [.int .i64 18]) (ok := fun _ => True) (okp := fun _ => True) ?hr ?hp (fun _ hk => hk) trivial (Below.refl _ _) (Nat.le_refl _) (by simp) ?_; (case hd => rfl); (case hg => rfl); (case hr => first | (go_simp; done) | (go_simp; rfl)); (case hp => exact (Reps.one (show Kd.M (Kd.int .i64) _ _ _ 18 [.int .i64 18] from rfl) (Reps.none _ _))); intro v200 w10 ho11 hb hg_ hnew_; clear hg_ hnew_; (first | rw [← Ny199.out] at ho11 | (simp only [Int.reduceToNat] at ho11; rw [← Ny199.out] at ho11)); have n0_ := Aside0.mk (Kd.N_elder' (by (with_reducible repeat (first | apply Kd.N_alloc | apply Kd.N_drewN | apply Kd.N_drew)); exact HO198.out) (Kd.R_base ho11) hb); have n1_ := Aside0.mk (Kd.R_lower ho11 (below_size (by repeat (first | (with_reducible first | exact HB.out | apply below_alloc | apply pw_below_drewN | apply below_drew1) | exact HB.out)))); have n2_ := Aside0.mk (below_step (by repeat (first | (with_reducible first | exact HB.out | apply below_alloc | apply pw_below_drewN | apply below_drew1) | exact HB.out)) hb); clear HO198; clear HB; have HO198 := n0_; have HO201 := n1_; have HB := n2_; clear n0_ n1_ n2_; clear hb ho11; obtain ⟨Ao12, co12, eo12⟩ := Kd.N_slice HO198.out; subst eo12; obtain ⟨Ao13, co13, eo13⟩ := Kd.R_slice HO201.out; subst eo13) | ((with_reducible refine gate_callee (f := 9) rfl ?_); refine goesL_ (some 32) rfl rfl Try.func9 (by kernel_rfl) rfl #[.slice Ao12 y196.length co12, .slice Ao13 y199.length co13] rfl (by (try simp only [List.map_toArray, List.map_cons, List.map_nil]); first | done | rfl | (simp only [List.length_drop, List.length_take]; rfl)) ?_; (with_reducible refine (reserve_Held.calls k _ _ y196 _ _ y199 t202 t203 _ ?side1 ?side2 ?side3 ?side4 A4.out).mono ?_); (case side1 => repeat (first | exact (Kd.N_reads' HO198.out).2.2 | (with_reducible refine Kd.C_alloc ?_ _) | (with_reducible refine Kd.C_drewN ?_ _) | (with_reducible refine Kd.C_drew ?_))); (case side2 => exact (Kd.N_reads' HO198.out).2.1); (case side3 => repeat (first | exact (Kd.R_reads' HO201.out).2.2 | (with_reducible refine Kd.C_alloc ?_ _) | (with_reducible refine Kd.C_drewN ?_ _) | (with_reducible refine Kd.C_drew ?_))); (case side4 => exact (Kd.R_reads' HO201.out).2.1); rintro e w14 ⟨rfl, hb⟩; refine ⟨_, rfl, ?_⟩; have n0_ := Aside0.mk (Kd.N_below (by (with_reducible repeat (first | apply Kd.N_alloc | apply Kd.N_drewN | apply Kd.N_drew)); exact HO198.out) hb); have n1_ := Aside0.mk (Kd.R_below (by (with_reducible repeat (first | apply Kd.R_alloc | apply Kd.R_drewN | apply Kd.R_drew)); exact HO201.out) hb); have n2_ := Aside0.mk (below_step (by repeat (first | (with_reducible first | exact HB.out | apply below_alloc | apply pw_below_drewN | apply below_drew1) | exact HB.out)) hb); clear HO198; clear HO201; clear HB; have HO198 := n0_; have HO201 := n1_; have HB := n2_; clear n0_ n1_ n2_; (try clear hb); (try clear hb2); (try clear hk); (try clear hi)))
  (try simp only [Act.put, List.setIfInBounds_toArray, List.set_cons_zero, List.set_cons_succ])
  go_cut [40] (fun v40 wc => ∃ (kq : Nat) (x40_4 : Bool), v40 = .bool x40_4 ∧ Aside0 (gridhalllaw3_ReserveHolds.j0 kq l0 l1 x40_4 = some r) ∧ Aside0 (kq ≤ k) ∧ Aside0 (Below w.heap.size w wc))
  case first =>
    have H := HC5.out
    clear HC5
    by_cases c15 : t203 = 0
    · rw [if_pos c15] at H
      have c15b0 : (t203 == 0) = true := beq_iff_eq.mpr c15
      have c15b1 : (t203 != 0) = false := bne_eq_false_iff_eq.mpr c15
      clear c15
      (first | rw [c15b0] | (simp only [i64_w, i32_w]; rw [c15b0]) | skip)
      have H' := Aside0.mk H
      clear H
      go_wp2
      go_meet
      case rel => exact ⟨_, ((t202 != 2)), (by first | rfl | (simp; done) | (simp [*]; done)), H', ⟨by first | omega | exact Nat.le_refl _⟩, ⟨by repeat (first | (with_reducible first | exact HB.out | apply below_alloc | apply pw_below_drewN | apply below_drew1) | exact HB.out)⟩⟩
    · rw [if_neg c15] at H
      have c15b0 : (t203 == 0) = false := beq_eq_false_iff_ne.mpr c15
      have c15b1 : (t203 != 0) = true := bne_iff_ne.mpr c15
      (first | rw [c15b0] | (simp only [i64_w, i32_w]; rw [c15b0]) | skip)
      have H' := Aside0.mk H
      clear H
      go_wp2
      go_meet
      case rel => exact ⟨_, (true), (by first | rfl | (simp; done) | (simp [*]; done)), H', ⟨by first | omega | exact Nat.le_refl _⟩, ⟨by repeat (first | (with_reducible first | exact HB.out | apply below_alloc | apply pw_below_drewN | apply below_drew1) | exact HB.out)⟩⟩
  case rest => as_aux_lemma =>
    clear HC5
    try clear c1
    try clear p2
    try clear c3
    try clear c9
    try clear c10
    try clear c15
    try clear c15b0
    try clear c15b1
    obtain ⟨kq, x40_4, rfl, HA, HJ4, HB⟩ := hcut
    cases kq with
    | zero => exact absurd HA.out (by simp [gridhalllaw3_ReserveHolds.j0])
    | succ kj4 =>
      have H := HA.out
      clear HA
      simp only [gridhalllaw3_ReserveHolds.j0] at H
      by_cases c16 : x40_4 = true
      · subst c16
        have H1 : (some false) = some r := by rw [if_pos rfl] at H; exact H
        clear H
        have H := H1
        clear H1
        obtain rfl := Option.some.inj H
        go_wp2
        go_ret
        exact ⟨by first | rfl | (simp [errW_none, errW_some] <;> rfl) | (simp [*, errW_none, errW_some] <;> rfl), by repeat (first | (with_reducible first | exact HB.out | apply below_alloc | apply pw_below_drewN | apply below_drew1) | exact HB.out)⟩
      · replace c16 := Bool.eq_false_iff.mpr c16
        subst c16
        have H1 : ((reserve_Possible.f kj4 l0).bind fun bt204 => ((reserve_Held.f kj4 l0 l1).bind fun bt206 => ((reserve_Outage.f kj4 l0 l1).bind fun bt208 => ((gridhalllaw3_unitsError.f kj4 l0).bind fun t211 => ((reserve_Check.f kj4 l0).bind fun t212 => (if t212 = t211 then (gridhalllaw3_ReserveHolds.j1 kj4 l0 l1 bt204.1 bt206.1 bt206.2 bt208.1 bt208.2.1 bt208.2.2 t211 (bt204.2 != t211)) else (gridhalllaw3_ReserveHolds.j1 kj4 l0 l1 bt204.1 bt206.1 bt206.2 bt208.1 bt208.2.1 bt208.2.2 t211 true))))))) = some r := by rw [if_neg (show ¬ (false = true) by decide)] at H; exact H
        clear H
        have H := H1
        clear H1
        replace H := Option.bind_eq_some_iff.mp H
        obtain ⟨⟨t204, t205⟩, A170, H⟩ := H
        replace H : ((reserve_Held.f kj4 l0 l1).bind fun bt206 => ((reserve_Outage.f kj4 l0 l1).bind fun bt208 => ((gridhalllaw3_unitsError.f kj4 l0).bind fun t211 => ((reserve_Check.f kj4 l0).bind fun t212 => (if t212 = t211 then (gridhalllaw3_ReserveHolds.j1 kj4 l0 l1 t204 bt206.1 bt206.2 bt208.1 bt208.2.1 bt208.2.2 t211 (t205 != t211)) else (gridhalllaw3_ReserveHolds.j1 kj4 l0 l1 t204 bt206.1 bt206.2 bt208.1 bt208.2.1 bt208.2.2 t211 true)))))) = some r := H
        have A17 := Aside0.mk A170
        clear A170
        replace H := Option.bind_eq_some_iff.mp H
        obtain ⟨⟨t206, t207⟩, A180, H⟩ := H
        replace H : ((reserve_Outage.f kj4 l0 l1).bind fun bt208 => ((gridhalllaw3_unitsError.f kj4 l0).bind fun t211 => ((reserve_Check.f kj4 l0).bind fun t212 => (if t212 = t211 then (gridhalllaw3_ReserveHolds.j1 kj4 l0 l1 t204 t206 t207 bt208.1 bt208.2.1 bt208.2.2 t211 (t205 != t211)) else (gridhalllaw3_ReserveHolds.j1 kj4 l0 l1 t204 t206 t207 bt208.1 bt208.2.1 bt208.2.2 t211 true))))) = some r := H
        have A18 := Aside0.mk A180
        clear A180
        replace H := Option.bind_eq_some_iff.mp H
        obtain ⟨⟨t208, t209, t210⟩, A190, H⟩ := H
        replace H : ((gridhalllaw3_unitsError.f kj4 l0).bind fun t211 => ((reserve_Check.f kj4 l0).bind fun t212 => (if t212 = t211 then (gridhalllaw3_ReserveHolds.j1 kj4 l0 l1 t204 t206 t207 t208 t209 t210 t211 (t205 != t211)) else (gridhalllaw3_ReserveHolds.j1 kj4 l0 l1 t204 t206 t207 t208 t209 t210 t211 true)))) = some r := H
        have A19 := Aside0.mk A190
        clear A190
        replace H := Option.bind_eq_some_iff.mp H
        obtain ⟨t211, A200, H⟩ := H
        replace H : ((reserve_Check.f kj4 l0).bind fun t212 => (if t212 = t211 then (gridhalllaw3_ReserveHolds.j1 kj4 l0 l1 t204 t206 t207 t208 t209 t210 t211 (t205 != t211)) else (gridhalllaw3_ReserveHolds.j1 kj4 l0 l1 t204 t206 t207 t208 t209 t210 t211 true))) = some r := H
        have A20 := Aside0.mk A200
        clear A200
        have HC21 := Aside0.mk H
        clear H
        go_upto_region 8 with (first | ((with_reducible refine gate_callee (f := 11) rfl ?_); refine goesL_ (some 43) rfl rfl Try.func11 (by kernel_rfl) rfl #[.slice A0 l0.length c0] rfl (by (try simp only [List.map_toArray, List.map_cons, List.map_nil]); first | done | rfl | (simp only [List.length_drop, List.length_take]; rfl)) ?_; (with_reducible refine (reserve_Possible.calls kj4 _ _ l0 t204 t205 _ ?side1 ?side2 A17.out).mono ?_); (case side1 => repeat (first | exact (Kd.C_below HR0.out HB.out) | (with_reducible refine Kd.C_alloc ?_ _) | (with_reducible refine Kd.C_drewN ?_ _) | (with_reducible refine Kd.C_drew ?_))); (case side2 => exact HC0.out); rintro e w22 ⟨rfl, hb⟩; refine ⟨_, rfl, ?_⟩; have n0_ := Aside0.mk (below_step (by repeat (first | (with_reducible first | exact HB.out | apply below_alloc | apply pw_below_drewN | apply below_drew1) | exact HB.out)) hb); clear HB; have HB := n0_; clear n0_; (try clear hb); (try clear hb2); (try clear hk); (try clear hi)) | ((with_reducible refine gate_callee (f := 9) rfl ?_); refine goesL_ (some 49) rfl rfl Try.func9 (by kernel_rfl) rfl #[.slice A0 l0.length c0, .slice A1 l1.length c1] rfl (by (try simp only [List.map_toArray, List.map_cons, List.map_nil]); first | done | rfl | (simp only [List.length_drop, List.length_take]; rfl)) ?_; (with_reducible refine (reserve_Held.calls kj4 _ _ l0 _ _ l1 t206 t207 _ ?side1 ?side2 ?side3 ?side4 A18.out).mono ?_); (case side1 => repeat (first | exact (Kd.C_below HR0.out HB.out) | (with_reducible refine Kd.C_alloc ?_ _) | (with_reducible refine Kd.C_drewN ?_ _) | (with_reducible refine Kd.C_drew ?_))); (case side2 => exact HC0.out); (case side3 => repeat (first | exact (Kd.C_below HR1.out HB.out) | (with_reducible refine Kd.C_alloc ?_ _) | (with_reducible refine Kd.C_drewN ?_ _) | (with_reducible refine Kd.C_drew ?_))); (case side4 => exact HC1.out); rintro e w23 ⟨rfl, hb⟩; refine ⟨_, rfl, ?_⟩; have n0_ := Aside0.mk (below_step (by repeat (first | (with_reducible first | exact HB.out | apply below_alloc | apply pw_below_drewN | apply below_drew1) | exact HB.out)) hb); clear HB; have HB := n0_; clear n0_; (try clear hb); (try clear hb2); (try clear hk); (try clear hi)) | ((with_reducible refine gate_callee (f := 12) rfl ?_); refine goesL_ (some 55) rfl rfl Try.func12 (by kernel_rfl) rfl #[.slice A0 l0.length c0, .slice A1 l1.length c1] rfl (by (try simp only [List.map_toArray, List.map_cons, List.map_nil]); first | done | rfl | (simp only [List.length_drop, List.length_take]; rfl)) ?_; (with_reducible refine (reserve_Outage.calls kj4 _ _ l0 _ _ l1 t208 t209 t210 _ ?side1 ?side2 ?side3 ?side4 A19.out).mono ?_); (case side1 => repeat (first | exact (Kd.C_below HR0.out HB.out) | (with_reducible refine Kd.C_alloc ?_ _) | (with_reducible refine Kd.C_drewN ?_ _) | (with_reducible refine Kd.C_drew ?_))); (case side2 => exact HC0.out); (case side3 => repeat (first | exact (Kd.C_below HR1.out HB.out) | (with_reducible refine Kd.C_alloc ?_ _) | (with_reducible refine Kd.C_drewN ?_ _) | (with_reducible refine Kd.C_drew ?_))); (case side4 => exact HC1.out); rintro e w24 ⟨rfl, hb⟩; refine ⟨_, rfl, ?_⟩; have n0_ := Aside0.mk (below_step (by repeat (first | (with_reducible first | exact HB.out | apply below_alloc | apply pw_below_drewN | apply below_drew1) | exact HB.out)) hb); clear HB; have HB := n0_; clear n0_; (try clear hb); (try clear hb2); (try clear hk); (try clear hi)) | ((with_reducible refine gate_callee (f := 13) rfl ?_); refine goesL_ (some 60) rfl rfl Try.func13 (by kernel_rfl) rfl #[.slice A0 l0.length c0] rfl (by (try simp only [List.map_toArray, List.map_cons, List.map_nil]); first | done | rfl | (simp only [List.length_drop, List.length_take]; rfl)) ?_; (with_reducible refine (gridhalllaw3_unitsError.calls kj4 (fun k_ => k_ < w.heap.size) _ _ l0 t211 _ ?side1 A20.out).mono ?_); (case side1 => exact Kd.V_mk HC0.out (Kd.F_below (Kd.C_F k32_heap HR0.out) (by repeat (first | (with_reducible first | exact HB.out | apply below_alloc | apply pw_below_drewN | apply below_drew1) | exact HB.out)))); rintro e w25 ⟨rfl, hb⟩; refine ⟨_, rfl, ?_⟩; have n0_ := Aside0.mk (below_step (by repeat (first | (with_reducible first | exact HB.out | apply below_alloc | apply pw_below_drewN | apply below_drew1) | exact HB.out)) hb); clear HB; have HB := n0_; clear n0_; (try clear hb); (try clear hb2); (try clear hk); (try clear hi)))
        (try simp only [Act.put, List.setIfInBounds_toArray, List.set_cons_zero, List.set_cons_succ])
        go_cut [69] (fun v69 wc => ∃ (kq : Nat) (x69_20 : Bool), v69 = .bool x69_20 ∧ Aside0 (gridhalllaw3_ReserveHolds.j1 kq l0 l1 t204 t206 t207 t208 t209 t210 t211 x69_20 = some r) ∧ Aside0 (kq ≤ kj4) ∧ Aside0 (Below w.heap.size w wc))
        case first =>
          have H := HC21.out
          clear HC21
          replace H := Option.bind_eq_some_iff.mp H
          obtain ⟨t212, A260, H⟩ := H
          replace H : (if t212 = t211 then (gridhalllaw3_ReserveHolds.j1 kj4 l0 l1 t204 t206 t207 t208 t209 t210 t211 (t205 != t211)) else (gridhalllaw3_ReserveHolds.j1 kj4 l0 l1 t204 t206 t207 t208 t209 t210 t211 true)) = some r := H
          have A26 := Aside0.mk A260
          clear A260
          by_cases c27 : t212 = t211
          · rw [if_pos c27] at H
            have c27b0 : (t212 == t211) = true := beq_iff_eq.mpr c27
            have c27b1 : (t212 != t211) = false := bne_eq_false_iff_eq.mpr c27
            clear c27
            (first | rw [c27b0] | (simp only [i64_w, i32_w]; rw [c27b0]) | skip)
            have H' := Aside0.mk H
            clear H
            go_wp2_with (first | ((with_reducible refine gate_callee (f := 14) rfl ?_); refine goesL_ (some 62) rfl rfl Try.func14 (by kernel_rfl) rfl #[.slice A0 l0.length c0] rfl (by (try simp only [List.map_toArray, List.map_cons, List.map_nil]); first | done | rfl | (simp only [List.length_drop, List.length_take]; rfl)) ?_; (with_reducible refine (reserve_Check.calls kj4 (fun k_ => k_ < w.heap.size) _ _ l0 t212 _ ?side1 A26.out).mono ?_); (case side1 => exact Kd.V_mk HC0.out (Kd.F_below (Kd.C_F k32_heap HR0.out) (by repeat (first | (with_reducible first | exact HB.out | apply below_alloc | apply pw_below_drewN | apply below_drew1) | exact HB.out)))); rintro e w28 ⟨rfl, hb⟩; refine ⟨_, rfl, ?_⟩; have n0_ := Aside0.mk (below_step (by repeat (first | (with_reducible first | exact HB.out | apply below_alloc | apply pw_below_drewN | apply below_drew1) | exact HB.out)) hb); clear HB; have HB := n0_; clear n0_; (try clear hb); (try clear hb2); (try clear hk); (try clear hi)))
            go_meet
            case rel => exact ⟨_, ((t205 != t211)), (by first | rfl | (simp; done) | (simp [*]; done)), H', ⟨by have := HJ4.out; first | omega | exact Nat.le_refl _⟩, ⟨by repeat (first | (with_reducible first | exact HB.out | apply below_alloc | apply pw_below_drewN | apply below_drew1) | exact HB.out)⟩⟩
          · rw [if_neg c27] at H
            have c27b0 : (t212 == t211) = false := beq_eq_false_iff_ne.mpr c27
            have c27b1 : (t212 != t211) = true := bne_iff_ne.mpr c27
            (first | rw [c27b0] | (simp only [i64_w, i32_w]; rw [c27b0]) | skip)
            have H' := Aside0.mk H
            clear H
            go_wp2_with (first | ((with_reducible refine gate_callee (f := 14) rfl ?_); refine goesL_ (some 62) rfl rfl Try.func14 (by kernel_rfl) rfl #[.slice A0 l0.length c0] rfl (by (try simp only [List.map_toArray, List.map_cons, List.map_nil]); first | done | rfl | (simp only [List.length_drop, List.length_take]; rfl)) ?_; (with_reducible refine (reserve_Check.calls kj4 (fun k_ => k_ < w.heap.size) _ _ l0 t212 _ ?side1 A26.out).mono ?_); (case side1 => exact Kd.V_mk HC0.out (Kd.F_below (Kd.C_F k32_heap HR0.out) (by repeat (first | (with_reducible first | exact HB.out | apply below_alloc | apply pw_below_drewN | apply below_drew1) | exact HB.out)))); rintro e w29 ⟨rfl, hb⟩; refine ⟨_, rfl, ?_⟩; have n0_ := Aside0.mk (below_step (by repeat (first | (with_reducible first | exact HB.out | apply below_alloc | apply pw_below_drewN | apply below_drew1) | exact HB.out)) hb); clear HB; have HB := n0_; clear n0_; (try clear hb); (try clear hb2); (try clear hk); (try clear hi)))
            go_meet
            case rel => exact ⟨_, (true), (by first | rfl | (simp; done) | (simp [*]; done)), H', ⟨by have := HJ4.out; first | omega | exact Nat.le_refl _⟩, ⟨by repeat (first | (with_reducible first | exact HB.out | apply below_alloc | apply pw_below_drewN | apply below_drew1) | exact HB.out)⟩⟩
        case rest => as_aux_lemma =>
          clear HC21
          try clear c1
          try clear c2
          try clear p2
          try clear c3
          try clear c9
          try clear c10
          try clear c11
          try clear c12
          try clear c13
          try clear c14
          try clear c15
          try clear c15b0
          try clear c15b1
          try clear c16
          try clear c27
          try clear c27b0
          try clear c27b1
          try clear p2
          obtain ⟨kq, x69_20, rfl, HA, HJ20, HB⟩ := hcut
          cases kq with
          | zero => exact absurd HA.out (by simp [gridhalllaw3_ReserveHolds.j1])
          | succ kj20 =>
            have H := HA.out
            clear HA
            simp only [gridhalllaw3_ReserveHolds.j1] at H
            by_cases c30 : x69_20 = true
            · subst c30
              have H1 : (some false) = some r := by rw [if_pos rfl] at H; exact H
              clear H
              have H := H1
              clear H1
              obtain rfl := Option.some.inj H
              go_wp2
              go_ret
              exact ⟨by first | rfl | (simp [errW_none, errW_some] <;> rfl) | (simp [*, errW_none, errW_some] <;> rfl), by repeat (first | (with_reducible first | exact HB.out | apply below_alloc | apply pw_below_drewN | apply below_drew1) | exact HB.out)⟩
            · replace c30 := Bool.eq_false_iff.mpr c30
              subst c30
              have H1 : (if t211 = 0 then (gridhalllaw3_ReserveHolds.l0 kj20 l0 l1 t204 t206 t207 t208 t209 t210 t211 0 l0 (l0.length : Int) 0) else (gridhalllaw3_ReserveHolds.j3 kj20 l0 l1 t204 t206 t207 t208 t209 t210 t211 0)) = some r := by rw [if_neg (show ¬ (false = true) by decide)] at H; exact H
              clear H
              have H := H1
              clear H1
              have HC31 := Aside0.mk H
              clear H
              go_upto_if 71 with (fail)
              go_cut [14, 15] (fun v14 v15 wc => ∃ (kq : Nat) (x14_30 : Int) (x15_30 : Int), v14 = .int .i64 x14_30 ∧ v15 = .int .i64 x15_30 ∧ Aside0 (gridhalllaw3_ReserveHolds.j3 kq l0 l1 t204 t206 t207 t208 t209 t210 x14_30 x15_30 = some r) ∧ Aside0 (kq ≤ kj20) ∧ Aside0 (Below w.heap.size w wc))
              case first =>
                have H := HC31.out
                clear HC31
                by_cases c32 : t211 = 0
                · rw [if_pos c32] at H
                  have c32b0 : (t211 == 0) = true := beq_iff_eq.mpr c32
                  have c32b1 : (t211 != 0) = false := bne_eq_false_iff_eq.mpr c32
                  clear c32
                  (first | rw [c32b0] | (simp only [i64_w, i32_w]; rw [c32b0]) | skip)
                  have H' := Aside0.mk H
                  clear H
                  go_wp2
                  go_loopg [15, 74] kj20 (fun kq v15 v74 w' => ∃ (x15_3 : Int) (x74_3 : Int), v15 = .int .i64 x15_3 ∧ v74 = .int .i64 x74_3 ∧ Aside0 (gridhalllaw3_ReserveHolds.l0 kq l0 l1 t204 t206 t207 t208 t209 t210 t211 x15_3 l0 (l0.length : Int) x74_3 = some r) ∧ Aside0 (kq ≤ kj20) ∧ Aside0 (Below w.heap.size w w'))
                  case atStart => exact ⟨(0), (0), (by first | rfl | (simp; done) | (simp [*]; done)), (by first | rfl | (simp; done) | (simp [*]; done)), H', ⟨Nat.le_refl _⟩, ⟨by repeat (first | (with_reducible first | exact HB.out | apply below_alloc | apply pw_below_drewN | apply below_drew1) | exact HB.out)⟩⟩
                  case round => as_aux_lemma =>
                    clear H'
                    try clear c1
                    try clear c2
                    try clear p2
                    try clear c3
                    try clear c9
                    try clear c10
                    try clear c11
                    try clear c12
                    try clear c13
                    try clear c14
                    try clear c15
                    try clear c15b0
                    try clear c15b1
                    try clear c16
                    try clear c27
                    try clear c27b0
                    try clear c27b1
                    try clear c30
                    try clear c32
                    try clear c32b0
                    try clear c32b1
                    try clear p2
                    obtain ⟨x15_3, x74_3, rfl, rfl, HA, HK3, HB⟩ := hrel
                    cases gk with
                    | zero => exact absurd HA.out (by simp [gridhalllaw3_ReserveHolds.l0])
                    | succ k3 =>
                      have H := HA.out
                      clear HA
                      simp only [gridhalllaw3_ReserveHolds.l0] at H
                      by_cases c33 : x74_3 < (l0.length : Int)
                      · rw [if_pos c33] at H
                        have c33b0 : decide (x74_3 < (l0.length : Int)) = true := decide_eq_true c33
                        clear c33
                        by_cases c34 : 0 ≤ x74_3
                        · rw [if_pos c34] at H
                          have c34b0 : decide (0 ≤ x74_3) = true := decide_eq_true c34
                          clear c34
                          by_cases c35 : x74_3 < (l0.length : Int)
                          · rw [if_pos c35] at H
                            have c35b0 : decide (x74_3 < (l0.length : Int)) = true := decide_eq_true c35
                            clear c35
                            replace H := Option.bind_eq_some_iff.mp H
                            obtain ⟨t215, A360, H⟩ := H
                            replace H : (gridhalllaw3_ReserveHolds.l0 k3 l0 l1 t204 t206 t207 t208 t209 t210 t211 (wrap64 (x15_3 + (mn ((rd_T32 l0 x74_3).f1) t215))) l0 (l0.length : Int) (wrap64 (x74_3 + 1))) = some r := H
                            have A36 := Aside0.mk A360
                            clear A360
                            obtain ⟨ji37, hji37⟩ : ∃ j_ : Int, (mn ((rd_T32 l0 x74_3).f1) t215) = j_ := ⟨_, rfl⟩
                            replace H : (gridhalllaw3_ReserveHolds.l0 k3 l0 l1 t204 t206 t207 t208 t209 t210 t211 (wrap64 (x15_3 + (ji37))) l0 (l0.length : Int) (wrap64 (x74_3 + 1))) = some r := by first | (rw [hji37] at H; exact H) | (simp only [hji37] at H ⊢; exact H)
                            (try rw [hji37] at A36)
                            have hji37_ : (if t215 < ((rd_T32 l0 x74_3).f1) then t215 else ((rd_T32 l0 x74_3).f1)) = ji37 := hji37
                            have H' := Aside0.mk H
                            clear H
                            have p213 : 0 ≤ (x74_3 : Int) := of_decide_eq_true (by first | (with_reducible assumption) | assumption)
                            have q213 : x74_3 < (l0.length : Int) := of_decide_eq_true (by first | (with_reducible assumption) | assumption)
                            obtain ⟨ad213, A213_1, c213_1, e213, hx213_0, hx213_1, hx213_2, hl213_1, hi213_1⟩ := at_T32 HR0.out x74_3 p213 q213
                            cases e213
                            replace hx213_0 := (HB.out.cell (World.block_lt_of_cell? w _ hx213_0)).trans hx213_0
                            replace hx213_1 := (HB.out.cell (World.block_lt_of_cell? w _ hx213_1)).trans hx213_1
                            replace hx213_2 := (HB.out.cell (World.block_lt_of_cell? w _ hx213_2)).trans hx213_2
                            have HR213_1 := Aside0.mk hi213_1
                            have HC213_1 := Aside0.mk hl213_1
                            clear hi213_1 hl213_1
                            replace p213 := eq_true p213
                            replace q213 := eq_true q213
                            try go_wp2_with (first | ((with_reducible refine gate_dst (N := 17) rfl ?_); (try (refine gate_guard (by rfl) ?_; dsimp only)); refine box_event ?hg (N := 17) ?hd (cs := #[.string (⟨#[]⟩ : ByteArray), .slice none 0 0, .int .i64 0]) (t := 32) ?hr ?_; (case hd => rfl); (case hg => rfl); (case hr => first | (go_simp; done) | (go_simp; rfl)); intro gb214 hg w38 hbox hb; have n0_ := Aside0.mk (below_step (by repeat (first | (with_reducible first | exact HB.out | apply below_alloc | apply pw_below_drewN | apply below_drew1) | exact HB.out)) hb); have n1_ := Aside0.mk (hbox); have n2_ := Aside0.mk ((by rw [hg]; exact (below_size (by repeat (first | (with_reducible first | exact HB.out | apply below_alloc | apply pw_below_drewN | apply below_drew1) | exact HB.out))) : w.heap.size ≤ gb214)); have n3_ := Aside0.mk ((by rw [hg]; exact (below_size (by repeat (first | (with_reducible first | exact HB.out | apply below_alloc | apply pw_below_drewN | apply below_drew1) | exact HB.out))) : w.heap.size ≤ gb214)); clear HB; have HB := n0_; have BK214 := n1_; have GW214 := n2_; have GE214 := n3_; clear n0_ n1_ n2_ n3_; clear hb hbox hg; have hcz39_0 : w38.cell? ⟨gb214, 0, none⟩ = some (.string (⟨#[]⟩ : ByteArray)) := (blk_cell BK214.out 0).trans rfl; have hcz39_1 : w38.cell? ⟨gb214, 1, none⟩ = some (.slice none 0 0) := (blk_cell BK214.out 1).trans rfl; have hcz39_2 : w38.cell? ⟨gb214, 2, none⟩ = some (.int .i64 0) := (blk_cell BK214.out 2).trans rfl; have hfz39_0 := blk_frozen BK214.out 0; have hfz39_1 := blk_frozen BK214.out 1; have hfz39_2 := blk_frozen BK214.out 2))
                            have n0_ : Aside0 ((((w38.setCell ⟨gb214, 0, none⟩ (.string ((rd_T32 l0 x74_3).f0.f0))).setCell ⟨gb214, 1, none⟩ (.slice A213_1 ((rd_T32 l0 x74_3).f0.f1).length c213_1)).setCell ⟨gb214, 2, none⟩ (.int .i64 ((rd_T32 l0 x74_3).f1))).heap[gb214]? = some (.cells #[.string ((rd_T32 l0 x74_3).f0.f0), .slice A213_1 ((rd_T32 l0 x74_3).f0.f1).length c213_1, .int .i64 ((rd_T32 l0 x74_3).f1)] 32 (0, 0))) := ⟨by (with_reducible repeat (first | refine blk_drewN ?_ _ | refine blk_drew ?_ | refine blk_alloc ?_ _)); refine blk_put (cs := #[.string ((rd_T32 l0 x74_3).f0.f0), .slice A213_1 ((rd_T32 l0 x74_3).f0.f1).length c213_1, .int .i64 0]) ?_ 2 _ rfl; (with_reducible repeat (first | refine blk_drewN ?_ _ | refine blk_drew ?_ | refine blk_alloc ?_ _)); refine blk_put (cs := #[.string ((rd_T32 l0 x74_3).f0.f0), .slice none 0 0, .int .i64 0]) ?_ 1 _ rfl; (with_reducible repeat (first | refine blk_drewN ?_ _ | refine blk_drew ?_ | refine blk_alloc ?_ _)); refine blk_put (cs := #[.string (⟨#[]⟩ : ByteArray), .slice none 0 0, .int .i64 0]) ?_ 0 _ rfl; (with_reducible repeat (first | refine blk_drewN ?_ _ | refine blk_drew ?_ | refine blk_alloc ?_ _)); exact BK214.out⟩
                            have n1_ : Aside0 (Below w.heap.size w (((w38.setCell ⟨gb214, 0, none⟩ (.string ((rd_T32 l0 x74_3).f0.f0))).setCell ⟨gb214, 1, none⟩ (.slice A213_1 ((rd_T32 l0 x74_3).f0.f1).length c213_1)).setCell ⟨gb214, 2, none⟩ (.int .i64 ((rd_T32 l0 x74_3).f1)))) := ⟨by repeat (first | (with_reducible first | exact HB.out | apply below_alloc | apply pw_below_drewN | apply below_drew1 | refine below_set ?_ GE214.out) | exact HB.out)⟩
                            (try clear BK214)
                            (try clear HB)
                            generalize (((w38.setCell ⟨gb214, 0, none⟩ (.string ((rd_T32 l0 x74_3).f0.f0))).setCell ⟨gb214, 1, none⟩ (.slice A213_1 ((rd_T32 l0 x74_3).f0.f1).length c213_1)).setCell ⟨gb214, 2, none⟩ (.int .i64 ((rd_T32 l0 x74_3).f1))) = w40 at n0_ n1_ ⊢
                            have BK214 := n0_
                            have HB := n1_
                            clear n0_ n1_
                            have n0_ := Aside0.mk (blk_drew BK214.out)
                            have n1_ := Aside0.mk (below_drew1 HB.out)
                            clear BK214
                            clear HB
                            have BK214 := n0_
                            have HB := n1_
                            clear n0_ n1_
                            refine start_ (n := 9) (S := fun w' => w'.cell? ⟨gb214, 0, none⟩ = some (.string ((rd_T32 l0 x74_3).f0.f0)) ∧ w'.cell? ⟨gb214, 1, none⟩ = some (.slice A213_1 ((rd_T32 l0 x74_3).f0.f1).length c213_1) ∧ w'.cell? ⟨gb214, 2, none⟩ = some (.int .i64 ((rd_T32 l0 x74_3).f1))) (ds := []) #[false, false, false, false, false, false, false, false, false] (by kernel_rfl) rfl rfl ⟨(blk_cell BK214.out 0).trans rfl, (blk_cell BK214.out 1).trans rfl, (blk_cell BK214.out 2).trans rfl⟩ (fun hHeld => ?_); refine with_tabW gridhalllaw3_ReserveHolds.tab15 gridhalllaw3_ReserveHolds.bits15 (fun HT_ HW_ => ?_)
                            generalize w40.drew = w41 at BK214 HB hHeld ⊢
                            refine pure_ (i := 0) (N := some 78) (v := ?_) (a' := ?_) #[true, false, false, false, false, false, false, false, false] rfl rfl (any_of HT_.out (by kernel_rfl)) (fun _ _ _ h => h) (Or.inl ⟨by rfl, ?_⟩) ?_ ?_
                            rotate_left
                            · intro w'
                              go_simp
                              with_reducible rfl
                            rotate_left
                            · simp only [Act.put, List.setIfInBounds_toArray, List.set_cons_zero, List.set_cons_succ, i64_w, i32_w]
                              rfl
                            refine pure_ (i := 1) (N := some 79) (v := ?_) (a' := ?_) #[true, true, false, false, false, false, false, false, false] rfl rfl (any_of HT_.out (by kernel_rfl)) (fun _ _ _ h => h) (Or.inl ⟨by rfl, ?_⟩) ?_ ?_
                            rotate_left
                            · intro w'
                              go_simp
                              with_reducible rfl
                            rotate_left
                            · simp only [Act.put, List.setIfInBounds_toArray, List.set_cons_zero, List.set_cons_succ, i64_w, i32_w]
                              rfl
                            refine pure_ (i := 3) (N := some 81) (v := ?_) (a' := ?_) #[true, true, false, true, false, false, false, false, false] rfl rfl (any_of HT_.out (by kernel_rfl)) (fun _ _ _ h => h) (Or.inl ⟨by rfl, ?_⟩) ?_ ?_
                            rotate_left
                            · intro w'
                              go_simp
                              with_reducible rfl
                            rotate_left
                            · simp only [Act.put, List.setIfInBounds_toArray, List.set_cons_zero, List.set_cons_succ, i64_w, i32_w]
                              rfl
                            refine take_ (i := 2) (N := some 80) (v := ?_) (a' := ?_) #[true, true, true, true, false, false, false, false, false] rfl rfl (take_ofW HT_.out HW_.out (by kernel_rfl)) (fun _ _ _ h => h) (Or.inl ⟨by rfl, ?_⟩) hHeld ?_ ?_
                            rotate_left
                            · rintro w' ⟨s0, s1, s2⟩
                              go_simp
                              with_reducible rfl
                            rotate_left
                            · simp only [Act.put, List.setIfInBounds_toArray, List.set_cons_zero, List.set_cons_succ, i64_w, i32_w]
                              rfl
                            refine take_ (i := 4) (N := some 82) (v := ?_) (a' := ?_) #[true, true, true, true, true, false, false, false, false] rfl rfl (take_ofW HT_.out HW_.out (by kernel_rfl)) (fun _ _ _ h => h) (Or.inl ⟨by rfl, ?_⟩) hHeld ?_ ?_
                            rotate_left
                            · rintro w' ⟨s0, s1, s2⟩
                              go_simp
                              with_reducible rfl
                            rotate_left
                            · simp only [Act.put, List.setIfInBounds_toArray, List.set_cons_zero, List.set_cons_succ, i64_w, i32_w]
                              rfl
                            refine one_ (i := 5) (N := some 83) #[true, true, true, true, true, true, false, false, false] rfl rfl (one_of HT_.out (by kernel_rfl)) (by decide) (fun K hK => ?_)
                            refine goes_ Try.func15 (by kernel_rfl) rfl #[.agg #[.string ((rd_T32 l0 x74_3).f0.f0), .slice A213_1 ((rd_T32 l0 x74_3).f0.f1).length c213_1]] (by rfl) rfl rfl (by (try simp only [List.map_toArray, List.map_cons, List.map_nil]); first | done | rfl | (simp only [List.length_drop, List.length_take]; rfl)) ?_
                            with_reducible refine (gridhallref3_All.calls k3 ((rd_T32 l0 x74_3).f0.f0) _ _ ((rd_T32 l0 x74_3).f0.f1) t215 _ ?side1 ?side2 A36.out).mono ?_
                            (case side1 => repeat (first | exact (Kd.C_below HR213_1.out HB.out) | (with_reducible refine Kd.C_alloc ?_ _) | (with_reducible refine Kd.C_drewN ?_ _) | (with_reducible refine Kd.C_drew ?_)))
                            (case side2 => exact HC213_1.out)
                            rintro e w42 ⟨rfl, hb⟩
                            refine ⟨_, rfl, ?_⟩
                            have n0_ := Aside0.mk (blk_below (g := gb214) (o := .cells #[.string ((rd_T32 l0 x74_3).f0.f0), .slice A213_1 ((rd_T32 l0 x74_3).f0.f1).length c213_1, .int .i64 ((rd_T32 l0 x74_3).f1)] 32 (0, 0)) (by (with_reducible repeat (first | refine blk_drewN ?_ _ | refine blk_drew ?_ | refine blk_alloc ?_ _)); exact BK214.out) hb)
                            have n1_ := Aside0.mk (below_step (by repeat (first | (with_reducible first | exact HB.out | apply below_alloc | apply pw_below_drewN | apply below_drew1 | refine below_set ?_ GE214.out) | exact HB.out)) hb)
                            clear BK214
                            clear HB
                            have BK214 := n0_
                            have HB := n1_
                            clear n0_ n1_
                            (try clear hb)
                            (try clear hb2)
                            (try clear hk)
                            (try clear hi)
                            refine hK.out _ _ ⟨(blk_cell BK214.out 0).trans rfl, (blk_cell BK214.out 1).trans rfl, (blk_cell BK214.out 2).trans rfl⟩ (fun hHeld => ?_)
                            clear hK K
                            refine norm_ (a' := ?_) ?_ ?_
                            rotate_left
                            · show Act.put _ (some 83) _ = _
                              simp only [Act.put, List.setIfInBounds_toArray, List.set_cons_zero, List.set_cons_succ, i64_w, i32_w]
                              rfl
                            refine pure_ (i := 6) (N := some 84) (v := ?_) (a' := ?_) #[true, true, true, true, true, true, true, false, false] rfl rfl (any_of HT_.out (by kernel_rfl)) (fun _ _ _ h => h) (Or.inl ⟨by rfl, ?_⟩) ?_ ?_
                            rotate_left
                            · intro w'
                              go_simp
                              with_reducible rfl
                            rotate_left
                            · simp only [Act.put, List.setIfInBounds_toArray, List.set_cons_zero, List.set_cons_succ, i64_w, i32_w]
                              rfl
                            refine pure_ (i := 7) (N := some 85) (v := ?_) (a' := ?_) #[true, true, true, true, true, true, true, true, false] rfl rfl (any_of HT_.out (by kernel_rfl)) (fun _ _ _ h => h) (Or.inl ⟨by rfl, ?_⟩) ?_ ?_
                            rotate_left
                            · intro w'
                              go_simp
                              with_reducible rfl
                            rotate_left
                            · simp only [Act.put, List.setIfInBounds_toArray, List.set_cons_zero, List.set_cons_succ, i64_w, i32_w]
                              rfl
                            refine pure_ (i := 8) (N := some 15) (v := ?_) (a' := ?_) #[true, true, true, true, true, true, true, true, true] rfl rfl (any_of HT_.out (by kernel_rfl)) (fun _ _ _ h => h) (Or.inl ⟨by rfl, ?_⟩) ?_ ?_
                            rotate_left
                            · intro w'
                              go_simp
                              with_reducible rfl
                            rotate_left
                            · simp only [Act.put, List.setIfInBounds_toArray, List.set_cons_zero, List.set_cons_succ, i64_w, i32_w]
                              rfl
                            refine done_ (done_of HT_.out (by kernel_rfl)) ?_
                            try go_wp2
                            go_roundg k3
                            case measure => have := HJ4.out; have := HJ20.out; have := HK3.out; omega
                            case rel => exact ⟨(wrap64 (x15_3 + (ji37))), (wrap64 (x74_3 + 1)), (by first | rfl | (simp; done) | (simp only [← hji37] <;> (first | rfl | simp)) | (simp [*]; done)), (by first | rfl | (simp; done) | (simp [*]; done)), H', ⟨by have := HJ4.out; have := HJ20.out; have := HK3.out; omega⟩, ⟨by repeat (first | (with_reducible first | exact HB.out | apply below_alloc | apply pw_below_drewN | apply below_drew1 | refine below_set ?_ GE214.out) | exact HB.out)⟩⟩
                          · rw [if_neg c35] at H
                            exact absurd H (by simp)
                        · rw [if_neg c34] at H
                          exact absurd H (by simp)
                      · rw [if_neg c33] at H
                        have c33b0 : decide (x74_3 < (l0.length : Int)) = false := decide_eq_false c33
                        clear c33
                        by_cases c43 : (l1.length : Int) = (l0.length : Int)
                        · rw [if_pos c43] at H
                          have c43b0 : ((l1.length : Int) == (l0.length : Int)) = true := beq_iff_eq.mpr c43
                          have c43b1 : ((l1.length : Int) != (l0.length : Int)) = false := bne_eq_false_iff_eq.mpr c43
                          have c43b2 : (l1.length == l0.length) = true := by first | simpa using c43 | (simp at c43 ⊢; omega)
                          clear c43
                          have H' := Aside0.mk H
                          clear H
                          go_wp2
                          go_meet
                          case rel => exact ⟨_, (t211), (x15_3), (by first | rfl | (simp; done) | (simp [*]; done)), (by first | rfl | (simp; done) | (simp [*]; done)), H', ⟨by have := HJ4.out; have := HJ20.out; have := HK3.out; first | omega | exact Nat.le_refl _⟩, ⟨by repeat (first | (with_reducible first | exact HB.out | apply below_alloc | apply pw_below_drewN | apply below_drew1) | exact HB.out)⟩⟩
                        · rw [if_neg c43] at H
                          have c43b0 : ((l1.length : Int) == (l0.length : Int)) = false := beq_eq_false_iff_ne.mpr c43
                          have c43b1 : ((l1.length : Int) != (l0.length : Int)) = true := bne_iff_ne.mpr c43
                          have c43b2 : (l1.length == l0.length) = false := by first | simpa using c43 | (simp at c43 ⊢; omega)
                          have H' := Aside0.mk H
                          clear H
                          go_wp2
                          go_meet
                          case rel => exact ⟨_, (3), (x15_3), (by first | rfl | (simp; done) | (simp [*]; done)), (by first | rfl | (simp; done) | (simp [*]; done)), H', ⟨by have := HJ4.out; have := HJ20.out; have := HK3.out; first | omega | exact Nat.le_refl _⟩, ⟨by repeat (first | (with_reducible first | exact HB.out | apply below_alloc | apply pw_below_drewN | apply below_drew1) | exact HB.out)⟩⟩
                · rw [if_neg c32] at H
                  have c32b0 : (t211 == 0) = false := beq_eq_false_iff_ne.mpr c32
                  have c32b1 : (t211 != 0) = true := bne_iff_ne.mpr c32
                  (first | rw [c32b0] | (simp only [i64_w, i32_w]; rw [c32b0]) | skip)
                  have H' := Aside0.mk H
                  clear H
                  go_wp2
                  go_meet
                  case rel => exact ⟨_, (t211), (0), (by first | rfl | (simp; done) | (simp [*]; done)), (by first | rfl | (simp; done) | (simp [*]; done)), H', ⟨by have := HJ4.out; have := HJ20.out; first | omega | exact Nat.le_refl _⟩, ⟨by repeat (first | (with_reducible first | exact HB.out | apply below_alloc | apply pw_below_drewN | apply below_drew1) | exact HB.out)⟩⟩
              case rest => as_aux_lemma =>
                clear HC31
                try clear c1
                try clear c2
                try clear p2
                try clear q2
                try clear hx2
                try clear c3
                try clear c4
                try clear p6
                try clear c9
                try clear c10
                try clear c11
                try clear c12
                try clear c13
                try clear c14
                try clear c15
                try clear c15b0
                try clear c15b1
                try clear c16
                try clear c21
                try clear p21
                try clear q21
                try clear hx21
                try clear c27
                try clear c27b0
                try clear c27b1
                try clear c30
                try clear c32
                try clear c32b0
                try clear c32b1
                try clear c33
                try clear c33b0
                try clear c34
                try clear c34b0
                try clear c35
                try clear c35b0
                try clear c43
                try clear c43b0
                try clear c43b1
                try clear c43b2
                try clear hcz39_0
                try clear hcz39_1
                try clear hcz39_2
                try clear hfz39_0
                try clear hfz39_1
                try clear hfz39_2
                try clear hx213_0
                try clear hx213_1
                try clear hx213_2
                try clear p2
                try clear p213
                try clear q213
                obtain ⟨kq, x14_30, x15_30, rfl, rfl, HA, HJ30, HB⟩ := hcut
                cases kq with
                | zero => exact absurd HA.out (by simp [gridhalllaw3_ReserveHolds.j3])
                | succ kj30 =>
                  have H := HA.out
                  clear HA
                  simp only [gridhalllaw3_ReserveHolds.j3] at H
                  by_cases c44 : t204 = x15_30
                  · rw [if_pos c44] at H
                    have c44b0 : (t204 == x15_30) = true := beq_iff_eq.mpr c44
                    have c44b1 : (t204 != x15_30) = false := bne_eq_false_iff_eq.mpr c44
                    clear c44
                    have H' := Aside0.mk H
                    clear H
                    go_wp2
                    go_loopg [14, 18] kj30 (fun kq v14 v18 w' => ∃ (x14_4 : Int) (x18_4 : Int), v14 = .int .i64 x14_4 ∧ v18 = .int .i64 x18_4 ∧ Aside0 (gridhalllaw3_ReserveHolds.l1 kq l0 l1 t206 t207 t208 t209 t210 x14_4 x18_4 = some r) ∧ Aside0 (kq ≤ kj30) ∧ Aside0 (Below w.heap.size w w'))
                    case atStart => exact ⟨(x14_30), (0), (by first | rfl | (simp; done) | (simp [*]; done)), (by first | rfl | (simp; done) | (simp [*]; done)), H', ⟨Nat.le_refl _⟩, ⟨by repeat (first | (with_reducible first | exact HB.out | apply below_alloc | apply pw_below_drewN | apply below_drew1) | exact HB.out)⟩⟩
                    case round => as_aux_lemma =>
                      clear H'
                      try clear c1
                      try clear c2
                      try clear p2
                      try clear q2
                      try clear hx2
                      try clear c3
                      try clear c4
                      try clear p6
                      try clear c9
                      try clear c10
                      try clear c11
                      try clear c12
                      try clear c13
                      try clear c14
                      try clear c15
                      try clear c15b0
                      try clear c15b1
                      try clear c16
                      try clear c21
                      try clear p21
                      try clear q21
                      try clear hx21
                      try clear c27
                      try clear c27b0
                      try clear c27b1
                      try clear c30
                      try clear c32
                      try clear c32b0
                      try clear c32b1
                      try clear c33
                      try clear c33b0
                      try clear c34
                      try clear c34b0
                      try clear c35
                      try clear c35b0
                      try clear c43
                      try clear c43b0
                      try clear c43b1
                      try clear c43b2
                      try clear c44
                      try clear c44b0
                      try clear c44b1
                      try clear hcz39_0
                      try clear hcz39_1
                      try clear hcz39_2
                      try clear hfz39_0
                      try clear hfz39_1
                      try clear hfz39_2
                      try clear hx213_0
                      try clear hx213_1
                      try clear hx213_2
                      try clear p2
                      try clear p21
                      try clear p213
                      try clear p6
                      try clear q2
                      try clear q21
                      try clear q213
                      obtain ⟨x14_4, x18_4, rfl, rfl, HA, HK4, HB⟩ := hrel
                      cases gk with
                      | zero => exact absurd HA.out (by simp [gridhalllaw3_ReserveHolds.l1])
                      | succ k4 =>
                        have H := HA.out
                        clear HA
                        simp only [gridhalllaw3_ReserveHolds.l1] at H
                        have HC45 := Aside0.mk H
                        clear H
                        go_upto_region 22 with (fail)
                        go_cut [102] (fun v102 wc => ∃ (kq : Nat) (x102_44 : Bool), v102 = .bool x102_44 ∧ Aside0 (gridhalllaw3_ReserveHolds.j5 kq l0 l1 t206 t207 t208 t209 t210 x14_4 x18_4 x102_44 = some r) ∧ Aside0 (kq ≤ k4) ∧ Aside0 (Below w.heap.size w wc))
                        case first =>
                          have H := HC45.out
                          clear HC45
                          by_cases c46 : x14_4 = 0
                          · rw [if_pos c46] at H
                            have c46b0 : (x14_4 == 0) = true := beq_iff_eq.mpr c46
                            have c46b1 : (x14_4 != 0) = false := bne_eq_false_iff_eq.mpr c46
                            clear c46
                            (first | rw [c46b0] | (simp only [i64_w, i32_w]; rw [c46b0]) | skip)
                            have H' := Aside0.mk H
                            clear H
                            go_wp2
                            go_meet
                            case rel => exact ⟨_, (decide (x18_4 < (l0.length : Int))), (by first | rfl | (simp; done) | (simp [*]; done)), H', ⟨by have := HJ4.out; have := HJ20.out; have := HJ30.out; have := HK4.out; first | omega | exact Nat.le_refl _⟩, ⟨by repeat (first | (with_reducible first | exact HB.out | apply below_alloc | apply pw_below_drewN | apply below_drew1) | exact HB.out)⟩⟩
                          · rw [if_neg c46] at H
                            have c46b0 : (x14_4 == 0) = false := beq_eq_false_iff_ne.mpr c46
                            have c46b1 : (x14_4 != 0) = true := bne_iff_ne.mpr c46
                            (first | rw [c46b0] | (simp only [i64_w, i32_w]; rw [c46b0]) | skip)
                            have H' := Aside0.mk H
                            clear H
                            go_wp2
                            go_meet
                            case rel => exact ⟨_, (false), (by first | rfl | (simp; done) | (simp [*]; done)), H', ⟨by have := HJ4.out; have := HJ20.out; have := HJ30.out; have := HK4.out; first | omega | exact Nat.le_refl _⟩, ⟨by repeat (first | (with_reducible first | exact HB.out | apply below_alloc | apply pw_below_drewN | apply below_drew1) | exact HB.out)⟩⟩
                        case rest => as_aux_lemma =>
                          clear HC45
                          try clear c1
                          try clear c2
                          try clear p2
                          try clear q2
                          try clear hx2
                          try clear c3
                          try clear c4
                          try clear p6
                          try clear c9
                          try clear c10
                          try clear c11
                          try clear c12
                          try clear c13
                          try clear c14
                          try clear c15
                          try clear c15b0
                          try clear c15b1
                          try clear c16
                          try clear c21
                          try clear p21
                          try clear q21
                          try clear hx21
                          try clear c27
                          try clear c27b0
                          try clear c27b1
                          try clear c30
                          try clear c32
                          try clear c32b0
                          try clear c32b1
                          try clear c33
                          try clear c33b0
                          try clear c34
                          try clear c34b0
                          try clear c35
                          try clear c35b0
                          try clear c43
                          try clear c43b0
                          try clear c43b1
                          try clear c43b2
                          try clear c44
                          try clear c44b0
                          try clear c44b1
                          try clear c46
                          try clear c46b0
                          try clear c46b1
                          try clear hcz39_0
                          try clear hcz39_1
                          try clear hcz39_2
                          try clear hfz39_0
                          try clear hfz39_1
                          try clear hfz39_2
                          try clear hx213_0
                          try clear hx213_1
                          try clear hx213_2
                          try clear p2
                          try clear p21
                          try clear p213
                          try clear p6
                          try clear q2
                          try clear q21
                          try clear q213
                          obtain ⟨kq, x102_44, rfl, HA, HJ44, HB⟩ := hcut
                          cases kq with
                          | zero => exact absurd HA.out (by simp [gridhalllaw3_ReserveHolds.j5])
                          | succ kj44 =>
                            have H := HA.out
                            clear HA
                            simp only [gridhalllaw3_ReserveHolds.j5] at H
                            by_cases c47 : x102_44 = true
                            · subst c47
                              have H1 : (if 0 ≤ x18_4 then (if x18_4 < (l1.length : Int) then (if x18_4 < (l0.length : Int) then ((gridhallref3_All.f kj44 ((rd_T32 l0 x18_4).f0.f0) ((rd_T32 l0 x18_4).f0.f1)).bind fun t218 => ((gridhallref3_In.f (rd l1 x18_4) 0 t218).bind fun t219 => (if t219 = true then (gridhalllaw3_ReserveHolds.l1 kj44 l0 l1 t206 t207 t208 t209 t210 x14_4 (wrap64 (x18_4 + 1))) else (gridhalllaw3_ReserveHolds.l1 kj44 l0 l1 t206 t207 t208 t209 t210 4 (wrap64 (x18_4 + 1)))))) else (none)) else (none)) else (none)) = some r := by rw [if_pos rfl] at H; exact H
                              clear H
                              have H := H1
                              clear H1
                              by_cases c48 : 0 ≤ x18_4
                              · rw [if_pos c48] at H
                                have c48b0 : decide (0 ≤ x18_4) = true := decide_eq_true c48
                                clear c48
                                by_cases c49 : x18_4 < (l1.length : Int)
                                · rw [if_pos c49] at H
                                  have c49b0 : decide (x18_4 < (l1.length : Int)) = true := decide_eq_true c49
                                  clear c49
                                  by_cases c50 : x18_4 < (l0.length : Int)
                                  · rw [if_pos c50] at H
                                    have c50b0 : decide (x18_4 < (l0.length : Int)) = true := decide_eq_true c50
                                    clear c50
                                    replace H := Option.bind_eq_some_iff.mp H
                                    obtain ⟨t218, A510, H⟩ := H
                                    replace H : ((gridhallref3_In.f (rd l1 x18_4) 0 t218).bind fun t219 => (if t219 = true then (gridhalllaw3_ReserveHolds.l1 kj44 l0 l1 t206 t207 t208 t209 t210 x14_4 (wrap64 (x18_4 + 1))) else (gridhalllaw3_ReserveHolds.l1 kj44 l0 l1 t206 t207 t208 t209 t210 4 (wrap64 (x18_4 + 1))))) = some r := H
                                    have A51 := Aside0.mk A510
                                    clear A510
                                    replace H := Option.bind_eq_some_iff.mp H
                                    obtain ⟨t219, A520, H⟩ := H
                                    replace H : (if t219 = true then (gridhalllaw3_ReserveHolds.l1 kj44 l0 l1 t206 t207 t208 t209 t210 x14_4 (wrap64 (x18_4 + 1))) else (gridhalllaw3_ReserveHolds.l1 kj44 l0 l1 t206 t207 t208 t209 t210 4 (wrap64 (x18_4 + 1)))) = some r := H
                                    have A52 := Aside0.mk A520
                                    clear A520
                                    by_cases c53 : t219 = true
                                    · subst c53
                                      have H1 : (gridhalllaw3_ReserveHolds.l1 kj44 l0 l1 t206 t207 t208 t209 t210 x14_4 (wrap64 (x18_4 + 1))) = some r := by rw [if_pos rfl] at H; exact H
                                      clear H
                                      have H := H1
                                      clear H1
                                      have H' := Aside0.mk H
                                      clear H
                                      try go_wp2
                                      have n0_ := Aside0.mk (below_drew1 HB.out)
                                      clear HB
                                      have HB := n0_
                                      clear n0_
                                      have p216 : 0 ≤ (x18_4 : Int) := of_decide_eq_true (by first | (with_reducible assumption) | assumption)
                                      have q216 : x18_4 < (l1.length : Int) := of_decide_eq_true (by first | (with_reducible assumption) | assumption)
                                      obtain ⟨ad216, e216, hx216_0⟩ := Kd.at_int HR1.out x18_4 p216 q216
                                      have hw216_0 := hx216_0
                                      cases e216
                                      replace hx216_0 := (HB.out.cell (World.block_lt_of_cell? w _ hx216_0)).trans hx216_0
                                      replace p216 := eq_true p216
                                      replace q216 := eq_true q216
                                      have p217 : 0 ≤ (x18_4 : Int) := of_decide_eq_true (by first | (with_reducible assumption) | assumption)
                                      have q217 : x18_4 < (l0.length : Int) := of_decide_eq_true (by first | (with_reducible assumption) | assumption)
                                      obtain ⟨ad217, A217_1, c217_1, e217, hx217_0, hx217_1, hx217_2, hl217_1, hi217_1⟩ := at_T32 HR0.out x18_4 p217 q217
                                      have hw217_2 := hx217_2
                                      have hw217_1 := hx217_1
                                      have hw217_0 := hx217_0
                                      cases e217
                                      replace hx217_0 := (HB.out.cell (World.block_lt_of_cell? w _ hx217_0)).trans hx217_0
                                      replace hx217_1 := (HB.out.cell (World.block_lt_of_cell? w _ hx217_1)).trans hx217_1
                                      replace hx217_2 := (HB.out.cell (World.block_lt_of_cell? w _ hx217_2)).trans hx217_2
                                      have HR217_1 := Aside0.mk hi217_1
                                      have HC217_1 := Aside0.mk hl217_1
                                      clear hi217_1 hl217_1
                                      replace p217 := eq_true p217
                                      replace q217 := eq_true q217
                                      refine start_ (n := 12) (S := fun w' => w'.cell? (ad216.add (x18_4).toNat) = some (.int .i64 (rd l1 x18_4)) ∧ w'.cell? (ad217.add ((x18_4).toNat * 3)) = some (.string ((rd_T32 l0 x18_4).f0.f0)) ∧ w'.cell? ⟨(ad217.add ((x18_4).toNat * 3)).block, (ad217.add ((x18_4).toNat * 3)).off + 1, none⟩ = some (.slice A217_1 ((rd_T32 l0 x18_4).f0.f1).length c217_1) ∧ w'.cell? ⟨(ad217.add ((x18_4).toNat * 3)).block, (ad217.add ((x18_4).toNat * 3)).off + 2, none⟩ = some (.int .i64 ((rd_T32 l0 x18_4).f1))) (ds := []) #[false, false, false, false, false, false, false, false, false, false, false, false] (by kernel_rfl) rfl rfl ⟨((HB.out.cell (World.block_lt_of_cell? w _ hw216_0)).trans hw216_0), ((HB.out.cell (World.block_lt_of_cell? w _ hw217_0)).trans hw217_0), ((HB.out.cell (World.block_lt_of_cell? w _ hw217_1)).trans hw217_1), ((HB.out.cell (World.block_lt_of_cell? w _ hw217_2)).trans hw217_2)⟩ (fun hHeld => ?_); refine with_tabW gridhalllaw3_ReserveHolds.tab24 gridhalllaw3_ReserveHolds.bits24 (fun HT_ HW_ => ?_)
                                      generalize wc.drew = w54 at HB HR217_1 hx216_0 hx217_0 hx217_1 hx217_2 hHeld ⊢
                                      refine pure_ (i := 0) (N := some 105) (v := ?_) (a' := ?_) #[true, false, false, false, false, false, false, false, false, false, false, false] rfl rfl (any_of HT_.out (by kernel_rfl)) (fun _ _ _ h => h) (Or.inl ⟨by rfl, ?_⟩) ?_ ?_
                                      rotate_left
                                      · intro w'
                                        go_simp
                                        with_reducible rfl
                                      rotate_left
                                      · simp only [Act.put, List.setIfInBounds_toArray, List.set_cons_zero, List.set_cons_succ, i64_w, i32_w]
                                        rfl
                                      refine pure_ (i := 1) (N := some 106) (v := ?_) (a' := ?_) #[true, true, false, false, false, false, false, false, false, false, false, false] rfl rfl (any_of HT_.out (by kernel_rfl)) (fun _ _ _ h => h) (Or.inl ⟨by rfl, ?_⟩) ?_ ?_
                                      rotate_left
                                      · intro w'
                                        go_simp
                                        with_reducible rfl
                                      rotate_left
                                      · simp only [Act.put, List.setIfInBounds_toArray, List.set_cons_zero, List.set_cons_succ, i64_w, i32_w]
                                        rfl
                                      refine pure_ (i := 2) (N := some 107) (v := ?_) (a' := ?_) #[true, true, true, false, false, false, false, false, false, false, false, false] rfl rfl (any_of HT_.out (by kernel_rfl)) (fun _ _ _ h => h) (Or.inl ⟨by rfl, ?_⟩) ?_ ?_
                                      rotate_left
                                      · intro w'
                                        go_simp
                                        with_reducible rfl
                                      rotate_left
                                      · simp only [Act.put, List.setIfInBounds_toArray, List.set_cons_zero, List.set_cons_succ, i64_w, i32_w]
                                        rfl
                                      refine pure_ (i := 4) (N := some 109) (v := ?_) (a' := ?_) #[true, true, true, false, true, false, false, false, false, false, false, false] rfl rfl (any_of HT_.out (by kernel_rfl)) (fun _ _ _ h => h) (Or.inl ⟨by rfl, ?_⟩) ?_ ?_
                                      rotate_left
                                      · intro w'
                                        go_simp
                                        with_reducible rfl
                                      rotate_left
                                      · simp only [Act.put, List.setIfInBounds_toArray, List.set_cons_zero, List.set_cons_succ, i64_w, i32_w]
                                        rfl
                                      refine pure_ (i := 5) (N := some 110) (v := ?_) (a' := ?_) #[true, true, true, false, true, true, false, false, false, false, false, false] rfl rfl (any_of HT_.out (by kernel_rfl)) (fun _ _ _ h => h) (Or.inl ⟨by rfl, ?_⟩) ?_ ?_
                                      rotate_left
                                      · intro w'
                                        go_simp
                                        with_reducible rfl
                                      rotate_left
                                      · simp only [Act.put, List.setIfInBounds_toArray, List.set_cons_zero, List.set_cons_succ, i64_w, i32_w]
                                        rfl
                                      refine pure_ (i := 6) (N := some 111) (v := ?_) (a' := ?_) #[true, true, true, false, true, true, true, false, false, false, false, false] rfl rfl (any_of HT_.out (by kernel_rfl)) (fun _ _ _ h => h) (Or.inl ⟨by rfl, ?_⟩) ?_ ?_
                                      rotate_left
                                      · intro w'
                                        go_simp
                                        with_reducible rfl
                                      rotate_left
                                      · simp only [Act.put, List.setIfInBounds_toArray, List.set_cons_zero, List.set_cons_succ, i64_w, i32_w]
                                        rfl
                                      refine pure_ (i := 7) (N := some 112) (v := ?_) (a' := ?_) #[true, true, true, false, true, true, true, true, false, false, false, false] rfl rfl (any_of HT_.out (by kernel_rfl)) (fun _ _ _ h => h) (Or.inl ⟨by rfl, ?_⟩) ?_ ?_
                                      rotate_left
                                      · intro w'
                                        go_simp
                                        with_reducible rfl
                                      rotate_left
                                      · simp only [Act.put, List.setIfInBounds_toArray, List.set_cons_zero, List.set_cons_succ, i64_w, i32_w]
                                        rfl
                                      refine take_ (i := 3) (N := some 108) (v := ?_) (a' := ?_) #[true, true, true, true, true, true, true, true, false, false, false, false] rfl rfl (take_ofW HT_.out HW_.out (by kernel_rfl)) (fun _ _ _ h => h) (Or.inl ⟨by rfl, ?_⟩) hHeld ?_ ?_
                                      rotate_left
                                      · rintro w' ⟨s0, s1, s2, s3⟩
                                        go_simp
                                        with_reducible rfl
                                      rotate_left
                                      · simp only [Act.put, List.setIfInBounds_toArray, List.set_cons_zero, List.set_cons_succ, i64_w, i32_w]
                                        rfl
                                      refine take_ (i := 8) (N := some 113) (v := ?_) (a' := ?_) #[true, true, true, true, true, true, true, true, true, false, false, false] rfl rfl (take_ofW HT_.out HW_.out (by kernel_rfl)) (fun _ _ _ h => h) (Or.inl ⟨by rfl, ?_⟩) hHeld ?_ ?_
                                      rotate_left
                                      · rintro w' ⟨s0, s1, s2, s3⟩
                                        go_simp
                                        with_reducible rfl
                                      rotate_left
                                      · simp only [Act.put, List.setIfInBounds_toArray, List.set_cons_zero, List.set_cons_succ, i64_w, i32_w]
                                        rfl
                                      refine one_ (i := 9) (N := some 114) #[true, true, true, true, true, true, true, true, true, true, false, false] rfl rfl (one_of HT_.out (by kernel_rfl)) (by decide) (fun K hK => ?_)
                                      refine goes_ Try.func15 (by kernel_rfl) rfl #[.agg #[.string ((rd_T32 l0 x18_4).f0.f0), .slice A217_1 ((rd_T32 l0 x18_4).f0.f1).length c217_1]] (by rfl) rfl rfl (by (try simp only [List.map_toArray, List.map_cons, List.map_nil]); first | done | rfl | (simp only [List.length_drop, List.length_take]; rfl)) ?_
                                      with_reducible refine (gridhallref3_All.calls kj44 ((rd_T32 l0 x18_4).f0.f0) _ _ ((rd_T32 l0 x18_4).f0.f1) t218 _ ?side1 ?side2 A51.out).mono ?_
                                      (case side1 => repeat (first | exact (Kd.C_below HR217_1.out HB.out) | (with_reducible refine Kd.C_alloc ?_ _) | (with_reducible refine Kd.C_drewN ?_ _) | (with_reducible refine Kd.C_drew ?_)))
                                      (case side2 => exact HC217_1.out)
                                      rintro e w55 ⟨rfl, hb⟩
                                      refine ⟨_, rfl, ?_⟩
                                      have n0_ := Aside0.mk (below_step (by repeat (first | (with_reducible first | exact HB.out | apply below_alloc | apply pw_below_drewN | apply below_drew1) | exact HB.out)) hb)
                                      clear HB
                                      have HB := n0_
                                      clear n0_
                                      (try clear hb)
                                      (try clear hb2)
                                      (try clear hk)
                                      (try clear hi)
                                      refine hK.out _ _ ⟨((HB.out.cell (World.block_lt_of_cell? w _ hw216_0)).trans hw216_0), ((HB.out.cell (World.block_lt_of_cell? w _ hw217_0)).trans hw217_0), ((HB.out.cell (World.block_lt_of_cell? w _ hw217_1)).trans hw217_1), ((HB.out.cell (World.block_lt_of_cell? w _ hw217_2)).trans hw217_2)⟩ (fun hHeld => ?_)
                                      clear hK K
                                      refine norm_ (a' := ?_) ?_ ?_
                                      rotate_left
                                      · show Act.put _ (some 114) _ = _
                                        simp only [Act.put, List.setIfInBounds_toArray, List.set_cons_zero, List.set_cons_succ, i64_w, i32_w]
                                        rfl
                                      refine one_ (i := 10) (N := some 115) #[true, true, true, true, true, true, true, true, true, true, true, false] rfl rfl (one_of HT_.out (by kernel_rfl)) (by decide) (fun K hK => ?_)
                                      refine goes_ Try.func16 (by kernel_rfl) rfl #[.int .i64 (rd l1 x18_4), .int .i64 0, .int .i64 t218] (by rfl) rfl rfl (by (try simp only [List.map_toArray, List.map_cons, List.map_nil]); first | done | rfl | (simp only [List.length_drop, List.length_take]; rfl)) ?_
                                      with_reducible refine (gridhallref3_In.calls (rd l1 x18_4) 0 t218 true _ A52.out).mono ?_
                                      rintro e w' ⟨rfl, ⟨nd, rfl⟩⟩
                                      refine ⟨_, rfl, ?_⟩
                                      refine hK.out _ _ ⟨((HB.out.cell (World.block_lt_of_cell? w _ hw216_0)).trans hw216_0), ((HB.out.cell (World.block_lt_of_cell? w _ hw217_0)).trans hw217_0), ((HB.out.cell (World.block_lt_of_cell? w _ hw217_1)).trans hw217_1), ((HB.out.cell (World.block_lt_of_cell? w _ hw217_2)).trans hw217_2)⟩ (fun hHeld => ?_)
                                      clear hK K
                                      refine norm_ (a' := ?_) ?_ ?_
                                      rotate_left
                                      · show Act.put _ (some 115) _ = _
                                        simp only [Act.put, List.setIfInBounds_toArray, List.set_cons_zero, List.set_cons_succ, i64_w, i32_w]
                                        rfl
                                      refine pure_ (i := 11) (N := some 116) (v := ?_) (a' := ?_) #[true, true, true, true, true, true, true, true, true, true, true, true] rfl rfl (any_of HT_.out (by kernel_rfl)) (fun _ _ _ h => h) (Or.inl ⟨by rfl, ?_⟩) ?_ ?_
                                      rotate_left
                                      · intro w'
                                        go_simp
                                        with_reducible rfl
                                      rotate_left
                                      · simp only [Act.put, List.setIfInBounds_toArray, List.set_cons_zero, List.set_cons_succ, i64_w, i32_w]
                                        rfl
                                      refine done_ (done_of HT_.out (by kernel_rfl)) ?_
                                      try go_wp2
                                      go_roundg kj44
                                      case measure => have := HJ4.out; have := HJ20.out; have := HJ30.out; have := HK4.out; have := HJ44.out; omega
                                      case rel => exact ⟨(x14_4), (wrap64 (x18_4 + 1)), (by first | rfl | (simp; done) | (simp [*]; done)), (by first | rfl | (simp; done) | (simp [*]; done)), H', ⟨by have := HJ4.out; have := HJ20.out; have := HJ30.out; have := HK4.out; have := HJ44.out; omega⟩, ⟨by repeat (first | (with_reducible first | exact HB.out | apply below_alloc | apply pw_below_drewN | apply below_drew1) | exact HB.out)⟩⟩
                                    · replace c53 := Bool.eq_false_iff.mpr c53
                                      subst c53
                                      have H1 : (gridhalllaw3_ReserveHolds.l1 kj44 l0 l1 t206 t207 t208 t209 t210 4 (wrap64 (x18_4 + 1))) = some r := by rw [if_neg (show ¬ (false = true) by decide)] at H; exact H
                                      clear H
                                      have H := H1
                                      clear H1
                                      have H' := Aside0.mk H
                                      clear H
                                      try go_wp2
                                      have n0_ := Aside0.mk (below_drew1 HB.out)
                                      clear HB
                                      have HB := n0_
                                      clear n0_
                                      have p216 : 0 ≤ (x18_4 : Int) := of_decide_eq_true (by first | (with_reducible assumption) | assumption)
                                      have q216 : x18_4 < (l1.length : Int) := of_decide_eq_true (by first | (with_reducible assumption) | assumption)
                                      obtain ⟨ad216, e216, hx216_0⟩ := Kd.at_int HR1.out x18_4 p216 q216
                                      have hw216_0 := hx216_0
                                      cases e216
                                      replace hx216_0 := (HB.out.cell (World.block_lt_of_cell? w _ hx216_0)).trans hx216_0
                                      replace p216 := eq_true p216
                                      replace q216 := eq_true q216
                                      have p217 : 0 ≤ (x18_4 : Int) := of_decide_eq_true (by first | (with_reducible assumption) | assumption)
                                      have q217 : x18_4 < (l0.length : Int) := of_decide_eq_true (by first | (with_reducible assumption) | assumption)
                                      obtain ⟨ad217, A217_1, c217_1, e217, hx217_0, hx217_1, hx217_2, hl217_1, hi217_1⟩ := at_T32 HR0.out x18_4 p217 q217
                                      have hw217_2 := hx217_2
                                      have hw217_1 := hx217_1
                                      have hw217_0 := hx217_0
                                      cases e217
                                      replace hx217_0 := (HB.out.cell (World.block_lt_of_cell? w _ hx217_0)).trans hx217_0
                                      replace hx217_1 := (HB.out.cell (World.block_lt_of_cell? w _ hx217_1)).trans hx217_1
                                      replace hx217_2 := (HB.out.cell (World.block_lt_of_cell? w _ hx217_2)).trans hx217_2
                                      have HR217_1 := Aside0.mk hi217_1
                                      have HC217_1 := Aside0.mk hl217_1
                                      clear hi217_1 hl217_1
                                      replace p217 := eq_true p217
                                      replace q217 := eq_true q217
                                      refine start_ (n := 12) (S := fun w' => w'.cell? (ad216.add (x18_4).toNat) = some (.int .i64 (rd l1 x18_4)) ∧ w'.cell? (ad217.add ((x18_4).toNat * 3)) = some (.string ((rd_T32 l0 x18_4).f0.f0)) ∧ w'.cell? ⟨(ad217.add ((x18_4).toNat * 3)).block, (ad217.add ((x18_4).toNat * 3)).off + 1, none⟩ = some (.slice A217_1 ((rd_T32 l0 x18_4).f0.f1).length c217_1) ∧ w'.cell? ⟨(ad217.add ((x18_4).toNat * 3)).block, (ad217.add ((x18_4).toNat * 3)).off + 2, none⟩ = some (.int .i64 ((rd_T32 l0 x18_4).f1))) (ds := []) #[false, false, false, false, false, false, false, false, false, false, false, false] (by kernel_rfl) rfl rfl ⟨((HB.out.cell (World.block_lt_of_cell? w _ hw216_0)).trans hw216_0), ((HB.out.cell (World.block_lt_of_cell? w _ hw217_0)).trans hw217_0), ((HB.out.cell (World.block_lt_of_cell? w _ hw217_1)).trans hw217_1), ((HB.out.cell (World.block_lt_of_cell? w _ hw217_2)).trans hw217_2)⟩ (fun hHeld => ?_); refine with_tabW gridhalllaw3_ReserveHolds.tab24 gridhalllaw3_ReserveHolds.bits24 (fun HT_ HW_ => ?_)
                                      generalize wc.drew = w56 at HB HR217_1 hx216_0 hx217_0 hx217_1 hx217_2 hHeld ⊢
                                      refine pure_ (i := 0) (N := some 105) (v := ?_) (a' := ?_) #[true, false, false, false, false, false, false, false, false, false, false, false] rfl rfl (any_of HT_.out (by kernel_rfl)) (fun _ _ _ h => h) (Or.inl ⟨by rfl, ?_⟩) ?_ ?_
                                      rotate_left
                                      · intro w'
                                        go_simp
                                        with_reducible rfl
                                      rotate_left
                                      · simp only [Act.put, List.setIfInBounds_toArray, List.set_cons_zero, List.set_cons_succ, i64_w, i32_w]
                                        rfl
                                      refine pure_ (i := 1) (N := some 106) (v := ?_) (a' := ?_) #[true, true, false, false, false, false, false, false, false, false, false, false] rfl rfl (any_of HT_.out (by kernel_rfl)) (fun _ _ _ h => h) (Or.inl ⟨by rfl, ?_⟩) ?_ ?_
                                      rotate_left
                                      · intro w'
                                        go_simp
                                        with_reducible rfl
                                      rotate_left
                                      · simp only [Act.put, List.setIfInBounds_toArray, List.set_cons_zero, List.set_cons_succ, i64_w, i32_w]
                                        rfl
                                      refine pure_ (i := 2) (N := some 107) (v := ?_) (a' := ?_) #[true, true, true, false, false, false, false, false, false, false, false, false] rfl rfl (any_of HT_.out (by kernel_rfl)) (fun _ _ _ h => h) (Or.inl ⟨by rfl, ?_⟩) ?_ ?_
                                      rotate_left
                                      · intro w'
                                        go_simp
                                        with_reducible rfl
                                      rotate_left
                                      · simp only [Act.put, List.setIfInBounds_toArray, List.set_cons_zero, List.set_cons_succ, i64_w, i32_w]
                                        rfl
                                      refine pure_ (i := 4) (N := some 109) (v := ?_) (a' := ?_) #[true, true, true, false, true, false, false, false, false, false, false, false] rfl rfl (any_of HT_.out (by kernel_rfl)) (fun _ _ _ h => h) (Or.inl ⟨by rfl, ?_⟩) ?_ ?_
                                      rotate_left
                                      · intro w'
                                        go_simp
                                        with_reducible rfl
                                      rotate_left
                                      · simp only [Act.put, List.setIfInBounds_toArray, List.set_cons_zero, List.set_cons_succ, i64_w, i32_w]
                                        rfl
                                      refine pure_ (i := 5) (N := some 110) (v := ?_) (a' := ?_) #[true, true, true, false, true, true, false, false, false, false, false, false] rfl rfl (any_of HT_.out (by kernel_rfl)) (fun _ _ _ h => h) (Or.inl ⟨by rfl, ?_⟩) ?_ ?_
                                      rotate_left
                                      · intro w'
                                        go_simp
                                        with_reducible rfl
                                      rotate_left
                                      · simp only [Act.put, List.setIfInBounds_toArray, List.set_cons_zero, List.set_cons_succ, i64_w, i32_w]
                                        rfl
                                      refine pure_ (i := 6) (N := some 111) (v := ?_) (a' := ?_) #[true, true, true, false, true, true, true, false, false, false, false, false] rfl rfl (any_of HT_.out (by kernel_rfl)) (fun _ _ _ h => h) (Or.inl ⟨by rfl, ?_⟩) ?_ ?_
                                      rotate_left
                                      · intro w'
                                        go_simp
                                        with_reducible rfl
                                      rotate_left
                                      · simp only [Act.put, List.setIfInBounds_toArray, List.set_cons_zero, List.set_cons_succ, i64_w, i32_w]
                                        rfl
                                      refine pure_ (i := 7) (N := some 112) (v := ?_) (a' := ?_) #[true, true, true, false, true, true, true, true, false, false, false, false] rfl rfl (any_of HT_.out (by kernel_rfl)) (fun _ _ _ h => h) (Or.inl ⟨by rfl, ?_⟩) ?_ ?_
                                      rotate_left
                                      · intro w'
                                        go_simp
                                        with_reducible rfl
                                      rotate_left
                                      · simp only [Act.put, List.setIfInBounds_toArray, List.set_cons_zero, List.set_cons_succ, i64_w, i32_w]
                                        rfl
                                      refine take_ (i := 3) (N := some 108) (v := ?_) (a' := ?_) #[true, true, true, true, true, true, true, true, false, false, false, false] rfl rfl (take_ofW HT_.out HW_.out (by kernel_rfl)) (fun _ _ _ h => h) (Or.inl ⟨by rfl, ?_⟩) hHeld ?_ ?_
                                      rotate_left
                                      · rintro w' ⟨s0, s1, s2, s3⟩
                                        go_simp
                                        with_reducible rfl
                                      rotate_left
                                      · simp only [Act.put, List.setIfInBounds_toArray, List.set_cons_zero, List.set_cons_succ, i64_w, i32_w]
                                        rfl
                                      refine take_ (i := 8) (N := some 113) (v := ?_) (a' := ?_) #[true, true, true, true, true, true, true, true, true, false, false, false] rfl rfl (take_ofW HT_.out HW_.out (by kernel_rfl)) (fun _ _ _ h => h) (Or.inl ⟨by rfl, ?_⟩) hHeld ?_ ?_
                                      rotate_left
                                      · rintro w' ⟨s0, s1, s2, s3⟩
                                        go_simp
                                        with_reducible rfl
                                      rotate_left
                                      · simp only [Act.put, List.setIfInBounds_toArray, List.set_cons_zero, List.set_cons_succ, i64_w, i32_w]
                                        rfl
                                      refine one_ (i := 9) (N := some 114) #[true, true, true, true, true, true, true, true, true, true, false, false] rfl rfl (one_of HT_.out (by kernel_rfl)) (by decide) (fun K hK => ?_)
                                      refine goes_ Try.func15 (by kernel_rfl) rfl #[.agg #[.string ((rd_T32 l0 x18_4).f0.f0), .slice A217_1 ((rd_T32 l0 x18_4).f0.f1).length c217_1]] (by rfl) rfl rfl (by (try simp only [List.map_toArray, List.map_cons, List.map_nil]); first | done | rfl | (simp only [List.length_drop, List.length_take]; rfl)) ?_
                                      with_reducible refine (gridhallref3_All.calls kj44 ((rd_T32 l0 x18_4).f0.f0) _ _ ((rd_T32 l0 x18_4).f0.f1) t218 _ ?side1 ?side2 A51.out).mono ?_
                                      (case side1 => repeat (first | exact (Kd.C_below HR217_1.out HB.out) | (with_reducible refine Kd.C_alloc ?_ _) | (with_reducible refine Kd.C_drewN ?_ _) | (with_reducible refine Kd.C_drew ?_)))
                                      (case side2 => exact HC217_1.out)
                                      rintro e w57 ⟨rfl, hb⟩
                                      refine ⟨_, rfl, ?_⟩
                                      have n0_ := Aside0.mk (below_step (by repeat (first | (with_reducible first | exact HB.out | apply below_alloc | apply pw_below_drewN | apply below_drew1) | exact HB.out)) hb)
                                      clear HB
                                      have HB := n0_
                                      clear n0_
                                      (try clear hb)
                                      (try clear hb2)
                                      (try clear hk)
                                      (try clear hi)
                                      refine hK.out _ _ ⟨((HB.out.cell (World.block_lt_of_cell? w _ hw216_0)).trans hw216_0), ((HB.out.cell (World.block_lt_of_cell? w _ hw217_0)).trans hw217_0), ((HB.out.cell (World.block_lt_of_cell? w _ hw217_1)).trans hw217_1), ((HB.out.cell (World.block_lt_of_cell? w _ hw217_2)).trans hw217_2)⟩ (fun hHeld => ?_)
                                      clear hK K
                                      refine norm_ (a' := ?_) ?_ ?_
                                      rotate_left
                                      · show Act.put _ (some 114) _ = _
                                        simp only [Act.put, List.setIfInBounds_toArray, List.set_cons_zero, List.set_cons_succ, i64_w, i32_w]
                                        rfl
                                      refine one_ (i := 10) (N := some 115) #[true, true, true, true, true, true, true, true, true, true, true, false] rfl rfl (one_of HT_.out (by kernel_rfl)) (by decide) (fun K hK => ?_)
                                      refine goes_ Try.func16 (by kernel_rfl) rfl #[.int .i64 (rd l1 x18_4), .int .i64 0, .int .i64 t218] (by rfl) rfl rfl (by (try simp only [List.map_toArray, List.map_cons, List.map_nil]); first | done | rfl | (simp only [List.length_drop, List.length_take]; rfl)) ?_
                                      with_reducible refine (gridhallref3_In.calls (rd l1 x18_4) 0 t218 false _ A52.out).mono ?_
                                      rintro e w' ⟨rfl, ⟨nd, rfl⟩⟩
                                      refine ⟨_, rfl, ?_⟩
                                      refine hK.out _ _ ⟨((HB.out.cell (World.block_lt_of_cell? w _ hw216_0)).trans hw216_0), ((HB.out.cell (World.block_lt_of_cell? w _ hw217_0)).trans hw217_0), ((HB.out.cell (World.block_lt_of_cell? w _ hw217_1)).trans hw217_1), ((HB.out.cell (World.block_lt_of_cell? w _ hw217_2)).trans hw217_2)⟩ (fun hHeld => ?_)
                                      clear hK K
                                      refine norm_ (a' := ?_) ?_ ?_
                                      rotate_left
                                      · show Act.put _ (some 115) _ = _
                                        simp only [Act.put, List.setIfInBounds_toArray, List.set_cons_zero, List.set_cons_succ, i64_w, i32_w]
                                        rfl
                                      refine pure_ (i := 11) (N := some 116) (v := ?_) (a' := ?_) #[true, true, true, true, true, true, true, true, true, true, true, true] rfl rfl (any_of HT_.out (by kernel_rfl)) (fun _ _ _ h => h) (Or.inl ⟨by rfl, ?_⟩) ?_ ?_
                                      rotate_left
                                      · intro w'
                                        go_simp
                                        with_reducible rfl
                                      rotate_left
                                      · simp only [Act.put, List.setIfInBounds_toArray, List.set_cons_zero, List.set_cons_succ, i64_w, i32_w]
                                        rfl
                                      refine done_ (done_of HT_.out (by kernel_rfl)) ?_
                                      try go_wp2
                                      go_roundg kj44
                                      case measure => have := HJ4.out; have := HJ20.out; have := HJ30.out; have := HK4.out; have := HJ44.out; omega
                                      case rel => exact ⟨(4), (wrap64 (x18_4 + 1)), (by first | rfl | (simp; done) | (simp [*]; done)), (by first | rfl | (simp; done) | (simp [*]; done)), H', ⟨by have := HJ4.out; have := HJ20.out; have := HJ30.out; have := HK4.out; have := HJ44.out; omega⟩, ⟨by repeat (first | (with_reducible first | exact HB.out | apply below_alloc | apply pw_below_drewN | apply below_drew1) | exact HB.out)⟩⟩
                                  · rw [if_neg c50] at H
                                    exact absurd H (by simp)
                                · rw [if_neg c49] at H
                                  exact absurd H (by simp)
                              · rw [if_neg c48] at H
                                exact absurd H (by simp)
                            · replace c47 := Bool.eq_false_iff.mpr c47
                              subst c47
                              have H1 : (if x14_4 = 0 then (gridhalllaw3_ReserveHolds.l2 kj44 l0 l1 t206 t207 t208 t209 t210 0 0 (-1) l0 (l0.length : Int) 0) else (if t207 = x14_4 then (if t210 = x14_4 then (if t206 = 0 then (if t208 = 0 then (some (t209 == 0)) else (some false)) else (some false)) else (some false)) else (some false))) = some r := by rw [if_neg (show ¬ (false = true) by decide)] at H; exact H
                              clear H
                              have H := H1
                              clear H1
                              by_cases c58 : x14_4 = 0
                              · rw [if_pos c58] at H
                                have c58b0 : (x14_4 == 0) = true := beq_iff_eq.mpr c58
                                have c58b1 : (x14_4 != 0) = false := bne_eq_false_iff_eq.mpr c58
                                clear c58
                                have H' := Aside0.mk H
                                clear H
                                go_wp2
                                go_loopg [19, 20, 21, 141] kj44 (fun kq v19 v20 v21 v141 w' => ∃ (x19_6 : Int) (x20_6 : Int) (x21_6 : Int) (x141_6 : Int), v19 = .int .i64 x19_6 ∧ v20 = .int .i64 x20_6 ∧ v21 = .int .i64 x21_6 ∧ v141 = .int .i64 x141_6 ∧ Aside0 (gridhalllaw3_ReserveHolds.l2 kq l0 l1 t206 t207 t208 t209 t210 x19_6 x20_6 x21_6 l0 (l0.length : Int) x141_6 = some r) ∧ Aside0 (kq ≤ kj44) ∧ Aside0 (Below w.heap.size w w'))
                                case atStart => exact ⟨(0), (0), ((-1)), (0), (by first | rfl | (simp; done) | (simp [*]; done)), (by first | rfl | (simp; done) | (simp [*]; done)), (by first | rfl | (simp; done) | (simp [*]; done)), (by first | rfl | (simp; done) | (simp [*]; done)), H', ⟨Nat.le_refl _⟩, ⟨by repeat (first | (with_reducible first | exact HB.out | apply below_alloc | apply pw_below_drewN | apply below_drew1) | exact HB.out)⟩⟩
                                case round => as_aux_lemma =>
                                  clear H'
                                  try clear c1
                                  try clear c2
                                  try clear p2
                                  try clear q2
                                  try clear hx2
                                  try clear c3
                                  try clear c4
                                  try clear c5
                                  try clear p6
                                  try clear c9
                                  try clear c10
                                  try clear c11
                                  try clear c12
                                  try clear c13
                                  try clear c14
                                  try clear c15
                                  try clear c15b0
                                  try clear c15b1
                                  try clear c16
                                  try clear c21
                                  try clear p21
                                  try clear q21
                                  try clear hx21
                                  try clear c27
                                  try clear c27b0
                                  try clear c27b1
                                  try clear c30
                                  try clear c32
                                  try clear c32b0
                                  try clear c32b1
                                  try clear c33
                                  try clear c33b0
                                  try clear c34
                                  try clear c34b0
                                  try clear c35
                                  try clear c35b0
                                  try clear c43
                                  try clear c43b0
                                  try clear c43b1
                                  try clear c43b2
                                  try clear c44
                                  try clear c44b0
                                  try clear c44b1
                                  try clear c46
                                  try clear c46b0
                                  try clear c46b1
                                  try clear c47
                                  try clear c48
                                  try clear c48b0
                                  try clear c49
                                  try clear c49b0
                                  try clear c50
                                  try clear c50b0
                                  try clear c53
                                  try clear c58
                                  try clear c58b0
                                  try clear c58b1
                                  try clear hcz39_0
                                  try clear hcz39_1
                                  try clear hcz39_2
                                  try clear hfz39_0
                                  try clear hfz39_1
                                  try clear hfz39_2
                                  try clear hx213_0
                                  try clear hx213_1
                                  try clear hx213_2
                                  try clear hx216_0
                                  try clear hx217_0
                                  try clear hx217_1
                                  try clear hx217_2
                                  try clear p2
                                  try clear p21
                                  try clear p213
                                  try clear p216
                                  try clear p217
                                  try clear p6
                                  try clear q2
                                  try clear q21
                                  try clear q213
                                  try clear q216
                                  try clear q217
                                  obtain ⟨x19_6, x20_6, x21_6, x141_6, rfl, rfl, rfl, rfl, HA, HK6, HB⟩ := hrel
                                  cases gk with
                                  | zero => exact absurd HA.out (by simp [gridhalllaw3_ReserveHolds.l2])
                                  | succ k6 =>
                                    have H := HA.out
                                    clear HA
                                    simp only [gridhalllaw3_ReserveHolds.l2] at H
                                    by_cases c59 : x141_6 < (l0.length : Int)
                                    · rw [if_pos c59] at H
                                      have c59b0 : decide (x141_6 < (l0.length : Int)) = true := decide_eq_true c59
                                      clear c59
                                      by_cases c60 : 0 ≤ x141_6
                                      · rw [if_pos c60] at H
                                        have c60b0 : decide (0 ≤ x141_6) = true := decide_eq_true c60
                                        clear c60
                                        by_cases c61 : x141_6 < (l0.length : Int)
                                        · rw [if_pos c61] at H
                                          have c61b0 : decide (x141_6 < (l0.length : Int)) = true := decide_eq_true c61
                                          clear c61
                                          replace H := Option.bind_eq_some_iff.mp H
                                          obtain ⟨t222, A620, H⟩ := H
                                          replace H : (if x141_6 < (l1.length : Int) then (gridhalllaw3_ReserveHolds.l3 k6 l0 l1 t206 t207 t208 t209 t210 (wrap64 (x19_6 + (mn ((rd_T32 l0 x141_6).f1) (wrap64 (t222 - (rd l1 x141_6)))))) x20_6 x21_6 x141_6 0 l0 (l0.length : Int) x141_6 l0 (l0.length : Int) 0) else (none)) = some r := H
                                          have A62 := Aside0.mk A620
                                          clear A620
                                          by_cases c63 : x141_6 < (l1.length : Int)
                                          · rw [if_pos c63] at H
                                            have c63b0 : decide (x141_6 < (l1.length : Int)) = true := decide_eq_true c63
                                            clear c63
                                            obtain ⟨ji64, hji64⟩ : ∃ j_ : Int, (mn ((rd_T32 l0 x141_6).f1) (wrap64 (t222 - (rd l1 x141_6)))) = j_ := ⟨_, rfl⟩
                                            replace H : (gridhalllaw3_ReserveHolds.l3 k6 l0 l1 t206 t207 t208 t209 t210 (wrap64 (x19_6 + (ji64))) x20_6 x21_6 x141_6 0 l0 (l0.length : Int) x141_6 l0 (l0.length : Int) 0) = some r := by first | (rw [hji64] at H; exact H) | (simp only [hji64] at H ⊢; exact H)
                                            (try rw [hji64] at A62)
                                            have hji64_ : (if (wrap64 (t222 - (rd l1 x141_6))) < ((rd_T32 l0 x141_6).f1) then (wrap64 (t222 - (rd l1 x141_6))) else ((rd_T32 l0 x141_6).f1)) = ji64 := hji64
                                            have H' := Aside0.mk H
                                            clear H
                                            have p220 : 0 ≤ (x141_6 : Int) := of_decide_eq_true (by first | (with_reducible assumption) | assumption)
                                            have q220 : x141_6 < (l0.length : Int) := of_decide_eq_true (by first | (with_reducible assumption) | assumption)
                                            obtain ⟨ad220, A220_1, c220_1, e220, hx220_0, hx220_1, hx220_2, hl220_1, hi220_1⟩ := at_T32 HR0.out x141_6 p220 q220
                                            cases e220
                                            replace hx220_0 := (HB.out.cell (World.block_lt_of_cell? w _ hx220_0)).trans hx220_0
                                            replace hx220_1 := (HB.out.cell (World.block_lt_of_cell? w _ hx220_1)).trans hx220_1
                                            replace hx220_2 := (HB.out.cell (World.block_lt_of_cell? w _ hx220_2)).trans hx220_2
                                            have HR220_1 := Aside0.mk hi220_1
                                            have HC220_1 := Aside0.mk hl220_1
                                            clear hi220_1 hl220_1
                                            replace p220 := eq_true p220
                                            replace q220 := eq_true q220
                                            try go_wp2_with (first | ((with_reducible refine gate_dst (N := 23) rfl ?_); (try (refine gate_guard (by rfl) ?_; dsimp only)); refine box_event ?hg (N := 23) ?hd (cs := #[.string (⟨#[]⟩ : ByteArray), .slice none 0 0, .int .i64 0]) (t := 32) ?hr ?_; (case hd => rfl); (case hg => rfl); (case hr => first | (go_simp; done) | (go_simp; rfl)); intro gb221 hg w65 hbox hb; have n0_ := Aside0.mk (below_step (by repeat (first | (with_reducible first | exact HB.out | apply below_alloc | apply pw_below_drewN | apply below_drew1) | exact HB.out)) hb); have n1_ := Aside0.mk (hbox); have n2_ := Aside0.mk ((by rw [hg]; exact (below_size (by repeat (first | (with_reducible first | exact HB.out | apply below_alloc | apply pw_below_drewN | apply below_drew1) | exact HB.out))) : w.heap.size ≤ gb221)); have n3_ := Aside0.mk ((by rw [hg]; exact (below_size (by repeat (first | (with_reducible first | exact HB.out | apply below_alloc | apply pw_below_drewN | apply below_drew1) | exact HB.out))) : w.heap.size ≤ gb221)); clear HB; have HB := n0_; have BK221 := n1_; have GW221 := n2_; have GE221 := n3_; clear n0_ n1_ n2_ n3_; clear hb hbox hg; have hcz66_0 : w65.cell? ⟨gb221, 0, none⟩ = some (.string (⟨#[]⟩ : ByteArray)) := (blk_cell BK221.out 0).trans rfl; have hcz66_1 : w65.cell? ⟨gb221, 1, none⟩ = some (.slice none 0 0) := (blk_cell BK221.out 1).trans rfl; have hcz66_2 : w65.cell? ⟨gb221, 2, none⟩ = some (.int .i64 0) := (blk_cell BK221.out 2).trans rfl; have hfz66_0 := blk_frozen BK221.out 0; have hfz66_1 := blk_frozen BK221.out 1; have hfz66_2 := blk_frozen BK221.out 2))
                                            have n0_ : Aside0 ((((w65.setCell ⟨gb221, 0, none⟩ (.string ((rd_T32 l0 x141_6).f0.f0))).setCell ⟨gb221, 1, none⟩ (.slice A220_1 ((rd_T32 l0 x141_6).f0.f1).length c220_1)).setCell ⟨gb221, 2, none⟩ (.int .i64 ((rd_T32 l0 x141_6).f1))).heap[gb221]? = some (.cells #[.string ((rd_T32 l0 x141_6).f0.f0), .slice A220_1 ((rd_T32 l0 x141_6).f0.f1).length c220_1, .int .i64 ((rd_T32 l0 x141_6).f1)] 32 (0, 0))) := ⟨by (with_reducible repeat (first | refine blk_drewN ?_ _ | refine blk_drew ?_ | refine blk_alloc ?_ _)); refine blk_put (cs := #[.string ((rd_T32 l0 x141_6).f0.f0), .slice A220_1 ((rd_T32 l0 x141_6).f0.f1).length c220_1, .int .i64 0]) ?_ 2 _ rfl; (with_reducible repeat (first | refine blk_drewN ?_ _ | refine blk_drew ?_ | refine blk_alloc ?_ _)); refine blk_put (cs := #[.string ((rd_T32 l0 x141_6).f0.f0), .slice none 0 0, .int .i64 0]) ?_ 1 _ rfl; (with_reducible repeat (first | refine blk_drewN ?_ _ | refine blk_drew ?_ | refine blk_alloc ?_ _)); refine blk_put (cs := #[.string (⟨#[]⟩ : ByteArray), .slice none 0 0, .int .i64 0]) ?_ 0 _ rfl; (with_reducible repeat (first | refine blk_drewN ?_ _ | refine blk_drew ?_ | refine blk_alloc ?_ _)); exact BK221.out⟩
                                            have n1_ : Aside0 (Below w.heap.size w (((w65.setCell ⟨gb221, 0, none⟩ (.string ((rd_T32 l0 x141_6).f0.f0))).setCell ⟨gb221, 1, none⟩ (.slice A220_1 ((rd_T32 l0 x141_6).f0.f1).length c220_1)).setCell ⟨gb221, 2, none⟩ (.int .i64 ((rd_T32 l0 x141_6).f1)))) := ⟨by repeat (first | (with_reducible first | exact HB.out | apply below_alloc | apply pw_below_drewN | apply below_drew1 | refine below_set ?_ GE221.out) | exact HB.out)⟩
                                            (try clear BK221)
                                            (try clear HB)
                                            generalize (((w65.setCell ⟨gb221, 0, none⟩ (.string ((rd_T32 l0 x141_6).f0.f0))).setCell ⟨gb221, 1, none⟩ (.slice A220_1 ((rd_T32 l0 x141_6).f0.f1).length c220_1)).setCell ⟨gb221, 2, none⟩ (.int .i64 ((rd_T32 l0 x141_6).f1))) = w67 at n0_ n1_ ⊢
                                            have BK221 := n0_
                                            have HB := n1_
                                            clear n0_ n1_
                                            have n0_ := Aside0.mk (blk_drew BK221.out)
                                            have n1_ := Aside0.mk (below_drew1 HB.out)
                                            clear BK221
                                            clear HB
                                            have BK221 := n0_
                                            have HB := n1_
                                            clear n0_ n1_
                                            have p223 : 0 ≤ (x141_6 : Int) := of_decide_eq_true (by first | (with_reducible assumption) | assumption)
                                            have q223 : x141_6 < (l1.length : Int) := of_decide_eq_true (by first | (with_reducible assumption) | assumption)
                                            obtain ⟨ad223, e223, hx223_0⟩ := Kd.at_int HR1.out x141_6 p223 q223
                                            have hw223_0 := hx223_0
                                            cases e223
                                            replace hx223_0 := (HB.out.cell (World.block_lt_of_cell? w _ hx223_0)).trans hx223_0
                                            replace p223 := eq_true p223
                                            replace q223 := eq_true q223
                                            refine start_ (n := 14) (S := fun w' => w'.cell? ⟨gb221, 0, none⟩ = some (.string ((rd_T32 l0 x141_6).f0.f0)) ∧ w'.cell? ⟨gb221, 1, none⟩ = some (.slice A220_1 ((rd_T32 l0 x141_6).f0.f1).length c220_1) ∧ w'.cell? ⟨gb221, 2, none⟩ = some (.int .i64 ((rd_T32 l0 x141_6).f1)) ∧ w'.cell? (ad223.add (x141_6).toNat) = some (.int .i64 (rd l1 x141_6))) (ds := []) #[false, false, false, false, false, false, false, false, false, false, false, false, false, false] (by kernel_rfl) rfl rfl ⟨(blk_cell BK221.out 0).trans rfl, (blk_cell BK221.out 1).trans rfl, (blk_cell BK221.out 2).trans rfl, ((HB.out.cell (World.block_lt_of_cell? w _ hw223_0)).trans hw223_0)⟩ (fun hHeld => ?_); refine with_tabW gridhalllaw3_ReserveHolds.tab32 gridhalllaw3_ReserveHolds.bits32 (fun HT_ HW_ => ?_)
                                            generalize w67.drew = w68 at BK221 HB hx223_0 hHeld ⊢
                                            refine pure_ (i := 0) (N := some 146) (v := ?_) (a' := ?_) #[true, false, false, false, false, false, false, false, false, false, false, false, false, false] rfl rfl (any_of HT_.out (by kernel_rfl)) (fun _ _ _ h => h) (Or.inl ⟨by rfl, ?_⟩) ?_ ?_
                                            rotate_left
                                            · intro w'
                                              go_simp
                                              with_reducible rfl
                                            rotate_left
                                            · simp only [Act.put, List.setIfInBounds_toArray, List.set_cons_zero, List.set_cons_succ, i64_w, i32_w]
                                              rfl
                                            refine pure_ (i := 1) (N := some 147) (v := ?_) (a' := ?_) #[true, true, false, false, false, false, false, false, false, false, false, false, false, false] rfl rfl (any_of HT_.out (by kernel_rfl)) (fun _ _ _ h => h) (Or.inl ⟨by rfl, ?_⟩) ?_ ?_
                                            rotate_left
                                            · intro w'
                                              go_simp
                                              with_reducible rfl
                                            rotate_left
                                            · simp only [Act.put, List.setIfInBounds_toArray, List.set_cons_zero, List.set_cons_succ, i64_w, i32_w]
                                              rfl
                                            refine pure_ (i := 3) (N := some 149) (v := ?_) (a' := ?_) #[true, true, false, true, false, false, false, false, false, false, false, false, false, false] rfl rfl (any_of HT_.out (by kernel_rfl)) (fun _ _ _ h => h) (Or.inl ⟨by rfl, ?_⟩) ?_ ?_
                                            rotate_left
                                            · intro w'
                                              go_simp
                                              with_reducible rfl
                                            rotate_left
                                            · simp only [Act.put, List.setIfInBounds_toArray, List.set_cons_zero, List.set_cons_succ, i64_w, i32_w]
                                              rfl
                                            refine pure_ (i := 6) (N := some 152) (v := ?_) (a' := ?_) #[true, true, false, true, false, false, true, false, false, false, false, false, false, false] rfl rfl (any_of HT_.out (by kernel_rfl)) (fun _ _ _ h => h) (Or.inl ⟨by rfl, ?_⟩) ?_ ?_
                                            rotate_left
                                            · intro w'
                                              go_simp
                                              with_reducible rfl
                                            rotate_left
                                            · simp only [Act.put, List.setIfInBounds_toArray, List.set_cons_zero, List.set_cons_succ, i64_w, i32_w]
                                              rfl
                                            refine pure_ (i := 7) (N := some 153) (v := ?_) (a' := ?_) #[true, true, false, true, false, false, true, true, false, false, false, false, false, false] rfl rfl (any_of HT_.out (by kernel_rfl)) (fun _ _ _ h => h) (Or.inl ⟨by rfl, ?_⟩) ?_ ?_
                                            rotate_left
                                            · intro w'
                                              go_simp
                                              with_reducible rfl
                                            rotate_left
                                            · simp only [Act.put, List.setIfInBounds_toArray, List.set_cons_zero, List.set_cons_succ, i64_w, i32_w]
                                              rfl
                                            refine pure_ (i := 8) (N := some 154) (v := ?_) (a' := ?_) #[true, true, false, true, false, false, true, true, true, false, false, false, false, false] rfl rfl (any_of HT_.out (by kernel_rfl)) (fun _ _ _ h => h) (Or.inl ⟨by rfl, ?_⟩) ?_ ?_
                                            rotate_left
                                            · intro w'
                                              go_simp
                                              with_reducible rfl
                                            rotate_left
                                            · simp only [Act.put, List.setIfInBounds_toArray, List.set_cons_zero, List.set_cons_succ, i64_w, i32_w]
                                              rfl
                                            refine take_ (i := 2) (N := some 148) (v := ?_) (a' := ?_) #[true, true, true, true, false, false, true, true, true, false, false, false, false, false] rfl rfl (take_ofW HT_.out HW_.out (by kernel_rfl)) (fun _ _ _ h => h) (Or.inl ⟨by rfl, ?_⟩) hHeld ?_ ?_
                                            rotate_left
                                            · rintro w' ⟨s0, s1, s2, s3⟩
                                              go_simp
                                              with_reducible rfl
                                            rotate_left
                                            · simp only [Act.put, List.setIfInBounds_toArray, List.set_cons_zero, List.set_cons_succ, i64_w, i32_w]
                                              rfl
                                            refine take_ (i := 4) (N := some 150) (v := ?_) (a' := ?_) #[true, true, true, true, true, false, true, true, true, false, false, false, false, false] rfl rfl (take_ofW HT_.out HW_.out (by kernel_rfl)) (fun _ _ _ h => h) (Or.inl ⟨by rfl, ?_⟩) hHeld ?_ ?_
                                            rotate_left
                                            · rintro w' ⟨s0, s1, s2, s3⟩
                                              go_simp
                                              with_reducible rfl
                                            rotate_left
                                            · simp only [Act.put, List.setIfInBounds_toArray, List.set_cons_zero, List.set_cons_succ, i64_w, i32_w]
                                              rfl
                                            refine take_ (i := 9) (N := some 155) (v := ?_) (a' := ?_) #[true, true, true, true, true, false, true, true, true, true, false, false, false, false] rfl rfl (take_ofW HT_.out HW_.out (by kernel_rfl)) (fun _ _ _ h => h) (Or.inl ⟨by rfl, ?_⟩) hHeld ?_ ?_
                                            rotate_left
                                            · rintro w' ⟨s0, s1, s2, s3⟩
                                              go_simp
                                              with_reducible rfl
                                            rotate_left
                                            · simp only [Act.put, List.setIfInBounds_toArray, List.set_cons_zero, List.set_cons_succ, i64_w, i32_w]
                                              rfl
                                            refine one_ (i := 5) (N := some 151) #[true, true, true, true, true, true, true, true, true, true, false, false, false, false] rfl rfl (one_of HT_.out (by kernel_rfl)) (by decide) (fun K hK => ?_)
                                            refine goes_ Try.func15 (by kernel_rfl) rfl #[.agg #[.string ((rd_T32 l0 x141_6).f0.f0), .slice A220_1 ((rd_T32 l0 x141_6).f0.f1).length c220_1]] (by rfl) rfl rfl (by (try simp only [List.map_toArray, List.map_cons, List.map_nil]); first | done | rfl | (simp only [List.length_drop, List.length_take]; rfl)) ?_
                                            with_reducible refine (gridhallref3_All.calls k6 ((rd_T32 l0 x141_6).f0.f0) _ _ ((rd_T32 l0 x141_6).f0.f1) t222 _ ?side1 ?side2 A62.out).mono ?_
                                            (case side1 => repeat (first | exact (Kd.C_below HR220_1.out HB.out) | (with_reducible refine Kd.C_alloc ?_ _) | (with_reducible refine Kd.C_drewN ?_ _) | (with_reducible refine Kd.C_drew ?_)))
                                            (case side2 => exact HC220_1.out)
                                            rintro e w69 ⟨rfl, hb⟩
                                            refine ⟨_, rfl, ?_⟩
                                            have n0_ := Aside0.mk (blk_below (g := gb221) (o := .cells #[.string ((rd_T32 l0 x141_6).f0.f0), .slice A220_1 ((rd_T32 l0 x141_6).f0.f1).length c220_1, .int .i64 ((rd_T32 l0 x141_6).f1)] 32 (0, 0)) (by (with_reducible repeat (first | refine blk_drewN ?_ _ | refine blk_drew ?_ | refine blk_alloc ?_ _)); exact BK221.out) hb)
                                            have n1_ := Aside0.mk (below_step (by repeat (first | (with_reducible first | exact HB.out | apply below_alloc | apply pw_below_drewN | apply below_drew1 | refine below_set ?_ GE221.out) | exact HB.out)) hb)
                                            clear BK221
                                            clear HB
                                            have BK221 := n0_
                                            have HB := n1_
                                            clear n0_ n1_
                                            (try clear hb)
                                            (try clear hb2)
                                            (try clear hk)
                                            (try clear hi)
                                            refine hK.out _ _ ⟨(blk_cell BK221.out 0).trans rfl, (blk_cell BK221.out 1).trans rfl, (blk_cell BK221.out 2).trans rfl, ((HB.out.cell (World.block_lt_of_cell? w _ hw223_0)).trans hw223_0)⟩ (fun hHeld => ?_)
                                            clear hK K
                                            refine norm_ (a' := ?_) ?_ ?_
                                            rotate_left
                                            · show Act.put _ (some 151) _ = _
                                              simp only [Act.put, List.setIfInBounds_toArray, List.set_cons_zero, List.set_cons_succ, i64_w, i32_w]
                                              rfl
                                            refine pure_ (i := 10) (N := some 156) (v := ?_) (a' := ?_) #[true, true, true, true, true, true, true, true, true, true, true, false, false, false] rfl rfl (any_of HT_.out (by kernel_rfl)) (fun _ _ _ h => h) (Or.inl ⟨by rfl, ?_⟩) ?_ ?_
                                            rotate_left
                                            · intro w'
                                              go_simp
                                              with_reducible rfl
                                            rotate_left
                                            · simp only [Act.put, List.setIfInBounds_toArray, List.set_cons_zero, List.set_cons_succ, i64_w, i32_w]
                                              rfl
                                            refine pure_ (i := 11) (N := some 157) (v := ?_) (a' := ?_) #[true, true, true, true, true, true, true, true, true, true, true, true, false, false] rfl rfl (any_of HT_.out (by kernel_rfl)) (fun _ _ _ h => h) (Or.inl ⟨by rfl, ?_⟩) ?_ ?_
                                            rotate_left
                                            · intro w'
                                              go_simp
                                              with_reducible rfl
                                            rotate_left
                                            · simp only [Act.put, List.setIfInBounds_toArray, List.set_cons_zero, List.set_cons_succ, i64_w, i32_w]
                                              rfl
                                            refine pure_ (i := 12) (N := some 158) (v := ?_) (a' := ?_) #[true, true, true, true, true, true, true, true, true, true, true, true, true, false] rfl rfl (any_of HT_.out (by kernel_rfl)) (fun _ _ _ h => h) (Or.inl ⟨by rfl, ?_⟩) ?_ ?_
                                            rotate_left
                                            · intro w'
                                              go_simp
                                              with_reducible rfl
                                            rotate_left
                                            · simp only [Act.put, List.setIfInBounds_toArray, List.set_cons_zero, List.set_cons_succ, i64_w, i32_w]
                                              rfl
                                            refine pure_ (i := 13) (N := some 19) (v := ?_) (a' := ?_) #[true, true, true, true, true, true, true, true, true, true, true, true, true, true] rfl rfl (any_of HT_.out (by kernel_rfl)) (fun _ _ _ h => h) (Or.inl ⟨by rfl, ?_⟩) ?_ ?_
                                            rotate_left
                                            · intro w'
                                              go_simp
                                              with_reducible rfl
                                            rotate_left
                                            · simp only [Act.put, List.setIfInBounds_toArray, List.set_cons_zero, List.set_cons_succ, i64_w, i32_w]
                                              rfl
                                            refine done_ (done_of HT_.out (by kernel_rfl)) ?_
                                            try go_wp2
                                            go_loopg [24, 161] k6 (fun kq v24 v161 w' => ∃ (x24_7 : Int) (x161_7 : Int), v24 = .int .i64 x24_7 ∧ v161 = .int .i64 x161_7 ∧ Aside0 (gridhalllaw3_ReserveHolds.l3 kq l0 l1 t206 t207 t208 t209 t210 (wrap64 (x19_6 + (ji64))) x20_6 x21_6 x141_6 x24_7 l0 (l0.length : Int) x141_6 l0 (l0.length : Int) x161_7 = some r) ∧ Aside0 (kq ≤ k6) ∧ Aside0 (w'.heap[gb221]? = some (.cells #[.string ((rd_T32 l0 x141_6).f0.f0), (.slice A220_1 ((rd_T32 l0 x141_6).f0.f1).length c220_1), .int .i64 ((rd_T32 l0 x141_6).f1)] 32 (0, 0))) ∧ Aside0 (Below w.heap.size w w'))
                                            case atStart => exact ⟨(0), (0), (by first | rfl | (simp; done) | (simp [*]; done)), (by first | rfl | (simp; done) | (simp [*]; done)), H', ⟨Nat.le_refl _⟩, ⟨by (with_reducible repeat (first | refine blk_drewN ?_ _ | refine blk_drew ?_ | refine blk_alloc ?_ _)); exact BK221.out⟩, ⟨by repeat (first | (with_reducible first | exact HB.out | apply below_alloc | apply pw_below_drewN | apply below_drew1 | refine below_set ?_ GE221.out) | exact HB.out)⟩⟩
                                            case round => as_aux_lemma =>
                                              clear H'
                                              try clear c1
                                              try clear c2
                                              try clear p2
                                              try clear q2
                                              try clear hx2
                                              try clear c3
                                              try clear c4
                                              try clear c5
                                              try clear c6
                                              try clear p6
                                              try clear c9
                                              try clear c10
                                              try clear c11
                                              try clear c12
                                              try clear c13
                                              try clear c14
                                              try clear c15
                                              try clear c15b0
                                              try clear c15b1
                                              try clear c16
                                              try clear c21
                                              try clear p21
                                              try clear q21
                                              try clear hx21
                                              try clear c22
                                              try clear p22
                                              try clear q22
                                              try clear hx22
                                              try clear c27
                                              try clear c27b0
                                              try clear c27b1
                                              try clear c30
                                              try clear c32
                                              try clear c32b0
                                              try clear c32b1
                                              try clear c33
                                              try clear c33b0
                                              try clear c34
                                              try clear c34b0
                                              try clear c35
                                              try clear c35b0
                                              try clear c43
                                              try clear c43b0
                                              try clear c43b1
                                              try clear c43b2
                                              try clear c44
                                              try clear c44b0
                                              try clear c44b1
                                              try clear c46
                                              try clear c46b0
                                              try clear c46b1
                                              try clear c47
                                              try clear c48
                                              try clear c48b0
                                              try clear c49
                                              try clear c49b0
                                              try clear c50
                                              try clear c50b0
                                              try clear c53
                                              try clear c58
                                              try clear c58b0
                                              try clear c58b1
                                              try clear c59
                                              try clear c59b0
                                              try clear c60
                                              try clear c60b0
                                              try clear c61
                                              try clear c61b0
                                              try clear c63
                                              try clear c63b0
                                              try clear p64
                                              try clear hcz39_0
                                              try clear hcz39_1
                                              try clear hcz39_2
                                              try clear hcz66_0
                                              try clear hcz66_1
                                              try clear hcz66_2
                                              try clear hfz39_0
                                              try clear hfz39_1
                                              try clear hfz39_2
                                              try clear hfz66_0
                                              try clear hfz66_1
                                              try clear hfz66_2
                                              try clear hx213_0
                                              try clear hx213_1
                                              try clear hx213_2
                                              try clear hx216_0
                                              try clear hx217_0
                                              try clear hx217_1
                                              try clear hx217_2
                                              try clear hx220_0
                                              try clear hx220_1
                                              try clear hx220_2
                                              try clear hx223_0
                                              try clear p2
                                              try clear p21
                                              try clear p213
                                              try clear p216
                                              try clear p217
                                              try clear p220
                                              try clear p223
                                              try clear p6
                                              try clear q2
                                              try clear q21
                                              try clear q213
                                              try clear q216
                                              try clear q217
                                              try clear q220
                                              try clear q223
                                              obtain ⟨x24_7, x161_7, rfl, rfl, HA, HK7, BK221, HB⟩ := hrel
                                              cases gk with
                                              | zero => exact absurd HA.out (by simp [gridhalllaw3_ReserveHolds.l3])
                                              | succ k7 =>
                                                have H := HA.out
                                                clear HA
                                                simp only [gridhalllaw3_ReserveHolds.l3] at H
                                                by_cases c70 : x161_7 < (l0.length : Int)
                                                · rw [if_pos c70] at H
                                                  have c70b0 : decide (x161_7 < (l0.length : Int)) = true := decide_eq_true c70
                                                  clear c70
                                                  by_cases c71 : 0 ≤ x161_7
                                                  · rw [if_pos c71] at H
                                                    have c71b0 : decide (0 ≤ x161_7) = true := decide_eq_true c71
                                                    clear c71
                                                    by_cases c72 : x161_7 < (l0.length : Int)
                                                    · rw [if_pos c72] at H
                                                      have c72b0 : decide (x161_7 < (l0.length : Int)) = true := decide_eq_true c72
                                                      clear c72
                                                      by_cases c73 : x161_7 = x141_6
                                                      · rw [if_pos c73] at H
                                                        have c73b0 : (x161_7 == x141_6) = true := beq_iff_eq.mpr c73
                                                        have c73b1 : (x161_7 != x141_6) = false := bne_eq_false_iff_eq.mpr c73
                                                        clear c73
                                                        have H' := Aside0.mk H
                                                        clear H
                                                        have p224 : 0 ≤ (x161_7 : Int) := of_decide_eq_true (by first | (with_reducible assumption) | assumption)
                                                        have q224 : x161_7 < (l0.length : Int) := of_decide_eq_true (by first | (with_reducible assumption) | assumption)
                                                        obtain ⟨ad224, A224_1, c224_1, e224, hx224_0, hx224_1, hx224_2, hl224_1, hi224_1⟩ := at_T32 HR0.out x161_7 p224 q224
                                                        obtain rfl : ad220 = ad224 := (by injection e224)
                                                        replace hx224_0 := (HB.out.cell (World.block_lt_of_cell? w _ hx224_0)).trans hx224_0
                                                        replace hx224_1 := (HB.out.cell (World.block_lt_of_cell? w _ hx224_1)).trans hx224_1
                                                        replace hx224_2 := (HB.out.cell (World.block_lt_of_cell? w _ hx224_2)).trans hx224_2
                                                        have HR224_1 := Aside0.mk hi224_1
                                                        have HC224_1 := Aside0.mk hl224_1
                                                        clear hi224_1 hl224_1
                                                        replace p224 := eq_true p224
                                                        replace q224 := eq_true q224
                                                        go_wp2_with (first | ((with_reducible refine gate_dst (N := 26) rfl ?_); (try (refine gate_guard (by rfl) ?_; dsimp only)); refine box_event ?hg (N := 26) ?hd (cs := #[.string (⟨#[]⟩ : ByteArray), .slice none 0 0, .int .i64 0]) (t := 32) ?hr ?_; (case hd => rfl); (case hg => rfl); (case hr => first | (go_simp; done) | (go_simp; rfl)); intro gb225 hg w74 hbox hb; have n0_ := Aside0.mk (blk_below (g := gb221) (o := .cells #[.string ((rd_T32 l0 x141_6).f0.f0), .slice A220_1 ((rd_T32 l0 x141_6).f0.f1).length c220_1, .int .i64 ((rd_T32 l0 x141_6).f1)] 32 (0, 0)) (by (with_reducible repeat (first | refine blk_drewN ?_ _ | refine blk_drew ?_ | refine blk_alloc ?_ _)); exact BK221.out) hb); have n1_ := Aside0.mk (below_step (by repeat (first | (with_reducible first | exact HB.out | apply below_alloc | apply pw_below_drewN | apply below_drew1 | refine below_set ?_ GE221.out) | exact HB.out)) hb); have n2_ := Aside0.mk (hbox); have n3_ := Aside0.mk ((by rw [hg]; exact (below_size (by repeat (first | (with_reducible first | exact HB.out | apply below_alloc | apply pw_below_drewN | apply below_drew1 | refine below_set ?_ GE221.out) | exact HB.out))) : w.heap.size ≤ gb225)); have n4_ := Aside0.mk ((by rw [hg]; exact (below_size (by repeat (first | (with_reducible first | exact HB.out | apply below_alloc | apply pw_below_drewN | apply below_drew1 | refine below_set ?_ GE221.out) | exact HB.out))) : w.heap.size ≤ gb225)); have n5_ := Aside0.mk ((by rw [hg]; exact Nat.ne_of_lt (blk_lt (g := gb221) (o := .cells #[.string ((rd_T32 l0 x141_6).f0.f0), .slice A220_1 ((rd_T32 l0 x141_6).f0.f1).length c220_1, .int .i64 ((rd_T32 l0 x141_6).f1)] 32 (0, 0)) (by (with_reducible repeat (first | refine blk_drewN ?_ _ | refine blk_drew ?_ | refine blk_alloc ?_ _)); exact BK221.out)) : gb221 ≠ gb225)); have n6_ := Aside0.mk ((by rw [hg]; exact Nat.ne_of_gt (blk_lt (g := gb221) (o := .cells #[.string ((rd_T32 l0 x141_6).f0.f0), .slice A220_1 ((rd_T32 l0 x141_6).f0.f1).length c220_1, .int .i64 ((rd_T32 l0 x141_6).f1)] 32 (0, 0)) (by (with_reducible repeat (first | refine blk_drewN ?_ _ | refine blk_drew ?_ | refine blk_alloc ?_ _)); exact BK221.out)) : gb225 ≠ gb221)); clear BK221; clear HB; have BK221 := n0_; have HB := n1_; have BK225 := n2_; have GW225 := n3_; have GE225 := n4_; have NB221_225 := n5_; have NB225_221 := n6_; clear n0_ n1_ n2_ n3_ n4_ n5_ n6_; clear hb hbox hg; have hnb75 := NB225_221.out; have hnc75 := NB221_225.out; have hcz76_0 : w74.cell? ⟨gb225, 0, none⟩ = some (.string (⟨#[]⟩ : ByteArray)) := (blk_cell BK225.out 0).trans rfl; have hcz76_1 : w74.cell? ⟨gb225, 1, none⟩ = some (.slice none 0 0) := (blk_cell BK225.out 1).trans rfl; have hcz76_2 : w74.cell? ⟨gb225, 2, none⟩ = some (.int .i64 0) := (blk_cell BK225.out 2).trans rfl; have hfz76_0 := blk_frozen BK225.out 0; have hfz76_1 := blk_frozen BK225.out 1; have hfz76_2 := blk_frozen BK225.out 2))
                                                        go_roundg k7
                                                        case measure => have := HJ4.out; have := HJ20.out; have := HJ30.out; have := HK4.out; have := HJ44.out; have := HK6.out; have := HK7.out; omega
                                                        case rel => exact ⟨(x24_7), (wrap64 (x161_7 + 1)), (by first | rfl | (simp; done) | (simp [*]; done)), (by first | rfl | (simp; done) | (simp [*]; done)), H', ⟨by have := HJ4.out; have := HJ20.out; have := HJ30.out; have := HK4.out; have := HJ44.out; have := HK6.out; have := HK7.out; omega⟩, ⟨by (with_reducible repeat (first | refine blk_drewN ?_ _ | refine blk_drew ?_ | refine blk_alloc ?_ _)); refine blk_far ?_ NB221_225.out _; (with_reducible repeat (first | refine blk_drewN ?_ _ | refine blk_drew ?_ | refine blk_alloc ?_ _)); refine blk_far ?_ NB221_225.out _; (with_reducible repeat (first | refine blk_drewN ?_ _ | refine blk_drew ?_ | refine blk_alloc ?_ _)); refine blk_far ?_ NB221_225.out _; (with_reducible repeat (first | refine blk_drewN ?_ _ | refine blk_drew ?_ | refine blk_alloc ?_ _)); exact BK221.out⟩, ⟨by repeat (first | (with_reducible first | exact HB.out | apply below_alloc | apply pw_below_drewN | apply below_drew1 | refine below_set ?_ GE221.out | refine below_set ?_ GE225.out) | exact HB.out)⟩⟩
                                                      · rw [if_neg c73] at H
                                                        have c73b0 : (x161_7 == x141_6) = false := beq_eq_false_iff_ne.mpr c73
                                                        have c73b1 : (x161_7 != x141_6) = true := bne_iff_ne.mpr c73
                                                        replace H := Option.bind_eq_some_iff.mp H
                                                        obtain ⟨t226, A770, H⟩ := H
                                                        replace H : (if x161_7 < (l1.length : Int) then (gridhalllaw3_ReserveHolds.l3 k7 l0 l1 t206 t207 t208 t209 t210 (wrap64 (x19_6 + (ji64))) x20_6 x21_6 x141_6 (wrap64 (x24_7 + (mn ((rd_T32 l0 x161_7).f1) (wrap64 (t226 - (rd l1 x161_7)))))) l0 (l0.length : Int) x141_6 l0 (l0.length : Int) (wrap64 (x161_7 + 1))) else (none)) = some r := H
                                                        have A77 := Aside0.mk A770
                                                        clear A770
                                                        by_cases c78 : x161_7 < (l1.length : Int)
                                                        · rw [if_pos c78] at H
                                                          have c78b0 : decide (x161_7 < (l1.length : Int)) = true := decide_eq_true c78
                                                          clear c78
                                                          obtain ⟨ji79, hji79⟩ : ∃ j_ : Int, (mn ((rd_T32 l0 x161_7).f1) (wrap64 (t226 - (rd l1 x161_7)))) = j_ := ⟨_, rfl⟩
                                                          replace H : (gridhalllaw3_ReserveHolds.l3 k7 l0 l1 t206 t207 t208 t209 t210 (wrap64 (x19_6 + (ji64))) x20_6 x21_6 x141_6 (wrap64 (x24_7 + (ji79))) l0 (l0.length : Int) x141_6 l0 (l0.length : Int) (wrap64 (x161_7 + 1))) = some r := by first | (rw [hji79] at H; exact H) | (simp only [hji79] at H ⊢; exact H)
                                                          (try rw [hji79] at A77)
                                                          have hji79_ : (if (wrap64 (t226 - (rd l1 x161_7))) < ((rd_T32 l0 x161_7).f1) then (wrap64 (t226 - (rd l1 x161_7))) else ((rd_T32 l0 x161_7).f1)) = ji79 := hji79
                                                          have H' := Aside0.mk H
                                                          clear H
                                                          have p224 : 0 ≤ (x161_7 : Int) := of_decide_eq_true (by first | (with_reducible assumption) | assumption)
                                                          have q224 : x161_7 < (l0.length : Int) := of_decide_eq_true (by first | (with_reducible assumption) | assumption)
                                                          obtain ⟨ad224, A224_1, c224_1, e224, hx224_0, hx224_1, hx224_2, hl224_1, hi224_1⟩ := at_T32 HR0.out x161_7 p224 q224
                                                          obtain rfl : ad220 = ad224 := (by injection e224)
                                                          replace hx224_0 := (HB.out.cell (World.block_lt_of_cell? w _ hx224_0)).trans hx224_0
                                                          replace hx224_1 := (HB.out.cell (World.block_lt_of_cell? w _ hx224_1)).trans hx224_1
                                                          replace hx224_2 := (HB.out.cell (World.block_lt_of_cell? w _ hx224_2)).trans hx224_2
                                                          have HR224_1 := Aside0.mk hi224_1
                                                          have HC224_1 := Aside0.mk hl224_1
                                                          clear hi224_1 hl224_1
                                                          replace p224 := eq_true p224
                                                          replace q224 := eq_true q224
                                                          try go_wp2_with (first | ((with_reducible refine gate_dst (N := 26) rfl ?_); (try (refine gate_guard (by rfl) ?_; dsimp only)); refine box_event ?hg (N := 26) ?hd (cs := #[.string (⟨#[]⟩ : ByteArray), .slice none 0 0, .int .i64 0]) (t := 32) ?hr ?_; (case hd => rfl); (case hg => rfl); (case hr => first | (go_simp; done) | (go_simp; rfl)); intro gb225 hg w80 hbox hb; have n0_ := Aside0.mk (blk_below (g := gb221) (o := .cells #[.string ((rd_T32 l0 x141_6).f0.f0), .slice A220_1 ((rd_T32 l0 x141_6).f0.f1).length c220_1, .int .i64 ((rd_T32 l0 x141_6).f1)] 32 (0, 0)) (by (with_reducible repeat (first | refine blk_drewN ?_ _ | refine blk_drew ?_ | refine blk_alloc ?_ _)); exact BK221.out) hb); have n1_ := Aside0.mk (below_step (by repeat (first | (with_reducible first | exact HB.out | apply below_alloc | apply pw_below_drewN | apply below_drew1 | refine below_set ?_ GE221.out) | exact HB.out)) hb); have n2_ := Aside0.mk (hbox); have n3_ := Aside0.mk ((by rw [hg]; exact (below_size (by repeat (first | (with_reducible first | exact HB.out | apply below_alloc | apply pw_below_drewN | apply below_drew1 | refine below_set ?_ GE221.out) | exact HB.out))) : w.heap.size ≤ gb225)); have n4_ := Aside0.mk ((by rw [hg]; exact (below_size (by repeat (first | (with_reducible first | exact HB.out | apply below_alloc | apply pw_below_drewN | apply below_drew1 | refine below_set ?_ GE221.out) | exact HB.out))) : w.heap.size ≤ gb225)); have n5_ := Aside0.mk ((by rw [hg]; exact Nat.ne_of_lt (blk_lt (g := gb221) (o := .cells #[.string ((rd_T32 l0 x141_6).f0.f0), .slice A220_1 ((rd_T32 l0 x141_6).f0.f1).length c220_1, .int .i64 ((rd_T32 l0 x141_6).f1)] 32 (0, 0)) (by (with_reducible repeat (first | refine blk_drewN ?_ _ | refine blk_drew ?_ | refine blk_alloc ?_ _)); exact BK221.out)) : gb221 ≠ gb225)); have n6_ := Aside0.mk ((by rw [hg]; exact Nat.ne_of_gt (blk_lt (g := gb221) (o := .cells #[.string ((rd_T32 l0 x141_6).f0.f0), .slice A220_1 ((rd_T32 l0 x141_6).f0.f1).length c220_1, .int .i64 ((rd_T32 l0 x141_6).f1)] 32 (0, 0)) (by (with_reducible repeat (first | refine blk_drewN ?_ _ | refine blk_drew ?_ | refine blk_alloc ?_ _)); exact BK221.out)) : gb225 ≠ gb221)); clear BK221; clear HB; have BK221 := n0_; have HB := n1_; have BK225 := n2_; have GW225 := n3_; have GE225 := n4_; have NB221_225 := n5_; have NB225_221 := n6_; clear n0_ n1_ n2_ n3_ n4_ n5_ n6_; clear hb hbox hg; have hnb81 := NB225_221.out; have hnc81 := NB221_225.out; have hcz82_0 : w80.cell? ⟨gb225, 0, none⟩ = some (.string (⟨#[]⟩ : ByteArray)) := (blk_cell BK225.out 0).trans rfl; have hcz82_1 : w80.cell? ⟨gb225, 1, none⟩ = some (.slice none 0 0) := (blk_cell BK225.out 1).trans rfl; have hcz82_2 : w80.cell? ⟨gb225, 2, none⟩ = some (.int .i64 0) := (blk_cell BK225.out 2).trans rfl; have hfz82_0 := blk_frozen BK225.out 0; have hfz82_1 := blk_frozen BK225.out 1; have hfz82_2 := blk_frozen BK225.out 2))
                                                          have n0_ : Aside0 ((((w80.setCell ⟨gb225, 0, none⟩ (.string ((rd_T32 l0 x161_7).f0.f0))).setCell ⟨gb225, 1, none⟩ (.slice A224_1 ((rd_T32 l0 x161_7).f0.f1).length c224_1)).setCell ⟨gb225, 2, none⟩ (.int .i64 ((rd_T32 l0 x161_7).f1))).heap[gb221]? = some (.cells #[.string ((rd_T32 l0 x141_6).f0.f0), .slice A220_1 ((rd_T32 l0 x141_6).f0.f1).length c220_1, .int .i64 ((rd_T32 l0 x141_6).f1)] 32 (0, 0))) := ⟨by (with_reducible repeat (first | refine blk_drewN ?_ _ | refine blk_drew ?_ | refine blk_alloc ?_ _)); refine blk_far ?_ NB221_225.out _; (with_reducible repeat (first | refine blk_drewN ?_ _ | refine blk_drew ?_ | refine blk_alloc ?_ _)); refine blk_far ?_ NB221_225.out _; (with_reducible repeat (first | refine blk_drewN ?_ _ | refine blk_drew ?_ | refine blk_alloc ?_ _)); refine blk_far ?_ NB221_225.out _; (with_reducible repeat (first | refine blk_drewN ?_ _ | refine blk_drew ?_ | refine blk_alloc ?_ _)); exact BK221.out⟩
                                                          have n1_ : Aside0 ((((w80.setCell ⟨gb225, 0, none⟩ (.string ((rd_T32 l0 x161_7).f0.f0))).setCell ⟨gb225, 1, none⟩ (.slice A224_1 ((rd_T32 l0 x161_7).f0.f1).length c224_1)).setCell ⟨gb225, 2, none⟩ (.int .i64 ((rd_T32 l0 x161_7).f1))).heap[gb225]? = some (.cells #[.string ((rd_T32 l0 x161_7).f0.f0), .slice A224_1 ((rd_T32 l0 x161_7).f0.f1).length c224_1, .int .i64 ((rd_T32 l0 x161_7).f1)] 32 (0, 0))) := ⟨by (with_reducible repeat (first | refine blk_drewN ?_ _ | refine blk_drew ?_ | refine blk_alloc ?_ _)); refine blk_put (cs := #[.string ((rd_T32 l0 x161_7).f0.f0), .slice A224_1 ((rd_T32 l0 x161_7).f0.f1).length c224_1, .int .i64 0]) ?_ 2 _ rfl; (with_reducible repeat (first | refine blk_drewN ?_ _ | refine blk_drew ?_ | refine blk_alloc ?_ _)); refine blk_put (cs := #[.string ((rd_T32 l0 x161_7).f0.f0), .slice none 0 0, .int .i64 0]) ?_ 1 _ rfl; (with_reducible repeat (first | refine blk_drewN ?_ _ | refine blk_drew ?_ | refine blk_alloc ?_ _)); refine blk_put (cs := #[.string (⟨#[]⟩ : ByteArray), .slice none 0 0, .int .i64 0]) ?_ 0 _ rfl; (with_reducible repeat (first | refine blk_drewN ?_ _ | refine blk_drew ?_ | refine blk_alloc ?_ _)); exact BK225.out⟩
                                                          have n2_ : Aside0 (Below w.heap.size w (((w80.setCell ⟨gb225, 0, none⟩ (.string ((rd_T32 l0 x161_7).f0.f0))).setCell ⟨gb225, 1, none⟩ (.slice A224_1 ((rd_T32 l0 x161_7).f0.f1).length c224_1)).setCell ⟨gb225, 2, none⟩ (.int .i64 ((rd_T32 l0 x161_7).f1)))) := ⟨by repeat (first | (with_reducible first | exact HB.out | apply below_alloc | apply pw_below_drewN | apply below_drew1 | refine below_set ?_ GE221.out | refine below_set ?_ GE225.out) | exact HB.out)⟩
                                                          (try clear BK221)
                                                          (try clear BK225)
                                                          (try clear HB)
                                                          generalize (((w80.setCell ⟨gb225, 0, none⟩ (.string ((rd_T32 l0 x161_7).f0.f0))).setCell ⟨gb225, 1, none⟩ (.slice A224_1 ((rd_T32 l0 x161_7).f0.f1).length c224_1)).setCell ⟨gb225, 2, none⟩ (.int .i64 ((rd_T32 l0 x161_7).f1))) = w83 at n0_ n1_ n2_ ⊢
                                                          have BK221 := n0_
                                                          have BK225 := n1_
                                                          have HB := n2_
                                                          clear n0_ n1_ n2_
                                                          have n0_ := Aside0.mk (blk_drew BK221.out)
                                                          have n1_ := Aside0.mk (blk_drew BK225.out)
                                                          have n2_ := Aside0.mk (below_drew1 HB.out)
                                                          clear BK221
                                                          clear BK225
                                                          clear HB
                                                          have BK221 := n0_
                                                          have BK225 := n1_
                                                          have HB := n2_
                                                          clear n0_ n1_ n2_
                                                          have p227 : 0 ≤ (x161_7 : Int) := of_decide_eq_true (by first | (with_reducible assumption) | assumption)
                                                          have q227 : x161_7 < (l1.length : Int) := of_decide_eq_true (by first | (with_reducible assumption) | assumption)
                                                          obtain ⟨ad227, e227, hx227_0⟩ := Kd.at_int HR1.out x161_7 p227 q227
                                                          have hw227_0 := hx227_0
                                                          obtain rfl : ad223 = ad227 := (by injection e227)
                                                          replace hx227_0 := (HB.out.cell (World.block_lt_of_cell? w _ hx227_0)).trans hx227_0
                                                          replace p227 := eq_true p227
                                                          replace q227 := eq_true q227
                                                          refine start_ (n := 14) (S := fun w' => w'.cell? ⟨gb225, 0, none⟩ = some (.string ((rd_T32 l0 x161_7).f0.f0)) ∧ w'.cell? ⟨gb225, 1, none⟩ = some (.slice A224_1 ((rd_T32 l0 x161_7).f0.f1).length c224_1) ∧ w'.cell? ⟨gb225, 2, none⟩ = some (.int .i64 ((rd_T32 l0 x161_7).f1)) ∧ w'.cell? (ad223.add (x161_7).toNat) = some (.int .i64 (rd l1 x161_7))) (ds := []) #[false, false, false, false, false, false, false, false, false, false, false, false, false, false] (by kernel_rfl) rfl rfl ⟨(blk_cell BK225.out 0).trans rfl, (blk_cell BK225.out 1).trans rfl, (blk_cell BK225.out 2).trans rfl, ((HB.out.cell (World.block_lt_of_cell? w _ hw227_0)).trans hw227_0)⟩ (fun hHeld => ?_); refine with_tabW gridhalllaw3_ReserveHolds.tab38 gridhalllaw3_ReserveHolds.bits38 (fun HT_ HW_ => ?_)
                                                          generalize w83.drew = w84 at BK221 BK225 HB hx227_0 hHeld ⊢
                                                          refine pure_ (i := 0) (N := some 169) (v := ?_) (a' := ?_) #[true, false, false, false, false, false, false, false, false, false, false, false, false, false] rfl rfl (any_of HT_.out (by kernel_rfl)) (fun _ _ _ h => h) (Or.inl ⟨by rfl, ?_⟩) ?_ ?_
                                                          rotate_left
                                                          · intro w'
                                                            go_simp
                                                            with_reducible rfl
                                                          rotate_left
                                                          · simp only [Act.put, List.setIfInBounds_toArray, List.set_cons_zero, List.set_cons_succ, i64_w, i32_w]
                                                            rfl
                                                          refine pure_ (i := 1) (N := some 170) (v := ?_) (a' := ?_) #[true, true, false, false, false, false, false, false, false, false, false, false, false, false] rfl rfl (any_of HT_.out (by kernel_rfl)) (fun _ _ _ h => h) (Or.inl ⟨by rfl, ?_⟩) ?_ ?_
                                                          rotate_left
                                                          · intro w'
                                                            go_simp
                                                            with_reducible rfl
                                                          rotate_left
                                                          · simp only [Act.put, List.setIfInBounds_toArray, List.set_cons_zero, List.set_cons_succ, i64_w, i32_w]
                                                            rfl
                                                          refine pure_ (i := 3) (N := some 172) (v := ?_) (a' := ?_) #[true, true, false, true, false, false, false, false, false, false, false, false, false, false] rfl rfl (any_of HT_.out (by kernel_rfl)) (fun _ _ _ h => h) (Or.inl ⟨by rfl, ?_⟩) ?_ ?_
                                                          rotate_left
                                                          · intro w'
                                                            go_simp
                                                            with_reducible rfl
                                                          rotate_left
                                                          · simp only [Act.put, List.setIfInBounds_toArray, List.set_cons_zero, List.set_cons_succ, i64_w, i32_w]
                                                            rfl
                                                          refine pure_ (i := 6) (N := some 175) (v := ?_) (a' := ?_) #[true, true, false, true, false, false, true, false, false, false, false, false, false, false] rfl rfl (any_of HT_.out (by kernel_rfl)) (fun _ _ _ h => h) (Or.inl ⟨by rfl, ?_⟩) ?_ ?_
                                                          rotate_left
                                                          · intro w'
                                                            go_simp
                                                            with_reducible rfl
                                                          rotate_left
                                                          · simp only [Act.put, List.setIfInBounds_toArray, List.set_cons_zero, List.set_cons_succ, i64_w, i32_w]
                                                            rfl
                                                          refine pure_ (i := 7) (N := some 176) (v := ?_) (a' := ?_) #[true, true, false, true, false, false, true, true, false, false, false, false, false, false] rfl rfl (any_of HT_.out (by kernel_rfl)) (fun _ _ _ h => h) (Or.inl ⟨by rfl, ?_⟩) ?_ ?_
                                                          rotate_left
                                                          · intro w'
                                                            go_simp
                                                            with_reducible rfl
                                                          rotate_left
                                                          · simp only [Act.put, List.setIfInBounds_toArray, List.set_cons_zero, List.set_cons_succ, i64_w, i32_w]
                                                            rfl
                                                          refine pure_ (i := 8) (N := some 177) (v := ?_) (a' := ?_) #[true, true, false, true, false, false, true, true, true, false, false, false, false, false] rfl rfl (any_of HT_.out (by kernel_rfl)) (fun _ _ _ h => h) (Or.inl ⟨by rfl, ?_⟩) ?_ ?_
                                                          rotate_left
                                                          · intro w'
                                                            go_simp
                                                            with_reducible rfl
                                                          rotate_left
                                                          · simp only [Act.put, List.setIfInBounds_toArray, List.set_cons_zero, List.set_cons_succ, i64_w, i32_w]
                                                            rfl
                                                          refine take_ (i := 2) (N := some 171) (v := ?_) (a' := ?_) #[true, true, true, true, false, false, true, true, true, false, false, false, false, false] rfl rfl (take_ofW HT_.out HW_.out (by kernel_rfl)) (fun _ _ _ h => h) (Or.inl ⟨by rfl, ?_⟩) hHeld ?_ ?_
                                                          rotate_left
                                                          · rintro w' ⟨s0, s1, s2, s3⟩
                                                            go_simp
                                                            with_reducible rfl
                                                          rotate_left
                                                          · simp only [Act.put, List.setIfInBounds_toArray, List.set_cons_zero, List.set_cons_succ, i64_w, i32_w]
                                                            rfl
                                                          refine take_ (i := 4) (N := some 173) (v := ?_) (a' := ?_) #[true, true, true, true, true, false, true, true, true, false, false, false, false, false] rfl rfl (take_ofW HT_.out HW_.out (by kernel_rfl)) (fun _ _ _ h => h) (Or.inl ⟨by rfl, ?_⟩) hHeld ?_ ?_
                                                          rotate_left
                                                          · rintro w' ⟨s0, s1, s2, s3⟩
                                                            go_simp
                                                            with_reducible rfl
                                                          rotate_left
                                                          · simp only [Act.put, List.setIfInBounds_toArray, List.set_cons_zero, List.set_cons_succ, i64_w, i32_w]
                                                            rfl
                                                          refine take_ (i := 9) (N := some 178) (v := ?_) (a' := ?_) #[true, true, true, true, true, false, true, true, true, true, false, false, false, false] rfl rfl (take_ofW HT_.out HW_.out (by kernel_rfl)) (fun _ _ _ h => h) (Or.inl ⟨by rfl, ?_⟩) hHeld ?_ ?_
                                                          rotate_left
                                                          · rintro w' ⟨s0, s1, s2, s3⟩
                                                            go_simp
                                                            with_reducible rfl
                                                          rotate_left
                                                          · simp only [Act.put, List.setIfInBounds_toArray, List.set_cons_zero, List.set_cons_succ, i64_w, i32_w]
                                                            rfl
                                                          refine one_ (i := 5) (N := some 174) #[true, true, true, true, true, true, true, true, true, true, false, false, false, false] rfl rfl (one_of HT_.out (by kernel_rfl)) (by decide) (fun K hK => ?_)
                                                          refine goes_ Try.func15 (by kernel_rfl) rfl #[.agg #[.string ((rd_T32 l0 x161_7).f0.f0), .slice A224_1 ((rd_T32 l0 x161_7).f0.f1).length c224_1]] (by rfl) rfl rfl (by (try simp only [List.map_toArray, List.map_cons, List.map_nil]); first | done | rfl | (simp only [List.length_drop, List.length_take]; rfl)) ?_
                                                          with_reducible refine (gridhallref3_All.calls k7 ((rd_T32 l0 x161_7).f0.f0) _ _ ((rd_T32 l0 x161_7).f0.f1) t226 _ ?side1 ?side2 A77.out).mono ?_
                                                          (case side1 => repeat (first | exact (Kd.C_below HR224_1.out HB.out) | (with_reducible refine Kd.C_alloc ?_ _) | (with_reducible refine Kd.C_drewN ?_ _) | (with_reducible refine Kd.C_drew ?_)))
                                                          (case side2 => exact HC224_1.out)
                                                          rintro e w85 ⟨rfl, hb⟩
                                                          refine ⟨_, rfl, ?_⟩
                                                          have n0_ := Aside0.mk (blk_below (g := gb221) (o := .cells #[.string ((rd_T32 l0 x141_6).f0.f0), .slice A220_1 ((rd_T32 l0 x141_6).f0.f1).length c220_1, .int .i64 ((rd_T32 l0 x141_6).f1)] 32 (0, 0)) (by (with_reducible repeat (first | refine blk_drewN ?_ _ | refine blk_drew ?_ | refine blk_alloc ?_ _)); exact BK221.out) hb)
                                                          have n1_ := Aside0.mk (blk_below (g := gb225) (o := .cells #[.string ((rd_T32 l0 x161_7).f0.f0), .slice A224_1 ((rd_T32 l0 x161_7).f0.f1).length c224_1, .int .i64 ((rd_T32 l0 x161_7).f1)] 32 (0, 0)) (by (with_reducible repeat (first | refine blk_drewN ?_ _ | refine blk_drew ?_ | refine blk_alloc ?_ _)); exact BK225.out) hb)
                                                          have n2_ := Aside0.mk (below_step (by repeat (first | (with_reducible first | exact HB.out | apply below_alloc | apply pw_below_drewN | apply below_drew1 | refine below_set ?_ GE221.out | refine below_set ?_ GE225.out) | exact HB.out)) hb)
                                                          clear BK221
                                                          clear BK225
                                                          clear HB
                                                          have BK221 := n0_
                                                          have BK225 := n1_
                                                          have HB := n2_
                                                          clear n0_ n1_ n2_
                                                          (try clear hb)
                                                          (try clear hb2)
                                                          (try clear hk)
                                                          (try clear hi)
                                                          refine hK.out _ _ ⟨(blk_cell BK225.out 0).trans rfl, (blk_cell BK225.out 1).trans rfl, (blk_cell BK225.out 2).trans rfl, ((HB.out.cell (World.block_lt_of_cell? w _ hw227_0)).trans hw227_0)⟩ (fun hHeld => ?_)
                                                          clear hK K
                                                          refine norm_ (a' := ?_) ?_ ?_
                                                          rotate_left
                                                          · show Act.put _ (some 174) _ = _
                                                            simp only [Act.put, List.setIfInBounds_toArray, List.set_cons_zero, List.set_cons_succ, i64_w, i32_w]
                                                            rfl
                                                          refine pure_ (i := 10) (N := some 179) (v := ?_) (a' := ?_) #[true, true, true, true, true, true, true, true, true, true, true, false, false, false] rfl rfl (any_of HT_.out (by kernel_rfl)) (fun _ _ _ h => h) (Or.inl ⟨by rfl, ?_⟩) ?_ ?_
                                                          rotate_left
                                                          · intro w'
                                                            go_simp
                                                            with_reducible rfl
                                                          rotate_left
                                                          · simp only [Act.put, List.setIfInBounds_toArray, List.set_cons_zero, List.set_cons_succ, i64_w, i32_w]
                                                            rfl
                                                          refine pure_ (i := 11) (N := some 180) (v := ?_) (a' := ?_) #[true, true, true, true, true, true, true, true, true, true, true, true, false, false] rfl rfl (any_of HT_.out (by kernel_rfl)) (fun _ _ _ h => h) (Or.inl ⟨by rfl, ?_⟩) ?_ ?_
                                                          rotate_left
                                                          · intro w'
                                                            go_simp
                                                            with_reducible rfl
                                                          rotate_left
                                                          · simp only [Act.put, List.setIfInBounds_toArray, List.set_cons_zero, List.set_cons_succ, i64_w, i32_w]
                                                            rfl
                                                          refine pure_ (i := 12) (N := some 181) (v := ?_) (a' := ?_) #[true, true, true, true, true, true, true, true, true, true, true, true, true, false] rfl rfl (any_of HT_.out (by kernel_rfl)) (fun _ _ _ h => h) (Or.inl ⟨by rfl, ?_⟩) ?_ ?_
                                                          rotate_left
                                                          · intro w'
                                                            go_simp
                                                            with_reducible rfl
                                                          rotate_left
                                                          · simp only [Act.put, List.setIfInBounds_toArray, List.set_cons_zero, List.set_cons_succ, i64_w, i32_w]
                                                            rfl
                                                          refine pure_ (i := 13) (N := some 24) (v := ?_) (a' := ?_) #[true, true, true, true, true, true, true, true, true, true, true, true, true, true] rfl rfl (any_of HT_.out (by kernel_rfl)) (fun _ _ _ h => h) (Or.inl ⟨by rfl, ?_⟩) ?_ ?_
                                                          rotate_left
                                                          · intro w'
                                                            go_simp
                                                            with_reducible rfl
                                                          rotate_left
                                                          · simp only [Act.put, List.setIfInBounds_toArray, List.set_cons_zero, List.set_cons_succ, i64_w, i32_w]
                                                            rfl
                                                          refine done_ (done_of HT_.out (by kernel_rfl)) ?_
                                                          try go_wp2
                                                          go_roundg k7
                                                          case measure => have := HJ4.out; have := HJ20.out; have := HJ30.out; have := HK4.out; have := HJ44.out; have := HK6.out; have := HK7.out; omega
                                                          case rel => exact ⟨(wrap64 (x24_7 + (ji79))), (wrap64 (x161_7 + 1)), (by first | rfl | (simp; done) | (simp only [← hji79] <;> (first | rfl | simp)) | (simp [*]; done)), (by first | rfl | (simp; done) | (simp [*]; done)), H', ⟨by have := HJ4.out; have := HJ20.out; have := HJ30.out; have := HK4.out; have := HJ44.out; have := HK6.out; have := HK7.out; omega⟩, ⟨by (with_reducible repeat (first | refine blk_drewN ?_ _ | refine blk_drew ?_ | refine blk_alloc ?_ _)); exact BK221.out⟩, ⟨by repeat (first | (with_reducible first | exact HB.out | apply below_alloc | apply pw_below_drewN | apply below_drew1 | refine below_set ?_ GE221.out | refine below_set ?_ GE225.out) | exact HB.out)⟩⟩
                                                        · rw [if_neg c78] at H
                                                          exact absurd H (by simp)
                                                    · rw [if_neg c72] at H
                                                      exact absurd H (by simp)
                                                  · rw [if_neg c71] at H
                                                    exact absurd H (by simp)
                                                · rw [if_neg c70] at H
                                                  have c70b0 : decide (x161_7 < (l0.length : Int)) = false := decide_eq_false c70
                                                  clear c70
                                                  by_cases c86 : 0 ≤ x141_6
                                                  · rw [if_pos c86] at H
                                                    have c86b0 : decide (0 ≤ x141_6) = true := decide_eq_true c86
                                                    clear c86
                                                    by_cases c87 : x141_6 < (l1.length : Int)
                                                    · rw [if_pos c87] at H
                                                      have c87b0 : decide (x141_6 < (l1.length : Int)) = true := decide_eq_true c87
                                                      clear c87
                                                      by_cases c88 : (wrap64 ((rd l1 x141_6) - x24_7)) > x20_6
                                                      · rw [if_pos c88] at H
                                                        have c88b0 : decide (x20_6 < (wrap64 ((rd l1 x141_6) - x24_7))) = true := decide_eq_true c88
                                                        clear c88
                                                        have H' := Aside0.mk H
                                                        clear H
                                                        have p228 : 0 ≤ (x141_6 : Int) := of_decide_eq_true (by first | (with_reducible assumption) | assumption)
                                                        have q228 : x141_6 < (l1.length : Int) := of_decide_eq_true (by first | (with_reducible assumption) | assumption)
                                                        obtain ⟨ad228, e228, hx228_0⟩ := Kd.at_int HR1.out x141_6 p228 q228
                                                        obtain rfl : ad223 = ad228 := (by injection e228)
                                                        replace hx228_0 := (HB.out.cell (World.block_lt_of_cell? w _ hx228_0)).trans hx228_0
                                                        replace p228 := eq_true p228
                                                        replace q228 := eq_true q228
                                                        have p229 : 0 ≤ (x141_6 : Int) := of_decide_eq_true (by first | (with_reducible assumption) | assumption)
                                                        have q229 : x141_6 < (l1.length : Int) := of_decide_eq_true (by first | (with_reducible assumption) | assumption)
                                                        obtain ⟨ad229, e229, hx229_0⟩ := Kd.at_int HR1.out x141_6 p229 q229
                                                        obtain rfl : ad223 = ad229 := (by injection e229)
                                                        replace hx229_0 := (HB.out.cell (World.block_lt_of_cell? w _ hx229_0)).trans hx229_0
                                                        replace p229 := eq_true p229
                                                        replace q229 := eq_true q229
                                                        go_wp2
                                                        go_roundg k7
                                                        case measure => have := HJ4.out; have := HJ20.out; have := HJ30.out; have := HK4.out; have := HJ44.out; have := HK6.out; have := HK7.out; omega
                                                        case rel => exact ⟨((wrap64 (x19_6 + (ji64)))), (wrap64 ((rd l1 x141_6) - x24_7)), (x141_6), (wrap64 (x141_6 + 1)), (by first | rfl | (simp; done) | (simp only [← hji64] <;> (first | rfl | simp)) | (simp [*]; done)), (by first | rfl | (simp; done) | (simp [*]; done)), (by first | rfl | (simp; done) | (simp [*]; done)), (by first | rfl | (simp; done) | (simp [*]; done)), H', ⟨by have := HJ4.out; have := HJ20.out; have := HJ30.out; have := HK4.out; have := HJ44.out; have := HK6.out; have := HK7.out; omega⟩, ⟨by repeat (first | (with_reducible first | exact HB.out | apply below_alloc | apply pw_below_drewN | apply below_drew1 | refine below_set ?_ GE221.out) | exact HB.out)⟩⟩
                                                      · rw [if_neg c88] at H
                                                        have c88b0 : decide (x20_6 < (wrap64 ((rd l1 x141_6) - x24_7))) = false := decide_eq_false c88
                                                        clear c88
                                                        have H' := Aside0.mk H
                                                        clear H
                                                        have p228 : 0 ≤ (x141_6 : Int) := of_decide_eq_true (by first | (with_reducible assumption) | assumption)
                                                        have q228 : x141_6 < (l1.length : Int) := of_decide_eq_true (by first | (with_reducible assumption) | assumption)
                                                        obtain ⟨ad228, e228, hx228_0⟩ := Kd.at_int HR1.out x141_6 p228 q228
                                                        obtain rfl : ad223 = ad228 := (by injection e228)
                                                        replace hx228_0 := (HB.out.cell (World.block_lt_of_cell? w _ hx228_0)).trans hx228_0
                                                        replace p228 := eq_true p228
                                                        replace q228 := eq_true q228
                                                        go_wp2
                                                        go_roundg k7
                                                        case measure => have := HJ4.out; have := HJ20.out; have := HJ30.out; have := HK4.out; have := HJ44.out; have := HK6.out; have := HK7.out; omega
                                                        case rel => exact ⟨((wrap64 (x19_6 + (ji64)))), (x20_6), (x21_6), (wrap64 (x141_6 + 1)), (by first | rfl | (simp; done) | (simp only [← hji64] <;> (first | rfl | simp)) | (simp [*]; done)), (by first | rfl | (simp; done) | (simp [*]; done)), (by first | rfl | (simp; done) | (simp [*]; done)), (by first | rfl | (simp; done) | (simp [*]; done)), H', ⟨by have := HJ4.out; have := HJ20.out; have := HJ30.out; have := HK4.out; have := HJ44.out; have := HK6.out; have := HK7.out; omega⟩, ⟨by repeat (first | (with_reducible first | exact HB.out | apply below_alloc | apply pw_below_drewN | apply below_drew1 | refine below_set ?_ GE221.out) | exact HB.out)⟩⟩
                                                    · rw [if_neg c87] at H
                                                      exact absurd H (by simp)
                                                  · rw [if_neg c86] at H
                                                    exact absurd H (by simp)
                                          · rw [if_neg c63] at H
                                            exact absurd H (by simp)
                                        · rw [if_neg c61] at H
                                          exact absurd H (by simp)
                                      · rw [if_neg c60] at H
                                        exact absurd H (by simp)
                                    · rw [if_neg c59] at H
                                      have c59b0 : decide (x141_6 < (l0.length : Int)) = false := decide_eq_false c59
                                      clear c59
                                      by_cases c89 : t207 = 0
                                      · rw [if_pos c89] at H
                                        have c89b0 : (t207 == 0) = true := beq_iff_eq.mpr c89
                                        have c89b1 : (t207 != 0) = false := bne_eq_false_iff_eq.mpr c89
                                        clear c89
                                        by_cases c90 : t210 = 0
                                        · rw [if_pos c90] at H
                                          have c90b0 : (t210 == 0) = true := beq_iff_eq.mpr c90
                                          have c90b1 : (t210 != 0) = false := bne_eq_false_iff_eq.mpr c90
                                          clear c90
                                          by_cases c91 : t206 = x19_6
                                          · rw [if_pos c91] at H
                                            have c91b0 : (t206 == x19_6) = true := beq_iff_eq.mpr c91
                                            have c91b1 : (t206 != x19_6) = false := bne_eq_false_iff_eq.mpr c91
                                            clear c91
                                            by_cases c92 : t208 = x20_6
                                            · rw [if_pos c92] at H
                                              have c92b0 : (t208 == x20_6) = true := beq_iff_eq.mpr c92
                                              have c92b1 : (t208 != x20_6) = false := bne_eq_false_iff_eq.mpr c92
                                              clear c92
                                              obtain rfl := Option.some.inj H
                                              go_wp2
                                              go_ret
                                              exact ⟨by first | rfl | (simp [errW_none, errW_some] <;> rfl) | (simp [*, errW_none, errW_some] <;> rfl), by repeat (first | (with_reducible first | exact HB.out | apply below_alloc | apply pw_below_drewN | apply below_drew1) | exact HB.out)⟩
                                            · rw [if_neg c92] at H
                                              have c92b0 : (t208 == x20_6) = false := beq_eq_false_iff_ne.mpr c92
                                              have c92b1 : (t208 != x20_6) = true := bne_iff_ne.mpr c92
                                              obtain rfl := Option.some.inj H
                                              go_wp2
                                              go_ret
                                              exact ⟨by first | rfl | (simp [errW_none, errW_some] <;> rfl) | (simp [*, errW_none, errW_some] <;> rfl), by repeat (first | (with_reducible first | exact HB.out | apply below_alloc | apply pw_below_drewN | apply below_drew1) | exact HB.out)⟩
                                          · rw [if_neg c91] at H
                                            have c91b0 : (t206 == x19_6) = false := beq_eq_false_iff_ne.mpr c91
                                            have c91b1 : (t206 != x19_6) = true := bne_iff_ne.mpr c91
                                            obtain rfl := Option.some.inj H
                                            go_wp2
                                            go_ret
                                            exact ⟨by first | rfl | (simp [errW_none, errW_some] <;> rfl) | (simp [*, errW_none, errW_some] <;> rfl), by repeat (first | (with_reducible first | exact HB.out | apply below_alloc | apply pw_below_drewN | apply below_drew1) | exact HB.out)⟩
                                        · rw [if_neg c90] at H
                                          have c90b0 : (t210 == 0) = false := beq_eq_false_iff_ne.mpr c90
                                          have c90b1 : (t210 != 0) = true := bne_iff_ne.mpr c90
                                          obtain rfl := Option.some.inj H
                                          go_wp2
                                          go_ret
                                          exact ⟨by first | rfl | (simp [errW_none, errW_some] <;> rfl) | (simp [*, errW_none, errW_some] <;> rfl), by repeat (first | (with_reducible first | exact HB.out | apply below_alloc | apply pw_below_drewN | apply below_drew1) | exact HB.out)⟩
                                      · rw [if_neg c89] at H
                                        have c89b0 : (t207 == 0) = false := beq_eq_false_iff_ne.mpr c89
                                        have c89b1 : (t207 != 0) = true := bne_iff_ne.mpr c89
                                        obtain rfl := Option.some.inj H
                                        go_wp2
                                        go_ret
                                        exact ⟨by first | rfl | (simp [errW_none, errW_some] <;> rfl) | (simp [*, errW_none, errW_some] <;> rfl), by repeat (first | (with_reducible first | exact HB.out | apply below_alloc | apply pw_below_drewN | apply below_drew1) | exact HB.out)⟩
                              · rw [if_neg c58] at H
                                have c58b0 : (x14_4 == 0) = false := beq_eq_false_iff_ne.mpr c58
                                have c58b1 : (x14_4 != 0) = true := bne_iff_ne.mpr c58
                                by_cases c93 : t207 = x14_4
                                · rw [if_pos c93] at H
                                  have c93b0 : (t207 == x14_4) = true := beq_iff_eq.mpr c93
                                  have c93b1 : (t207 != x14_4) = false := bne_eq_false_iff_eq.mpr c93
                                  clear c93
                                  by_cases c94 : t210 = x14_4
                                  · rw [if_pos c94] at H
                                    have c94b0 : (t210 == x14_4) = true := beq_iff_eq.mpr c94
                                    have c94b1 : (t210 != x14_4) = false := bne_eq_false_iff_eq.mpr c94
                                    clear c94
                                    by_cases c95 : t206 = 0
                                    · rw [if_pos c95] at H
                                      have c95b0 : (t206 == 0) = true := beq_iff_eq.mpr c95
                                      have c95b1 : (t206 != 0) = false := bne_eq_false_iff_eq.mpr c95
                                      clear c95
                                      by_cases c96 : t208 = 0
                                      · rw [if_pos c96] at H
                                        have c96b0 : (t208 == 0) = true := beq_iff_eq.mpr c96
                                        have c96b1 : (t208 != 0) = false := bne_eq_false_iff_eq.mpr c96
                                        clear c96
                                        obtain rfl := Option.some.inj H
                                        go_wp2
                                        go_ret
                                        exact ⟨by first | rfl | (simp [errW_none, errW_some] <;> rfl) | (simp [*, errW_none, errW_some] <;> rfl), by repeat (first | (with_reducible first | exact HB.out | apply below_alloc | apply pw_below_drewN | apply below_drew1) | exact HB.out)⟩
                                      · rw [if_neg c96] at H
                                        have c96b0 : (t208 == 0) = false := beq_eq_false_iff_ne.mpr c96
                                        have c96b1 : (t208 != 0) = true := bne_iff_ne.mpr c96
                                        obtain rfl := Option.some.inj H
                                        go_wp2
                                        go_ret
                                        exact ⟨by first | rfl | (simp [errW_none, errW_some] <;> rfl) | (simp [*, errW_none, errW_some] <;> rfl), by repeat (first | (with_reducible first | exact HB.out | apply below_alloc | apply pw_below_drewN | apply below_drew1) | exact HB.out)⟩
                                    · rw [if_neg c95] at H
                                      have c95b0 : (t206 == 0) = false := beq_eq_false_iff_ne.mpr c95
                                      have c95b1 : (t206 != 0) = true := bne_iff_ne.mpr c95
                                      obtain rfl := Option.some.inj H
                                      go_wp2
                                      go_ret
                                      exact ⟨by first | rfl | (simp [errW_none, errW_some] <;> rfl) | (simp [*, errW_none, errW_some] <;> rfl), by repeat (first | (with_reducible first | exact HB.out | apply below_alloc | apply pw_below_drewN | apply below_drew1) | exact HB.out)⟩
                                  · rw [if_neg c94] at H
                                    have c94b0 : (t210 == x14_4) = false := beq_eq_false_iff_ne.mpr c94
                                    have c94b1 : (t210 != x14_4) = true := bne_iff_ne.mpr c94
                                    obtain rfl := Option.some.inj H
                                    go_wp2
                                    go_ret
                                    exact ⟨by first | rfl | (simp [errW_none, errW_some] <;> rfl) | (simp [*, errW_none, errW_some] <;> rfl), by repeat (first | (with_reducible first | exact HB.out | apply below_alloc | apply pw_below_drewN | apply below_drew1) | exact HB.out)⟩
                                · rw [if_neg c93] at H
                                  have c93b0 : (t207 == x14_4) = false := beq_eq_false_iff_ne.mpr c93
                                  have c93b1 : (t207 != x14_4) = true := bne_iff_ne.mpr c93
                                  obtain rfl := Option.some.inj H
                                  go_wp2
                                  go_ret
                                  exact ⟨by first | rfl | (simp [errW_none, errW_some] <;> rfl) | (simp [*, errW_none, errW_some] <;> rfl), by repeat (first | (with_reducible first | exact HB.out | apply below_alloc | apply pw_below_drewN | apply below_drew1) | exact HB.out)⟩
                  · rw [if_neg c44] at H
                    have c44b0 : (t204 == x15_30) = false := beq_eq_false_iff_ne.mpr c44
                    have c44b1 : (t204 != x15_30) = true := bne_iff_ne.mpr c44
                    obtain rfl := Option.some.inj H
                    go_wp2
                    go_ret
                    exact ⟨by first | rfl | (simp [errW_none, errW_some] <;> rfl) | (simp [*, errW_none, errW_some] <;> rfl), by repeat (first | (with_reducible first | exact HB.out | apply below_alloc | apply pw_below_drewN | apply below_drew1) | exact HB.out)⟩

end Go.Proofs.Ytekpnmeikibioaa.PReserveHolds
