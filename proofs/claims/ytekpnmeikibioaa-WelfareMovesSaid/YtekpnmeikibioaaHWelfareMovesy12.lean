/- Contracts of functions that WelfareMoves reaches, a text of this session's own. -/
import Derived.Test.YtekpnmeikibioaaHWelfareMovesy0
import Derived.Test.YtekpnmeikibioaaHWelfareMovesy1
import Derived.Test.YtekpnmeikibioaaHWelfareMovesy2
import Derived.Test.YtekpnmeikibioaaHWelfareMovesy3
import Derived.Test.YtekpnmeikibioaaHWelfareMovesy4
import Derived.Test.YtekpnmeikibioaaHWelfareMovesy9
import Derived.Test.YtekpnmeikibioaaHWelfareMovesy11
namespace Go.Proofs.Ytekpnmeikibioaa.PWelfareMoves
open Go.RowKit Go.Proofs.YtekpnmeikibioaaW.PrintWords Go.Proofs.YtekpnmeikibioaaW.PrintLast Go.Proofs.YtekpnmeikibioaaW.PrintMore
attribute [local go_sem] max2_int min2_int max_two min_two max_three min_three max_four min_four   -- for this text's walks alone
set_option linter.unusedVariables false
set_option linter.unusedSimpArgs false

/-! ### gridhalllaw3_WelfareMoves: function 6 -/
mutual
def gridhalllaw3_WelfareMoves.j0 : Nat → List (S29) → List Int → Bool → Option (Bool)
 | 0, _, _, _ => none
 | k + 1, x0, x1, x52 => if x52 = true then (some false) else ((welfare_Waste.f k x0 x1).bind fun bt272 => ((welfare_Move.f k x0 x1).bind fun bt274 => ((gridhallref3_OffersError.f k x0).bind fun t278 => (if t278 = 0 then (gridhalllaw3_WelfareMoves.j1 k x0 x1 bt272.1 bt272.2 bt274.1 bt274.2.1 bt274.2.2.1 bt274.2.2.2 t278 ((x0.length : Int) != (x1.length : Int))) else (gridhalllaw3_WelfareMoves.j1 k x0 x1 bt272.1 bt272.2 bt274.1 bt274.2.1 bt274.2.2.1 bt274.2.2.2 t278 false)))))
def gridhalllaw3_WelfareMoves.j1 : Nat → List (S29) → List Int → Int → Int → Int → Int → Int → Int → Int → Bool → Option (Bool)
 | 0, _, _, _, _, _, _, _, _, _, _ => none
 | k + 1, x0, x1, x9, x10, x11, x12, x13, x14, x15, x77 => if x77 = true then (gridhalllaw3_WelfareMoves.j2 k x0 x1 x9 x10 x11 x12 x13 x14 3) else (gridhalllaw3_WelfareMoves.j2 k x0 x1 x9 x10 x11 x12 x13 x14 x15)
def gridhalllaw3_WelfareMoves.j2 : Nat → List (S29) → List Int → Int → Int → Int → Int → Int → Int → Int → Option (Bool)
 | 0, _, _, _, _, _, _, _, _, _ => none
 | k + 1, x0, x1, x9, x10, x11, x12, x13, x14, x15 => gridhalllaw3_WelfareMoves.l0 k x0 x1 x9 x10 x11 x12 x13 x14 x15 0 0 0
def gridhalllaw3_WelfareMoves.l0 : Nat → List (S29) → List Int → Int → Int → Int → Int → Int → Int → Int → Int → Int → Int → Option (Bool)
 | 0, _, _, _, _, _, _, _, _, _, _, _, _ => none
 | k + 1, x0, x1, x9, x10, x11, x12, x13, x14, x15, x16, x17, x18 => if x18 < (x0.length : Int) then (gridhalllaw3_WelfareMoves.j4 k x0 x1 x9 x10 x11 x12 x13 x14 x15 x16 x17 x18 (x15 == 0)) else (gridhalllaw3_WelfareMoves.j4 k x0 x1 x9 x10 x11 x12 x13 x14 x15 x16 x17 x18 false)
def gridhalllaw3_WelfareMoves.j4 : Nat → List (S29) → List Int → Int → Int → Int → Int → Int → Int → Int → Int → Int → Int → Bool → Option (Bool)
 | 0, _, _, _, _, _, _, _, _, _, _, _, _, _ => none
 | k + 1, x0, x1, x9, x10, x11, x12, x13, x14, x15, x16, x17, x18, x85 => if x85 = true then (if 0 ≤ x18 then (if x18 < (x1.length : Int) then (if x18 < (x0.length : Int) then ((gridhallref3_All.f k ((rd_T29 x0 x18).f0) ((rd_T29 x0 x18).f1)).bind fun t281 => ((gridhallref3_In.f (rd x1 x18) 0 t281).bind fun t282 => (if t282 = true then ((gridhallref3_Cost.f k ((rd_T29 x0 x18).f0) ((rd_T29 x0 x18).f1) (rd x1 x18)).bind fun t286 => (gridhalllaw3_WelfareMoves.l0 k x0 x1 x9 x10 x11 x12 x13 x14 x15 (wrap64 (x16 + (rd x1 x18))) (wrap64 (x17 + t286)) (wrap64 (x18 + 1)))) else (gridhalllaw3_WelfareMoves.l0 k x0 x1 x9 x10 x11 x12 x13 x14 4 x16 x17 (wrap64 (x18 + 1)))))) else (none)) else (none)) else (none)) else (if x15 = 0 then (if x16 > 200 then (some true) else ((gridhallref3_Served.f k x0 x16).bind fun t287 => (gridhalllaw3_WelfareMoves.l1 k x0 x1 x9 x10 x11 x12 x13 x14 x17 t287 (t287.length : Int) 0))) else (if x10 = x15 then (if x14 = x15 then (if x9 = 0 then (if x11 = 0 then (if x12 = 0 then (some (x13 == 0)) else (some false)) else (some false)) else (some false)) else (some false)) else (some false)))
def gridhalllaw3_WelfareMoves.l1 : Nat → List (S29) → List Int → Int → Int → Int → Int → Int → Int → Int → List Int → Int → Int → Option (Bool)
 | 0, _, _, _, _, _, _, _, _, _, _, _, _ => none
 | k + 1, x0, x1, x9, x10, x11, x12, x13, x14, x17, x146, x147, x148 => if x148 < x147 then (if 0 ≤ x148 then (if x148 < (x146.length : Int) then (if x148 < (x0.length : Int) then ((gridhallref3_Cost.f k ((rd_T29 x0 x148).f0) ((rd_T29 x0 x148).f1) (rd x146 x148)).bind fun t292 => (gridhalllaw3_WelfareMoves.l1 k x0 x1 x9 x10 x11 x12 x13 x14 (wrap64 (x17 - t292)) x146 x147 (wrap64 (x148 + 1)))) else (none)) else (none)) else (none)) else (if x10 = 0 then (gridhalllaw3_WelfareMoves.j6 k x0 x1 x11 x12 x13 x14 (x9 != x17)) else (gridhalllaw3_WelfareMoves.j6 k x0 x1 x11 x12 x13 x14 true))
def gridhalllaw3_WelfareMoves.j6 : Nat → List (S29) → List Int → Int → Int → Int → Int → Bool → Option (Bool)
 | 0, _, _, _, _, _, _, _ => none
 | k + 1, x0, x1, x11, x12, x13, x14, x168 => if x168 = true then (some false) else (gridhalllaw3_WelfareMoves.l2 k x0 x1 x11 x12 x13 x14 0 0 0 x0 (x0.length : Int) 0)
def gridhalllaw3_WelfareMoves.l2 : Nat → List (S29) → List Int → Int → Int → Int → Int → Int → Int → Int → List (S29) → Int → Int → Option (Bool)
 | 0, _, _, _, _, _, _, _, _, _, _, _, _ => none
 | k + 1, x0, x1, x11, x12, x13, x14, x21, x22, x23, x169, x170, x171 => if x171 < x170 then (if 0 ≤ x171 then (if x171 < (x169.length : Int) then (gridhalllaw3_WelfareMoves.l3 k x0 x1 x11 x12 x13 x14 x21 x22 x23 x171 x169 x170 x171 x0 (x0.length : Int) 0 ((rd_T29 x169 x171).f0) ((rd_T29 x169 x171).f1)) else (none)) else (none)) else (if x23 = 0 then (if x14 = 8 then (if x11 = 0 then (if x12 = 0 then (some (x13 == 0)) else (some false)) else (some false)) else (some false)) else (if x14 = 0 then (if x11 = x21 then (if x12 = x22 then (some (x13 == x23)) else (some false)) else (some false)) else (some false)))
def gridhalllaw3_WelfareMoves.l3 : Nat → List (S29) → List Int → Int → Int → Int → Int → Int → Int → Int → Int → List (S29) → Int → Int → List (S29) → Int → Int → ByteArray → List (S41) → Option (Bool)
 | 0, _, _, _, _, _, _, _, _, _, _, _, _, _, _, _, _, _, _ => none
 | k + 1, x0, x1, x11, x12, x13, x14, x21, x22, x23, x24, x169, x170, x171, x176, x177, x178, x295000, x295001 => if x178 < x177 then (if 0 ≤ x178 then (if x178 < (x176.length : Int) then (if x24 = x178 then (gridhalllaw3_WelfareMoves.j9 k x0 x1 x11 x12 x13 x14 x21 x22 x23 x24 x178 x169 x170 x171 x176 x177 x178 false x295000 x295001 ((rd_T29 x176 x178).f0) ((rd_T29 x176 x178).f1)) else (if 0 ≤ x24 then (if x24 < (x1.length : Int) then (if (rd x1 x24) > 0 then (if x178 < (x1.length : Int) then ((gridhallref3_All.f k ((rd_T29 x176 x178).f0) ((rd_T29 x176 x178).f1)).bind fun t299 => (gridhalllaw3_WelfareMoves.j9 k x0 x1 x11 x12 x13 x14 x21 x22 x23 x24 x178 x169 x170 x171 x176 x177 x178 (decide ((rd x1 x178) < t299)) x295000 x295001 ((rd_T29 x176 x178).f0) ((rd_T29 x176 x178).f1))) else (none)) else (gridhalllaw3_WelfareMoves.j9 k x0 x1 x11 x12 x13 x14 x21 x22 x23 x24 x178 x169 x170 x171 x176 x177 x178 false x295000 x295001 ((rd_T29 x176 x178).f0) ((rd_T29 x176 x178).f1))) else (none)) else (none))) else (none)) else (none)) else (gridhalllaw3_WelfareMoves.l2 k x0 x1 x11 x12 x13 x14 x21 x22 x23 x169 x170 (wrap64 (x171 + 1)))
def gridhalllaw3_WelfareMoves.j9 : Nat → List (S29) → List Int → Int → Int → Int → Int → Int → Int → Int → Int → Int → List (S29) → Int → Int → List (S29) → Int → Int → Bool → ByteArray → List (S41) → ByteArray → List (S41) → Option (Bool)
 | 0, _, _, _, _, _, _, _, _, _, _, _, _, _, _, _, _, _, _, _, _, _, _ => none
 | k + 1, x0, x1, x11, x12, x13, x14, x21, x22, x23, x24, x26, x169, x170, x171, x176, x177, x178, x201, x295000, x295001, x297000, x297001 => if x201 = true then (if 0 ≤ x24 then (if x24 < (x1.length : Int) then ((gridhallref3_Unit.f k x295000 x295001 (wrap64 ((rd x1 x24) - 1))).bind fun t301 => (if 0 ≤ x26 then (if x26 < (x1.length : Int) then ((gridhallref3_Unit.f k x297000 x297001 (rd x1 x26)).bind fun t303 => (if (wrap64 (t301 - t303)) > x23 then (gridhalllaw3_WelfareMoves.l3 k x0 x1 x11 x12 x13 x14 x24 x26 (wrap64 (t301 - t303)) x24 x169 x170 x171 x176 x177 (wrap64 (x178 + 1)) x295000 x295001) else (gridhalllaw3_WelfareMoves.l3 k x0 x1 x11 x12 x13 x14 x21 x22 x23 x24 x169 x170 x171 x176 x177 (wrap64 (x178 + 1)) x295000 x295001))) else (none)) else (none))) else (none)) else (none)) else (gridhalllaw3_WelfareMoves.l3 k x0 x1 x11 x12 x13 x14 x21 x22 x23 x24 x169 x170 x171 x176 x177 (wrap64 (x178 + 1)) x295000 x295001)
end
def gridhalllaw3_WelfareMoves.f (k : Nat) (l0 : List (S29)) (l1 : List Int) : Option (Bool) := (gridhalllaw3_two.f (⟨#[65]⟩ : ByteArray)).bind fun bt254 => ((gridhalllaw3_two.f (⟨#[66]⟩ : ByteArray)).bind fun bt258 => ((welfare_Move.f k (([(⟨bt254.1, bt254.2⟩ : S29), (⟨bt258.1, bt258.2⟩ : S29)] : List (S29))) (([12, 2] : List Int))).bind fun bt268 => (if bt268.2.2.2 = 0 then (if bt268.1 = 0 then (if bt268.2.1 = 1 then (gridhalllaw3_WelfareMoves.j0 k l0 l1 (bt268.2.2.1 != 3)) else (gridhalllaw3_WelfareMoves.j0 k l0 l1 true)) else (gridhalllaw3_WelfareMoves.j0 k l0 l1 true)) else (gridhalllaw3_WelfareMoves.j0 k l0 l1 true))))
theorem gridhalllaw3_WelfareMoves.mono_l : ∀ k, (∀ y0 y1 y2, LeO (gridhalllaw3_WelfareMoves.j0 k y0 y1 y2) (gridhalllaw3_WelfareMoves.j0 (k + 1) y0 y1 y2)) ∧ (∀ y0 y1 y2 y3 y4 y5 y6 y7 y8 y9, LeO (gridhalllaw3_WelfareMoves.j1 k y0 y1 y2 y3 y4 y5 y6 y7 y8 y9) (gridhalllaw3_WelfareMoves.j1 (k + 1) y0 y1 y2 y3 y4 y5 y6 y7 y8 y9)) ∧ (∀ y0 y1 y2 y3 y4 y5 y6 y7 y8, LeO (gridhalllaw3_WelfareMoves.j2 k y0 y1 y2 y3 y4 y5 y6 y7 y8) (gridhalllaw3_WelfareMoves.j2 (k + 1) y0 y1 y2 y3 y4 y5 y6 y7 y8)) ∧ (∀ y0 y1 y2 y3 y4 y5 y6 y7 y8 y9 y10 y11, LeO (gridhalllaw3_WelfareMoves.l0 k y0 y1 y2 y3 y4 y5 y6 y7 y8 y9 y10 y11) (gridhalllaw3_WelfareMoves.l0 (k + 1) y0 y1 y2 y3 y4 y5 y6 y7 y8 y9 y10 y11)) ∧ (∀ y0 y1 y2 y3 y4 y5 y6 y7 y8 y9 y10 y11 y12, LeO (gridhalllaw3_WelfareMoves.j4 k y0 y1 y2 y3 y4 y5 y6 y7 y8 y9 y10 y11 y12) (gridhalllaw3_WelfareMoves.j4 (k + 1) y0 y1 y2 y3 y4 y5 y6 y7 y8 y9 y10 y11 y12)) ∧ (∀ y0 y1 y2 y3 y4 y5 y6 y7 y8 y9 y10 y11, LeO (gridhalllaw3_WelfareMoves.l1 k y0 y1 y2 y3 y4 y5 y6 y7 y8 y9 y10 y11) (gridhalllaw3_WelfareMoves.l1 (k + 1) y0 y1 y2 y3 y4 y5 y6 y7 y8 y9 y10 y11)) ∧ (∀ y0 y1 y2 y3 y4 y5 y6, LeO (gridhalllaw3_WelfareMoves.j6 k y0 y1 y2 y3 y4 y5 y6) (gridhalllaw3_WelfareMoves.j6 (k + 1) y0 y1 y2 y3 y4 y5 y6)) ∧ (∀ y0 y1 y2 y3 y4 y5 y6 y7 y8 y9 y10 y11, LeO (gridhalllaw3_WelfareMoves.l2 k y0 y1 y2 y3 y4 y5 y6 y7 y8 y9 y10 y11) (gridhalllaw3_WelfareMoves.l2 (k + 1) y0 y1 y2 y3 y4 y5 y6 y7 y8 y9 y10 y11)) ∧ (∀ y0 y1 y2 y3 y4 y5 y6 y7 y8 y9 y10 y11 y12 y13 y14 y15 y16 y17, LeO (gridhalllaw3_WelfareMoves.l3 k y0 y1 y2 y3 y4 y5 y6 y7 y8 y9 y10 y11 y12 y13 y14 y15 y16 y17) (gridhalllaw3_WelfareMoves.l3 (k + 1) y0 y1 y2 y3 y4 y5 y6 y7 y8 y9 y10 y11 y12 y13 y14 y15 y16 y17)) ∧ (∀ y0 y1 y2 y3 y4 y5 y6 y7 y8 y9 y10 y11 y12 y13 y14 y15 y16 y17 y18 y19 y20 y21, LeO (gridhalllaw3_WelfareMoves.j9 k y0 y1 y2 y3 y4 y5 y6 y7 y8 y9 y10 y11 y12 y13 y14 y15 y16 y17 y18 y19 y20 y21) (gridhalllaw3_WelfareMoves.j9 (k + 1) y0 y1 y2 y3 y4 y5 y6 y7 y8 y9 y10 y11 y12 y13 y14 y15 y16 y17 y18 y19 y20 y21))
 | 0 => ⟨fun _ _ _ r h => by simp [gridhalllaw3_WelfareMoves.j0] at h, fun _ _ _ _ _ _ _ _ _ _ r h => by simp [gridhalllaw3_WelfareMoves.j1] at h, fun _ _ _ _ _ _ _ _ _ r h => by simp [gridhalllaw3_WelfareMoves.j2] at h, fun _ _ _ _ _ _ _ _ _ _ _ _ r h => by simp [gridhalllaw3_WelfareMoves.l0] at h, fun _ _ _ _ _ _ _ _ _ _ _ _ _ r h => by simp [gridhalllaw3_WelfareMoves.j4] at h, fun _ _ _ _ _ _ _ _ _ _ _ _ r h => by simp [gridhalllaw3_WelfareMoves.l1] at h, fun _ _ _ _ _ _ _ r h => by simp [gridhalllaw3_WelfareMoves.j6] at h, fun _ _ _ _ _ _ _ _ _ _ _ _ r h => by simp [gridhalllaw3_WelfareMoves.l2] at h, fun _ _ _ _ _ _ _ _ _ _ _ _ _ _ _ _ _ _ r h => by simp [gridhalllaw3_WelfareMoves.l3] at h, fun _ _ _ _ _ _ _ _ _ _ _ _ _ _ _ _ _ _ _ _ _ _ r h => by simp [gridhalllaw3_WelfareMoves.j9] at h⟩
 | k + 1 => by
  obtain ⟨ih0, ih1, ih2, ih3, ih4, ih5, ih6, ih7, ih8, ih9⟩ := gridhalllaw3_WelfareMoves.mono_l k
  refine ⟨?_, ?_, ?_, ?_, ?_, ?_, ?_, ?_, ?_, ?_⟩
  ·intro y0 y1 y2
   unfold gridhalllaw3_WelfareMoves.j0
   repeat' first
   | (with_reducible exact ih0 _ _ _)
   | (with_reducible exact ih1 _ _ _ _ _ _ _ _ _ _)
   | (with_reducible exact ih2 _ _ _ _ _ _ _ _ _)
   | (with_reducible exact ih3 _ _ _ _ _ _ _ _ _ _ _ _)
   | (with_reducible exact ih4 _ _ _ _ _ _ _ _ _ _ _ _ _)
   | (with_reducible exact ih5 _ _ _ _ _ _ _ _ _ _ _ _)
   | (with_reducible exact ih6 _ _ _ _ _ _ _)
   | (with_reducible exact ih7 _ _ _ _ _ _ _ _ _ _ _ _)
   | (with_reducible exact ih8 _ _ _ _ _ _ _ _ _ _ _ _ _ _ _ _ _ _)
   | (with_reducible exact ih9 _ _ _ _ _ _ _ _ _ _ _ _ _ _ _ _ _ _ _ _ _ _)
   | (with_reducible exact gridhallref3_All.mono _ _ _)
   | (with_reducible exact gridhallref3_Cost.mono _ _ _ _)
   | (with_reducible exact gridhallref3_OffersError.mono _ _)
   | (with_reducible exact gridhallref3_Served.mono _ _ _)
   | (with_reducible exact gridhallref3_Unit.mono _ _ _ _)
   | (with_reducible exact welfare_Move.mono _ _ _)
   | (with_reducible exact welfare_Waste.mono _ _ _)
   | (with_reducible exact LeO.refl _)
   | (with_reducible exact LeO.none _)
   | (with_reducible refine LeO.ite ?_ ?_)
   | (with_reducible refine LeO.bind ?_ (fun _ => ?_))
   | exact ih0 _ _ _
   | exact ih1 _ _ _ _ _ _ _ _ _ _
   | exact ih2 _ _ _ _ _ _ _ _ _
   | exact ih3 _ _ _ _ _ _ _ _ _ _ _ _
   | exact ih4 _ _ _ _ _ _ _ _ _ _ _ _ _
   | exact ih5 _ _ _ _ _ _ _ _ _ _ _ _
   | exact ih6 _ _ _ _ _ _ _
   | exact ih7 _ _ _ _ _ _ _ _ _ _ _ _
   | exact ih8 _ _ _ _ _ _ _ _ _ _ _ _ _ _ _ _ _ _
   | exact ih9 _ _ _ _ _ _ _ _ _ _ _ _ _ _ _ _ _ _ _ _ _ _
   | exact gridhallref3_All.mono _ _ _
   | exact gridhallref3_Cost.mono _ _ _ _
   | exact gridhallref3_OffersError.mono _ _
   | exact gridhallref3_Served.mono _ _ _
   | exact gridhallref3_Unit.mono _ _ _ _
   | exact welfare_Move.mono _ _ _
   | exact welfare_Waste.mono _ _ _
   | exact LeO.none _
   | refine LeO.ite ?_ ?_
   | refine LeO.bind ?_ (fun _ => ?_)
  ·intro y0 y1 y2 y3 y4 y5 y6 y7 y8 y9
   unfold gridhalllaw3_WelfareMoves.j1
   repeat' first
   | (with_reducible exact ih0 _ _ _)
   | (with_reducible exact ih1 _ _ _ _ _ _ _ _ _ _)
   | (with_reducible exact ih2 _ _ _ _ _ _ _ _ _)
   | (with_reducible exact ih3 _ _ _ _ _ _ _ _ _ _ _ _)
   | (with_reducible exact ih4 _ _ _ _ _ _ _ _ _ _ _ _ _)
   | (with_reducible exact ih5 _ _ _ _ _ _ _ _ _ _ _ _)
   | (with_reducible exact ih6 _ _ _ _ _ _ _)
   | (with_reducible exact ih7 _ _ _ _ _ _ _ _ _ _ _ _)
   | (with_reducible exact ih8 _ _ _ _ _ _ _ _ _ _ _ _ _ _ _ _ _ _)
   | (with_reducible exact ih9 _ _ _ _ _ _ _ _ _ _ _ _ _ _ _ _ _ _ _ _ _ _)
   | (with_reducible exact gridhallref3_All.mono _ _ _)
   | (with_reducible exact gridhallref3_Cost.mono _ _ _ _)
   | (with_reducible exact gridhallref3_OffersError.mono _ _)
   | (with_reducible exact gridhallref3_Served.mono _ _ _)
   | (with_reducible exact gridhallref3_Unit.mono _ _ _ _)
   | (with_reducible exact welfare_Move.mono _ _ _)
   | (with_reducible exact welfare_Waste.mono _ _ _)
   | (with_reducible exact LeO.refl _)
   | (with_reducible exact LeO.none _)
   | (with_reducible refine LeO.ite ?_ ?_)
   | (with_reducible refine LeO.bind ?_ (fun _ => ?_))
   | exact ih0 _ _ _
   | exact ih1 _ _ _ _ _ _ _ _ _ _
   | exact ih2 _ _ _ _ _ _ _ _ _
   | exact ih3 _ _ _ _ _ _ _ _ _ _ _ _
   | exact ih4 _ _ _ _ _ _ _ _ _ _ _ _ _
   | exact ih5 _ _ _ _ _ _ _ _ _ _ _ _
   | exact ih6 _ _ _ _ _ _ _
   | exact ih7 _ _ _ _ _ _ _ _ _ _ _ _
   | exact ih8 _ _ _ _ _ _ _ _ _ _ _ _ _ _ _ _ _ _
   | exact ih9 _ _ _ _ _ _ _ _ _ _ _ _ _ _ _ _ _ _ _ _ _ _
   | exact gridhallref3_All.mono _ _ _
   | exact gridhallref3_Cost.mono _ _ _ _
   | exact gridhallref3_OffersError.mono _ _
   | exact gridhallref3_Served.mono _ _ _
   | exact gridhallref3_Unit.mono _ _ _ _
   | exact welfare_Move.mono _ _ _
   | exact welfare_Waste.mono _ _ _
   | exact LeO.none _
   | refine LeO.ite ?_ ?_
   | refine LeO.bind ?_ (fun _ => ?_)
  ·intro y0 y1 y2 y3 y4 y5 y6 y7 y8
   unfold gridhalllaw3_WelfareMoves.j2
   repeat' first
   | (with_reducible exact ih0 _ _ _)
   | (with_reducible exact ih1 _ _ _ _ _ _ _ _ _ _)
   | (with_reducible exact ih2 _ _ _ _ _ _ _ _ _)
   | (with_reducible exact ih3 _ _ _ _ _ _ _ _ _ _ _ _)
   | (with_reducible exact ih4 _ _ _ _ _ _ _ _ _ _ _ _ _)
   | (with_reducible exact ih5 _ _ _ _ _ _ _ _ _ _ _ _)
   | (with_reducible exact ih6 _ _ _ _ _ _ _)
   | (with_reducible exact ih7 _ _ _ _ _ _ _ _ _ _ _ _)
   | (with_reducible exact ih8 _ _ _ _ _ _ _ _ _ _ _ _ _ _ _ _ _ _)
   | (with_reducible exact ih9 _ _ _ _ _ _ _ _ _ _ _ _ _ _ _ _ _ _ _ _ _ _)
   | (with_reducible exact gridhallref3_All.mono _ _ _)
   | (with_reducible exact gridhallref3_Cost.mono _ _ _ _)
   | (with_reducible exact gridhallref3_OffersError.mono _ _)
   | (with_reducible exact gridhallref3_Served.mono _ _ _)
   | (with_reducible exact gridhallref3_Unit.mono _ _ _ _)
   | (with_reducible exact welfare_Move.mono _ _ _)
   | (with_reducible exact welfare_Waste.mono _ _ _)
   | (with_reducible exact LeO.refl _)
   | (with_reducible exact LeO.none _)
   | (with_reducible refine LeO.ite ?_ ?_)
   | (with_reducible refine LeO.bind ?_ (fun _ => ?_))
   | exact ih0 _ _ _
   | exact ih1 _ _ _ _ _ _ _ _ _ _
   | exact ih2 _ _ _ _ _ _ _ _ _
   | exact ih3 _ _ _ _ _ _ _ _ _ _ _ _
   | exact ih4 _ _ _ _ _ _ _ _ _ _ _ _ _
   | exact ih5 _ _ _ _ _ _ _ _ _ _ _ _
   | exact ih6 _ _ _ _ _ _ _
   | exact ih7 _ _ _ _ _ _ _ _ _ _ _ _
   | exact ih8 _ _ _ _ _ _ _ _ _ _ _ _ _ _ _ _ _ _
   | exact ih9 _ _ _ _ _ _ _ _ _ _ _ _ _ _ _ _ _ _ _ _ _ _
   | exact gridhallref3_All.mono _ _ _
   | exact gridhallref3_Cost.mono _ _ _ _
   | exact gridhallref3_OffersError.mono _ _
   | exact gridhallref3_Served.mono _ _ _
   | exact gridhallref3_Unit.mono _ _ _ _
   | exact welfare_Move.mono _ _ _
   | exact welfare_Waste.mono _ _ _
   | exact LeO.none _
   | refine LeO.ite ?_ ?_
   | refine LeO.bind ?_ (fun _ => ?_)
  ·intro y0 y1 y2 y3 y4 y5 y6 y7 y8 y9 y10 y11
   unfold gridhalllaw3_WelfareMoves.l0
   repeat' first
   | (with_reducible exact ih0 _ _ _)
   | (with_reducible exact ih1 _ _ _ _ _ _ _ _ _ _)
   | (with_reducible exact ih2 _ _ _ _ _ _ _ _ _)
   | (with_reducible exact ih3 _ _ _ _ _ _ _ _ _ _ _ _)
   | (with_reducible exact ih4 _ _ _ _ _ _ _ _ _ _ _ _ _)
   | (with_reducible exact ih5 _ _ _ _ _ _ _ _ _ _ _ _)
   | (with_reducible exact ih6 _ _ _ _ _ _ _)
   | (with_reducible exact ih7 _ _ _ _ _ _ _ _ _ _ _ _)
   | (with_reducible exact ih8 _ _ _ _ _ _ _ _ _ _ _ _ _ _ _ _ _ _)
   | (with_reducible exact ih9 _ _ _ _ _ _ _ _ _ _ _ _ _ _ _ _ _ _ _ _ _ _)
   | (with_reducible exact gridhallref3_All.mono _ _ _)
   | (with_reducible exact gridhallref3_Cost.mono _ _ _ _)
   | (with_reducible exact gridhallref3_OffersError.mono _ _)
   | (with_reducible exact gridhallref3_Served.mono _ _ _)
   | (with_reducible exact gridhallref3_Unit.mono _ _ _ _)
   | (with_reducible exact welfare_Move.mono _ _ _)
   | (with_reducible exact welfare_Waste.mono _ _ _)
   | (with_reducible exact LeO.refl _)
   | (with_reducible exact LeO.none _)
   | (with_reducible refine LeO.ite ?_ ?_)
   | (with_reducible refine LeO.bind ?_ (fun _ => ?_))
   | exact ih0 _ _ _
   | exact ih1 _ _ _ _ _ _ _ _ _ _
   | exact ih2 _ _ _ _ _ _ _ _ _
   | exact ih3 _ _ _ _ _ _ _ _ _ _ _ _
   | exact ih4 _ _ _ _ _ _ _ _ _ _ _ _ _
   | exact ih5 _ _ _ _ _ _ _ _ _ _ _ _
   | exact ih6 _ _ _ _ _ _ _
   | exact ih7 _ _ _ _ _ _ _ _ _ _ _ _
   | exact ih8 _ _ _ _ _ _ _ _ _ _ _ _ _ _ _ _ _ _
   | exact ih9 _ _ _ _ _ _ _ _ _ _ _ _ _ _ _ _ _ _ _ _ _ _
   | exact gridhallref3_All.mono _ _ _
   | exact gridhallref3_Cost.mono _ _ _ _
   | exact gridhallref3_OffersError.mono _ _
   | exact gridhallref3_Served.mono _ _ _
   | exact gridhallref3_Unit.mono _ _ _ _
   | exact welfare_Move.mono _ _ _
   | exact welfare_Waste.mono _ _ _
   | exact LeO.none _
   | refine LeO.ite ?_ ?_
   | refine LeO.bind ?_ (fun _ => ?_)
  ·intro y0 y1 y2 y3 y4 y5 y6 y7 y8 y9 y10 y11 y12
   unfold gridhalllaw3_WelfareMoves.j4
   repeat' first
   | (with_reducible exact ih0 _ _ _)
   | (with_reducible exact ih1 _ _ _ _ _ _ _ _ _ _)
   | (with_reducible exact ih2 _ _ _ _ _ _ _ _ _)
   | (with_reducible exact ih3 _ _ _ _ _ _ _ _ _ _ _ _)
   | (with_reducible exact ih4 _ _ _ _ _ _ _ _ _ _ _ _ _)
   | (with_reducible exact ih5 _ _ _ _ _ _ _ _ _ _ _ _)
   | (with_reducible exact ih6 _ _ _ _ _ _ _)
   | (with_reducible exact ih7 _ _ _ _ _ _ _ _ _ _ _ _)
   | (with_reducible exact ih8 _ _ _ _ _ _ _ _ _ _ _ _ _ _ _ _ _ _)
   | (with_reducible exact ih9 _ _ _ _ _ _ _ _ _ _ _ _ _ _ _ _ _ _ _ _ _ _)
   | (with_reducible exact gridhallref3_All.mono _ _ _)
   | (with_reducible exact gridhallref3_Cost.mono _ _ _ _)
   | (with_reducible exact gridhallref3_OffersError.mono _ _)
   | (with_reducible exact gridhallref3_Served.mono _ _ _)
   | (with_reducible exact gridhallref3_Unit.mono _ _ _ _)
   | (with_reducible exact welfare_Move.mono _ _ _)
   | (with_reducible exact welfare_Waste.mono _ _ _)
   | (with_reducible exact LeO.refl _)
   | (with_reducible exact LeO.none _)
   | (with_reducible refine LeO.ite ?_ ?_)
   | (with_reducible refine LeO.bind ?_ (fun _ => ?_))
   | exact ih0 _ _ _
   | exact ih1 _ _ _ _ _ _ _ _ _ _
   | exact ih2 _ _ _ _ _ _ _ _ _
   | exact ih3 _ _ _ _ _ _ _ _ _ _ _ _
   | exact ih4 _ _ _ _ _ _ _ _ _ _ _ _ _
   | exact ih5 _ _ _ _ _ _ _ _ _ _ _ _
   | exact ih6 _ _ _ _ _ _ _
   | exact ih7 _ _ _ _ _ _ _ _ _ _ _ _
   | exact ih8 _ _ _ _ _ _ _ _ _ _ _ _ _ _ _ _ _ _
   | exact ih9 _ _ _ _ _ _ _ _ _ _ _ _ _ _ _ _ _ _ _ _ _ _
   | exact gridhallref3_All.mono _ _ _
   | exact gridhallref3_Cost.mono _ _ _ _
   | exact gridhallref3_OffersError.mono _ _
   | exact gridhallref3_Served.mono _ _ _
   | exact gridhallref3_Unit.mono _ _ _ _
   | exact welfare_Move.mono _ _ _
   | exact welfare_Waste.mono _ _ _
   | exact LeO.none _
   | refine LeO.ite ?_ ?_
   | refine LeO.bind ?_ (fun _ => ?_)
  ·intro y0 y1 y2 y3 y4 y5 y6 y7 y8 y9 y10 y11
   unfold gridhalllaw3_WelfareMoves.l1
   repeat' first
   | (with_reducible exact ih0 _ _ _)
   | (with_reducible exact ih1 _ _ _ _ _ _ _ _ _ _)
   | (with_reducible exact ih2 _ _ _ _ _ _ _ _ _)
   | (with_reducible exact ih3 _ _ _ _ _ _ _ _ _ _ _ _)
   | (with_reducible exact ih4 _ _ _ _ _ _ _ _ _ _ _ _ _)
   | (with_reducible exact ih5 _ _ _ _ _ _ _ _ _ _ _ _)
   | (with_reducible exact ih6 _ _ _ _ _ _ _)
   | (with_reducible exact ih7 _ _ _ _ _ _ _ _ _ _ _ _)
   | (with_reducible exact ih8 _ _ _ _ _ _ _ _ _ _ _ _ _ _ _ _ _ _)
   | (with_reducible exact ih9 _ _ _ _ _ _ _ _ _ _ _ _ _ _ _ _ _ _ _ _ _ _)
   | (with_reducible exact gridhallref3_All.mono _ _ _)
   | (with_reducible exact gridhallref3_Cost.mono _ _ _ _)
   | (with_reducible exact gridhallref3_OffersError.mono _ _)
   | (with_reducible exact gridhallref3_Served.mono _ _ _)
   | (with_reducible exact gridhallref3_Unit.mono _ _ _ _)
   | (with_reducible exact welfare_Move.mono _ _ _)
   | (with_reducible exact welfare_Waste.mono _ _ _)
   | (with_reducible exact LeO.refl _)
   | (with_reducible exact LeO.none _)
   | (with_reducible refine LeO.ite ?_ ?_)
   | (with_reducible refine LeO.bind ?_ (fun _ => ?_))
   | exact ih0 _ _ _
   | exact ih1 _ _ _ _ _ _ _ _ _ _
   | exact ih2 _ _ _ _ _ _ _ _ _
   | exact ih3 _ _ _ _ _ _ _ _ _ _ _ _
   | exact ih4 _ _ _ _ _ _ _ _ _ _ _ _ _
   | exact ih5 _ _ _ _ _ _ _ _ _ _ _ _
   | exact ih6 _ _ _ _ _ _ _
   | exact ih7 _ _ _ _ _ _ _ _ _ _ _ _
   | exact ih8 _ _ _ _ _ _ _ _ _ _ _ _ _ _ _ _ _ _
   | exact ih9 _ _ _ _ _ _ _ _ _ _ _ _ _ _ _ _ _ _ _ _ _ _
   | exact gridhallref3_All.mono _ _ _
   | exact gridhallref3_Cost.mono _ _ _ _
   | exact gridhallref3_OffersError.mono _ _
   | exact gridhallref3_Served.mono _ _ _
   | exact gridhallref3_Unit.mono _ _ _ _
   | exact welfare_Move.mono _ _ _
   | exact welfare_Waste.mono _ _ _
   | exact LeO.none _
   | refine LeO.ite ?_ ?_
   | refine LeO.bind ?_ (fun _ => ?_)
  ·intro y0 y1 y2 y3 y4 y5 y6
   unfold gridhalllaw3_WelfareMoves.j6
   repeat' first
   | (with_reducible exact ih0 _ _ _)
   | (with_reducible exact ih1 _ _ _ _ _ _ _ _ _ _)
   | (with_reducible exact ih2 _ _ _ _ _ _ _ _ _)
   | (with_reducible exact ih3 _ _ _ _ _ _ _ _ _ _ _ _)
   | (with_reducible exact ih4 _ _ _ _ _ _ _ _ _ _ _ _ _)
   | (with_reducible exact ih5 _ _ _ _ _ _ _ _ _ _ _ _)
   | (with_reducible exact ih6 _ _ _ _ _ _ _)
   | (with_reducible exact ih7 _ _ _ _ _ _ _ _ _ _ _ _)
   | (with_reducible exact ih8 _ _ _ _ _ _ _ _ _ _ _ _ _ _ _ _ _ _)
   | (with_reducible exact ih9 _ _ _ _ _ _ _ _ _ _ _ _ _ _ _ _ _ _ _ _ _ _)
   | (with_reducible exact gridhallref3_All.mono _ _ _)
   | (with_reducible exact gridhallref3_Cost.mono _ _ _ _)
   | (with_reducible exact gridhallref3_OffersError.mono _ _)
   | (with_reducible exact gridhallref3_Served.mono _ _ _)
   | (with_reducible exact gridhallref3_Unit.mono _ _ _ _)
   | (with_reducible exact welfare_Move.mono _ _ _)
   | (with_reducible exact welfare_Waste.mono _ _ _)
   | (with_reducible exact LeO.refl _)
   | (with_reducible exact LeO.none _)
   | (with_reducible refine LeO.ite ?_ ?_)
   | (with_reducible refine LeO.bind ?_ (fun _ => ?_))
   | exact ih0 _ _ _
   | exact ih1 _ _ _ _ _ _ _ _ _ _
   | exact ih2 _ _ _ _ _ _ _ _ _
   | exact ih3 _ _ _ _ _ _ _ _ _ _ _ _
   | exact ih4 _ _ _ _ _ _ _ _ _ _ _ _ _
   | exact ih5 _ _ _ _ _ _ _ _ _ _ _ _
   | exact ih6 _ _ _ _ _ _ _
   | exact ih7 _ _ _ _ _ _ _ _ _ _ _ _
   | exact ih8 _ _ _ _ _ _ _ _ _ _ _ _ _ _ _ _ _ _
   | exact ih9 _ _ _ _ _ _ _ _ _ _ _ _ _ _ _ _ _ _ _ _ _ _
   | exact gridhallref3_All.mono _ _ _
   | exact gridhallref3_Cost.mono _ _ _ _
   | exact gridhallref3_OffersError.mono _ _
   | exact gridhallref3_Served.mono _ _ _
   | exact gridhallref3_Unit.mono _ _ _ _
   | exact welfare_Move.mono _ _ _
   | exact welfare_Waste.mono _ _ _
   | exact LeO.none _
   | refine LeO.ite ?_ ?_
   | refine LeO.bind ?_ (fun _ => ?_)
  ·intro y0 y1 y2 y3 y4 y5 y6 y7 y8 y9 y10 y11
   unfold gridhalllaw3_WelfareMoves.l2
   repeat' first
   | (with_reducible exact ih0 _ _ _)
   | (with_reducible exact ih1 _ _ _ _ _ _ _ _ _ _)
   | (with_reducible exact ih2 _ _ _ _ _ _ _ _ _)
   | (with_reducible exact ih3 _ _ _ _ _ _ _ _ _ _ _ _)
   | (with_reducible exact ih4 _ _ _ _ _ _ _ _ _ _ _ _ _)
   | (with_reducible exact ih5 _ _ _ _ _ _ _ _ _ _ _ _)
   | (with_reducible exact ih6 _ _ _ _ _ _ _)
   | (with_reducible exact ih7 _ _ _ _ _ _ _ _ _ _ _ _)
   | (with_reducible exact ih8 _ _ _ _ _ _ _ _ _ _ _ _ _ _ _ _ _ _)
   | (with_reducible exact ih9 _ _ _ _ _ _ _ _ _ _ _ _ _ _ _ _ _ _ _ _ _ _)
   | (with_reducible exact gridhallref3_All.mono _ _ _)
   | (with_reducible exact gridhallref3_Cost.mono _ _ _ _)
   | (with_reducible exact gridhallref3_OffersError.mono _ _)
   | (with_reducible exact gridhallref3_Served.mono _ _ _)
   | (with_reducible exact gridhallref3_Unit.mono _ _ _ _)
   | (with_reducible exact welfare_Move.mono _ _ _)
   | (with_reducible exact welfare_Waste.mono _ _ _)
   | (with_reducible exact LeO.refl _)
   | (with_reducible exact LeO.none _)
   | (with_reducible refine LeO.ite ?_ ?_)
   | (with_reducible refine LeO.bind ?_ (fun _ => ?_))
   | exact ih0 _ _ _
   | exact ih1 _ _ _ _ _ _ _ _ _ _
   | exact ih2 _ _ _ _ _ _ _ _ _
   | exact ih3 _ _ _ _ _ _ _ _ _ _ _ _
   | exact ih4 _ _ _ _ _ _ _ _ _ _ _ _ _
   | exact ih5 _ _ _ _ _ _ _ _ _ _ _ _
   | exact ih6 _ _ _ _ _ _ _
   | exact ih7 _ _ _ _ _ _ _ _ _ _ _ _
   | exact ih8 _ _ _ _ _ _ _ _ _ _ _ _ _ _ _ _ _ _
   | exact ih9 _ _ _ _ _ _ _ _ _ _ _ _ _ _ _ _ _ _ _ _ _ _
   | exact gridhallref3_All.mono _ _ _
   | exact gridhallref3_Cost.mono _ _ _ _
   | exact gridhallref3_OffersError.mono _ _
   | exact gridhallref3_Served.mono _ _ _
   | exact gridhallref3_Unit.mono _ _ _ _
   | exact welfare_Move.mono _ _ _
   | exact welfare_Waste.mono _ _ _
   | exact LeO.none _
   | refine LeO.ite ?_ ?_
   | refine LeO.bind ?_ (fun _ => ?_)
  ·intro y0 y1 y2 y3 y4 y5 y6 y7 y8 y9 y10 y11 y12 y13 y14 y15 y16 y17
   unfold gridhalllaw3_WelfareMoves.l3
   repeat' first
   | (with_reducible exact ih0 _ _ _)
   | (with_reducible exact ih1 _ _ _ _ _ _ _ _ _ _)
   | (with_reducible exact ih2 _ _ _ _ _ _ _ _ _)
   | (with_reducible exact ih3 _ _ _ _ _ _ _ _ _ _ _ _)
   | (with_reducible exact ih4 _ _ _ _ _ _ _ _ _ _ _ _ _)
   | (with_reducible exact ih5 _ _ _ _ _ _ _ _ _ _ _ _)
   | (with_reducible exact ih6 _ _ _ _ _ _ _)
   | (with_reducible exact ih7 _ _ _ _ _ _ _ _ _ _ _ _)
   | (with_reducible exact ih8 _ _ _ _ _ _ _ _ _ _ _ _ _ _ _ _ _ _)
   | (with_reducible exact ih9 _ _ _ _ _ _ _ _ _ _ _ _ _ _ _ _ _ _ _ _ _ _)
   | (with_reducible exact gridhallref3_All.mono _ _ _)
   | (with_reducible exact gridhallref3_Cost.mono _ _ _ _)
   | (with_reducible exact gridhallref3_OffersError.mono _ _)
   | (with_reducible exact gridhallref3_Served.mono _ _ _)
   | (with_reducible exact gridhallref3_Unit.mono _ _ _ _)
   | (with_reducible exact welfare_Move.mono _ _ _)
   | (with_reducible exact welfare_Waste.mono _ _ _)
   | (with_reducible exact LeO.refl _)
   | (with_reducible exact LeO.none _)
   | (with_reducible refine LeO.ite ?_ ?_)
   | (with_reducible refine LeO.bind ?_ (fun _ => ?_))
   | exact ih0 _ _ _
   | exact ih1 _ _ _ _ _ _ _ _ _ _
   | exact ih2 _ _ _ _ _ _ _ _ _
   | exact ih3 _ _ _ _ _ _ _ _ _ _ _ _
   | exact ih4 _ _ _ _ _ _ _ _ _ _ _ _ _
   | exact ih5 _ _ _ _ _ _ _ _ _ _ _ _
   | exact ih6 _ _ _ _ _ _ _
   | exact ih7 _ _ _ _ _ _ _ _ _ _ _ _
   | exact ih8 _ _ _ _ _ _ _ _ _ _ _ _ _ _ _ _ _ _
   | exact ih9 _ _ _ _ _ _ _ _ _ _ _ _ _ _ _ _ _ _ _ _ _ _
   | exact gridhallref3_All.mono _ _ _
   | exact gridhallref3_Cost.mono _ _ _ _
   | exact gridhallref3_OffersError.mono _ _
   | exact gridhallref3_Served.mono _ _ _
   | exact gridhallref3_Unit.mono _ _ _ _
   | exact welfare_Move.mono _ _ _
   | exact welfare_Waste.mono _ _ _
   | exact LeO.none _
   | refine LeO.ite ?_ ?_
   | refine LeO.bind ?_ (fun _ => ?_)
  ·intro y0 y1 y2 y3 y4 y5 y6 y7 y8 y9 y10 y11 y12 y13 y14 y15 y16 y17 y18 y19 y20 y21
   unfold gridhalllaw3_WelfareMoves.j9
   repeat' first
   | (with_reducible exact ih0 _ _ _)
   | (with_reducible exact ih1 _ _ _ _ _ _ _ _ _ _)
   | (with_reducible exact ih2 _ _ _ _ _ _ _ _ _)
   | (with_reducible exact ih3 _ _ _ _ _ _ _ _ _ _ _ _)
   | (with_reducible exact ih4 _ _ _ _ _ _ _ _ _ _ _ _ _)
   | (with_reducible exact ih5 _ _ _ _ _ _ _ _ _ _ _ _)
   | (with_reducible exact ih6 _ _ _ _ _ _ _)
   | (with_reducible exact ih7 _ _ _ _ _ _ _ _ _ _ _ _)
   | (with_reducible exact ih8 _ _ _ _ _ _ _ _ _ _ _ _ _ _ _ _ _ _)
   | (with_reducible exact ih9 _ _ _ _ _ _ _ _ _ _ _ _ _ _ _ _ _ _ _ _ _ _)
   | (with_reducible exact gridhallref3_All.mono _ _ _)
   | (with_reducible exact gridhallref3_Cost.mono _ _ _ _)
   | (with_reducible exact gridhallref3_OffersError.mono _ _)
   | (with_reducible exact gridhallref3_Served.mono _ _ _)
   | (with_reducible exact gridhallref3_Unit.mono _ _ _ _)
   | (with_reducible exact welfare_Move.mono _ _ _)
   | (with_reducible exact welfare_Waste.mono _ _ _)
   | (with_reducible exact LeO.refl _)
   | (with_reducible exact LeO.none _)
   | (with_reducible refine LeO.ite ?_ ?_)
   | (with_reducible refine LeO.bind ?_ (fun _ => ?_))
   | exact ih0 _ _ _
   | exact ih1 _ _ _ _ _ _ _ _ _ _
   | exact ih2 _ _ _ _ _ _ _ _ _
   | exact ih3 _ _ _ _ _ _ _ _ _ _ _ _
   | exact ih4 _ _ _ _ _ _ _ _ _ _ _ _ _
   | exact ih5 _ _ _ _ _ _ _ _ _ _ _ _
   | exact ih6 _ _ _ _ _ _ _
   | exact ih7 _ _ _ _ _ _ _ _ _ _ _ _
   | exact ih8 _ _ _ _ _ _ _ _ _ _ _ _ _ _ _ _ _ _
   | exact ih9 _ _ _ _ _ _ _ _ _ _ _ _ _ _ _ _ _ _ _ _ _ _
   | exact gridhallref3_All.mono _ _ _
   | exact gridhallref3_Cost.mono _ _ _ _
   | exact gridhallref3_OffersError.mono _ _
   | exact gridhallref3_Served.mono _ _ _
   | exact gridhallref3_Unit.mono _ _ _ _
   | exact welfare_Move.mono _ _ _
   | exact welfare_Waste.mono _ _ _
   | exact LeO.none _
   | refine LeO.ite ?_ ?_
   | refine LeO.bind ?_ (fun _ => ?_)
theorem gridhalllaw3_WelfareMoves.mono : ∀ a0 a1 k, LeO (gridhalllaw3_WelfareMoves.f k a0 a1) (gridhalllaw3_WelfareMoves.f (k + 1) a0 a1) := by
 intro a0 a1 k
 obtain ⟨ih0, ih1, ih2, ih3, ih4, ih5, ih6, ih7, ih8, ih9⟩ := gridhalllaw3_WelfareMoves.mono_l k
 unfold gridhalllaw3_WelfareMoves.f
 repeat' first
   | (with_reducible exact ih0 _ _ _)
   | (with_reducible exact ih1 _ _ _ _ _ _ _ _ _ _)
   | (with_reducible exact ih2 _ _ _ _ _ _ _ _ _)
   | (with_reducible exact ih3 _ _ _ _ _ _ _ _ _ _ _ _)
   | (with_reducible exact ih4 _ _ _ _ _ _ _ _ _ _ _ _ _)
   | (with_reducible exact ih5 _ _ _ _ _ _ _ _ _ _ _ _)
   | (with_reducible exact ih6 _ _ _ _ _ _ _)
   | (with_reducible exact ih7 _ _ _ _ _ _ _ _ _ _ _ _)
   | (with_reducible exact ih8 _ _ _ _ _ _ _ _ _ _ _ _ _ _ _ _ _ _)
   | (with_reducible exact ih9 _ _ _ _ _ _ _ _ _ _ _ _ _ _ _ _ _ _ _ _ _ _)
   | (with_reducible exact gridhallref3_All.mono _ _ _)
   | (with_reducible exact gridhallref3_Cost.mono _ _ _ _)
   | (with_reducible exact gridhallref3_OffersError.mono _ _)
   | (with_reducible exact gridhallref3_Served.mono _ _ _)
   | (with_reducible exact gridhallref3_Unit.mono _ _ _ _)
   | (with_reducible exact welfare_Move.mono _ _ _)
   | (with_reducible exact welfare_Waste.mono _ _ _)
   | (with_reducible exact LeO.refl _)
   | (with_reducible exact LeO.none _)
   | (with_reducible refine LeO.ite ?_ ?_)
   | (with_reducible refine LeO.bind ?_ (fun _ => ?_))
   | exact ih0 _ _ _
   | exact ih1 _ _ _ _ _ _ _ _ _ _
   | exact ih2 _ _ _ _ _ _ _ _ _
   | exact ih3 _ _ _ _ _ _ _ _ _ _ _ _
   | exact ih4 _ _ _ _ _ _ _ _ _ _ _ _ _
   | exact ih5 _ _ _ _ _ _ _ _ _ _ _ _
   | exact ih6 _ _ _ _ _ _ _
   | exact ih7 _ _ _ _ _ _ _ _ _ _ _ _
   | exact ih8 _ _ _ _ _ _ _ _ _ _ _ _ _ _ _ _ _ _
   | exact ih9 _ _ _ _ _ _ _ _ _ _ _ _ _ _ _ _ _ _ _ _ _ _
   | exact gridhallref3_All.mono _ _ _
   | exact gridhallref3_Cost.mono _ _ _ _
   | exact gridhallref3_OffersError.mono _ _
   | exact gridhallref3_Served.mono _ _ _
   | exact gridhallref3_Unit.mono _ _ _ _
   | exact welfare_Move.mono _ _ _
   | exact welfare_Waste.mono _ _ _
   | exact LeO.none _
   | refine LeO.ite ?_ ?_
   | refine LeO.bind ?_ (fun _ => ?_)
def gridhalllaw3_WelfareMoves.T13 : Bool × List (List Nat × List Nat) := (true, [([], []), ([], []), ([0, 1], [0, 1]), ([2], [2]), ([], []), ([], []), ([4, 5], [4, 5]), ([6], [6]), ([7], [7]), ([3, 8, 8], [3, 8]), ([9], [9])])
def gridhalllaw3_WelfareMoves.B13 : List Nat := [0, 0, 3, 7, 0, 0, 48, 112, 240, 511, 1023]
theorem gridhalllaw3_WelfareMoves.tab13 : rtab .any (opsOf Try.f6 13) = gridhalllaw3_WelfareMoves.T13 := by kernel_rfl
theorem gridhalllaw3_WelfareMoves.bits13 : waitsOk gridhalllaw3_WelfareMoves.T13.2 gridhalllaw3_WelfareMoves.B13 = true := by kernel_rfl
def gridhalllaw3_WelfareMoves.T15 : Bool × List (List Nat × List Nat) := (true, [([], []), ([], []), ([], []), ([1, 2], [1, 2]), ([3], [3]), ([0, 4], [0, 4]), ([], []), ([], []), ([], []), ([7, 8], [7, 8]), ([9], [9]), ([], []), ([], []), ([11, 12], [11, 12]), ([13], [13]), ([10, 14], [10, 14]), ([6, 15], [6, 15]), ([5, 15, 0, 1, 2, 3, 4, 5], [0, 5]), ([16, 17, 0, 1, 2, 3, 4, 5, 6, 7, 8, 9, 10, 11, 12, 13, 14, 15, 16, 17], [6, 16])])
def gridhalllaw3_WelfareMoves.B15 : List Nat := [0, 0, 0, 6, 14, 31, 0, 0, 0, 384, 896, 0, 0, 6144, 14336, 32640, 65472, 65471, 262143]
theorem gridhalllaw3_WelfareMoves.tab15 : rtab .any (opsOf Try.f6 15) = gridhalllaw3_WelfareMoves.T15 := by kernel_rfl
theorem gridhalllaw3_WelfareMoves.bits15 : waitsOk gridhalllaw3_WelfareMoves.T15.2 gridhalllaw3_WelfareMoves.B15 = true := by kernel_rfl
def gridhalllaw3_WelfareMoves.T34 : Bool × List (List Nat × List Nat) := (true, [([], []), ([], []), ([0, 1], [0, 1]), ([2], [2]), ([3], [3]), ([3], [3]), ([4, 5, 3], [3, 4, 5]), ([6, 3], [3, 6]), ([7, 3], [3, 7]), ([3, 8], [3, 8]), ([9, 3], [9]), ([10], [10]), ([10], [10]), ([11, 12, 10], [10, 11, 12]), ([13, 10], [10, 13]), ([10], [10]), ([15, 10, 10], [10, 15]), ([14, 16, 10], [10, 14, 16]), ([10, 17], [10, 17])])
def gridhalllaw3_WelfareMoves.B34 : List Nat := [0, 0, 3, 7, 15, 15, 63, 127, 255, 511, 1023, 2047, 2047, 8191, 16383, 2047, 34815, 131071, 262143]
theorem gridhalllaw3_WelfareMoves.tab34 : rtab .any (opsOf Try.f6 34) = gridhalllaw3_WelfareMoves.T34 := by kernel_rfl
theorem gridhalllaw3_WelfareMoves.bits34 : waitsOk gridhalllaw3_WelfareMoves.T34.2 gridhalllaw3_WelfareMoves.B34 = true := by kernel_rfl
def gridhalllaw3_WelfareMoves.T35 : Bool × List (List Nat × List Nat) := (true, [([], []), ([], []), ([], []), ([1, 2], [1, 2]), ([3], [3]), ([4], [4]), ([0, 5], [0, 5]), ([], []), ([], []), ([], []), ([8, 9], [8, 9]), ([10], [10]), ([7, 11, 6], [7, 11]), ([6, 12], [6, 12]), ([13, 12, 0, 1, 2, 3, 4, 5, 6, 7, 8, 9, 10, 11, 12, 13], [13])])
def gridhalllaw3_WelfareMoves.B35 : List Nat := [0, 0, 0, 6, 14, 30, 63, 0, 0, 0, 768, 1792, 4095, 8191, 16383]
theorem gridhalllaw3_WelfareMoves.tab35 : rtab .any (opsOf Try.f6 35) = gridhalllaw3_WelfareMoves.T35 := by kernel_rfl
theorem gridhalllaw3_WelfareMoves.bits35 : waitsOk gridhalllaw3_WelfareMoves.T35.2 gridhalllaw3_WelfareMoves.B35 = true := by kernel_rfl

end Go.Proofs.Ytekpnmeikibioaa.PWelfareMoves
