import Derived.Test.YtdgjelbkogfedaaHConvexMovesy0
import Derived.Test.YtdgjelbkogfedaaHConvexMovesy1
import Derived.Test.YtdgjelbkogfedaaHConvexMovesy3
import Derived.Test.YtdgjelbkogfedaaHConvexMovesy9
import Derived.Test.YtdgjelbkogfedaaHConvexMovesy10
import Derived.Test.YtdgjelbkogfedaaHConvexMovesy11
import Derived.Test.YtdgjelbkogfedaaHConvexMovesy12
namespace Go.Proofs.Ytdgjelbkogfedaa.PConvexMoves
open Go.RowKit Go.Proofs.YtdgjelbkogfedaaW.PrintWords Go.Proofs.YtdgjelbkogfedaaW.PrintLast Go.Proofs.YtdgjelbkogfedaaW.PrintMore
attribute [local go_sem] max2_int min2_int max_two min_two max_three min_three max_four min_four
set_option linter.unusedVariables false
set_option linter.unusedSimpArgs false
mutual
def gridhalllaw3_ConvexMoves.l0 : Nat → Int → Int → Int → Int → Int → Int → Int → Int → List (S88) → Int → Int → Int → Int → List (S88) → Int → Int → List (S88) → Int → Int → List (S88) → Int → Int → List (S88) → Option (Bool)
|0, _, _, _, _, _, _, _, _, _, _, _, _, _, _, _, _, _, _, _, _, _, _, _ => none
|k + 1, x1, x2, x3, x4, x12, x14, x16, x18, x69, x70, x71, x226000, x226001, x226002, x234000, x234001, x234002, x241000, x241001, x241002, x248000, x248001, x248002 => if x71 < x70 then (if 0 ≤ x71 then (if x71 < (x69.length : Int) then (gridhalllaw3_ConvexMoves.l0 k x1 x2 x3 x4 x12 x14 x16 (wrap64 (x18 + ((rd_T88 x69 x71).f0))) x69 x70 (wrap64 (x71 + 1)) x226000 x226001 x226002 x234000 x234001 x234002 x241000 x241001 x241002 x248000 x248001 x248002) else (none)) else (none)) else (if x18 > 60 then (some true) else ((gridhallref3_Values.f k x226000 x226001 x226002).bind fun t251 => (gridhalllaw3_ConvexMoves.l1 k x2 x3 x4 x12 x14 x16 t251 ([] : List Int) (mx x1 x226000) (mx x1 x226000) x226000 x226001 x226002 x234000 x234001 x234002 x241000 x241001 x241002 x248000 x248001 x248002)))
def gridhalllaw3_ConvexMoves.j2 : Nat → Int → Int → Int → Int → Int → List Int → List Int → List Int → Int → Int → Int → List (S88) → Int → Int → List (S88) → Int → Int → List (S88) → Int → Int → List (S88) → Option (Bool)
|0, _, _, _, _, _, _, _, _, _, _, _, _, _, _, _, _, _, _, _, _, _ => none
|k + 1, x3, x4, x12, x14, x16, x21, x22, x23, x24, x226000, x226001, x226002, x234000, x234001, x234002, x241000, x241001, x241002, x248000, x248001, x248002 => if (x22.length : Int) = 0 then (if x12 = 8 then (gridhalllaw3_ConvexMoves.j3 k x3 x4 x14 x16 x21 x23 x226000 x226001 x226002 x241000 x241001 x241002 x248000 x248001 x248002) else (some false)) else (if x12 = 0 then ((gridhalllaw3_sameValues.f k x234000 x234001 x234002 x24 x22).bind fun t258 => (if t258 = true then (gridhalllaw3_ConvexMoves.j3 k x3 x4 x14 x16 x21 x23 x226000 x226001 x226002 x241000 x241001 x241002 x248000 x248001 x248002) else (some false))) else (some false))
def gridhalllaw3_ConvexMoves.j3 : Nat → Int → Int → Int → Int → List Int → List Int → Int → Int → List (S88) → Int → Int → List (S88) → Int → Int → List (S88) → Option (Bool)
|0, _, _, _, _, _, _, _, _, _, _, _, _, _, _, _ => none
|k + 1, x3, x4, x14, x16, x21, x23, x226000, x226001, x226002, x241000, x241001, x241002, x248000, x248001, x248002 => gridhalllaw3_ConvexMoves.l2 k x3 x4 x14 x16 x21 x23 (x21.length : Int) 0 x226000 x226001 x226002 x241000 x241001 x241002 x248000 x248001 x248002
def gridhalllaw3_ConvexMoves.l2 : Nat → Int → Int → Int → Int → List Int → List Int → Int → Int → Int → Int → List (S88) → Int → Int → List (S88) → Int → Int → List (S88) → Option (Bool)
|0, _, _, _, _, _, _, _, _, _, _, _, _, _, _, _, _, _ => none
|k + 1, x3, x4, x14, x16, x21, x23, x128, x129, x226000, x226001, x226002, x241000, x241001, x241002, x248000, x248001, x248002 => if x129 < x128 then (if 0 ≤ (wrap64 ((wrap64 ((x21.length : Int) - 1)) - x129)) then (if (wrap64 ((wrap64 ((x21.length : Int) - 1)) - x129)) < (x21.length : Int) then (if x23.length < 17592186044416 then (gridhalllaw3_ConvexMoves.l2 k x3 x4 x14 x16 x21 (x23 ++ [rd x21 (wrap64 ((wrap64 ((x21.length : Int) - 1)) - x129))]) x128 (wrap64 (x129 + 1)) x226000 x226001 x226002 x241000 x241001 x241002 x248000 x248001 x248002) else (none)) else (none)) else (none)) else (if x16 = 0 then ((gridhalllaw3_sameValues.f k x248000 x248001 x248002 (wrap64 ((wrap64 (1 - x226000)) - (x21.length : Int))) x23).bind fun t263 => (gridhalllaw3_ConvexMoves.j5 k x3 x4 x14 x21 (!t263) x226000 x226001 x226002 x241000 x241001 x241002)) else (gridhalllaw3_ConvexMoves.j5 k x3 x4 x14 x21 true x226000 x226001 x226002 x241000 x241001 x241002))
def gridhalllaw3_ConvexMoves.j5 : Nat → Int → Int → Int → List Int → Bool → Int → Int → List (S88) → Int → Int → List (S88) → Option (Bool)
|0, _, _, _, _, _, _, _, _, _, _, _ => none
|k + 1, x3, x4, x14, x21, x157, x226000, x226001, x226002, x241000, x241001, x241002 => if x157 = true then (some false) else ((gridhallref3_In.f x3 (-2000000) 2000000).bind fun t264 => (if t264 = true then ((gridhallref3_In.f x4 (-1000000000000000) 1000000000000000).bind fun t265 => (gridhalllaw3_ConvexMoves.j6 k x3 x4 x14 x21 (!t265) x226000 x226001 x226002 x241000 x241001 x241002)) else (gridhalllaw3_ConvexMoves.j6 k x3 x4 x14 x21 true x226000 x226001 x226002 x241000 x241001 x241002)))
def gridhalllaw3_ConvexMoves.j6 : Nat → Int → Int → Int → List Int → Bool → Int → Int → List (S88) → Int → Int → List (S88) → Option (Bool)
|0, _, _, _, _, _, _, _, _, _, _, _ => none
|k + 1, x3, x4, x14, x21, x165, x226000, x226001, x226002, x241000, x241001, x241002 => if x165 = true then (some (x14 == 4)) else (gridhalllaw3_ConvexMoves.l3 k x3 x4 x14 ([] : List Int) x21 (x21.length : Int) 0 x226000 x226001 x226002 x241000 x241001 x241002)
def gridhalllaw3_ConvexMoves.l3 : Nat → Int → Int → Int → List Int → List Int → Int → Int → Int → Int → List (S88) → Int → Int → List (S88) → Option (Bool)
|0, _, _, _, _, _, _, _, _, _, _, _, _, _ => none
|k + 1, x3, x4, x14, x27, x168, x169, x170, x226000, x226001, x226002, x241000, x241001, x241002 => if x170 < x169 then (if 0 ≤ x170 then (if x170 < (x168.length : Int) then (if x27.length < 17592186044416 then (gridhalllaw3_ConvexMoves.l3 k x3 x4 x14 (x27 ++ [wrap64 ((rd x168 x170) + x4)]) x168 x169 (wrap64 (x170 + 1)) x226000 x226001 x226002 x241000 x241001 x241002) else (none)) else (none)) else (none)) else (if x14 = 2 then (some true) else (if x14 = 0 then ((gridhalllaw3_sameValues.f k x241000 x241001 x241002 (wrap64 (x226000 + x3)) x27).bind fun t270 => (some t270)) else (some false)))
def gridhalllaw3_ConvexMoves.l1 : Nat → Int → Int → Int → Int → Int → Int → List Int → List Int → Int → Int → Int → Int → List (S88) → Int → Int → List (S88) → Int → Int → List (S88) → Int → Int → List (S88) → Option (Bool)
|0, _, _, _, _, _, _, _, _, _, _, _, _, _, _, _, _, _, _, _, _, _, _ => none
|k + 1, x2, x3, x4, x12, x14, x16, x21, x22, x24, x25, x226000, x226001, x226002, x234000, x234001, x234002, x241000, x241001, x241002, x248000, x248001, x248002 => if x25 ≤ x2 then (if x25 < (wrap64 (x226000 + (x21.length : Int))) then (if 0 ≤ (wrap64 (x25 - x226000)) then (if (wrap64 (x25 - x226000)) < (x21.length : Int) then (if x22.length < 17592186044416 then (gridhalllaw3_ConvexMoves.l1 k x2 x3 x4 x12 x14 x16 x21 (x22 ++ [rd x21 (wrap64 (x25 - x226000))]) x24 (wrap64 (x25 + 1)) x226000 x226001 x226002 x234000 x234001 x234002 x241000 x241001 x241002 x248000 x248001 x248002) else (none)) else (none)) else (none)) else (gridhalllaw3_ConvexMoves.j2 k x3 x4 x12 x14 x16 x21 x22 ([] : List Int) x24 x226000 x226001 x226002 x234000 x234001 x234002 x241000 x241001 x241002 x248000 x248001 x248002)) else (gridhalllaw3_ConvexMoves.j2 k x3 x4 x12 x14 x16 x21 x22 ([] : List Int) x24 x226000 x226001 x226002 x234000 x234001 x234002 x241000 x241001 x241002 x248000 x248001 x248002)
end
def gridhalllaw3_ConvexMoves.f (k : Nat) (a0_0 : Int) (a0_1 : Int) (l0_2 : List (S88)) (a1 : Int) (a2 : Int) (a3 : Int) (a4 : Int) : Option (Bool) := (gridhalllaw3_slopes.f k).bind fun t226 => (if t226 = true then ((convexpl_Restrict.f k a0_0 a0_1 l0_2 a1 a2).bind fun bt227 => ((convexpl_Move.f k a0_0 a0_1 l0_2 a3 a4).bind fun bt234 => ((convexpl_Turn.f k a0_0 a0_1 l0_2).bind fun bt241 => ((gridhallref3_ConvexError.f k a0_0 a0_1 l0_2).bind fun t248 => (if t248 = 0 then (gridhalllaw3_ConvexMoves.l0 k a1 a2 a3 a4 bt227.2.2.2 bt234.2.2.2 bt241.2.2.2 0 l0_2 (l0_2.length : Int) 0 a0_0 a0_1 l0_2 bt227.1 bt227.2.1 bt227.2.2.1 bt234.1 bt234.2.1 bt234.2.2.1 bt241.1 bt241.2.1 bt241.2.2.1) else (if bt227.2.2.2 = t248 then (if bt234.2.2.2 = t248 then (some (bt241.2.2.2 == t248)) else (some false)) else (some false))))))) else (some false))
theorem gridhalllaw3_ConvexMoves.mono_l : ∀ k, (∀ y0 y1 y2 y3 y4 y5 y6 y7 y8 y9 y10 y11 y12 y13 y14 y15 y16 y17 y18 y19 y20 y21 y22, LeO (gridhalllaw3_ConvexMoves.l0 k y0 y1 y2 y3 y4 y5 y6 y7 y8 y9 y10 y11 y12 y13 y14 y15 y16 y17 y18 y19 y20 y21 y22) (gridhalllaw3_ConvexMoves.l0 (k + 1) y0 y1 y2 y3 y4 y5 y6 y7 y8 y9 y10 y11 y12 y13 y14 y15 y16 y17 y18 y19 y20 y21 y22)) ∧ (∀ y0 y1 y2 y3 y4 y5 y6 y7 y8 y9 y10 y11 y12 y13 y14 y15 y16 y17 y18 y19 y20, LeO (gridhalllaw3_ConvexMoves.j2 k y0 y1 y2 y3 y4 y5 y6 y7 y8 y9 y10 y11 y12 y13 y14 y15 y16 y17 y18 y19 y20) (gridhalllaw3_ConvexMoves.j2 (k + 1) y0 y1 y2 y3 y4 y5 y6 y7 y8 y9 y10 y11 y12 y13 y14 y15 y16 y17 y18 y19 y20)) ∧ (∀ y0 y1 y2 y3 y4 y5 y6 y7 y8 y9 y10 y11 y12 y13 y14, LeO (gridhalllaw3_ConvexMoves.j3 k y0 y1 y2 y3 y4 y5 y6 y7 y8 y9 y10 y11 y12 y13 y14) (gridhalllaw3_ConvexMoves.j3 (k + 1) y0 y1 y2 y3 y4 y5 y6 y7 y8 y9 y10 y11 y12 y13 y14)) ∧ (∀ y0 y1 y2 y3 y4 y5 y6 y7 y8 y9 y10 y11 y12 y13 y14 y15 y16, LeO (gridhalllaw3_ConvexMoves.l2 k y0 y1 y2 y3 y4 y5 y6 y7 y8 y9 y10 y11 y12 y13 y14 y15 y16) (gridhalllaw3_ConvexMoves.l2 (k + 1) y0 y1 y2 y3 y4 y5 y6 y7 y8 y9 y10 y11 y12 y13 y14 y15 y16)) ∧ (∀ y0 y1 y2 y3 y4 y5 y6 y7 y8 y9 y10, LeO (gridhalllaw3_ConvexMoves.j5 k y0 y1 y2 y3 y4 y5 y6 y7 y8 y9 y10) (gridhalllaw3_ConvexMoves.j5 (k + 1) y0 y1 y2 y3 y4 y5 y6 y7 y8 y9 y10)) ∧ (∀ y0 y1 y2 y3 y4 y5 y6 y7 y8 y9 y10, LeO (gridhalllaw3_ConvexMoves.j6 k y0 y1 y2 y3 y4 y5 y6 y7 y8 y9 y10) (gridhalllaw3_ConvexMoves.j6 (k + 1) y0 y1 y2 y3 y4 y5 y6 y7 y8 y9 y10)) ∧ (∀ y0 y1 y2 y3 y4 y5 y6 y7 y8 y9 y10 y11 y12, LeO (gridhalllaw3_ConvexMoves.l3 k y0 y1 y2 y3 y4 y5 y6 y7 y8 y9 y10 y11 y12) (gridhalllaw3_ConvexMoves.l3 (k + 1) y0 y1 y2 y3 y4 y5 y6 y7 y8 y9 y10 y11 y12)) ∧ (∀ y0 y1 y2 y3 y4 y5 y6 y7 y8 y9 y10 y11 y12 y13 y14 y15 y16 y17 y18 y19 y20 y21, LeO (gridhalllaw3_ConvexMoves.l1 k y0 y1 y2 y3 y4 y5 y6 y7 y8 y9 y10 y11 y12 y13 y14 y15 y16 y17 y18 y19 y20 y21) (gridhalllaw3_ConvexMoves.l1 (k + 1) y0 y1 y2 y3 y4 y5 y6 y7 y8 y9 y10 y11 y12 y13 y14 y15 y16 y17 y18 y19 y20 y21))
|0 => ⟨fun _ _ _ _ _ _ _ _ _ _ _ _ _ _ _ _ _ _ _ _ _ _ _ r h => by simp [gridhalllaw3_ConvexMoves.l0] at h, fun _ _ _ _ _ _ _ _ _ _ _ _ _ _ _ _ _ _ _ _ _ r h => by simp [gridhalllaw3_ConvexMoves.j2] at h, fun _ _ _ _ _ _ _ _ _ _ _ _ _ _ _ r h => by simp [gridhalllaw3_ConvexMoves.j3] at h, fun _ _ _ _ _ _ _ _ _ _ _ _ _ _ _ _ _ r h => by simp [gridhalllaw3_ConvexMoves.l2] at h, fun _ _ _ _ _ _ _ _ _ _ _ r h => by simp [gridhalllaw3_ConvexMoves.j5] at h, fun _ _ _ _ _ _ _ _ _ _ _ r h => by simp [gridhalllaw3_ConvexMoves.j6] at h, fun _ _ _ _ _ _ _ _ _ _ _ _ _ r h => by simp [gridhalllaw3_ConvexMoves.l3] at h, fun _ _ _ _ _ _ _ _ _ _ _ _ _ _ _ _ _ _ _ _ _ _ r h => by simp [gridhalllaw3_ConvexMoves.l1] at h⟩
|k + 1 => by
  obtain ⟨ih0, ih1, ih2, ih3, ih4, ih5, ih6, ih7⟩:=gridhalllaw3_ConvexMoves.mono_l k
  refine ⟨?_, ?_, ?_, ?_, ?_, ?_, ?_, ?_⟩
  ·intro y0 y1 y2 y3 y4 y5 y6 y7 y8 y9 y10 y11 y12 y13 y14 y15 y16 y17 y18 y19 y20 y21 y22
   unfold gridhalllaw3_ConvexMoves.l0
   repeat' first
  |(with_reducible exact ih0 _ _ _ _ _ _ _ _ _ _ _ _ _ _ _ _ _ _ _ _ _ _ _)
  |(with_reducible exact ih1 _ _ _ _ _ _ _ _ _ _ _ _ _ _ _ _ _ _ _ _ _)
  |(with_reducible exact ih2 _ _ _ _ _ _ _ _ _ _ _ _ _ _ _)
  |(with_reducible exact ih3 _ _ _ _ _ _ _ _ _ _ _ _ _ _ _ _ _)
  |(with_reducible exact ih4 _ _ _ _ _ _ _ _ _ _ _)
  |(with_reducible exact ih5 _ _ _ _ _ _ _ _ _ _ _)
  |(with_reducible exact ih6 _ _ _ _ _ _ _ _ _ _ _ _ _)
  |(with_reducible exact ih7 _ _ _ _ _ _ _ _ _ _ _ _ _ _ _ _ _ _ _ _ _ _)
  |(with_reducible exact convexpl_Move.mono _ _ _ _ _ _)
  |(with_reducible exact convexpl_Restrict.mono _ _ _ _ _ _)
  |(with_reducible exact convexpl_Turn.mono _ _ _ _)
  |(with_reducible exact gridhalllaw3_sameValues.mono _ _ _ _ _ _)
  |(with_reducible exact gridhalllaw3_slopes.mono _)
  |(with_reducible exact gridhallref3_ConvexError.mono _ _ _ _)
  |(with_reducible exact gridhallref3_Values.mono _ _ _ _)
  |(with_reducible exact LeO.refl _)
  |(with_reducible exact LeO.none _)
  |(with_reducible refine LeO.ite ?_ ?_)
  |(with_reducible refine LeO.bind ?_ (fun _ => ?_))
  |exact ih0 _ _ _ _ _ _ _ _ _ _ _ _ _ _ _ _ _ _ _ _ _ _ _
  |exact ih1 _ _ _ _ _ _ _ _ _ _ _ _ _ _ _ _ _ _ _ _ _
  |exact ih2 _ _ _ _ _ _ _ _ _ _ _ _ _ _ _
  |exact ih3 _ _ _ _ _ _ _ _ _ _ _ _ _ _ _ _ _
  |exact ih4 _ _ _ _ _ _ _ _ _ _ _
  |exact ih5 _ _ _ _ _ _ _ _ _ _ _
  |exact ih6 _ _ _ _ _ _ _ _ _ _ _ _ _
  |exact ih7 _ _ _ _ _ _ _ _ _ _ _ _ _ _ _ _ _ _ _ _ _ _
  |exact convexpl_Move.mono _ _ _ _ _ _
  |exact convexpl_Restrict.mono _ _ _ _ _ _
  |exact convexpl_Turn.mono _ _ _ _
  |exact gridhalllaw3_sameValues.mono _ _ _ _ _ _
  |exact gridhalllaw3_slopes.mono _
  |exact gridhallref3_ConvexError.mono _ _ _ _
  |exact gridhallref3_Values.mono _ _ _ _
  |exact LeO.none _
  |refine LeO.ite ?_ ?_
  |refine LeO.bind ?_ (fun _ => ?_)
  ·intro y0 y1 y2 y3 y4 y5 y6 y7 y8 y9 y10 y11 y12 y13 y14 y15 y16 y17 y18 y19 y20
   unfold gridhalllaw3_ConvexMoves.j2
   repeat' first
  |(with_reducible exact ih0 _ _ _ _ _ _ _ _ _ _ _ _ _ _ _ _ _ _ _ _ _ _ _)
  |(with_reducible exact ih1 _ _ _ _ _ _ _ _ _ _ _ _ _ _ _ _ _ _ _ _ _)
  |(with_reducible exact ih2 _ _ _ _ _ _ _ _ _ _ _ _ _ _ _)
  |(with_reducible exact ih3 _ _ _ _ _ _ _ _ _ _ _ _ _ _ _ _ _)
  |(with_reducible exact ih4 _ _ _ _ _ _ _ _ _ _ _)
  |(with_reducible exact ih5 _ _ _ _ _ _ _ _ _ _ _)
  |(with_reducible exact ih6 _ _ _ _ _ _ _ _ _ _ _ _ _)
  |(with_reducible exact ih7 _ _ _ _ _ _ _ _ _ _ _ _ _ _ _ _ _ _ _ _ _ _)
  |(with_reducible exact convexpl_Move.mono _ _ _ _ _ _)
  |(with_reducible exact convexpl_Restrict.mono _ _ _ _ _ _)
  |(with_reducible exact convexpl_Turn.mono _ _ _ _)
  |(with_reducible exact gridhalllaw3_sameValues.mono _ _ _ _ _ _)
  |(with_reducible exact gridhalllaw3_slopes.mono _)
  |(with_reducible exact gridhallref3_ConvexError.mono _ _ _ _)
  |(with_reducible exact gridhallref3_Values.mono _ _ _ _)
  |(with_reducible exact LeO.refl _)
  |(with_reducible exact LeO.none _)
  |(with_reducible refine LeO.ite ?_ ?_)
  |(with_reducible refine LeO.bind ?_ (fun _ => ?_))
  |exact ih0 _ _ _ _ _ _ _ _ _ _ _ _ _ _ _ _ _ _ _ _ _ _ _
  |exact ih1 _ _ _ _ _ _ _ _ _ _ _ _ _ _ _ _ _ _ _ _ _
  |exact ih2 _ _ _ _ _ _ _ _ _ _ _ _ _ _ _
  |exact ih3 _ _ _ _ _ _ _ _ _ _ _ _ _ _ _ _ _
  |exact ih4 _ _ _ _ _ _ _ _ _ _ _
  |exact ih5 _ _ _ _ _ _ _ _ _ _ _
  |exact ih6 _ _ _ _ _ _ _ _ _ _ _ _ _
  |exact ih7 _ _ _ _ _ _ _ _ _ _ _ _ _ _ _ _ _ _ _ _ _ _
  |exact convexpl_Move.mono _ _ _ _ _ _
  |exact convexpl_Restrict.mono _ _ _ _ _ _
  |exact convexpl_Turn.mono _ _ _ _
  |exact gridhalllaw3_sameValues.mono _ _ _ _ _ _
  |exact gridhalllaw3_slopes.mono _
  |exact gridhallref3_ConvexError.mono _ _ _ _
  |exact gridhallref3_Values.mono _ _ _ _
  |exact LeO.none _
  |refine LeO.ite ?_ ?_
  |refine LeO.bind ?_ (fun _ => ?_)
  ·intro y0 y1 y2 y3 y4 y5 y6 y7 y8 y9 y10 y11 y12 y13 y14
   unfold gridhalllaw3_ConvexMoves.j3
   repeat' first
  |(with_reducible exact ih0 _ _ _ _ _ _ _ _ _ _ _ _ _ _ _ _ _ _ _ _ _ _ _)
  |(with_reducible exact ih1 _ _ _ _ _ _ _ _ _ _ _ _ _ _ _ _ _ _ _ _ _)
  |(with_reducible exact ih2 _ _ _ _ _ _ _ _ _ _ _ _ _ _ _)
  |(with_reducible exact ih3 _ _ _ _ _ _ _ _ _ _ _ _ _ _ _ _ _)
  |(with_reducible exact ih4 _ _ _ _ _ _ _ _ _ _ _)
  |(with_reducible exact ih5 _ _ _ _ _ _ _ _ _ _ _)
  |(with_reducible exact ih6 _ _ _ _ _ _ _ _ _ _ _ _ _)
  |(with_reducible exact ih7 _ _ _ _ _ _ _ _ _ _ _ _ _ _ _ _ _ _ _ _ _ _)
  |(with_reducible exact convexpl_Move.mono _ _ _ _ _ _)
  |(with_reducible exact convexpl_Restrict.mono _ _ _ _ _ _)
  |(with_reducible exact convexpl_Turn.mono _ _ _ _)
  |(with_reducible exact gridhalllaw3_sameValues.mono _ _ _ _ _ _)
  |(with_reducible exact gridhalllaw3_slopes.mono _)
  |(with_reducible exact gridhallref3_ConvexError.mono _ _ _ _)
  |(with_reducible exact gridhallref3_Values.mono _ _ _ _)
  |(with_reducible exact LeO.refl _)
  |(with_reducible exact LeO.none _)
  |(with_reducible refine LeO.ite ?_ ?_)
  |(with_reducible refine LeO.bind ?_ (fun _ => ?_))
  |exact ih0 _ _ _ _ _ _ _ _ _ _ _ _ _ _ _ _ _ _ _ _ _ _ _
  |exact ih1 _ _ _ _ _ _ _ _ _ _ _ _ _ _ _ _ _ _ _ _ _
  |exact ih2 _ _ _ _ _ _ _ _ _ _ _ _ _ _ _
  |exact ih3 _ _ _ _ _ _ _ _ _ _ _ _ _ _ _ _ _
  |exact ih4 _ _ _ _ _ _ _ _ _ _ _
  |exact ih5 _ _ _ _ _ _ _ _ _ _ _
  |exact ih6 _ _ _ _ _ _ _ _ _ _ _ _ _
  |exact ih7 _ _ _ _ _ _ _ _ _ _ _ _ _ _ _ _ _ _ _ _ _ _
  |exact convexpl_Move.mono _ _ _ _ _ _
  |exact convexpl_Restrict.mono _ _ _ _ _ _
  |exact convexpl_Turn.mono _ _ _ _
  |exact gridhalllaw3_sameValues.mono _ _ _ _ _ _
  |exact gridhalllaw3_slopes.mono _
  |exact gridhallref3_ConvexError.mono _ _ _ _
  |exact gridhallref3_Values.mono _ _ _ _
  |exact LeO.none _
  |refine LeO.ite ?_ ?_
  |refine LeO.bind ?_ (fun _ => ?_)
  ·intro y0 y1 y2 y3 y4 y5 y6 y7 y8 y9 y10 y11 y12 y13 y14 y15 y16
   unfold gridhalllaw3_ConvexMoves.l2
   repeat' first
  |(with_reducible exact ih0 _ _ _ _ _ _ _ _ _ _ _ _ _ _ _ _ _ _ _ _ _ _ _)
  |(with_reducible exact ih1 _ _ _ _ _ _ _ _ _ _ _ _ _ _ _ _ _ _ _ _ _)
  |(with_reducible exact ih2 _ _ _ _ _ _ _ _ _ _ _ _ _ _ _)
  |(with_reducible exact ih3 _ _ _ _ _ _ _ _ _ _ _ _ _ _ _ _ _)
  |(with_reducible exact ih4 _ _ _ _ _ _ _ _ _ _ _)
  |(with_reducible exact ih5 _ _ _ _ _ _ _ _ _ _ _)
  |(with_reducible exact ih6 _ _ _ _ _ _ _ _ _ _ _ _ _)
  |(with_reducible exact ih7 _ _ _ _ _ _ _ _ _ _ _ _ _ _ _ _ _ _ _ _ _ _)
  |(with_reducible exact convexpl_Move.mono _ _ _ _ _ _)
  |(with_reducible exact convexpl_Restrict.mono _ _ _ _ _ _)
  |(with_reducible exact convexpl_Turn.mono _ _ _ _)
  |(with_reducible exact gridhalllaw3_sameValues.mono _ _ _ _ _ _)
  |(with_reducible exact gridhalllaw3_slopes.mono _)
  |(with_reducible exact gridhallref3_ConvexError.mono _ _ _ _)
  |(with_reducible exact gridhallref3_Values.mono _ _ _ _)
  |(with_reducible exact LeO.refl _)
  |(with_reducible exact LeO.none _)
  |(with_reducible refine LeO.ite ?_ ?_)
  |(with_reducible refine LeO.bind ?_ (fun _ => ?_))
  |exact ih0 _ _ _ _ _ _ _ _ _ _ _ _ _ _ _ _ _ _ _ _ _ _ _
  |exact ih1 _ _ _ _ _ _ _ _ _ _ _ _ _ _ _ _ _ _ _ _ _
  |exact ih2 _ _ _ _ _ _ _ _ _ _ _ _ _ _ _
  |exact ih3 _ _ _ _ _ _ _ _ _ _ _ _ _ _ _ _ _
  |exact ih4 _ _ _ _ _ _ _ _ _ _ _
  |exact ih5 _ _ _ _ _ _ _ _ _ _ _
  |exact ih6 _ _ _ _ _ _ _ _ _ _ _ _ _
  |exact ih7 _ _ _ _ _ _ _ _ _ _ _ _ _ _ _ _ _ _ _ _ _ _
  |exact convexpl_Move.mono _ _ _ _ _ _
  |exact convexpl_Restrict.mono _ _ _ _ _ _
  |exact convexpl_Turn.mono _ _ _ _
  |exact gridhalllaw3_sameValues.mono _ _ _ _ _ _
  |exact gridhalllaw3_slopes.mono _
  |exact gridhallref3_ConvexError.mono _ _ _ _
  |exact gridhallref3_Values.mono _ _ _ _
  |exact LeO.none _
  |refine LeO.ite ?_ ?_
  |refine LeO.bind ?_ (fun _ => ?_)
  ·intro y0 y1 y2 y3 y4 y5 y6 y7 y8 y9 y10
   unfold gridhalllaw3_ConvexMoves.j5
   repeat' first
  |(with_reducible exact ih0 _ _ _ _ _ _ _ _ _ _ _ _ _ _ _ _ _ _ _ _ _ _ _)
  |(with_reducible exact ih1 _ _ _ _ _ _ _ _ _ _ _ _ _ _ _ _ _ _ _ _ _)
  |(with_reducible exact ih2 _ _ _ _ _ _ _ _ _ _ _ _ _ _ _)
  |(with_reducible exact ih3 _ _ _ _ _ _ _ _ _ _ _ _ _ _ _ _ _)
  |(with_reducible exact ih4 _ _ _ _ _ _ _ _ _ _ _)
  |(with_reducible exact ih5 _ _ _ _ _ _ _ _ _ _ _)
  |(with_reducible exact ih6 _ _ _ _ _ _ _ _ _ _ _ _ _)
  |(with_reducible exact ih7 _ _ _ _ _ _ _ _ _ _ _ _ _ _ _ _ _ _ _ _ _ _)
  |(with_reducible exact convexpl_Move.mono _ _ _ _ _ _)
  |(with_reducible exact convexpl_Restrict.mono _ _ _ _ _ _)
  |(with_reducible exact convexpl_Turn.mono _ _ _ _)
  |(with_reducible exact gridhalllaw3_sameValues.mono _ _ _ _ _ _)
  |(with_reducible exact gridhalllaw3_slopes.mono _)
  |(with_reducible exact gridhallref3_ConvexError.mono _ _ _ _)
  |(with_reducible exact gridhallref3_Values.mono _ _ _ _)
  |(with_reducible exact LeO.refl _)
  |(with_reducible exact LeO.none _)
  |(with_reducible refine LeO.ite ?_ ?_)
  |(with_reducible refine LeO.bind ?_ (fun _ => ?_))
  |exact ih0 _ _ _ _ _ _ _ _ _ _ _ _ _ _ _ _ _ _ _ _ _ _ _
  |exact ih1 _ _ _ _ _ _ _ _ _ _ _ _ _ _ _ _ _ _ _ _ _
  |exact ih2 _ _ _ _ _ _ _ _ _ _ _ _ _ _ _
  |exact ih3 _ _ _ _ _ _ _ _ _ _ _ _ _ _ _ _ _
  |exact ih4 _ _ _ _ _ _ _ _ _ _ _
  |exact ih5 _ _ _ _ _ _ _ _ _ _ _
  |exact ih6 _ _ _ _ _ _ _ _ _ _ _ _ _
  |exact ih7 _ _ _ _ _ _ _ _ _ _ _ _ _ _ _ _ _ _ _ _ _ _
  |exact convexpl_Move.mono _ _ _ _ _ _
  |exact convexpl_Restrict.mono _ _ _ _ _ _
  |exact convexpl_Turn.mono _ _ _ _
  |exact gridhalllaw3_sameValues.mono _ _ _ _ _ _
  |exact gridhalllaw3_slopes.mono _
  |exact gridhallref3_ConvexError.mono _ _ _ _
  |exact gridhallref3_Values.mono _ _ _ _
  |exact LeO.none _
  |refine LeO.ite ?_ ?_
  |refine LeO.bind ?_ (fun _ => ?_)
  ·intro y0 y1 y2 y3 y4 y5 y6 y7 y8 y9 y10
   unfold gridhalllaw3_ConvexMoves.j6
   repeat' first
  |(with_reducible exact ih0 _ _ _ _ _ _ _ _ _ _ _ _ _ _ _ _ _ _ _ _ _ _ _)
  |(with_reducible exact ih1 _ _ _ _ _ _ _ _ _ _ _ _ _ _ _ _ _ _ _ _ _)
  |(with_reducible exact ih2 _ _ _ _ _ _ _ _ _ _ _ _ _ _ _)
  |(with_reducible exact ih3 _ _ _ _ _ _ _ _ _ _ _ _ _ _ _ _ _)
  |(with_reducible exact ih4 _ _ _ _ _ _ _ _ _ _ _)
  |(with_reducible exact ih5 _ _ _ _ _ _ _ _ _ _ _)
  |(with_reducible exact ih6 _ _ _ _ _ _ _ _ _ _ _ _ _)
  |(with_reducible exact ih7 _ _ _ _ _ _ _ _ _ _ _ _ _ _ _ _ _ _ _ _ _ _)
  |(with_reducible exact convexpl_Move.mono _ _ _ _ _ _)
  |(with_reducible exact convexpl_Restrict.mono _ _ _ _ _ _)
  |(with_reducible exact convexpl_Turn.mono _ _ _ _)
  |(with_reducible exact gridhalllaw3_sameValues.mono _ _ _ _ _ _)
  |(with_reducible exact gridhalllaw3_slopes.mono _)
  |(with_reducible exact gridhallref3_ConvexError.mono _ _ _ _)
  |(with_reducible exact gridhallref3_Values.mono _ _ _ _)
  |(with_reducible exact LeO.refl _)
  |(with_reducible exact LeO.none _)
  |(with_reducible refine LeO.ite ?_ ?_)
  |(with_reducible refine LeO.bind ?_ (fun _ => ?_))
  |exact ih0 _ _ _ _ _ _ _ _ _ _ _ _ _ _ _ _ _ _ _ _ _ _ _
  |exact ih1 _ _ _ _ _ _ _ _ _ _ _ _ _ _ _ _ _ _ _ _ _
  |exact ih2 _ _ _ _ _ _ _ _ _ _ _ _ _ _ _
  |exact ih3 _ _ _ _ _ _ _ _ _ _ _ _ _ _ _ _ _
  |exact ih4 _ _ _ _ _ _ _ _ _ _ _
  |exact ih5 _ _ _ _ _ _ _ _ _ _ _
  |exact ih6 _ _ _ _ _ _ _ _ _ _ _ _ _
  |exact ih7 _ _ _ _ _ _ _ _ _ _ _ _ _ _ _ _ _ _ _ _ _ _
  |exact convexpl_Move.mono _ _ _ _ _ _
  |exact convexpl_Restrict.mono _ _ _ _ _ _
  |exact convexpl_Turn.mono _ _ _ _
  |exact gridhalllaw3_sameValues.mono _ _ _ _ _ _
  |exact gridhalllaw3_slopes.mono _
  |exact gridhallref3_ConvexError.mono _ _ _ _
  |exact gridhallref3_Values.mono _ _ _ _
  |exact LeO.none _
  |refine LeO.ite ?_ ?_
  |refine LeO.bind ?_ (fun _ => ?_)
  ·intro y0 y1 y2 y3 y4 y5 y6 y7 y8 y9 y10 y11 y12
   unfold gridhalllaw3_ConvexMoves.l3
   repeat' first
  |(with_reducible exact ih0 _ _ _ _ _ _ _ _ _ _ _ _ _ _ _ _ _ _ _ _ _ _ _)
  |(with_reducible exact ih1 _ _ _ _ _ _ _ _ _ _ _ _ _ _ _ _ _ _ _ _ _)
  |(with_reducible exact ih2 _ _ _ _ _ _ _ _ _ _ _ _ _ _ _)
  |(with_reducible exact ih3 _ _ _ _ _ _ _ _ _ _ _ _ _ _ _ _ _)
  |(with_reducible exact ih4 _ _ _ _ _ _ _ _ _ _ _)
  |(with_reducible exact ih5 _ _ _ _ _ _ _ _ _ _ _)
  |(with_reducible exact ih6 _ _ _ _ _ _ _ _ _ _ _ _ _)
  |(with_reducible exact ih7 _ _ _ _ _ _ _ _ _ _ _ _ _ _ _ _ _ _ _ _ _ _)
  |(with_reducible exact convexpl_Move.mono _ _ _ _ _ _)
  |(with_reducible exact convexpl_Restrict.mono _ _ _ _ _ _)
  |(with_reducible exact convexpl_Turn.mono _ _ _ _)
  |(with_reducible exact gridhalllaw3_sameValues.mono _ _ _ _ _ _)
  |(with_reducible exact gridhalllaw3_slopes.mono _)
  |(with_reducible exact gridhallref3_ConvexError.mono _ _ _ _)
  |(with_reducible exact gridhallref3_Values.mono _ _ _ _)
  |(with_reducible exact LeO.refl _)
  |(with_reducible exact LeO.none _)
  |(with_reducible refine LeO.ite ?_ ?_)
  |(with_reducible refine LeO.bind ?_ (fun _ => ?_))
  |exact ih0 _ _ _ _ _ _ _ _ _ _ _ _ _ _ _ _ _ _ _ _ _ _ _
  |exact ih1 _ _ _ _ _ _ _ _ _ _ _ _ _ _ _ _ _ _ _ _ _
  |exact ih2 _ _ _ _ _ _ _ _ _ _ _ _ _ _ _
  |exact ih3 _ _ _ _ _ _ _ _ _ _ _ _ _ _ _ _ _
  |exact ih4 _ _ _ _ _ _ _ _ _ _ _
  |exact ih5 _ _ _ _ _ _ _ _ _ _ _
  |exact ih6 _ _ _ _ _ _ _ _ _ _ _ _ _
  |exact ih7 _ _ _ _ _ _ _ _ _ _ _ _ _ _ _ _ _ _ _ _ _ _
  |exact convexpl_Move.mono _ _ _ _ _ _
  |exact convexpl_Restrict.mono _ _ _ _ _ _
  |exact convexpl_Turn.mono _ _ _ _
  |exact gridhalllaw3_sameValues.mono _ _ _ _ _ _
  |exact gridhalllaw3_slopes.mono _
  |exact gridhallref3_ConvexError.mono _ _ _ _
  |exact gridhallref3_Values.mono _ _ _ _
  |exact LeO.none _
  |refine LeO.ite ?_ ?_
  |refine LeO.bind ?_ (fun _ => ?_)
  ·intro y0 y1 y2 y3 y4 y5 y6 y7 y8 y9 y10 y11 y12 y13 y14 y15 y16 y17 y18 y19 y20 y21
   unfold gridhalllaw3_ConvexMoves.l1
   repeat' first
  |(with_reducible exact ih0 _ _ _ _ _ _ _ _ _ _ _ _ _ _ _ _ _ _ _ _ _ _ _)
  |(with_reducible exact ih1 _ _ _ _ _ _ _ _ _ _ _ _ _ _ _ _ _ _ _ _ _)
  |(with_reducible exact ih2 _ _ _ _ _ _ _ _ _ _ _ _ _ _ _)
  |(with_reducible exact ih3 _ _ _ _ _ _ _ _ _ _ _ _ _ _ _ _ _)
  |(with_reducible exact ih4 _ _ _ _ _ _ _ _ _ _ _)
  |(with_reducible exact ih5 _ _ _ _ _ _ _ _ _ _ _)
  |(with_reducible exact ih6 _ _ _ _ _ _ _ _ _ _ _ _ _)
  |(with_reducible exact ih7 _ _ _ _ _ _ _ _ _ _ _ _ _ _ _ _ _ _ _ _ _ _)
  |(with_reducible exact convexpl_Move.mono _ _ _ _ _ _)
  |(with_reducible exact convexpl_Restrict.mono _ _ _ _ _ _)
  |(with_reducible exact convexpl_Turn.mono _ _ _ _)
  |(with_reducible exact gridhalllaw3_sameValues.mono _ _ _ _ _ _)
  |(with_reducible exact gridhalllaw3_slopes.mono _)
  |(with_reducible exact gridhallref3_ConvexError.mono _ _ _ _)
  |(with_reducible exact gridhallref3_Values.mono _ _ _ _)
  |(with_reducible exact LeO.refl _)
  |(with_reducible exact LeO.none _)
  |(with_reducible refine LeO.ite ?_ ?_)
  |(with_reducible refine LeO.bind ?_ (fun _ => ?_))
  |exact ih0 _ _ _ _ _ _ _ _ _ _ _ _ _ _ _ _ _ _ _ _ _ _ _
  |exact ih1 _ _ _ _ _ _ _ _ _ _ _ _ _ _ _ _ _ _ _ _ _
  |exact ih2 _ _ _ _ _ _ _ _ _ _ _ _ _ _ _
  |exact ih3 _ _ _ _ _ _ _ _ _ _ _ _ _ _ _ _ _
  |exact ih4 _ _ _ _ _ _ _ _ _ _ _
  |exact ih5 _ _ _ _ _ _ _ _ _ _ _
  |exact ih6 _ _ _ _ _ _ _ _ _ _ _ _ _
  |exact ih7 _ _ _ _ _ _ _ _ _ _ _ _ _ _ _ _ _ _ _ _ _ _
  |exact convexpl_Move.mono _ _ _ _ _ _
  |exact convexpl_Restrict.mono _ _ _ _ _ _
  |exact convexpl_Turn.mono _ _ _ _
  |exact gridhalllaw3_sameValues.mono _ _ _ _ _ _
  |exact gridhalllaw3_slopes.mono _
  |exact gridhallref3_ConvexError.mono _ _ _ _
  |exact gridhallref3_Values.mono _ _ _ _
  |exact LeO.none _
  |refine LeO.ite ?_ ?_
  |refine LeO.bind ?_ (fun _ => ?_)
theorem gridhalllaw3_ConvexMoves.mono : ∀ a0 a1 a2 a3 a4 a5 a6 k, LeO (gridhalllaw3_ConvexMoves.f k a0 a1 a2 a3 a4 a5 a6) (gridhalllaw3_ConvexMoves.f (k + 1) a0 a1 a2 a3 a4 a5 a6) := by
 intro a0 a1 a2 a3 a4 a5 a6 k
 obtain ⟨ih0, ih1, ih2, ih3, ih4, ih5, ih6, ih7⟩:=gridhalllaw3_ConvexMoves.mono_l k
 unfold gridhalllaw3_ConvexMoves.f
 repeat' first
  |(with_reducible exact ih0 _ _ _ _ _ _ _ _ _ _ _ _ _ _ _ _ _ _ _ _ _ _ _)
  |(with_reducible exact ih1 _ _ _ _ _ _ _ _ _ _ _ _ _ _ _ _ _ _ _ _ _)
  |(with_reducible exact ih2 _ _ _ _ _ _ _ _ _ _ _ _ _ _ _)
  |(with_reducible exact ih3 _ _ _ _ _ _ _ _ _ _ _ _ _ _ _ _ _)
  |(with_reducible exact ih4 _ _ _ _ _ _ _ _ _ _ _)
  |(with_reducible exact ih5 _ _ _ _ _ _ _ _ _ _ _)
  |(with_reducible exact ih6 _ _ _ _ _ _ _ _ _ _ _ _ _)
  |(with_reducible exact ih7 _ _ _ _ _ _ _ _ _ _ _ _ _ _ _ _ _ _ _ _ _ _)
  |(with_reducible exact convexpl_Move.mono _ _ _ _ _ _)
  |(with_reducible exact convexpl_Restrict.mono _ _ _ _ _ _)
  |(with_reducible exact convexpl_Turn.mono _ _ _ _)
  |(with_reducible exact gridhalllaw3_sameValues.mono _ _ _ _ _ _)
  |(with_reducible exact gridhalllaw3_slopes.mono _)
  |(with_reducible exact gridhallref3_ConvexError.mono _ _ _ _)
  |(with_reducible exact gridhallref3_Values.mono _ _ _ _)
  |(with_reducible exact LeO.refl _)
  |(with_reducible exact LeO.none _)
  |(with_reducible refine LeO.ite ?_ ?_)
  |(with_reducible refine LeO.bind ?_ (fun _ => ?_))
  |exact ih0 _ _ _ _ _ _ _ _ _ _ _ _ _ _ _ _ _ _ _ _ _ _ _
  |exact ih1 _ _ _ _ _ _ _ _ _ _ _ _ _ _ _ _ _ _ _ _ _
  |exact ih2 _ _ _ _ _ _ _ _ _ _ _ _ _ _ _
  |exact ih3 _ _ _ _ _ _ _ _ _ _ _ _ _ _ _ _ _
  |exact ih4 _ _ _ _ _ _ _ _ _ _ _
  |exact ih5 _ _ _ _ _ _ _ _ _ _ _
  |exact ih6 _ _ _ _ _ _ _ _ _ _ _ _ _
  |exact ih7 _ _ _ _ _ _ _ _ _ _ _ _ _ _ _ _ _ _ _ _ _ _
  |exact convexpl_Move.mono _ _ _ _ _ _
  |exact convexpl_Restrict.mono _ _ _ _ _ _
  |exact convexpl_Turn.mono _ _ _ _
  |exact gridhalllaw3_sameValues.mono _ _ _ _ _ _
  |exact gridhalllaw3_slopes.mono _
  |exact gridhallref3_ConvexError.mono _ _ _ _
  |exact gridhallref3_Values.mono _ _ _ _
  |exact LeO.none _
  |refine LeO.ite ?_ ?_
  |refine LeO.bind ?_ (fun _ => ?_)
set_option maxHeartbeats 8000000 in
set_option maxRecDepth 100000 in
theorem gridhalllaw3_ConvexMoves.calls (k : Nat) (a0_0 : Int) (a0_1 : Int) (A0_2 : Option Addr) (c0_2 : Nat) (l0_2 : List (S88)) (a1 : Int) (a2 : Int) (a3 : Int) (a4 : Int) (r : Bool) (w : World) (hr0_2 : Kd.C k88 w A0_2 l0_2.length l0_2) (hc0_2 : l0_2.length ≤ c0_2) (h : gridhalllaw3_ConvexMoves.f k a0_0 a0_1 l0_2 a1 a2 a3 a4 = some r) :
  Calls Try.prog 6 #[.agg #[.int .i64 a0_0, .int .i64 a0_1, .slice A0_2 l0_2.length c0_2], .int .i64 a1, .int .i64 a2, .int .i64 a3, .int .i64 a4] w fun e w' => e = .returned (.bool r) ∧ Below w.heap.size w w' := by
 have hu82:=Try.underlying82
 have hu88:=Try.underlying88
 have HR0_2:=Aside0.mk hr0_2
 have HC0_2:=Aside0.mk hc0_2
 clear hr0_2 hc0_2
 have HB:=Aside0.mk (Below.refl w.heap.size w)
 have H : ((gridhalllaw3_slopes.f k).bind fun t226=>(if t226 = true then ((convexpl_Restrict.f k a0_0 a0_1 l0_2 a1 a2).bind fun bt227=>((convexpl_Move.f k a0_0 a0_1 l0_2 a3 a4).bind fun bt234=>((convexpl_Turn.f k a0_0 a0_1 l0_2).bind fun bt241=>((gridhallref3_ConvexError.f k a0_0 a0_1 l0_2).bind fun t248=>(if t248 = 0 then (gridhalllaw3_ConvexMoves.l0 k a1 a2 a3 a4 bt227.2.2.2 bt234.2.2.2 bt241.2.2.2 0 l0_2 (l0_2.length : Int) 0 a0_0 a0_1 l0_2 bt227.1 bt227.2.1 bt227.2.2.1 bt234.1 bt234.2.1 bt234.2.2.1 bt241.1 bt241.2.1 bt241.2.2.1) else (if bt227.2.2.2 = t248 then (if bt234.2.2.2 = t248 then (some (bt241.2.2.2 == t248)) else (some false)) else (some false))))))) else (some false))) = some r:=h
 clear h
 replace H:=Option.bind_eq_some_iff.mp H
 obtain ⟨t226, A60, H⟩:=H
 replace H : (if t226 = true then ((convexpl_Restrict.f k a0_0 a0_1 l0_2 a1 a2).bind fun bt227=>((convexpl_Move.f k a0_0 a0_1 l0_2 a3 a4).bind fun bt234=>((convexpl_Turn.f k a0_0 a0_1 l0_2).bind fun bt241=>((gridhallref3_ConvexError.f k a0_0 a0_1 l0_2).bind fun t248=>(if t248 = 0 then (gridhalllaw3_ConvexMoves.l0 k a1 a2 a3 a4 bt227.2.2.2 bt234.2.2.2 bt241.2.2.2 0 l0_2 (l0_2.length : Int) 0 a0_0 a0_1 l0_2 bt227.1 bt227.2.1 bt227.2.2.1 bt234.1 bt234.2.1 bt234.2.2.1 bt241.1 bt241.2.1 bt241.2.2.1) else (if bt227.2.2.2 = t248 then (if bt234.2.2.2 = t248 then (some (bt241.2.2.2 == t248)) else (some false)) else (some false))))))) else (some false)) = some r:=H
 have A6:=Aside0.mk A60
 clear A60
 by_cases c7 : t226 = true
 ·subst c7
  have H1 : ((convexpl_Restrict.f k a0_0 a0_1 l0_2 a1 a2).bind fun bt227=>((convexpl_Move.f k a0_0 a0_1 l0_2 a3 a4).bind fun bt234=>((convexpl_Turn.f k a0_0 a0_1 l0_2).bind fun bt241=>((gridhallref3_ConvexError.f k a0_0 a0_1 l0_2).bind fun t248=>(if t248 = 0 then (gridhalllaw3_ConvexMoves.l0 k a1 a2 a3 a4 bt227.2.2.2 bt234.2.2.2 bt241.2.2.2 0 l0_2 (l0_2.length : Int) 0 a0_0 a0_1 l0_2 bt227.1 bt227.2.1 bt227.2.2.1 bt234.1 bt234.2.1 bt234.2.2.1 bt241.1 bt241.2.1 bt241.2.2.1) else (if bt227.2.2.2 = t248 then (if bt234.2.2.2 = t248 then (some (bt241.2.2.2 == t248)) else (some false)) else (some false))))))) = some r:=by rw [if_pos rfl] at H;exact H
  clear H
  have H:=H1
  clear H1
  replace H:=Option.bind_eq_some_iff.mp H
  obtain ⟨⟨t227, t228, t229, t232⟩, A80, H⟩:=H
  replace H : ((convexpl_Move.f k a0_0 a0_1 l0_2 a3 a4).bind fun bt234=>((convexpl_Turn.f k a0_0 a0_1 l0_2).bind fun bt241=>((gridhallref3_ConvexError.f k a0_0 a0_1 l0_2).bind fun t248=>(if t248 = 0 then (gridhalllaw3_ConvexMoves.l0 k a1 a2 a3 a4 t232 bt234.2.2.2 bt241.2.2.2 0 l0_2 (l0_2.length : Int) 0 a0_0 a0_1 l0_2 t227 t228 t229 bt234.1 bt234.2.1 bt234.2.2.1 bt241.1 bt241.2.1 bt241.2.2.1) else (if t232 = t248 then (if bt234.2.2.2 = t248 then (some (bt241.2.2.2 == t248)) else (some false)) else (some false)))))) = some r:=H
  have A8:=Aside0.mk A80
  clear A80
  replace H:=Option.bind_eq_some_iff.mp H
  obtain ⟨⟨t234, t235, t236, t239⟩, A90, H⟩:=H
  replace H : ((convexpl_Turn.f k a0_0 a0_1 l0_2).bind fun bt241=>((gridhallref3_ConvexError.f k a0_0 a0_1 l0_2).bind fun t248=>(if t248 = 0 then (gridhalllaw3_ConvexMoves.l0 k a1 a2 a3 a4 t232 t239 bt241.2.2.2 0 l0_2 (l0_2.length : Int) 0 a0_0 a0_1 l0_2 t227 t228 t229 t234 t235 t236 bt241.1 bt241.2.1 bt241.2.2.1) else (if t232 = t248 then (if t239 = t248 then (some (bt241.2.2.2 == t248)) else (some false)) else (some false))))) = some r:=H
  have A9:=Aside0.mk A90
  clear A90
  replace H:=Option.bind_eq_some_iff.mp H
  obtain ⟨⟨t241, t242, t243, t246⟩, A100, H⟩:=H
  replace H : ((gridhallref3_ConvexError.f k a0_0 a0_1 l0_2).bind fun t248=>(if t248 = 0 then (gridhalllaw3_ConvexMoves.l0 k a1 a2 a3 a4 t232 t239 t246 0 l0_2 (l0_2.length : Int) 0 a0_0 a0_1 l0_2 t227 t228 t229 t234 t235 t236 t241 t242 t243) else (if t232 = t248 then (if t239 = t248 then (some (t246 == t248)) else (some false)) else (some false)))) = some r:=H
  have A10:=Aside0.mk A100
  clear A100
  replace H:=Option.bind_eq_some_iff.mp H
  obtain ⟨t248, A110, H⟩:=H
  replace H : (if t248 = 0 then (gridhalllaw3_ConvexMoves.l0 k a1 a2 a3 a4 t232 t239 t246 0 l0_2 (l0_2.length : Int) 0 a0_0 a0_1 l0_2 t227 t228 t229 t234 t235 t236 t241 t242 t243) else (if t232 = t248 then (if t239 = t248 then (some (t246 == t248)) else (some false)) else (some false))) = some r:=H
  have A11:=Aside0.mk A110
  clear A110
  by_cases c12 : t248 = 0
  ·rw [if_pos c12] at H
   have c12b0 : (t248 == 0) = true:=beq_iff_eq.mpr c12
   have c12b1 : (t248 != 0) = false:=bne_eq_false_iff_eq.mpr c12
   clear c12
   have H':=Aside0.mk H
   clear H
   go_enter Try.func6, Try.ntmps6
   go_wp2_with (first|((with_reducible refine gate_dst (N:=5) rfl ?_);(try (refine gate_guard (by rfl) ?_;dsimp only));refine box_event ?hg (N:=5) ?hd (cs:=#[.int .i64 a0_0, .int .i64 a0_1, .slice A0_2 l0_2.length c0_2]) (t:=82) ?hr ?_;(case hd=>rfl);(case hg=>rfl);(case hr=>first|(go_simp;done)|(go_simp;rfl));intro gb225 hg w13 hbox hb;have n0_:=Aside0.mk (below_step (by repeat (first|(with_reducible first|exact HB.out|apply below_alloc|apply pw_below_drewN|apply below_drew1)|exact HB.out)) hb);have n1_:=Aside0.mk (hbox);have n2_:=Aside0.mk ((by rw [hg];exact (below_size (by repeat (first|(with_reducible first|exact HB.out|apply below_alloc|apply pw_below_drewN|apply below_drew1)|exact HB.out))) : w.heap.size ≤ gb225));have n3_:=Aside0.mk ((by rw [hg];exact (below_size (by repeat (first|(with_reducible first|exact HB.out|apply below_alloc|apply pw_below_drewN|apply below_drew1)|exact HB.out))) : w.heap.size ≤ gb225));clear HB;have HB:=n0_;have BK225:=n1_;have GW225:=n2_;have GE225:=n3_;clear n0_ n1_ n2_ n3_;clear hb hbox hg)|((with_reducible refine gate_callee (f:=31) rfl ?_);refine goesL_ (some 30) rfl rfl Try.func31 (by kernel_rfl) rfl #[] rfl (by (try simp only [List.map_toArray, List.map_cons, List.map_nil]);first|done|rfl|(simp only [List.length_drop, List.length_take];rfl)) ?_;(with_reducible refine (gridhalllaw3_slopes.calls k  true _ A6.out).mono ?_);rintro e w14 ⟨rfl, hb⟩;refine ⟨_, rfl, ?_⟩;have n0_:=Aside0.mk (blk_below (g:=gb225) (o:=.cells #[.int .i64 a0_0, .int .i64 a0_1, .slice A0_2 l0_2.length c0_2] 82 (0, 0)) (by (with_reducible repeat (first|refine blk_drewN ?_ _|refine blk_drew ?_|refine blk_alloc ?_ _));exact BK225.out) hb);have n1_:=Aside0.mk (below_step (by repeat (first|(with_reducible first|exact HB.out|apply below_alloc|apply pw_below_drewN|apply below_drew1|refine below_set ?_ GE225.out)|exact HB.out)) hb);clear BK225;clear HB;have BK225:=n0_;have HB:=n1_;clear n0_ n1_;(try clear hb);(try clear hb2);(try clear hk);(try clear hi);have hcz15_0 : w14.cell? ⟨gb225, 0, none⟩ = some (.int .i64 a0_0):=(blk_cell BK225.out 0).trans rfl;have hcz15_1 : w14.cell? ⟨gb225, 1, none⟩ = some (.int .i64 a0_1):=(blk_cell BK225.out 1).trans rfl;have hcz15_2 : w14.cell? ⟨gb225, 2, none⟩ = some (.slice A0_2 l0_2.length c0_2):=(blk_cell BK225.out 2).trans rfl;have hfz15_0:=blk_frozen BK225.out 0;have hfz15_1:=blk_frozen BK225.out 1;have hfz15_2:=blk_frozen BK225.out 2)|((with_reducible refine gate_callee (f:=32) rfl ?_);refine goesL_ (some 36) rfl rfl Try.func32 (by kernel_rfl) rfl #[.agg #[.int .i64 a0_0, .int .i64 a0_1, .slice A0_2 l0_2.length c0_2], .int .i64 a1, .int .i64 a2] rfl (by (try simp only [List.map_toArray, List.map_cons, List.map_nil]);first|done|rfl|(simp only [List.length_drop, List.length_take];rfl)) ?_;(with_reducible refine (convexpl_Restrict.calls k a0_0 a0_1 _ _ l0_2 a1 a2 t227 t228 t229 t232 _ ?side1 ?side2 A8.out).mono ?_);(case side1=>repeat (first|exact (Kd.C_below HR0_2.out HB.out)|(with_reducible refine Kd.C_alloc ?_ _)|(with_reducible refine Kd.C_drewN ?_ _)|(with_reducible refine Kd.C_drew ?_)));(case side2=>exact HC0_2.out);rintro e w16 ⟨v230, rfl, ho0, hb⟩;refine ⟨_, rfl, ?_⟩;have n0_:=Aside0.mk (Kd.R_lower ho0 (below_size (by repeat (first|(with_reducible first|exact HB.out|apply below_alloc|apply pw_below_drewN|apply below_drew1|refine below_set ?_ GE225.out)|exact HB.out))));have n1_:=Aside0.mk (blk_below (g:=gb225) (o:=.cells #[.int .i64 a0_0, .int .i64 a0_1, .slice A0_2 l0_2.length c0_2] 82 (0, 0)) (by (with_reducible repeat (first|refine blk_drewN ?_ _|refine blk_drew ?_|refine blk_alloc ?_ _));exact BK225.out) hb);have n2_:=Aside0.mk (below_step (by repeat (first|(with_reducible first|exact HB.out|apply below_alloc|apply pw_below_drewN|apply below_drew1|refine below_set ?_ GE225.out)|exact HB.out)) hb);clear BK225;clear HB;have HO231:=n0_;have BK225:=n1_;have HB:=n2_;clear n0_ n1_ n2_;(try clear hb);(try clear hb2);(try clear hk);(try clear hi);(try clear ho0))|((with_reducible refine gate_dst (N:=11) rfl ?_);(try (refine gate_guard (by rfl) ?_;dsimp only));refine box_event ?hg (N:=11) ?hd (cs:=#[.int .i64 0, .int .i64 0, .slice none 0 0]) (t:=82) ?hr ?_;(case hd=>rfl);(case hg=>rfl);(case hr=>first|(go_simp;done)|(go_simp;rfl));intro gb233 hg w17 hbox hb;have n0_:=Aside0.mk (Kd.R_below (by (with_reducible repeat (first|apply Kd.R_alloc|apply Kd.R_drewN|apply Kd.R_drew));exact HO231.out) hb);have n1_:=Aside0.mk (blk_below (g:=gb225) (o:=.cells #[.int .i64 a0_0, .int .i64 a0_1, .slice A0_2 l0_2.length c0_2] 82 (0, 0)) (by (with_reducible repeat (first|refine blk_drewN ?_ _|refine blk_drew ?_|refine blk_alloc ?_ _));exact BK225.out) hb);have n2_:=Aside0.mk (below_step (by repeat (first|(with_reducible first|exact HB.out|apply below_alloc|apply pw_below_drewN|apply below_drew1|refine below_set ?_ GE225.out)|exact HB.out)) hb);have n3_:=Aside0.mk (hbox);have n4_:=Aside0.mk ((by rw [hg];exact (below_size (by repeat (first|(with_reducible first|exact HB.out|apply below_alloc|apply pw_below_drewN|apply below_drew1|refine below_set ?_ GE225.out)|exact HB.out))) : w.heap.size ≤ gb233));have n5_:=Aside0.mk ((by rw [hg];exact (below_size (by repeat (first|(with_reducible first|exact HB.out|apply below_alloc|apply pw_below_drewN|apply below_drew1|refine below_set ?_ GE225.out)|exact HB.out))) : w.heap.size ≤ gb233));have n6_:=Aside0.mk ((by rw [hg];exact Nat.ne_of_lt (blk_lt (g:=gb225) (o:=.cells #[.int .i64 a0_0, .int .i64 a0_1, .slice A0_2 l0_2.length c0_2] 82 (0, 0)) (by (with_reducible repeat (first|refine blk_drewN ?_ _|refine blk_drew ?_|refine blk_alloc ?_ _));exact BK225.out)) : gb225 ≠ gb233));have n7_:=Aside0.mk ((by rw [hg];exact Nat.ne_of_gt (blk_lt (g:=gb225) (o:=.cells #[.int .i64 a0_0, .int .i64 a0_1, .slice A0_2 l0_2.length c0_2] 82 (0, 0)) (by (with_reducible repeat (first|refine blk_drewN ?_ _|refine blk_drew ?_|refine blk_alloc ?_ _));exact BK225.out)) : gb233 ≠ gb225));clear HO231;clear BK225;clear HB;have HO231:=n0_;have BK225:=n1_;have HB:=n2_;have BK233:=n3_;have GW233:=n4_;have GE233:=n5_;have NB225_233:=n6_;have NB233_225:=n7_;clear n0_ n1_ n2_ n3_ n4_ n5_ n6_ n7_;clear hb hbox hg;have hnb18:=NB233_225.out;have hnc18:=NB225_233.out;have hcz19_0 : w17.cell? ⟨gb233, 0, none⟩ = some (.int .i64 0):=(blk_cell BK233.out 0).trans rfl;have hcz19_1 : w17.cell? ⟨gb233, 1, none⟩ = some (.int .i64 0):=(blk_cell BK233.out 1).trans rfl;have hcz19_2 : w17.cell? ⟨gb233, 2, none⟩ = some (.slice none 0 0):=(blk_cell BK233.out 2).trans rfl;have hfz19_0:=blk_frozen BK233.out 0;have hfz19_1:=blk_frozen BK233.out 1;have hfz19_2:=blk_frozen BK233.out 2;obtain ⟨Ao20, co20, eo20⟩:=Kd.R_slice HO231.out;subst eo20;have hcz21_0 : w17.cell? ⟨gb225, 0, none⟩ = some (.int .i64 a0_0):=(blk_cell BK225.out 0).trans rfl;have hcz21_1 : w17.cell? ⟨gb225, 1, none⟩ = some (.int .i64 a0_1):=(blk_cell BK225.out 1).trans rfl;have hcz21_2 : w17.cell? ⟨gb225, 2, none⟩ = some (.slice A0_2 l0_2.length c0_2):=(blk_cell BK225.out 2).trans rfl;have hfz21_0:=blk_frozen BK225.out 0;have hfz21_1:=blk_frozen BK225.out 1;have hfz21_2:=blk_frozen BK225.out 2)|((with_reducible refine gate_callee (f:=33) rfl ?_);refine goesL_ (some 43) rfl rfl Try.func33 (by kernel_rfl) rfl #[.agg #[.int .i64 a0_0, .int .i64 a0_1, .slice A0_2 l0_2.length c0_2], .int .i64 a3, .int .i64 a4] rfl (by (try simp only [List.map_toArray, List.map_cons, List.map_nil]);first|done|rfl|(simp only [List.length_drop, List.length_take];rfl)) ?_;(with_reducible refine (convexpl_Move.calls k a0_0 a0_1 _ _ l0_2 a3 a4 t234 t235 t236 t239 _ ?side1 ?side2 A9.out).mono ?_);(case side1=>exact Kd.C_below HR0_2.out (by repeat (first|(with_reducible first|exact HB.out|apply below_alloc|apply pw_below_drewN|apply below_drew1|refine below_set ?_ GE225.out|refine below_set ?_ GE233.out)|exact HB.out)));(case side2=>exact HC0_2.out);rintro e w22 ⟨v237, rfl, ho0, hb⟩;refine ⟨_, rfl, ?_⟩;have n0_:=Aside0.mk (Kd.R_elder' (by (with_reducible repeat (first|apply Kd.R_alloc|apply Kd.R_drewN|apply Kd.R_drew));exact (Kd.R_mono (Kd.R_far (p:=⟨gb233, 2, none⟩) (Kd.R_far (p:=⟨gb233, 1, none⟩) (Kd.R_far (p:=⟨gb233, 0, none⟩) (Kd.R_types HO231.out BK233.out (by decide)) (fun _ hk=>hk.2) (.int .i64 t227)) (fun _ hk=>hk.2) (.int .i64 t228)) (fun _ hk=>hk.2) (.slice Ao20 t229.length co20)) (fun _ h_=>h_.1))) (Kd.R_base ho0) hb);have n1_:=Aside0.mk (Kd.R_lower (Kd.R_new' ho0 (Kd.R_lt (by (with_reducible repeat (first|apply Kd.R_alloc|apply Kd.R_drewN|apply Kd.R_drew));exact (Kd.R_mono (Kd.R_far (p:=⟨gb233, 2, none⟩) (Kd.R_far (p:=⟨gb233, 1, none⟩) (Kd.R_far (p:=⟨gb233, 0, none⟩) (Kd.R_types HO231.out BK233.out (by decide)) (fun _ hk=>hk.2) (.int .i64 t227)) (fun _ hk=>hk.2) (.int .i64 t228)) (fun _ hk=>hk.2) (.slice Ao20 t229.length co20)) (fun _ h_=>h_.1))))) (below_size (by repeat (first|(with_reducible first|exact HB.out|apply below_alloc|apply pw_below_drewN|apply below_drew1|refine below_set ?_ GE225.out|refine below_set ?_ GE233.out)|exact HB.out))));have n2_:=Aside0.mk (blk_below (g:=gb225) (o:=.cells #[.int .i64 a0_0, .int .i64 a0_1, .slice A0_2 l0_2.length c0_2] 82 (0, 0)) (by (with_reducible repeat (first|refine blk_drewN ?_ _|refine blk_drew ?_|refine blk_alloc ?_ _));refine blk_far ?_ NB225_233.out _;(with_reducible repeat (first|refine blk_drewN ?_ _|refine blk_drew ?_|refine blk_alloc ?_ _));refine blk_far ?_ NB225_233.out _;(with_reducible repeat (first|refine blk_drewN ?_ _|refine blk_drew ?_|refine blk_alloc ?_ _));refine blk_far ?_ NB225_233.out _;(with_reducible repeat (first|refine blk_drewN ?_ _|refine blk_drew ?_|refine blk_alloc ?_ _));exact BK225.out) hb);have n3_:=Aside0.mk (blk_below (g:=gb233) (o:=.cells #[.int .i64 t227, .int .i64 t228, .slice Ao20 t229.length co20] 82 (0, 0)) (by (with_reducible repeat (first|refine blk_drewN ?_ _|refine blk_drew ?_|refine blk_alloc ?_ _));refine blk_put (cs:=#[.int .i64 t227, .int .i64 t228, .slice none 0 0]) ?_ 2 _ rfl;(with_reducible repeat (first|refine blk_drewN ?_ _|refine blk_drew ?_|refine blk_alloc ?_ _));refine blk_put (cs:=#[.int .i64 t227, .int .i64 0, .slice none 0 0]) ?_ 1 _ rfl;(with_reducible repeat (first|refine blk_drewN ?_ _|refine blk_drew ?_|refine blk_alloc ?_ _));refine blk_put (cs:=#[.int .i64 0, .int .i64 0, .slice none 0 0]) ?_ 0 _ rfl;(with_reducible repeat (first|refine blk_drewN ?_ _|refine blk_drew ?_|refine blk_alloc ?_ _));exact BK233.out) hb);have n4_:=Aside0.mk (below_step (by repeat (first|(with_reducible first|exact HB.out|apply below_alloc|apply pw_below_drewN|apply below_drew1|refine below_set ?_ GE225.out|refine below_set ?_ GE233.out)|exact HB.out)) hb);clear HO231;clear BK225;clear BK233;clear HB;have HO231:=n0_;have HO238:=n1_;have BK225:=n2_;have BK233:=n3_;have HB:=n4_;clear n0_ n1_ n2_ n3_ n4_;(try clear hb);(try clear hb2);(try clear hk);(try clear hi);(try clear ho0))|((with_reducible refine gate_dst (N:=13) rfl ?_);(try (refine gate_guard (by rfl) ?_;dsimp only));refine box_event ?hg (N:=13) ?hd (cs:=#[.int .i64 0, .int .i64 0, .slice none 0 0]) (t:=82) ?hr ?_;(case hd=>rfl);(case hg=>rfl);(case hr=>first|(go_simp;done)|(go_simp;rfl));intro gb240 hg w23 hbox hb;have n0_:=Aside0.mk (Kd.R_below (by (with_reducible repeat (first|apply Kd.R_alloc|apply Kd.R_drewN|apply Kd.R_drew));exact HO231.out) hb);have n1_:=Aside0.mk (Kd.R_below (by (with_reducible repeat (first|apply Kd.R_alloc|apply Kd.R_drewN|apply Kd.R_drew));exact HO238.out) hb);have n2_:=Aside0.mk (blk_below (g:=gb225) (o:=.cells #[.int .i64 a0_0, .int .i64 a0_1, .slice A0_2 l0_2.length c0_2] 82 (0, 0)) (by (with_reducible repeat (first|refine blk_drewN ?_ _|refine blk_drew ?_|refine blk_alloc ?_ _));exact BK225.out) hb);have n3_:=Aside0.mk (blk_below (g:=gb233) (o:=.cells #[.int .i64 t227, .int .i64 t228, .slice Ao20 t229.length co20] 82 (0, 0)) (by (with_reducible repeat (first|refine blk_drewN ?_ _|refine blk_drew ?_|refine blk_alloc ?_ _));exact BK233.out) hb);have n4_:=Aside0.mk (below_step (by repeat (first|(with_reducible first|exact HB.out|apply below_alloc|apply pw_below_drewN|apply below_drew1|refine below_set ?_ GE225.out|refine below_set ?_ GE233.out)|exact HB.out)) hb);have n5_:=Aside0.mk (hbox);have n6_:=Aside0.mk ((by rw [hg];exact (below_size (by repeat (first|(with_reducible first|exact HB.out|apply below_alloc|apply pw_below_drewN|apply below_drew1|refine below_set ?_ GE225.out|refine below_set ?_ GE233.out)|exact HB.out))) : w.heap.size ≤ gb240));have n7_:=Aside0.mk ((by rw [hg];exact (below_size (by repeat (first|(with_reducible first|exact HB.out|apply below_alloc|apply pw_below_drewN|apply below_drew1|refine below_set ?_ GE225.out|refine below_set ?_ GE233.out)|exact HB.out))) : w.heap.size ≤ gb240));have n8_:=Aside0.mk ((by rw [hg];exact Nat.ne_of_lt (blk_lt (g:=gb225) (o:=.cells #[.int .i64 a0_0, .int .i64 a0_1, .slice A0_2 l0_2.length c0_2] 82 (0, 0)) (by (with_reducible repeat (first|refine blk_drewN ?_ _|refine blk_drew ?_|refine blk_alloc ?_ _));exact BK225.out)) : gb225 ≠ gb240));have n9_:=Aside0.mk ((by rw [hg];exact Nat.ne_of_gt (blk_lt (g:=gb225) (o:=.cells #[.int .i64 a0_0, .int .i64 a0_1, .slice A0_2 l0_2.length c0_2] 82 (0, 0)) (by (with_reducible repeat (first|refine blk_drewN ?_ _|refine blk_drew ?_|refine blk_alloc ?_ _));exact BK225.out)) : gb240 ≠ gb225));have n10_:=Aside0.mk ((by rw [hg];exact Nat.ne_of_lt (blk_lt (g:=gb233) (o:=.cells #[.int .i64 t227, .int .i64 t228, .slice Ao20 t229.length co20] 82 (0, 0)) (by (with_reducible repeat (first|refine blk_drewN ?_ _|refine blk_drew ?_|refine blk_alloc ?_ _));exact BK233.out)) : gb233 ≠ gb240));have n11_:=Aside0.mk ((by rw [hg];exact Nat.ne_of_gt (blk_lt (g:=gb233) (o:=.cells #[.int .i64 t227, .int .i64 t228, .slice Ao20 t229.length co20] 82 (0, 0)) (by (with_reducible repeat (first|refine blk_drewN ?_ _|refine blk_drew ?_|refine blk_alloc ?_ _));exact BK233.out)) : gb240 ≠ gb233));clear HO231;clear HO238;clear BK225;clear BK233;clear HB;have HO231:=n0_;have HO238:=n1_;have BK225:=n2_;have BK233:=n3_;have HB:=n4_;have BK240:=n5_;have GW240:=n6_;have GE240:=n7_;have NB225_240:=n8_;have NB240_225:=n9_;have NB233_240:=n10_;have NB240_233:=n11_;clear n0_ n1_ n2_ n3_ n4_ n5_ n6_ n7_ n8_ n9_ n10_ n11_;clear hb hbox hg;have hnb24:=NB240_225.out;have hnc24:=NB225_240.out;have hnb25:=NB240_233.out;have hnc25:=NB233_240.out;have hcz26_0 : w23.cell? ⟨gb240, 0, none⟩ = some (.int .i64 0):=(blk_cell BK240.out 0).trans rfl;have hcz26_1 : w23.cell? ⟨gb240, 1, none⟩ = some (.int .i64 0):=(blk_cell BK240.out 1).trans rfl;have hcz26_2 : w23.cell? ⟨gb240, 2, none⟩ = some (.slice none 0 0):=(blk_cell BK240.out 2).trans rfl;have hfz26_0:=blk_frozen BK240.out 0;have hfz26_1:=blk_frozen BK240.out 1;have hfz26_2:=blk_frozen BK240.out 2;obtain ⟨Ao27, co27, eo27⟩:=Kd.R_slice HO238.out;subst eo27;have hcz28_0 : w23.cell? ⟨gb225, 0, none⟩ = some (.int .i64 a0_0):=(blk_cell BK225.out 0).trans rfl;have hcz28_1 : w23.cell? ⟨gb225, 1, none⟩ = some (.int .i64 a0_1):=(blk_cell BK225.out 1).trans rfl;have hcz28_2 : w23.cell? ⟨gb225, 2, none⟩ = some (.slice A0_2 l0_2.length c0_2):=(blk_cell BK225.out 2).trans rfl;have hfz28_0:=blk_frozen BK225.out 0;have hfz28_1:=blk_frozen BK225.out 1;have hfz28_2:=blk_frozen BK225.out 2)|((with_reducible refine gate_callee (f:=34) rfl ?_);refine goesL_ (some 48) rfl rfl Try.func34 (by kernel_rfl) rfl #[.agg #[.int .i64 a0_0, .int .i64 a0_1, .slice A0_2 l0_2.length c0_2]] rfl (by (try simp only [List.map_toArray, List.map_cons, List.map_nil]);first|done|rfl|(simp only [List.length_drop, List.length_take];rfl)) ?_;(with_reducible refine (convexpl_Turn.calls k a0_0 a0_1 _ _ l0_2 t241 t242 t243 t246 _ ?side1 ?side2 A10.out).mono ?_);(case side1=>exact Kd.C_below HR0_2.out (by repeat (first|(with_reducible first|exact HB.out|apply below_alloc|apply pw_below_drewN|apply below_drew1|refine below_set ?_ GE225.out|refine below_set ?_ GE233.out|refine below_set ?_ GE240.out)|exact HB.out)));(case side2=>exact HC0_2.out);rintro e w29 ⟨v244, rfl, ho0, hb⟩;refine ⟨_, rfl, ?_⟩;have n0_:=Aside0.mk (Kd.R_elder' (by (with_reducible repeat (first|apply Kd.R_alloc|apply Kd.R_drewN|apply Kd.R_drew));exact (Kd.R_mono (Kd.R_far (p:=⟨gb240, 2, none⟩) (Kd.R_far (p:=⟨gb240, 1, none⟩) (Kd.R_far (p:=⟨gb240, 0, none⟩) (Kd.R_types HO231.out BK240.out (by decide)) (fun _ hk=>hk.2) (.int .i64 t234)) (fun _ hk=>hk.2) (.int .i64 t235)) (fun _ hk=>hk.2) (.slice Ao27 t236.length co27)) (fun _ h_=>h_.1))) (Kd.R_base ho0) hb);have n1_:=Aside0.mk (Kd.R_elder' (by (with_reducible repeat (first|apply Kd.R_alloc|apply Kd.R_drewN|apply Kd.R_drew));exact (Kd.R_mono (Kd.R_far (p:=⟨gb240, 2, none⟩) (Kd.R_far (p:=⟨gb240, 1, none⟩) (Kd.R_far (p:=⟨gb240, 0, none⟩) (Kd.R_types HO238.out BK240.out (by decide)) (fun _ hk=>hk.2) (.int .i64 t234)) (fun _ hk=>hk.2) (.int .i64 t235)) (fun _ hk=>hk.2) (.slice Ao27 t236.length co27)) (fun _ h_=>h_.1))) (Kd.R_base ho0) hb);have n2_:=Aside0.mk (Kd.R_lower (Kd.R_new' (Kd.R_new' ho0 (Kd.R_lt (by (with_reducible repeat (first|apply Kd.R_alloc|apply Kd.R_drewN|apply Kd.R_drew));exact (Kd.R_mono (Kd.R_far (p:=⟨gb240, 2, none⟩) (Kd.R_far (p:=⟨gb240, 1, none⟩) (Kd.R_far (p:=⟨gb240, 0, none⟩) (Kd.R_types HO231.out BK240.out (by decide)) (fun _ hk=>hk.2) (.int .i64 t234)) (fun _ hk=>hk.2) (.int .i64 t235)) (fun _ hk=>hk.2) (.slice Ao27 t236.length co27)) (fun _ h_=>h_.1))))) (Kd.R_lt (by (with_reducible repeat (first|apply Kd.R_alloc|apply Kd.R_drewN|apply Kd.R_drew));exact (Kd.R_mono (Kd.R_far (p:=⟨gb240, 2, none⟩) (Kd.R_far (p:=⟨gb240, 1, none⟩) (Kd.R_far (p:=⟨gb240, 0, none⟩) (Kd.R_types HO238.out BK240.out (by decide)) (fun _ hk=>hk.2) (.int .i64 t234)) (fun _ hk=>hk.2) (.int .i64 t235)) (fun _ hk=>hk.2) (.slice Ao27 t236.length co27)) (fun _ h_=>h_.1))))) (below_size (by repeat (first|(with_reducible first|exact HB.out|apply below_alloc|apply pw_below_drewN|apply below_drew1|refine below_set ?_ GE225.out|refine below_set ?_ GE233.out|refine below_set ?_ GE240.out)|exact HB.out))));have n3_:=Aside0.mk (blk_below (g:=gb225) (o:=.cells #[.int .i64 a0_0, .int .i64 a0_1, .slice A0_2 l0_2.length c0_2] 82 (0, 0)) (by (with_reducible repeat (first|refine blk_drewN ?_ _|refine blk_drew ?_|refine blk_alloc ?_ _));refine blk_far ?_ NB225_240.out _;(with_reducible repeat (first|refine blk_drewN ?_ _|refine blk_drew ?_|refine blk_alloc ?_ _));refine blk_far ?_ NB225_240.out _;(with_reducible repeat (first|refine blk_drewN ?_ _|refine blk_drew ?_|refine blk_alloc ?_ _));refine blk_far ?_ NB225_240.out _;(with_reducible repeat (first|refine blk_drewN ?_ _|refine blk_drew ?_|refine blk_alloc ?_ _));exact BK225.out) hb);have n4_:=Aside0.mk (blk_below (g:=gb233) (o:=.cells #[.int .i64 t227, .int .i64 t228, .slice Ao20 t229.length co20] 82 (0, 0)) (by (with_reducible repeat (first|refine blk_drewN ?_ _|refine blk_drew ?_|refine blk_alloc ?_ _));refine blk_far ?_ NB233_240.out _;(with_reducible repeat (first|refine blk_drewN ?_ _|refine blk_drew ?_|refine blk_alloc ?_ _));refine blk_far ?_ NB233_240.out _;(with_reducible repeat (first|refine blk_drewN ?_ _|refine blk_drew ?_|refine blk_alloc ?_ _));refine blk_far ?_ NB233_240.out _;(with_reducible repeat (first|refine blk_drewN ?_ _|refine blk_drew ?_|refine blk_alloc ?_ _));exact BK233.out) hb);have n5_:=Aside0.mk (blk_below (g:=gb240) (o:=.cells #[.int .i64 t234, .int .i64 t235, .slice Ao27 t236.length co27] 82 (0, 0)) (by (with_reducible repeat (first|refine blk_drewN ?_ _|refine blk_drew ?_|refine blk_alloc ?_ _));refine blk_put (cs:=#[.int .i64 t234, .int .i64 t235, .slice none 0 0]) ?_ 2 _ rfl;(with_reducible repeat (first|refine blk_drewN ?_ _|refine blk_drew ?_|refine blk_alloc ?_ _));refine blk_put (cs:=#[.int .i64 t234, .int .i64 0, .slice none 0 0]) ?_ 1 _ rfl;(with_reducible repeat (first|refine blk_drewN ?_ _|refine blk_drew ?_|refine blk_alloc ?_ _));refine blk_put (cs:=#[.int .i64 0, .int .i64 0, .slice none 0 0]) ?_ 0 _ rfl;(with_reducible repeat (first|refine blk_drewN ?_ _|refine blk_drew ?_|refine blk_alloc ?_ _));exact BK240.out) hb);have n6_:=Aside0.mk (below_step (by repeat (first|(with_reducible first|exact HB.out|apply below_alloc|apply pw_below_drewN|apply below_drew1|refine below_set ?_ GE225.out|refine below_set ?_ GE233.out|refine below_set ?_ GE240.out)|exact HB.out)) hb);clear HO231;clear HO238;clear BK225;clear BK233;clear BK240;clear HB;have HO231:=n0_;have HO238:=n1_;have HO245:=n2_;have BK225:=n3_;have BK233:=n4_;have BK240:=n5_;have HB:=n6_;clear n0_ n1_ n2_ n3_ n4_ n5_ n6_;(try clear hb);(try clear hb2);(try clear hk);(try clear hi);(try clear ho0))|((with_reducible refine gate_dst (N:=15) rfl ?_);(try (refine gate_guard (by rfl) ?_;dsimp only));refine box_event ?hg (N:=15) ?hd (cs:=#[.int .i64 0, .int .i64 0, .slice none 0 0]) (t:=82) ?hr ?_;(case hd=>rfl);(case hg=>rfl);(case hr=>first|(go_simp;done)|(go_simp;rfl));intro gb247 hg w30 hbox hb;have n0_:=Aside0.mk (Kd.R_below (by (with_reducible repeat (first|apply Kd.R_alloc|apply Kd.R_drewN|apply Kd.R_drew));exact HO231.out) hb);have n1_:=Aside0.mk (Kd.R_below (by (with_reducible repeat (first|apply Kd.R_alloc|apply Kd.R_drewN|apply Kd.R_drew));exact HO238.out) hb);have n2_:=Aside0.mk (Kd.R_below (by (with_reducible repeat (first|apply Kd.R_alloc|apply Kd.R_drewN|apply Kd.R_drew));exact HO245.out) hb);have n3_:=Aside0.mk (blk_below (g:=gb225) (o:=.cells #[.int .i64 a0_0, .int .i64 a0_1, .slice A0_2 l0_2.length c0_2] 82 (0, 0)) (by (with_reducible repeat (first|refine blk_drewN ?_ _|refine blk_drew ?_|refine blk_alloc ?_ _));exact BK225.out) hb);have n4_:=Aside0.mk (blk_below (g:=gb233) (o:=.cells #[.int .i64 t227, .int .i64 t228, .slice Ao20 t229.length co20] 82 (0, 0)) (by (with_reducible repeat (first|refine blk_drewN ?_ _|refine blk_drew ?_|refine blk_alloc ?_ _));exact BK233.out) hb);have n5_:=Aside0.mk (blk_below (g:=gb240) (o:=.cells #[.int .i64 t234, .int .i64 t235, .slice Ao27 t236.length co27] 82 (0, 0)) (by (with_reducible repeat (first|refine blk_drewN ?_ _|refine blk_drew ?_|refine blk_alloc ?_ _));exact BK240.out) hb);have n6_:=Aside0.mk (below_step (by repeat (first|(with_reducible first|exact HB.out|apply below_alloc|apply pw_below_drewN|apply below_drew1|refine below_set ?_ GE225.out|refine below_set ?_ GE233.out|refine below_set ?_ GE240.out)|exact HB.out)) hb);have n7_:=Aside0.mk (hbox);have n8_:=Aside0.mk ((by rw [hg];exact (below_size (by repeat (first|(with_reducible first|exact HB.out|apply below_alloc|apply pw_below_drewN|apply below_drew1|refine below_set ?_ GE225.out|refine below_set ?_ GE233.out|refine below_set ?_ GE240.out)|exact HB.out))) : w.heap.size ≤ gb247));have n9_:=Aside0.mk ((by rw [hg];exact (below_size (by repeat (first|(with_reducible first|exact HB.out|apply below_alloc|apply pw_below_drewN|apply below_drew1|refine below_set ?_ GE225.out|refine below_set ?_ GE233.out|refine below_set ?_ GE240.out)|exact HB.out))) : w.heap.size ≤ gb247));have n10_:=Aside0.mk ((by rw [hg];exact Nat.ne_of_lt (blk_lt (g:=gb225) (o:=.cells #[.int .i64 a0_0, .int .i64 a0_1, .slice A0_2 l0_2.length c0_2] 82 (0, 0)) (by (with_reducible repeat (first|refine blk_drewN ?_ _|refine blk_drew ?_|refine blk_alloc ?_ _));exact BK225.out)) : gb225 ≠ gb247));have n11_:=Aside0.mk ((by rw [hg];exact Nat.ne_of_gt (blk_lt (g:=gb225) (o:=.cells #[.int .i64 a0_0, .int .i64 a0_1, .slice A0_2 l0_2.length c0_2] 82 (0, 0)) (by (with_reducible repeat (first|refine blk_drewN ?_ _|refine blk_drew ?_|refine blk_alloc ?_ _));exact BK225.out)) : gb247 ≠ gb225));have n12_:=Aside0.mk ((by rw [hg];exact Nat.ne_of_lt (blk_lt (g:=gb233) (o:=.cells #[.int .i64 t227, .int .i64 t228, .slice Ao20 t229.length co20] 82 (0, 0)) (by (with_reducible repeat (first|refine blk_drewN ?_ _|refine blk_drew ?_|refine blk_alloc ?_ _));exact BK233.out)) : gb233 ≠ gb247));have n13_:=Aside0.mk ((by rw [hg];exact Nat.ne_of_gt (blk_lt (g:=gb233) (o:=.cells #[.int .i64 t227, .int .i64 t228, .slice Ao20 t229.length co20] 82 (0, 0)) (by (with_reducible repeat (first|refine blk_drewN ?_ _|refine blk_drew ?_|refine blk_alloc ?_ _));exact BK233.out)) : gb247 ≠ gb233));have n14_:=Aside0.mk ((by rw [hg];exact Nat.ne_of_lt (blk_lt (g:=gb240) (o:=.cells #[.int .i64 t234, .int .i64 t235, .slice Ao27 t236.length co27] 82 (0, 0)) (by (with_reducible repeat (first|refine blk_drewN ?_ _|refine blk_drew ?_|refine blk_alloc ?_ _));exact BK240.out)) : gb240 ≠ gb247));have n15_:=Aside0.mk ((by rw [hg];exact Nat.ne_of_gt (blk_lt (g:=gb240) (o:=.cells #[.int .i64 t234, .int .i64 t235, .slice Ao27 t236.length co27] 82 (0, 0)) (by (with_reducible repeat (first|refine blk_drewN ?_ _|refine blk_drew ?_|refine blk_alloc ?_ _));exact BK240.out)) : gb247 ≠ gb240));clear HO231;clear HO238;clear HO245;clear BK225;clear BK233;clear BK240;clear HB;have HO231:=n0_;have HO238:=n1_;have HO245:=n2_;have BK225:=n3_;have BK233:=n4_;have BK240:=n5_;have HB:=n6_;have BK247:=n7_;have GW247:=n8_;have GE247:=n9_;have NB225_247:=n10_;have NB247_225:=n11_;have NB233_247:=n12_;have NB247_233:=n13_;have NB240_247:=n14_;have NB247_240:=n15_;clear n0_ n1_ n2_ n3_ n4_ n5_ n6_ n7_ n8_ n9_ n10_ n11_ n12_ n13_ n14_ n15_;clear hb hbox hg;have hnb31:=NB247_225.out;have hnc31:=NB225_247.out;have hnb32:=NB247_233.out;have hnc32:=NB233_247.out;have hnb33:=NB247_240.out;have hnc33:=NB240_247.out;have hcz34_0 : w30.cell? ⟨gb247, 0, none⟩ = some (.int .i64 0):=(blk_cell BK247.out 0).trans rfl;have hcz34_1 : w30.cell? ⟨gb247, 1, none⟩ = some (.int .i64 0):=(blk_cell BK247.out 1).trans rfl;have hcz34_2 : w30.cell? ⟨gb247, 2, none⟩ = some (.slice none 0 0):=(blk_cell BK247.out 2).trans rfl;have hfz34_0:=blk_frozen BK247.out 0;have hfz34_1:=blk_frozen BK247.out 1;have hfz34_2:=blk_frozen BK247.out 2;obtain ⟨Ao35, co35, eo35⟩:=Kd.R_slice HO245.out;subst eo35;have hcz36_0 : w30.cell? ⟨gb225, 0, none⟩ = some (.int .i64 a0_0):=(blk_cell BK225.out 0).trans rfl;have hcz36_1 : w30.cell? ⟨gb225, 1, none⟩ = some (.int .i64 a0_1):=(blk_cell BK225.out 1).trans rfl;have hcz36_2 : w30.cell? ⟨gb225, 2, none⟩ = some (.slice A0_2 l0_2.length c0_2):=(blk_cell BK225.out 2).trans rfl;have hfz36_0:=blk_frozen BK225.out 0;have hfz36_1:=blk_frozen BK225.out 1;have hfz36_2:=blk_frozen BK225.out 2)|((with_reducible refine gate_callee (f:=35) rfl ?_);refine goesL_ (some 52) rfl rfl Try.func35 (by kernel_rfl) rfl #[.agg #[.int .i64 a0_0, .int .i64 a0_1, .slice A0_2 l0_2.length c0_2]] rfl (by (try simp only [List.map_toArray, List.map_cons, List.map_nil]);first|done|rfl|(simp only [List.length_drop, List.length_take];rfl)) ?_;(with_reducible refine (gridhallref3_ConvexError.calls k a0_0 a0_1 _ _ l0_2 t248 _ ?side1 ?side2 A11.out).mono ?_);(case side1=>exact Kd.C_below HR0_2.out (by repeat (first|(with_reducible first|exact HB.out|apply below_alloc|apply pw_below_drewN|apply below_drew1|refine below_set ?_ GE225.out|refine below_set ?_ GE233.out|refine below_set ?_ GE240.out|refine below_set ?_ GE247.out)|exact HB.out)));(case side2=>exact HC0_2.out);rintro e w37 ⟨rfl, hb⟩;refine ⟨_, rfl, ?_⟩;have n0_:=Aside0.mk (Kd.R_below (by (with_reducible repeat (first|apply Kd.R_alloc|apply Kd.R_drewN|apply Kd.R_drew));exact (Kd.R_mono (Kd.R_far (p:=⟨gb247, 2, none⟩) (Kd.R_far (p:=⟨gb247, 1, none⟩) (Kd.R_far (p:=⟨gb247, 0, none⟩) (Kd.R_types HO231.out BK247.out (by decide)) (fun _ hk=>hk.2) (.int .i64 t241)) (fun _ hk=>hk.2) (.int .i64 t242)) (fun _ hk=>hk.2) (.slice Ao35 t243.length co35)) (fun _ h_=>h_.1))) hb);have n1_:=Aside0.mk (Kd.R_below (by (with_reducible repeat (first|apply Kd.R_alloc|apply Kd.R_drewN|apply Kd.R_drew));exact (Kd.R_mono (Kd.R_far (p:=⟨gb247, 2, none⟩) (Kd.R_far (p:=⟨gb247, 1, none⟩) (Kd.R_far (p:=⟨gb247, 0, none⟩) (Kd.R_types HO238.out BK247.out (by decide)) (fun _ hk=>hk.2) (.int .i64 t241)) (fun _ hk=>hk.2) (.int .i64 t242)) (fun _ hk=>hk.2) (.slice Ao35 t243.length co35)) (fun _ h_=>h_.1))) hb);have n2_:=Aside0.mk (Kd.R_below (by (with_reducible repeat (first|apply Kd.R_alloc|apply Kd.R_drewN|apply Kd.R_drew));exact (Kd.R_mono (Kd.R_far (p:=⟨gb247, 2, none⟩) (Kd.R_far (p:=⟨gb247, 1, none⟩) (Kd.R_far (p:=⟨gb247, 0, none⟩) (Kd.R_types HO245.out BK247.out (by decide)) (fun _ hk=>hk.2) (.int .i64 t241)) (fun _ hk=>hk.2) (.int .i64 t242)) (fun _ hk=>hk.2) (.slice Ao35 t243.length co35)) (fun _ h_=>h_.1))) hb);have n3_:=Aside0.mk (blk_below (g:=gb225) (o:=.cells #[.int .i64 a0_0, .int .i64 a0_1, .slice A0_2 l0_2.length c0_2] 82 (0, 0)) (by (with_reducible repeat (first|refine blk_drewN ?_ _|refine blk_drew ?_|refine blk_alloc ?_ _));refine blk_far ?_ NB225_247.out _;(with_reducible repeat (first|refine blk_drewN ?_ _|refine blk_drew ?_|refine blk_alloc ?_ _));refine blk_far ?_ NB225_247.out _;(with_reducible repeat (first|refine blk_drewN ?_ _|refine blk_drew ?_|refine blk_alloc ?_ _));refine blk_far ?_ NB225_247.out _;(with_reducible repeat (first|refine blk_drewN ?_ _|refine blk_drew ?_|refine blk_alloc ?_ _));exact BK225.out) hb);have n4_:=Aside0.mk (blk_below (g:=gb233) (o:=.cells #[.int .i64 t227, .int .i64 t228, .slice Ao20 t229.length co20] 82 (0, 0)) (by (with_reducible repeat (first|refine blk_drewN ?_ _|refine blk_drew ?_|refine blk_alloc ?_ _));refine blk_far ?_ NB233_247.out _;(with_reducible repeat (first|refine blk_drewN ?_ _|refine blk_drew ?_|refine blk_alloc ?_ _));refine blk_far ?_ NB233_247.out _;(with_reducible repeat (first|refine blk_drewN ?_ _|refine blk_drew ?_|refine blk_alloc ?_ _));refine blk_far ?_ NB233_247.out _;(with_reducible repeat (first|refine blk_drewN ?_ _|refine blk_drew ?_|refine blk_alloc ?_ _));exact BK233.out) hb);have n5_:=Aside0.mk (blk_below (g:=gb240) (o:=.cells #[.int .i64 t234, .int .i64 t235, .slice Ao27 t236.length co27] 82 (0, 0)) (by (with_reducible repeat (first|refine blk_drewN ?_ _|refine blk_drew ?_|refine blk_alloc ?_ _));refine blk_far ?_ NB240_247.out _;(with_reducible repeat (first|refine blk_drewN ?_ _|refine blk_drew ?_|refine blk_alloc ?_ _));refine blk_far ?_ NB240_247.out _;(with_reducible repeat (first|refine blk_drewN ?_ _|refine blk_drew ?_|refine blk_alloc ?_ _));refine blk_far ?_ NB240_247.out _;(with_reducible repeat (first|refine blk_drewN ?_ _|refine blk_drew ?_|refine blk_alloc ?_ _));exact BK240.out) hb);have n6_:=Aside0.mk (blk_below (g:=gb247) (o:=.cells #[.int .i64 t241, .int .i64 t242, .slice Ao35 t243.length co35] 82 (0, 0)) (by (with_reducible repeat (first|refine blk_drewN ?_ _|refine blk_drew ?_|refine blk_alloc ?_ _));refine blk_put (cs:=#[.int .i64 t241, .int .i64 t242, .slice none 0 0]) ?_ 2 _ rfl;(with_reducible repeat (first|refine blk_drewN ?_ _|refine blk_drew ?_|refine blk_alloc ?_ _));refine blk_put (cs:=#[.int .i64 t241, .int .i64 0, .slice none 0 0]) ?_ 1 _ rfl;(with_reducible repeat (first|refine blk_drewN ?_ _|refine blk_drew ?_|refine blk_alloc ?_ _));refine blk_put (cs:=#[.int .i64 0, .int .i64 0, .slice none 0 0]) ?_ 0 _ rfl;(with_reducible repeat (first|refine blk_drewN ?_ _|refine blk_drew ?_|refine blk_alloc ?_ _));exact BK247.out) hb);have n7_:=Aside0.mk (below_step (by repeat (first|(with_reducible first|exact HB.out|apply below_alloc|apply pw_below_drewN|apply below_drew1|refine below_set ?_ GE225.out|refine below_set ?_ GE233.out|refine below_set ?_ GE240.out|refine below_set ?_ GE247.out)|exact HB.out)) hb);clear HO231;clear HO238;clear HO245;clear BK225;clear BK233;clear BK240;clear BK247;clear HB;have HO231:=n0_;have HO238:=n1_;have HO245:=n2_;have BK225:=n3_;have BK233:=n4_;have BK240:=n5_;have BK247:=n6_;have HB:=n7_;clear n0_ n1_ n2_ n3_ n4_ n5_ n6_ n7_;(try clear hb);(try clear hb2);(try clear hk);(try clear hi);have hcz38_0 : w37.cell? ⟨gb225, 0, none⟩ = some (.int .i64 a0_0):=(blk_cell BK225.out 0).trans rfl;have hcz38_1 : w37.cell? ⟨gb225, 1, none⟩ = some (.int .i64 a0_1):=(blk_cell BK225.out 1).trans rfl;have hcz38_2 : w37.cell? ⟨gb225, 2, none⟩ = some (.slice A0_2 l0_2.length c0_2):=(blk_cell BK225.out 2).trans rfl;have hfz38_0:=blk_frozen BK225.out 0;have hfz38_1:=blk_frozen BK225.out 1;have hfz38_2:=blk_frozen BK225.out 2))
   try simp only [Act.put, List.setIfInBounds_toArray, List.set_cons_succ, List.set_cons_zero]
   go_loopg [18, 71] k (fun kq v18 v71 w'=>∃ (x18_1 : Int) (x71_1 : Int), v18 = .int .i64 x18_1∧v71 = .int .i64 x71_1∧Aside0 (gridhalllaw3_ConvexMoves.l0 kq a1 a2 a3 a4 t232 t239 t246 x18_1 l0_2 (l0_2.length : Int) x71_1 a0_0 a0_1 l0_2 t227 t228 t229 t234 t235 t236 t241 t242 t243 = some r)∧Aside0 (kq ≤ k)∧Aside0 (Kd.R k88 88 w' w.heap.size (fun k_=>some k_ ≠ ((.slice Ao27 t236.length co27) : Value).ownBlock∧some k_ ≠ ((.slice Ao35 t243.length co35) : Value).ownBlock) (.slice Ao20 t229.length co20) t229)∧Aside0 (Kd.R k88 88 w' w.heap.size (fun k_=>some k_ ≠ ((.slice Ao20 t229.length co20) : Value).ownBlock∧some k_ ≠ ((.slice Ao35 t243.length co35) : Value).ownBlock) (.slice Ao27 t236.length co27) t236)∧Aside0 (Kd.R k88 88 w' w.heap.size (fun k_=>some k_ ≠ ((.slice Ao20 t229.length co20) : Value).ownBlock∧some k_ ≠ ((.slice Ao27 t236.length co27) : Value).ownBlock) (.slice Ao35 t243.length co35) t243)∧Aside0 (w'.heap[gb225]? = some (.cells #[.int .i64 a0_0, .int .i64 a0_1, (.slice A0_2 l0_2.length c0_2)] 82 (0, 0)))∧Aside0 (w'.heap[gb233]? = some (.cells #[.int .i64 t227, .int .i64 t228, (.slice Ao20 t229.length co20)] 82 (0, 0)))∧Aside0 (w'.heap[gb240]? = some (.cells #[.int .i64 t234, .int .i64 t235, (.slice Ao27 t236.length co27)] 82 (0, 0)))∧Aside0 (w'.heap[gb247]? = some (.cells #[.int .i64 t241, .int .i64 t242, (.slice Ao35 t243.length co35)] 82 (0, 0)))∧Aside0 (Below w.heap.size w w'))
   case atStart=>exact ⟨(0),(0),(by first|rfl|(simp;done)|(simp [*];done)),(by first|rfl|(simp;done)|(simp [*];done)), H', ⟨Nat.le_refl _⟩,⟨by (with_reducible repeat (first|apply Kd.R_alloc|apply Kd.R_drewN|apply Kd.R_drew));exact Kd.R_mono HO231.out (fun _ hk=>⟨hk.1.2, hk.2⟩)⟩,⟨by (with_reducible repeat (first|apply Kd.R_alloc|apply Kd.R_drewN|apply Kd.R_drew));exact Kd.R_mono HO238.out (fun _ hk=>⟨hk.1.2, hk.2⟩)⟩,⟨by (with_reducible repeat (first|apply Kd.R_alloc|apply Kd.R_drewN|apply Kd.R_drew));exact Kd.R_mono HO245.out (fun _ hk=>⟨hk.1.2, hk.2⟩)⟩,⟨by (with_reducible repeat (first|refine blk_drewN ?_ _|refine blk_drew ?_|refine blk_alloc ?_ _));exact BK225.out⟩,⟨by (with_reducible repeat (first|refine blk_drewN ?_ _|refine blk_drew ?_|refine blk_alloc ?_ _));exact BK233.out⟩,⟨by (with_reducible repeat (first|refine blk_drewN ?_ _|refine blk_drew ?_|refine blk_alloc ?_ _));exact BK240.out⟩,⟨by (with_reducible repeat (first|refine blk_drewN ?_ _|refine blk_drew ?_|refine blk_alloc ?_ _));exact BK247.out⟩,⟨by repeat (first|(with_reducible first|exact HB.out|apply below_alloc|apply pw_below_drewN|apply below_drew1|refine below_set ?_ GE225.out|refine below_set ?_ GE233.out|refine below_set ?_ GE240.out|refine below_set ?_ GE247.out)|exact HB.out)⟩⟩
   case round =>
    clear H'
    try clear c1
    try clear c2
    try clear p2
    try clear c3
    try clear c6
    try clear c7
    try clear c12
    try clear c12b0
    try clear c12b1
    try clear c18
    try clear c24
    try clear c25
    try clear c31
    try clear c32
    try clear c33
    try clear c34
    try clear c35
    try clear hcz15_0
    try clear hcz15_1
    try clear hcz15_2
    try clear hcz19_0
    try clear hcz19_1
    try clear hcz19_2
    try clear hcz21_0
    try clear hcz21_1
    try clear hcz21_2
    try clear hcz26_0
    try clear hcz26_1
    try clear hcz26_2
    try clear hcz28_0
    try clear hcz28_1
    try clear hcz28_2
    try clear hcz34_0
    try clear hcz34_1
    try clear hcz34_2
    try clear hcz36_0
    try clear hcz36_1
    try clear hcz36_2
    try clear hcz38_0
    try clear hcz38_1
    try clear hcz38_2
    try clear hfz15_0
    try clear hfz15_1
    try clear hfz15_2
    try clear hfz19_0
    try clear hfz19_1
    try clear hfz19_2
    try clear hfz21_0
    try clear hfz21_1
    try clear hfz21_2
    try clear hfz26_0
    try clear hfz26_1
    try clear hfz26_2
    try clear hfz28_0
    try clear hfz28_1
    try clear hfz28_2
    try clear hfz34_0
    try clear hfz34_1
    try clear hfz34_2
    try clear hfz36_0
    try clear hfz36_1
    try clear hfz36_2
    try clear hfz38_0
    try clear hfz38_1
    try clear hfz38_2
    obtain ⟨x18_1, x71_1, rfl, rfl, HA, HK1, HO_234002, HO_241002, HO_248002, BK225, BK233, BK240, BK247, HB⟩:=hrel
    cases gk with
   |zero => exact absurd HA.out (by simp [gridhalllaw3_ConvexMoves.l0])
   |succ k1 =>
     have H:=HA.out
     clear HA
     simp only [gridhalllaw3_ConvexMoves.l0] at H
     by_cases c39 : x71_1 < (l0_2.length : Int)
     ·rw [if_pos c39] at H
      have c39b0 : decide (x71_1 < (l0_2.length : Int)) = true:=decide_eq_true c39
      clear c39
      by_cases c40 : 0 ≤ x71_1
      ·rw [if_pos c40] at H
       have c40b0 : decide (0 ≤ x71_1) = true:=decide_eq_true c40
       clear c40
       by_cases c41 : x71_1 < (l0_2.length : Int)
       ·rw [if_pos c41] at H
        have c41b0 : decide (x71_1 < (l0_2.length : Int)) = true:=decide_eq_true c41
        clear c41
        have H':=Aside0.mk H
        clear H
        have p249 : 0 ≤ (x71_1 : Int):=of_decide_eq_true (by first|(with_reducible assumption)|assumption)
        have q249 : x71_1 < (l0_2.length : Int):=of_decide_eq_true (by first|(with_reducible assumption)|assumption)
        obtain ⟨ad249, e249, hx249_0, hx249_1⟩:=at_T88 HR0_2.out x71_1 p249 q249
        cases e249
        replace hx249_0:=(HB.out.cell (World.block_lt_of_cell? w _ hx249_0)).trans hx249_0
        replace hx249_1:=(HB.out.cell (World.block_lt_of_cell? w _ hx249_1)).trans hx249_1
        replace p249:=eq_true p249
        replace q249:=eq_true q249
        go_wp2_with (first|((with_reducible refine gate_dst (N:=20) rfl ?_);(try (refine gate_guard (by rfl) ?_;dsimp only));refine box_event ?hg (N:=20) ?hd (cs:=#[.int .i64 0, .int .i64 0]) (t:=88) ?hr ?_;(case hd=>rfl);(case hg=>rfl);(case hr=>first|(go_simp;done)|(go_simp;rfl));intro gb250 hg w42 hbox hb;have n0_:=Aside0.mk (Kd.R_below (Kd.R_elderB (by (with_reducible repeat (first|apply Kd.R_alloc|apply Kd.R_drewN|apply Kd.R_drew));exact HO_234002.out) gb250 (Nat.le_of_eq hg.symm)) hb);have n1_:=Aside0.mk (Kd.R_below (Kd.R_elderB (by (with_reducible repeat (first|apply Kd.R_alloc|apply Kd.R_drewN|apply Kd.R_drew));exact HO_241002.out) gb250 (Nat.le_of_eq hg.symm)) hb);have n2_:=Aside0.mk (Kd.R_below (Kd.R_elderB (by (with_reducible repeat (first|apply Kd.R_alloc|apply Kd.R_drewN|apply Kd.R_drew));exact HO_248002.out) gb250 (Nat.le_of_eq hg.symm)) hb);have n3_:=Aside0.mk (blk_below (g:=gb225) (o:=.cells #[.int .i64 a0_0, .int .i64 a0_1, .slice (some ad249) l0_2.length c0_2] 82 (0, 0)) (by (with_reducible repeat (first|refine blk_drewN ?_ _|refine blk_drew ?_|refine blk_alloc ?_ _));exact BK225.out) hb);have n4_:=Aside0.mk (blk_below (g:=gb233) (o:=.cells #[.int .i64 t227, .int .i64 t228, .slice Ao20 t229.length co20] 82 (0, 0)) (by (with_reducible repeat (first|refine blk_drewN ?_ _|refine blk_drew ?_|refine blk_alloc ?_ _));exact BK233.out) hb);have n5_:=Aside0.mk (blk_below (g:=gb240) (o:=.cells #[.int .i64 t234, .int .i64 t235, .slice Ao27 t236.length co27] 82 (0, 0)) (by (with_reducible repeat (first|refine blk_drewN ?_ _|refine blk_drew ?_|refine blk_alloc ?_ _));exact BK240.out) hb);have n6_:=Aside0.mk (blk_below (g:=gb247) (o:=.cells #[.int .i64 t241, .int .i64 t242, .slice Ao35 t243.length co35] 82 (0, 0)) (by (with_reducible repeat (first|refine blk_drewN ?_ _|refine blk_drew ?_|refine blk_alloc ?_ _));exact BK247.out) hb);have n7_:=Aside0.mk (below_step (by repeat (first|(with_reducible first|exact HB.out|apply below_alloc|apply pw_below_drewN|apply below_drew1|refine below_set ?_ GE225.out|refine below_set ?_ GE233.out|refine below_set ?_ GE240.out|refine below_set ?_ GE247.out)|exact HB.out)) hb);have n8_:=Aside0.mk (hbox);have n9_:=Aside0.mk ((by rw [hg];exact (below_size (by repeat (first|(with_reducible first|exact HB.out|apply below_alloc|apply pw_below_drewN|apply below_drew1|refine below_set ?_ GE225.out|refine below_set ?_ GE233.out|refine below_set ?_ GE240.out|refine below_set ?_ GE247.out)|exact HB.out))) : w.heap.size ≤ gb250));have n10_:=Aside0.mk ((by rw [hg];exact (below_size (by repeat (first|(with_reducible first|exact HB.out|apply below_alloc|apply pw_below_drewN|apply below_drew1|refine below_set ?_ GE225.out|refine below_set ?_ GE233.out|refine below_set ?_ GE240.out|refine below_set ?_ GE247.out)|exact HB.out))) : w.heap.size ≤ gb250));have n11_:=Aside0.mk ((by rw [hg];exact Nat.ne_of_lt (blk_lt (g:=gb225) (o:=.cells #[.int .i64 a0_0, .int .i64 a0_1, .slice (some ad249) l0_2.length c0_2] 82 (0, 0)) (by (with_reducible repeat (first|refine blk_drewN ?_ _|refine blk_drew ?_|refine blk_alloc ?_ _));exact BK225.out)) : gb225 ≠ gb250));have n12_:=Aside0.mk ((by rw [hg];exact Nat.ne_of_gt (blk_lt (g:=gb225) (o:=.cells #[.int .i64 a0_0, .int .i64 a0_1, .slice (some ad249) l0_2.length c0_2] 82 (0, 0)) (by (with_reducible repeat (first|refine blk_drewN ?_ _|refine blk_drew ?_|refine blk_alloc ?_ _));exact BK225.out)) : gb250 ≠ gb225));have n13_:=Aside0.mk ((by rw [hg];exact Nat.ne_of_lt (blk_lt (g:=gb233) (o:=.cells #[.int .i64 t227, .int .i64 t228, .slice Ao20 t229.length co20] 82 (0, 0)) (by (with_reducible repeat (first|refine blk_drewN ?_ _|refine blk_drew ?_|refine blk_alloc ?_ _));exact BK233.out)) : gb233 ≠ gb250));have n14_:=Aside0.mk ((by rw [hg];exact Nat.ne_of_gt (blk_lt (g:=gb233) (o:=.cells #[.int .i64 t227, .int .i64 t228, .slice Ao20 t229.length co20] 82 (0, 0)) (by (with_reducible repeat (first|refine blk_drewN ?_ _|refine blk_drew ?_|refine blk_alloc ?_ _));exact BK233.out)) : gb250 ≠ gb233));have n15_:=Aside0.mk ((by rw [hg];exact Nat.ne_of_lt (blk_lt (g:=gb240) (o:=.cells #[.int .i64 t234, .int .i64 t235, .slice Ao27 t236.length co27] 82 (0, 0)) (by (with_reducible repeat (first|refine blk_drewN ?_ _|refine blk_drew ?_|refine blk_alloc ?_ _));exact BK240.out)) : gb240 ≠ gb250));have n16_:=Aside0.mk ((by rw [hg];exact Nat.ne_of_gt (blk_lt (g:=gb240) (o:=.cells #[.int .i64 t234, .int .i64 t235, .slice Ao27 t236.length co27] 82 (0, 0)) (by (with_reducible repeat (first|refine blk_drewN ?_ _|refine blk_drew ?_|refine blk_alloc ?_ _));exact BK240.out)) : gb250 ≠ gb240));have n17_:=Aside0.mk ((by rw [hg];exact Nat.ne_of_lt (blk_lt (g:=gb247) (o:=.cells #[.int .i64 t241, .int .i64 t242, .slice Ao35 t243.length co35] 82 (0, 0)) (by (with_reducible repeat (first|refine blk_drewN ?_ _|refine blk_drew ?_|refine blk_alloc ?_ _));exact BK247.out)) : gb247 ≠ gb250));have n18_:=Aside0.mk ((by rw [hg];exact Nat.ne_of_gt (blk_lt (g:=gb247) (o:=.cells #[.int .i64 t241, .int .i64 t242, .slice Ao35 t243.length co35] 82 (0, 0)) (by (with_reducible repeat (first|refine blk_drewN ?_ _|refine blk_drew ?_|refine blk_alloc ?_ _));exact BK247.out)) : gb250 ≠ gb247));clear HO_234002;clear HO_241002;clear HO_248002;clear BK225;clear BK233;clear BK240;clear BK247;clear HB;have HO_234002:=n0_;have HO_241002:=n1_;have HO_248002:=n2_;have BK225:=n3_;have BK233:=n4_;have BK240:=n5_;have BK247:=n6_;have HB:=n7_;have BK250:=n8_;have GW250:=n9_;have GE250:=n10_;have NB225_250:=n11_;have NB250_225:=n12_;have NB233_250:=n13_;have NB250_233:=n14_;have NB240_250:=n15_;have NB250_240:=n16_;have NB247_250:=n17_;have NB250_247:=n18_;clear n0_ n1_ n2_ n3_ n4_ n5_ n6_ n7_ n8_ n9_ n10_ n11_ n12_ n13_ n14_ n15_ n16_ n17_ n18_;clear hb hbox hg;have hnb43:=NB250_225.out;have hnc43:=NB225_250.out;have hnb44:=NB250_233.out;have hnc44:=NB233_250.out;have hnb45:=NB250_240.out;have hnc45:=NB240_250.out;have hnb46:=NB250_247.out;have hnc46:=NB247_250.out;have hcz47_0 : w42.cell? ⟨gb250, 0, none⟩ = some (.int .i64 0):=(blk_cell BK250.out 0).trans rfl;have hcz47_1 : w42.cell? ⟨gb250, 1, none⟩ = some (.int .i64 0):=(blk_cell BK250.out 1).trans rfl;have hfz47_0:=blk_frozen BK250.out 0;have hfz47_1:=blk_frozen BK250.out 1))
        go_roundg k1
        case measure=>have:=HK1.out;omega
        case rel=>exact ⟨(wrap64 (x18_1 + ((rd_T88 l0_2 x71_1).f0))),(wrap64 (x71_1 + 1)),(by first|rfl|(simp;done)|(simp [*];done)),(by first|rfl|(simp;done)|(simp [*];done)), H', ⟨by have:=HK1.out;omega⟩,⟨by (with_reducible repeat (first|apply Kd.R_alloc|apply Kd.R_drewN|apply Kd.R_drew));exact Kd.R_mono (Kd.R_far (p:=⟨gb250, 1, none⟩) (Kd.R_far (p:=⟨gb250, 0, none⟩) (Kd.R_mono HO_234002.out (fun k_ hk=>(⟨hk, hk.2⟩ : _∧k_ ≠ gb250))) (fun _ hk=>hk.2) (.int .i64 ((rd_T88 l0_2 x71_1).f0))) (fun _ hk=>hk.2) (.int .i64 ((rd_T88 l0_2 x71_1).f1))) (fun _ hk=>⟨hk.1.1.1, hk.1.1.2⟩)⟩,⟨by (with_reducible repeat (first|apply Kd.R_alloc|apply Kd.R_drewN|apply Kd.R_drew));exact Kd.R_mono (Kd.R_far (p:=⟨gb250, 1, none⟩) (Kd.R_far (p:=⟨gb250, 0, none⟩) (Kd.R_mono HO_241002.out (fun k_ hk=>(⟨hk, hk.2⟩ : _∧k_ ≠ gb250))) (fun _ hk=>hk.2) (.int .i64 ((rd_T88 l0_2 x71_1).f0))) (fun _ hk=>hk.2) (.int .i64 ((rd_T88 l0_2 x71_1).f1))) (fun _ hk=>⟨hk.1.1.1, hk.1.1.2⟩)⟩,⟨by (with_reducible repeat (first|apply Kd.R_alloc|apply Kd.R_drewN|apply Kd.R_drew));exact Kd.R_mono (Kd.R_far (p:=⟨gb250, 1, none⟩) (Kd.R_far (p:=⟨gb250, 0, none⟩) (Kd.R_mono HO_248002.out (fun k_ hk=>(⟨hk, hk.2⟩ : _∧k_ ≠ gb250))) (fun _ hk=>hk.2) (.int .i64 ((rd_T88 l0_2 x71_1).f0))) (fun _ hk=>hk.2) (.int .i64 ((rd_T88 l0_2 x71_1).f1))) (fun _ hk=>⟨hk.1.1.1, hk.1.1.2⟩)⟩,⟨by (with_reducible repeat (first|refine blk_drewN ?_ _|refine blk_drew ?_|refine blk_alloc ?_ _));refine blk_far ?_ NB225_250.out _;(with_reducible repeat (first|refine blk_drewN ?_ _|refine blk_drew ?_|refine blk_alloc ?_ _));refine blk_far ?_ NB225_250.out _;(with_reducible repeat (first|refine blk_drewN ?_ _|refine blk_drew ?_|refine blk_alloc ?_ _));exact BK225.out⟩,⟨by (with_reducible repeat (first|refine blk_drewN ?_ _|refine blk_drew ?_|refine blk_alloc ?_ _));refine blk_far ?_ NB233_250.out _;(with_reducible repeat (first|refine blk_drewN ?_ _|refine blk_drew ?_|refine blk_alloc ?_ _));refine blk_far ?_ NB233_250.out _;(with_reducible repeat (first|refine blk_drewN ?_ _|refine blk_drew ?_|refine blk_alloc ?_ _));exact BK233.out⟩,⟨by (with_reducible repeat (first|refine blk_drewN ?_ _|refine blk_drew ?_|refine blk_alloc ?_ _));refine blk_far ?_ NB240_250.out _;(with_reducible repeat (first|refine blk_drewN ?_ _|refine blk_drew ?_|refine blk_alloc ?_ _));refine blk_far ?_ NB240_250.out _;(with_reducible repeat (first|refine blk_drewN ?_ _|refine blk_drew ?_|refine blk_alloc ?_ _));exact BK240.out⟩,⟨by (with_reducible repeat (first|refine blk_drewN ?_ _|refine blk_drew ?_|refine blk_alloc ?_ _));refine blk_far ?_ NB247_250.out _;(with_reducible repeat (first|refine blk_drewN ?_ _|refine blk_drew ?_|refine blk_alloc ?_ _));refine blk_far ?_ NB247_250.out _;(with_reducible repeat (first|refine blk_drewN ?_ _|refine blk_drew ?_|refine blk_alloc ?_ _));exact BK247.out⟩,⟨by repeat (first|(with_reducible first|exact HB.out|apply below_alloc|apply pw_below_drewN|apply below_drew1|refine below_set ?_ GE225.out|refine below_set ?_ GE233.out|refine below_set ?_ GE240.out|refine below_set ?_ GE247.out|refine below_set ?_ GE250.out)|exact HB.out)⟩⟩
       ·rw [if_neg c41] at H
        exact absurd H (by simp)
      ·rw [if_neg c40] at H
       exact absurd H (by simp)
     ·rw [if_neg c39] at H
      have c39b0 : decide (x71_1 < (l0_2.length : Int)) = false:=decide_eq_false c39
      clear c39
      by_cases c48 : x18_1 > 60
      ·rw [if_pos c48] at H
       have c48b0 : decide (60 < x18_1) = true:=decide_eq_true c48
       clear c48
       obtain rfl:=Option.some.inj H
       go_wp2
       go_ret
       exact ⟨by first|rfl|(simp [errW_none, errW_some] <;> rfl)|(simp [*, errW_none, errW_some] <;> rfl), by repeat (first|(with_reducible first|exact HB.out|apply below_alloc|apply pw_below_drewN|apply below_drew1|refine below_set ?_ GE225.out|refine below_set ?_ GE233.out|refine below_set ?_ GE240.out|refine below_set ?_ GE247.out)|exact HB.out)⟩
      ·rw [if_neg c48] at H
       have c48b0 : decide (60 < x18_1) = false:=decide_eq_false c48
       clear c48
       replace H:=Option.bind_eq_some_iff.mp H
       obtain ⟨t251, A490, H⟩:=H
       replace H : (gridhalllaw3_ConvexMoves.l1 k1 a2 a3 a4 t232 t239 t246 t251 ([] : List Int) (mx a1 a0_0) (mx a1 a0_0) a0_0 a0_1 l0_2 t227 t228 t229 t234 t235 t236 t241 t242 t243) = some r:=H
       have A49:=Aside0.mk A490
       clear A490
       obtain ⟨ji50, hji50⟩ : ∃ j_ : Int, (mx a1 a0_0) = j_:=⟨_, rfl⟩
       replace H : (gridhalllaw3_ConvexMoves.l1 k1 a2 a3 a4 t232 t239 t246 t251 ([] : List Int) ji50 ji50 a0_0 a0_1 l0_2 t227 t228 t229 t234 t235 t236 t241 t242 t243) = some r:=by first|(rw [hji50] at H;exact H)|(simp only [hji50] at H ⊢;exact H)
       (try rw [hji50] at A49)
       have hji50_ : (if a1 < a0_0 then a0_0 else a1) = ji50:=hji50
       have HC51:=Aside0.mk H
       clear H
       have hnb52:=NB225_233.out
       have hnc52:=NB233_225.out
       have hnb53:=NB225_240.out
       have hnc53:=NB240_225.out
       have hnb54:=NB225_247.out
       have hnc54:=NB247_225.out
       have hcz55_0 : wr.cell? ⟨gb225, 0, none⟩ = some (.int .i64 a0_0):=(blk_cell BK225.out 0).trans rfl
       have hcz55_1 : wr.cell? ⟨gb225, 1, none⟩ = some (.int .i64 a0_1):=(blk_cell BK225.out 1).trans rfl
       have hcz55_2 : wr.cell? ⟨gb225, 2, none⟩ = some (.slice A0_2 l0_2.length c0_2):=(blk_cell BK225.out 2).trans rfl
       have hfz55_0:=blk_frozen BK225.out 0
       have hfz55_1:=blk_frozen BK225.out 1
       have hfz55_2:=blk_frozen BK225.out 2
       go_upto_block 2 with (first|((with_reducible refine gate_callee (f:=36) rfl ?_);refine goesL_ (some 83) rfl rfl Try.func36 (by kernel_rfl) rfl #[.agg #[.int .i64 a0_0, .int .i64 a0_1, .slice A0_2 l0_2.length c0_2]] rfl (by (try simp only [List.map_toArray, List.map_cons, List.map_nil]);first|done|rfl|(simp only [List.length_drop, List.length_take];rfl)) ?_;(with_reducible refine (gridhallref3_Values.calls k1 a0_0 a0_1 _ _ l0_2 t251 _ ?side1 ?side2 A49.out).mono ?_);(case side1=>repeat (first|exact (Kd.C_below HR0_2.out HB.out)|(with_reducible refine Kd.C_alloc ?_ _)|(with_reducible refine Kd.C_drewN ?_ _)|(with_reducible refine Kd.C_drew ?_)));(case side2=>exact HC0_2.out);rintro e w56 ⟨v252, rfl, ho0, hb⟩;refine ⟨_, rfl, ?_⟩;have n0_:=Aside0.mk (Kd.R_below (by (with_reducible repeat (first|apply Kd.R_alloc|apply Kd.R_drewN|apply Kd.R_drew));exact HO_234002.out) hb);have n1_:=Aside0.mk (Kd.R_below (by (with_reducible repeat (first|apply Kd.R_alloc|apply Kd.R_drewN|apply Kd.R_drew));exact HO_241002.out) hb);have n2_:=Aside0.mk (Kd.R_below (by (with_reducible repeat (first|apply Kd.R_alloc|apply Kd.R_drewN|apply Kd.R_drew));exact HO_248002.out) hb);have n3_:=Aside0.mk (Kd.R_lower ho0 (below_size (by repeat (first|(with_reducible first|exact HB.out|apply below_alloc|apply pw_below_drewN|apply below_drew1|refine below_set ?_ GE225.out|refine below_set ?_ GE233.out|refine below_set ?_ GE240.out|refine below_set ?_ GE247.out)|exact HB.out))));have n4_:=Aside0.mk (blk_below (g:=gb225) (o:=.cells #[.int .i64 a0_0, .int .i64 a0_1, .slice A0_2 l0_2.length c0_2] 82 (0, 0)) (by (with_reducible repeat (first|refine blk_drewN ?_ _|refine blk_drew ?_|refine blk_alloc ?_ _));exact BK225.out) hb);have n5_:=Aside0.mk (blk_below (g:=gb233) (o:=.cells #[.int .i64 t227, .int .i64 t228, .slice Ao20 t229.length co20] 82 (0, 0)) (by (with_reducible repeat (first|refine blk_drewN ?_ _|refine blk_drew ?_|refine blk_alloc ?_ _));exact BK233.out) hb);have n6_:=Aside0.mk (blk_below (g:=gb240) (o:=.cells #[.int .i64 t234, .int .i64 t235, .slice Ao27 t236.length co27] 82 (0, 0)) (by (with_reducible repeat (first|refine blk_drewN ?_ _|refine blk_drew ?_|refine blk_alloc ?_ _));exact BK240.out) hb);have n7_:=Aside0.mk (blk_below (g:=gb247) (o:=.cells #[.int .i64 t241, .int .i64 t242, .slice Ao35 t243.length co35] 82 (0, 0)) (by (with_reducible repeat (first|refine blk_drewN ?_ _|refine blk_drew ?_|refine blk_alloc ?_ _));exact BK247.out) hb);have n8_:=Aside0.mk (below_step (by repeat (first|(with_reducible first|exact HB.out|apply below_alloc|apply pw_below_drewN|apply below_drew1|refine below_set ?_ GE225.out|refine below_set ?_ GE233.out|refine below_set ?_ GE240.out|refine below_set ?_ GE247.out)|exact HB.out)) hb);clear HO_234002;clear HO_241002;clear HO_248002;clear BK225;clear BK233;clear BK240;clear BK247;clear HB;have HO_234002:=n0_;have HO_241002:=n1_;have HO_248002:=n2_;have HO253:=n3_;have BK225:=n4_;have BK233:=n5_;have BK240:=n6_;have BK247:=n7_;have HB:=n8_;clear n0_ n1_ n2_ n3_ n4_ n5_ n6_ n7_ n8_;(try clear hb);(try clear hb2);(try clear hk);(try clear hi);(try clear ho0);have hcz57_0 : w56.cell? ⟨gb225, 0, none⟩ = some (.int .i64 a0_0):=(blk_cell BK225.out 0).trans rfl;have hcz57_1 : w56.cell? ⟨gb225, 1, none⟩ = some (.int .i64 a0_1):=(blk_cell BK225.out 1).trans rfl;have hcz57_2 : w56.cell? ⟨gb225, 2, none⟩ = some (.slice A0_2 l0_2.length c0_2):=(blk_cell BK225.out 2).trans rfl;have hfz57_0:=blk_frozen BK225.out 0;have hfz57_1:=blk_frozen BK225.out 1;have hfz57_2:=blk_frozen BK225.out 2))
       (try simp only [Act.put, List.setIfInBounds_toArray, List.set_cons_zero, List.set_cons_succ])
       go_cut [22] (fun v22 wc=>∃ (kq : Nat) (x22_50 : List Int), Aside0 (gridhalllaw3_ConvexMoves.j2 kq a3 a4 t232 t239 t246 t251 x22_50 ([] : List Int) ji50 a0_0 a0_1 l0_2 t227 t228 t229 t234 t235 t236 t241 t242 t243 = some r)∧Aside0 (kq ≤ k1)∧Aside0 (Kd.R (Kd.int .i64) 3 wc w.heap.size (fun k_=>some k_ ≠ (v22 : Value).ownBlock∧some k_ ≠ ((.slice none 0 0) : Value).ownBlock) v252 t251)∧Aside0 (Kd.R (Kd.int .i64) 3 wc w.heap.size (fun k_=>some k_ ≠ (v252 : Value).ownBlock∧some k_ ≠ ((.slice none 0 0) : Value).ownBlock) v22 x22_50)∧Aside0 (Kd.R (Kd.int .i64) 3 wc w.heap.size (fun k_=>some k_ ≠ (v252 : Value).ownBlock∧some k_ ≠ (v22 : Value).ownBlock) (.slice none 0 0) ([] : List Int))∧Aside0 (Kd.R k88 88 wc w.heap.size (fun k_=>some k_ ≠ ((.slice Ao27 t236.length co27) : Value).ownBlock∧some k_ ≠ ((.slice Ao35 t243.length co35) : Value).ownBlock) (.slice Ao20 t229.length co20) t229)∧Aside0 (Kd.R k88 88 wc w.heap.size (fun k_=>some k_ ≠ ((.slice Ao20 t229.length co20) : Value).ownBlock∧some k_ ≠ ((.slice Ao35 t243.length co35) : Value).ownBlock) (.slice Ao27 t236.length co27) t236)∧Aside0 (Kd.R k88 88 wc w.heap.size (fun k_=>some k_ ≠ ((.slice Ao20 t229.length co20) : Value).ownBlock∧some k_ ≠ ((.slice Ao27 t236.length co27) : Value).ownBlock) (.slice Ao35 t243.length co35) t243)∧Aside0 (wc.heap[gb225]? = some (.cells #[.int .i64 a0_0, .int .i64 a0_1, (.slice A0_2 l0_2.length c0_2)] 82 (0, 0)))∧Aside0 (wc.heap[gb233]? = some (.cells #[.int .i64 t227, .int .i64 t228, (.slice Ao20 t229.length co20)] 82 (0, 0)))∧Aside0 (wc.heap[gb240]? = some (.cells #[.int .i64 t234, .int .i64 t235, (.slice Ao27 t236.length co27)] 82 (0, 0)))∧Aside0 (wc.heap[gb247]? = some (.cells #[.int .i64 t241, .int .i64 t242, (.slice Ao35 t243.length co35)] 82 (0, 0)))∧Aside0 (Below w.heap.size w wc))
       case first =>
        have H:=HC51.out
        clear HC51
        have H':=Aside0.mk H
        clear H
        go_wp2
        try simp only [Act.put, List.setIfInBounds_toArray, List.set_cons_succ, List.set_cons_zero]
        go_loopg [22, 25] k1 (fun kq v22 v25 w'=>∃ (x22_2 : List Int) (x25_2 : Int), v25 = .int .i64 x25_2∧Aside0 (gridhalllaw3_ConvexMoves.l1 kq a2 a3 a4 t232 t239 t246 t251 x22_2 ji50 x25_2 a0_0 a0_1 l0_2 t227 t228 t229 t234 t235 t236 t241 t242 t243 = some r)∧Aside0 (kq ≤ k1)∧Aside0 (Kd.R (Kd.int .i64) 3 w' w.heap.size (fun k_=>some k_ ≠ (v22 : Value).ownBlock) v252 t251)∧Aside0 (Kd.R (Kd.int .i64) 3 w' w.heap.size (fun k_=>some k_ ≠ (v252 : Value).ownBlock) v22 x22_2)∧Aside0 (Kd.R k88 88 w' w.heap.size (fun k_=>some k_ ≠ ((.slice Ao27 t236.length co27) : Value).ownBlock∧some k_ ≠ ((.slice Ao35 t243.length co35) : Value).ownBlock) (.slice Ao20 t229.length co20) t229)∧Aside0 (Kd.R k88 88 w' w.heap.size (fun k_=>some k_ ≠ ((.slice Ao20 t229.length co20) : Value).ownBlock∧some k_ ≠ ((.slice Ao35 t243.length co35) : Value).ownBlock) (.slice Ao27 t236.length co27) t236)∧Aside0 (Kd.R k88 88 w' w.heap.size (fun k_=>some k_ ≠ ((.slice Ao20 t229.length co20) : Value).ownBlock∧some k_ ≠ ((.slice Ao27 t236.length co27) : Value).ownBlock) (.slice Ao35 t243.length co35) t243)∧Aside0 (w'.heap[gb225]? = some (.cells #[.int .i64 a0_0, .int .i64 a0_1, (.slice A0_2 l0_2.length c0_2)] 82 (0, 0)))∧Aside0 (w'.heap[gb233]? = some (.cells #[.int .i64 t227, .int .i64 t228, (.slice Ao20 t229.length co20)] 82 (0, 0)))∧Aside0 (w'.heap[gb240]? = some (.cells #[.int .i64 t234, .int .i64 t235, (.slice Ao27 t236.length co27)] 82 (0, 0)))∧Aside0 (w'.heap[gb247]? = some (.cells #[.int .i64 t241, .int .i64 t242, (.slice Ao35 t243.length co35)] 82 (0, 0)))∧Aside0 (Below w.heap.size w w'))
        case atStart=>exact ⟨(([] : List Int)),(ji50),(by first|rfl|(simp;done)|(simp only [← hji50] <;> (first|rfl|simp))|(simp [*];done)), H', ⟨Nat.le_refl _⟩,⟨by (with_reducible repeat (first|apply Kd.R_alloc|apply Kd.R_drewN|apply Kd.R_drew));exact Kd.R_mono HO253.out (fun _ hk=>(by simp [Value.ownBlock]))⟩,⟨by first|exact Kd.R_nil _ _ _ _ _|exact Kd.N_nil _ _ _ _ _|exact Kd.V_nil _ _ _ _ _|exact Kd.Q_nil _ _ _ _ _|exact Kd.S_nil _ _ _ _ _⟩,⟨by (with_reducible repeat (first|apply Kd.R_alloc|apply Kd.R_drewN|apply Kd.R_drew));exact HO_234002.out⟩,⟨by (with_reducible repeat (first|apply Kd.R_alloc|apply Kd.R_drewN|apply Kd.R_drew));exact HO_241002.out⟩,⟨by (with_reducible repeat (first|apply Kd.R_alloc|apply Kd.R_drewN|apply Kd.R_drew));exact HO_248002.out⟩,⟨by (with_reducible repeat (first|refine blk_drewN ?_ _|refine blk_drew ?_|refine blk_alloc ?_ _));exact BK225.out⟩,⟨by (with_reducible repeat (first|refine blk_drewN ?_ _|refine blk_drew ?_|refine blk_alloc ?_ _));exact BK233.out⟩,⟨by (with_reducible repeat (first|refine blk_drewN ?_ _|refine blk_drew ?_|refine blk_alloc ?_ _));exact BK240.out⟩,⟨by (with_reducible repeat (first|refine blk_drewN ?_ _|refine blk_drew ?_|refine blk_alloc ?_ _));exact BK247.out⟩,⟨by repeat (first|(with_reducible first|exact HB.out|apply below_alloc|apply pw_below_drewN|apply below_drew1|refine below_set ?_ GE225.out|refine below_set ?_ GE233.out|refine below_set ?_ GE240.out|refine below_set ?_ GE247.out)|exact HB.out)⟩⟩
        case round =>
         clear H'
         try clear c1
         try clear c2
         try clear p2
         try clear q2
         try clear hx2
         try clear c3
         try clear c4
         try clear c5
         try clear c6
         try clear p6
         try clear c7
         try clear c12
         try clear c12b0
         try clear c12b1
         try clear c18
         try clear c24
         try clear p24
         try clear q24
         try clear hx24
         try clear c25
         try clear c31
         try clear c32
         try clear c33
         try clear c34
         try clear c35
         try clear c36
         try clear c39
         try clear c39b0
         try clear c40
         try clear c40b0
         try clear c41
         try clear c41b0
         try clear c43
         try clear c44
         try clear c45
         try clear c46
         try clear c48
         try clear c48b0
         try clear c52
         try clear c53
         try clear c54
         try clear hcz15_0
         try clear hcz15_1
         try clear hcz15_2
         try clear hcz19_0
         try clear hcz19_1
         try clear hcz19_2
         try clear hcz21_0
         try clear hcz21_1
         try clear hcz21_2
         try clear hcz26_0
         try clear hcz26_1
         try clear hcz26_2
         try clear hcz28_0
         try clear hcz28_1
         try clear hcz28_2
         try clear hcz34_0
         try clear hcz34_1
         try clear hcz34_2
         try clear hcz36_0
         try clear hcz36_1
         try clear hcz36_2
         try clear hcz38_0
         try clear hcz38_1
         try clear hcz38_2
         try clear hcz47_0
         try clear hcz47_1
         try clear hcz55_0
         try clear hcz55_1
         try clear hcz55_2
         try clear hcz57_0
         try clear hcz57_1
         try clear hcz57_2
         try clear hfz15_0
         try clear hfz15_1
         try clear hfz15_2
         try clear hfz19_0
         try clear hfz19_1
         try clear hfz19_2
         try clear hfz21_0
         try clear hfz21_1
         try clear hfz21_2
         try clear hfz26_0
         try clear hfz26_1
         try clear hfz26_2
         try clear hfz28_0
         try clear hfz28_1
         try clear hfz28_2
         try clear hfz34_0
         try clear hfz34_1
         try clear hfz34_2
         try clear hfz36_0
         try clear hfz36_1
         try clear hfz36_2
         try clear hfz38_0
         try clear hfz38_1
         try clear hfz38_2
         try clear hfz47_0
         try clear hfz47_1
         try clear hfz55_0
         try clear hfz55_1
         try clear hfz55_2
         try clear hfz57_0
         try clear hfz57_1
         try clear hfz57_2
         try clear hx249_0
         try clear hx249_1
         try clear p2
         try clear p249
         try clear q249
         obtain ⟨x22_2, x25_2, rfl, HA, HK2, HO_21, HO_22, HO_234002, HO_241002, HO_248002, BK225, BK233, BK240, BK247, HB⟩:=hrel
         cases gk with
        |zero => exact absurd HA.out (by simp [gridhalllaw3_ConvexMoves.l1])
        |succ k2 =>
          have H:=HA.out
          clear HA
          simp only [gridhalllaw3_ConvexMoves.l1] at H
          by_cases c58 : x25_2 ≤ a2
          ·rw [if_pos c58] at H
           have c58b0 : decide (x25_2 ≤ a2) = true:=decide_eq_true c58
           clear c58
           (first|rw [c58b0]|(simp only [i64_w, i32_w];rw [c58b0])|skip)
           by_cases c59 : x25_2 < (wrap64 (a0_0 + (t251.length : Int)))
           rw [if_pos c59] at H
           have c59b0 : decide (x25_2 < (wrap64 (a0_0 + (t251.length : Int)))) = true:=decide_eq_true c59
           clear c59
           obtain ⟨ji60, hji60⟩ : ∃ j_ : Int, (wrap64 (x25_2 - a0_0)) = j_:=⟨_, rfl⟩
           replace H : (if 0 ≤ (ji60) then (if (ji60) < (t251.length : Int) then (if x22_2.length < 17592186044416 then (gridhalllaw3_ConvexMoves.l1 k2 a2 a3 a4 t232 t239 t246 t251 (x22_2 ++ [rd t251 (ji60)]) ji50 (wrap64 (x25_2 + 1)) a0_0 a0_1 l0_2 t227 t228 t229 t234 t235 t236 t241 t242 t243) else (none)) else (none)) else (none)) = some r:=by first|(rw [hji60] at H;exact H)|(simp only [hji60] at H ⊢;exact H)
           have hji60w : (IntKind.i64.wrap (x25_2 - a0_0)) = ji60:=(i64_w _).trans hji60
           focus
            by_cases c61 : 0 ≤ (ji60)
            rw [if_pos c61] at H
            have c61b0 : decide (0 ≤ (ji60)) = true:=decide_eq_true c61
            clear c61
            focus
             by_cases c62 : (ji60) < (t251.length : Int)
             rw [if_pos c62] at H
             have c62b0 : decide ((ji60) < (t251.length : Int)) = true:=decide_eq_true c62
             clear c62
             focus
              by_cases c63 : x22_2.length < 17592186044416
              rw [if_pos c63] at H
              have LMc63:=Aside0.mk c63
              clear c63
              obtain ⟨y255, hy255⟩ : ∃ y_ : List Int, y_ = (x22_2 ++ [rd t251 (ji60)]):=⟨_, rfl⟩
              replace H : (gridhalllaw3_ConvexMoves.l1 k2 a2 a3 a4 t232 t239 t246 t251 y255 ji50 (wrap64 (x25_2 + 1)) a0_0 a0_1 l0_2 t227 t228 t229 t234 t235 t236 t241 t242 t243) = some r:=by first|(rw [hy255];with_reducible exact H)|(have H2_:=(Option.bind_some _ _).symm.trans H;rw [hy255];with_reducible exact H2_)|(have H2_:=(Option.bind_some _ _).symm.trans H;with_reducible exact H2_)|with_reducible exact H|(rw [hy255];exact H)|exact H
              have Ny255:=Aside0.mk hy255
              clear hy255
              have H':=Aside0.mk H
              clear H
              rotate_left
              rw [if_neg c63] at H
              exact absurd H (by simp)
             rotate_left
             rw [if_neg c62] at H
             exact absurd H (by simp)
            rotate_left
            rw [if_neg c61] at H
            exact absurd H (by simp)
           rotate_left
           rw [if_neg c59] at H
           have c59b0 : decide (x25_2 < (wrap64 (a0_0 + (t251.length : Int)))) = false:=decide_eq_false c59
           clear c59
           have H':=Aside0.mk H
           clear H
           rotate_left
           all_goals
            have hnb64:=NB225_233.out
            have hnc64:=NB233_225.out
            have hnb65:=NB225_240.out
            have hnc65:=NB240_225.out
            have hnb66:=NB225_247.out
            have hnc66:=NB247_225.out
            have hcz67_0 : wr.cell? ⟨gb225, 0, none⟩ = some (.int .i64 a0_0):=(blk_cell BK225.out 0).trans rfl
            have hcz67_1 : wr.cell? ⟨gb225, 1, none⟩ = some (.int .i64 a0_1):=(blk_cell BK225.out 1).trans rfl
            have hcz67_2 : wr.cell? ⟨gb225, 2, none⟩ = some (.slice A0_2 l0_2.length c0_2):=(blk_cell BK225.out 2).trans rfl
            have hfz67_0:=blk_frozen BK225.out 0
            have hfz67_1:=blk_frozen BK225.out 1
            have hfz67_2:=blk_frozen BK225.out 2
            obtain ⟨Ao68, co68, eo68⟩:=Kd.R_slice HO_21.out
            subst eo68
           ·have p254 : 0 ≤ ((ji60) : Int):=of_decide_eq_true (by first|(with_reducible assumption)|assumption)
            have q254 : (ji60) < (t251.length : Int):=of_decide_eq_true (by first|(with_reducible assumption)|assumption)
            obtain ⟨ad254, e254, hx254_0⟩:=Kd.at_int (Kd.R_reads' HO_21.out).2.2 (ji60) p254 q254
            cases e254
            replace p254:=eq_true p254
            replace q254:=eq_true q254
            go_wp2_with (first|((with_reducible refine gate_builtin (b:=.append) (xs:=#[.tmp 103, .tmp 111]) rfl ?_);(try (refine gate_guard (by rfl) ?_;dsimp only));at_builtin;refine Kd.R_append (Kd.int .i64) (w0:=w) w.heap.size rfl (.tmp 103) (.tmp 111) 31 3 (.int .i64 0) 8 rfl Try.underlying31 info3 rfl (by decide) (by omega) u22 x22_2 (rd t251 (ji60)) [.int .i64 (rd t251 (ji60))] (fun k_=>some k_ ≠ (.slice (some ad254) t251.length co68 : Value).ownBlock) (fun _=>False) rfl rfl ?aP (fun _ hk=>hk.elim) ?aF ?aO ?aB ?aS ?aL ?_;(case aP=>exact rfl);(case aB=>exact (by repeat (first|(with_reducible first|exact HB.out|apply below_alloc|apply pw_below_drewN|apply below_drew1|refine below_set ?_ GE225.out|refine below_set ?_ GE233.out|refine below_set ?_ GE240.out|refine below_set ?_ GE247.out)|exact HB.out)));(case aF=>exact (fun k_ hk=>Kd.fresh' (Kd.R_lt (by (with_reducible repeat (first|apply Kd.R_alloc|apply Kd.R_drewN|apply Kd.R_drew));exact HO_21.out)) k_ hk));(case aO=>exact (by (with_reducible repeat (first|apply Kd.R_alloc|apply Kd.R_drewN|apply Kd.R_drew));exact HO_22.out));(case aS=>exact (below_size (by repeat (first|(with_reducible first|exact HB.out|apply below_alloc|apply pw_below_drewN|apply below_drew1|refine below_set ?_ GE225.out|refine below_set ?_ GE233.out|refine below_set ?_ GE240.out|refine below_set ?_ GE247.out)|exact HB.out))));(case aL=>have:=LMc63.out;omega);intro v256 w69 ho hb hg hat;rw [← Ny255.out] at ho;have n0_:=Aside0.mk (Kd.R_after (ok:=(fun _=>True)) (by (with_reducible repeat (first|apply Kd.R_alloc|apply Kd.R_drewN|apply Kd.R_drew));exact Kd.R_mono HO_21.out (fun _ hk=>⟨trivial, hk⟩)) hg hat);have n1_:=Aside0.mk (Kd.R_over' (by (with_reducible repeat (first|apply Kd.R_alloc|apply Kd.R_drewN|apply Kd.R_drew));exact HO_234002.out) (Kd.R_typed (by (with_reducible repeat (first|apply Kd.R_alloc|apply Kd.R_drewN|apply Kd.R_drew));exact HO_22.out)) (by decide) hg);have n2_:=Aside0.mk (Kd.R_over' (by (with_reducible repeat (first|apply Kd.R_alloc|apply Kd.R_drewN|apply Kd.R_drew));exact HO_241002.out) (Kd.R_typed (by (with_reducible repeat (first|apply Kd.R_alloc|apply Kd.R_drewN|apply Kd.R_drew));exact HO_22.out)) (by decide) hg);have n3_:=Aside0.mk (Kd.R_over' (by (with_reducible repeat (first|apply Kd.R_alloc|apply Kd.R_drewN|apply Kd.R_drew));exact HO_248002.out) (Kd.R_typed (by (with_reducible repeat (first|apply Kd.R_alloc|apply Kd.R_drewN|apply Kd.R_drew));exact HO_22.out)) (by decide) hg);have n4_:=Aside0.mk (blk_grown (g:=gb225) (o:=.cells #[.int .i64 a0_0, .int .i64 a0_1, .slice A0_2 l0_2.length c0_2] 82 (0, 0)) (by (with_reducible repeat (first|refine blk_drewN ?_ _|refine blk_drew ?_|refine blk_alloc ?_ _));exact BK225.out) hg (Kd.R_ne HO_22.out BK225.out (by decide)));have n5_:=Aside0.mk (blk_grown (g:=gb233) (o:=.cells #[.int .i64 t227, .int .i64 t228, .slice Ao20 t229.length co20] 82 (0, 0)) (by (with_reducible repeat (first|refine blk_drewN ?_ _|refine blk_drew ?_|refine blk_alloc ?_ _));exact BK233.out) hg (Kd.R_ne HO_22.out BK233.out (by decide)));have n6_:=Aside0.mk (blk_grown (g:=gb240) (o:=.cells #[.int .i64 t234, .int .i64 t235, .slice Ao27 t236.length co27] 82 (0, 0)) (by (with_reducible repeat (first|refine blk_drewN ?_ _|refine blk_drew ?_|refine blk_alloc ?_ _));exact BK240.out) hg (Kd.R_ne HO_22.out BK240.out (by decide)));have n7_:=Aside0.mk (blk_grown (g:=gb247) (o:=.cells #[.int .i64 t241, .int .i64 t242, .slice Ao35 t243.length co35] 82 (0, 0)) (by (with_reducible repeat (first|refine blk_drewN ?_ _|refine blk_drew ?_|refine blk_alloc ?_ _));exact BK247.out) hg (Kd.R_ne HO_22.out BK247.out (by decide)));have n8_:=Aside0.mk (hb);have n9_:=Aside0.mk (ho);clear HO_21;clear HO_234002;clear HO_241002;clear HO_248002;clear BK225;clear BK233;clear BK240;clear BK247;clear HB;clear HO_22;have HO_21:=n0_;have HO_234002:=n1_;have HO_241002:=n2_;have HO_248002:=n3_;have BK225:=n4_;have BK233:=n5_;have BK240:=n6_;have BK247:=n7_;have HB:=n8_;have HO257:=n9_;clear n0_ n1_ n2_ n3_ n4_ n5_ n6_ n7_ n8_ n9_;clear ho hb hg hat))
            go_roundg k2
            case measure=>have:=HK1.out;have:=HK2.out;omega
            case rel=>exact ⟨(y255),(wrap64 (x25_2 + 1)),(by first|rfl|(simp;done)|(simp [*];done)), H', ⟨by have:=HK1.out;have:=HK2.out;omega⟩,⟨by (with_reducible repeat (first|apply Kd.R_alloc|apply Kd.R_drewN|apply Kd.R_drew));exact Kd.R_mono HO_21.out (fun _ hk=>hk.2)⟩,⟨by (with_reducible repeat (first|apply Kd.R_alloc|apply Kd.R_drewN|apply Kd.R_drew));exact HO257.out⟩,⟨by (with_reducible repeat (first|apply Kd.R_alloc|apply Kd.R_drewN|apply Kd.R_drew));exact HO_234002.out⟩,⟨by (with_reducible repeat (first|apply Kd.R_alloc|apply Kd.R_drewN|apply Kd.R_drew));exact HO_241002.out⟩,⟨by (with_reducible repeat (first|apply Kd.R_alloc|apply Kd.R_drewN|apply Kd.R_drew));exact HO_248002.out⟩,⟨by (with_reducible repeat (first|refine blk_drewN ?_ _|refine blk_drew ?_|refine blk_alloc ?_ _));exact BK225.out⟩,⟨by (with_reducible repeat (first|refine blk_drewN ?_ _|refine blk_drew ?_|refine blk_alloc ?_ _));exact BK233.out⟩,⟨by (with_reducible repeat (first|refine blk_drewN ?_ _|refine blk_drew ?_|refine blk_alloc ?_ _));exact BK240.out⟩,⟨by (with_reducible repeat (first|refine blk_drewN ?_ _|refine blk_drew ?_|refine blk_alloc ?_ _));exact BK247.out⟩,⟨by repeat (first|(with_reducible first|exact HB.out|apply below_alloc|apply pw_below_drewN|apply below_drew1|refine below_set ?_ GE225.out|refine below_set ?_ GE233.out|refine below_set ?_ GE240.out|refine below_set ?_ GE247.out)|exact HB.out)⟩⟩
           ·go_wp2
            go_meet
            case rel=>exact ⟨_, (x22_2), H', ⟨by have:=HK1.out;have:=HK2.out;first|omega|exact Nat.le_refl _⟩,⟨by (with_reducible repeat (first|apply Kd.R_alloc|apply Kd.R_drewN|apply Kd.R_drew));exact Kd.R_mono HO_21.out (fun _ hk=>⟨hk, (by simp [Value.ownBlock])⟩)⟩,⟨by (with_reducible repeat (first|apply Kd.R_alloc|apply Kd.R_drewN|apply Kd.R_drew));exact Kd.R_mono HO_22.out (fun _ hk=>⟨hk, (by simp [Value.ownBlock])⟩)⟩,⟨by first|exact Kd.R_nil _ _ _ _ _|exact Kd.N_nil _ _ _ _ _|exact Kd.V_nil _ _ _ _ _|exact Kd.Q_nil _ _ _ _ _|exact Kd.S_nil _ _ _ _ _⟩,⟨by (with_reducible repeat (first|apply Kd.R_alloc|apply Kd.R_drewN|apply Kd.R_drew));exact HO_234002.out⟩,⟨by (with_reducible repeat (first|apply Kd.R_alloc|apply Kd.R_drewN|apply Kd.R_drew));exact HO_241002.out⟩,⟨by (with_reducible repeat (first|apply Kd.R_alloc|apply Kd.R_drewN|apply Kd.R_drew));exact HO_248002.out⟩,⟨by (with_reducible repeat (first|refine blk_drewN ?_ _|refine blk_drew ?_|refine blk_alloc ?_ _));exact BK225.out⟩,⟨by (with_reducible repeat (first|refine blk_drewN ?_ _|refine blk_drew ?_|refine blk_alloc ?_ _));exact BK233.out⟩,⟨by (with_reducible repeat (first|refine blk_drewN ?_ _|refine blk_drew ?_|refine blk_alloc ?_ _));exact BK240.out⟩,⟨by (with_reducible repeat (first|refine blk_drewN ?_ _|refine blk_drew ?_|refine blk_alloc ?_ _));exact BK247.out⟩,⟨by repeat (first|(with_reducible first|exact HB.out|apply below_alloc|apply pw_below_drewN|apply below_drew1|refine below_set ?_ GE225.out|refine below_set ?_ GE233.out|refine below_set ?_ GE240.out|refine below_set ?_ GE247.out)|exact HB.out)⟩⟩
          ·rw [if_neg c58] at H
           have c58b0 : decide (x25_2 ≤ a2) = false:=decide_eq_false c58
           clear c58
           (first|rw [c58b0]|(simp only [i64_w, i32_w];rw [c58b0])|skip)
           have H':=Aside0.mk H
           clear H
           go_wp2
           go_meet
           case rel=>exact ⟨_, (x22_2), H', ⟨by have:=HK1.out;have:=HK2.out;first|omega|exact Nat.le_refl _⟩,⟨by (with_reducible repeat (first|apply Kd.R_alloc|apply Kd.R_drewN|apply Kd.R_drew));exact Kd.R_mono HO_21.out (fun _ hk=>⟨hk, (by simp [Value.ownBlock])⟩)⟩,⟨by (with_reducible repeat (first|apply Kd.R_alloc|apply Kd.R_drewN|apply Kd.R_drew));exact Kd.R_mono HO_22.out (fun _ hk=>⟨hk, (by simp [Value.ownBlock])⟩)⟩,⟨by first|exact Kd.R_nil _ _ _ _ _|exact Kd.N_nil _ _ _ _ _|exact Kd.V_nil _ _ _ _ _|exact Kd.Q_nil _ _ _ _ _|exact Kd.S_nil _ _ _ _ _⟩,⟨by (with_reducible repeat (first|apply Kd.R_alloc|apply Kd.R_drewN|apply Kd.R_drew));exact HO_234002.out⟩,⟨by (with_reducible repeat (first|apply Kd.R_alloc|apply Kd.R_drewN|apply Kd.R_drew));exact HO_241002.out⟩,⟨by (with_reducible repeat (first|apply Kd.R_alloc|apply Kd.R_drewN|apply Kd.R_drew));exact HO_248002.out⟩,⟨by (with_reducible repeat (first|refine blk_drewN ?_ _|refine blk_drew ?_|refine blk_alloc ?_ _));exact BK225.out⟩,⟨by (with_reducible repeat (first|refine blk_drewN ?_ _|refine blk_drew ?_|refine blk_alloc ?_ _));exact BK233.out⟩,⟨by (with_reducible repeat (first|refine blk_drewN ?_ _|refine blk_drew ?_|refine blk_alloc ?_ _));exact BK240.out⟩,⟨by (with_reducible repeat (first|refine blk_drewN ?_ _|refine blk_drew ?_|refine blk_alloc ?_ _));exact BK247.out⟩,⟨by repeat (first|(with_reducible first|exact HB.out|apply below_alloc|apply pw_below_drewN|apply below_drew1|refine below_set ?_ GE225.out|refine below_set ?_ GE233.out|refine below_set ?_ GE240.out|refine below_set ?_ GE247.out)|exact HB.out)⟩⟩
       case rest =>
        clear HC51
        try clear c1
        try clear c2
        try clear p2
        try clear q2
        try clear hx2
        try clear c3
        try clear c4
        try clear c5
        try clear c6
        try clear p6
        try clear c7
        try clear c12
        try clear c12b0
        try clear c12b1
        try clear c18
        try clear c24
        try clear p24
        try clear q24
        try clear hx24
        try clear c25
        try clear p25
        try clear q25
        try clear hx25
        try clear c31
        try clear c32
        try clear c33
        try clear c34
        try clear c35
        try clear c36
        try clear c39
        try clear c39b0
        try clear c40
        try clear c40b0
        try clear c41
        try clear c41b0
        try clear c43
        try clear c44
        try clear c45
        try clear c46
        try clear c48
        try clear c48b0
        try clear c52
        try clear c53
        try clear c54
        try clear c58
        try clear c58b0
        try clear c59
        try clear c59b0
        try clear c61
        try clear c61b0
        try clear c62
        try clear c62b0
        try clear c63
        try clear c64
        try clear p64
        try clear c65
        try clear c66
        try clear c70
        try clear c71
        try clear c72
        try clear hcz15_0
        try clear hcz15_1
        try clear hcz15_2
        try clear hcz19_0
        try clear hcz19_1
        try clear hcz19_2
        try clear hcz21_0
        try clear hcz21_1
        try clear hcz21_2
        try clear hcz26_0
        try clear hcz26_1
        try clear hcz26_2
        try clear hcz28_0
        try clear hcz28_1
        try clear hcz28_2
        try clear hcz34_0
        try clear hcz34_1
        try clear hcz34_2
        try clear hcz36_0
        try clear hcz36_1
        try clear hcz36_2
        try clear hcz38_0
        try clear hcz38_1
        try clear hcz38_2
        try clear hcz47_0
        try clear hcz47_1
        try clear hcz55_0
        try clear hcz55_1
        try clear hcz55_2
        try clear hcz57_0
        try clear hcz57_1
        try clear hcz57_2
        try clear hcz67_0
        try clear hcz67_1
        try clear hcz67_2
        try clear hcz73_0
        try clear hcz73_1
        try clear hcz73_2
        try clear hfz15_0
        try clear hfz15_1
        try clear hfz15_2
        try clear hfz19_0
        try clear hfz19_1
        try clear hfz19_2
        try clear hfz21_0
        try clear hfz21_1
        try clear hfz21_2
        try clear hfz26_0
        try clear hfz26_1
        try clear hfz26_2
        try clear hfz28_0
        try clear hfz28_1
        try clear hfz28_2
        try clear hfz34_0
        try clear hfz34_1
        try clear hfz34_2
        try clear hfz36_0
        try clear hfz36_1
        try clear hfz36_2
        try clear hfz38_0
        try clear hfz38_1
        try clear hfz38_2
        try clear hfz47_0
        try clear hfz47_1
        try clear hfz55_0
        try clear hfz55_1
        try clear hfz55_2
        try clear hfz57_0
        try clear hfz57_1
        try clear hfz57_2
        try clear hfz67_0
        try clear hfz67_1
        try clear hfz67_2
        try clear hfz73_0
        try clear hfz73_1
        try clear hfz73_2
        try clear hx249_0
        try clear hx249_1
        try clear hx254_0
        try clear p2
        try clear p24
        try clear p249
        try clear p254
        try clear p6
        try clear q2
        try clear q24
        try clear q249
        try clear q254
        obtain ⟨kq, x22_50, HA, HJ50, HO_21, HO_22, HO_23, HO_234002, HO_241002, HO_248002, BK225, BK233, BK240, BK247, HB⟩:=hcut
        cases kq with
       |zero => exact absurd HA.out (by simp [gridhalllaw3_ConvexMoves.j2])
       |succ kj50 =>
         have H:=HA.out
         clear HA
         simp only [gridhalllaw3_ConvexMoves.j2] at H
         have HC75:=Aside0.mk H
         clear H
         obtain ⟨Ao76, co76, eo76⟩:=Kd.R_slice HO_22.out
         subst eo76
         go_upto_if 115 with (fail)
         go_cut [] (fun wc=>∃ (kq : Nat), Aside0 (gridhalllaw3_ConvexMoves.j3 kq a3 a4 t239 t246 t251 ([] : List Int) a0_0 a0_1 l0_2 t234 t235 t236 t241 t242 t243 = some r)∧Aside0 (kq ≤ kj50)∧Aside0 (Kd.R (Kd.int .i64) 3 wc w.heap.size (fun k_=>some k_ ≠ ((.slice none 0 0) : Value).ownBlock) v252 t251)∧Aside0 (Kd.R (Kd.int .i64) 3 wc w.heap.size (fun k_=>some k_ ≠ (v252 : Value).ownBlock) (.slice none 0 0) ([] : List Int))∧Aside0 (Kd.R k88 88 wc w.heap.size (fun k_=>some k_ ≠ ((.slice Ao27 t236.length co27) : Value).ownBlock∧some k_ ≠ ((.slice Ao35 t243.length co35) : Value).ownBlock) (.slice Ao20 t229.length co20) t229)∧Aside0 (Kd.R k88 88 wc w.heap.size (fun k_=>some k_ ≠ ((.slice Ao20 t229.length co20) : Value).ownBlock∧some k_ ≠ ((.slice Ao35 t243.length co35) : Value).ownBlock) (.slice Ao27 t236.length co27) t236)∧Aside0 (Kd.R k88 88 wc w.heap.size (fun k_=>some k_ ≠ ((.slice Ao20 t229.length co20) : Value).ownBlock∧some k_ ≠ ((.slice Ao27 t236.length co27) : Value).ownBlock) (.slice Ao35 t243.length co35) t243)∧Aside0 (wc.heap[gb225]? = some (.cells #[.int .i64 a0_0, .int .i64 a0_1, (.slice A0_2 l0_2.length c0_2)] 82 (0, 0)))∧Aside0 (wc.heap[gb233]? = some (.cells #[.int .i64 t227, .int .i64 t228, (.slice Ao20 t229.length co20)] 82 (0, 0)))∧Aside0 (wc.heap[gb240]? = some (.cells #[.int .i64 t234, .int .i64 t235, (.slice Ao27 t236.length co27)] 82 (0, 0)))∧Aside0 (wc.heap[gb247]? = some (.cells #[.int .i64 t241, .int .i64 t242, (.slice Ao35 t243.length co35)] 82 (0, 0)))∧Aside0 (Below w.heap.size w wc))
         case first =>
          have H:=HC75.out
          clear HC75
          by_cases c77 : (x22_50.length : Int) = 0
          ·rw [if_pos c77] at H
           have c77b0 : ((x22_50.length : Int) == 0) = true:=beq_iff_eq.mpr c77
           have c77b1 : ((x22_50.length : Int) != 0) = false:=bne_eq_false_iff_eq.mpr c77
           clear c77
           (first|rw [c77b0]|(simp only [i64_w, i32_w];rw [c77b0])|skip)
           by_cases c78 : t232 = 8
           ·rw [if_pos c78] at H
            have c78b0 : (t232 == 8) = true:=beq_iff_eq.mpr c78
            have c78b1 : (t232 != 8) = false:=bne_eq_false_iff_eq.mpr c78
            clear c78
            have H':=Aside0.mk H
            clear H
            go_wp2
            go_meet
            case rel=>exact ⟨_, H', ⟨by have:=HK1.out;have:=HJ50.out;first|omega|exact Nat.le_refl _⟩,⟨by (with_reducible repeat (first|apply Kd.R_alloc|apply Kd.R_drewN|apply Kd.R_drew));exact Kd.R_mono HO_21.out (fun _ hk=>hk.2)⟩,⟨by (with_reducible repeat (first|apply Kd.R_alloc|apply Kd.R_drewN|apply Kd.R_drew));exact Kd.R_mono HO_23.out (fun _ hk=>hk.1)⟩,⟨by (with_reducible repeat (first|apply Kd.R_alloc|apply Kd.R_drewN|apply Kd.R_drew));exact HO_234002.out⟩,⟨by (with_reducible repeat (first|apply Kd.R_alloc|apply Kd.R_drewN|apply Kd.R_drew));exact HO_241002.out⟩,⟨by (with_reducible repeat (first|apply Kd.R_alloc|apply Kd.R_drewN|apply Kd.R_drew));exact HO_248002.out⟩,⟨by (with_reducible repeat (first|refine blk_drewN ?_ _|refine blk_drew ?_|refine blk_alloc ?_ _));exact BK225.out⟩,⟨by (with_reducible repeat (first|refine blk_drewN ?_ _|refine blk_drew ?_|refine blk_alloc ?_ _));exact BK233.out⟩,⟨by (with_reducible repeat (first|refine blk_drewN ?_ _|refine blk_drew ?_|refine blk_alloc ?_ _));exact BK240.out⟩,⟨by (with_reducible repeat (first|refine blk_drewN ?_ _|refine blk_drew ?_|refine blk_alloc ?_ _));exact BK247.out⟩,⟨by repeat (first|(with_reducible first|exact HB.out|apply below_alloc|apply pw_below_drewN|apply below_drew1|refine below_set ?_ GE225.out|refine below_set ?_ GE233.out|refine below_set ?_ GE240.out|refine below_set ?_ GE247.out)|exact HB.out)⟩⟩
           ·rw [if_neg c78] at H
            have c78b0 : (t232 == 8) = false:=beq_eq_false_iff_ne.mpr c78
            have c78b1 : (t232 != 8) = true:=bne_iff_ne.mpr c78
            obtain rfl:=Option.some.inj H
            go_wp2
            go_ret
            exact ⟨by first|rfl|(simp [errW_none, errW_some] <;> rfl)|(simp only [← hji50];first|rfl|(simp [errW_none, errW_some] <;> rfl))|(simp [*, errW_none, errW_some] <;> rfl), by repeat (first|(with_reducible first|exact HB.out|apply below_alloc|apply pw_below_drewN|apply below_drew1|refine below_set ?_ GE225.out|refine below_set ?_ GE233.out|refine below_set ?_ GE240.out|refine below_set ?_ GE247.out)|exact HB.out)⟩
          ·rw [if_neg c77] at H
           have c77b0 : ((x22_50.length : Int) == 0) = false:=beq_eq_false_iff_ne.mpr c77
           have c77b1 : ((x22_50.length : Int) != 0) = true:=bne_iff_ne.mpr c77
           have c77b2 : ¬ (x22_50 = []):=fun h_=>c77 (by rw [h_];rfl)
           (first|rw [c77b0]|(simp only [i64_w, i32_w];rw [c77b0])|skip)
           by_cases c79 : t232 = 0
           ·rw [if_pos c79] at H
            have c79b0 : (t232 == 0) = true:=beq_iff_eq.mpr c79
            have c79b1 : (t232 != 0) = false:=bne_eq_false_iff_eq.mpr c79
            clear c79
            replace H:=Option.bind_eq_some_iff.mp H
            obtain ⟨t258, A800, H⟩:=H
            replace H : (if t258 = true then (gridhalllaw3_ConvexMoves.j3 kj50 a3 a4 t239 t246 t251 ([] : List Int) a0_0 a0_1 l0_2 t234 t235 t236 t241 t242 t243) else (some false)) = some r:=H
            have A80:=Aside0.mk A800
            clear A800
            by_cases c81 : t258 = true
            ·subst c81
             have H1 : (gridhalllaw3_ConvexMoves.j3 kj50 a3 a4 t239 t246 t251 ([] : List Int) a0_0 a0_1 l0_2 t234 t235 t236 t241 t242 t243) = some r:=by rw [if_pos rfl] at H;exact H
             clear H
             have H:=H1
             clear H1
             have H':=Aside0.mk H
             clear H
             have hnb82:=NB233_225.out
             have hnc82:=NB225_233.out
             have hnb83:=NB233_240.out
             have hnc83:=NB240_233.out
             have hnb84:=NB233_247.out
             have hnc84:=NB247_233.out
             have hcz85_0 : wc.cell? ⟨gb233, 0, none⟩ = some (.int .i64 t227):=(blk_cell BK233.out 0).trans rfl
             have hcz85_1 : wc.cell? ⟨gb233, 1, none⟩ = some (.int .i64 t228):=(blk_cell BK233.out 1).trans rfl
             have hcz85_2 : wc.cell? ⟨gb233, 2, none⟩ = some (.slice Ao20 t229.length co20):=(blk_cell BK233.out 2).trans rfl
             have hfz85_0:=blk_frozen BK233.out 0
             have hfz85_1:=blk_frozen BK233.out 1
             have hfz85_2:=blk_frozen BK233.out 2
             go_wp2_with (first|(go_at_call 37;(with_reducible refine (gridhalllaw3_sameValues.calls kj50 t227 t228 _ _ t229 ji50 _ _ x22_50 true _ ?side1 ?side2 ?side3 ?side4 A80.out).mono ?_);(case side1=>repeat (first|exact (Kd.R_reads' HO_234002.out).2.2|(with_reducible refine Kd.C_alloc ?_ _)|(with_reducible refine Kd.C_drewN ?_ _)|(with_reducible refine Kd.C_drew ?_)));(case side2=>exact (Kd.R_reads' HO_234002.out).2.1);(case side3=>repeat (first|exact (Kd.R_reads' HO_22.out).2.2|(with_reducible refine Kd.C_alloc ?_ _)|(with_reducible refine Kd.C_drewN ?_ _)|(with_reducible refine Kd.C_drew ?_)));(case side4=>exact (Kd.R_reads' HO_22.out).2.1);rintro e w86 ⟨rfl, hb⟩;have n0_:=Aside0.mk (Kd.R_below (by (with_reducible repeat (first|apply Kd.R_alloc|apply Kd.R_drewN|apply Kd.R_drew));exact HO_21.out) hb);have n1_:=Aside0.mk (Kd.R_below (by (with_reducible repeat (first|apply Kd.R_alloc|apply Kd.R_drewN|apply Kd.R_drew));exact HO_22.out) hb);have n2_:=Aside0.mk (Kd.R_below (by (with_reducible repeat (first|apply Kd.R_alloc|apply Kd.R_drewN|apply Kd.R_drew));exact HO_23.out) hb);have n3_:=Aside0.mk (Kd.R_below (by (with_reducible repeat (first|apply Kd.R_alloc|apply Kd.R_drewN|apply Kd.R_drew));exact HO_234002.out) hb);have n4_:=Aside0.mk (Kd.R_below (by (with_reducible repeat (first|apply Kd.R_alloc|apply Kd.R_drewN|apply Kd.R_drew));exact HO_241002.out) hb);have n5_:=Aside0.mk (Kd.R_below (by (with_reducible repeat (first|apply Kd.R_alloc|apply Kd.R_drewN|apply Kd.R_drew));exact HO_248002.out) hb);have n6_:=Aside0.mk (blk_below (g:=gb225) (o:=.cells #[.int .i64 a0_0, .int .i64 a0_1, .slice A0_2 l0_2.length c0_2] 82 (0, 0)) (by (with_reducible repeat (first|refine blk_drewN ?_ _|refine blk_drew ?_|refine blk_alloc ?_ _));exact BK225.out) hb);have n7_:=Aside0.mk (blk_below (g:=gb233) (o:=.cells #[.int .i64 t227, .int .i64 t228, .slice Ao20 t229.length co20] 82 (0, 0)) (by (with_reducible repeat (first|refine blk_drewN ?_ _|refine blk_drew ?_|refine blk_alloc ?_ _));exact BK233.out) hb);have n8_:=Aside0.mk (blk_below (g:=gb240) (o:=.cells #[.int .i64 t234, .int .i64 t235, .slice Ao27 t236.length co27] 82 (0, 0)) (by (with_reducible repeat (first|refine blk_drewN ?_ _|refine blk_drew ?_|refine blk_alloc ?_ _));exact BK240.out) hb);have n9_:=Aside0.mk (blk_below (g:=gb247) (o:=.cells #[.int .i64 t241, .int .i64 t242, .slice Ao35 t243.length co35] 82 (0, 0)) (by (with_reducible repeat (first|refine blk_drewN ?_ _|refine blk_drew ?_|refine blk_alloc ?_ _));exact BK247.out) hb);have n10_:=Aside0.mk (below_step (by repeat (first|(with_reducible first|exact HB.out|apply below_alloc|apply pw_below_drewN|apply below_drew1|refine below_set ?_ GE225.out|refine below_set ?_ GE233.out|refine below_set ?_ GE240.out|refine below_set ?_ GE247.out)|exact HB.out)) hb);clear HO_21;clear HO_22;clear HO_23;clear HO_234002;clear HO_241002;clear HO_248002;clear BK225;clear BK233;clear BK240;clear BK247;clear HB;have HO_21:=n0_;have HO_22:=n1_;have HO_23:=n2_;have HO_234002:=n3_;have HO_241002:=n4_;have HO_248002:=n5_;have BK225:=n6_;have BK233:=n7_;have BK240:=n8_;have BK247:=n9_;have HB:=n10_;clear n0_ n1_ n2_ n3_ n4_ n5_ n6_ n7_ n8_ n9_ n10_;(try clear hb);(try clear hb2);(try clear hk);(try clear hi)))
             go_meet
             case rel=>exact ⟨_, H', ⟨by have:=HK1.out;have:=HJ50.out;first|omega|exact Nat.le_refl _⟩,⟨by (with_reducible repeat (first|apply Kd.R_alloc|apply Kd.R_drewN|apply Kd.R_drew));exact Kd.R_mono HO_21.out (fun _ hk=>hk.2)⟩,⟨by (with_reducible repeat (first|apply Kd.R_alloc|apply Kd.R_drewN|apply Kd.R_drew));exact Kd.R_mono HO_23.out (fun _ hk=>hk.1)⟩,⟨by (with_reducible repeat (first|apply Kd.R_alloc|apply Kd.R_drewN|apply Kd.R_drew));exact HO_234002.out⟩,⟨by (with_reducible repeat (first|apply Kd.R_alloc|apply Kd.R_drewN|apply Kd.R_drew));exact HO_241002.out⟩,⟨by (with_reducible repeat (first|apply Kd.R_alloc|apply Kd.R_drewN|apply Kd.R_drew));exact HO_248002.out⟩,⟨by (with_reducible repeat (first|refine blk_drewN ?_ _|refine blk_drew ?_|refine blk_alloc ?_ _));exact BK225.out⟩,⟨by (with_reducible repeat (first|refine blk_drewN ?_ _|refine blk_drew ?_|refine blk_alloc ?_ _));exact BK233.out⟩,⟨by (with_reducible repeat (first|refine blk_drewN ?_ _|refine blk_drew ?_|refine blk_alloc ?_ _));exact BK240.out⟩,⟨by (with_reducible repeat (first|refine blk_drewN ?_ _|refine blk_drew ?_|refine blk_alloc ?_ _));exact BK247.out⟩,⟨by repeat (first|(with_reducible first|exact HB.out|apply below_alloc|apply pw_below_drewN|apply below_drew1|refine below_set ?_ GE225.out|refine below_set ?_ GE233.out|refine below_set ?_ GE240.out|refine below_set ?_ GE247.out)|exact HB.out)⟩⟩
            ·replace c81:=Bool.eq_false_iff.mpr c81
             subst c81
             have H1 : (some false) = some r:=by rw [if_neg (show ¬ (false = true) by decide)] at H;exact H
             clear H
             have H:=H1
             clear H1
             obtain rfl:=Option.some.inj H
             have hnb87:=NB233_225.out
             have hnc87:=NB225_233.out
             have hnb88:=NB233_240.out
             have hnc88:=NB240_233.out
             have hnb89:=NB233_247.out
             have hnc89:=NB247_233.out
             have hcz90_0 : wc.cell? ⟨gb233, 0, none⟩ = some (.int .i64 t227):=(blk_cell BK233.out 0).trans rfl
             have hcz90_1 : wc.cell? ⟨gb233, 1, none⟩ = some (.int .i64 t228):=(blk_cell BK233.out 1).trans rfl
             have hcz90_2 : wc.cell? ⟨gb233, 2, none⟩ = some (.slice Ao20 t229.length co20):=(blk_cell BK233.out 2).trans rfl
             have hfz90_0:=blk_frozen BK233.out 0
             have hfz90_1:=blk_frozen BK233.out 1
             have hfz90_2:=blk_frozen BK233.out 2
             go_wp2_with (first|(go_at_call 37;(with_reducible refine (gridhalllaw3_sameValues.calls kj50 t227 t228 _ _ t229 ji50 _ _ x22_50 false _ ?side1 ?side2 ?side3 ?side4 A80.out).mono ?_);(case side1=>repeat (first|exact (Kd.R_reads' HO_234002.out).2.2|(with_reducible refine Kd.C_alloc ?_ _)|(with_reducible refine Kd.C_drewN ?_ _)|(with_reducible refine Kd.C_drew ?_)));(case side2=>exact (Kd.R_reads' HO_234002.out).2.1);(case side3=>repeat (first|exact (Kd.R_reads' HO_22.out).2.2|(with_reducible refine Kd.C_alloc ?_ _)|(with_reducible refine Kd.C_drewN ?_ _)|(with_reducible refine Kd.C_drew ?_)));(case side4=>exact (Kd.R_reads' HO_22.out).2.1);rintro e w91 ⟨rfl, hb⟩;have n0_:=Aside0.mk (Kd.R_below (by (with_reducible repeat (first|apply Kd.R_alloc|apply Kd.R_drewN|apply Kd.R_drew));exact HO_21.out) hb);have n1_:=Aside0.mk (Kd.R_below (by (with_reducible repeat (first|apply Kd.R_alloc|apply Kd.R_drewN|apply Kd.R_drew));exact HO_22.out) hb);have n2_:=Aside0.mk (Kd.R_below (by (with_reducible repeat (first|apply Kd.R_alloc|apply Kd.R_drewN|apply Kd.R_drew));exact HO_23.out) hb);have n3_:=Aside0.mk (Kd.R_below (by (with_reducible repeat (first|apply Kd.R_alloc|apply Kd.R_drewN|apply Kd.R_drew));exact HO_234002.out) hb);have n4_:=Aside0.mk (Kd.R_below (by (with_reducible repeat (first|apply Kd.R_alloc|apply Kd.R_drewN|apply Kd.R_drew));exact HO_241002.out) hb);have n5_:=Aside0.mk (Kd.R_below (by (with_reducible repeat (first|apply Kd.R_alloc|apply Kd.R_drewN|apply Kd.R_drew));exact HO_248002.out) hb);have n6_:=Aside0.mk (blk_below (g:=gb225) (o:=.cells #[.int .i64 a0_0, .int .i64 a0_1, .slice A0_2 l0_2.length c0_2] 82 (0, 0)) (by (with_reducible repeat (first|refine blk_drewN ?_ _|refine blk_drew ?_|refine blk_alloc ?_ _));exact BK225.out) hb);have n7_:=Aside0.mk (blk_below (g:=gb233) (o:=.cells #[.int .i64 t227, .int .i64 t228, .slice Ao20 t229.length co20] 82 (0, 0)) (by (with_reducible repeat (first|refine blk_drewN ?_ _|refine blk_drew ?_|refine blk_alloc ?_ _));exact BK233.out) hb);have n8_:=Aside0.mk (blk_below (g:=gb240) (o:=.cells #[.int .i64 t234, .int .i64 t235, .slice Ao27 t236.length co27] 82 (0, 0)) (by (with_reducible repeat (first|refine blk_drewN ?_ _|refine blk_drew ?_|refine blk_alloc ?_ _));exact BK240.out) hb);have n9_:=Aside0.mk (blk_below (g:=gb247) (o:=.cells #[.int .i64 t241, .int .i64 t242, .slice Ao35 t243.length co35] 82 (0, 0)) (by (with_reducible repeat (first|refine blk_drewN ?_ _|refine blk_drew ?_|refine blk_alloc ?_ _));exact BK247.out) hb);have n10_:=Aside0.mk (below_step (by repeat (first|(with_reducible first|exact HB.out|apply below_alloc|apply pw_below_drewN|apply below_drew1|refine below_set ?_ GE225.out|refine below_set ?_ GE233.out|refine below_set ?_ GE240.out|refine below_set ?_ GE247.out)|exact HB.out)) hb);clear HO_21;clear HO_22;clear HO_23;clear HO_234002;clear HO_241002;clear HO_248002;clear BK225;clear BK233;clear BK240;clear BK247;clear HB;have HO_21:=n0_;have HO_22:=n1_;have HO_23:=n2_;have HO_234002:=n3_;have HO_241002:=n4_;have HO_248002:=n5_;have BK225:=n6_;have BK233:=n7_;have BK240:=n8_;have BK247:=n9_;have HB:=n10_;clear n0_ n1_ n2_ n3_ n4_ n5_ n6_ n7_ n8_ n9_ n10_;(try clear hb);(try clear hb2);(try clear hk);(try clear hi)))
             go_ret
             exact ⟨by first|rfl|(simp [errW_none, errW_some] <;> rfl)|(simp only [← hji50];first|rfl|(simp [errW_none, errW_some] <;> rfl))|(simp [*, errW_none, errW_some] <;> rfl), by repeat (first|(with_reducible first|exact HB.out|apply below_alloc|apply pw_below_drewN|apply below_drew1|refine below_set ?_ GE225.out|refine below_set ?_ GE233.out|refine below_set ?_ GE240.out|refine below_set ?_ GE247.out)|exact HB.out)⟩
           ·rw [if_neg c79] at H
            have c79b0 : (t232 == 0) = false:=beq_eq_false_iff_ne.mpr c79
            have c79b1 : (t232 != 0) = true:=bne_iff_ne.mpr c79
            obtain rfl:=Option.some.inj H
            go_wp2
            go_ret
            exact ⟨by first|rfl|(simp [errW_none, errW_some] <;> rfl)|(simp only [← hji50];first|rfl|(simp [errW_none, errW_some] <;> rfl))|(simp [*, errW_none, errW_some] <;> rfl), by repeat (first|(with_reducible first|exact HB.out|apply below_alloc|apply pw_below_drewN|apply below_drew1|refine below_set ?_ GE225.out|refine below_set ?_ GE233.out|refine below_set ?_ GE240.out|refine below_set ?_ GE247.out)|exact HB.out)⟩
         case rest =>
          clear HC75
          try clear c1
          try clear c2
          try clear p2
          try clear q2
          try clear hx2
          try clear c3
          try clear c4
          try clear c5
          try clear c6
          try clear p6
          try clear c7
          try clear c8
          try clear c12
          try clear c12b0
          try clear c12b1
          try clear c18
          try clear c24
          try clear p24
          try clear q24
          try clear hx24
          try clear c25
          try clear p25
          try clear q25
          try clear hx25
          try clear c31
          try clear c32
          try clear c33
          try clear c34
          try clear c35
          try clear c36
          try clear c39
          try clear c39b0
          try clear c40
          try clear c40b0
          try clear c41
          try clear c41b0
          try clear c43
          try clear c44
          try clear c45
          try clear c46
          try clear c48
          try clear c48b0
          try clear c52
          try clear c53
          try clear c54
          try clear c58
          try clear c58b0
          try clear c59
          try clear c59b0
          try clear c61
          try clear c61b0
          try clear c62
          try clear c62b0
          try clear c63
          try clear c64
          try clear p64
          try clear c65
          try clear c66
          try clear c70
          try clear c71
          try clear c72
          try clear c77
          try clear c77b0
          try clear c77b1
          try clear c77b2
          try clear c78
          try clear c78b0
          try clear c78b1
          try clear c79
          try clear c79b0
          try clear c79b1
          try clear c81
          try clear c82
          try clear c83
          try clear c84
          try clear c87
          try clear c88
          try clear c89
          try clear hcz15_0
          try clear hcz15_1
          try clear hcz15_2
          try clear hcz19_0
          try clear hcz19_1
          try clear hcz19_2
          try clear hcz21_0
          try clear hcz21_1
          try clear hcz21_2
          try clear hcz26_0
          try clear hcz26_1
          try clear hcz26_2
          try clear hcz28_0
          try clear hcz28_1
          try clear hcz28_2
          try clear hcz34_0
          try clear hcz34_1
          try clear hcz34_2
          try clear hcz36_0
          try clear hcz36_1
          try clear hcz36_2
          try clear hcz38_0
          try clear hcz38_1
          try clear hcz38_2
          try clear hcz47_0
          try clear hcz47_1
          try clear hcz55_0
          try clear hcz55_1
          try clear hcz55_2
          try clear hcz57_0
          try clear hcz57_1
          try clear hcz57_2
          try clear hcz67_0
          try clear hcz67_1
          try clear hcz67_2
          try clear hcz73_0
          try clear hcz73_1
          try clear hcz73_2
          try clear hcz85_0
          try clear hcz85_1
          try clear hcz85_2
          try clear hcz90_0
          try clear hcz90_1
          try clear hcz90_2
          try clear hfz15_0
          try clear hfz15_1
          try clear hfz15_2
          try clear hfz19_0
          try clear hfz19_1
          try clear hfz19_2
          try clear hfz21_0
          try clear hfz21_1
          try clear hfz21_2
          try clear hfz26_0
          try clear hfz26_1
          try clear hfz26_2
          try clear hfz28_0
          try clear hfz28_1
          try clear hfz28_2
          try clear hfz34_0
          try clear hfz34_1
          try clear hfz34_2
          try clear hfz36_0
          try clear hfz36_1
          try clear hfz36_2
          try clear hfz38_0
          try clear hfz38_1
          try clear hfz38_2
          try clear hfz47_0
          try clear hfz47_1
          try clear hfz55_0
          try clear hfz55_1
          try clear hfz55_2
          try clear hfz57_0
          try clear hfz57_1
          try clear hfz57_2
          try clear hfz67_0
          try clear hfz67_1
          try clear hfz67_2
          try clear hfz73_0
          try clear hfz73_1
          try clear hfz73_2
          try clear hfz85_0
          try clear hfz85_1
          try clear hfz85_2
          try clear hfz90_0
          try clear hfz90_1
          try clear hfz90_2
          try clear hx249_0
          try clear hx249_1
          try clear hx254_0
          try clear p2
          try clear p24
          try clear p249
          try clear p25
          try clear p254
          try clear p6
          try clear p64
          try clear q2
          try clear q24
          try clear q249
          try clear q25
          try clear q254
          obtain ⟨kq, HA, HJ74, HO_21, HO_23, HO_234002, HO_241002, HO_248002, BK225, BK233, BK240, BK247, HB⟩:=hcut
          cases kq with
         |zero => exact absurd HA.out (by simp [gridhalllaw3_ConvexMoves.j3])
         |succ kj74 =>
           have H:=HA.out
           clear HA
           simp only [gridhalllaw3_ConvexMoves.j3] at H
           have H':=Aside0.mk H
           clear H
           obtain ⟨Ao92, co92, eo92⟩:=Kd.R_slice HO_21.out
           subst eo92
           go_wp2
           try simp only [Act.put, List.setIfInBounds_toArray, List.set_cons_succ, List.set_cons_zero]
           go_loopg [23, 129] kj74 (fun kq v23 v129 w'=>∃ (x23_4 : List Int) (x129_4 : Int), v129 = .int .i64 x129_4∧Aside0 (gridhalllaw3_ConvexMoves.l2 kq a3 a4 t239 t246 t251 x23_4 (t251.length : Int) x129_4 a0_0 a0_1 l0_2 t234 t235 t236 t241 t242 t243 = some r)∧Aside0 (kq ≤ kj74)∧Aside0 (Kd.R (Kd.int .i64) 3 w' w.heap.size (fun k_=>some k_ ≠ (v23 : Value).ownBlock) (.slice Ao92 t251.length co92) t251)∧Aside0 (Kd.R (Kd.int .i64) 3 w' w.heap.size (fun k_=>some k_ ≠ ((.slice Ao92 t251.length co92) : Value).ownBlock) v23 x23_4)∧Aside0 (Kd.R k88 88 w' w.heap.size (fun k_=>some k_ ≠ ((.slice Ao27 t236.length co27) : Value).ownBlock∧some k_ ≠ ((.slice Ao35 t243.length co35) : Value).ownBlock) (.slice Ao20 t229.length co20) t229)∧Aside0 (Kd.R k88 88 w' w.heap.size (fun k_=>some k_ ≠ ((.slice Ao20 t229.length co20) : Value).ownBlock∧some k_ ≠ ((.slice Ao35 t243.length co35) : Value).ownBlock) (.slice Ao27 t236.length co27) t236)∧Aside0 (Kd.R k88 88 w' w.heap.size (fun k_=>some k_ ≠ ((.slice Ao20 t229.length co20) : Value).ownBlock∧some k_ ≠ ((.slice Ao27 t236.length co27) : Value).ownBlock) (.slice Ao35 t243.length co35) t243)∧Aside0 (w'.heap[gb225]? = some (.cells #[.int .i64 a0_0, .int .i64 a0_1, (.slice A0_2 l0_2.length c0_2)] 82 (0, 0)))∧Aside0 (w'.heap[gb233]? = some (.cells #[.int .i64 t227, .int .i64 t228, (.slice Ao20 t229.length co20)] 82 (0, 0)))∧Aside0 (w'.heap[gb240]? = some (.cells #[.int .i64 t234, .int .i64 t235, (.slice Ao27 t236.length co27)] 82 (0, 0)))∧Aside0 (w'.heap[gb247]? = some (.cells #[.int .i64 t241, .int .i64 t242, (.slice Ao35 t243.length co35)] 82 (0, 0)))∧Aside0 (Below w.heap.size w w'))
           case atStart=>exact ⟨(([] : List Int)),(0),(by first|rfl|(simp;done)|(simp [*];done)), H', ⟨Nat.le_refl _⟩,⟨by (with_reducible repeat (first|apply Kd.R_alloc|apply Kd.R_drewN|apply Kd.R_drew));exact HO_21.out⟩,⟨by (with_reducible repeat (first|apply Kd.R_alloc|apply Kd.R_drewN|apply Kd.R_drew));exact HO_23.out⟩,⟨by (with_reducible repeat (first|apply Kd.R_alloc|apply Kd.R_drewN|apply Kd.R_drew));exact HO_234002.out⟩,⟨by (with_reducible repeat (first|apply Kd.R_alloc|apply Kd.R_drewN|apply Kd.R_drew));exact HO_241002.out⟩,⟨by (with_reducible repeat (first|apply Kd.R_alloc|apply Kd.R_drewN|apply Kd.R_drew));exact HO_248002.out⟩,⟨by (with_reducible repeat (first|refine blk_drewN ?_ _|refine blk_drew ?_|refine blk_alloc ?_ _));exact BK225.out⟩,⟨by (with_reducible repeat (first|refine blk_drewN ?_ _|refine blk_drew ?_|refine blk_alloc ?_ _));exact BK233.out⟩,⟨by (with_reducible repeat (first|refine blk_drewN ?_ _|refine blk_drew ?_|refine blk_alloc ?_ _));exact BK240.out⟩,⟨by (with_reducible repeat (first|refine blk_drewN ?_ _|refine blk_drew ?_|refine blk_alloc ?_ _));exact BK247.out⟩,⟨by repeat (first|(with_reducible first|exact HB.out|apply below_alloc|apply pw_below_drewN|apply below_drew1|refine below_set ?_ GE225.out|refine below_set ?_ GE233.out|refine below_set ?_ GE240.out|refine below_set ?_ GE247.out)|exact HB.out)⟩⟩
           case round =>
            clear H'
            try clear c1
            try clear c2
            try clear p2
            try clear q2
            try clear hx2
            try clear c3
            try clear c4
            try clear c5
            try clear c6
            try clear p6
            try clear c7
            try clear c8
            try clear c12
            try clear c12b0
            try clear c12b1
            try clear c18
            try clear c24
            try clear p24
            try clear q24
            try clear hx24
            try clear c25
            try clear p25
            try clear q25
            try clear hx25
            try clear c31
            try clear c32
            try clear c33
            try clear c34
            try clear c35
            try clear c36
            try clear c39
            try clear c39b0
            try clear c40
            try clear c40b0
            try clear c41
            try clear c41b0
            try clear c43
            try clear c44
            try clear c45
            try clear c46
            try clear c48
            try clear c48b0
            try clear c52
            try clear c53
            try clear c54
            try clear c58
            try clear c58b0
            try clear c59
            try clear c59b0
            try clear c61
            try clear c61b0
            try clear c62
            try clear c62b0
            try clear c63
            try clear c64
            try clear p64
            try clear c65
            try clear c66
            try clear c70
            try clear c71
            try clear c72
            try clear c77
            try clear c77b0
            try clear c77b1
            try clear c77b2
            try clear c78
            try clear c78b0
            try clear c78b1
            try clear c79
            try clear c79b0
            try clear c79b1
            try clear c81
            try clear c82
            try clear c83
            try clear c84
            try clear c87
            try clear c88
            try clear c89
            try clear hcz15_0
            try clear hcz15_1
            try clear hcz15_2
            try clear hcz19_0
            try clear hcz19_1
            try clear hcz19_2
            try clear hcz21_0
            try clear hcz21_1
            try clear hcz21_2
            try clear hcz26_0
            try clear hcz26_1
            try clear hcz26_2
            try clear hcz28_0
            try clear hcz28_1
            try clear hcz28_2
            try clear hcz34_0
            try clear hcz34_1
            try clear hcz34_2
            try clear hcz36_0
            try clear hcz36_1
            try clear hcz36_2
            try clear hcz38_0
            try clear hcz38_1
            try clear hcz38_2
            try clear hcz47_0
            try clear hcz47_1
            try clear hcz55_0
            try clear hcz55_1
            try clear hcz55_2
            try clear hcz57_0
            try clear hcz57_1
            try clear hcz57_2
            try clear hcz67_0
            try clear hcz67_1
            try clear hcz67_2
            try clear hcz73_0
            try clear hcz73_1
            try clear hcz73_2
            try clear hcz85_0
            try clear hcz85_1
            try clear hcz85_2
            try clear hcz90_0
            try clear hcz90_1
            try clear hcz90_2
            try clear hfz15_0
            try clear hfz15_1
            try clear hfz15_2
            try clear hfz19_0
            try clear hfz19_1
            try clear hfz19_2
            try clear hfz21_0
            try clear hfz21_1
            try clear hfz21_2
            try clear hfz26_0
            try clear hfz26_1
            try clear hfz26_2
            try clear hfz28_0
            try clear hfz28_1
            try clear hfz28_2
            try clear hfz34_0
            try clear hfz34_1
            try clear hfz34_2
            try clear hfz36_0
            try clear hfz36_1
            try clear hfz36_2
            try clear hfz38_0
            try clear hfz38_1
            try clear hfz38_2
            try clear hfz47_0
            try clear hfz47_1
            try clear hfz55_0
            try clear hfz55_1
            try clear hfz55_2
            try clear hfz57_0
            try clear hfz57_1
            try clear hfz57_2
            try clear hfz67_0
            try clear hfz67_1
            try clear hfz67_2
            try clear hfz73_0
            try clear hfz73_1
            try clear hfz73_2
            try clear hfz85_0
            try clear hfz85_1
            try clear hfz85_2
            try clear hfz90_0
            try clear hfz90_1
            try clear hfz90_2
            try clear hx249_0
            try clear hx249_1
            try clear hx254_0
            try clear p2
            try clear p24
            try clear p249
            try clear p25
            try clear p254
            try clear p6
            try clear p64
            try clear q2
            try clear q24
            try clear q249
            try clear q25
            try clear q254
            obtain ⟨x23_4, x129_4, rfl, HA, HK4, HO_21, HO_23, HO_234002, HO_241002, HO_248002, BK225, BK233, BK240, BK247, HB⟩:=hrel
            cases gk with
           |zero => exact absurd HA.out (by simp [gridhalllaw3_ConvexMoves.l2])
           |succ k4 =>
             have H:=HA.out
             clear HA
             simp only [gridhalllaw3_ConvexMoves.l2] at H
             by_cases c93 : x129_4 < (t251.length : Int)
             ·rw [if_pos c93] at H
              have c93b0 : decide (x129_4 < (t251.length : Int)) = true:=decide_eq_true c93
              clear c93
              obtain ⟨ji94, hji94⟩ : ∃ j_ : Int, (wrap64 ((wrap64 ((t251.length : Int) - 1)) - x129_4)) = j_:=⟨_, rfl⟩
              replace H : (if 0 ≤ (ji94) then (if (ji94) < (t251.length : Int) then (if x23_4.length < 17592186044416 then (gridhalllaw3_ConvexMoves.l2 k4 a3 a4 t239 t246 t251 (x23_4 ++ [rd t251 (ji94)]) (t251.length : Int) (wrap64 (x129_4 + 1)) a0_0 a0_1 l0_2 t234 t235 t236 t241 t242 t243) else (none)) else (none)) else (none)) = some r:=by first|(rw [hji94] at H;exact H)|(simp only [hji94] at H ⊢;exact H)
              have hji94w : (IntKind.i64.wrap ((wrap64 ((t251.length : Int) - 1)) - x129_4)) = ji94:=(i64_w _).trans hji94
              by_cases c95 : 0 ≤ (ji94)
              ·rw [if_pos c95] at H
               have c95b0 : decide (0 ≤ (ji94)) = true:=decide_eq_true c95
               clear c95
               by_cases c96 : (ji94) < (t251.length : Int)
               ·rw [if_pos c96] at H
                have c96b0 : decide ((ji94) < (t251.length : Int)) = true:=decide_eq_true c96
                clear c96
                by_cases c97 : x23_4.length < 17592186044416
                ·rw [if_pos c97] at H
                 have LMc97:=Aside0.mk c97
                 clear c97
                 obtain ⟨y260, hy260⟩ : ∃ y_ : List Int, y_ = (x23_4 ++ [rd t251 (ji94)]):=⟨_, rfl⟩
                 replace H : (gridhalllaw3_ConvexMoves.l2 k4 a3 a4 t239 t246 t251 y260 (t251.length : Int) (wrap64 (x129_4 + 1)) a0_0 a0_1 l0_2 t234 t235 t236 t241 t242 t243) = some r:=by first|(rw [hy260];with_reducible exact H)|(have H2_:=(Option.bind_some _ _).symm.trans H;rw [hy260];with_reducible exact H2_)|(have H2_:=(Option.bind_some _ _).symm.trans H;with_reducible exact H2_)|with_reducible exact H|(rw [hy260];exact H)|exact H
                 have Ny260:=Aside0.mk hy260
                 clear hy260
                 have H':=Aside0.mk H
                 clear H
                 have p259 : 0 ≤ ((ji94) : Int):=of_decide_eq_true (by first|(with_reducible assumption)|assumption)
                 have q259 : (ji94) < (t251.length : Int):=of_decide_eq_true (by first|(with_reducible assumption)|assumption)
                 obtain ⟨ad259, e259, hx259_0⟩:=Kd.at_int (Kd.R_reads' HO_21.out).2.2 (ji94) p259 q259
                 cases e259
                 replace p259:=eq_true p259
                 replace q259:=eq_true q259
                 go_wp2_with (first|((with_reducible refine gate_builtin (b:=.append) (xs:=#[.tmp 132, .tmp 141]) rfl ?_);(try (refine gate_guard (by rfl) ?_;dsimp only));at_builtin;refine Kd.R_append (Kd.int .i64) (w0:=w) w.heap.size rfl (.tmp 132) (.tmp 141) 31 3 (.int .i64 0) 8 rfl Try.underlying31 info3 rfl (by decide) (by omega) u23 x23_4 (rd t251 (ji94)) [.int .i64 (rd t251 (ji94))] (fun k_=>some k_ ≠ (.slice (some ad259) t251.length co92 : Value).ownBlock) (fun _=>False) rfl rfl ?aP (fun _ hk=>hk.elim) ?aF ?aO ?aB ?aS ?aL ?_;(case aP=>exact rfl);(case aB=>exact (by repeat (first|(with_reducible first|exact HB.out|apply below_alloc|apply pw_below_drewN|apply below_drew1|refine below_set ?_ GE225.out|refine below_set ?_ GE233.out|refine below_set ?_ GE240.out|refine below_set ?_ GE247.out)|exact HB.out)));(case aF=>exact (fun k_ hk=>Kd.fresh' (Kd.R_lt (by (with_reducible repeat (first|apply Kd.R_alloc|apply Kd.R_drewN|apply Kd.R_drew));exact HO_21.out)) k_ hk));(case aO=>exact (by (with_reducible repeat (first|apply Kd.R_alloc|apply Kd.R_drewN|apply Kd.R_drew));exact HO_23.out));(case aS=>exact (below_size (by repeat (first|(with_reducible first|exact HB.out|apply below_alloc|apply pw_below_drewN|apply below_drew1|refine below_set ?_ GE225.out|refine below_set ?_ GE233.out|refine below_set ?_ GE240.out|refine below_set ?_ GE247.out)|exact HB.out))));(case aL=>have:=LMc97.out;omega);intro v261 w98 ho hb hg hat;rw [← Ny260.out] at ho;have n0_:=Aside0.mk (Kd.R_after (ok:=(fun _=>True)) (by (with_reducible repeat (first|apply Kd.R_alloc|apply Kd.R_drewN|apply Kd.R_drew));exact Kd.R_mono HO_21.out (fun _ hk=>⟨trivial, hk⟩)) hg hat);have n1_:=Aside0.mk (Kd.R_over' (by (with_reducible repeat (first|apply Kd.R_alloc|apply Kd.R_drewN|apply Kd.R_drew));exact HO_234002.out) (Kd.R_typed (by (with_reducible repeat (first|apply Kd.R_alloc|apply Kd.R_drewN|apply Kd.R_drew));exact HO_23.out)) (by decide) hg);have n2_:=Aside0.mk (Kd.R_over' (by (with_reducible repeat (first|apply Kd.R_alloc|apply Kd.R_drewN|apply Kd.R_drew));exact HO_241002.out) (Kd.R_typed (by (with_reducible repeat (first|apply Kd.R_alloc|apply Kd.R_drewN|apply Kd.R_drew));exact HO_23.out)) (by decide) hg);have n3_:=Aside0.mk (Kd.R_over' (by (with_reducible repeat (first|apply Kd.R_alloc|apply Kd.R_drewN|apply Kd.R_drew));exact HO_248002.out) (Kd.R_typed (by (with_reducible repeat (first|apply Kd.R_alloc|apply Kd.R_drewN|apply Kd.R_drew));exact HO_23.out)) (by decide) hg);have n4_:=Aside0.mk (blk_grown (g:=gb225) (o:=.cells #[.int .i64 a0_0, .int .i64 a0_1, .slice A0_2 l0_2.length c0_2] 82 (0, 0)) (by (with_reducible repeat (first|refine blk_drewN ?_ _|refine blk_drew ?_|refine blk_alloc ?_ _));exact BK225.out) hg (Kd.R_ne HO_23.out BK225.out (by decide)));have n5_:=Aside0.mk (blk_grown (g:=gb233) (o:=.cells #[.int .i64 t227, .int .i64 t228, .slice Ao20 t229.length co20] 82 (0, 0)) (by (with_reducible repeat (first|refine blk_drewN ?_ _|refine blk_drew ?_|refine blk_alloc ?_ _));exact BK233.out) hg (Kd.R_ne HO_23.out BK233.out (by decide)));have n6_:=Aside0.mk (blk_grown (g:=gb240) (o:=.cells #[.int .i64 t234, .int .i64 t235, .slice Ao27 t236.length co27] 82 (0, 0)) (by (with_reducible repeat (first|refine blk_drewN ?_ _|refine blk_drew ?_|refine blk_alloc ?_ _));exact BK240.out) hg (Kd.R_ne HO_23.out BK240.out (by decide)));have n7_:=Aside0.mk (blk_grown (g:=gb247) (o:=.cells #[.int .i64 t241, .int .i64 t242, .slice Ao35 t243.length co35] 82 (0, 0)) (by (with_reducible repeat (first|refine blk_drewN ?_ _|refine blk_drew ?_|refine blk_alloc ?_ _));exact BK247.out) hg (Kd.R_ne HO_23.out BK247.out (by decide)));have n8_:=Aside0.mk (hb);have n9_:=Aside0.mk (ho);clear HO_21;clear HO_234002;clear HO_241002;clear HO_248002;clear BK225;clear BK233;clear BK240;clear BK247;clear HB;clear HO_23;have HO_21:=n0_;have HO_234002:=n1_;have HO_241002:=n2_;have HO_248002:=n3_;have BK225:=n4_;have BK233:=n5_;have BK240:=n6_;have BK247:=n7_;have HB:=n8_;have HO262:=n9_;clear n0_ n1_ n2_ n3_ n4_ n5_ n6_ n7_ n8_ n9_;clear ho hb hg hat))
                 go_roundg k4
                 case measure=>have:=HK1.out;have:=HJ50.out;have:=HJ74.out;have:=HK4.out;omega
                 case rel=>exact ⟨(y260),(wrap64 (x129_4 + 1)),(by first|rfl|(simp;done)|(simp [*];done)), H', ⟨by have:=HK1.out;have:=HJ50.out;have:=HJ74.out;have:=HK4.out;omega⟩,⟨by (with_reducible repeat (first|apply Kd.R_alloc|apply Kd.R_drewN|apply Kd.R_drew));exact Kd.R_mono HO_21.out (fun _ hk=>hk.2)⟩,⟨by (with_reducible repeat (first|apply Kd.R_alloc|apply Kd.R_drewN|apply Kd.R_drew));exact HO262.out⟩,⟨by (with_reducible repeat (first|apply Kd.R_alloc|apply Kd.R_drewN|apply Kd.R_drew));exact HO_234002.out⟩,⟨by (with_reducible repeat (first|apply Kd.R_alloc|apply Kd.R_drewN|apply Kd.R_drew));exact HO_241002.out⟩,⟨by (with_reducible repeat (first|apply Kd.R_alloc|apply Kd.R_drewN|apply Kd.R_drew));exact HO_248002.out⟩,⟨by (with_reducible repeat (first|refine blk_drewN ?_ _|refine blk_drew ?_|refine blk_alloc ?_ _));exact BK225.out⟩,⟨by (with_reducible repeat (first|refine blk_drewN ?_ _|refine blk_drew ?_|refine blk_alloc ?_ _));exact BK233.out⟩,⟨by (with_reducible repeat (first|refine blk_drewN ?_ _|refine blk_drew ?_|refine blk_alloc ?_ _));exact BK240.out⟩,⟨by (with_reducible repeat (first|refine blk_drewN ?_ _|refine blk_drew ?_|refine blk_alloc ?_ _));exact BK247.out⟩,⟨by repeat (first|(with_reducible first|exact HB.out|apply below_alloc|apply pw_below_drewN|apply below_drew1|refine below_set ?_ GE225.out|refine below_set ?_ GE233.out|refine below_set ?_ GE240.out|refine below_set ?_ GE247.out)|exact HB.out)⟩⟩
                ·rw [if_neg c97] at H
                 exact absurd H (by simp)
               ·rw [if_neg c96] at H
                exact absurd H (by simp)
              ·rw [if_neg c95] at H
               exact absurd H (by simp)
             ·rw [if_neg c93] at H
              have c93b0 : decide (x129_4 < (t251.length : Int)) = false:=decide_eq_false c93
              clear c93
              have HC99:=Aside0.mk H
              clear H
              go_upto_region 34 with (fail)
              go_cut [157] (fun v157 wc=>∃ (kq : Nat) (x157_98 : Bool), v157 = .bool x157_98∧Aside0 (gridhalllaw3_ConvexMoves.j5 kq a3 a4 t239 t251 x157_98 a0_0 a0_1 l0_2 t234 t235 t236 = some r)∧Aside0 (kq ≤ k4)∧Aside0 (Kd.R (Kd.int .i64) 3 wc w.heap.size (fun _=>True) (.slice Ao92 t251.length co92) t251)∧Aside0 (Kd.R k88 88 wc w.heap.size (fun k_=>some k_ ≠ ((.slice Ao27 t236.length co27) : Value).ownBlock∧some k_ ≠ ((.slice Ao35 t243.length co35) : Value).ownBlock) (.slice Ao20 t229.length co20) t229)∧Aside0 (Kd.R k88 88 wc w.heap.size (fun k_=>some k_ ≠ ((.slice Ao20 t229.length co20) : Value).ownBlock∧some k_ ≠ ((.slice Ao35 t243.length co35) : Value).ownBlock) (.slice Ao27 t236.length co27) t236)∧Aside0 (Kd.R k88 88 wc w.heap.size (fun k_=>some k_ ≠ ((.slice Ao20 t229.length co20) : Value).ownBlock∧some k_ ≠ ((.slice Ao27 t236.length co27) : Value).ownBlock) (.slice Ao35 t243.length co35) t243)∧Aside0 (wc.heap[gb225]? = some (.cells #[.int .i64 a0_0, .int .i64 a0_1, (.slice A0_2 l0_2.length c0_2)] 82 (0, 0)))∧Aside0 (wc.heap[gb233]? = some (.cells #[.int .i64 t227, .int .i64 t228, (.slice Ao20 t229.length co20)] 82 (0, 0)))∧Aside0 (wc.heap[gb240]? = some (.cells #[.int .i64 t234, .int .i64 t235, (.slice Ao27 t236.length co27)] 82 (0, 0)))∧Aside0 (wc.heap[gb247]? = some (.cells #[.int .i64 t241, .int .i64 t242, (.slice Ao35 t243.length co35)] 82 (0, 0)))∧Aside0 (Below w.heap.size w wc))
              case first =>
               have H:=HC99.out
               clear HC99
               by_cases c100 : t246 = 0
               ·rw [if_pos c100] at H
                have c100b0 : (t246 == 0) = true:=beq_iff_eq.mpr c100
                have c100b1 : (t246 != 0) = false:=bne_eq_false_iff_eq.mpr c100
                clear c100
                (first|rw [c100b0]|(simp only [i64_w, i32_w];rw [c100b0])|skip)
                replace H:=Option.bind_eq_some_iff.mp H
                obtain ⟨t263, A1010, H⟩:=H
                replace H : (gridhalllaw3_ConvexMoves.j5 k4 a3 a4 t239 t251 (!t263) a0_0 a0_1 l0_2 t234 t235 t236) = some r:=H
                have A101:=Aside0.mk A1010
                clear A1010
                have H':=Aside0.mk H
                clear H
                have hnb102:=NB247_225.out
                have hnc102:=NB225_247.out
                have hnb103:=NB247_233.out
                have hnc103:=NB233_247.out
                have hnb104:=NB247_240.out
                have hnc104:=NB240_247.out
                have hcz105_0 : wr.cell? ⟨gb247, 0, none⟩ = some (.int .i64 t241):=(blk_cell BK247.out 0).trans rfl
                have hcz105_1 : wr.cell? ⟨gb247, 1, none⟩ = some (.int .i64 t242):=(blk_cell BK247.out 1).trans rfl
                have hcz105_2 : wr.cell? ⟨gb247, 2, none⟩ = some (.slice Ao35 t243.length co35):=(blk_cell BK247.out 2).trans rfl
                have hfz105_0:=blk_frozen BK247.out 0
                have hfz105_1:=blk_frozen BK247.out 1
                have hfz105_2:=blk_frozen BK247.out 2
                have hnb106:=NB225_233.out
                have hnc106:=NB233_225.out
                have hnb107:=NB225_240.out
                have hnc107:=NB240_225.out
                have hcz108_0 : wr.cell? ⟨gb225, 0, none⟩ = some (.int .i64 a0_0):=(blk_cell BK225.out 0).trans rfl
                have hcz108_1 : wr.cell? ⟨gb225, 1, none⟩ = some (.int .i64 a0_1):=(blk_cell BK225.out 1).trans rfl
                have hcz108_2 : wr.cell? ⟨gb225, 2, none⟩ = some (.slice A0_2 l0_2.length c0_2):=(blk_cell BK225.out 2).trans rfl
                have hfz108_0:=blk_frozen BK225.out 0
                have hfz108_1:=blk_frozen BK225.out 1
                have hfz108_2:=blk_frozen BK225.out 2
                obtain ⟨Ao109, co109, eo109⟩:=Kd.R_slice HO_23.out
                subst eo109
                go_wp2_with (first|(go_at_call 37;(with_reducible refine (gridhalllaw3_sameValues.calls k4 t241 t242 _ _ t243 (wrap64 ((wrap64 (1 - a0_0)) - (t251.length : Int))) _ _ x23_4 t263 _ ?side1 ?side2 ?side3 ?side4 A101.out).mono ?_);(case side1=>repeat (first|exact (Kd.R_reads' HO_248002.out).2.2|(with_reducible refine Kd.C_alloc ?_ _)|(with_reducible refine Kd.C_drewN ?_ _)|(with_reducible refine Kd.C_drew ?_)));(case side2=>exact (Kd.R_reads' HO_248002.out).2.1);(case side3=>repeat (first|exact (Kd.R_reads' HO_23.out).2.2|(with_reducible refine Kd.C_alloc ?_ _)|(with_reducible refine Kd.C_drewN ?_ _)|(with_reducible refine Kd.C_drew ?_)));(case side4=>exact (Kd.R_reads' HO_23.out).2.1);rintro e w110 ⟨rfl, hb⟩;have n0_:=Aside0.mk (Kd.R_below (by (with_reducible repeat (first|apply Kd.R_alloc|apply Kd.R_drewN|apply Kd.R_drew));exact HO_21.out) hb);have n1_:=Aside0.mk (Kd.R_below (by (with_reducible repeat (first|apply Kd.R_alloc|apply Kd.R_drewN|apply Kd.R_drew));exact HO_23.out) hb);have n2_:=Aside0.mk (Kd.R_below (by (with_reducible repeat (first|apply Kd.R_alloc|apply Kd.R_drewN|apply Kd.R_drew));exact HO_234002.out) hb);have n3_:=Aside0.mk (Kd.R_below (by (with_reducible repeat (first|apply Kd.R_alloc|apply Kd.R_drewN|apply Kd.R_drew));exact HO_241002.out) hb);have n4_:=Aside0.mk (Kd.R_below (by (with_reducible repeat (first|apply Kd.R_alloc|apply Kd.R_drewN|apply Kd.R_drew));exact HO_248002.out) hb);have n5_:=Aside0.mk (blk_below (g:=gb225) (o:=.cells #[.int .i64 a0_0, .int .i64 a0_1, .slice A0_2 l0_2.length c0_2] 82 (0, 0)) (by (with_reducible repeat (first|refine blk_drewN ?_ _|refine blk_drew ?_|refine blk_alloc ?_ _));exact BK225.out) hb);have n6_:=Aside0.mk (blk_below (g:=gb233) (o:=.cells #[.int .i64 t227, .int .i64 t228, .slice Ao20 t229.length co20] 82 (0, 0)) (by (with_reducible repeat (first|refine blk_drewN ?_ _|refine blk_drew ?_|refine blk_alloc ?_ _));exact BK233.out) hb);have n7_:=Aside0.mk (blk_below (g:=gb240) (o:=.cells #[.int .i64 t234, .int .i64 t235, .slice Ao27 t236.length co27] 82 (0, 0)) (by (with_reducible repeat (first|refine blk_drewN ?_ _|refine blk_drew ?_|refine blk_alloc ?_ _));exact BK240.out) hb);have n8_:=Aside0.mk (blk_below (g:=gb247) (o:=.cells #[.int .i64 t241, .int .i64 t242, .slice Ao35 t243.length co35] 82 (0, 0)) (by (with_reducible repeat (first|refine blk_drewN ?_ _|refine blk_drew ?_|refine blk_alloc ?_ _));exact BK247.out) hb);have n9_:=Aside0.mk (below_step (by repeat (first|(with_reducible first|exact HB.out|apply below_alloc|apply pw_below_drewN|apply below_drew1|refine below_set ?_ GE225.out|refine below_set ?_ GE233.out|refine below_set ?_ GE240.out|refine below_set ?_ GE247.out)|exact HB.out)) hb);clear HO_21;clear HO_23;clear HO_234002;clear HO_241002;clear HO_248002;clear BK225;clear BK233;clear BK240;clear BK247;clear HB;have HO_21:=n0_;have HO_23:=n1_;have HO_234002:=n2_;have HO_241002:=n3_;have HO_248002:=n4_;have BK225:=n5_;have BK233:=n6_;have BK240:=n7_;have BK247:=n8_;have HB:=n9_;clear n0_ n1_ n2_ n3_ n4_ n5_ n6_ n7_ n8_ n9_;(try clear hb);(try clear hb2);(try clear hk);(try clear hi)))
                go_meet
                case rel=>exact ⟨_, (!t263),(by first|rfl|(simp;done)|(simp [*];done)), H', ⟨by have:=HK1.out;have:=HJ50.out;have:=HJ74.out;have:=HK4.out;first|omega|exact Nat.le_refl _⟩,⟨by (with_reducible repeat (first|apply Kd.R_alloc|apply Kd.R_drewN|apply Kd.R_drew));exact Kd.R_mono HO_21.out (fun _ hk=>trivial)⟩,⟨by (with_reducible repeat (first|apply Kd.R_alloc|apply Kd.R_drewN|apply Kd.R_drew));exact HO_234002.out⟩,⟨by (with_reducible repeat (first|apply Kd.R_alloc|apply Kd.R_drewN|apply Kd.R_drew));exact HO_241002.out⟩,⟨by (with_reducible repeat (first|apply Kd.R_alloc|apply Kd.R_drewN|apply Kd.R_drew));exact HO_248002.out⟩,⟨by (with_reducible repeat (first|refine blk_drewN ?_ _|refine blk_drew ?_|refine blk_alloc ?_ _));exact BK225.out⟩,⟨by (with_reducible repeat (first|refine blk_drewN ?_ _|refine blk_drew ?_|refine blk_alloc ?_ _));exact BK233.out⟩,⟨by (with_reducible repeat (first|refine blk_drewN ?_ _|refine blk_drew ?_|refine blk_alloc ?_ _));exact BK240.out⟩,⟨by (with_reducible repeat (first|refine blk_drewN ?_ _|refine blk_drew ?_|refine blk_alloc ?_ _));exact BK247.out⟩,⟨by repeat (first|(with_reducible first|exact HB.out|apply below_alloc|apply pw_below_drewN|apply below_drew1|refine below_set ?_ GE225.out|refine below_set ?_ GE233.out|refine below_set ?_ GE240.out|refine below_set ?_ GE247.out)|exact HB.out)⟩⟩
               ·rw [if_neg c100] at H
                have c100b0 : (t246 == 0) = false:=beq_eq_false_iff_ne.mpr c100
                have c100b1 : (t246 != 0) = true:=bne_iff_ne.mpr c100
                (first|rw [c100b0]|(simp only [i64_w, i32_w];rw [c100b0])|skip)
                have H':=Aside0.mk H
                clear H
                go_wp2
                go_meet
                case rel=>exact ⟨_, (true),(by first|rfl|(simp;done)|(simp [*];done)), H', ⟨by have:=HK1.out;have:=HJ50.out;have:=HJ74.out;have:=HK4.out;first|omega|exact Nat.le_refl _⟩,⟨by (with_reducible repeat (first|apply Kd.R_alloc|apply Kd.R_drewN|apply Kd.R_drew));exact Kd.R_mono HO_21.out (fun _ hk=>trivial)⟩,⟨by (with_reducible repeat (first|apply Kd.R_alloc|apply Kd.R_drewN|apply Kd.R_drew));exact HO_234002.out⟩,⟨by (with_reducible repeat (first|apply Kd.R_alloc|apply Kd.R_drewN|apply Kd.R_drew));exact HO_241002.out⟩,⟨by (with_reducible repeat (first|apply Kd.R_alloc|apply Kd.R_drewN|apply Kd.R_drew));exact HO_248002.out⟩,⟨by (with_reducible repeat (first|refine blk_drewN ?_ _|refine blk_drew ?_|refine blk_alloc ?_ _));exact BK225.out⟩,⟨by (with_reducible repeat (first|refine blk_drewN ?_ _|refine blk_drew ?_|refine blk_alloc ?_ _));exact BK233.out⟩,⟨by (with_reducible repeat (first|refine blk_drewN ?_ _|refine blk_drew ?_|refine blk_alloc ?_ _));exact BK240.out⟩,⟨by (with_reducible repeat (first|refine blk_drewN ?_ _|refine blk_drew ?_|refine blk_alloc ?_ _));exact BK247.out⟩,⟨by repeat (first|(with_reducible first|exact HB.out|apply below_alloc|apply pw_below_drewN|apply below_drew1|refine below_set ?_ GE225.out|refine below_set ?_ GE233.out|refine below_set ?_ GE240.out|refine below_set ?_ GE247.out)|exact HB.out)⟩⟩
              case rest =>
               clear HC99
               try clear c1
               try clear c2
               try clear p2
               try clear q2
               try clear hx2
               try clear c3
               try clear c4
               try clear c5
               try clear c6
               try clear p6
               try clear c7
               try clear c8
               try clear c9
               try clear c10
               try clear c12
               try clear c12b0
               try clear c12b1
               try clear c18
               try clear c24
               try clear p24
               try clear q24
               try clear hx24
               try clear c25
               try clear p25
               try clear q25
               try clear hx25
               try clear c31
               try clear c32
               try clear c33
               try clear c34
               try clear c35
               try clear c36
               try clear c39
               try clear c39b0
               try clear c40
               try clear c40b0
               try clear c41
               try clear c41b0
               try clear c43
               try clear c44
               try clear c45
               try clear c46
               try clear c48
               try clear c48b0
               try clear c52
               try clear c53
               try clear c54
               try clear c58
               try clear c58b0
               try clear c59
               try clear c59b0
               try clear c61
               try clear c61b0
               try clear c62
               try clear c62b0
               try clear c63
               try clear c64
               try clear p64
               try clear c65
               try clear c66
               try clear c70
               try clear c71
               try clear c72
               try clear c77
               try clear c77b0
               try clear c77b1
               try clear c77b2
               try clear c78
               try clear c78b0
               try clear c78b1
               try clear c79
               try clear c79b0
               try clear c79b1
               try clear c81
               try clear c82
               try clear c83
               try clear c84
               try clear c87
               try clear c88
               try clear c89
               try clear c93
               try clear c93b0
               try clear c95
               try clear c95b0
               try clear c96
               try clear c96b0
               try clear c97
               try clear c100
               try clear c100b0
               try clear c100b1
               try clear c102
               try clear c103
               try clear c104
               try clear c106
               try clear c107
               try clear hcz105_0
               try clear hcz105_1
               try clear hcz105_2
               try clear hcz108_0
               try clear hcz108_1
               try clear hcz108_2
               try clear hcz15_0
               try clear hcz15_1
               try clear hcz15_2
               try clear hcz19_0
               try clear hcz19_1
               try clear hcz19_2
               try clear hcz21_0
               try clear hcz21_1
               try clear hcz21_2
               try clear hcz26_0
               try clear hcz26_1
               try clear hcz26_2
               try clear hcz28_0
               try clear hcz28_1
               try clear hcz28_2
               try clear hcz34_0
               try clear hcz34_1
               try clear hcz34_2
               try clear hcz36_0
               try clear hcz36_1
               try clear hcz36_2
               try clear hcz38_0
               try clear hcz38_1
               try clear hcz38_2
               try clear hcz47_0
               try clear hcz47_1
               try clear hcz55_0
               try clear hcz55_1
               try clear hcz55_2
               try clear hcz57_0
               try clear hcz57_1
               try clear hcz57_2
               try clear hcz67_0
               try clear hcz67_1
               try clear hcz67_2
               try clear hcz73_0
               try clear hcz73_1
               try clear hcz73_2
               try clear hcz85_0
               try clear hcz85_1
               try clear hcz85_2
               try clear hcz90_0
               try clear hcz90_1
               try clear hcz90_2
               try clear hfz105_0
               try clear hfz105_1
               try clear hfz105_2
               try clear hfz108_0
               try clear hfz108_1
               try clear hfz108_2
               try clear hfz15_0
               try clear hfz15_1
               try clear hfz15_2
               try clear hfz19_0
               try clear hfz19_1
               try clear hfz19_2
               try clear hfz21_0
               try clear hfz21_1
               try clear hfz21_2
               try clear hfz26_0
               try clear hfz26_1
               try clear hfz26_2
               try clear hfz28_0
               try clear hfz28_1
               try clear hfz28_2
               try clear hfz34_0
               try clear hfz34_1
               try clear hfz34_2
               try clear hfz36_0
               try clear hfz36_1
               try clear hfz36_2
               try clear hfz38_0
               try clear hfz38_1
               try clear hfz38_2
               try clear hfz47_0
               try clear hfz47_1
               try clear hfz55_0
               try clear hfz55_1
               try clear hfz55_2
               try clear hfz57_0
               try clear hfz57_1
               try clear hfz57_2
               try clear hfz67_0
               try clear hfz67_1
               try clear hfz67_2
               try clear hfz73_0
               try clear hfz73_1
               try clear hfz73_2
               try clear hfz85_0
               try clear hfz85_1
               try clear hfz85_2
               try clear hfz90_0
               try clear hfz90_1
               try clear hfz90_2
               try clear hx249_0
               try clear hx249_1
               try clear hx254_0
               try clear hx259_0
               try clear p2
               try clear p24
               try clear p249
               try clear p25
               try clear p254
               try clear p259
               try clear p6
               try clear p64
               try clear q2
               try clear q24
               try clear q249
               try clear q25
               try clear q254
               try clear q259
               obtain ⟨kq, x157_98, rfl, HA, HJ98, HO_21, HO_234002, HO_241002, HO_248002, BK225, BK233, BK240, BK247, HB⟩:=hcut
               cases kq with
              |zero => exact absurd HA.out (by simp [gridhalllaw3_ConvexMoves.j5])
              |succ kj98 =>
                have H:=HA.out
                clear HA
                simp only [gridhalllaw3_ConvexMoves.j5] at H
                by_cases c111 : x157_98 = true
                ·subst c111
                 have H1 : (some false) = some r:=by rw [if_pos rfl] at H;exact H
                 clear H
                 have H:=H1
                 clear H1
                 obtain rfl:=Option.some.inj H
                 go_wp2
                 go_ret
                 exact ⟨by first|rfl|(simp [errW_none, errW_some] <;> rfl)|(simp only [← hji50];first|rfl|(simp [errW_none, errW_some] <;> rfl))|(simp [*, errW_none, errW_some] <;> rfl), by repeat (first|(with_reducible first|exact HB.out|apply below_alloc|apply pw_below_drewN|apply below_drew1|refine below_set ?_ GE225.out|refine below_set ?_ GE233.out|refine below_set ?_ GE240.out|refine below_set ?_ GE247.out)|exact HB.out)⟩
                ·replace c111:=Bool.eq_false_iff.mpr c111
                 subst c111
                 have H1 : ((gridhallref3_In.f a3 (-2000000) 2000000).bind fun t264=>(if t264 = true then ((gridhallref3_In.f a4 (-1000000000000000) 1000000000000000).bind fun t265=>(gridhalllaw3_ConvexMoves.j6 kj98 a3 a4 t239 t251 (!t265) a0_0 a0_1 l0_2 t234 t235 t236)) else (gridhalllaw3_ConvexMoves.j6 kj98 a3 a4 t239 t251 true a0_0 a0_1 l0_2 t234 t235 t236))) = some r:=by rw [if_neg (show ¬ (false = true) by decide)] at H;exact H
                 clear H
                 have H:=H1
                 clear H1
                 have HC112:=Aside0.mk H
                 clear H
                 go_upto_region 36 with (fail)
                 go_cut [165] (fun v165 wc=>∃ (kq : Nat) (x165_111 : Bool), v165 = .bool x165_111∧Aside0 (gridhalllaw3_ConvexMoves.j6 kq a3 a4 t239 t251 x165_111 a0_0 a0_1 l0_2 t234 t235 t236 = some r)∧Aside0 (kq ≤ kj98)∧Aside0 (Kd.R (Kd.int .i64) 3 wc w.heap.size (fun _=>True) (.slice Ao92 t251.length co92) t251)∧Aside0 (Kd.R k88 88 wc w.heap.size (fun k_=>some k_ ≠ ((.slice Ao27 t236.length co27) : Value).ownBlock∧some k_ ≠ ((.slice Ao35 t243.length co35) : Value).ownBlock) (.slice Ao20 t229.length co20) t229)∧Aside0 (Kd.R k88 88 wc w.heap.size (fun k_=>some k_ ≠ ((.slice Ao20 t229.length co20) : Value).ownBlock∧some k_ ≠ ((.slice Ao35 t243.length co35) : Value).ownBlock) (.slice Ao27 t236.length co27) t236)∧Aside0 (Kd.R k88 88 wc w.heap.size (fun k_=>some k_ ≠ ((.slice Ao20 t229.length co20) : Value).ownBlock∧some k_ ≠ ((.slice Ao27 t236.length co27) : Value).ownBlock) (.slice Ao35 t243.length co35) t243)∧Aside0 (wc.heap[gb225]? = some (.cells #[.int .i64 a0_0, .int .i64 a0_1, (.slice A0_2 l0_2.length c0_2)] 82 (0, 0)))∧Aside0 (wc.heap[gb233]? = some (.cells #[.int .i64 t227, .int .i64 t228, (.slice Ao20 t229.length co20)] 82 (0, 0)))∧Aside0 (wc.heap[gb240]? = some (.cells #[.int .i64 t234, .int .i64 t235, (.slice Ao27 t236.length co27)] 82 (0, 0)))∧Aside0 (wc.heap[gb247]? = some (.cells #[.int .i64 t241, .int .i64 t242, (.slice Ao35 t243.length co35)] 82 (0, 0)))∧Aside0 (Below w.heap.size w wc))
                 case first =>
                  have H:=HC112.out
                  clear HC112
                  replace H:=Option.bind_eq_some_iff.mp H
                  obtain ⟨t264, A1130, H⟩:=H
                  replace H : (if t264 = true then ((gridhallref3_In.f a4 (-1000000000000000) 1000000000000000).bind fun t265=>(gridhalllaw3_ConvexMoves.j6 kj98 a3 a4 t239 t251 (!t265) a0_0 a0_1 l0_2 t234 t235 t236)) else (gridhalllaw3_ConvexMoves.j6 kj98 a3 a4 t239 t251 true a0_0 a0_1 l0_2 t234 t235 t236)) = some r:=H
                  have A113:=Aside0.mk A1130
                  clear A1130
                  by_cases c114 : t264 = true
                  ·subst c114
                   have H1 : ((gridhallref3_In.f a4 (-1000000000000000) 1000000000000000).bind fun t265=>(gridhalllaw3_ConvexMoves.j6 kj98 a3 a4 t239 t251 (!t265) a0_0 a0_1 l0_2 t234 t235 t236)) = some r:=by rw [if_pos rfl] at H;exact H
                   clear H
                   have H:=H1
                   clear H1
                   replace H:=Option.bind_eq_some_iff.mp H
                   obtain ⟨t265, A1150, H⟩:=H
                   replace H : (gridhalllaw3_ConvexMoves.j6 kj98 a3 a4 t239 t251 (!t265) a0_0 a0_1 l0_2 t234 t235 t236) = some r:=H
                   have A115:=Aside0.mk A1150
                   clear A1150
                   have H':=Aside0.mk H
                   clear H
                   go_wp2_with (first|((with_reducible refine gate_callee (f:=14) rfl ?_);refine goesL_ (some 159) rfl rfl Try.func14 (by kernel_rfl) rfl #[.int .i64 a3, .int .i64 (-2000000), .int .i64 2000000] rfl (by (try simp only [List.map_toArray, List.map_cons, List.map_nil]);first|done|rfl|(simp only [List.length_drop, List.length_take];rfl)) ?_;(with_reducible refine (gridhallref3_In.calls a3 (-2000000) 2000000 true _ A113.out).mono ?_);rintro e w' ⟨rfl, ⟨nd, rfl⟩⟩;refine ⟨_, rfl, ?_⟩)|(go_at_call 14;(with_reducible refine (gridhallref3_In.calls a4 (-1000000000000000) 1000000000000000 t265 _ A115.out).mono ?_);rintro e w' ⟨rfl, ⟨nd, rfl⟩⟩))
                   go_meet
                   case rel=>exact ⟨_, (!t265),(by first|rfl|(simp;done)|(simp [*];done)), H', ⟨by have:=HK1.out;have:=HJ50.out;have:=HJ74.out;have:=HK4.out;have:=HJ98.out;first|omega|exact Nat.le_refl _⟩,⟨by (with_reducible repeat (first|apply Kd.R_alloc|apply Kd.R_drewN|apply Kd.R_drew));exact HO_21.out⟩,⟨by (with_reducible repeat (first|apply Kd.R_alloc|apply Kd.R_drewN|apply Kd.R_drew));exact HO_234002.out⟩,⟨by (with_reducible repeat (first|apply Kd.R_alloc|apply Kd.R_drewN|apply Kd.R_drew));exact HO_241002.out⟩,⟨by (with_reducible repeat (first|apply Kd.R_alloc|apply Kd.R_drewN|apply Kd.R_drew));exact HO_248002.out⟩,⟨by (with_reducible repeat (first|refine blk_drewN ?_ _|refine blk_drew ?_|refine blk_alloc ?_ _));exact BK225.out⟩,⟨by (with_reducible repeat (first|refine blk_drewN ?_ _|refine blk_drew ?_|refine blk_alloc ?_ _));exact BK233.out⟩,⟨by (with_reducible repeat (first|refine blk_drewN ?_ _|refine blk_drew ?_|refine blk_alloc ?_ _));exact BK240.out⟩,⟨by (with_reducible repeat (first|refine blk_drewN ?_ _|refine blk_drew ?_|refine blk_alloc ?_ _));exact BK247.out⟩,⟨by repeat (first|(with_reducible first|exact HB.out|apply below_alloc|apply pw_below_drewN|apply below_drew1|refine below_set ?_ GE225.out|refine below_set ?_ GE233.out|refine below_set ?_ GE240.out|refine below_set ?_ GE247.out)|exact HB.out)⟩⟩
                  ·replace c114:=Bool.eq_false_iff.mpr c114
                   subst c114
                   have H1 : (gridhalllaw3_ConvexMoves.j6 kj98 a3 a4 t239 t251 true a0_0 a0_1 l0_2 t234 t235 t236) = some r:=by rw [if_neg (show ¬ (false = true) by decide)] at H;exact H
                   clear H
                   have H:=H1
                   clear H1
                   have H':=Aside0.mk H
                   clear H
                   go_wp2_with (first|((with_reducible refine gate_callee (f:=14) rfl ?_);refine goesL_ (some 159) rfl rfl Try.func14 (by kernel_rfl) rfl #[.int .i64 a3, .int .i64 (-2000000), .int .i64 2000000] rfl (by (try simp only [List.map_toArray, List.map_cons, List.map_nil]);first|done|rfl|(simp only [List.length_drop, List.length_take];rfl)) ?_;(with_reducible refine (gridhallref3_In.calls a3 (-2000000) 2000000 false _ A113.out).mono ?_);rintro e w' ⟨rfl, ⟨nd, rfl⟩⟩;refine ⟨_, rfl, ?_⟩))
                   go_meet
                   case rel=>exact ⟨_, (true),(by first|rfl|(simp;done)|(simp [*];done)), H', ⟨by have:=HK1.out;have:=HJ50.out;have:=HJ74.out;have:=HK4.out;have:=HJ98.out;first|omega|exact Nat.le_refl _⟩,⟨by (with_reducible repeat (first|apply Kd.R_alloc|apply Kd.R_drewN|apply Kd.R_drew));exact HO_21.out⟩,⟨by (with_reducible repeat (first|apply Kd.R_alloc|apply Kd.R_drewN|apply Kd.R_drew));exact HO_234002.out⟩,⟨by (with_reducible repeat (first|apply Kd.R_alloc|apply Kd.R_drewN|apply Kd.R_drew));exact HO_241002.out⟩,⟨by (with_reducible repeat (first|apply Kd.R_alloc|apply Kd.R_drewN|apply Kd.R_drew));exact HO_248002.out⟩,⟨by (with_reducible repeat (first|refine blk_drewN ?_ _|refine blk_drew ?_|refine blk_alloc ?_ _));exact BK225.out⟩,⟨by (with_reducible repeat (first|refine blk_drewN ?_ _|refine blk_drew ?_|refine blk_alloc ?_ _));exact BK233.out⟩,⟨by (with_reducible repeat (first|refine blk_drewN ?_ _|refine blk_drew ?_|refine blk_alloc ?_ _));exact BK240.out⟩,⟨by (with_reducible repeat (first|refine blk_drewN ?_ _|refine blk_drew ?_|refine blk_alloc ?_ _));exact BK247.out⟩,⟨by repeat (first|(with_reducible first|exact HB.out|apply below_alloc|apply pw_below_drewN|apply below_drew1|refine below_set ?_ GE225.out|refine below_set ?_ GE233.out|refine below_set ?_ GE240.out|refine below_set ?_ GE247.out)|exact HB.out)⟩⟩
                 case rest =>
                  clear HC112
                  try clear c1
                  try clear c2
                  try clear p2
                  try clear q2
                  try clear hx2
                  try clear c3
                  try clear c4
                  try clear c5
                  try clear c6
                  try clear p6
                  try clear c7
                  try clear c8
                  try clear c9
                  try clear c10
                  try clear c11
                  try clear c12
                  try clear c12b0
                  try clear c12b1
                  try clear c14
                  try clear c18
                  try clear c24
                  try clear p24
                  try clear q24
                  try clear hx24
                  try clear c25
                  try clear p25
                  try clear q25
                  try clear hx25
                  try clear c31
                  try clear c32
                  try clear c33
                  try clear c34
                  try clear c35
                  try clear c36
                  try clear c39
                  try clear c39b0
                  try clear c40
                  try clear c40b0
                  try clear c41
                  try clear c41b0
                  try clear c43
                  try clear c44
                  try clear c45
                  try clear c46
                  try clear c48
                  try clear c48b0
                  try clear c52
                  try clear c53
                  try clear c54
                  try clear c58
                  try clear c58b0
                  try clear c59
                  try clear c59b0
                  try clear c61
                  try clear c61b0
                  try clear c62
                  try clear c62b0
                  try clear c63
                  try clear c64
                  try clear p64
                  try clear c65
                  try clear c66
                  try clear c70
                  try clear c71
                  try clear c72
                  try clear c77
                  try clear c77b0
                  try clear c77b1
                  try clear c77b2
                  try clear c78
                  try clear c78b0
                  try clear c78b1
                  try clear c79
                  try clear c79b0
                  try clear c79b1
                  try clear c81
                  try clear c82
                  try clear c83
                  try clear c84
                  try clear c87
                  try clear c88
                  try clear c89
                  try clear c93
                  try clear c93b0
                  try clear c95
                  try clear c95b0
                  try clear c96
                  try clear c96b0
                  try clear c97
                  try clear c100
                  try clear c100b0
                  try clear c100b1
                  try clear c102
                  try clear c103
                  try clear c104
                  try clear c106
                  try clear c107
                  try clear c111
                  try clear c114
                  try clear hcz105_0
                  try clear hcz105_1
                  try clear hcz105_2
                  try clear hcz108_0
                  try clear hcz108_1
                  try clear hcz108_2
                  try clear hcz15_0
                  try clear hcz15_1
                  try clear hcz15_2
                  try clear hcz19_0
                  try clear hcz19_1
                  try clear hcz19_2
                  try clear hcz21_0
                  try clear hcz21_1
                  try clear hcz21_2
                  try clear hcz26_0
                  try clear hcz26_1
                  try clear hcz26_2
                  try clear hcz28_0
                  try clear hcz28_1
                  try clear hcz28_2
                  try clear hcz34_0
                  try clear hcz34_1
                  try clear hcz34_2
                  try clear hcz36_0
                  try clear hcz36_1
                  try clear hcz36_2
                  try clear hcz38_0
                  try clear hcz38_1
                  try clear hcz38_2
                  try clear hcz47_0
                  try clear hcz47_1
                  try clear hcz55_0
                  try clear hcz55_1
                  try clear hcz55_2
                  try clear hcz57_0
                  try clear hcz57_1
                  try clear hcz57_2
                  try clear hcz67_0
                  try clear hcz67_1
                  try clear hcz67_2
                  try clear hcz73_0
                  try clear hcz73_1
                  try clear hcz73_2
                  try clear hcz85_0
                  try clear hcz85_1
                  try clear hcz85_2
                  try clear hcz90_0
                  try clear hcz90_1
                  try clear hcz90_2
                  try clear hfz105_0
                  try clear hfz105_1
                  try clear hfz105_2
                  try clear hfz108_0
                  try clear hfz108_1
                  try clear hfz108_2
                  try clear hfz15_0
                  try clear hfz15_1
                  try clear hfz15_2
                  try clear hfz19_0
                  try clear hfz19_1
                  try clear hfz19_2
                  try clear hfz21_0
                  try clear hfz21_1
                  try clear hfz21_2
                  try clear hfz26_0
                  try clear hfz26_1
                  try clear hfz26_2
                  try clear hfz28_0
                  try clear hfz28_1
                  try clear hfz28_2
                  try clear hfz34_0
                  try clear hfz34_1
                  try clear hfz34_2
                  try clear hfz36_0
                  try clear hfz36_1
                  try clear hfz36_2
                  try clear hfz38_0
                  try clear hfz38_1
                  try clear hfz38_2
                  try clear hfz47_0
                  try clear hfz47_1
                  try clear hfz55_0
                  try clear hfz55_1
                  try clear hfz55_2
                  try clear hfz57_0
                  try clear hfz57_1
                  try clear hfz57_2
                  try clear hfz67_0
                  try clear hfz67_1
                  try clear hfz67_2
                  try clear hfz73_0
                  try clear hfz73_1
                  try clear hfz73_2
                  try clear hfz85_0
                  try clear hfz85_1
                  try clear hfz85_2
                  try clear hfz90_0
                  try clear hfz90_1
                  try clear hfz90_2
                  try clear hx249_0
                  try clear hx249_1
                  try clear hx254_0
                  try clear hx259_0
                  try clear p2
                  try clear p24
                  try clear p249
                  try clear p25
                  try clear p254
                  try clear p259
                  try clear p6
                  try clear p64
                  try clear q2
                  try clear q24
                  try clear q249
                  try clear q25
                  try clear q254
                  try clear q259
                  obtain ⟨kq, x165_111, rfl, HA, HJ111, HO_21, HO_234002, HO_241002, HO_248002, BK225, BK233, BK240, BK247, HB⟩:=hcut
                  cases kq with
                 |zero => exact absurd HA.out (by simp [gridhalllaw3_ConvexMoves.j6])
                 |succ kj111 =>
                   have H:=HA.out
                   clear HA
                   simp only [gridhalllaw3_ConvexMoves.j6] at H
                   by_cases c116 : x165_111 = true
                   ·subst c116
                    have H1 : (some (t239 == 4)) = some r:=by rw [if_pos rfl] at H;exact H
                    clear H
                    have H:=H1
                    clear H1
                    obtain rfl:=Option.some.inj H
                    go_wp2
                    go_ret
                    exact ⟨by first|rfl|(simp [errW_none, errW_some] <;> rfl)|(simp only [← hji50];first|rfl|(simp [errW_none, errW_some] <;> rfl))|(simp [*, errW_none, errW_some] <;> rfl), by repeat (first|(with_reducible first|exact HB.out|apply below_alloc|apply pw_below_drewN|apply below_drew1|refine below_set ?_ GE225.out|refine below_set ?_ GE233.out|refine below_set ?_ GE240.out|refine below_set ?_ GE247.out)|exact HB.out)⟩
                   ·replace c116:=Bool.eq_false_iff.mpr c116
                    subst c116
                    have H1 : (gridhalllaw3_ConvexMoves.l3 kj111 a3 a4 t239 ([] : List Int) t251 (t251.length : Int) 0 a0_0 a0_1 l0_2 t234 t235 t236) = some r:=by rw [if_neg (show ¬ (false = true) by decide)] at H;exact H
                    clear H
                    have H:=H1
                    clear H1
                    have H':=Aside0.mk H
                    clear H
                    go_wp2
                    try simp only [Act.put, List.setIfInBounds_toArray, List.set_cons_succ, List.set_cons_zero]
                    go_loopg [27, 170] kj111 (fun kq v27 v170 w'=>∃ (x27_7 : List Int) (x170_7 : Int), v170 = .int .i64 x170_7∧Aside0 (gridhalllaw3_ConvexMoves.l3 kq a3 a4 t239 x27_7 t251 (t251.length : Int) x170_7 a0_0 a0_1 l0_2 t234 t235 t236 = some r)∧Aside0 (kq ≤ kj111)∧Aside0 (Kd.R (Kd.int .i64) 3 w' w.heap.size (fun k_=>some k_ ≠ ((.slice Ao92 t251.length co92) : Value).ownBlock) v27 x27_7)∧Aside0 (Kd.R (Kd.int .i64) 3 w' w.heap.size (fun k_=>some k_ ≠ (v27 : Value).ownBlock) (.slice Ao92 t251.length co92) t251)∧Aside0 (Kd.R k88 88 w' w.heap.size (fun k_=>some k_ ≠ ((.slice Ao27 t236.length co27) : Value).ownBlock∧some k_ ≠ ((.slice Ao35 t243.length co35) : Value).ownBlock) (.slice Ao20 t229.length co20) t229)∧Aside0 (Kd.R k88 88 w' w.heap.size (fun k_=>some k_ ≠ ((.slice Ao20 t229.length co20) : Value).ownBlock∧some k_ ≠ ((.slice Ao35 t243.length co35) : Value).ownBlock) (.slice Ao27 t236.length co27) t236)∧Aside0 (Kd.R k88 88 w' w.heap.size (fun k_=>some k_ ≠ ((.slice Ao20 t229.length co20) : Value).ownBlock∧some k_ ≠ ((.slice Ao27 t236.length co27) : Value).ownBlock) (.slice Ao35 t243.length co35) t243)∧Aside0 (w'.heap[gb225]? = some (.cells #[.int .i64 a0_0, .int .i64 a0_1, (.slice A0_2 l0_2.length c0_2)] 82 (0, 0)))∧Aside0 (w'.heap[gb233]? = some (.cells #[.int .i64 t227, .int .i64 t228, (.slice Ao20 t229.length co20)] 82 (0, 0)))∧Aside0 (w'.heap[gb240]? = some (.cells #[.int .i64 t234, .int .i64 t235, (.slice Ao27 t236.length co27)] 82 (0, 0)))∧Aside0 (w'.heap[gb247]? = some (.cells #[.int .i64 t241, .int .i64 t242, (.slice Ao35 t243.length co35)] 82 (0, 0)))∧Aside0 (Below w.heap.size w w'))
                    case atStart=>exact ⟨(([] : List Int)),(0),(by first|rfl|(simp;done)|(simp [*];done)), H', ⟨Nat.le_refl _⟩,⟨by first|exact Kd.R_nil _ _ _ _ _|exact Kd.N_nil _ _ _ _ _|exact Kd.V_nil _ _ _ _ _|exact Kd.Q_nil _ _ _ _ _|exact Kd.S_nil _ _ _ _ _⟩,⟨by (with_reducible repeat (first|apply Kd.R_alloc|apply Kd.R_drewN|apply Kd.R_drew));exact Kd.R_mono HO_21.out (fun _ hk=>(by simp [Value.ownBlock]))⟩,⟨by (with_reducible repeat (first|apply Kd.R_alloc|apply Kd.R_drewN|apply Kd.R_drew));exact HO_234002.out⟩,⟨by (with_reducible repeat (first|apply Kd.R_alloc|apply Kd.R_drewN|apply Kd.R_drew));exact HO_241002.out⟩,⟨by (with_reducible repeat (first|apply Kd.R_alloc|apply Kd.R_drewN|apply Kd.R_drew));exact HO_248002.out⟩,⟨by (with_reducible repeat (first|refine blk_drewN ?_ _|refine blk_drew ?_|refine blk_alloc ?_ _));exact BK225.out⟩,⟨by (with_reducible repeat (first|refine blk_drewN ?_ _|refine blk_drew ?_|refine blk_alloc ?_ _));exact BK233.out⟩,⟨by (with_reducible repeat (first|refine blk_drewN ?_ _|refine blk_drew ?_|refine blk_alloc ?_ _));exact BK240.out⟩,⟨by (with_reducible repeat (first|refine blk_drewN ?_ _|refine blk_drew ?_|refine blk_alloc ?_ _));exact BK247.out⟩,⟨by repeat (first|(with_reducible first|exact HB.out|apply below_alloc|apply pw_below_drewN|apply below_drew1|refine below_set ?_ GE225.out|refine below_set ?_ GE233.out|refine below_set ?_ GE240.out|refine below_set ?_ GE247.out)|exact HB.out)⟩⟩
                    case round =>
                     clear H'
                     try clear c1
                     try clear c2
                     try clear p2
                     try clear q2
                     try clear hx2
                     try clear c3
                     try clear c4
                     try clear c5
                     try clear c6
                     try clear p6
                     try clear c7
                     try clear c8
                     try clear c9
                     try clear c10
                     try clear c11
                     try clear c12
                     try clear c12b0
                     try clear c12b1
                     try clear c14
                     try clear c18
                     try clear c24
                     try clear p24
                     try clear q24
                     try clear hx24
                     try clear c25
                     try clear p25
                     try clear q25
                     try clear hx25
                     try clear c31
                     try clear c32
                     try clear c33
                     try clear c34
                     try clear c35
                     try clear c36
                     try clear c39
                     try clear c39b0
                     try clear c40
                     try clear c40b0
                     try clear c41
                     try clear c41b0
                     try clear c43
                     try clear c44
                     try clear c45
                     try clear c46
                     try clear c48
                     try clear c48b0
                     try clear c52
                     try clear c53
                     try clear c54
                     try clear c58
                     try clear c58b0
                     try clear c59
                     try clear c59b0
                     try clear c61
                     try clear c61b0
                     try clear c62
                     try clear c62b0
                     try clear c63
                     try clear c64
                     try clear p64
                     try clear c65
                     try clear c66
                     try clear c70
                     try clear c71
                     try clear c72
                     try clear c77
                     try clear c77b0
                     try clear c77b1
                     try clear c77b2
                     try clear c78
                     try clear c78b0
                     try clear c78b1
                     try clear c79
                     try clear c79b0
                     try clear c79b1
                     try clear c81
                     try clear c82
                     try clear c83
                     try clear c84
                     try clear c87
                     try clear c88
                     try clear c89
                     try clear c93
                     try clear c93b0
                     try clear c95
                     try clear c95b0
                     try clear c96
                     try clear c96b0
                     try clear c97
                     try clear c100
                     try clear c100b0
                     try clear c100b1
                     try clear c102
                     try clear c103
                     try clear c104
                     try clear c106
                     try clear c107
                     try clear c111
                     try clear c114
                     try clear c116
                     try clear hcz105_0
                     try clear hcz105_1
                     try clear hcz105_2
                     try clear hcz108_0
                     try clear hcz108_1
                     try clear hcz108_2
                     try clear hcz15_0
                     try clear hcz15_1
                     try clear hcz15_2
                     try clear hcz19_0
                     try clear hcz19_1
                     try clear hcz19_2
                     try clear hcz21_0
                     try clear hcz21_1
                     try clear hcz21_2
                     try clear hcz26_0
                     try clear hcz26_1
                     try clear hcz26_2
                     try clear hcz28_0
                     try clear hcz28_1
                     try clear hcz28_2
                     try clear hcz34_0
                     try clear hcz34_1
                     try clear hcz34_2
                     try clear hcz36_0
                     try clear hcz36_1
                     try clear hcz36_2
                     try clear hcz38_0
                     try clear hcz38_1
                     try clear hcz38_2
                     try clear hcz47_0
                     try clear hcz47_1
                     try clear hcz55_0
                     try clear hcz55_1
                     try clear hcz55_2
                     try clear hcz57_0
                     try clear hcz57_1
                     try clear hcz57_2
                     try clear hcz67_0
                     try clear hcz67_1
                     try clear hcz67_2
                     try clear hcz73_0
                     try clear hcz73_1
                     try clear hcz73_2
                     try clear hcz85_0
                     try clear hcz85_1
                     try clear hcz85_2
                     try clear hcz90_0
                     try clear hcz90_1
                     try clear hcz90_2
                     try clear hfz105_0
                     try clear hfz105_1
                     try clear hfz105_2
                     try clear hfz108_0
                     try clear hfz108_1
                     try clear hfz108_2
                     try clear hfz15_0
                     try clear hfz15_1
                     try clear hfz15_2
                     try clear hfz19_0
                     try clear hfz19_1
                     try clear hfz19_2
                     try clear hfz21_0
                     try clear hfz21_1
                     try clear hfz21_2
                     try clear hfz26_0
                     try clear hfz26_1
                     try clear hfz26_2
                     try clear hfz28_0
                     try clear hfz28_1
                     try clear hfz28_2
                     try clear hfz34_0
                     try clear hfz34_1
                     try clear hfz34_2
                     try clear hfz36_0
                     try clear hfz36_1
                     try clear hfz36_2
                     try clear hfz38_0
                     try clear hfz38_1
                     try clear hfz38_2
                     try clear hfz47_0
                     try clear hfz47_1
                     try clear hfz55_0
                     try clear hfz55_1
                     try clear hfz55_2
                     try clear hfz57_0
                     try clear hfz57_1
                     try clear hfz57_2
                     try clear hfz67_0
                     try clear hfz67_1
                     try clear hfz67_2
                     try clear hfz73_0
                     try clear hfz73_1
                     try clear hfz73_2
                     try clear hfz85_0
                     try clear hfz85_1
                     try clear hfz85_2
                     try clear hfz90_0
                     try clear hfz90_1
                     try clear hfz90_2
                     try clear hx249_0
                     try clear hx249_1
                     try clear hx254_0
                     try clear hx259_0
                     try clear p2
                     try clear p24
                     try clear p249
                     try clear p25
                     try clear p254
                     try clear p259
                     try clear p6
                     try clear p64
                     try clear q2
                     try clear q24
                     try clear q249
                     try clear q25
                     try clear q254
                     try clear q259
                     obtain ⟨x27_7, x170_7, rfl, HA, HK7, HO_27, HO_168, HO_234002, HO_241002, HO_248002, BK225, BK233, BK240, BK247, HB⟩:=hrel
                     cases gk with
                    |zero => exact absurd HA.out (by simp [gridhalllaw3_ConvexMoves.l3])
                    |succ k7 =>
                      have H:=HA.out
                      clear HA
                      simp only [gridhalllaw3_ConvexMoves.l3] at H
                      by_cases c117 : x170_7 < (t251.length : Int)
                      ·rw [if_pos c117] at H
                       have c117b0 : decide (x170_7 < (t251.length : Int)) = true:=decide_eq_true c117
                       clear c117
                       by_cases c118 : 0 ≤ x170_7
                       ·rw [if_pos c118] at H
                        have c118b0 : decide (0 ≤ x170_7) = true:=decide_eq_true c118
                        clear c118
                        by_cases c119 : x170_7 < (t251.length : Int)
                        ·rw [if_pos c119] at H
                         have c119b0 : decide (x170_7 < (t251.length : Int)) = true:=decide_eq_true c119
                         clear c119
                         by_cases c120 : x27_7.length < 17592186044416
                         ·rw [if_pos c120] at H
                          have LMc120:=Aside0.mk c120
                          clear c120
                          obtain ⟨y267, hy267⟩ : ∃ y_ : List Int, y_ = (x27_7 ++ [wrap64 ((rd t251 x170_7) + a4)]):=⟨_, rfl⟩
                          replace H : (gridhalllaw3_ConvexMoves.l3 k7 a3 a4 t239 y267 t251 (t251.length : Int) (wrap64 (x170_7 + 1)) a0_0 a0_1 l0_2 t234 t235 t236) = some r:=by first|(rw [hy267];with_reducible exact H)|(have H2_:=(Option.bind_some _ _).symm.trans H;rw [hy267];with_reducible exact H2_)|(have H2_:=(Option.bind_some _ _).symm.trans H;with_reducible exact H2_)|with_reducible exact H|(rw [hy267];exact H)|exact H
                          have Ny267:=Aside0.mk hy267
                          clear hy267
                          have H':=Aside0.mk H
                          clear H
                          have p266 : 0 ≤ (x170_7 : Int):=of_decide_eq_true (by first|(with_reducible assumption)|assumption)
                          have q266 : x170_7 < (t251.length : Int):=of_decide_eq_true (by first|(with_reducible assumption)|assumption)
                          obtain ⟨ad266, e266, hx266_0⟩:=Kd.at_int (Kd.R_reads' HO_168.out).2.2 x170_7 p266 q266
                          cases e266
                          replace p266:=eq_true p266
                          replace q266:=eq_true q266
                          go_wp2_with (first|((with_reducible refine gate_builtin (b:=.append) (xs:=#[.tmp 174, .tmp 178]) rfl ?_);(try (refine gate_guard (by rfl) ?_;dsimp only));at_builtin;refine Kd.R_append (Kd.int .i64) (w0:=w) w.heap.size rfl (.tmp 174) (.tmp 178) 31 3 (.int .i64 0) 8 rfl Try.underlying31 info3 rfl (by decide) (by omega) u27 x27_7 (wrap64 ((rd t251 x170_7) + a4)) [.int .i64 (wrap64 ((rd t251 x170_7) + a4))] (fun k_=>some k_ ≠ (.slice (some ad266) t251.length co92 : Value).ownBlock) (fun _=>False) rfl rfl ?aP (fun _ hk=>hk.elim) ?aF ?aO ?aB ?aS ?aL ?_;(case aP=>exact rfl);(case aB=>exact (by repeat (first|(with_reducible first|exact HB.out|apply below_alloc|apply pw_below_drewN|apply below_drew1|refine below_set ?_ GE225.out|refine below_set ?_ GE233.out|refine below_set ?_ GE240.out|refine below_set ?_ GE247.out)|exact HB.out)));(case aF=>exact (fun k_ hk=>Kd.fresh' (Kd.R_lt (by (with_reducible repeat (first|apply Kd.R_alloc|apply Kd.R_drewN|apply Kd.R_drew));exact HO_168.out)) k_ hk));(case aO=>exact (by (with_reducible repeat (first|apply Kd.R_alloc|apply Kd.R_drewN|apply Kd.R_drew));exact HO_27.out));(case aS=>exact (below_size (by repeat (first|(with_reducible first|exact HB.out|apply below_alloc|apply pw_below_drewN|apply below_drew1|refine below_set ?_ GE225.out|refine below_set ?_ GE233.out|refine below_set ?_ GE240.out|refine below_set ?_ GE247.out)|exact HB.out))));(case aL=>have:=LMc120.out;omega);intro v268 w121 ho hb hg hat;rw [← Ny267.out] at ho;have n0_:=Aside0.mk (Kd.R_after (ok:=(fun _=>True)) (by (with_reducible repeat (first|apply Kd.R_alloc|apply Kd.R_drewN|apply Kd.R_drew));exact Kd.R_mono HO_168.out (fun _ hk=>⟨trivial, hk⟩)) hg hat);have n1_:=Aside0.mk (Kd.R_over' (by (with_reducible repeat (first|apply Kd.R_alloc|apply Kd.R_drewN|apply Kd.R_drew));exact HO_234002.out) (Kd.R_typed (by (with_reducible repeat (first|apply Kd.R_alloc|apply Kd.R_drewN|apply Kd.R_drew));exact HO_27.out)) (by decide) hg);have n2_:=Aside0.mk (Kd.R_over' (by (with_reducible repeat (first|apply Kd.R_alloc|apply Kd.R_drewN|apply Kd.R_drew));exact HO_241002.out) (Kd.R_typed (by (with_reducible repeat (first|apply Kd.R_alloc|apply Kd.R_drewN|apply Kd.R_drew));exact HO_27.out)) (by decide) hg);have n3_:=Aside0.mk (Kd.R_over' (by (with_reducible repeat (first|apply Kd.R_alloc|apply Kd.R_drewN|apply Kd.R_drew));exact HO_248002.out) (Kd.R_typed (by (with_reducible repeat (first|apply Kd.R_alloc|apply Kd.R_drewN|apply Kd.R_drew));exact HO_27.out)) (by decide) hg);have n4_:=Aside0.mk (blk_grown (g:=gb225) (o:=.cells #[.int .i64 a0_0, .int .i64 a0_1, .slice A0_2 l0_2.length c0_2] 82 (0, 0)) (by (with_reducible repeat (first|refine blk_drewN ?_ _|refine blk_drew ?_|refine blk_alloc ?_ _));exact BK225.out) hg (Kd.R_ne HO_27.out BK225.out (by decide)));have n5_:=Aside0.mk (blk_grown (g:=gb233) (o:=.cells #[.int .i64 t227, .int .i64 t228, .slice Ao20 t229.length co20] 82 (0, 0)) (by (with_reducible repeat (first|refine blk_drewN ?_ _|refine blk_drew ?_|refine blk_alloc ?_ _));exact BK233.out) hg (Kd.R_ne HO_27.out BK233.out (by decide)));have n6_:=Aside0.mk (blk_grown (g:=gb240) (o:=.cells #[.int .i64 t234, .int .i64 t235, .slice Ao27 t236.length co27] 82 (0, 0)) (by (with_reducible repeat (first|refine blk_drewN ?_ _|refine blk_drew ?_|refine blk_alloc ?_ _));exact BK240.out) hg (Kd.R_ne HO_27.out BK240.out (by decide)));have n7_:=Aside0.mk (blk_grown (g:=gb247) (o:=.cells #[.int .i64 t241, .int .i64 t242, .slice Ao35 t243.length co35] 82 (0, 0)) (by (with_reducible repeat (first|refine blk_drewN ?_ _|refine blk_drew ?_|refine blk_alloc ?_ _));exact BK247.out) hg (Kd.R_ne HO_27.out BK247.out (by decide)));have n8_:=Aside0.mk (hb);have n9_:=Aside0.mk (ho);clear HO_168;clear HO_234002;clear HO_241002;clear HO_248002;clear BK225;clear BK233;clear BK240;clear BK247;clear HB;clear HO_27;have HO_168:=n0_;have HO_234002:=n1_;have HO_241002:=n2_;have HO_248002:=n3_;have BK225:=n4_;have BK233:=n5_;have BK240:=n6_;have BK247:=n7_;have HB:=n8_;have HO269:=n9_;clear n0_ n1_ n2_ n3_ n4_ n5_ n6_ n7_ n8_ n9_;clear ho hb hg hat))
                          go_roundg k7
                          case measure=>have:=HK1.out;have:=HJ50.out;have:=HJ74.out;have:=HK4.out;have:=HJ98.out;have:=HJ111.out;have:=HK7.out;omega
                          case rel=>exact ⟨(y267),(wrap64 (x170_7 + 1)),(by first|rfl|(simp;done)|(simp [*];done)), H', ⟨by have:=HK1.out;have:=HJ50.out;have:=HJ74.out;have:=HK4.out;have:=HJ98.out;have:=HJ111.out;have:=HK7.out;omega⟩,⟨by (with_reducible repeat (first|apply Kd.R_alloc|apply Kd.R_drewN|apply Kd.R_drew));exact HO269.out⟩,⟨by (with_reducible repeat (first|apply Kd.R_alloc|apply Kd.R_drewN|apply Kd.R_drew));exact Kd.R_mono HO_168.out (fun _ hk=>hk.2)⟩,⟨by (with_reducible repeat (first|apply Kd.R_alloc|apply Kd.R_drewN|apply Kd.R_drew));exact HO_234002.out⟩,⟨by (with_reducible repeat (first|apply Kd.R_alloc|apply Kd.R_drewN|apply Kd.R_drew));exact HO_241002.out⟩,⟨by (with_reducible repeat (first|apply Kd.R_alloc|apply Kd.R_drewN|apply Kd.R_drew));exact HO_248002.out⟩,⟨by (with_reducible repeat (first|refine blk_drewN ?_ _|refine blk_drew ?_|refine blk_alloc ?_ _));exact BK225.out⟩,⟨by (with_reducible repeat (first|refine blk_drewN ?_ _|refine blk_drew ?_|refine blk_alloc ?_ _));exact BK233.out⟩,⟨by (with_reducible repeat (first|refine blk_drewN ?_ _|refine blk_drew ?_|refine blk_alloc ?_ _));exact BK240.out⟩,⟨by (with_reducible repeat (first|refine blk_drewN ?_ _|refine blk_drew ?_|refine blk_alloc ?_ _));exact BK247.out⟩,⟨by repeat (first|(with_reducible first|exact HB.out|apply below_alloc|apply pw_below_drewN|apply below_drew1|refine below_set ?_ GE225.out|refine below_set ?_ GE233.out|refine below_set ?_ GE240.out|refine below_set ?_ GE247.out)|exact HB.out)⟩⟩
                         ·rw [if_neg c120] at H
                          exact absurd H (by simp)
                        ·rw [if_neg c119] at H
                         exact absurd H (by simp)
                       ·rw [if_neg c118] at H
                        exact absurd H (by simp)
                      ·rw [if_neg c117] at H
                       have c117b0 : decide (x170_7 < (t251.length : Int)) = false:=decide_eq_false c117
                       clear c117
                       by_cases c122 : t239 = 2
                       ·rw [if_pos c122] at H
                        have c122b0 : (t239 == 2) = true:=beq_iff_eq.mpr c122
                        have c122b1 : (t239 != 2) = false:=bne_eq_false_iff_eq.mpr c122
                        clear c122
                        obtain rfl:=Option.some.inj H
                        go_wp2
                        go_ret
                        exact ⟨by first|rfl|(simp [errW_none, errW_some] <;> rfl)|(simp only [← hji50];first|rfl|(simp [errW_none, errW_some] <;> rfl))|(simp [*, errW_none, errW_some] <;> rfl), by repeat (first|(with_reducible first|exact HB.out|apply below_alloc|apply pw_below_drewN|apply below_drew1|refine below_set ?_ GE225.out|refine below_set ?_ GE233.out|refine below_set ?_ GE240.out|refine below_set ?_ GE247.out)|exact HB.out)⟩
                       ·rw [if_neg c122] at H
                        have c122b0 : (t239 == 2) = false:=beq_eq_false_iff_ne.mpr c122
                        have c122b1 : (t239 != 2) = true:=bne_iff_ne.mpr c122
                        by_cases c123 : t239 = 0
                        ·rw [if_pos c123] at H
                         have c123b0 : (t239 == 0) = true:=beq_iff_eq.mpr c123
                         have c123b1 : (t239 != 0) = false:=bne_eq_false_iff_eq.mpr c123
                         clear c123
                         replace H:=Option.bind_eq_some_iff.mp H
                         obtain ⟨t270, A1240, H⟩:=H
                         replace H : (some t270) = some r:=H
                         have A124:=Aside0.mk A1240
                         clear A1240
                         obtain rfl:=Option.some.inj H
                         have hnb125:=NB240_225.out
                         have hnc125:=NB225_240.out
                         have hnb126:=NB240_233.out
                         have hnc126:=NB233_240.out
                         have hnb127:=NB240_247.out
                         have hnc127:=NB247_240.out
                         have hcz128_0 : wr.cell? ⟨gb240, 0, none⟩ = some (.int .i64 t234):=(blk_cell BK240.out 0).trans rfl
                         have hcz128_1 : wr.cell? ⟨gb240, 1, none⟩ = some (.int .i64 t235):=(blk_cell BK240.out 1).trans rfl
                         have hcz128_2 : wr.cell? ⟨gb240, 2, none⟩ = some (.slice Ao27 t236.length co27):=(blk_cell BK240.out 2).trans rfl
                         have hfz128_0:=blk_frozen BK240.out 0
                         have hfz128_1:=blk_frozen BK240.out 1
                         have hfz128_2:=blk_frozen BK240.out 2
                         have hnb129:=NB225_233.out
                         have hnc129:=NB233_225.out
                         have hnb130:=NB225_247.out
                         have hnc130:=NB247_225.out
                         have hcz131_0 : wr.cell? ⟨gb225, 0, none⟩ = some (.int .i64 a0_0):=(blk_cell BK225.out 0).trans rfl
                         have hcz131_1 : wr.cell? ⟨gb225, 1, none⟩ = some (.int .i64 a0_1):=(blk_cell BK225.out 1).trans rfl
                         have hcz131_2 : wr.cell? ⟨gb225, 2, none⟩ = some (.slice A0_2 l0_2.length c0_2):=(blk_cell BK225.out 2).trans rfl
                         have hfz131_0:=blk_frozen BK225.out 0
                         have hfz131_1:=blk_frozen BK225.out 1
                         have hfz131_2:=blk_frozen BK225.out 2
                         obtain ⟨Ao132, co132, eo132⟩:=Kd.R_slice HO_27.out
                         subst eo132
                         go_wp2_with (first|(go_at_call 37;(with_reducible refine (gridhalllaw3_sameValues.calls k7 t234 t235 _ _ t236 (wrap64 (a0_0 + a3)) _ _ x27_7 t270 _ ?side1 ?side2 ?side3 ?side4 A124.out).mono ?_);(case side1=>repeat (first|exact (Kd.R_reads' HO_241002.out).2.2|(with_reducible refine Kd.C_alloc ?_ _)|(with_reducible refine Kd.C_drewN ?_ _)|(with_reducible refine Kd.C_drew ?_)));(case side2=>exact (Kd.R_reads' HO_241002.out).2.1);(case side3=>repeat (first|exact (Kd.R_reads' HO_27.out).2.2|(with_reducible refine Kd.C_alloc ?_ _)|(with_reducible refine Kd.C_drewN ?_ _)|(with_reducible refine Kd.C_drew ?_)));(case side4=>exact (Kd.R_reads' HO_27.out).2.1);rintro e w133 ⟨rfl, hb⟩;have n0_:=Aside0.mk (Kd.R_below (by (with_reducible repeat (first|apply Kd.R_alloc|apply Kd.R_drewN|apply Kd.R_drew));exact HO_27.out) hb);have n1_:=Aside0.mk (Kd.R_below (by (with_reducible repeat (first|apply Kd.R_alloc|apply Kd.R_drewN|apply Kd.R_drew));exact HO_168.out) hb);have n2_:=Aside0.mk (Kd.R_below (by (with_reducible repeat (first|apply Kd.R_alloc|apply Kd.R_drewN|apply Kd.R_drew));exact HO_234002.out) hb);have n3_:=Aside0.mk (Kd.R_below (by (with_reducible repeat (first|apply Kd.R_alloc|apply Kd.R_drewN|apply Kd.R_drew));exact HO_241002.out) hb);have n4_:=Aside0.mk (Kd.R_below (by (with_reducible repeat (first|apply Kd.R_alloc|apply Kd.R_drewN|apply Kd.R_drew));exact HO_248002.out) hb);have n5_:=Aside0.mk (blk_below (g:=gb225) (o:=.cells #[.int .i64 a0_0, .int .i64 a0_1, .slice A0_2 l0_2.length c0_2] 82 (0, 0)) (by (with_reducible repeat (first|refine blk_drewN ?_ _|refine blk_drew ?_|refine blk_alloc ?_ _));exact BK225.out) hb);have n6_:=Aside0.mk (blk_below (g:=gb233) (o:=.cells #[.int .i64 t227, .int .i64 t228, .slice Ao20 t229.length co20] 82 (0, 0)) (by (with_reducible repeat (first|refine blk_drewN ?_ _|refine blk_drew ?_|refine blk_alloc ?_ _));exact BK233.out) hb);have n7_:=Aside0.mk (blk_below (g:=gb240) (o:=.cells #[.int .i64 t234, .int .i64 t235, .slice Ao27 t236.length co27] 82 (0, 0)) (by (with_reducible repeat (first|refine blk_drewN ?_ _|refine blk_drew ?_|refine blk_alloc ?_ _));exact BK240.out) hb);have n8_:=Aside0.mk (blk_below (g:=gb247) (o:=.cells #[.int .i64 t241, .int .i64 t242, .slice Ao35 t243.length co35] 82 (0, 0)) (by (with_reducible repeat (first|refine blk_drewN ?_ _|refine blk_drew ?_|refine blk_alloc ?_ _));exact BK247.out) hb);have n9_:=Aside0.mk (below_step (by repeat (first|(with_reducible first|exact HB.out|apply below_alloc|apply pw_below_drewN|apply below_drew1|refine below_set ?_ GE225.out|refine below_set ?_ GE233.out|refine below_set ?_ GE240.out|refine below_set ?_ GE247.out)|exact HB.out)) hb);clear HO_27;clear HO_168;clear HO_234002;clear HO_241002;clear HO_248002;clear BK225;clear BK233;clear BK240;clear BK247;clear HB;have HO_27:=n0_;have HO_168:=n1_;have HO_234002:=n2_;have HO_241002:=n3_;have HO_248002:=n4_;have BK225:=n5_;have BK233:=n6_;have BK240:=n7_;have BK247:=n8_;have HB:=n9_;clear n0_ n1_ n2_ n3_ n4_ n5_ n6_ n7_ n8_ n9_;(try clear hb);(try clear hb2);(try clear hk);(try clear hi)))
                         go_ret
                         exact ⟨by first|rfl|(simp [errW_none, errW_some] <;> rfl)|(simp only [← hji50];first|rfl|(simp [errW_none, errW_some] <;> rfl))|(simp [*, errW_none, errW_some] <;> rfl), by repeat (first|(with_reducible first|exact HB.out|apply below_alloc|apply pw_below_drewN|apply below_drew1|refine below_set ?_ GE225.out|refine below_set ?_ GE233.out|refine below_set ?_ GE240.out|refine below_set ?_ GE247.out)|exact HB.out)⟩
                        ·rw [if_neg c123] at H
                         have c123b0 : (t239 == 0) = false:=beq_eq_false_iff_ne.mpr c123
                         have c123b1 : (t239 != 0) = true:=bne_iff_ne.mpr c123
                         obtain rfl:=Option.some.inj H
                         go_wp2
                         go_ret
                         exact ⟨by first|rfl|(simp [errW_none, errW_some] <;> rfl)|(simp only [← hji50];first|rfl|(simp [errW_none, errW_some] <;> rfl))|(simp [*, errW_none, errW_some] <;> rfl), by repeat (first|(with_reducible first|exact HB.out|apply below_alloc|apply pw_below_drewN|apply below_drew1|refine below_set ?_ GE225.out|refine below_set ?_ GE233.out|refine below_set ?_ GE240.out|refine below_set ?_ GE247.out)|exact HB.out)⟩
  ·rw [if_neg c12] at H
   have c12b0 : (t248 == 0) = false:=beq_eq_false_iff_ne.mpr c12
   have c12b1 : (t248 != 0) = true:=bne_iff_ne.mpr c12
   by_cases c134 : t232 = t248
   rw [if_pos c134] at H
   have c134b0 : (t232 == t248) = true:=beq_iff_eq.mpr c134
   have c134b1 : (t232 != t248) = false:=bne_eq_false_iff_eq.mpr c134
   clear c134
   focus
    by_cases c135 : t239 = t248
    rw [if_pos c135] at H
    have c135b0 : (t239 == t248) = true:=beq_iff_eq.mpr c135
    have c135b1 : (t239 != t248) = false:=bne_eq_false_iff_eq.mpr c135
    clear c135
    obtain rfl:=Option.some.inj H
    rotate_left
    rw [if_neg c135] at H
    have c135b0 : (t239 == t248) = false:=beq_eq_false_iff_ne.mpr c135
    have c135b1 : (t239 != t248) = true:=bne_iff_ne.mpr c135
    obtain rfl:=Option.some.inj H
    rotate_left
   rotate_left 2
   rw [if_neg c134] at H
   have c134b0 : (t232 == t248) = false:=beq_eq_false_iff_ne.mpr c134
   have c134b1 : (t232 != t248) = true:=bne_iff_ne.mpr c134
   obtain rfl:=Option.some.inj H
   rotate_left
   all_goals
    go_enter Try.func6, Try.ntmps6
    go_wp2_with (first|((with_reducible refine gate_dst (N:=5) rfl ?_);(try (refine gate_guard (by rfl) ?_;dsimp only));refine box_event ?hg (N:=5) ?hd (cs:=#[.int .i64 a0_0, .int .i64 a0_1, .slice A0_2 l0_2.length c0_2]) (t:=82) ?hr ?_;(case hd=>rfl);(case hg=>rfl);(case hr=>first|(go_simp;done)|(go_simp;rfl));intro gb225 hg w136 hbox hb;have n0_:=Aside0.mk (below_step (by repeat (first|(with_reducible first|exact HB.out|apply below_alloc|apply pw_below_drewN|apply below_drew1)|exact HB.out)) hb);have n1_:=Aside0.mk (hbox);have n2_:=Aside0.mk ((by rw [hg];exact (below_size (by repeat (first|(with_reducible first|exact HB.out|apply below_alloc|apply pw_below_drewN|apply below_drew1)|exact HB.out))) : w.heap.size ≤ gb225));have n3_:=Aside0.mk ((by rw [hg];exact (below_size (by repeat (first|(with_reducible first|exact HB.out|apply below_alloc|apply pw_below_drewN|apply below_drew1)|exact HB.out))) : w.heap.size ≤ gb225));clear HB;have HB:=n0_;have BK225:=n1_;have GW225:=n2_;have GE225:=n3_;clear n0_ n1_ n2_ n3_;clear hb hbox hg)|((with_reducible refine gate_callee (f:=31) rfl ?_);refine goesL_ (some 30) rfl rfl Try.func31 (by kernel_rfl) rfl #[] rfl (by (try simp only [List.map_toArray, List.map_cons, List.map_nil]);first|done|rfl|(simp only [List.length_drop, List.length_take];rfl)) ?_;(with_reducible refine (gridhalllaw3_slopes.calls k  true _ A6.out).mono ?_);rintro e w137 ⟨rfl, hb⟩;refine ⟨_, rfl, ?_⟩;have n0_:=Aside0.mk (blk_below (g:=gb225) (o:=.cells #[.int .i64 a0_0, .int .i64 a0_1, .slice A0_2 l0_2.length c0_2] 82 (0, 0)) (by (with_reducible repeat (first|refine blk_drewN ?_ _|refine blk_drew ?_|refine blk_alloc ?_ _));exact BK225.out) hb);have n1_:=Aside0.mk (below_step (by repeat (first|(with_reducible first|exact HB.out|apply below_alloc|apply pw_below_drewN|apply below_drew1|refine below_set ?_ GE225.out)|exact HB.out)) hb);clear BK225;clear HB;have BK225:=n0_;have HB:=n1_;clear n0_ n1_;(try clear hb);(try clear hb2);(try clear hk);(try clear hi);have hcz138_0 : w137.cell? ⟨gb225, 0, none⟩ = some (.int .i64 a0_0):=(blk_cell BK225.out 0).trans rfl;have hcz138_1 : w137.cell? ⟨gb225, 1, none⟩ = some (.int .i64 a0_1):=(blk_cell BK225.out 1).trans rfl;have hcz138_2 : w137.cell? ⟨gb225, 2, none⟩ = some (.slice A0_2 l0_2.length c0_2):=(blk_cell BK225.out 2).trans rfl;have hfz138_0:=blk_frozen BK225.out 0;have hfz138_1:=blk_frozen BK225.out 1;have hfz138_2:=blk_frozen BK225.out 2)|((with_reducible refine gate_callee (f:=32) rfl ?_);refine goesL_ (some 36) rfl rfl Try.func32 (by kernel_rfl) rfl #[.agg #[.int .i64 a0_0, .int .i64 a0_1, .slice A0_2 l0_2.length c0_2], .int .i64 a1, .int .i64 a2] rfl (by (try simp only [List.map_toArray, List.map_cons, List.map_nil]);first|done|rfl|(simp only [List.length_drop, List.length_take];rfl)) ?_;(with_reducible refine (convexpl_Restrict.calls k a0_0 a0_1 _ _ l0_2 a1 a2 t227 t228 t229 t232 _ ?side1 ?side2 A8.out).mono ?_);(case side1=>repeat (first|exact (Kd.C_below HR0_2.out HB.out)|(with_reducible refine Kd.C_alloc ?_ _)|(with_reducible refine Kd.C_drewN ?_ _)|(with_reducible refine Kd.C_drew ?_)));(case side2=>exact HC0_2.out);rintro e w139 ⟨v230, rfl, ho0, hb⟩;refine ⟨_, rfl, ?_⟩;have n0_:=Aside0.mk (Kd.R_lower ho0 (below_size (by repeat (first|(with_reducible first|exact HB.out|apply below_alloc|apply pw_below_drewN|apply below_drew1|refine below_set ?_ GE225.out)|exact HB.out))));have n1_:=Aside0.mk (blk_below (g:=gb225) (o:=.cells #[.int .i64 a0_0, .int .i64 a0_1, .slice A0_2 l0_2.length c0_2] 82 (0, 0)) (by (with_reducible repeat (first|refine blk_drewN ?_ _|refine blk_drew ?_|refine blk_alloc ?_ _));exact BK225.out) hb);have n2_:=Aside0.mk (below_step (by repeat (first|(with_reducible first|exact HB.out|apply below_alloc|apply pw_below_drewN|apply below_drew1|refine below_set ?_ GE225.out)|exact HB.out)) hb);clear BK225;clear HB;have HO231:=n0_;have BK225:=n1_;have HB:=n2_;clear n0_ n1_ n2_;(try clear hb);(try clear hb2);(try clear hk);(try clear hi);(try clear ho0))|((with_reducible refine gate_dst (N:=11) rfl ?_);(try (refine gate_guard (by rfl) ?_;dsimp only));refine box_event ?hg (N:=11) ?hd (cs:=#[.int .i64 0, .int .i64 0, .slice none 0 0]) (t:=82) ?hr ?_;(case hd=>rfl);(case hg=>rfl);(case hr=>first|(go_simp;done)|(go_simp;rfl));intro gb233 hg w140 hbox hb;have n0_:=Aside0.mk (Kd.R_below (by (with_reducible repeat (first|apply Kd.R_alloc|apply Kd.R_drewN|apply Kd.R_drew));exact HO231.out) hb);have n1_:=Aside0.mk (blk_below (g:=gb225) (o:=.cells #[.int .i64 a0_0, .int .i64 a0_1, .slice A0_2 l0_2.length c0_2] 82 (0, 0)) (by (with_reducible repeat (first|refine blk_drewN ?_ _|refine blk_drew ?_|refine blk_alloc ?_ _));exact BK225.out) hb);have n2_:=Aside0.mk (below_step (by repeat (first|(with_reducible first|exact HB.out|apply below_alloc|apply pw_below_drewN|apply below_drew1|refine below_set ?_ GE225.out)|exact HB.out)) hb);have n3_:=Aside0.mk (hbox);have n4_:=Aside0.mk ((by rw [hg];exact (below_size (by repeat (first|(with_reducible first|exact HB.out|apply below_alloc|apply pw_below_drewN|apply below_drew1|refine below_set ?_ GE225.out)|exact HB.out))) : w.heap.size ≤ gb233));have n5_:=Aside0.mk ((by rw [hg];exact (below_size (by repeat (first|(with_reducible first|exact HB.out|apply below_alloc|apply pw_below_drewN|apply below_drew1|refine below_set ?_ GE225.out)|exact HB.out))) : w.heap.size ≤ gb233));have n6_:=Aside0.mk ((by rw [hg];exact Nat.ne_of_lt (blk_lt (g:=gb225) (o:=.cells #[.int .i64 a0_0, .int .i64 a0_1, .slice A0_2 l0_2.length c0_2] 82 (0, 0)) (by (with_reducible repeat (first|refine blk_drewN ?_ _|refine blk_drew ?_|refine blk_alloc ?_ _));exact BK225.out)) : gb225 ≠ gb233));have n7_:=Aside0.mk ((by rw [hg];exact Nat.ne_of_gt (blk_lt (g:=gb225) (o:=.cells #[.int .i64 a0_0, .int .i64 a0_1, .slice A0_2 l0_2.length c0_2] 82 (0, 0)) (by (with_reducible repeat (first|refine blk_drewN ?_ _|refine blk_drew ?_|refine blk_alloc ?_ _));exact BK225.out)) : gb233 ≠ gb225));clear HO231;clear BK225;clear HB;have HO231:=n0_;have BK225:=n1_;have HB:=n2_;have BK233:=n3_;have GW233:=n4_;have GE233:=n5_;have NB225_233:=n6_;have NB233_225:=n7_;clear n0_ n1_ n2_ n3_ n4_ n5_ n6_ n7_;clear hb hbox hg;have hnb141:=NB233_225.out;have hnc141:=NB225_233.out;have hcz142_0 : w140.cell? ⟨gb233, 0, none⟩ = some (.int .i64 0):=(blk_cell BK233.out 0).trans rfl;have hcz142_1 : w140.cell? ⟨gb233, 1, none⟩ = some (.int .i64 0):=(blk_cell BK233.out 1).trans rfl;have hcz142_2 : w140.cell? ⟨gb233, 2, none⟩ = some (.slice none 0 0):=(blk_cell BK233.out 2).trans rfl;have hfz142_0:=blk_frozen BK233.out 0;have hfz142_1:=blk_frozen BK233.out 1;have hfz142_2:=blk_frozen BK233.out 2;obtain ⟨Ao143, co143, eo143⟩:=Kd.R_slice HO231.out;subst eo143;have hcz144_0 : w140.cell? ⟨gb225, 0, none⟩ = some (.int .i64 a0_0):=(blk_cell BK225.out 0).trans rfl;have hcz144_1 : w140.cell? ⟨gb225, 1, none⟩ = some (.int .i64 a0_1):=(blk_cell BK225.out 1).trans rfl;have hcz144_2 : w140.cell? ⟨gb225, 2, none⟩ = some (.slice A0_2 l0_2.length c0_2):=(blk_cell BK225.out 2).trans rfl;have hfz144_0:=blk_frozen BK225.out 0;have hfz144_1:=blk_frozen BK225.out 1;have hfz144_2:=blk_frozen BK225.out 2)|((with_reducible refine gate_callee (f:=33) rfl ?_);refine goesL_ (some 43) rfl rfl Try.func33 (by kernel_rfl) rfl #[.agg #[.int .i64 a0_0, .int .i64 a0_1, .slice A0_2 l0_2.length c0_2], .int .i64 a3, .int .i64 a4] rfl (by (try simp only [List.map_toArray, List.map_cons, List.map_nil]);first|done|rfl|(simp only [List.length_drop, List.length_take];rfl)) ?_;(with_reducible refine (convexpl_Move.calls k a0_0 a0_1 _ _ l0_2 a3 a4 t234 t235 t236 t239 _ ?side1 ?side2 A9.out).mono ?_);(case side1=>exact Kd.C_below HR0_2.out (by repeat (first|(with_reducible first|exact HB.out|apply below_alloc|apply pw_below_drewN|apply below_drew1|refine below_set ?_ GE225.out|refine below_set ?_ GE233.out)|exact HB.out)));(case side2=>exact HC0_2.out);rintro e w145 ⟨v237, rfl, ho0, hb⟩;refine ⟨_, rfl, ?_⟩;have n0_:=Aside0.mk (Kd.R_elder' (by (with_reducible repeat (first|apply Kd.R_alloc|apply Kd.R_drewN|apply Kd.R_drew));exact (Kd.R_mono (Kd.R_far (p:=⟨gb233, 2, none⟩) (Kd.R_far (p:=⟨gb233, 1, none⟩) (Kd.R_far (p:=⟨gb233, 0, none⟩) (Kd.R_types HO231.out BK233.out (by decide)) (fun _ hk=>hk.2) (.int .i64 t227)) (fun _ hk=>hk.2) (.int .i64 t228)) (fun _ hk=>hk.2) (.slice Ao143 t229.length co143)) (fun _ h_=>h_.1))) (Kd.R_base ho0) hb);have n1_:=Aside0.mk (Kd.R_lower (Kd.R_new' ho0 (Kd.R_lt (by (with_reducible repeat (first|apply Kd.R_alloc|apply Kd.R_drewN|apply Kd.R_drew));exact (Kd.R_mono (Kd.R_far (p:=⟨gb233, 2, none⟩) (Kd.R_far (p:=⟨gb233, 1, none⟩) (Kd.R_far (p:=⟨gb233, 0, none⟩) (Kd.R_types HO231.out BK233.out (by decide)) (fun _ hk=>hk.2) (.int .i64 t227)) (fun _ hk=>hk.2) (.int .i64 t228)) (fun _ hk=>hk.2) (.slice Ao143 t229.length co143)) (fun _ h_=>h_.1))))) (below_size (by repeat (first|(with_reducible first|exact HB.out|apply below_alloc|apply pw_below_drewN|apply below_drew1|refine below_set ?_ GE225.out|refine below_set ?_ GE233.out)|exact HB.out))));have n2_:=Aside0.mk (blk_below (g:=gb225) (o:=.cells #[.int .i64 a0_0, .int .i64 a0_1, .slice A0_2 l0_2.length c0_2] 82 (0, 0)) (by (with_reducible repeat (first|refine blk_drewN ?_ _|refine blk_drew ?_|refine blk_alloc ?_ _));refine blk_far ?_ NB225_233.out _;(with_reducible repeat (first|refine blk_drewN ?_ _|refine blk_drew ?_|refine blk_alloc ?_ _));refine blk_far ?_ NB225_233.out _;(with_reducible repeat (first|refine blk_drewN ?_ _|refine blk_drew ?_|refine blk_alloc ?_ _));refine blk_far ?_ NB225_233.out _;(with_reducible repeat (first|refine blk_drewN ?_ _|refine blk_drew ?_|refine blk_alloc ?_ _));exact BK225.out) hb);have n3_:=Aside0.mk (blk_below (g:=gb233) (o:=.cells #[.int .i64 t227, .int .i64 t228, .slice Ao143 t229.length co143] 82 (0, 0)) (by (with_reducible repeat (first|refine blk_drewN ?_ _|refine blk_drew ?_|refine blk_alloc ?_ _));refine blk_put (cs:=#[.int .i64 t227, .int .i64 t228, .slice none 0 0]) ?_ 2 _ rfl;(with_reducible repeat (first|refine blk_drewN ?_ _|refine blk_drew ?_|refine blk_alloc ?_ _));refine blk_put (cs:=#[.int .i64 t227, .int .i64 0, .slice none 0 0]) ?_ 1 _ rfl;(with_reducible repeat (first|refine blk_drewN ?_ _|refine blk_drew ?_|refine blk_alloc ?_ _));refine blk_put (cs:=#[.int .i64 0, .int .i64 0, .slice none 0 0]) ?_ 0 _ rfl;(with_reducible repeat (first|refine blk_drewN ?_ _|refine blk_drew ?_|refine blk_alloc ?_ _));exact BK233.out) hb);have n4_:=Aside0.mk (below_step (by repeat (first|(with_reducible first|exact HB.out|apply below_alloc|apply pw_below_drewN|apply below_drew1|refine below_set ?_ GE225.out|refine below_set ?_ GE233.out)|exact HB.out)) hb);clear HO231;clear BK225;clear BK233;clear HB;have HO231:=n0_;have HO238:=n1_;have BK225:=n2_;have BK233:=n3_;have HB:=n4_;clear n0_ n1_ n2_ n3_ n4_;(try clear hb);(try clear hb2);(try clear hk);(try clear hi);(try clear ho0))|((with_reducible refine gate_dst (N:=13) rfl ?_);(try (refine gate_guard (by rfl) ?_;dsimp only));refine box_event ?hg (N:=13) ?hd (cs:=#[.int .i64 0, .int .i64 0, .slice none 0 0]) (t:=82) ?hr ?_;(case hd=>rfl);(case hg=>rfl);(case hr=>first|(go_simp;done)|(go_simp;rfl));intro gb240 hg w146 hbox hb;have n0_:=Aside0.mk (Kd.R_below (by (with_reducible repeat (first|apply Kd.R_alloc|apply Kd.R_drewN|apply Kd.R_drew));exact HO231.out) hb);have n1_:=Aside0.mk (Kd.R_below (by (with_reducible repeat (first|apply Kd.R_alloc|apply Kd.R_drewN|apply Kd.R_drew));exact HO238.out) hb);have n2_:=Aside0.mk (blk_below (g:=gb225) (o:=.cells #[.int .i64 a0_0, .int .i64 a0_1, .slice A0_2 l0_2.length c0_2] 82 (0, 0)) (by (with_reducible repeat (first|refine blk_drewN ?_ _|refine blk_drew ?_|refine blk_alloc ?_ _));exact BK225.out) hb);have n3_:=Aside0.mk (blk_below (g:=gb233) (o:=.cells #[.int .i64 t227, .int .i64 t228, .slice Ao143 t229.length co143] 82 (0, 0)) (by (with_reducible repeat (first|refine blk_drewN ?_ _|refine blk_drew ?_|refine blk_alloc ?_ _));exact BK233.out) hb);have n4_:=Aside0.mk (below_step (by repeat (first|(with_reducible first|exact HB.out|apply below_alloc|apply pw_below_drewN|apply below_drew1|refine below_set ?_ GE225.out|refine below_set ?_ GE233.out)|exact HB.out)) hb);have n5_:=Aside0.mk (hbox);have n6_:=Aside0.mk ((by rw [hg];exact (below_size (by repeat (first|(with_reducible first|exact HB.out|apply below_alloc|apply pw_below_drewN|apply below_drew1|refine below_set ?_ GE225.out|refine below_set ?_ GE233.out)|exact HB.out))) : w.heap.size ≤ gb240));have n7_:=Aside0.mk ((by rw [hg];exact (below_size (by repeat (first|(with_reducible first|exact HB.out|apply below_alloc|apply pw_below_drewN|apply below_drew1|refine below_set ?_ GE225.out|refine below_set ?_ GE233.out)|exact HB.out))) : w.heap.size ≤ gb240));have n8_:=Aside0.mk ((by rw [hg];exact Nat.ne_of_lt (blk_lt (g:=gb225) (o:=.cells #[.int .i64 a0_0, .int .i64 a0_1, .slice A0_2 l0_2.length c0_2] 82 (0, 0)) (by (with_reducible repeat (first|refine blk_drewN ?_ _|refine blk_drew ?_|refine blk_alloc ?_ _));exact BK225.out)) : gb225 ≠ gb240));have n9_:=Aside0.mk ((by rw [hg];exact Nat.ne_of_gt (blk_lt (g:=gb225) (o:=.cells #[.int .i64 a0_0, .int .i64 a0_1, .slice A0_2 l0_2.length c0_2] 82 (0, 0)) (by (with_reducible repeat (first|refine blk_drewN ?_ _|refine blk_drew ?_|refine blk_alloc ?_ _));exact BK225.out)) : gb240 ≠ gb225));have n10_:=Aside0.mk ((by rw [hg];exact Nat.ne_of_lt (blk_lt (g:=gb233) (o:=.cells #[.int .i64 t227, .int .i64 t228, .slice Ao143 t229.length co143] 82 (0, 0)) (by (with_reducible repeat (first|refine blk_drewN ?_ _|refine blk_drew ?_|refine blk_alloc ?_ _));exact BK233.out)) : gb233 ≠ gb240));have n11_:=Aside0.mk ((by rw [hg];exact Nat.ne_of_gt (blk_lt (g:=gb233) (o:=.cells #[.int .i64 t227, .int .i64 t228, .slice Ao143 t229.length co143] 82 (0, 0)) (by (with_reducible repeat (first|refine blk_drewN ?_ _|refine blk_drew ?_|refine blk_alloc ?_ _));exact BK233.out)) : gb240 ≠ gb233));clear HO231;clear HO238;clear BK225;clear BK233;clear HB;have HO231:=n0_;have HO238:=n1_;have BK225:=n2_;have BK233:=n3_;have HB:=n4_;have BK240:=n5_;have GW240:=n6_;have GE240:=n7_;have NB225_240:=n8_;have NB240_225:=n9_;have NB233_240:=n10_;have NB240_233:=n11_;clear n0_ n1_ n2_ n3_ n4_ n5_ n6_ n7_ n8_ n9_ n10_ n11_;clear hb hbox hg;have hnb147:=NB240_225.out;have hnc147:=NB225_240.out;have hnb148:=NB240_233.out;have hnc148:=NB233_240.out;have hcz149_0 : w146.cell? ⟨gb240, 0, none⟩ = some (.int .i64 0):=(blk_cell BK240.out 0).trans rfl;have hcz149_1 : w146.cell? ⟨gb240, 1, none⟩ = some (.int .i64 0):=(blk_cell BK240.out 1).trans rfl;have hcz149_2 : w146.cell? ⟨gb240, 2, none⟩ = some (.slice none 0 0):=(blk_cell BK240.out 2).trans rfl;have hfz149_0:=blk_frozen BK240.out 0;have hfz149_1:=blk_frozen BK240.out 1;have hfz149_2:=blk_frozen BK240.out 2;obtain ⟨Ao150, co150, eo150⟩:=Kd.R_slice HO238.out;subst eo150;have hcz151_0 : w146.cell? ⟨gb225, 0, none⟩ = some (.int .i64 a0_0):=(blk_cell BK225.out 0).trans rfl;have hcz151_1 : w146.cell? ⟨gb225, 1, none⟩ = some (.int .i64 a0_1):=(blk_cell BK225.out 1).trans rfl;have hcz151_2 : w146.cell? ⟨gb225, 2, none⟩ = some (.slice A0_2 l0_2.length c0_2):=(blk_cell BK225.out 2).trans rfl;have hfz151_0:=blk_frozen BK225.out 0;have hfz151_1:=blk_frozen BK225.out 1;have hfz151_2:=blk_frozen BK225.out 2)|((with_reducible refine gate_callee (f:=34) rfl ?_);refine goesL_ (some 48) rfl rfl Try.func34 (by kernel_rfl) rfl #[.agg #[.int .i64 a0_0, .int .i64 a0_1, .slice A0_2 l0_2.length c0_2]] rfl (by (try simp only [List.map_toArray, List.map_cons, List.map_nil]);first|done|rfl|(simp only [List.length_drop, List.length_take];rfl)) ?_;(with_reducible refine (convexpl_Turn.calls k a0_0 a0_1 _ _ l0_2 t241 t242 t243 t246 _ ?side1 ?side2 A10.out).mono ?_);(case side1=>exact Kd.C_below HR0_2.out (by repeat (first|(with_reducible first|exact HB.out|apply below_alloc|apply pw_below_drewN|apply below_drew1|refine below_set ?_ GE225.out|refine below_set ?_ GE233.out|refine below_set ?_ GE240.out)|exact HB.out)));(case side2=>exact HC0_2.out);rintro e w152 ⟨v244, rfl, ho0, hb⟩;refine ⟨_, rfl, ?_⟩;have n0_:=Aside0.mk (Kd.R_elder' (by (with_reducible repeat (first|apply Kd.R_alloc|apply Kd.R_drewN|apply Kd.R_drew));exact (Kd.R_mono (Kd.R_far (p:=⟨gb240, 2, none⟩) (Kd.R_far (p:=⟨gb240, 1, none⟩) (Kd.R_far (p:=⟨gb240, 0, none⟩) (Kd.R_types HO231.out BK240.out (by decide)) (fun _ hk=>hk.2) (.int .i64 t234)) (fun _ hk=>hk.2) (.int .i64 t235)) (fun _ hk=>hk.2) (.slice Ao150 t236.length co150)) (fun _ h_=>h_.1))) (Kd.R_base ho0) hb);have n1_:=Aside0.mk (Kd.R_elder' (by (with_reducible repeat (first|apply Kd.R_alloc|apply Kd.R_drewN|apply Kd.R_drew));exact (Kd.R_mono (Kd.R_far (p:=⟨gb240, 2, none⟩) (Kd.R_far (p:=⟨gb240, 1, none⟩) (Kd.R_far (p:=⟨gb240, 0, none⟩) (Kd.R_types HO238.out BK240.out (by decide)) (fun _ hk=>hk.2) (.int .i64 t234)) (fun _ hk=>hk.2) (.int .i64 t235)) (fun _ hk=>hk.2) (.slice Ao150 t236.length co150)) (fun _ h_=>h_.1))) (Kd.R_base ho0) hb);have n2_:=Aside0.mk (Kd.R_lower (Kd.R_new' (Kd.R_new' ho0 (Kd.R_lt (by (with_reducible repeat (first|apply Kd.R_alloc|apply Kd.R_drewN|apply Kd.R_drew));exact (Kd.R_mono (Kd.R_far (p:=⟨gb240, 2, none⟩) (Kd.R_far (p:=⟨gb240, 1, none⟩) (Kd.R_far (p:=⟨gb240, 0, none⟩) (Kd.R_types HO231.out BK240.out (by decide)) (fun _ hk=>hk.2) (.int .i64 t234)) (fun _ hk=>hk.2) (.int .i64 t235)) (fun _ hk=>hk.2) (.slice Ao150 t236.length co150)) (fun _ h_=>h_.1))))) (Kd.R_lt (by (with_reducible repeat (first|apply Kd.R_alloc|apply Kd.R_drewN|apply Kd.R_drew));exact (Kd.R_mono (Kd.R_far (p:=⟨gb240, 2, none⟩) (Kd.R_far (p:=⟨gb240, 1, none⟩) (Kd.R_far (p:=⟨gb240, 0, none⟩) (Kd.R_types HO238.out BK240.out (by decide)) (fun _ hk=>hk.2) (.int .i64 t234)) (fun _ hk=>hk.2) (.int .i64 t235)) (fun _ hk=>hk.2) (.slice Ao150 t236.length co150)) (fun _ h_=>h_.1))))) (below_size (by repeat (first|(with_reducible first|exact HB.out|apply below_alloc|apply pw_below_drewN|apply below_drew1|refine below_set ?_ GE225.out|refine below_set ?_ GE233.out|refine below_set ?_ GE240.out)|exact HB.out))));have n3_:=Aside0.mk (blk_below (g:=gb225) (o:=.cells #[.int .i64 a0_0, .int .i64 a0_1, .slice A0_2 l0_2.length c0_2] 82 (0, 0)) (by (with_reducible repeat (first|refine blk_drewN ?_ _|refine blk_drew ?_|refine blk_alloc ?_ _));refine blk_far ?_ NB225_240.out _;(with_reducible repeat (first|refine blk_drewN ?_ _|refine blk_drew ?_|refine blk_alloc ?_ _));refine blk_far ?_ NB225_240.out _;(with_reducible repeat (first|refine blk_drewN ?_ _|refine blk_drew ?_|refine blk_alloc ?_ _));refine blk_far ?_ NB225_240.out _;(with_reducible repeat (first|refine blk_drewN ?_ _|refine blk_drew ?_|refine blk_alloc ?_ _));exact BK225.out) hb);have n4_:=Aside0.mk (blk_below (g:=gb233) (o:=.cells #[.int .i64 t227, .int .i64 t228, .slice Ao143 t229.length co143] 82 (0, 0)) (by (with_reducible repeat (first|refine blk_drewN ?_ _|refine blk_drew ?_|refine blk_alloc ?_ _));refine blk_far ?_ NB233_240.out _;(with_reducible repeat (first|refine blk_drewN ?_ _|refine blk_drew ?_|refine blk_alloc ?_ _));refine blk_far ?_ NB233_240.out _;(with_reducible repeat (first|refine blk_drewN ?_ _|refine blk_drew ?_|refine blk_alloc ?_ _));refine blk_far ?_ NB233_240.out _;(with_reducible repeat (first|refine blk_drewN ?_ _|refine blk_drew ?_|refine blk_alloc ?_ _));exact BK233.out) hb);have n5_:=Aside0.mk (blk_below (g:=gb240) (o:=.cells #[.int .i64 t234, .int .i64 t235, .slice Ao150 t236.length co150] 82 (0, 0)) (by (with_reducible repeat (first|refine blk_drewN ?_ _|refine blk_drew ?_|refine blk_alloc ?_ _));refine blk_put (cs:=#[.int .i64 t234, .int .i64 t235, .slice none 0 0]) ?_ 2 _ rfl;(with_reducible repeat (first|refine blk_drewN ?_ _|refine blk_drew ?_|refine blk_alloc ?_ _));refine blk_put (cs:=#[.int .i64 t234, .int .i64 0, .slice none 0 0]) ?_ 1 _ rfl;(with_reducible repeat (first|refine blk_drewN ?_ _|refine blk_drew ?_|refine blk_alloc ?_ _));refine blk_put (cs:=#[.int .i64 0, .int .i64 0, .slice none 0 0]) ?_ 0 _ rfl;(with_reducible repeat (first|refine blk_drewN ?_ _|refine blk_drew ?_|refine blk_alloc ?_ _));exact BK240.out) hb);have n6_:=Aside0.mk (below_step (by repeat (first|(with_reducible first|exact HB.out|apply below_alloc|apply pw_below_drewN|apply below_drew1|refine below_set ?_ GE225.out|refine below_set ?_ GE233.out|refine below_set ?_ GE240.out)|exact HB.out)) hb);clear HO231;clear HO238;clear BK225;clear BK233;clear BK240;clear HB;have HO231:=n0_;have HO238:=n1_;have HO245:=n2_;have BK225:=n3_;have BK233:=n4_;have BK240:=n5_;have HB:=n6_;clear n0_ n1_ n2_ n3_ n4_ n5_ n6_;(try clear hb);(try clear hb2);(try clear hk);(try clear hi);(try clear ho0))|((with_reducible refine gate_dst (N:=15) rfl ?_);(try (refine gate_guard (by rfl) ?_;dsimp only));refine box_event ?hg (N:=15) ?hd (cs:=#[.int .i64 0, .int .i64 0, .slice none 0 0]) (t:=82) ?hr ?_;(case hd=>rfl);(case hg=>rfl);(case hr=>first|(go_simp;done)|(go_simp;rfl));intro gb247 hg w153 hbox hb;have n0_:=Aside0.mk (Kd.R_below (by (with_reducible repeat (first|apply Kd.R_alloc|apply Kd.R_drewN|apply Kd.R_drew));exact HO231.out) hb);have n1_:=Aside0.mk (Kd.R_below (by (with_reducible repeat (first|apply Kd.R_alloc|apply Kd.R_drewN|apply Kd.R_drew));exact HO238.out) hb);have n2_:=Aside0.mk (Kd.R_below (by (with_reducible repeat (first|apply Kd.R_alloc|apply Kd.R_drewN|apply Kd.R_drew));exact HO245.out) hb);have n3_:=Aside0.mk (blk_below (g:=gb225) (o:=.cells #[.int .i64 a0_0, .int .i64 a0_1, .slice A0_2 l0_2.length c0_2] 82 (0, 0)) (by (with_reducible repeat (first|refine blk_drewN ?_ _|refine blk_drew ?_|refine blk_alloc ?_ _));exact BK225.out) hb);have n4_:=Aside0.mk (blk_below (g:=gb233) (o:=.cells #[.int .i64 t227, .int .i64 t228, .slice Ao143 t229.length co143] 82 (0, 0)) (by (with_reducible repeat (first|refine blk_drewN ?_ _|refine blk_drew ?_|refine blk_alloc ?_ _));exact BK233.out) hb);have n5_:=Aside0.mk (blk_below (g:=gb240) (o:=.cells #[.int .i64 t234, .int .i64 t235, .slice Ao150 t236.length co150] 82 (0, 0)) (by (with_reducible repeat (first|refine blk_drewN ?_ _|refine blk_drew ?_|refine blk_alloc ?_ _));exact BK240.out) hb);have n6_:=Aside0.mk (below_step (by repeat (first|(with_reducible first|exact HB.out|apply below_alloc|apply pw_below_drewN|apply below_drew1|refine below_set ?_ GE225.out|refine below_set ?_ GE233.out|refine below_set ?_ GE240.out)|exact HB.out)) hb);have n7_:=Aside0.mk (hbox);have n8_:=Aside0.mk ((by rw [hg];exact (below_size (by repeat (first|(with_reducible first|exact HB.out|apply below_alloc|apply pw_below_drewN|apply below_drew1|refine below_set ?_ GE225.out|refine below_set ?_ GE233.out|refine below_set ?_ GE240.out)|exact HB.out))) : w.heap.size ≤ gb247));have n9_:=Aside0.mk ((by rw [hg];exact (below_size (by repeat (first|(with_reducible first|exact HB.out|apply below_alloc|apply pw_below_drewN|apply below_drew1|refine below_set ?_ GE225.out|refine below_set ?_ GE233.out|refine below_set ?_ GE240.out)|exact HB.out))) : w.heap.size ≤ gb247));have n10_:=Aside0.mk ((by rw [hg];exact Nat.ne_of_lt (blk_lt (g:=gb225) (o:=.cells #[.int .i64 a0_0, .int .i64 a0_1, .slice A0_2 l0_2.length c0_2] 82 (0, 0)) (by (with_reducible repeat (first|refine blk_drewN ?_ _|refine blk_drew ?_|refine blk_alloc ?_ _));exact BK225.out)) : gb225 ≠ gb247));have n11_:=Aside0.mk ((by rw [hg];exact Nat.ne_of_gt (blk_lt (g:=gb225) (o:=.cells #[.int .i64 a0_0, .int .i64 a0_1, .slice A0_2 l0_2.length c0_2] 82 (0, 0)) (by (with_reducible repeat (first|refine blk_drewN ?_ _|refine blk_drew ?_|refine blk_alloc ?_ _));exact BK225.out)) : gb247 ≠ gb225));have n12_:=Aside0.mk ((by rw [hg];exact Nat.ne_of_lt (blk_lt (g:=gb233) (o:=.cells #[.int .i64 t227, .int .i64 t228, .slice Ao143 t229.length co143] 82 (0, 0)) (by (with_reducible repeat (first|refine blk_drewN ?_ _|refine blk_drew ?_|refine blk_alloc ?_ _));exact BK233.out)) : gb233 ≠ gb247));have n13_:=Aside0.mk ((by rw [hg];exact Nat.ne_of_gt (blk_lt (g:=gb233) (o:=.cells #[.int .i64 t227, .int .i64 t228, .slice Ao143 t229.length co143] 82 (0, 0)) (by (with_reducible repeat (first|refine blk_drewN ?_ _|refine blk_drew ?_|refine blk_alloc ?_ _));exact BK233.out)) : gb247 ≠ gb233));have n14_:=Aside0.mk ((by rw [hg];exact Nat.ne_of_lt (blk_lt (g:=gb240) (o:=.cells #[.int .i64 t234, .int .i64 t235, .slice Ao150 t236.length co150] 82 (0, 0)) (by (with_reducible repeat (first|refine blk_drewN ?_ _|refine blk_drew ?_|refine blk_alloc ?_ _));exact BK240.out)) : gb240 ≠ gb247));have n15_:=Aside0.mk ((by rw [hg];exact Nat.ne_of_gt (blk_lt (g:=gb240) (o:=.cells #[.int .i64 t234, .int .i64 t235, .slice Ao150 t236.length co150] 82 (0, 0)) (by (with_reducible repeat (first|refine blk_drewN ?_ _|refine blk_drew ?_|refine blk_alloc ?_ _));exact BK240.out)) : gb247 ≠ gb240));clear HO231;clear HO238;clear HO245;clear BK225;clear BK233;clear BK240;clear HB;have HO231:=n0_;have HO238:=n1_;have HO245:=n2_;have BK225:=n3_;have BK233:=n4_;have BK240:=n5_;have HB:=n6_;have BK247:=n7_;have GW247:=n8_;have GE247:=n9_;have NB225_247:=n10_;have NB247_225:=n11_;have NB233_247:=n12_;have NB247_233:=n13_;have NB240_247:=n14_;have NB247_240:=n15_;clear n0_ n1_ n2_ n3_ n4_ n5_ n6_ n7_ n8_ n9_ n10_ n11_ n12_ n13_ n14_ n15_;clear hb hbox hg;have hnb154:=NB247_225.out;have hnc154:=NB225_247.out;have hnb155:=NB247_233.out;have hnc155:=NB233_247.out;have hnb156:=NB247_240.out;have hnc156:=NB240_247.out;have hcz157_0 : w153.cell? ⟨gb247, 0, none⟩ = some (.int .i64 0):=(blk_cell BK247.out 0).trans rfl;have hcz157_1 : w153.cell? ⟨gb247, 1, none⟩ = some (.int .i64 0):=(blk_cell BK247.out 1).trans rfl;have hcz157_2 : w153.cell? ⟨gb247, 2, none⟩ = some (.slice none 0 0):=(blk_cell BK247.out 2).trans rfl;have hfz157_0:=blk_frozen BK247.out 0;have hfz157_1:=blk_frozen BK247.out 1;have hfz157_2:=blk_frozen BK247.out 2;obtain ⟨Ao158, co158, eo158⟩:=Kd.R_slice HO245.out;subst eo158;have hcz159_0 : w153.cell? ⟨gb225, 0, none⟩ = some (.int .i64 a0_0):=(blk_cell BK225.out 0).trans rfl;have hcz159_1 : w153.cell? ⟨gb225, 1, none⟩ = some (.int .i64 a0_1):=(blk_cell BK225.out 1).trans rfl;have hcz159_2 : w153.cell? ⟨gb225, 2, none⟩ = some (.slice A0_2 l0_2.length c0_2):=(blk_cell BK225.out 2).trans rfl;have hfz159_0:=blk_frozen BK225.out 0;have hfz159_1:=blk_frozen BK225.out 1;have hfz159_2:=blk_frozen BK225.out 2)|((with_reducible refine gate_callee (f:=35) rfl ?_);refine goesL_ (some 52) rfl rfl Try.func35 (by kernel_rfl) rfl #[.agg #[.int .i64 a0_0, .int .i64 a0_1, .slice A0_2 l0_2.length c0_2]] rfl (by (try simp only [List.map_toArray, List.map_cons, List.map_nil]);first|done|rfl|(simp only [List.length_drop, List.length_take];rfl)) ?_;(with_reducible refine (gridhallref3_ConvexError.calls k a0_0 a0_1 _ _ l0_2 t248 _ ?side1 ?side2 A11.out).mono ?_);(case side1=>exact Kd.C_below HR0_2.out (by repeat (first|(with_reducible first|exact HB.out|apply below_alloc|apply pw_below_drewN|apply below_drew1|refine below_set ?_ GE225.out|refine below_set ?_ GE233.out|refine below_set ?_ GE240.out|refine below_set ?_ GE247.out)|exact HB.out)));(case side2=>exact HC0_2.out);rintro e w160 ⟨rfl, hb⟩;refine ⟨_, rfl, ?_⟩;have n0_:=Aside0.mk (Kd.R_below (by (with_reducible repeat (first|apply Kd.R_alloc|apply Kd.R_drewN|apply Kd.R_drew));exact (Kd.R_mono (Kd.R_far (p:=⟨gb247, 2, none⟩) (Kd.R_far (p:=⟨gb247, 1, none⟩) (Kd.R_far (p:=⟨gb247, 0, none⟩) (Kd.R_types HO231.out BK247.out (by decide)) (fun _ hk=>hk.2) (.int .i64 t241)) (fun _ hk=>hk.2) (.int .i64 t242)) (fun _ hk=>hk.2) (.slice Ao158 t243.length co158)) (fun _ h_=>h_.1))) hb);have n1_:=Aside0.mk (Kd.R_below (by (with_reducible repeat (first|apply Kd.R_alloc|apply Kd.R_drewN|apply Kd.R_drew));exact (Kd.R_mono (Kd.R_far (p:=⟨gb247, 2, none⟩) (Kd.R_far (p:=⟨gb247, 1, none⟩) (Kd.R_far (p:=⟨gb247, 0, none⟩) (Kd.R_types HO238.out BK247.out (by decide)) (fun _ hk=>hk.2) (.int .i64 t241)) (fun _ hk=>hk.2) (.int .i64 t242)) (fun _ hk=>hk.2) (.slice Ao158 t243.length co158)) (fun _ h_=>h_.1))) hb);have n2_:=Aside0.mk (Kd.R_below (by (with_reducible repeat (first|apply Kd.R_alloc|apply Kd.R_drewN|apply Kd.R_drew));exact (Kd.R_mono (Kd.R_far (p:=⟨gb247, 2, none⟩) (Kd.R_far (p:=⟨gb247, 1, none⟩) (Kd.R_far (p:=⟨gb247, 0, none⟩) (Kd.R_types HO245.out BK247.out (by decide)) (fun _ hk=>hk.2) (.int .i64 t241)) (fun _ hk=>hk.2) (.int .i64 t242)) (fun _ hk=>hk.2) (.slice Ao158 t243.length co158)) (fun _ h_=>h_.1))) hb);have n3_:=Aside0.mk (blk_below (g:=gb225) (o:=.cells #[.int .i64 a0_0, .int .i64 a0_1, .slice A0_2 l0_2.length c0_2] 82 (0, 0)) (by (with_reducible repeat (first|refine blk_drewN ?_ _|refine blk_drew ?_|refine blk_alloc ?_ _));refine blk_far ?_ NB225_247.out _;(with_reducible repeat (first|refine blk_drewN ?_ _|refine blk_drew ?_|refine blk_alloc ?_ _));refine blk_far ?_ NB225_247.out _;(with_reducible repeat (first|refine blk_drewN ?_ _|refine blk_drew ?_|refine blk_alloc ?_ _));refine blk_far ?_ NB225_247.out _;(with_reducible repeat (first|refine blk_drewN ?_ _|refine blk_drew ?_|refine blk_alloc ?_ _));exact BK225.out) hb);have n4_:=Aside0.mk (blk_below (g:=gb233) (o:=.cells #[.int .i64 t227, .int .i64 t228, .slice Ao143 t229.length co143] 82 (0, 0)) (by (with_reducible repeat (first|refine blk_drewN ?_ _|refine blk_drew ?_|refine blk_alloc ?_ _));refine blk_far ?_ NB233_247.out _;(with_reducible repeat (first|refine blk_drewN ?_ _|refine blk_drew ?_|refine blk_alloc ?_ _));refine blk_far ?_ NB233_247.out _;(with_reducible repeat (first|refine blk_drewN ?_ _|refine blk_drew ?_|refine blk_alloc ?_ _));refine blk_far ?_ NB233_247.out _;(with_reducible repeat (first|refine blk_drewN ?_ _|refine blk_drew ?_|refine blk_alloc ?_ _));exact BK233.out) hb);have n5_:=Aside0.mk (blk_below (g:=gb240) (o:=.cells #[.int .i64 t234, .int .i64 t235, .slice Ao150 t236.length co150] 82 (0, 0)) (by (with_reducible repeat (first|refine blk_drewN ?_ _|refine blk_drew ?_|refine blk_alloc ?_ _));refine blk_far ?_ NB240_247.out _;(with_reducible repeat (first|refine blk_drewN ?_ _|refine blk_drew ?_|refine blk_alloc ?_ _));refine blk_far ?_ NB240_247.out _;(with_reducible repeat (first|refine blk_drewN ?_ _|refine blk_drew ?_|refine blk_alloc ?_ _));refine blk_far ?_ NB240_247.out _;(with_reducible repeat (first|refine blk_drewN ?_ _|refine blk_drew ?_|refine blk_alloc ?_ _));exact BK240.out) hb);have n6_:=Aside0.mk (blk_below (g:=gb247) (o:=.cells #[.int .i64 t241, .int .i64 t242, .slice Ao158 t243.length co158] 82 (0, 0)) (by (with_reducible repeat (first|refine blk_drewN ?_ _|refine blk_drew ?_|refine blk_alloc ?_ _));refine blk_put (cs:=#[.int .i64 t241, .int .i64 t242, .slice none 0 0]) ?_ 2 _ rfl;(with_reducible repeat (first|refine blk_drewN ?_ _|refine blk_drew ?_|refine blk_alloc ?_ _));refine blk_put (cs:=#[.int .i64 t241, .int .i64 0, .slice none 0 0]) ?_ 1 _ rfl;(with_reducible repeat (first|refine blk_drewN ?_ _|refine blk_drew ?_|refine blk_alloc ?_ _));refine blk_put (cs:=#[.int .i64 0, .int .i64 0, .slice none 0 0]) ?_ 0 _ rfl;(with_reducible repeat (first|refine blk_drewN ?_ _|refine blk_drew ?_|refine blk_alloc ?_ _));exact BK247.out) hb);have n7_:=Aside0.mk (below_step (by repeat (first|(with_reducible first|exact HB.out|apply below_alloc|apply pw_below_drewN|apply below_drew1|refine below_set ?_ GE225.out|refine below_set ?_ GE233.out|refine below_set ?_ GE240.out|refine below_set ?_ GE247.out)|exact HB.out)) hb);clear HO231;clear HO238;clear HO245;clear BK225;clear BK233;clear BK240;clear BK247;clear HB;have HO231:=n0_;have HO238:=n1_;have HO245:=n2_;have BK225:=n3_;have BK233:=n4_;have BK240:=n5_;have BK247:=n6_;have HB:=n7_;clear n0_ n1_ n2_ n3_ n4_ n5_ n6_ n7_;(try clear hb);(try clear hb2);(try clear hk);(try clear hi)))
    go_ret
   ·exact ⟨by first|rfl|(simp [errW_none, errW_some] <;> rfl)|(simp [*, errW_none, errW_some] <;> rfl), by repeat (first|(with_reducible first|exact HB.out|apply below_alloc|apply pw_below_drewN|apply below_drew1|refine below_set ?_ GE225.out|refine below_set ?_ GE233.out|refine below_set ?_ GE240.out|refine below_set ?_ GE247.out)|exact HB.out)⟩
   ·exact ⟨by first|rfl|(simp [errW_none, errW_some] <;> rfl)|(simp [*, errW_none, errW_some] <;> rfl), by repeat (first|(with_reducible first|exact HB.out|apply below_alloc|apply pw_below_drewN|apply below_drew1|refine below_set ?_ GE225.out|refine below_set ?_ GE233.out|refine below_set ?_ GE240.out|refine below_set ?_ GE247.out)|exact HB.out)⟩
   ·exact ⟨by first|rfl|(simp [errW_none, errW_some] <;> rfl)|(simp [*, errW_none, errW_some] <;> rfl), by repeat (first|(with_reducible first|exact HB.out|apply below_alloc|apply pw_below_drewN|apply below_drew1|refine below_set ?_ GE225.out|refine below_set ?_ GE233.out|refine below_set ?_ GE240.out|refine below_set ?_ GE247.out)|exact HB.out)⟩
 ·replace c7:=Bool.eq_false_iff.mpr c7
  subst c7
  have H1 : (some false) = some r:=by rw [if_neg (show ¬ (false = true) by decide)] at H;exact H
  clear H
  have H:=H1
  clear H1
  obtain rfl:=Option.some.inj H
  go_enter Try.func6, Try.ntmps6
  go_wp2_with (first|((with_reducible refine gate_dst (N:=5) rfl ?_);(try (refine gate_guard (by rfl) ?_;dsimp only));refine box_event ?hg (N:=5) ?hd (cs:=#[.int .i64 a0_0, .int .i64 a0_1, .slice A0_2 l0_2.length c0_2]) (t:=82) ?hr ?_;(case hd=>rfl);(case hg=>rfl);(case hr=>first|(go_simp;done)|(go_simp;rfl));intro gb225 hg w211 hbox hb;have n0_:=Aside0.mk (below_step (by repeat (first|(with_reducible first|exact HB.out|apply below_alloc|apply pw_below_drewN|apply below_drew1)|exact HB.out)) hb);have n1_:=Aside0.mk (hbox);have n2_:=Aside0.mk ((by rw [hg];exact (below_size (by repeat (first|(with_reducible first|exact HB.out|apply below_alloc|apply pw_below_drewN|apply below_drew1)|exact HB.out))) : w.heap.size ≤ gb225));have n3_:=Aside0.mk ((by rw [hg];exact (below_size (by repeat (first|(with_reducible first|exact HB.out|apply below_alloc|apply pw_below_drewN|apply below_drew1)|exact HB.out))) : w.heap.size ≤ gb225));clear HB;have HB:=n0_;have BK225:=n1_;have GW225:=n2_;have GE225:=n3_;clear n0_ n1_ n2_ n3_;clear hb hbox hg)|((with_reducible refine gate_callee (f:=31) rfl ?_);refine goesL_ (some 30) rfl rfl Try.func31 (by kernel_rfl) rfl #[] rfl (by (try simp only [List.map_toArray, List.map_cons, List.map_nil]);first|done|rfl|(simp only [List.length_drop, List.length_take];rfl)) ?_;(with_reducible refine (gridhalllaw3_slopes.calls k  false _ A6.out).mono ?_);rintro e w212 ⟨rfl, hb⟩;refine ⟨_, rfl, ?_⟩;have n0_:=Aside0.mk (blk_below (g:=gb225) (o:=.cells #[.int .i64 a0_0, .int .i64 a0_1, .slice A0_2 l0_2.length c0_2] 82 (0, 0)) (by (with_reducible repeat (first|refine blk_drewN ?_ _|refine blk_drew ?_|refine blk_alloc ?_ _));exact BK225.out) hb);have n1_:=Aside0.mk (below_step (by repeat (first|(with_reducible first|exact HB.out|apply below_alloc|apply pw_below_drewN|apply below_drew1|refine below_set ?_ GE225.out)|exact HB.out)) hb);clear BK225;clear HB;have BK225:=n0_;have HB:=n1_;clear n0_ n1_;(try clear hb);(try clear hb2);(try clear hk);(try clear hi)))
  go_ret
  exact ⟨by first|rfl|(simp [errW_none, errW_some] <;> rfl)|(simp [*, errW_none, errW_some] <;> rfl), by repeat (first|(with_reducible first|exact HB.out|apply below_alloc|apply pw_below_drewN|apply below_drew1|refine below_set ?_ GE225.out)|exact HB.out)⟩
end Go.Proofs.Ytdgjelbkogfedaa.PConvexMoves
