-- PRINTED BY print.sh 35421559b90ae4d0a3588c463048766b98c2df88dd9212a6774a882060cdf62d: not written by this session
import Derived.Test.YtdhboohbifmbnaaPOfferCostsx0
import Derived.Test.YtdhboohbifmbnaaPOfferCostsx2
import Derived.Test.YtdhboohbifmbnaaPOfferCostsx3
import Derived.Test.YtdhboohbifmbnaaPOfferCostsx4
import Derived.Test.YtdhboohbifmbnaaPOfferCostsx5
namespace Go.Proofs.Ytdhboohbifmbnaa.POfferCosts
open Go.RowKit Go.Proofs.YtdhboohbifmbnaaW.PrintWords Go.Proofs.YtdhboohbifmbnaaW.PrintLast Go.Proofs.YtdhboohbifmbnaaW.PrintMore
attribute [local go_sem] max2_int min2_int max_two min_two max_three min_three max_four min_four   -- for this text's walks alone
set_option linter.unusedVariables false
set_option linter.unusedSimpArgs false

/-! ### gridhalllaw3_OfferCosts: function 4 -/
mutual
def gridhalllaw3_OfferCosts.j0 : Nat → Int → Int → Int → Int → Int → Int → Int → Int → Bool → ByteArray → List (S61) → Option (Bool)
  | 0, _, _, _, _, _, _, _, _, _, _, _ => none
  | k + 1, x1, x5, x6, x8, x9, x10, x11, x12, x44, x161000, x161001 => if x44 = true then (some false) else (if x5 = 0 then ((gridhallref3_All.f k x161000 x161001).bind fun t171 => (gridhalllaw3_OfferCosts.j1 k x1 x5 x8 x9 x10 x11 x12 (x6 != t171) x161000 x161001)) else (gridhalllaw3_OfferCosts.j1 k x1 x5 x8 x9 x10 x11 x12 false x161000 x161001))
def gridhalllaw3_OfferCosts.j1 : Nat → Int → Int → Int → Int → Int → Int → Int → Bool → ByteArray → List (S61) → Option (Bool)
  | 0, _, _, _, _, _, _, _, _, _, _ => none
  | k + 1, x1, x5, x8, x9, x10, x11, x12, x52, x161000, x161001 => if x52 = true then (some false) else (if x5 = 0 then ((gridhallref3_All.f k x161000 x161001).bind fun t172 => ((gridhallref3_In.f x1 0 t172).bind fun t173 => (gridhalllaw3_OfferCosts.j2 k x1 x5 x8 x9 x10 x11 x12 (!t173) x161000 x161001))) else (gridhalllaw3_OfferCosts.j2 k x1 x5 x8 x9 x10 x11 x12 false x161000 x161001))
def gridhalllaw3_OfferCosts.j2 : Nat → Int → Int → Int → Int → Int → Int → Int → Bool → ByteArray → List (S61) → Option (Bool)
  | 0, _, _, _, _, _, _, _, _, _, _ => none
  | k + 1, x1, x5, x8, x9, x10, x11, x12, x61, x161000, x161001 => if x61 = true then (gridhalllaw3_OfferCosts.j3 k x1 4 x8 x9 x10 x11 x12 x161000 x161001) else (gridhalllaw3_OfferCosts.j3 k x1 x5 x8 x9 x10 x11 x12 x161000 x161001)
def gridhalllaw3_OfferCosts.j3 : Nat → Int → Int → Int → Int → Int → Int → Int → ByteArray → List (S61) → Option (Bool)
  | 0, _, _, _, _, _, _, _, _, _ => none
  | k + 1, x1, x5, x8, x9, x10, x11, x12, x161000, x161001 => if x5 = 0 then (if x1 > 0 then ((gridhallref3_Unit.f k x161000 x161001 (wrap64 (x1 - 1))).bind fun t174 => (if x9 = 0 then (if x12 = 0 then ((gridhallref3_Cost.f k x161000 x161001 x1).bind fun t175 => (if x8 = t175 then (if x10 = t174 then ((gridhallref3_Unit.f k x161000 x161001 x1).bind fun t176 => (some (x11 == t176))) else (some false)) else (some false))) else (some false)) else (some false))) else (if x9 = 0 then (if x12 = 0 then ((gridhallref3_Cost.f k x161000 x161001 x1).bind fun t177 => (if x8 = t177 then (if x10 = (-2000000) then ((gridhallref3_Unit.f k x161000 x161001 x1).bind fun t178 => (some (x11 == t178))) else (some false)) else (some false))) else (some false)) else (some false))) else (if x9 = x5 then (if x12 = x5 then (if x8 = 0 then (if x10 = 0 then (some (x11 == 0)) else (some false)) else (some false)) else (some false)) else (some false))
end
def gridhalllaw3_OfferCosts.f (k : Nat) (a0_0 : ByteArray) (l0_1 : List (S61)) (a1 : Int) : Option (Bool) := (gridhalllaw3_costs.f k).bind fun t161 => (if t161 = true then ((gridhallref3_OfferError.f k a0_0 l0_1).bind fun t162 => ((offer_Total.f k a0_0 l0_1).bind fun bt163 => ((offer_Cost.f k a0_0 l0_1 a1).bind fun bt165 => ((offer_Marginal.f k a0_0 l0_1 a1).bind fun bt167 => ((offer_Check.f k a0_0 l0_1).bind fun t170 => (if t170 = t162 then (gridhalllaw3_OfferCosts.j0 k a1 t162 bt163.1 bt165.1 bt165.2 bt167.1 bt167.2.1 bt167.2.2 (bt163.2 != t162) a0_0 l0_1) else (gridhalllaw3_OfferCosts.j0 k a1 t162 bt163.1 bt165.1 bt165.2 bt167.1 bt167.2.1 bt167.2.2 true a0_0 l0_1))))))) else (some false))
theorem gridhalllaw3_OfferCosts.mono_l : ∀ k, (∀ y0 y1 y2 y3 y4 y5 y6 y7 y8 y9 y10, LeO (gridhalllaw3_OfferCosts.j0 k y0 y1 y2 y3 y4 y5 y6 y7 y8 y9 y10) (gridhalllaw3_OfferCosts.j0 (k + 1) y0 y1 y2 y3 y4 y5 y6 y7 y8 y9 y10)) ∧ (∀ y0 y1 y2 y3 y4 y5 y6 y7 y8 y9, LeO (gridhalllaw3_OfferCosts.j1 k y0 y1 y2 y3 y4 y5 y6 y7 y8 y9) (gridhalllaw3_OfferCosts.j1 (k + 1) y0 y1 y2 y3 y4 y5 y6 y7 y8 y9)) ∧ (∀ y0 y1 y2 y3 y4 y5 y6 y7 y8 y9, LeO (gridhalllaw3_OfferCosts.j2 k y0 y1 y2 y3 y4 y5 y6 y7 y8 y9) (gridhalllaw3_OfferCosts.j2 (k + 1) y0 y1 y2 y3 y4 y5 y6 y7 y8 y9)) ∧ (∀ y0 y1 y2 y3 y4 y5 y6 y7 y8, LeO (gridhalllaw3_OfferCosts.j3 k y0 y1 y2 y3 y4 y5 y6 y7 y8) (gridhalllaw3_OfferCosts.j3 (k + 1) y0 y1 y2 y3 y4 y5 y6 y7 y8))
  | 0 => ⟨fun _ _ _ _ _ _ _ _ _ _ _ r h => by simp [gridhalllaw3_OfferCosts.j0] at h, fun _ _ _ _ _ _ _ _ _ _ r h => by simp [gridhalllaw3_OfferCosts.j1] at h, fun _ _ _ _ _ _ _ _ _ _ r h => by simp [gridhalllaw3_OfferCosts.j2] at h, fun _ _ _ _ _ _ _ _ _ r h => by simp [gridhalllaw3_OfferCosts.j3] at h⟩
  | k + 1 => by
    obtain ⟨ih0, ih1, ih2, ih3⟩ := gridhalllaw3_OfferCosts.mono_l k
    refine ⟨?_, ?_, ?_, ?_⟩
    · intro y0 y1 y2 y3 y4 y5 y6 y7 y8 y9 y10
      unfold gridhalllaw3_OfferCosts.j0
      repeat' first
      | (with_reducible exact ih0 _ _ _ _ _ _ _ _ _ _ _)
      | (with_reducible exact ih1 _ _ _ _ _ _ _ _ _ _)
      | (with_reducible exact ih2 _ _ _ _ _ _ _ _ _ _)
      | (with_reducible exact ih3 _ _ _ _ _ _ _ _ _)
      | (with_reducible exact gridhalllaw3_costs.mono _)
      | (with_reducible exact gridhallref3_All.mono _ _ _)
      | (with_reducible exact gridhallref3_Cost.mono _ _ _ _)
      | (with_reducible exact gridhallref3_OfferError.mono _ _ _)
      | (with_reducible exact gridhallref3_Unit.mono _ _ _ _)
      | (with_reducible exact offer_Check.mono _ _ _)
      | (with_reducible exact offer_Cost.mono _ _ _ _)
      | (with_reducible exact offer_Marginal.mono _ _ _ _)
      | (with_reducible exact offer_Total.mono _ _ _)
      | (with_reducible exact LeO.refl _)
      | (with_reducible exact LeO.none _)
      | (with_reducible refine LeO.ite ?_ ?_)
      | (with_reducible refine LeO.bind ?_ (fun _ => ?_))
      | exact ih0 _ _ _ _ _ _ _ _ _ _ _
      | exact ih1 _ _ _ _ _ _ _ _ _ _
      | exact ih2 _ _ _ _ _ _ _ _ _ _
      | exact ih3 _ _ _ _ _ _ _ _ _
      | exact gridhalllaw3_costs.mono _
      | exact gridhallref3_All.mono _ _ _
      | exact gridhallref3_Cost.mono _ _ _ _
      | exact gridhallref3_OfferError.mono _ _ _
      | exact gridhallref3_Unit.mono _ _ _ _
      | exact offer_Check.mono _ _ _
      | exact offer_Cost.mono _ _ _ _
      | exact offer_Marginal.mono _ _ _ _
      | exact offer_Total.mono _ _ _
      | exact LeO.none _
      | refine LeO.ite ?_ ?_
      | refine LeO.bind ?_ (fun _ => ?_)
    · intro y0 y1 y2 y3 y4 y5 y6 y7 y8 y9
      unfold gridhalllaw3_OfferCosts.j1
      repeat' first
      | (with_reducible exact ih0 _ _ _ _ _ _ _ _ _ _ _)
      | (with_reducible exact ih1 _ _ _ _ _ _ _ _ _ _)
      | (with_reducible exact ih2 _ _ _ _ _ _ _ _ _ _)
      | (with_reducible exact ih3 _ _ _ _ _ _ _ _ _)
      | (with_reducible exact gridhalllaw3_costs.mono _)
      | (with_reducible exact gridhallref3_All.mono _ _ _)
      | (with_reducible exact gridhallref3_Cost.mono _ _ _ _)
      | (with_reducible exact gridhallref3_OfferError.mono _ _ _)
      | (with_reducible exact gridhallref3_Unit.mono _ _ _ _)
      | (with_reducible exact offer_Check.mono _ _ _)
      | (with_reducible exact offer_Cost.mono _ _ _ _)
      | (with_reducible exact offer_Marginal.mono _ _ _ _)
      | (with_reducible exact offer_Total.mono _ _ _)
      | (with_reducible exact LeO.refl _)
      | (with_reducible exact LeO.none _)
      | (with_reducible refine LeO.ite ?_ ?_)
      | (with_reducible refine LeO.bind ?_ (fun _ => ?_))
      | exact ih0 _ _ _ _ _ _ _ _ _ _ _
      | exact ih1 _ _ _ _ _ _ _ _ _ _
      | exact ih2 _ _ _ _ _ _ _ _ _ _
      | exact ih3 _ _ _ _ _ _ _ _ _
      | exact gridhalllaw3_costs.mono _
      | exact gridhallref3_All.mono _ _ _
      | exact gridhallref3_Cost.mono _ _ _ _
      | exact gridhallref3_OfferError.mono _ _ _
      | exact gridhallref3_Unit.mono _ _ _ _
      | exact offer_Check.mono _ _ _
      | exact offer_Cost.mono _ _ _ _
      | exact offer_Marginal.mono _ _ _ _
      | exact offer_Total.mono _ _ _
      | exact LeO.none _
      | refine LeO.ite ?_ ?_
      | refine LeO.bind ?_ (fun _ => ?_)
    · intro y0 y1 y2 y3 y4 y5 y6 y7 y8 y9
      unfold gridhalllaw3_OfferCosts.j2
      repeat' first
      | (with_reducible exact ih0 _ _ _ _ _ _ _ _ _ _ _)
      | (with_reducible exact ih1 _ _ _ _ _ _ _ _ _ _)
      | (with_reducible exact ih2 _ _ _ _ _ _ _ _ _ _)
      | (with_reducible exact ih3 _ _ _ _ _ _ _ _ _)
      | (with_reducible exact gridhalllaw3_costs.mono _)
      | (with_reducible exact gridhallref3_All.mono _ _ _)
      | (with_reducible exact gridhallref3_Cost.mono _ _ _ _)
      | (with_reducible exact gridhallref3_OfferError.mono _ _ _)
      | (with_reducible exact gridhallref3_Unit.mono _ _ _ _)
      | (with_reducible exact offer_Check.mono _ _ _)
      | (with_reducible exact offer_Cost.mono _ _ _ _)
      | (with_reducible exact offer_Marginal.mono _ _ _ _)
      | (with_reducible exact offer_Total.mono _ _ _)
      | (with_reducible exact LeO.refl _)
      | (with_reducible exact LeO.none _)
      | (with_reducible refine LeO.ite ?_ ?_)
      | (with_reducible refine LeO.bind ?_ (fun _ => ?_))
      | exact ih0 _ _ _ _ _ _ _ _ _ _ _
      | exact ih1 _ _ _ _ _ _ _ _ _ _
      | exact ih2 _ _ _ _ _ _ _ _ _ _
      | exact ih3 _ _ _ _ _ _ _ _ _
      | exact gridhalllaw3_costs.mono _
      | exact gridhallref3_All.mono _ _ _
      | exact gridhallref3_Cost.mono _ _ _ _
      | exact gridhallref3_OfferError.mono _ _ _
      | exact gridhallref3_Unit.mono _ _ _ _
      | exact offer_Check.mono _ _ _
      | exact offer_Cost.mono _ _ _ _
      | exact offer_Marginal.mono _ _ _ _
      | exact offer_Total.mono _ _ _
      | exact LeO.none _
      | refine LeO.ite ?_ ?_
      | refine LeO.bind ?_ (fun _ => ?_)
    · intro y0 y1 y2 y3 y4 y5 y6 y7 y8
      unfold gridhalllaw3_OfferCosts.j3
      repeat' first
      | (with_reducible exact ih0 _ _ _ _ _ _ _ _ _ _ _)
      | (with_reducible exact ih1 _ _ _ _ _ _ _ _ _ _)
      | (with_reducible exact ih2 _ _ _ _ _ _ _ _ _ _)
      | (with_reducible exact ih3 _ _ _ _ _ _ _ _ _)
      | (with_reducible exact gridhalllaw3_costs.mono _)
      | (with_reducible exact gridhallref3_All.mono _ _ _)
      | (with_reducible exact gridhallref3_Cost.mono _ _ _ _)
      | (with_reducible exact gridhallref3_OfferError.mono _ _ _)
      | (with_reducible exact gridhallref3_Unit.mono _ _ _ _)
      | (with_reducible exact offer_Check.mono _ _ _)
      | (with_reducible exact offer_Cost.mono _ _ _ _)
      | (with_reducible exact offer_Marginal.mono _ _ _ _)
      | (with_reducible exact offer_Total.mono _ _ _)
      | (with_reducible exact LeO.refl _)
      | (with_reducible exact LeO.none _)
      | (with_reducible refine LeO.ite ?_ ?_)
      | (with_reducible refine LeO.bind ?_ (fun _ => ?_))
      | exact ih0 _ _ _ _ _ _ _ _ _ _ _
      | exact ih1 _ _ _ _ _ _ _ _ _ _
      | exact ih2 _ _ _ _ _ _ _ _ _ _
      | exact ih3 _ _ _ _ _ _ _ _ _
      | exact gridhalllaw3_costs.mono _
      | exact gridhallref3_All.mono _ _ _
      | exact gridhallref3_Cost.mono _ _ _ _
      | exact gridhallref3_OfferError.mono _ _ _
      | exact gridhallref3_Unit.mono _ _ _ _
      | exact offer_Check.mono _ _ _
      | exact offer_Cost.mono _ _ _ _
      | exact offer_Marginal.mono _ _ _ _
      | exact offer_Total.mono _ _ _
      | exact LeO.none _
      | refine LeO.ite ?_ ?_
      | refine LeO.bind ?_ (fun _ => ?_)
theorem gridhalllaw3_OfferCosts.mono : ∀ a0 a1 a2 k, LeO (gridhalllaw3_OfferCosts.f k a0 a1 a2) (gridhalllaw3_OfferCosts.f (k + 1) a0 a1 a2) := by
  intro a0 a1 a2 k
  obtain ⟨ih0, ih1, ih2, ih3⟩ := gridhalllaw3_OfferCosts.mono_l k
  unfold gridhalllaw3_OfferCosts.f
  repeat' first
      | (with_reducible exact ih0 _ _ _ _ _ _ _ _ _ _ _)
      | (with_reducible exact ih1 _ _ _ _ _ _ _ _ _ _)
      | (with_reducible exact ih2 _ _ _ _ _ _ _ _ _ _)
      | (with_reducible exact ih3 _ _ _ _ _ _ _ _ _)
      | (with_reducible exact gridhalllaw3_costs.mono _)
      | (with_reducible exact gridhallref3_All.mono _ _ _)
      | (with_reducible exact gridhallref3_Cost.mono _ _ _ _)
      | (with_reducible exact gridhallref3_OfferError.mono _ _ _)
      | (with_reducible exact gridhallref3_Unit.mono _ _ _ _)
      | (with_reducible exact offer_Check.mono _ _ _)
      | (with_reducible exact offer_Cost.mono _ _ _ _)
      | (with_reducible exact offer_Marginal.mono _ _ _ _)
      | (with_reducible exact offer_Total.mono _ _ _)
      | (with_reducible exact LeO.refl _)
      | (with_reducible exact LeO.none _)
      | (with_reducible refine LeO.ite ?_ ?_)
      | (with_reducible refine LeO.bind ?_ (fun _ => ?_))
      | exact ih0 _ _ _ _ _ _ _ _ _ _ _
      | exact ih1 _ _ _ _ _ _ _ _ _ _
      | exact ih2 _ _ _ _ _ _ _ _ _ _
      | exact ih3 _ _ _ _ _ _ _ _ _
      | exact gridhalllaw3_costs.mono _
      | exact gridhallref3_All.mono _ _ _
      | exact gridhallref3_Cost.mono _ _ _ _
      | exact gridhallref3_OfferError.mono _ _ _
      | exact gridhallref3_Unit.mono _ _ _ _
      | exact offer_Check.mono _ _ _
      | exact offer_Cost.mono _ _ _ _
      | exact offer_Marginal.mono _ _ _ _
      | exact offer_Total.mono _ _ _
      | exact LeO.none _
      | refine LeO.ite ?_ ?_
      | refine LeO.bind ?_ (fun _ => ?_)
set_option maxHeartbeats 8000000 in
set_option maxRecDepth 100000 in
theorem gridhalllaw3_OfferCosts.calls (k : Nat) (a0_0 : ByteArray) (A0_1 : Option Addr) (c0_1 : Nat) (l0_1 : List (S61)) (a1 : Int) (r : Bool) (w : World) (hr0_1 : Kd.C k61 w A0_1 l0_1.length l0_1) (hc0_1 : l0_1.length ≤ c0_1) (h : gridhalllaw3_OfferCosts.f k a0_0 l0_1 a1 = some r) :
    Calls Try.prog 4 #[.agg #[.string a0_0, .slice A0_1 l0_1.length c0_1], .int .i64 a1] w fun e w' => e = .returned (.bool r) ∧ Below w.heap.size w w' := by
  have hu27 := Try.underlying27
  have HR0_1 := Aside0.mk hr0_1
  have HC0_1 := Aside0.mk hc0_1
  clear hr0_1 hc0_1
  have HB := Aside0.mk (Below.refl w.heap.size w)
  have H : ((gridhalllaw3_costs.f k).bind fun t161 => (if t161 = true then ((gridhallref3_OfferError.f k a0_0 l0_1).bind fun t162 => ((offer_Total.f k a0_0 l0_1).bind fun bt163 => ((offer_Cost.f k a0_0 l0_1 a1).bind fun bt165 => ((offer_Marginal.f k a0_0 l0_1 a1).bind fun bt167 => ((offer_Check.f k a0_0 l0_1).bind fun t170 => (if t170 = t162 then (gridhalllaw3_OfferCosts.j0 k a1 t162 bt163.1 bt165.1 bt165.2 bt167.1 bt167.2.1 bt167.2.2 (bt163.2 != t162) a0_0 l0_1) else (gridhalllaw3_OfferCosts.j0 k a1 t162 bt163.1 bt165.1 bt165.2 bt167.1 bt167.2.1 bt167.2.2 true a0_0 l0_1))))))) else (some false))) = some r := h
  clear h
  replace H := Option.bind_eq_some_iff.mp H
  obtain ⟨t161, A30, H⟩ := H
  replace H : (if t161 = true then ((gridhallref3_OfferError.f k a0_0 l0_1).bind fun t162 => ((offer_Total.f k a0_0 l0_1).bind fun bt163 => ((offer_Cost.f k a0_0 l0_1 a1).bind fun bt165 => ((offer_Marginal.f k a0_0 l0_1 a1).bind fun bt167 => ((offer_Check.f k a0_0 l0_1).bind fun t170 => (if t170 = t162 then (gridhalllaw3_OfferCosts.j0 k a1 t162 bt163.1 bt165.1 bt165.2 bt167.1 bt167.2.1 bt167.2.2 (bt163.2 != t162) a0_0 l0_1) else (gridhalllaw3_OfferCosts.j0 k a1 t162 bt163.1 bt165.1 bt165.2 bt167.1 bt167.2.1 bt167.2.2 true a0_0 l0_1))))))) else (some false)) = some r := H
  have A3 := Aside0.mk A30
  clear A30
  by_cases c4 : t161 = true
  · subst c4
    have H1 : ((gridhallref3_OfferError.f k a0_0 l0_1).bind fun t162 => ((offer_Total.f k a0_0 l0_1).bind fun bt163 => ((offer_Cost.f k a0_0 l0_1 a1).bind fun bt165 => ((offer_Marginal.f k a0_0 l0_1 a1).bind fun bt167 => ((offer_Check.f k a0_0 l0_1).bind fun t170 => (if t170 = t162 then (gridhalllaw3_OfferCosts.j0 k a1 t162 bt163.1 bt165.1 bt165.2 bt167.1 bt167.2.1 bt167.2.2 (bt163.2 != t162) a0_0 l0_1) else (gridhalllaw3_OfferCosts.j0 k a1 t162 bt163.1 bt165.1 bt165.2 bt167.1 bt167.2.1 bt167.2.2 true a0_0 l0_1))))))) = some r := by rw [if_pos rfl] at H; exact H
    clear H
    have H := H1
    clear H1
    replace H := Option.bind_eq_some_iff.mp H
    obtain ⟨t162, A50, H⟩ := H
    replace H : ((offer_Total.f k a0_0 l0_1).bind fun bt163 => ((offer_Cost.f k a0_0 l0_1 a1).bind fun bt165 => ((offer_Marginal.f k a0_0 l0_1 a1).bind fun bt167 => ((offer_Check.f k a0_0 l0_1).bind fun t170 => (if t170 = t162 then (gridhalllaw3_OfferCosts.j0 k a1 t162 bt163.1 bt165.1 bt165.2 bt167.1 bt167.2.1 bt167.2.2 (bt163.2 != t162) a0_0 l0_1) else (gridhalllaw3_OfferCosts.j0 k a1 t162 bt163.1 bt165.1 bt165.2 bt167.1 bt167.2.1 bt167.2.2 true a0_0 l0_1)))))) = some r := H
    have A5 := Aside0.mk A50
    clear A50
    replace H := Option.bind_eq_some_iff.mp H
    obtain ⟨⟨t163, t164⟩, A60, H⟩ := H
    replace H : ((offer_Cost.f k a0_0 l0_1 a1).bind fun bt165 => ((offer_Marginal.f k a0_0 l0_1 a1).bind fun bt167 => ((offer_Check.f k a0_0 l0_1).bind fun t170 => (if t170 = t162 then (gridhalllaw3_OfferCosts.j0 k a1 t162 t163 bt165.1 bt165.2 bt167.1 bt167.2.1 bt167.2.2 (t164 != t162) a0_0 l0_1) else (gridhalllaw3_OfferCosts.j0 k a1 t162 t163 bt165.1 bt165.2 bt167.1 bt167.2.1 bt167.2.2 true a0_0 l0_1))))) = some r := H
    have A6 := Aside0.mk A60
    clear A60
    replace H := Option.bind_eq_some_iff.mp H
    obtain ⟨⟨t165, t166⟩, A70, H⟩ := H
    replace H : ((offer_Marginal.f k a0_0 l0_1 a1).bind fun bt167 => ((offer_Check.f k a0_0 l0_1).bind fun t170 => (if t170 = t162 then (gridhalllaw3_OfferCosts.j0 k a1 t162 t163 t165 t166 bt167.1 bt167.2.1 bt167.2.2 (t164 != t162) a0_0 l0_1) else (gridhalllaw3_OfferCosts.j0 k a1 t162 t163 t165 t166 bt167.1 bt167.2.1 bt167.2.2 true a0_0 l0_1)))) = some r := H
    have A7 := Aside0.mk A70
    clear A70
    replace H := Option.bind_eq_some_iff.mp H
    obtain ⟨⟨t167, t168, t169⟩, A80, H⟩ := H
    replace H : ((offer_Check.f k a0_0 l0_1).bind fun t170 => (if t170 = t162 then (gridhalllaw3_OfferCosts.j0 k a1 t162 t163 t165 t166 t167 t168 t169 (t164 != t162) a0_0 l0_1) else (gridhalllaw3_OfferCosts.j0 k a1 t162 t163 t165 t166 t167 t168 t169 true a0_0 l0_1))) = some r := H
    have A8 := Aside0.mk A80
    clear A80
    have HC9 := Aside0.mk H
    clear H
    go_enter Try.func4, Try.ntmps4
    go_upto_region 7 with (first | ((with_reducible refine gate_dst (N := 2) rfl ?_); refine box_event ?hg (N := 2) ?hd (cs := #[.string a0_0, .slice A0_1 l0_1.length c0_1]) (t := 27) ?hr ?_; (case hd => rfl); (case hg => rfl); (case hr => first | (go_simp; done) | (go_simp; rfl)); intro gb160 hg w10 hbox hb; have n0_ := Aside0.mk (below_step (by repeat (first | (with_reducible first | exact HB.out | apply below_alloc | apply pw_below_drewN | apply below_drew1) | exact HB.out)) hb); have n1_ := Aside0.mk (hbox); have n2_ := Aside0.mk ((by rw [hg]; exact (below_size (by repeat (first | (with_reducible first | exact HB.out | apply below_alloc | apply pw_below_drewN | apply below_drew1) | exact HB.out))) : w.heap.size ≤ gb160)); have n3_ := Aside0.mk ((by rw [hg]; exact (below_size (by repeat (first | (with_reducible first | exact HB.out | apply below_alloc | apply pw_below_drewN | apply below_drew1) | exact HB.out))) : w.heap.size ≤ gb160)); clear HB; have HB := n0_; have BK160 := n1_; have GW160 := n2_; have GE160 := n3_; clear n0_ n1_ n2_ n3_; clear hb hbox hg) | ((with_reducible refine gate_callee (f := 11) rfl ?_); refine goesL_ (some 14) rfl rfl Try.func11 (by kernel_rfl) rfl #[] rfl (by (try simp only [List.map_toArray, List.map_cons, List.map_nil]); first | done | rfl | (simp only [List.length_drop, List.length_take]; rfl)) ?_; (with_reducible refine (gridhalllaw3_costs.calls k  true _ A3.out).mono ?_); rintro e w11 ⟨rfl, hb⟩; refine ⟨_, rfl, ?_⟩; have n0_ := Aside0.mk (blk_below (g := gb160) (o := .cells #[.string a0_0, .slice A0_1 l0_1.length c0_1] 27 (0, 0)) (by (with_reducible repeat (first | refine blk_drewN ?_ _ | refine blk_drew ?_ | refine blk_alloc ?_ _)); exact BK160.out) hb); have n1_ := Aside0.mk (below_step (by repeat (first | (with_reducible first | exact HB.out | apply below_alloc | apply pw_below_drewN | apply below_drew1 | refine below_set ?_ GE160.out) | exact HB.out)) hb); clear BK160; clear HB; have BK160 := n0_; have HB := n1_; clear n0_ n1_; (try clear hb); (try clear hb2); (try clear hk); (try clear hi); have hcz12_0 : w11.cell? ⟨gb160, 0, none⟩ = some (.string a0_0) := (blk_cell BK160.out 0).trans rfl; have hcz12_1 : w11.cell? ⟨gb160, 1, none⟩ = some (.slice A0_1 l0_1.length c0_1) := (blk_cell BK160.out 1).trans rfl; have hfz12_0 := blk_frozen BK160.out 0; have hfz12_1 := blk_frozen BK160.out 1) | ((with_reducible refine gate_callee (f := 13) rfl ?_); refine goesL_ (some 17) rfl rfl Try.func13 (by kernel_rfl) rfl #[.agg #[.string a0_0, .slice A0_1 l0_1.length c0_1]] rfl (by (try simp only [List.map_toArray, List.map_cons, List.map_nil]); first | done | rfl | (simp only [List.length_drop, List.length_take]; rfl)) ?_; (with_reducible refine (gridhallref3_OfferError.calls k a0_0 _ _ l0_1 t162 _ ?side1 ?side2 A5.out).mono ?_); (case side1 => repeat (first | exact (Kd.C_below HR0_1.out HB.out) | (with_reducible refine Kd.C_alloc ?_ _) | (with_reducible refine Kd.C_drewN ?_ _) | (with_reducible refine Kd.C_drew ?_))); (case side2 => exact HC0_1.out); rintro e w13 ⟨rfl, hb⟩; refine ⟨_, rfl, ?_⟩; have n0_ := Aside0.mk (blk_below (g := gb160) (o := .cells #[.string a0_0, .slice A0_1 l0_1.length c0_1] 27 (0, 0)) (by (with_reducible repeat (first | refine blk_drewN ?_ _ | refine blk_drew ?_ | refine blk_alloc ?_ _)); exact BK160.out) hb); have n1_ := Aside0.mk (below_step (by repeat (first | (with_reducible first | exact HB.out | apply below_alloc | apply pw_below_drewN | apply below_drew1 | refine below_set ?_ GE160.out) | exact HB.out)) hb); clear BK160; clear HB; have BK160 := n0_; have HB := n1_; clear n0_ n1_; (try clear hb); (try clear hb2); (try clear hk); (try clear hi); have hcz14_0 : w13.cell? ⟨gb160, 0, none⟩ = some (.string a0_0) := (blk_cell BK160.out 0).trans rfl; have hcz14_1 : w13.cell? ⟨gb160, 1, none⟩ = some (.slice A0_1 l0_1.length c0_1) := (blk_cell BK160.out 1).trans rfl; have hfz14_0 := blk_frozen BK160.out 0; have hfz14_1 := blk_frozen BK160.out 1) | ((with_reducible refine gate_callee (f := 14) rfl ?_); refine goesL_ (some 20) rfl rfl Try.func14 (by kernel_rfl) rfl #[.agg #[.string a0_0, .slice A0_1 l0_1.length c0_1]] rfl (by (try simp only [List.map_toArray, List.map_cons, List.map_nil]); first | done | rfl | (simp only [List.length_drop, List.length_take]; rfl)) ?_; (with_reducible refine (offer_Total.calls k a0_0 _ _ l0_1 t163 t164 _ ?side1 ?side2 A6.out).mono ?_); (case side1 => repeat (first | exact (Kd.C_below HR0_1.out HB.out) | (with_reducible refine Kd.C_alloc ?_ _) | (with_reducible refine Kd.C_drewN ?_ _) | (with_reducible refine Kd.C_drew ?_))); (case side2 => exact HC0_1.out); rintro e w15 ⟨rfl, hb⟩; refine ⟨_, rfl, ?_⟩; have n0_ := Aside0.mk (blk_below (g := gb160) (o := .cells #[.string a0_0, .slice A0_1 l0_1.length c0_1] 27 (0, 0)) (by (with_reducible repeat (first | refine blk_drewN ?_ _ | refine blk_drew ?_ | refine blk_alloc ?_ _)); exact BK160.out) hb); have n1_ := Aside0.mk (below_step (by repeat (first | (with_reducible first | exact HB.out | apply below_alloc | apply pw_below_drewN | apply below_drew1 | refine below_set ?_ GE160.out) | exact HB.out)) hb); clear BK160; clear HB; have BK160 := n0_; have HB := n1_; clear n0_ n1_; (try clear hb); (try clear hb2); (try clear hk); (try clear hi); have hcz16_0 : w15.cell? ⟨gb160, 0, none⟩ = some (.string a0_0) := (blk_cell BK160.out 0).trans rfl; have hcz16_1 : w15.cell? ⟨gb160, 1, none⟩ = some (.slice A0_1 l0_1.length c0_1) := (blk_cell BK160.out 1).trans rfl; have hfz16_0 := blk_frozen BK160.out 0; have hfz16_1 := blk_frozen BK160.out 1) | ((with_reducible refine gate_callee (f := 15) rfl ?_); refine goesL_ (some 26) rfl rfl Try.func15 (by kernel_rfl) rfl #[.agg #[.string a0_0, .slice A0_1 l0_1.length c0_1], .int .i64 a1] rfl (by (try simp only [List.map_toArray, List.map_cons, List.map_nil]); first | done | rfl | (simp only [List.length_drop, List.length_take]; rfl)) ?_; (with_reducible refine (offer_Cost.calls k a0_0 _ _ l0_1 a1 t165 t166 _ ?side1 ?side2 A7.out).mono ?_); (case side1 => repeat (first | exact (Kd.C_below HR0_1.out HB.out) | (with_reducible refine Kd.C_alloc ?_ _) | (with_reducible refine Kd.C_drewN ?_ _) | (with_reducible refine Kd.C_drew ?_))); (case side2 => exact HC0_1.out); rintro e w17 ⟨rfl, hb⟩; refine ⟨_, rfl, ?_⟩; have n0_ := Aside0.mk (blk_below (g := gb160) (o := .cells #[.string a0_0, .slice A0_1 l0_1.length c0_1] 27 (0, 0)) (by (with_reducible repeat (first | refine blk_drewN ?_ _ | refine blk_drew ?_ | refine blk_alloc ?_ _)); exact BK160.out) hb); have n1_ := Aside0.mk (below_step (by repeat (first | (with_reducible first | exact HB.out | apply below_alloc | apply pw_below_drewN | apply below_drew1 | refine below_set ?_ GE160.out) | exact HB.out)) hb); clear BK160; clear HB; have BK160 := n0_; have HB := n1_; clear n0_ n1_; (try clear hb); (try clear hb2); (try clear hk); (try clear hi); have hcz18_0 : w17.cell? ⟨gb160, 0, none⟩ = some (.string a0_0) := (blk_cell BK160.out 0).trans rfl; have hcz18_1 : w17.cell? ⟨gb160, 1, none⟩ = some (.slice A0_1 l0_1.length c0_1) := (blk_cell BK160.out 1).trans rfl; have hfz18_0 := blk_frozen BK160.out 0; have hfz18_1 := blk_frozen BK160.out 1) | ((with_reducible refine gate_callee (f := 16) rfl ?_); refine goesL_ (some 32) rfl rfl Try.func16 (by kernel_rfl) rfl #[.agg #[.string a0_0, .slice A0_1 l0_1.length c0_1], .int .i64 a1] rfl (by (try simp only [List.map_toArray, List.map_cons, List.map_nil]); first | done | rfl | (simp only [List.length_drop, List.length_take]; rfl)) ?_; (with_reducible refine (offer_Marginal.calls k a0_0 _ _ l0_1 a1 t167 t168 t169 _ ?side1 ?side2 A8.out).mono ?_); (case side1 => repeat (first | exact (Kd.C_below HR0_1.out HB.out) | (with_reducible refine Kd.C_alloc ?_ _) | (with_reducible refine Kd.C_drewN ?_ _) | (with_reducible refine Kd.C_drew ?_))); (case side2 => exact HC0_1.out); rintro e w19 ⟨rfl, hb⟩; refine ⟨_, rfl, ?_⟩; have n0_ := Aside0.mk (blk_below (g := gb160) (o := .cells #[.string a0_0, .slice A0_1 l0_1.length c0_1] 27 (0, 0)) (by (with_reducible repeat (first | refine blk_drewN ?_ _ | refine blk_drew ?_ | refine blk_alloc ?_ _)); exact BK160.out) hb); have n1_ := Aside0.mk (below_step (by repeat (first | (with_reducible first | exact HB.out | apply below_alloc | apply pw_below_drewN | apply below_drew1 | refine below_set ?_ GE160.out) | exact HB.out)) hb); clear BK160; clear HB; have BK160 := n0_; have HB := n1_; clear n0_ n1_; (try clear hb); (try clear hb2); (try clear hk); (try clear hi)))
    (try simp only [Act.put, List.setIfInBounds_toArray, List.set_cons_zero, List.set_cons_succ])
    go_cut [44] (fun v44 wc => ∃ (kq : Nat) (x44_8 : Bool), v44 = .bool x44_8 ∧ Aside0 (gridhalllaw3_OfferCosts.j0 kq a1 t162 t163 t165 t166 t167 t168 t169 x44_8 a0_0 l0_1 = some r) ∧ Aside0 (kq ≤ k) ∧ Aside0 (wc.heap[gb160]? = some (.cells #[.string a0_0, (.slice A0_1 l0_1.length c0_1)] 27 (0, 0))) ∧ Aside0 (Below w.heap.size w wc))
    case first =>
      have H := HC9.out
      clear HC9
      replace H := Option.bind_eq_some_iff.mp H
      obtain ⟨t170, A200, H⟩ := H
      replace H : (if t170 = t162 then (gridhalllaw3_OfferCosts.j0 k a1 t162 t163 t165 t166 t167 t168 t169 (t164 != t162) a0_0 l0_1) else (gridhalllaw3_OfferCosts.j0 k a1 t162 t163 t165 t166 t167 t168 t169 true a0_0 l0_1)) = some r := H
      have A20 := Aside0.mk A200
      clear A200
      by_cases c21 : t170 = t162
      · rw [if_pos c21] at H
        have c21b0 : (t170 == t162) = true := beq_iff_eq.mpr c21
        have c21b1 : (t170 != t162) = false := bne_eq_false_iff_eq.mpr c21
        clear c21
        (first | rw [c21b0] | (simp only [i64_w, i32_w]; rw [c21b0]) | skip)
        have H' := Aside0.mk H
        clear H
        have hcz22_0 : w19.cell? ⟨gb160, 0, none⟩ = some (.string a0_0) := (blk_cell BK160.out 0).trans rfl
        have hcz22_1 : w19.cell? ⟨gb160, 1, none⟩ = some (.slice A0_1 l0_1.length c0_1) := (blk_cell BK160.out 1).trans rfl
        have hfz22_0 := blk_frozen BK160.out 0
        have hfz22_1 := blk_frozen BK160.out 1
        go_wp2_with (first | ((with_reducible refine gate_callee (f := 17) rfl ?_); refine goesL_ (some 37) rfl rfl Try.func17 (by kernel_rfl) rfl #[.agg #[.string a0_0, .slice A0_1 l0_1.length c0_1]] rfl (by (try simp only [List.map_toArray, List.map_cons, List.map_nil]); first | done | rfl | (simp only [List.length_drop, List.length_take]; rfl)) ?_; (with_reducible refine (offer_Check.calls k a0_0 _ _ l0_1 t170 _ ?side1 ?side2 A20.out).mono ?_); (case side1 => repeat (first | exact (Kd.C_below HR0_1.out HB.out) | (with_reducible refine Kd.C_alloc ?_ _) | (with_reducible refine Kd.C_drewN ?_ _) | (with_reducible refine Kd.C_drew ?_))); (case side2 => exact HC0_1.out); rintro e w23 ⟨rfl, hb⟩; refine ⟨_, rfl, ?_⟩; have n0_ := Aside0.mk (blk_below (g := gb160) (o := .cells #[.string a0_0, .slice A0_1 l0_1.length c0_1] 27 (0, 0)) (by (with_reducible repeat (first | refine blk_drewN ?_ _ | refine blk_drew ?_ | refine blk_alloc ?_ _)); exact BK160.out) hb); have n1_ := Aside0.mk (below_step (by repeat (first | (with_reducible first | exact HB.out | apply below_alloc | apply pw_below_drewN | apply below_drew1 | refine below_set ?_ GE160.out) | exact HB.out)) hb); clear BK160; clear HB; have BK160 := n0_; have HB := n1_; clear n0_ n1_; (try clear hb); (try clear hb2); (try clear hk); (try clear hi)))
        go_meet
        case rel => exact ⟨_, ((t164 != t162)), (by first | rfl | (simp; done) | (simp [*]; done)), H', ⟨by first | omega | exact Nat.le_refl _⟩, ⟨by (with_reducible repeat (first | refine blk_drewN ?_ _ | refine blk_drew ?_ | refine blk_alloc ?_ _)); exact BK160.out⟩, ⟨by repeat (first | (with_reducible first | exact HB.out | apply below_alloc | apply pw_below_drewN | apply below_drew1 | refine below_set ?_ GE160.out) | exact HB.out)⟩⟩
      · rw [if_neg c21] at H
        have c21b0 : (t170 == t162) = false := beq_eq_false_iff_ne.mpr c21
        have c21b1 : (t170 != t162) = true := bne_iff_ne.mpr c21
        (first | rw [c21b0] | (simp only [i64_w, i32_w]; rw [c21b0]) | skip)
        have H' := Aside0.mk H
        clear H
        have hcz24_0 : w19.cell? ⟨gb160, 0, none⟩ = some (.string a0_0) := (blk_cell BK160.out 0).trans rfl
        have hcz24_1 : w19.cell? ⟨gb160, 1, none⟩ = some (.slice A0_1 l0_1.length c0_1) := (blk_cell BK160.out 1).trans rfl
        have hfz24_0 := blk_frozen BK160.out 0
        have hfz24_1 := blk_frozen BK160.out 1
        go_wp2_with (first | ((with_reducible refine gate_callee (f := 17) rfl ?_); refine goesL_ (some 37) rfl rfl Try.func17 (by kernel_rfl) rfl #[.agg #[.string a0_0, .slice A0_1 l0_1.length c0_1]] rfl (by (try simp only [List.map_toArray, List.map_cons, List.map_nil]); first | done | rfl | (simp only [List.length_drop, List.length_take]; rfl)) ?_; (with_reducible refine (offer_Check.calls k a0_0 _ _ l0_1 t170 _ ?side1 ?side2 A20.out).mono ?_); (case side1 => repeat (first | exact (Kd.C_below HR0_1.out HB.out) | (with_reducible refine Kd.C_alloc ?_ _) | (with_reducible refine Kd.C_drewN ?_ _) | (with_reducible refine Kd.C_drew ?_))); (case side2 => exact HC0_1.out); rintro e w25 ⟨rfl, hb⟩; refine ⟨_, rfl, ?_⟩; have n0_ := Aside0.mk (blk_below (g := gb160) (o := .cells #[.string a0_0, .slice A0_1 l0_1.length c0_1] 27 (0, 0)) (by (with_reducible repeat (first | refine blk_drewN ?_ _ | refine blk_drew ?_ | refine blk_alloc ?_ _)); exact BK160.out) hb); have n1_ := Aside0.mk (below_step (by repeat (first | (with_reducible first | exact HB.out | apply below_alloc | apply pw_below_drewN | apply below_drew1 | refine below_set ?_ GE160.out) | exact HB.out)) hb); clear BK160; clear HB; have BK160 := n0_; have HB := n1_; clear n0_ n1_; (try clear hb); (try clear hb2); (try clear hk); (try clear hi)))
        go_meet
        case rel => exact ⟨_, (true), (by first | rfl | (simp; done) | (simp [*]; done)), H', ⟨by first | omega | exact Nat.le_refl _⟩, ⟨by (with_reducible repeat (first | refine blk_drewN ?_ _ | refine blk_drew ?_ | refine blk_alloc ?_ _)); exact BK160.out⟩, ⟨by repeat (first | (with_reducible first | exact HB.out | apply below_alloc | apply pw_below_drewN | apply below_drew1 | refine below_set ?_ GE160.out) | exact HB.out)⟩⟩
    case rest =>
      clear HC9
      try clear c1
      try clear c2
      try clear p2
      try clear c4
      try clear c11
      try clear c13
      try clear c14
      try clear c15
      try clear c16
      try clear c17
      try clear c21
      try clear c21b0
      try clear c21b1
      try clear hcz12_0
      try clear hcz12_1
      try clear hcz14_0
      try clear hcz14_1
      try clear hcz16_0
      try clear hcz16_1
      try clear hcz18_0
      try clear hcz18_1
      try clear hcz22_0
      try clear hcz22_1
      try clear hcz24_0
      try clear hcz24_1
      try clear hfz12_0
      try clear hfz12_1
      try clear hfz14_0
      try clear hfz14_1
      try clear hfz16_0
      try clear hfz16_1
      try clear hfz18_0
      try clear hfz18_1
      try clear hfz22_0
      try clear hfz22_1
      try clear hfz24_0
      try clear hfz24_1
      obtain ⟨kq, x44_8, rfl, HA, HJ8, BK160, HB⟩ := hcut
      cases kq with
      | zero => exact absurd HA.out (by simp [gridhalllaw3_OfferCosts.j0])
      | succ kj8 =>
        have H := HA.out
        clear HA
        simp only [gridhalllaw3_OfferCosts.j0] at H
        by_cases c26 : x44_8 = true
        · subst c26
          have H1 : (some false) = some r := by rw [if_pos rfl] at H; exact H
          clear H
          have H := H1
          clear H1
          obtain rfl := Option.some.inj H
          go_wp2
          go_ret
          exact ⟨by first | rfl | (simp [errW_none, errW_some] <;> rfl) | (simp [*, errW_none, errW_some] <;> rfl), by repeat (first | (with_reducible first | exact HB.out | apply below_alloc | apply pw_below_drewN | apply below_drew1 | refine below_set ?_ GE160.out) | exact HB.out)⟩
        · replace c26 := Bool.eq_false_iff.mpr c26
          subst c26
          have H1 : (if t162 = 0 then ((gridhallref3_All.f kj8 a0_0 l0_1).bind fun t171 => (gridhalllaw3_OfferCosts.j1 kj8 a1 t162 t165 t166 t167 t168 t169 (t163 != t171) a0_0 l0_1)) else (gridhalllaw3_OfferCosts.j1 kj8 a1 t162 t165 t166 t167 t168 t169 false a0_0 l0_1)) = some r := by rw [if_neg (show ¬ (false = true) by decide)] at H; exact H
          clear H
          have H := H1
          clear H1
          have HC27 := Aside0.mk H
          clear H
          go_upto_region 9 with (fail)
          go_cut [52] (fun v52 wc => ∃ (kq : Nat) (x52_26 : Bool), v52 = .bool x52_26 ∧ Aside0 (gridhalllaw3_OfferCosts.j1 kq a1 t162 t165 t166 t167 t168 t169 x52_26 a0_0 l0_1 = some r) ∧ Aside0 (kq ≤ kj8) ∧ Aside0 (wc.heap[gb160]? = some (.cells #[.string a0_0, (.slice A0_1 l0_1.length c0_1)] 27 (0, 0))) ∧ Aside0 (Below w.heap.size w wc))
          case first =>
            have H := HC27.out
            clear HC27
            by_cases c28 : t162 = 0
            · rw [if_pos c28] at H
              have c28b0 : (t162 == 0) = true := beq_iff_eq.mpr c28
              have c28b1 : (t162 != 0) = false := bne_eq_false_iff_eq.mpr c28
              clear c28
              (first | rw [c28b0] | (simp only [i64_w, i32_w]; rw [c28b0]) | skip)
              replace H := Option.bind_eq_some_iff.mp H
              obtain ⟨t171, A290, H⟩ := H
              replace H : (gridhalllaw3_OfferCosts.j1 kj8 a1 t162 t165 t166 t167 t168 t169 (t163 != t171) a0_0 l0_1) = some r := H
              have A29 := Aside0.mk A290
              clear A290
              have H' := Aside0.mk H
              clear H
              have hcz30_0 : wc.cell? ⟨gb160, 0, none⟩ = some (.string a0_0) := (blk_cell BK160.out 0).trans rfl
              have hcz30_1 : wc.cell? ⟨gb160, 1, none⟩ = some (.slice A0_1 l0_1.length c0_1) := (blk_cell BK160.out 1).trans rfl
              have hfz30_0 := blk_frozen BK160.out 0
              have hfz30_1 := blk_frozen BK160.out 1
              go_wp2_with (first | (go_at_call 18; (with_reducible refine (gridhallref3_All.calls kj8 a0_0 _ _ l0_1 t171 _ ?side1 ?side2 A29.out).mono ?_); (case side1 => repeat (first | exact (Kd.C_below HR0_1.out HB.out) | (with_reducible refine Kd.C_alloc ?_ _) | (with_reducible refine Kd.C_drewN ?_ _) | (with_reducible refine Kd.C_drew ?_))); (case side2 => exact HC0_1.out); rintro e w31 ⟨rfl, hb⟩; have n0_ := Aside0.mk (blk_below (g := gb160) (o := .cells #[.string a0_0, .slice A0_1 l0_1.length c0_1] 27 (0, 0)) (by (with_reducible repeat (first | refine blk_drewN ?_ _ | refine blk_drew ?_ | refine blk_alloc ?_ _)); exact BK160.out) hb); have n1_ := Aside0.mk (below_step (by repeat (first | (with_reducible first | exact HB.out | apply below_alloc | apply pw_below_drewN | apply below_drew1 | refine below_set ?_ GE160.out) | exact HB.out)) hb); clear BK160; clear HB; have BK160 := n0_; have HB := n1_; clear n0_ n1_; (try clear hb); (try clear hb2); (try clear hk); (try clear hi)))
              go_meet
              case rel => exact ⟨_, ((t163 != t171)), (by first | rfl | (simp; done) | (simp [*]; done)), H', ⟨by have := HJ8.out; first | omega | exact Nat.le_refl _⟩, ⟨by (with_reducible repeat (first | refine blk_drewN ?_ _ | refine blk_drew ?_ | refine blk_alloc ?_ _)); exact BK160.out⟩, ⟨by repeat (first | (with_reducible first | exact HB.out | apply below_alloc | apply pw_below_drewN | apply below_drew1 | refine below_set ?_ GE160.out) | exact HB.out)⟩⟩
            · rw [if_neg c28] at H
              have c28b0 : (t162 == 0) = false := beq_eq_false_iff_ne.mpr c28
              have c28b1 : (t162 != 0) = true := bne_iff_ne.mpr c28
              (first | rw [c28b0] | (simp only [i64_w, i32_w]; rw [c28b0]) | skip)
              have H' := Aside0.mk H
              clear H
              go_wp2
              go_meet
              case rel => exact ⟨_, (false), (by first | rfl | (simp; done) | (simp [*]; done)), H', ⟨by have := HJ8.out; first | omega | exact Nat.le_refl _⟩, ⟨by (with_reducible repeat (first | refine blk_drewN ?_ _ | refine blk_drew ?_ | refine blk_alloc ?_ _)); exact BK160.out⟩, ⟨by repeat (first | (with_reducible first | exact HB.out | apply below_alloc | apply pw_below_drewN | apply below_drew1 | refine below_set ?_ GE160.out) | exact HB.out)⟩⟩
          case rest =>
            clear HC27
            try clear c1
            try clear c2
            try clear p2
            try clear c4
            try clear c11
            try clear c13
            try clear c14
            try clear c15
            try clear c16
            try clear c17
            try clear c21
            try clear c21b0
            try clear c21b1
            try clear c26
            try clear c28
            try clear c28b0
            try clear c28b1
            try clear hcz12_0
            try clear hcz12_1
            try clear hcz14_0
            try clear hcz14_1
            try clear hcz16_0
            try clear hcz16_1
            try clear hcz18_0
            try clear hcz18_1
            try clear hcz22_0
            try clear hcz22_1
            try clear hcz24_0
            try clear hcz24_1
            try clear hcz30_0
            try clear hcz30_1
            try clear hfz12_0
            try clear hfz12_1
            try clear hfz14_0
            try clear hfz14_1
            try clear hfz16_0
            try clear hfz16_1
            try clear hfz18_0
            try clear hfz18_1
            try clear hfz22_0
            try clear hfz22_1
            try clear hfz24_0
            try clear hfz24_1
            try clear hfz30_0
            try clear hfz30_1
            try clear p2
            obtain ⟨kq, x52_26, rfl, HA, HJ26, BK160, HB⟩ := hcut
            cases kq with
            | zero => exact absurd HA.out (by simp [gridhalllaw3_OfferCosts.j1])
            | succ kj26 =>
              have H := HA.out
              clear HA
              simp only [gridhalllaw3_OfferCosts.j1] at H
              by_cases c32 : x52_26 = true
              · subst c32
                have H1 : (some false) = some r := by rw [if_pos rfl] at H; exact H
                clear H
                have H := H1
                clear H1
                obtain rfl := Option.some.inj H
                go_wp2
                go_ret
                exact ⟨by first | rfl | (simp [errW_none, errW_some] <;> rfl) | (simp [*, errW_none, errW_some] <;> rfl), by repeat (first | (with_reducible first | exact HB.out | apply below_alloc | apply pw_below_drewN | apply below_drew1 | refine below_set ?_ GE160.out) | exact HB.out)⟩
              · replace c32 := Bool.eq_false_iff.mpr c32
                subst c32
                have H1 : (if t162 = 0 then ((gridhallref3_All.f kj26 a0_0 l0_1).bind fun t172 => ((gridhallref3_In.f a1 0 t172).bind fun t173 => (gridhalllaw3_OfferCosts.j2 kj26 a1 t162 t165 t166 t167 t168 t169 (!t173) a0_0 l0_1))) else (gridhalllaw3_OfferCosts.j2 kj26 a1 t162 t165 t166 t167 t168 t169 false a0_0 l0_1)) = some r := by rw [if_neg (show ¬ (false = true) by decide)] at H; exact H
                clear H
                have H := H1
                clear H1
                have HC33 := Aside0.mk H
                clear H
                go_upto_region 11 with (fail)
                go_cut [61] (fun v61 wc => ∃ (kq : Nat) (x61_32 : Bool), v61 = .bool x61_32 ∧ Aside0 (gridhalllaw3_OfferCosts.j2 kq a1 t162 t165 t166 t167 t168 t169 x61_32 a0_0 l0_1 = some r) ∧ Aside0 (kq ≤ kj26) ∧ Aside0 (wc.heap[gb160]? = some (.cells #[.string a0_0, (.slice A0_1 l0_1.length c0_1)] 27 (0, 0))) ∧ Aside0 (Below w.heap.size w wc))
                case first =>
                  have H := HC33.out
                  clear HC33
                  by_cases c34 : t162 = 0
                  · rw [if_pos c34] at H
                    have c34b0 : (t162 == 0) = true := beq_iff_eq.mpr c34
                    have c34b1 : (t162 != 0) = false := bne_eq_false_iff_eq.mpr c34
                    clear c34
                    (first | rw [c34b0] | (simp only [i64_w, i32_w]; rw [c34b0]) | skip)
                    replace H := Option.bind_eq_some_iff.mp H
                    obtain ⟨t172, A350, H⟩ := H
                    replace H : ((gridhallref3_In.f a1 0 t172).bind fun t173 => (gridhalllaw3_OfferCosts.j2 kj26 a1 t162 t165 t166 t167 t168 t169 (!t173) a0_0 l0_1)) = some r := H
                    have A35 := Aside0.mk A350
                    clear A350
                    replace H := Option.bind_eq_some_iff.mp H
                    obtain ⟨t173, A360, H⟩ := H
                    replace H : (gridhalllaw3_OfferCosts.j2 kj26 a1 t162 t165 t166 t167 t168 t169 (!t173) a0_0 l0_1) = some r := H
                    have A36 := Aside0.mk A360
                    clear A360
                    have H' := Aside0.mk H
                    clear H
                    have hcz37_0 : wc.cell? ⟨gb160, 0, none⟩ = some (.string a0_0) := (blk_cell BK160.out 0).trans rfl
                    have hcz37_1 : wc.cell? ⟨gb160, 1, none⟩ = some (.slice A0_1 l0_1.length c0_1) := (blk_cell BK160.out 1).trans rfl
                    have hfz37_0 := blk_frozen BK160.out 0
                    have hfz37_1 := blk_frozen BK160.out 1
                    go_wp2_with (first | (go_at_call 18; (with_reducible refine (gridhallref3_All.calls kj26 a0_0 _ _ l0_1 t172 _ ?side1 ?side2 A35.out).mono ?_); (case side1 => repeat (first | exact (Kd.C_below HR0_1.out HB.out) | (with_reducible refine Kd.C_alloc ?_ _) | (with_reducible refine Kd.C_drewN ?_ _) | (with_reducible refine Kd.C_drew ?_))); (case side2 => exact HC0_1.out); rintro e w38 ⟨rfl, hb⟩; have n0_ := Aside0.mk (blk_below (g := gb160) (o := .cells #[.string a0_0, .slice A0_1 l0_1.length c0_1] 27 (0, 0)) (by (with_reducible repeat (first | refine blk_drewN ?_ _ | refine blk_drew ?_ | refine blk_alloc ?_ _)); exact BK160.out) hb); have n1_ := Aside0.mk (below_step (by repeat (first | (with_reducible first | exact HB.out | apply below_alloc | apply pw_below_drewN | apply below_drew1 | refine below_set ?_ GE160.out) | exact HB.out)) hb); clear BK160; clear HB; have BK160 := n0_; have HB := n1_; clear n0_ n1_; (try clear hb); (try clear hb2); (try clear hk); (try clear hi)) | (go_at_call 19; (with_reducible refine (gridhallref3_In.calls a1 0 t172 t173 _ A36.out).mono ?_); rintro e w' ⟨rfl, ⟨nd, rfl⟩⟩))
                    go_meet
                    case rel => exact ⟨_, (!t173), (by first | rfl | (simp; done) | (simp [*]; done)), H', ⟨by have := HJ8.out; have := HJ26.out; first | omega | exact Nat.le_refl _⟩, ⟨by (with_reducible repeat (first | refine blk_drewN ?_ _ | refine blk_drew ?_ | refine blk_alloc ?_ _)); exact BK160.out⟩, ⟨by repeat (first | (with_reducible first | exact HB.out | apply below_alloc | apply pw_below_drewN | apply below_drew1 | refine below_set ?_ GE160.out) | exact HB.out)⟩⟩
                  · rw [if_neg c34] at H
                    have c34b0 : (t162 == 0) = false := beq_eq_false_iff_ne.mpr c34
                    have c34b1 : (t162 != 0) = true := bne_iff_ne.mpr c34
                    (first | rw [c34b0] | (simp only [i64_w, i32_w]; rw [c34b0]) | skip)
                    have H' := Aside0.mk H
                    clear H
                    go_wp2
                    go_meet
                    case rel => exact ⟨_, (false), (by first | rfl | (simp; done) | (simp [*]; done)), H', ⟨by have := HJ8.out; have := HJ26.out; first | omega | exact Nat.le_refl _⟩, ⟨by (with_reducible repeat (first | refine blk_drewN ?_ _ | refine blk_drew ?_ | refine blk_alloc ?_ _)); exact BK160.out⟩, ⟨by repeat (first | (with_reducible first | exact HB.out | apply below_alloc | apply pw_below_drewN | apply below_drew1 | refine below_set ?_ GE160.out) | exact HB.out)⟩⟩
                case rest =>
                  clear HC33
                  try clear c1
                  try clear c2
                  try clear p2
                  try clear c3
                  try clear c4
                  try clear c11
                  try clear c13
                  try clear c14
                  try clear c15
                  try clear c16
                  try clear c17
                  try clear c21
                  try clear c21b0
                  try clear c21b1
                  try clear c26
                  try clear c28
                  try clear c28b0
                  try clear c28b1
                  try clear c32
                  try clear c34
                  try clear c34b0
                  try clear c34b1
                  try clear hcz12_0
                  try clear hcz12_1
                  try clear hcz14_0
                  try clear hcz14_1
                  try clear hcz16_0
                  try clear hcz16_1
                  try clear hcz18_0
                  try clear hcz18_1
                  try clear hcz22_0
                  try clear hcz22_1
                  try clear hcz24_0
                  try clear hcz24_1
                  try clear hcz30_0
                  try clear hcz30_1
                  try clear hcz37_0
                  try clear hcz37_1
                  try clear hfz12_0
                  try clear hfz12_1
                  try clear hfz14_0
                  try clear hfz14_1
                  try clear hfz16_0
                  try clear hfz16_1
                  try clear hfz18_0
                  try clear hfz18_1
                  try clear hfz22_0
                  try clear hfz22_1
                  try clear hfz24_0
                  try clear hfz24_1
                  try clear hfz30_0
                  try clear hfz30_1
                  try clear hfz37_0
                  try clear hfz37_1
                  try clear p2
                  obtain ⟨kq, x61_32, rfl, HA, HJ32, BK160, HB⟩ := hcut
                  cases kq with
                  | zero => exact absurd HA.out (by simp [gridhalllaw3_OfferCosts.j2])
                  | succ kj32 =>
                    have H := HA.out
                    clear HA
                    simp only [gridhalllaw3_OfferCosts.j2] at H
                    have HC39 := Aside0.mk H
                    clear H
                    go_upto_if 61 with (fail)
                    go_cut [5] (fun v5 wc => ∃ (kq : Nat) (x5_38 : Int), v5 = .int .i64 x5_38 ∧ Aside0 (gridhalllaw3_OfferCosts.j3 kq a1 x5_38 t165 t166 t167 t168 t169 a0_0 l0_1 = some r) ∧ Aside0 (kq ≤ kj32) ∧ Aside0 (wc.heap[gb160]? = some (.cells #[.string a0_0, (.slice A0_1 l0_1.length c0_1)] 27 (0, 0))) ∧ Aside0 (Below w.heap.size w wc))
                    case first =>
                      have H := HC39.out
                      clear HC39
                      by_cases c40 : x61_32 = true
                      · subst c40
                        have H1 : (gridhalllaw3_OfferCosts.j3 kj32 a1 4 t165 t166 t167 t168 t169 a0_0 l0_1) = some r := by rw [if_pos rfl] at H; exact H
                        clear H
                        have H := H1
                        clear H1
                        have H' := Aside0.mk H
                        clear H
                        go_wp2
                        go_meet
                        case rel => exact ⟨_, (4), (by first | rfl | (simp; done) | (simp [*]; done)), H', ⟨by have := HJ8.out; have := HJ26.out; have := HJ32.out; first | omega | exact Nat.le_refl _⟩, ⟨by (with_reducible repeat (first | refine blk_drewN ?_ _ | refine blk_drew ?_ | refine blk_alloc ?_ _)); exact BK160.out⟩, ⟨by repeat (first | (with_reducible first | exact HB.out | apply below_alloc | apply pw_below_drewN | apply below_drew1 | refine below_set ?_ GE160.out) | exact HB.out)⟩⟩
                      · replace c40 := Bool.eq_false_iff.mpr c40
                        subst c40
                        have H1 : (gridhalllaw3_OfferCosts.j3 kj32 a1 t162 t165 t166 t167 t168 t169 a0_0 l0_1) = some r := by rw [if_neg (show ¬ (false = true) by decide)] at H; exact H
                        clear H
                        have H := H1
                        clear H1
                        have H' := Aside0.mk H
                        clear H
                        go_wp2
                        go_meet
                        case rel => exact ⟨_, (t162), (by first | rfl | (simp; done) | (simp [*]; done)), H', ⟨by have := HJ8.out; have := HJ26.out; have := HJ32.out; first | omega | exact Nat.le_refl _⟩, ⟨by (with_reducible repeat (first | refine blk_drewN ?_ _ | refine blk_drew ?_ | refine blk_alloc ?_ _)); exact BK160.out⟩, ⟨by repeat (first | (with_reducible first | exact HB.out | apply below_alloc | apply pw_below_drewN | apply below_drew1 | refine below_set ?_ GE160.out) | exact HB.out)⟩⟩
                    case rest =>
                      clear HC39
                      try clear c1
                      try clear c2
                      try clear p2
                      try clear c3
                      try clear c4
                      try clear c11
                      try clear c13
                      try clear c14
                      try clear c15
                      try clear c16
                      try clear c17
                      try clear c21
                      try clear c21b0
                      try clear c21b1
                      try clear c26
                      try clear c28
                      try clear c28b0
                      try clear c28b1
                      try clear c32
                      try clear c34
                      try clear c34b0
                      try clear c34b1
                      try clear c40
                      try clear hcz12_0
                      try clear hcz12_1
                      try clear hcz14_0
                      try clear hcz14_1
                      try clear hcz16_0
                      try clear hcz16_1
                      try clear hcz18_0
                      try clear hcz18_1
                      try clear hcz22_0
                      try clear hcz22_1
                      try clear hcz24_0
                      try clear hcz24_1
                      try clear hcz30_0
                      try clear hcz30_1
                      try clear hcz37_0
                      try clear hcz37_1
                      try clear hfz12_0
                      try clear hfz12_1
                      try clear hfz14_0
                      try clear hfz14_1
                      try clear hfz16_0
                      try clear hfz16_1
                      try clear hfz18_0
                      try clear hfz18_1
                      try clear hfz22_0
                      try clear hfz22_1
                      try clear hfz24_0
                      try clear hfz24_1
                      try clear hfz30_0
                      try clear hfz30_1
                      try clear hfz37_0
                      try clear hfz37_1
                      try clear p2
                      obtain ⟨kq, x5_38, rfl, HA, HJ38, BK160, HB⟩ := hcut
                      cases kq with
                      | zero => exact absurd HA.out (by simp [gridhalllaw3_OfferCosts.j3])
                      | succ kj38 =>
                        have H := HA.out
                        clear HA
                        simp only [gridhalllaw3_OfferCosts.j3] at H
                        by_cases c41 : x5_38 = 0
                        · rw [if_pos c41] at H
                          have c41b0 : (x5_38 == 0) = true := beq_iff_eq.mpr c41
                          have c41b1 : (x5_38 != 0) = false := bne_eq_false_iff_eq.mpr c41
                          clear c41
                          by_cases c42 : a1 > 0
                          · rw [if_pos c42] at H
                            have c42b0 : decide (0 < a1) = true := decide_eq_true c42
                            clear c42
                            replace H := Option.bind_eq_some_iff.mp H
                            obtain ⟨t174, A430, H⟩ := H
                            replace H : (if t166 = 0 then (if t169 = 0 then ((gridhallref3_Cost.f kj38 a0_0 l0_1 a1).bind fun t175 => (if t165 = t175 then (if t167 = t174 then ((gridhallref3_Unit.f kj38 a0_0 l0_1 a1).bind fun t176 => (some (t168 == t176))) else (some false)) else (some false))) else (some false)) else (some false)) = some r := H
                            have A43 := Aside0.mk A430
                            clear A430
                            by_cases c44 : t166 = 0
                            · rw [if_pos c44] at H
                              have c44b0 : (t166 == 0) = true := beq_iff_eq.mpr c44
                              have c44b1 : (t166 != 0) = false := bne_eq_false_iff_eq.mpr c44
                              clear c44
                              by_cases c45 : t169 = 0
                              · rw [if_pos c45] at H
                                have c45b0 : (t169 == 0) = true := beq_iff_eq.mpr c45
                                have c45b1 : (t169 != 0) = false := bne_eq_false_iff_eq.mpr c45
                                clear c45
                                replace H := Option.bind_eq_some_iff.mp H
                                obtain ⟨t175, A460, H⟩ := H
                                replace H : (if t165 = t175 then (if t167 = t174 then ((gridhallref3_Unit.f kj38 a0_0 l0_1 a1).bind fun t176 => (some (t168 == t176))) else (some false)) else (some false)) = some r := H
                                have A46 := Aside0.mk A460
                                clear A460
                                by_cases c47 : t165 = t175
                                · rw [if_pos c47] at H
                                  have c47b0 : (t165 == t175) = true := beq_iff_eq.mpr c47
                                  have c47b1 : (t165 != t175) = false := bne_eq_false_iff_eq.mpr c47
                                  clear c47
                                  by_cases c48 : t167 = t174
                                  · rw [if_pos c48] at H
                                    have c48b0 : (t167 == t174) = true := beq_iff_eq.mpr c48
                                    have c48b1 : (t167 != t174) = false := bne_eq_false_iff_eq.mpr c48
                                    clear c48
                                    replace H := Option.bind_eq_some_iff.mp H
                                    obtain ⟨t176, A490, H⟩ := H
                                    replace H : (some (t168 == t176)) = some r := H
                                    have A49 := Aside0.mk A490
                                    clear A490
                                    obtain rfl := Option.some.inj H
                                    have hcz50_0 : wc.cell? ⟨gb160, 0, none⟩ = some (.string a0_0) := (blk_cell BK160.out 0).trans rfl
                                    have hcz50_1 : wc.cell? ⟨gb160, 1, none⟩ = some (.slice A0_1 l0_1.length c0_1) := (blk_cell BK160.out 1).trans rfl
                                    have hfz50_0 := blk_frozen BK160.out 0
                                    have hfz50_1 := blk_frozen BK160.out 1
                                    go_wp2_with (first | ((with_reducible refine gate_callee (f := 20) rfl ?_); refine goesL_ (some 89) rfl rfl Try.func20 (by kernel_rfl) rfl #[.agg #[.string a0_0, .slice A0_1 l0_1.length c0_1], .int .i64 (wrap64 (a1 - 1))] rfl (by (try simp only [List.map_toArray, List.map_cons, List.map_nil]); first | done | rfl | (simp only [List.length_drop, List.length_take]; rfl)) ?_; (with_reducible refine (gridhallref3_Unit.calls kj38 a0_0 _ _ l0_1 (wrap64 (a1 - 1)) t174 _ ?side1 ?side2 A43.out).mono ?_); (case side1 => repeat (first | exact (Kd.C_below HR0_1.out HB.out) | (with_reducible refine Kd.C_alloc ?_ _) | (with_reducible refine Kd.C_drewN ?_ _) | (with_reducible refine Kd.C_drew ?_))); (case side2 => exact HC0_1.out); rintro e w51 ⟨rfl, hb⟩; refine ⟨_, rfl, ?_⟩; have n0_ := Aside0.mk (blk_below (g := gb160) (o := .cells #[.string a0_0, .slice A0_1 l0_1.length c0_1] 27 (0, 0)) (by (with_reducible repeat (first | refine blk_drewN ?_ _ | refine blk_drew ?_ | refine blk_alloc ?_ _)); exact BK160.out) hb); have n1_ := Aside0.mk (below_step (by repeat (first | (with_reducible first | exact HB.out | apply below_alloc | apply pw_below_drewN | apply below_drew1 | refine below_set ?_ GE160.out) | exact HB.out)) hb); clear BK160; clear HB; have BK160 := n0_; have HB := n1_; clear n0_ n1_; (try clear hb); (try clear hb2); (try clear hk); (try clear hi); have hcz52_0 : w51.cell? ⟨gb160, 0, none⟩ = some (.string a0_0) := (blk_cell BK160.out 0).trans rfl; have hcz52_1 : w51.cell? ⟨gb160, 1, none⟩ = some (.slice A0_1 l0_1.length c0_1) := (blk_cell BK160.out 1).trans rfl; have hfz52_0 := blk_frozen BK160.out 0; have hfz52_1 := blk_frozen BK160.out 1) | (go_at_call 21; (with_reducible refine (gridhallref3_Cost.calls kj38 a0_0 _ _ l0_1 a1 t175 _ ?side1 ?side2 A46.out).mono ?_); (case side1 => repeat (first | exact (Kd.C_below HR0_1.out HB.out) | (with_reducible refine Kd.C_alloc ?_ _) | (with_reducible refine Kd.C_drewN ?_ _) | (with_reducible refine Kd.C_drew ?_))); (case side2 => exact HC0_1.out); rintro e w53 ⟨rfl, hb⟩; have n0_ := Aside0.mk (blk_below (g := gb160) (o := .cells #[.string a0_0, .slice A0_1 l0_1.length c0_1] 27 (0, 0)) (by (with_reducible repeat (first | refine blk_drewN ?_ _ | refine blk_drew ?_ | refine blk_alloc ?_ _)); exact BK160.out) hb); have n1_ := Aside0.mk (below_step (by repeat (first | (with_reducible first | exact HB.out | apply below_alloc | apply pw_below_drewN | apply below_drew1 | refine below_set ?_ GE160.out) | exact HB.out)) hb); clear BK160; clear HB; have BK160 := n0_; have HB := n1_; clear n0_ n1_; (try clear hb); (try clear hb2); (try clear hk); (try clear hi); have hcz54_0 : w53.cell? ⟨gb160, 0, none⟩ = some (.string a0_0) := (blk_cell BK160.out 0).trans rfl; have hcz54_1 : w53.cell? ⟨gb160, 1, none⟩ = some (.slice A0_1 l0_1.length c0_1) := (blk_cell BK160.out 1).trans rfl; have hfz54_0 := blk_frozen BK160.out 0; have hfz54_1 := blk_frozen BK160.out 1) | (go_at_call 20; (with_reducible refine (gridhallref3_Unit.calls kj38 a0_0 _ _ l0_1 a1 t176 _ ?side1 ?side2 A49.out).mono ?_); (case side1 => repeat (first | exact (Kd.C_below HR0_1.out HB.out) | (with_reducible refine Kd.C_alloc ?_ _) | (with_reducible refine Kd.C_drewN ?_ _) | (with_reducible refine Kd.C_drew ?_))); (case side2 => exact HC0_1.out); rintro e w55 ⟨rfl, hb⟩; have n0_ := Aside0.mk (blk_below (g := gb160) (o := .cells #[.string a0_0, .slice A0_1 l0_1.length c0_1] 27 (0, 0)) (by (with_reducible repeat (first | refine blk_drewN ?_ _ | refine blk_drew ?_ | refine blk_alloc ?_ _)); exact BK160.out) hb); have n1_ := Aside0.mk (below_step (by repeat (first | (with_reducible first | exact HB.out | apply below_alloc | apply pw_below_drewN | apply below_drew1 | refine below_set ?_ GE160.out) | exact HB.out)) hb); clear BK160; clear HB; have BK160 := n0_; have HB := n1_; clear n0_ n1_; (try clear hb); (try clear hb2); (try clear hk); (try clear hi)))
                                    go_ret
                                    exact ⟨by first | rfl | (simp [errW_none, errW_some] <;> rfl) | (simp [*, errW_none, errW_some] <;> rfl), by repeat (first | (with_reducible first | exact HB.out | apply below_alloc | apply pw_below_drewN | apply below_drew1 | refine below_set ?_ GE160.out) | exact HB.out)⟩
                                  · rw [if_neg c48] at H
                                    have c48b0 : (t167 == t174) = false := beq_eq_false_iff_ne.mpr c48
                                    have c48b1 : (t167 != t174) = true := bne_iff_ne.mpr c48
                                    obtain rfl := Option.some.inj H
                                    have hcz56_0 : wc.cell? ⟨gb160, 0, none⟩ = some (.string a0_0) := (blk_cell BK160.out 0).trans rfl
                                    have hcz56_1 : wc.cell? ⟨gb160, 1, none⟩ = some (.slice A0_1 l0_1.length c0_1) := (blk_cell BK160.out 1).trans rfl
                                    have hfz56_0 := blk_frozen BK160.out 0
                                    have hfz56_1 := blk_frozen BK160.out 1
                                    go_wp2_with (first | ((with_reducible refine gate_callee (f := 20) rfl ?_); refine goesL_ (some 89) rfl rfl Try.func20 (by kernel_rfl) rfl #[.agg #[.string a0_0, .slice A0_1 l0_1.length c0_1], .int .i64 (wrap64 (a1 - 1))] rfl (by (try simp only [List.map_toArray, List.map_cons, List.map_nil]); first | done | rfl | (simp only [List.length_drop, List.length_take]; rfl)) ?_; (with_reducible refine (gridhallref3_Unit.calls kj38 a0_0 _ _ l0_1 (wrap64 (a1 - 1)) t174 _ ?side1 ?side2 A43.out).mono ?_); (case side1 => repeat (first | exact (Kd.C_below HR0_1.out HB.out) | (with_reducible refine Kd.C_alloc ?_ _) | (with_reducible refine Kd.C_drewN ?_ _) | (with_reducible refine Kd.C_drew ?_))); (case side2 => exact HC0_1.out); rintro e w57 ⟨rfl, hb⟩; refine ⟨_, rfl, ?_⟩; have n0_ := Aside0.mk (blk_below (g := gb160) (o := .cells #[.string a0_0, .slice A0_1 l0_1.length c0_1] 27 (0, 0)) (by (with_reducible repeat (first | refine blk_drewN ?_ _ | refine blk_drew ?_ | refine blk_alloc ?_ _)); exact BK160.out) hb); have n1_ := Aside0.mk (below_step (by repeat (first | (with_reducible first | exact HB.out | apply below_alloc | apply pw_below_drewN | apply below_drew1 | refine below_set ?_ GE160.out) | exact HB.out)) hb); clear BK160; clear HB; have BK160 := n0_; have HB := n1_; clear n0_ n1_; (try clear hb); (try clear hb2); (try clear hk); (try clear hi); have hcz58_0 : w57.cell? ⟨gb160, 0, none⟩ = some (.string a0_0) := (blk_cell BK160.out 0).trans rfl; have hcz58_1 : w57.cell? ⟨gb160, 1, none⟩ = some (.slice A0_1 l0_1.length c0_1) := (blk_cell BK160.out 1).trans rfl; have hfz58_0 := blk_frozen BK160.out 0; have hfz58_1 := blk_frozen BK160.out 1) | (go_at_call 21; (with_reducible refine (gridhallref3_Cost.calls kj38 a0_0 _ _ l0_1 a1 t175 _ ?side1 ?side2 A46.out).mono ?_); (case side1 => repeat (first | exact (Kd.C_below HR0_1.out HB.out) | (with_reducible refine Kd.C_alloc ?_ _) | (with_reducible refine Kd.C_drewN ?_ _) | (with_reducible refine Kd.C_drew ?_))); (case side2 => exact HC0_1.out); rintro e w59 ⟨rfl, hb⟩; have n0_ := Aside0.mk (blk_below (g := gb160) (o := .cells #[.string a0_0, .slice A0_1 l0_1.length c0_1] 27 (0, 0)) (by (with_reducible repeat (first | refine blk_drewN ?_ _ | refine blk_drew ?_ | refine blk_alloc ?_ _)); exact BK160.out) hb); have n1_ := Aside0.mk (below_step (by repeat (first | (with_reducible first | exact HB.out | apply below_alloc | apply pw_below_drewN | apply below_drew1 | refine below_set ?_ GE160.out) | exact HB.out)) hb); clear BK160; clear HB; have BK160 := n0_; have HB := n1_; clear n0_ n1_; (try clear hb); (try clear hb2); (try clear hk); (try clear hi)))
                                    go_ret
                                    exact ⟨by first | rfl | (simp [errW_none, errW_some] <;> rfl) | (simp [*, errW_none, errW_some] <;> rfl), by repeat (first | (with_reducible first | exact HB.out | apply below_alloc | apply pw_below_drewN | apply below_drew1 | refine below_set ?_ GE160.out) | exact HB.out)⟩
                                · rw [if_neg c47] at H
                                  have c47b0 : (t165 == t175) = false := beq_eq_false_iff_ne.mpr c47
                                  have c47b1 : (t165 != t175) = true := bne_iff_ne.mpr c47
                                  obtain rfl := Option.some.inj H
                                  have hcz60_0 : wc.cell? ⟨gb160, 0, none⟩ = some (.string a0_0) := (blk_cell BK160.out 0).trans rfl
                                  have hcz60_1 : wc.cell? ⟨gb160, 1, none⟩ = some (.slice A0_1 l0_1.length c0_1) := (blk_cell BK160.out 1).trans rfl
                                  have hfz60_0 := blk_frozen BK160.out 0
                                  have hfz60_1 := blk_frozen BK160.out 1
                                  go_wp2_with (first | ((with_reducible refine gate_callee (f := 20) rfl ?_); refine goesL_ (some 89) rfl rfl Try.func20 (by kernel_rfl) rfl #[.agg #[.string a0_0, .slice A0_1 l0_1.length c0_1], .int .i64 (wrap64 (a1 - 1))] rfl (by (try simp only [List.map_toArray, List.map_cons, List.map_nil]); first | done | rfl | (simp only [List.length_drop, List.length_take]; rfl)) ?_; (with_reducible refine (gridhallref3_Unit.calls kj38 a0_0 _ _ l0_1 (wrap64 (a1 - 1)) t174 _ ?side1 ?side2 A43.out).mono ?_); (case side1 => repeat (first | exact (Kd.C_below HR0_1.out HB.out) | (with_reducible refine Kd.C_alloc ?_ _) | (with_reducible refine Kd.C_drewN ?_ _) | (with_reducible refine Kd.C_drew ?_))); (case side2 => exact HC0_1.out); rintro e w61 ⟨rfl, hb⟩; refine ⟨_, rfl, ?_⟩; have n0_ := Aside0.mk (blk_below (g := gb160) (o := .cells #[.string a0_0, .slice A0_1 l0_1.length c0_1] 27 (0, 0)) (by (with_reducible repeat (first | refine blk_drewN ?_ _ | refine blk_drew ?_ | refine blk_alloc ?_ _)); exact BK160.out) hb); have n1_ := Aside0.mk (below_step (by repeat (first | (with_reducible first | exact HB.out | apply below_alloc | apply pw_below_drewN | apply below_drew1 | refine below_set ?_ GE160.out) | exact HB.out)) hb); clear BK160; clear HB; have BK160 := n0_; have HB := n1_; clear n0_ n1_; (try clear hb); (try clear hb2); (try clear hk); (try clear hi); have hcz62_0 : w61.cell? ⟨gb160, 0, none⟩ = some (.string a0_0) := (blk_cell BK160.out 0).trans rfl; have hcz62_1 : w61.cell? ⟨gb160, 1, none⟩ = some (.slice A0_1 l0_1.length c0_1) := (blk_cell BK160.out 1).trans rfl; have hfz62_0 := blk_frozen BK160.out 0; have hfz62_1 := blk_frozen BK160.out 1) | (go_at_call 21; (with_reducible refine (gridhallref3_Cost.calls kj38 a0_0 _ _ l0_1 a1 t175 _ ?side1 ?side2 A46.out).mono ?_); (case side1 => repeat (first | exact (Kd.C_below HR0_1.out HB.out) | (with_reducible refine Kd.C_alloc ?_ _) | (with_reducible refine Kd.C_drewN ?_ _) | (with_reducible refine Kd.C_drew ?_))); (case side2 => exact HC0_1.out); rintro e w63 ⟨rfl, hb⟩; have n0_ := Aside0.mk (blk_below (g := gb160) (o := .cells #[.string a0_0, .slice A0_1 l0_1.length c0_1] 27 (0, 0)) (by (with_reducible repeat (first | refine blk_drewN ?_ _ | refine blk_drew ?_ | refine blk_alloc ?_ _)); exact BK160.out) hb); have n1_ := Aside0.mk (below_step (by repeat (first | (with_reducible first | exact HB.out | apply below_alloc | apply pw_below_drewN | apply below_drew1 | refine below_set ?_ GE160.out) | exact HB.out)) hb); clear BK160; clear HB; have BK160 := n0_; have HB := n1_; clear n0_ n1_; (try clear hb); (try clear hb2); (try clear hk); (try clear hi)))
                                  go_ret
                                  exact ⟨by first | rfl | (simp [errW_none, errW_some] <;> rfl) | (simp [*, errW_none, errW_some] <;> rfl), by repeat (first | (with_reducible first | exact HB.out | apply below_alloc | apply pw_below_drewN | apply below_drew1 | refine below_set ?_ GE160.out) | exact HB.out)⟩
                              · rw [if_neg c45] at H
                                have c45b0 : (t169 == 0) = false := beq_eq_false_iff_ne.mpr c45
                                have c45b1 : (t169 != 0) = true := bne_iff_ne.mpr c45
                                obtain rfl := Option.some.inj H
                                have hcz64_0 : wc.cell? ⟨gb160, 0, none⟩ = some (.string a0_0) := (blk_cell BK160.out 0).trans rfl
                                have hcz64_1 : wc.cell? ⟨gb160, 1, none⟩ = some (.slice A0_1 l0_1.length c0_1) := (blk_cell BK160.out 1).trans rfl
                                have hfz64_0 := blk_frozen BK160.out 0
                                have hfz64_1 := blk_frozen BK160.out 1
                                go_wp2_with (first | ((with_reducible refine gate_callee (f := 20) rfl ?_); refine goesL_ (some 89) rfl rfl Try.func20 (by kernel_rfl) rfl #[.agg #[.string a0_0, .slice A0_1 l0_1.length c0_1], .int .i64 (wrap64 (a1 - 1))] rfl (by (try simp only [List.map_toArray, List.map_cons, List.map_nil]); first | done | rfl | (simp only [List.length_drop, List.length_take]; rfl)) ?_; (with_reducible refine (gridhallref3_Unit.calls kj38 a0_0 _ _ l0_1 (wrap64 (a1 - 1)) t174 _ ?side1 ?side2 A43.out).mono ?_); (case side1 => repeat (first | exact (Kd.C_below HR0_1.out HB.out) | (with_reducible refine Kd.C_alloc ?_ _) | (with_reducible refine Kd.C_drewN ?_ _) | (with_reducible refine Kd.C_drew ?_))); (case side2 => exact HC0_1.out); rintro e w65 ⟨rfl, hb⟩; refine ⟨_, rfl, ?_⟩; have n0_ := Aside0.mk (blk_below (g := gb160) (o := .cells #[.string a0_0, .slice A0_1 l0_1.length c0_1] 27 (0, 0)) (by (with_reducible repeat (first | refine blk_drewN ?_ _ | refine blk_drew ?_ | refine blk_alloc ?_ _)); exact BK160.out) hb); have n1_ := Aside0.mk (below_step (by repeat (first | (with_reducible first | exact HB.out | apply below_alloc | apply pw_below_drewN | apply below_drew1 | refine below_set ?_ GE160.out) | exact HB.out)) hb); clear BK160; clear HB; have BK160 := n0_; have HB := n1_; clear n0_ n1_; (try clear hb); (try clear hb2); (try clear hk); (try clear hi)))
                                go_ret
                                exact ⟨by first | rfl | (simp [errW_none, errW_some] <;> rfl) | (simp [*, errW_none, errW_some] <;> rfl), by repeat (first | (with_reducible first | exact HB.out | apply below_alloc | apply pw_below_drewN | apply below_drew1 | refine below_set ?_ GE160.out) | exact HB.out)⟩
                            · rw [if_neg c44] at H
                              have c44b0 : (t166 == 0) = false := beq_eq_false_iff_ne.mpr c44
                              have c44b1 : (t166 != 0) = true := bne_iff_ne.mpr c44
                              obtain rfl := Option.some.inj H
                              have hcz66_0 : wc.cell? ⟨gb160, 0, none⟩ = some (.string a0_0) := (blk_cell BK160.out 0).trans rfl
                              have hcz66_1 : wc.cell? ⟨gb160, 1, none⟩ = some (.slice A0_1 l0_1.length c0_1) := (blk_cell BK160.out 1).trans rfl
                              have hfz66_0 := blk_frozen BK160.out 0
                              have hfz66_1 := blk_frozen BK160.out 1
                              go_wp2_with (first | ((with_reducible refine gate_callee (f := 20) rfl ?_); refine goesL_ (some 89) rfl rfl Try.func20 (by kernel_rfl) rfl #[.agg #[.string a0_0, .slice A0_1 l0_1.length c0_1], .int .i64 (wrap64 (a1 - 1))] rfl (by (try simp only [List.map_toArray, List.map_cons, List.map_nil]); first | done | rfl | (simp only [List.length_drop, List.length_take]; rfl)) ?_; (with_reducible refine (gridhallref3_Unit.calls kj38 a0_0 _ _ l0_1 (wrap64 (a1 - 1)) t174 _ ?side1 ?side2 A43.out).mono ?_); (case side1 => repeat (first | exact (Kd.C_below HR0_1.out HB.out) | (with_reducible refine Kd.C_alloc ?_ _) | (with_reducible refine Kd.C_drewN ?_ _) | (with_reducible refine Kd.C_drew ?_))); (case side2 => exact HC0_1.out); rintro e w67 ⟨rfl, hb⟩; refine ⟨_, rfl, ?_⟩; have n0_ := Aside0.mk (blk_below (g := gb160) (o := .cells #[.string a0_0, .slice A0_1 l0_1.length c0_1] 27 (0, 0)) (by (with_reducible repeat (first | refine blk_drewN ?_ _ | refine blk_drew ?_ | refine blk_alloc ?_ _)); exact BK160.out) hb); have n1_ := Aside0.mk (below_step (by repeat (first | (with_reducible first | exact HB.out | apply below_alloc | apply pw_below_drewN | apply below_drew1 | refine below_set ?_ GE160.out) | exact HB.out)) hb); clear BK160; clear HB; have BK160 := n0_; have HB := n1_; clear n0_ n1_; (try clear hb); (try clear hb2); (try clear hk); (try clear hi)))
                              go_ret
                              exact ⟨by first | rfl | (simp [errW_none, errW_some] <;> rfl) | (simp [*, errW_none, errW_some] <;> rfl), by repeat (first | (with_reducible first | exact HB.out | apply below_alloc | apply pw_below_drewN | apply below_drew1 | refine below_set ?_ GE160.out) | exact HB.out)⟩
                          · rw [if_neg c42] at H
                            have c42b0 : decide (0 < a1) = false := decide_eq_false c42
                            clear c42
                            by_cases c68 : t166 = 0
                            · rw [if_pos c68] at H
                              have c68b0 : (t166 == 0) = true := beq_iff_eq.mpr c68
                              have c68b1 : (t166 != 0) = false := bne_eq_false_iff_eq.mpr c68
                              clear c68
                              by_cases c69 : t169 = 0
                              · rw [if_pos c69] at H
                                have c69b0 : (t169 == 0) = true := beq_iff_eq.mpr c69
                                have c69b1 : (t169 != 0) = false := bne_eq_false_iff_eq.mpr c69
                                clear c69
                                replace H := Option.bind_eq_some_iff.mp H
                                obtain ⟨t177, A700, H⟩ := H
                                replace H : (if t165 = t177 then (if t167 = (-2000000) then ((gridhallref3_Unit.f kj38 a0_0 l0_1 a1).bind fun t178 => (some (t168 == t178))) else (some false)) else (some false)) = some r := H
                                have A70 := Aside0.mk A700
                                clear A700
                                by_cases c71 : t165 = t177
                                · rw [if_pos c71] at H
                                  have c71b0 : (t165 == t177) = true := beq_iff_eq.mpr c71
                                  have c71b1 : (t165 != t177) = false := bne_eq_false_iff_eq.mpr c71
                                  clear c71
                                  by_cases c72 : t167 = (-2000000)
                                  · rw [if_pos c72] at H
                                    have c72b0 : (t167 == (-2000000)) = true := beq_iff_eq.mpr c72
                                    have c72b1 : (t167 != (-2000000)) = false := bne_eq_false_iff_eq.mpr c72
                                    clear c72
                                    replace H := Option.bind_eq_some_iff.mp H
                                    obtain ⟨t178, A730, H⟩ := H
                                    replace H : (some (t168 == t178)) = some r := H
                                    have A73 := Aside0.mk A730
                                    clear A730
                                    obtain rfl := Option.some.inj H
                                    have hcz74_0 : wc.cell? ⟨gb160, 0, none⟩ = some (.string a0_0) := (blk_cell BK160.out 0).trans rfl
                                    have hcz74_1 : wc.cell? ⟨gb160, 1, none⟩ = some (.slice A0_1 l0_1.length c0_1) := (blk_cell BK160.out 1).trans rfl
                                    have hfz74_0 := blk_frozen BK160.out 0
                                    have hfz74_1 := blk_frozen BK160.out 1
                                    go_wp2_with (first | (go_at_call 21; (with_reducible refine (gridhallref3_Cost.calls kj38 a0_0 _ _ l0_1 a1 t177 _ ?side1 ?side2 A70.out).mono ?_); (case side1 => repeat (first | exact (Kd.C_below HR0_1.out HB.out) | (with_reducible refine Kd.C_alloc ?_ _) | (with_reducible refine Kd.C_drewN ?_ _) | (with_reducible refine Kd.C_drew ?_))); (case side2 => exact HC0_1.out); rintro e w75 ⟨rfl, hb⟩; have n0_ := Aside0.mk (blk_below (g := gb160) (o := .cells #[.string a0_0, .slice A0_1 l0_1.length c0_1] 27 (0, 0)) (by (with_reducible repeat (first | refine blk_drewN ?_ _ | refine blk_drew ?_ | refine blk_alloc ?_ _)); exact BK160.out) hb); have n1_ := Aside0.mk (below_step (by repeat (first | (with_reducible first | exact HB.out | apply below_alloc | apply pw_below_drewN | apply below_drew1 | refine below_set ?_ GE160.out) | exact HB.out)) hb); clear BK160; clear HB; have BK160 := n0_; have HB := n1_; clear n0_ n1_; (try clear hb); (try clear hb2); (try clear hk); (try clear hi); have hcz76_0 : w75.cell? ⟨gb160, 0, none⟩ = some (.string a0_0) := (blk_cell BK160.out 0).trans rfl; have hcz76_1 : w75.cell? ⟨gb160, 1, none⟩ = some (.slice A0_1 l0_1.length c0_1) := (blk_cell BK160.out 1).trans rfl; have hfz76_0 := blk_frozen BK160.out 0; have hfz76_1 := blk_frozen BK160.out 1) | (go_at_call 20; (with_reducible refine (gridhallref3_Unit.calls kj38 a0_0 _ _ l0_1 a1 t178 _ ?side1 ?side2 A73.out).mono ?_); (case side1 => repeat (first | exact (Kd.C_below HR0_1.out HB.out) | (with_reducible refine Kd.C_alloc ?_ _) | (with_reducible refine Kd.C_drewN ?_ _) | (with_reducible refine Kd.C_drew ?_))); (case side2 => exact HC0_1.out); rintro e w77 ⟨rfl, hb⟩; have n0_ := Aside0.mk (blk_below (g := gb160) (o := .cells #[.string a0_0, .slice A0_1 l0_1.length c0_1] 27 (0, 0)) (by (with_reducible repeat (first | refine blk_drewN ?_ _ | refine blk_drew ?_ | refine blk_alloc ?_ _)); exact BK160.out) hb); have n1_ := Aside0.mk (below_step (by repeat (first | (with_reducible first | exact HB.out | apply below_alloc | apply pw_below_drewN | apply below_drew1 | refine below_set ?_ GE160.out) | exact HB.out)) hb); clear BK160; clear HB; have BK160 := n0_; have HB := n1_; clear n0_ n1_; (try clear hb); (try clear hb2); (try clear hk); (try clear hi)))
                                    go_ret
                                    exact ⟨by first | rfl | (simp [errW_none, errW_some] <;> rfl) | (simp [*, errW_none, errW_some] <;> rfl), by repeat (first | (with_reducible first | exact HB.out | apply below_alloc | apply pw_below_drewN | apply below_drew1 | refine below_set ?_ GE160.out) | exact HB.out)⟩
                                  · rw [if_neg c72] at H
                                    have c72b0 : (t167 == (-2000000)) = false := beq_eq_false_iff_ne.mpr c72
                                    have c72b1 : (t167 != (-2000000)) = true := bne_iff_ne.mpr c72
                                    obtain rfl := Option.some.inj H
                                    have hcz78_0 : wc.cell? ⟨gb160, 0, none⟩ = some (.string a0_0) := (blk_cell BK160.out 0).trans rfl
                                    have hcz78_1 : wc.cell? ⟨gb160, 1, none⟩ = some (.slice A0_1 l0_1.length c0_1) := (blk_cell BK160.out 1).trans rfl
                                    have hfz78_0 := blk_frozen BK160.out 0
                                    have hfz78_1 := blk_frozen BK160.out 1
                                    go_wp2_with (first | (go_at_call 21; (with_reducible refine (gridhallref3_Cost.calls kj38 a0_0 _ _ l0_1 a1 t177 _ ?side1 ?side2 A70.out).mono ?_); (case side1 => repeat (first | exact (Kd.C_below HR0_1.out HB.out) | (with_reducible refine Kd.C_alloc ?_ _) | (with_reducible refine Kd.C_drewN ?_ _) | (with_reducible refine Kd.C_drew ?_))); (case side2 => exact HC0_1.out); rintro e w79 ⟨rfl, hb⟩; have n0_ := Aside0.mk (blk_below (g := gb160) (o := .cells #[.string a0_0, .slice A0_1 l0_1.length c0_1] 27 (0, 0)) (by (with_reducible repeat (first | refine blk_drewN ?_ _ | refine blk_drew ?_ | refine blk_alloc ?_ _)); exact BK160.out) hb); have n1_ := Aside0.mk (below_step (by repeat (first | (with_reducible first | exact HB.out | apply below_alloc | apply pw_below_drewN | apply below_drew1 | refine below_set ?_ GE160.out) | exact HB.out)) hb); clear BK160; clear HB; have BK160 := n0_; have HB := n1_; clear n0_ n1_; (try clear hb); (try clear hb2); (try clear hk); (try clear hi)))
                                    go_ret
                                    exact ⟨by first | rfl | (simp [errW_none, errW_some] <;> rfl) | (simp [*, errW_none, errW_some] <;> rfl), by repeat (first | (with_reducible first | exact HB.out | apply below_alloc | apply pw_below_drewN | apply below_drew1 | refine below_set ?_ GE160.out) | exact HB.out)⟩
                                · rw [if_neg c71] at H
                                  have c71b0 : (t165 == t177) = false := beq_eq_false_iff_ne.mpr c71
                                  have c71b1 : (t165 != t177) = true := bne_iff_ne.mpr c71
                                  obtain rfl := Option.some.inj H
                                  have hcz80_0 : wc.cell? ⟨gb160, 0, none⟩ = some (.string a0_0) := (blk_cell BK160.out 0).trans rfl
                                  have hcz80_1 : wc.cell? ⟨gb160, 1, none⟩ = some (.slice A0_1 l0_1.length c0_1) := (blk_cell BK160.out 1).trans rfl
                                  have hfz80_0 := blk_frozen BK160.out 0
                                  have hfz80_1 := blk_frozen BK160.out 1
                                  go_wp2_with (first | (go_at_call 21; (with_reducible refine (gridhallref3_Cost.calls kj38 a0_0 _ _ l0_1 a1 t177 _ ?side1 ?side2 A70.out).mono ?_); (case side1 => repeat (first | exact (Kd.C_below HR0_1.out HB.out) | (with_reducible refine Kd.C_alloc ?_ _) | (with_reducible refine Kd.C_drewN ?_ _) | (with_reducible refine Kd.C_drew ?_))); (case side2 => exact HC0_1.out); rintro e w81 ⟨rfl, hb⟩; have n0_ := Aside0.mk (blk_below (g := gb160) (o := .cells #[.string a0_0, .slice A0_1 l0_1.length c0_1] 27 (0, 0)) (by (with_reducible repeat (first | refine blk_drewN ?_ _ | refine blk_drew ?_ | refine blk_alloc ?_ _)); exact BK160.out) hb); have n1_ := Aside0.mk (below_step (by repeat (first | (with_reducible first | exact HB.out | apply below_alloc | apply pw_below_drewN | apply below_drew1 | refine below_set ?_ GE160.out) | exact HB.out)) hb); clear BK160; clear HB; have BK160 := n0_; have HB := n1_; clear n0_ n1_; (try clear hb); (try clear hb2); (try clear hk); (try clear hi)))
                                  go_ret
                                  exact ⟨by first | rfl | (simp [errW_none, errW_some] <;> rfl) | (simp [*, errW_none, errW_some] <;> rfl), by repeat (first | (with_reducible first | exact HB.out | apply below_alloc | apply pw_below_drewN | apply below_drew1 | refine below_set ?_ GE160.out) | exact HB.out)⟩
                              · rw [if_neg c69] at H
                                have c69b0 : (t169 == 0) = false := beq_eq_false_iff_ne.mpr c69
                                have c69b1 : (t169 != 0) = true := bne_iff_ne.mpr c69
                                obtain rfl := Option.some.inj H
                                go_wp2
                                go_ret
                                exact ⟨by first | rfl | (simp [errW_none, errW_some] <;> rfl) | (simp [*, errW_none, errW_some] <;> rfl), by repeat (first | (with_reducible first | exact HB.out | apply below_alloc | apply pw_below_drewN | apply below_drew1 | refine below_set ?_ GE160.out) | exact HB.out)⟩
                            · rw [if_neg c68] at H
                              have c68b0 : (t166 == 0) = false := beq_eq_false_iff_ne.mpr c68
                              have c68b1 : (t166 != 0) = true := bne_iff_ne.mpr c68
                              obtain rfl := Option.some.inj H
                              go_wp2
                              go_ret
                              exact ⟨by first | rfl | (simp [errW_none, errW_some] <;> rfl) | (simp [*, errW_none, errW_some] <;> rfl), by repeat (first | (with_reducible first | exact HB.out | apply below_alloc | apply pw_below_drewN | apply below_drew1 | refine below_set ?_ GE160.out) | exact HB.out)⟩
                        · rw [if_neg c41] at H
                          have c41b0 : (x5_38 == 0) = false := beq_eq_false_iff_ne.mpr c41
                          have c41b1 : (x5_38 != 0) = true := bne_iff_ne.mpr c41
                          by_cases c82 : t166 = x5_38
                          · rw [if_pos c82] at H
                            have c82b0 : (t166 == x5_38) = true := beq_iff_eq.mpr c82
                            have c82b1 : (t166 != x5_38) = false := bne_eq_false_iff_eq.mpr c82
                            clear c82
                            by_cases c83 : t169 = x5_38
                            · rw [if_pos c83] at H
                              have c83b0 : (t169 == x5_38) = true := beq_iff_eq.mpr c83
                              have c83b1 : (t169 != x5_38) = false := bne_eq_false_iff_eq.mpr c83
                              clear c83
                              by_cases c84 : t165 = 0
                              · rw [if_pos c84] at H
                                have c84b0 : (t165 == 0) = true := beq_iff_eq.mpr c84
                                have c84b1 : (t165 != 0) = false := bne_eq_false_iff_eq.mpr c84
                                clear c84
                                by_cases c85 : t167 = 0
                                · rw [if_pos c85] at H
                                  have c85b0 : (t167 == 0) = true := beq_iff_eq.mpr c85
                                  have c85b1 : (t167 != 0) = false := bne_eq_false_iff_eq.mpr c85
                                  clear c85
                                  obtain rfl := Option.some.inj H
                                  go_wp2
                                  go_ret
                                  exact ⟨by first | rfl | (simp [errW_none, errW_some] <;> rfl) | (simp [*, errW_none, errW_some] <;> rfl), by repeat (first | (with_reducible first | exact HB.out | apply below_alloc | apply pw_below_drewN | apply below_drew1 | refine below_set ?_ GE160.out) | exact HB.out)⟩
                                · rw [if_neg c85] at H
                                  have c85b0 : (t167 == 0) = false := beq_eq_false_iff_ne.mpr c85
                                  have c85b1 : (t167 != 0) = true := bne_iff_ne.mpr c85
                                  obtain rfl := Option.some.inj H
                                  go_wp2
                                  go_ret
                                  exact ⟨by first | rfl | (simp [errW_none, errW_some] <;> rfl) | (simp [*, errW_none, errW_some] <;> rfl), by repeat (first | (with_reducible first | exact HB.out | apply below_alloc | apply pw_below_drewN | apply below_drew1 | refine below_set ?_ GE160.out) | exact HB.out)⟩
                              · rw [if_neg c84] at H
                                have c84b0 : (t165 == 0) = false := beq_eq_false_iff_ne.mpr c84
                                have c84b1 : (t165 != 0) = true := bne_iff_ne.mpr c84
                                obtain rfl := Option.some.inj H
                                go_wp2
                                go_ret
                                exact ⟨by first | rfl | (simp [errW_none, errW_some] <;> rfl) | (simp [*, errW_none, errW_some] <;> rfl), by repeat (first | (with_reducible first | exact HB.out | apply below_alloc | apply pw_below_drewN | apply below_drew1 | refine below_set ?_ GE160.out) | exact HB.out)⟩
                            · rw [if_neg c83] at H
                              have c83b0 : (t169 == x5_38) = false := beq_eq_false_iff_ne.mpr c83
                              have c83b1 : (t169 != x5_38) = true := bne_iff_ne.mpr c83
                              obtain rfl := Option.some.inj H
                              go_wp2
                              go_ret
                              exact ⟨by first | rfl | (simp [errW_none, errW_some] <;> rfl) | (simp [*, errW_none, errW_some] <;> rfl), by repeat (first | (with_reducible first | exact HB.out | apply below_alloc | apply pw_below_drewN | apply below_drew1 | refine below_set ?_ GE160.out) | exact HB.out)⟩
                          · rw [if_neg c82] at H
                            have c82b0 : (t166 == x5_38) = false := beq_eq_false_iff_ne.mpr c82
                            have c82b1 : (t166 != x5_38) = true := bne_iff_ne.mpr c82
                            obtain rfl := Option.some.inj H
                            go_wp2
                            go_ret
                            exact ⟨by first | rfl | (simp [errW_none, errW_some] <;> rfl) | (simp [*, errW_none, errW_some] <;> rfl), by repeat (first | (with_reducible first | exact HB.out | apply below_alloc | apply pw_below_drewN | apply below_drew1 | refine below_set ?_ GE160.out) | exact HB.out)⟩
  · replace c4 := Bool.eq_false_iff.mpr c4
    subst c4
    have H1 : (some false) = some r := by rw [if_neg (show ¬ (false = true) by decide)] at H; exact H
    clear H
    have H := H1
    clear H1
    obtain rfl := Option.some.inj H
    go_enter Try.func4, Try.ntmps4
    go_wp2_with (first | ((with_reducible refine gate_dst (N := 2) rfl ?_); refine box_event ?hg (N := 2) ?hd (cs := #[.string a0_0, .slice A0_1 l0_1.length c0_1]) (t := 27) ?hr ?_; (case hd => rfl); (case hg => rfl); (case hr => first | (go_simp; done) | (go_simp; rfl)); intro gb160 hg w86 hbox hb; have n0_ := Aside0.mk (below_step (by repeat (first | (with_reducible first | exact HB.out | apply below_alloc | apply pw_below_drewN | apply below_drew1) | exact HB.out)) hb); have n1_ := Aside0.mk (hbox); have n2_ := Aside0.mk ((by rw [hg]; exact (below_size (by repeat (first | (with_reducible first | exact HB.out | apply below_alloc | apply pw_below_drewN | apply below_drew1) | exact HB.out))) : w.heap.size ≤ gb160)); have n3_ := Aside0.mk ((by rw [hg]; exact (below_size (by repeat (first | (with_reducible first | exact HB.out | apply below_alloc | apply pw_below_drewN | apply below_drew1) | exact HB.out))) : w.heap.size ≤ gb160)); clear HB; have HB := n0_; have BK160 := n1_; have GW160 := n2_; have GE160 := n3_; clear n0_ n1_ n2_ n3_; clear hb hbox hg) | ((with_reducible refine gate_callee (f := 11) rfl ?_); refine goesL_ (some 14) rfl rfl Try.func11 (by kernel_rfl) rfl #[] rfl (by (try simp only [List.map_toArray, List.map_cons, List.map_nil]); first | done | rfl | (simp only [List.length_drop, List.length_take]; rfl)) ?_; (with_reducible refine (gridhalllaw3_costs.calls k  false _ A3.out).mono ?_); rintro e w87 ⟨rfl, hb⟩; refine ⟨_, rfl, ?_⟩; have n0_ := Aside0.mk (blk_below (g := gb160) (o := .cells #[.string a0_0, .slice A0_1 l0_1.length c0_1] 27 (0, 0)) (by (with_reducible repeat (first | refine blk_drewN ?_ _ | refine blk_drew ?_ | refine blk_alloc ?_ _)); exact BK160.out) hb); have n1_ := Aside0.mk (below_step (by repeat (first | (with_reducible first | exact HB.out | apply below_alloc | apply pw_below_drewN | apply below_drew1 | refine below_set ?_ GE160.out) | exact HB.out)) hb); clear BK160; clear HB; have BK160 := n0_; have HB := n1_; clear n0_ n1_; (try clear hb); (try clear hb2); (try clear hk); (try clear hi)))
    go_ret
    exact ⟨by first | rfl | (simp [errW_none, errW_some] <;> rfl) | (simp [*, errW_none, errW_some] <;> rfl), by repeat (first | (with_reducible first | exact HB.out | apply below_alloc | apply pw_below_drewN | apply below_drew1 | refine below_set ?_ GE160.out) | exact HB.out)⟩

end Go.Proofs.Ytdhboohbifmbnaa.POfferCosts
