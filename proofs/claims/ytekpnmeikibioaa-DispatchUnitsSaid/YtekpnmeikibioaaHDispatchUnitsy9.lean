/- Contracts of functions that DispatchUnits reaches, a text of this session's own. -/
import Derived.Test.YtekpnmeikibioaaHDispatchUnitsy0
import Derived.Test.YtekpnmeikibioaaHDispatchUnitsy1
import Derived.Test.YtekpnmeikibioaaHDispatchUnitsy5
import Derived.Test.YtekpnmeikibioaaHDispatchUnitsy6
import Derived.Test.YtekpnmeikibioaaHDispatchUnitsy7
import Derived.Test.YtekpnmeikibioaaHDispatchUnitsy8
namespace Go.Proofs.Ytekpnmeikibioaa.PDispatchUnits
open Go.RowKit Go.Proofs.YtekpnmeikibioaaW.PrintWords Go.Proofs.YtekpnmeikibioaaW.PrintLast Go.Proofs.YtekpnmeikibioaaW.PrintMore
attribute [local go_sem] max2_int min2_int max_two min_two max_three min_three max_four min_four   -- for this text's walks alone
set_option linter.unusedVariables false
set_option linter.unusedSimpArgs false

/-! ### gridhalllaw3_DispatchUnits: function 5 -/
mutual
def gridhalllaw3_DispatchUnits.j0 : Nat → List (S29) → Int → Bool → Option (Bool)
  | 0, _, _, _ => none
  | k + 1, x0, x1, x43 => if x43 = true then (some false) else ((dispatch_Best.f k x0 x1).bind fun bt242 => ((dispatch_Price.f k x0 x1).bind fun bt247 => ((gridhallref3_OffersError.f k x0).bind fun t250 => (if t250 = 0 then (gridhalllaw3_DispatchUnits.l0 k x0 x1 bt242.1 bt242.2.1 bt242.2.2 bt247.1 bt247.2.1 bt247.2.2 t250 0 x0 (x0.length : Int) 0) else (gridhalllaw3_DispatchUnits.j2 k x0 x1 bt242.1 bt242.2.1 bt242.2.2 bt247.1 bt247.2.1 bt247.2.2 t250)))))
def gridhalllaw3_DispatchUnits.j2 : Nat → List (S29) → Int → List Int → Int → Int → Int → Int → Int → Int → Option (Bool)
  | 0, _, _, _, _, _, _, _, _, _ => none
  | k + 1, x0, x1, x8, x9, x10, x11, x12, x13, x14 => if x14 = 0 then (if x1 > 200 then (some true) else ((gridhallref3_Served.f k x0 x1).bind fun t255 => (gridhalllaw3_DispatchUnits.l1 k x8 x9 x10 x11 x12 x13 t255 0 (-2000000) 2000000 x0 (x0.length : Int) 0))) else (if x10 = x14 then (if x13 = x14 then (if (x8.length : Int) = 0 then (if x9 = 0 then (if x11 = 0 then (some (x12 == 0)) else (some false)) else (some false)) else (some false)) else (some false)) else (some false))
def gridhalllaw3_DispatchUnits.l1 : Nat → List Int → Int → Int → Int → Int → Int → List Int → Int → Int → Int → List (S29) → Int → Int → Option (Bool)
  | 0, _, _, _, _, _, _, _, _, _, _, _, _, _ => none
  | k + 1, x8, x9, x10, x11, x12, x13, x18, x19, x20, x21, x111, x112, x113 => if x113 < x112 then (if 0 ≤ x113 then (if x113 < (x111.length : Int) then (if x113 < (x18.length : Int) then ((gridhallref3_Cost.f k ((rd_T29 x111 x113).f0) ((rd_T29 x111 x113).f1) (rd x18 x113)).bind fun t262 => (if (rd x18 x113) > 0 then ((gridhallref3_Unit.f k ((rd_T29 x111 x113).f0) ((rd_T29 x111 x113).f1) (wrap64 ((rd x18 x113) - 1))).bind fun t265 => ((gridhallref3_Unit.f k ((rd_T29 x111 x113).f0) ((rd_T29 x111 x113).f1) (rd x18 x113)).bind fun t267 => (gridhalllaw3_DispatchUnits.l1 k x8 x9 x10 x11 x12 x13 x18 (wrap64 (x19 + t262)) (mx x20 t265) (mn x21 t267) x111 x112 (wrap64 (x113 + 1))))) else ((gridhallref3_Unit.f k ((rd_T29 x111 x113).f0) ((rd_T29 x111 x113).f1) (rd x18 x113)).bind fun t269 => (gridhalllaw3_DispatchUnits.l1 k x8 x9 x10 x11 x12 x13 x18 (wrap64 (x19 + t262)) x20 (mn x21 t269) x111 x112 (wrap64 (x113 + 1)))))) else (none)) else (none)) else (none)) else (if x10 = 0 then (if x13 = 0 then ((gridhallref3_SameInts.f k x8 x18).bind fun t258 => (if t258 = true then (if x9 = x19 then (if x11 = x20 then (some (x12 == x21)) else (some false)) else (some false)) else (some false))) else (some false)) else (some false))
def gridhalllaw3_DispatchUnits.l0 : Nat → List (S29) → Int → List Int → Int → Int → Int → Int → Int → Int → Int → List (S29) → Int → Int → Option (Bool)
  | 0, _, _, _, _, _, _, _, _, _, _, _, _, _ => none
  | k + 1, x0, x1, x8, x9, x10, x11, x12, x13, x14, x15, x62, x63, x64 => if x64 < x63 then (if 0 ≤ x64 then (if x64 < (x62.length : Int) then ((gridhallref3_All.f k ((rd_T29 x62 x64).f0) ((rd_T29 x62 x64).f1)).bind fun t253 => (gridhalllaw3_DispatchUnits.l0 k x0 x1 x8 x9 x10 x11 x12 x13 x14 (wrap64 (x15 + t253)) x62 x63 (wrap64 (x64 + 1)))) else (none)) else (none)) else ((gridhallref3_In.f x1 0 1000000).bind fun t254 => (if t254 = true then (if x1 > x15 then (gridhalllaw3_DispatchUnits.j2 k x0 x1 x8 x9 x10 x11 x12 x13 8) else (gridhalllaw3_DispatchUnits.j2 k x0 x1 x8 x9 x10 x11 x12 x13 x14)) else (gridhalllaw3_DispatchUnits.j2 k x0 x1 x8 x9 x10 x11 x12 x13 4)))
end
def gridhalllaw3_DispatchUnits.f (k : Nat) (l0 : List (S29)) (a1 : Int) : Option (Bool) := (gridhalllaw3_two.f (⟨#[65]⟩ : ByteArray)).bind fun bt222 => ((gridhalllaw3_two.f (⟨#[66]⟩ : ByteArray)).bind fun bt226 => ((dispatch_Best.f k (([(⟨bt222.1, bt222.2⟩ : S29), (⟨bt226.1, bt226.2⟩ : S29)] : List (S29))) 22).bind fun bt233 => (if bt233.2.2 = 0 then (if bt233.2.1 = 116 then ((gridhallref3_SameInts.f k bt233.1 (([12, 10] : List Int))).bind fun t241 => (gridhalllaw3_DispatchUnits.j0 k l0 a1 (!t241))) else (gridhalllaw3_DispatchUnits.j0 k l0 a1 true)) else (gridhalllaw3_DispatchUnits.j0 k l0 a1 true))))
theorem gridhalllaw3_DispatchUnits.mono_l : ∀ k, (∀ y0 y1 y2, LeO (gridhalllaw3_DispatchUnits.j0 k y0 y1 y2) (gridhalllaw3_DispatchUnits.j0 (k + 1) y0 y1 y2)) ∧ (∀ y0 y1 y2 y3 y4 y5 y6 y7 y8, LeO (gridhalllaw3_DispatchUnits.j2 k y0 y1 y2 y3 y4 y5 y6 y7 y8) (gridhalllaw3_DispatchUnits.j2 (k + 1) y0 y1 y2 y3 y4 y5 y6 y7 y8)) ∧ (∀ y0 y1 y2 y3 y4 y5 y6 y7 y8 y9 y10 y11 y12, LeO (gridhalllaw3_DispatchUnits.l1 k y0 y1 y2 y3 y4 y5 y6 y7 y8 y9 y10 y11 y12) (gridhalllaw3_DispatchUnits.l1 (k + 1) y0 y1 y2 y3 y4 y5 y6 y7 y8 y9 y10 y11 y12)) ∧ (∀ y0 y1 y2 y3 y4 y5 y6 y7 y8 y9 y10 y11 y12, LeO (gridhalllaw3_DispatchUnits.l0 k y0 y1 y2 y3 y4 y5 y6 y7 y8 y9 y10 y11 y12) (gridhalllaw3_DispatchUnits.l0 (k + 1) y0 y1 y2 y3 y4 y5 y6 y7 y8 y9 y10 y11 y12))
  | 0 => ⟨fun _ _ _ r h => by simp [gridhalllaw3_DispatchUnits.j0] at h, fun _ _ _ _ _ _ _ _ _ r h => by simp [gridhalllaw3_DispatchUnits.j2] at h, fun _ _ _ _ _ _ _ _ _ _ _ _ _ r h => by simp [gridhalllaw3_DispatchUnits.l1] at h, fun _ _ _ _ _ _ _ _ _ _ _ _ _ r h => by simp [gridhalllaw3_DispatchUnits.l0] at h⟩
  | k + 1 => by
    obtain ⟨ih0, ih1, ih2, ih3⟩ := gridhalllaw3_DispatchUnits.mono_l k
    refine ⟨?_, ?_, ?_, ?_⟩
    · intro y0 y1 y2
      unfold gridhalllaw3_DispatchUnits.j0
      repeat' first
      | (with_reducible exact ih0 _ _ _)
      | (with_reducible exact ih1 _ _ _ _ _ _ _ _ _)
      | (with_reducible exact ih2 _ _ _ _ _ _ _ _ _ _ _ _ _)
      | (with_reducible exact ih3 _ _ _ _ _ _ _ _ _ _ _ _ _)
      | (with_reducible exact dispatch_Best.mono _ _ _)
      | (with_reducible exact dispatch_Price.mono _ _ _)
      | (with_reducible exact gridhallref3_All.mono _ _ _)
      | (with_reducible exact gridhallref3_Cost.mono _ _ _ _)
      | (with_reducible exact gridhallref3_OffersError.mono _ _)
      | (with_reducible exact gridhallref3_SameInts.mono _ _ _)
      | (with_reducible exact gridhallref3_Served.mono _ _ _)
      | (with_reducible exact gridhallref3_Unit.mono _ _ _ _)
      | (with_reducible exact LeO.refl _)
      | (with_reducible exact LeO.none _)
      | (with_reducible refine LeO.ite ?_ ?_)
      | (with_reducible refine LeO.bind ?_ (fun _ => ?_))
      | exact ih0 _ _ _
      | exact ih1 _ _ _ _ _ _ _ _ _
      | exact ih2 _ _ _ _ _ _ _ _ _ _ _ _ _
      | exact ih3 _ _ _ _ _ _ _ _ _ _ _ _ _
      | exact dispatch_Best.mono _ _ _
      | exact dispatch_Price.mono _ _ _
      | exact gridhallref3_All.mono _ _ _
      | exact gridhallref3_Cost.mono _ _ _ _
      | exact gridhallref3_OffersError.mono _ _
      | exact gridhallref3_SameInts.mono _ _ _
      | exact gridhallref3_Served.mono _ _ _
      | exact gridhallref3_Unit.mono _ _ _ _
      | exact LeO.none _
      | refine LeO.ite ?_ ?_
      | refine LeO.bind ?_ (fun _ => ?_)
    · intro y0 y1 y2 y3 y4 y5 y6 y7 y8
      unfold gridhalllaw3_DispatchUnits.j2
      repeat' first
      | (with_reducible exact ih0 _ _ _)
      | (with_reducible exact ih1 _ _ _ _ _ _ _ _ _)
      | (with_reducible exact ih2 _ _ _ _ _ _ _ _ _ _ _ _ _)
      | (with_reducible exact ih3 _ _ _ _ _ _ _ _ _ _ _ _ _)
      | (with_reducible exact dispatch_Best.mono _ _ _)
      | (with_reducible exact dispatch_Price.mono _ _ _)
      | (with_reducible exact gridhallref3_All.mono _ _ _)
      | (with_reducible exact gridhallref3_Cost.mono _ _ _ _)
      | (with_reducible exact gridhallref3_OffersError.mono _ _)
      | (with_reducible exact gridhallref3_SameInts.mono _ _ _)
      | (with_reducible exact gridhallref3_Served.mono _ _ _)
      | (with_reducible exact gridhallref3_Unit.mono _ _ _ _)
      | (with_reducible exact LeO.refl _)
      | (with_reducible exact LeO.none _)
      | (with_reducible refine LeO.ite ?_ ?_)
      | (with_reducible refine LeO.bind ?_ (fun _ => ?_))
      | exact ih0 _ _ _
      | exact ih1 _ _ _ _ _ _ _ _ _
      | exact ih2 _ _ _ _ _ _ _ _ _ _ _ _ _
      | exact ih3 _ _ _ _ _ _ _ _ _ _ _ _ _
      | exact dispatch_Best.mono _ _ _
      | exact dispatch_Price.mono _ _ _
      | exact gridhallref3_All.mono _ _ _
      | exact gridhallref3_Cost.mono _ _ _ _
      | exact gridhallref3_OffersError.mono _ _
      | exact gridhallref3_SameInts.mono _ _ _
      | exact gridhallref3_Served.mono _ _ _
      | exact gridhallref3_Unit.mono _ _ _ _
      | exact LeO.none _
      | refine LeO.ite ?_ ?_
      | refine LeO.bind ?_ (fun _ => ?_)
    · intro y0 y1 y2 y3 y4 y5 y6 y7 y8 y9 y10 y11 y12
      unfold gridhalllaw3_DispatchUnits.l1
      repeat' first
      | (with_reducible exact ih0 _ _ _)
      | (with_reducible exact ih1 _ _ _ _ _ _ _ _ _)
      | (with_reducible exact ih2 _ _ _ _ _ _ _ _ _ _ _ _ _)
      | (with_reducible exact ih3 _ _ _ _ _ _ _ _ _ _ _ _ _)
      | (with_reducible exact dispatch_Best.mono _ _ _)
      | (with_reducible exact dispatch_Price.mono _ _ _)
      | (with_reducible exact gridhallref3_All.mono _ _ _)
      | (with_reducible exact gridhallref3_Cost.mono _ _ _ _)
      | (with_reducible exact gridhallref3_OffersError.mono _ _)
      | (with_reducible exact gridhallref3_SameInts.mono _ _ _)
      | (with_reducible exact gridhallref3_Served.mono _ _ _)
      | (with_reducible exact gridhallref3_Unit.mono _ _ _ _)
      | (with_reducible exact LeO.refl _)
      | (with_reducible exact LeO.none _)
      | (with_reducible refine LeO.ite ?_ ?_)
      | (with_reducible refine LeO.bind ?_ (fun _ => ?_))
      | exact ih0 _ _ _
      | exact ih1 _ _ _ _ _ _ _ _ _
      | exact ih2 _ _ _ _ _ _ _ _ _ _ _ _ _
      | exact ih3 _ _ _ _ _ _ _ _ _ _ _ _ _
      | exact dispatch_Best.mono _ _ _
      | exact dispatch_Price.mono _ _ _
      | exact gridhallref3_All.mono _ _ _
      | exact gridhallref3_Cost.mono _ _ _ _
      | exact gridhallref3_OffersError.mono _ _
      | exact gridhallref3_SameInts.mono _ _ _
      | exact gridhallref3_Served.mono _ _ _
      | exact gridhallref3_Unit.mono _ _ _ _
      | exact LeO.none _
      | refine LeO.ite ?_ ?_
      | refine LeO.bind ?_ (fun _ => ?_)
    · intro y0 y1 y2 y3 y4 y5 y6 y7 y8 y9 y10 y11 y12
      unfold gridhalllaw3_DispatchUnits.l0
      repeat' first
      | (with_reducible exact ih0 _ _ _)
      | (with_reducible exact ih1 _ _ _ _ _ _ _ _ _)
      | (with_reducible exact ih2 _ _ _ _ _ _ _ _ _ _ _ _ _)
      | (with_reducible exact ih3 _ _ _ _ _ _ _ _ _ _ _ _ _)
      | (with_reducible exact dispatch_Best.mono _ _ _)
      | (with_reducible exact dispatch_Price.mono _ _ _)
      | (with_reducible exact gridhallref3_All.mono _ _ _)
      | (with_reducible exact gridhallref3_Cost.mono _ _ _ _)
      | (with_reducible exact gridhallref3_OffersError.mono _ _)
      | (with_reducible exact gridhallref3_SameInts.mono _ _ _)
      | (with_reducible exact gridhallref3_Served.mono _ _ _)
      | (with_reducible exact gridhallref3_Unit.mono _ _ _ _)
      | (with_reducible exact LeO.refl _)
      | (with_reducible exact LeO.none _)
      | (with_reducible refine LeO.ite ?_ ?_)
      | (with_reducible refine LeO.bind ?_ (fun _ => ?_))
      | exact ih0 _ _ _
      | exact ih1 _ _ _ _ _ _ _ _ _
      | exact ih2 _ _ _ _ _ _ _ _ _ _ _ _ _
      | exact ih3 _ _ _ _ _ _ _ _ _ _ _ _ _
      | exact dispatch_Best.mono _ _ _
      | exact dispatch_Price.mono _ _ _
      | exact gridhallref3_All.mono _ _ _
      | exact gridhallref3_Cost.mono _ _ _ _
      | exact gridhallref3_OffersError.mono _ _
      | exact gridhallref3_SameInts.mono _ _ _
      | exact gridhallref3_Served.mono _ _ _
      | exact gridhallref3_Unit.mono _ _ _ _
      | exact LeO.none _
      | refine LeO.ite ?_ ?_
      | refine LeO.bind ?_ (fun _ => ?_)
theorem gridhalllaw3_DispatchUnits.mono : ∀ a0 a1 k, LeO (gridhalllaw3_DispatchUnits.f k a0 a1) (gridhalllaw3_DispatchUnits.f (k + 1) a0 a1) := by
  intro a0 a1 k
  obtain ⟨ih0, ih1, ih2, ih3⟩ := gridhalllaw3_DispatchUnits.mono_l k
  unfold gridhalllaw3_DispatchUnits.f
  repeat' first
      | (with_reducible exact ih0 _ _ _)
      | (with_reducible exact ih1 _ _ _ _ _ _ _ _ _)
      | (with_reducible exact ih2 _ _ _ _ _ _ _ _ _ _ _ _ _)
      | (with_reducible exact ih3 _ _ _ _ _ _ _ _ _ _ _ _ _)
      | (with_reducible exact dispatch_Best.mono _ _ _)
      | (with_reducible exact dispatch_Price.mono _ _ _)
      | (with_reducible exact gridhallref3_All.mono _ _ _)
      | (with_reducible exact gridhallref3_Cost.mono _ _ _ _)
      | (with_reducible exact gridhallref3_OffersError.mono _ _)
      | (with_reducible exact gridhallref3_SameInts.mono _ _ _)
      | (with_reducible exact gridhallref3_Served.mono _ _ _)
      | (with_reducible exact gridhallref3_Unit.mono _ _ _ _)
      | (with_reducible exact LeO.refl _)
      | (with_reducible exact LeO.none _)
      | (with_reducible refine LeO.ite ?_ ?_)
      | (with_reducible refine LeO.bind ?_ (fun _ => ?_))
      | exact ih0 _ _ _
      | exact ih1 _ _ _ _ _ _ _ _ _
      | exact ih2 _ _ _ _ _ _ _ _ _ _ _ _ _
      | exact ih3 _ _ _ _ _ _ _ _ _ _ _ _ _
      | exact dispatch_Best.mono _ _ _
      | exact dispatch_Price.mono _ _ _
      | exact gridhallref3_All.mono _ _ _
      | exact gridhallref3_Cost.mono _ _ _ _
      | exact gridhallref3_OffersError.mono _ _
      | exact gridhallref3_SameInts.mono _ _ _
      | exact gridhallref3_Served.mono _ _ _
      | exact gridhallref3_Unit.mono _ _ _ _
      | exact LeO.none _
      | refine LeO.ite ?_ ?_
      | refine LeO.bind ?_ (fun _ => ?_)
def gridhalllaw3_DispatchUnits.T27 : Bool × List (List Nat × List Nat) := (true, [([], []), ([], []), ([], []), ([], []), ([2, 3], [2, 3]), ([4], [4]), ([1, 5], [1, 5]), ([0, 6], [0, 6]), ([7, 6, 0, 1, 2, 3, 4, 5, 6, 7], [0, 7])])
def gridhalllaw3_DispatchUnits.B27 : List Nat := [0, 0, 0, 0, 12, 28, 62, 127, 255]
theorem gridhalllaw3_DispatchUnits.tab27 : rtab .any (opsOf Try.f5 27) = gridhalllaw3_DispatchUnits.T27 := by kernel_rfl
theorem gridhalllaw3_DispatchUnits.bits27 : waitsOk gridhalllaw3_DispatchUnits.T27.2 gridhalllaw3_DispatchUnits.B27 = true := by kernel_rfl
def gridhalllaw3_DispatchUnits.T29 : Bool × List (List Nat × List Nat) := (true, [([], []), ([], []), ([], []), ([], []), ([2, 3], [2, 3]), ([4], [4]), ([5], [5]), ([1, 6], [1, 6]), ([0, 7], [0, 7]), ([8, 7, 0, 1, 2, 3, 4, 5, 6, 7, 8], [0, 8])])
def gridhalllaw3_DispatchUnits.B29 : List Nat := [0, 0, 0, 0, 12, 28, 60, 126, 255, 511]
theorem gridhalllaw3_DispatchUnits.tab29 : rtab .any (opsOf Try.f5 29) = gridhalllaw3_DispatchUnits.T29 := by kernel_rfl
theorem gridhalllaw3_DispatchUnits.bits29 : waitsOk gridhalllaw3_DispatchUnits.T29.2 gridhalllaw3_DispatchUnits.B29 = true := by kernel_rfl
def gridhalllaw3_DispatchUnits.T30 : Bool × List (List Nat × List Nat) := (true, [([], []), ([], []), ([], []), ([], []), ([2, 3], [2, 3]), ([4], [4]), ([1, 5], [1, 5]), ([0, 6], [0, 6]), ([7, 6, 0, 1, 2, 3, 4, 5, 6, 7], [0, 7])])
def gridhalllaw3_DispatchUnits.B30 : List Nat := [0, 0, 0, 0, 12, 28, 62, 127, 255]
theorem gridhalllaw3_DispatchUnits.tab30 : rtab .any (opsOf Try.f5 30) = gridhalllaw3_DispatchUnits.T30 := by kernel_rfl
theorem gridhalllaw3_DispatchUnits.bits30 : waitsOk gridhalllaw3_DispatchUnits.T30.2 gridhalllaw3_DispatchUnits.B30 = true := by kernel_rfl
set_option maxHeartbeats 8000000 in
set_option maxRecDepth 100000 in
theorem gridhalllaw3_DispatchUnits.calls (k : Nat) (A0 : Option Addr) (c0 : Nat) (l0 : List (S29)) (a1 : Int) (r : Bool) (w : World) (hr0 : Kd.C k29 w A0 l0.length l0) (hc0 : l0.length ≤ c0) (h : gridhalllaw3_DispatchUnits.f k l0 a1 = some r) :
    Calls Try.prog 5 #[.slice A0 l0.length c0, .int .i64 a1] w fun e w' => e = .returned (.bool r) ∧ Below w.heap.size w w' := by
  have hu29 := Try.underlying29
  have HR0 := Aside0.mk hr0
  have HC0 := Aside0.mk hc0
  clear hr0 hc0
  have HB := Aside0.mk (Below.refl w.heap.size w)
  have H : ((gridhalllaw3_two.f (⟨#[65]⟩ : ByteArray)).bind fun bt222 => ((gridhalllaw3_two.f (⟨#[66]⟩ : ByteArray)).bind fun bt226 => ((dispatch_Best.f k (([(⟨bt222.1, bt222.2⟩ : S29), (⟨bt226.1, bt226.2⟩ : S29)] : List (S29))) 22).bind fun bt233 => (if bt233.2.2 = 0 then (if bt233.2.1 = 116 then ((gridhallref3_SameInts.f k bt233.1 (([12, 10] : List Int))).bind fun t241 => (gridhalllaw3_DispatchUnits.j0 k l0 a1 (!t241))) else (gridhalllaw3_DispatchUnits.j0 k l0 a1 true)) else (gridhalllaw3_DispatchUnits.j0 k l0 a1 true))))) = some r := h
  clear h
  replace H := Option.bind_eq_some_iff.mp H
  obtain ⟨⟨t222, t223⟩, A30, H⟩ := H
  replace H : ((gridhalllaw3_two.f (⟨#[66]⟩ : ByteArray)).bind fun bt226 => ((dispatch_Best.f k (([(⟨t222, t223⟩ : S29), (⟨bt226.1, bt226.2⟩ : S29)] : List (S29))) 22).bind fun bt233 => (if bt233.2.2 = 0 then (if bt233.2.1 = 116 then ((gridhallref3_SameInts.f k bt233.1 (([12, 10] : List Int))).bind fun t241 => (gridhalllaw3_DispatchUnits.j0 k l0 a1 (!t241))) else (gridhalllaw3_DispatchUnits.j0 k l0 a1 true)) else (gridhalllaw3_DispatchUnits.j0 k l0 a1 true)))) = some r := H
  have A3 := Aside0.mk A30
  clear A30
  replace H := Option.bind_eq_some_iff.mp H
  obtain ⟨⟨t226, t227⟩, A40, H⟩ := H
  replace H : ((dispatch_Best.f k (([(⟨t222, t223⟩ : S29), (⟨t226, t227⟩ : S29)] : List (S29))) 22).bind fun bt233 => (if bt233.2.2 = 0 then (if bt233.2.1 = 116 then ((gridhallref3_SameInts.f k bt233.1 (([12, 10] : List Int))).bind fun t241 => (gridhalllaw3_DispatchUnits.j0 k l0 a1 (!t241))) else (gridhalllaw3_DispatchUnits.j0 k l0 a1 true)) else (gridhalllaw3_DispatchUnits.j0 k l0 a1 true))) = some r := H
  have A4 := Aside0.mk A40
  clear A40
  obtain ⟨y230, hy230⟩ : ∃ y_ : List (S29), y_ = (([(⟨t222, t223⟩ : S29), (⟨t226, t227⟩ : S29)] : List (S29))) := ⟨_, rfl⟩
  replace H : ((dispatch_Best.f k y230 22).bind fun bt233 => (if bt233.2.2 = 0 then (if bt233.2.1 = 116 then ((gridhallref3_SameInts.f k bt233.1 (([12, 10] : List Int))).bind fun t241 => (gridhalllaw3_DispatchUnits.j0 k l0 a1 (!t241))) else (gridhalllaw3_DispatchUnits.j0 k l0 a1 true)) else (gridhalllaw3_DispatchUnits.j0 k l0 a1 true))) = some r := by first | (rw [hy230]; with_reducible exact H) | (have H2_ := (Option.bind_some _ _).symm.trans H; rw [hy230]; with_reducible exact H2_) | (have H2_ := (Option.bind_some _ _).symm.trans H; with_reducible exact H2_) | with_reducible exact H | (rw [hy230]; exact H) | exact H
  have Ny230 := Aside0.mk hy230
  clear hy230
  replace H := Option.bind_eq_some_iff.mp H
  obtain ⟨⟨t233, t236, t237⟩, A50, H⟩ := H
  replace H : (if t237 = 0 then (if t236 = 116 then ((gridhallref3_SameInts.f k t233 (([12, 10] : List Int))).bind fun t241 => (gridhalllaw3_DispatchUnits.j0 k l0 a1 (!t241))) else (gridhalllaw3_DispatchUnits.j0 k l0 a1 true)) else (gridhalllaw3_DispatchUnits.j0 k l0 a1 true)) = some r := H
  have A5 := Aside0.mk A50
  clear A50
  have HC6 := Aside0.mk H
  clear H
  go_enter Try.func5, Try.ntmps5
  go_upto_region 2 with (first | ((with_reducible refine gate_callee (f := 10) rfl ?_); refine goesL_ (some 25) rfl rfl Try.func10 (by kernel_rfl) rfl #[.string (⟨#[65]⟩ : ByteArray)] rfl (by (try simp only [List.map_toArray, List.map_cons, List.map_nil]); first | done | rfl | (simp only [List.length_drop, List.length_take]; rfl)) ?_; (with_reducible refine (gridhalllaw3_two.calls (⟨#[65]⟩ : ByteArray) t222 t223 _ A3.out).mono ?_); rintro e w7 ⟨v224, rfl, ho0, hb⟩; refine ⟨_, rfl, ?_⟩; have n0_ := Aside0.mk (Kd.R_lower ho0 (below_size (by repeat (first | (with_reducible first | exact HB.out | apply below_alloc | apply pw_below_drewN | apply below_drew1) | exact HB.out)))); have n1_ := Aside0.mk (below_step (by repeat (first | (with_reducible first | exact HB.out | apply below_alloc | apply pw_below_drewN | apply below_drew1) | exact HB.out)) hb); clear HB; have HO225 := n0_; have HB := n1_; clear n0_ n1_; (try clear hb); (try clear hb2); (try clear hk); (try clear hi); (try clear ho0)) | ((with_reducible refine gate_callee (f := 10) rfl ?_); refine goesL_ (some 26) rfl rfl Try.func10 (by kernel_rfl) rfl #[.string (⟨#[66]⟩ : ByteArray)] rfl (by (try simp only [List.map_toArray, List.map_cons, List.map_nil]); first | done | rfl | (simp only [List.length_drop, List.length_take]; rfl)) ?_; (with_reducible refine (gridhalllaw3_two.calls (⟨#[66]⟩ : ByteArray) t226 t227 _ A4.out).mono ?_); rintro e w8 ⟨v228, rfl, ho0, hb⟩; refine ⟨_, rfl, ?_⟩; have n0_ := Aside0.mk (Kd.R_elder' (by (with_reducible repeat (first | apply Kd.R_alloc | apply Kd.R_drewN | apply Kd.R_drew)); exact HO225.out) (Kd.R_base ho0) hb); have n1_ := Aside0.mk (Kd.R_lower (Kd.R_new' ho0 (Kd.R_lt (by (with_reducible repeat (first | apply Kd.R_alloc | apply Kd.R_drewN | apply Kd.R_drew)); exact HO225.out))) (below_size (by repeat (first | (with_reducible first | exact HB.out | apply below_alloc | apply pw_below_drewN | apply below_drew1) | exact HB.out)))); have n2_ := Aside0.mk (below_step (by repeat (first | (with_reducible first | exact HB.out | apply below_alloc | apply pw_below_drewN | apply below_drew1) | exact HB.out)) hb); clear HO225; clear HB; have HO225 := n0_; have HO229 := n1_; have HB := n2_; clear n0_ n1_ n2_; (try clear hb); (try clear hb2); (try clear hk); (try clear hi); (try clear ho0); obtain ⟨Ao9, co9, eo9⟩ := Kd.R_slice HO225.out; subst eo9; obtain ⟨Ao10, co10, eo10⟩ := Kd.R_slice HO229.out; subst eo10) | ((with_reducible refine gate_dst (N := 27) rfl ?_); (try (refine gate_guard (by rfl) ?_; dsimp only)); refine Kd.N_lit k29 _ 29 ?hg (N' := 27) ?hd (xs := ([(⟨t222, t223⟩ : S29), (⟨t226, t227⟩ : S29)] : List (S29))) (inner := [.string t222, .slice Ao9 t223.length co9, .string t226, .slice Ao10 t227.length co10]) (ok := (fun _ => True)) (okp := (fun _ => True)) ?hr ?hp (fun _ hk => hk) ((show ∀ k_, w8.heap.size ≤ k_ → (fun _ => True) k_ from fun k_ hk => trivial) _ (Nat.le_refl _)) (Below.refl _ _) (Nat.le_refl _) (by simp) ?_; (case hd => rfl); (case hg => rfl); (case hr => first | (go_simp; done) | (go_simp; rfl)); (case hp => exact (Reps.c2 (show Kd.FK k29 _ _ (⟨t222, t223⟩ : S29) [.string t222, .slice Ao9 t223.length co9] from (k29_mkF _ _ (⟨t222, t223⟩ : S29) (Kd.R_reads' (Kd.R_mono (ok' := (fun _ => True)) (HO225.out) (fun k_ hk => trivial))).2.1 (Kd.R_F (Kd.R_mono (ok' := (fun _ => True)) (HO225.out) (fun k_ hk => trivial))))) (Reps.c2 (show Kd.FK k29 _ _ (⟨t226, t227⟩ : S29) [.string t226, .slice Ao10 t227.length co10] from (k29_mkF _ _ (⟨t226, t227⟩ : S29) (Kd.R_reads' (Kd.R_mono (ok' := (fun _ => True)) (HO229.out) (fun k_ hk => trivial))).2.1 (Kd.R_F (Kd.R_mono (ok' := (fun _ => True)) (HO229.out) (fun k_ hk => trivial))))) (Reps.none _ _)))); intro v231 w11 ho12 hb hg_ hnew_; clear hg_ hnew_; (first | rw [← Ny230.out] at ho12 | (simp only [Int.reduceToNat] at ho12; rw [← Ny230.out] at ho12)); have n0_ := Aside0.mk (Kd.N_lower ho12 (below_size (by repeat (first | (with_reducible first | exact HB.out | apply below_alloc | apply pw_below_drewN | apply below_drew1) | exact HB.out)))); have n1_ := Aside0.mk (below_step (by repeat (first | (with_reducible first | exact HB.out | apply below_alloc | apply pw_below_drewN | apply below_drew1) | exact HB.out)) hb); clear HB; clear HO225; clear HO229; have HO232 := n0_; have HB := n1_; clear n0_ n1_; clear hb ho12; obtain ⟨Ao13, co13, eo13⟩ := Kd.N_slice HO232.out; subst eo13) | ((with_reducible refine gate_callee (f := 21) rfl ?_); refine goesL_ (some 28) rfl rfl Try.func21 (by kernel_rfl) rfl #[.slice Ao13 y230.length co13, .int .i64 22] rfl (by (try simp only [List.map_toArray, List.map_cons, List.map_nil]); first | done | rfl | (simp only [List.length_drop, List.length_take]; rfl)) ?_; (with_reducible refine (dispatch_Best.calls k _ _ y230 22 t233 t236 t237 _ ?side1 ?side2 A5.out).mono ?_); (case side1 => repeat (first | exact (Kd.N_reads' HO232.out).2.2 | (with_reducible refine Kd.C_alloc ?_ _) | (with_reducible refine Kd.C_drewN ?_ _) | (with_reducible refine Kd.C_drew ?_))); (case side2 => exact (Kd.N_reads' HO232.out).2.1); rintro e w14 ⟨v234, rfl, ho0, hb⟩; refine ⟨_, rfl, ?_⟩; have n0_ := Aside0.mk (Kd.N_below (by (with_reducible repeat (first | apply Kd.N_alloc | apply Kd.N_drewN | apply Kd.N_drew)); exact HO232.out) hb); have n1_ := Aside0.mk (Kd.V_lower (Kd.V_mono (ok' := fun k_ => some k_ ≠ (.slice Ao13 y230.length co13 : Value).ownBlock) ho0 (fun k_ hk_ => (Kd.fresh' (Kd.N_lt (by (with_reducible repeat (first | apply Kd.N_alloc | apply Kd.N_drewN | apply Kd.N_drew)); exact HO232.out)) k_ hk_))) (below_size (by repeat (first | (with_reducible first | exact HB.out | apply below_alloc | apply pw_below_drewN | apply below_drew1) | exact HB.out)))); have n2_ := Aside0.mk (below_step (by repeat (first | (with_reducible first | exact HB.out | apply below_alloc | apply pw_below_drewN | apply below_drew1) | exact HB.out)) hb); clear HO232; clear HB; have HO232 := n0_; have HO235 := n1_; have HB := n2_; clear n0_ n1_ n2_; (try clear hb); (try clear hb2); (try clear hk); (try clear hi); (try clear ho0)))
  (try simp only [Act.put, List.setIfInBounds_toArray, List.set_cons_zero, List.set_cons_succ])
  go_cut [43] (fun v43 wc => ∃ (kq : Nat) (x43_5 : Bool), v43 = .bool x43_5 ∧ Aside0 (gridhalllaw3_DispatchUnits.j0 kq l0 a1 x43_5 = some r) ∧ Aside0 (kq ≤ k) ∧ Aside0 (Below w.heap.size w wc))
  case first =>
    have H := HC6.out
    clear HC6
    by_cases c15 : t237 = 0
    · rw [if_pos c15] at H
      have c15b0 : (t237 == 0) = true := beq_iff_eq.mpr c15
      have c15b1 : (t237 != 0) = false := bne_eq_false_iff_eq.mpr c15
      clear c15
      (first | rw [c15b0] | (simp only [i64_w, i32_w]; rw [c15b0]) | skip)
      by_cases c16 : t236 = 116
      · rw [if_pos c16] at H
        have c16b0 : (t236 == 116) = true := beq_iff_eq.mpr c16
        have c16b1 : (t236 != 116) = false := bne_eq_false_iff_eq.mpr c16
        clear c16
        obtain ⟨y238, hy238⟩ : ∃ y_ : List Int, y_ = (([12, 10] : List Int)) := ⟨_, rfl⟩
        replace H : ((gridhallref3_SameInts.f k t233 y238).bind fun t241 => (gridhalllaw3_DispatchUnits.j0 k l0 a1 (!t241))) = some r := by first | (rw [hy238]; with_reducible exact H) | (have H2_ := (Option.bind_some _ _).symm.trans H; rw [hy238]; with_reducible exact H2_) | (have H2_ := (Option.bind_some _ _).symm.trans H; with_reducible exact H2_) | with_reducible exact H | (rw [hy238]; exact H) | exact H
        have Ny238 := Aside0.mk hy238
        clear hy238
        replace H := Option.bind_eq_some_iff.mp H
        obtain ⟨t241, A170, H⟩ := H
        replace H : (gridhalllaw3_DispatchUnits.j0 k l0 a1 (!t241)) = some r := H
        have A17 := Aside0.mk A170
        clear A170
        have H' := Aside0.mk H
        clear H
        go_wp2_with (first | ((with_reducible refine gate_dst (N := 40) rfl ?_); (try (refine gate_guard (by rfl) ?_; dsimp only)); refine Kd.R_lit (Kd.int .i64) _ 3 ?hg (N := 40) ?hd (xs := ([12, 10] : List Int)) (inner := [.int .i64 12, .int .i64 10]) (ok := fun _ => True) (okp := fun _ => True) ?hr ?hp (fun _ hk => hk) trivial (Below.refl _ _) (Nat.le_refl _) (by simp) ?_; (case hd => rfl); (case hg => rfl); (case hr => first | (go_simp; done) | (go_simp; rfl)); (case hp => exact (Reps.one (show Kd.M (Kd.int .i64) _ _ _ 12 [.int .i64 12] from rfl) (Reps.one (show Kd.M (Kd.int .i64) _ _ _ 10 [.int .i64 10] from rfl) (Reps.none _ _)))); intro v239 w18 ho19 hb hg_ hnew_; clear hg_ hnew_; (first | rw [← Ny238.out] at ho19 | (simp only [Int.reduceToNat] at ho19; rw [← Ny238.out] at ho19)); have n0_ := Aside0.mk (Kd.N_elder' (by (with_reducible repeat (first | apply Kd.N_alloc | apply Kd.N_drewN | apply Kd.N_drew)); exact HO232.out) (Kd.R_base ho19) hb); have n1_ := Aside0.mk (Kd.V_elder' (by (with_reducible repeat (first | apply Kd.V_alloc | apply Kd.V_drewN | apply Kd.V_drew)); exact HO235.out) (Kd.R_base ho19) hb); have n2_ := Aside0.mk (Kd.R_lower ho19 (below_size (by repeat (first | (with_reducible first | exact HB.out | apply below_alloc | apply pw_below_drewN | apply below_drew1) | exact HB.out)))); have n3_ := Aside0.mk (below_step (by repeat (first | (with_reducible first | exact HB.out | apply below_alloc | apply pw_below_drewN | apply below_drew1) | exact HB.out)) hb); clear HO232; clear HO235; clear HB; have HO232 := n0_; have HO235 := n1_; have HO240 := n2_; have HB := n3_; clear n0_ n1_ n2_ n3_; clear hb ho19; obtain ⟨Ao20, co20, eo20⟩ := Kd.V_slice HO235.out; subst eo20; obtain ⟨Ao21, co21, eo21⟩ := Kd.R_slice HO240.out; subst eo21) | (go_at_call 22; (with_reducible refine (gridhallref3_SameInts.calls k _ _ t233 _ _ y238 t241 _ ?side1 ?side2 ?side3 ?side4 A17.out).mono ?_); (case side1 => repeat (first | exact (Kd.V_reads' HO235.out).2.2 | (with_reducible refine Kd.C_alloc ?_ _) | (with_reducible refine Kd.C_drewN ?_ _) | (with_reducible refine Kd.C_drew ?_))); (case side2 => exact (Kd.V_reads' HO235.out).2.1); (case side3 => repeat (first | exact (Kd.R_reads' HO240.out).2.2 | (with_reducible refine Kd.C_alloc ?_ _) | (with_reducible refine Kd.C_drewN ?_ _) | (with_reducible refine Kd.C_drew ?_))); (case side4 => exact (Kd.R_reads' HO240.out).2.1); rintro e w' ⟨rfl, ⟨nd, rfl⟩⟩))
        go_meet
        case rel => exact ⟨_, (!t241), (by first | rfl | (simp; done) | (simp [*]; done)), H', ⟨by first | omega | exact Nat.le_refl _⟩, ⟨by repeat (first | (with_reducible first | exact HB.out | apply below_alloc | apply pw_below_drewN | apply below_drew1) | exact HB.out)⟩⟩
      · rw [if_neg c16] at H
        have c16b0 : (t236 == 116) = false := beq_eq_false_iff_ne.mpr c16
        have c16b1 : (t236 != 116) = true := bne_iff_ne.mpr c16
        have H' := Aside0.mk H
        clear H
        go_wp2
        go_meet
        case rel => exact ⟨_, (true), (by first | rfl | (simp; done) | (simp [*]; done)), H', ⟨by first | omega | exact Nat.le_refl _⟩, ⟨by repeat (first | (with_reducible first | exact HB.out | apply below_alloc | apply pw_below_drewN | apply below_drew1) | exact HB.out)⟩⟩
    · rw [if_neg c15] at H
      have c15b0 : (t237 == 0) = false := beq_eq_false_iff_ne.mpr c15
      have c15b1 : (t237 != 0) = true := bne_iff_ne.mpr c15
      (first | rw [c15b0] | (simp only [i64_w, i32_w]; rw [c15b0]) | skip)
      have H' := Aside0.mk H
      clear H
      go_wp2
      go_meet
      case rel => exact ⟨_, (true), (by first | rfl | (simp; done) | (simp [*]; done)), H', ⟨by first | omega | exact Nat.le_refl _⟩, ⟨by repeat (first | (with_reducible first | exact HB.out | apply below_alloc | apply pw_below_drewN | apply below_drew1) | exact HB.out)⟩⟩
  case rest => as_aux_lemma =>
    clear HC6
    try clear c1
    try clear c2
    try clear p2
    try clear c5
    try clear c10
    try clear c15
    try clear c15b0
    try clear c15b1
    try clear c16
    try clear c16b0
    try clear c16b1
    try clear c21
    obtain ⟨kq, x43_5, rfl, HA, HJ5, HB⟩ := hcut
    cases kq with
    | zero => exact absurd HA.out (by simp [gridhalllaw3_DispatchUnits.j0])
    | succ kj5 =>
      have H := HA.out
      clear HA
      simp only [gridhalllaw3_DispatchUnits.j0] at H
      by_cases c22 : x43_5 = true
      · subst c22
        have H1 : (some false) = some r := by rw [if_pos rfl] at H; exact H
        clear H
        have H := H1
        clear H1
        obtain rfl := Option.some.inj H
        go_wp2
        go_ret
        exact ⟨by first | rfl | (simp [errW_none, errW_some] <;> rfl) | (simp [*, errW_none, errW_some] <;> rfl), by repeat (first | (with_reducible first | exact HB.out | apply below_alloc | apply pw_below_drewN | apply below_drew1) | exact HB.out)⟩
      · replace c22 := Bool.eq_false_iff.mpr c22
        subst c22
        have H1 : ((dispatch_Best.f kj5 l0 a1).bind fun bt242 => ((dispatch_Price.f kj5 l0 a1).bind fun bt247 => ((gridhallref3_OffersError.f kj5 l0).bind fun t250 => (if t250 = 0 then (gridhalllaw3_DispatchUnits.l0 kj5 l0 a1 bt242.1 bt242.2.1 bt242.2.2 bt247.1 bt247.2.1 bt247.2.2 t250 0 l0 (l0.length : Int) 0) else (gridhalllaw3_DispatchUnits.j2 kj5 l0 a1 bt242.1 bt242.2.1 bt242.2.2 bt247.1 bt247.2.1 bt247.2.2 t250))))) = some r := by rw [if_neg (show ¬ (false = true) by decide)] at H; exact H
        clear H
        have H := H1
        clear H1
        replace H := Option.bind_eq_some_iff.mp H
        obtain ⟨⟨t242, t245, t246⟩, A230, H⟩ := H
        replace H : ((dispatch_Price.f kj5 l0 a1).bind fun bt247 => ((gridhallref3_OffersError.f kj5 l0).bind fun t250 => (if t250 = 0 then (gridhalllaw3_DispatchUnits.l0 kj5 l0 a1 t242 t245 t246 bt247.1 bt247.2.1 bt247.2.2 t250 0 l0 (l0.length : Int) 0) else (gridhalllaw3_DispatchUnits.j2 kj5 l0 a1 t242 t245 t246 bt247.1 bt247.2.1 bt247.2.2 t250)))) = some r := H
        have A23 := Aside0.mk A230
        clear A230
        replace H := Option.bind_eq_some_iff.mp H
        obtain ⟨⟨t247, t248, t249⟩, A240, H⟩ := H
        replace H : ((gridhallref3_OffersError.f kj5 l0).bind fun t250 => (if t250 = 0 then (gridhalllaw3_DispatchUnits.l0 kj5 l0 a1 t242 t245 t246 t247 t248 t249 t250 0 l0 (l0.length : Int) 0) else (gridhalllaw3_DispatchUnits.j2 kj5 l0 a1 t242 t245 t246 t247 t248 t249 t250))) = some r := H
        have A24 := Aside0.mk A240
        clear A240
        replace H := Option.bind_eq_some_iff.mp H
        obtain ⟨t250, A250, H⟩ := H
        replace H : (if t250 = 0 then (gridhalllaw3_DispatchUnits.l0 kj5 l0 a1 t242 t245 t246 t247 t248 t249 t250 0 l0 (l0.length : Int) 0) else (gridhalllaw3_DispatchUnits.j2 kj5 l0 a1 t242 t245 t246 t247 t248 t249 t250)) = some r := H
        have A25 := Aside0.mk A250
        clear A250
        have HC26 := Aside0.mk H
        clear H
        go_upto_if 61 with (first | ((with_reducible refine gate_callee (f := 21) rfl ?_); refine goesL_ (some 47) rfl rfl Try.func21 (by kernel_rfl) rfl #[.slice A0 l0.length c0, .int .i64 a1] rfl (by (try simp only [List.map_toArray, List.map_cons, List.map_nil]); first | done | rfl | (simp only [List.length_drop, List.length_take]; rfl)) ?_; (with_reducible refine (dispatch_Best.calls kj5 _ _ l0 a1 t242 t245 t246 _ ?side1 ?side2 A23.out).mono ?_); (case side1 => repeat (first | exact (Kd.C_below HR0.out HB.out) | (with_reducible refine Kd.C_alloc ?_ _) | (with_reducible refine Kd.C_drewN ?_ _) | (with_reducible refine Kd.C_drew ?_))); (case side2 => exact HC0.out); rintro e w27 ⟨v243, rfl, ho0, hb⟩; refine ⟨_, rfl, ?_⟩; have n0_ := Aside0.mk (Kd.V_lower (Kd.V_mono (ok' := fun k_ => True) ho0 (fun k_ hk_ => trivial)) (below_size (by repeat (first | (with_reducible first | exact HB.out | apply below_alloc | apply pw_below_drewN | apply below_drew1) | exact HB.out)))); have n1_ := Aside0.mk (below_step (by repeat (first | (with_reducible first | exact HB.out | apply below_alloc | apply pw_below_drewN | apply below_drew1) | exact HB.out)) hb); clear HB; have HO244 := n0_; have HB := n1_; clear n0_ n1_; (try clear hb); (try clear hb2); (try clear hk); (try clear hi); (try clear ho0)) | ((with_reducible refine gate_callee (f := 23) rfl ?_); refine goesL_ (some 54) rfl rfl Try.func23 (by kernel_rfl) rfl #[.slice A0 l0.length c0, .int .i64 a1] rfl (by (try simp only [List.map_toArray, List.map_cons, List.map_nil]); first | done | rfl | (simp only [List.length_drop, List.length_take]; rfl)) ?_; (with_reducible refine (dispatch_Price.calls kj5 _ _ l0 a1 t247 t248 t249 _ ?side1 ?side2 A24.out).mono ?_); (case side1 => repeat (first | exact (Kd.C_below HR0.out HB.out) | (with_reducible refine Kd.C_alloc ?_ _) | (with_reducible refine Kd.C_drewN ?_ _) | (with_reducible refine Kd.C_drew ?_))); (case side2 => exact HC0.out); rintro e w28 ⟨rfl, hb⟩; refine ⟨_, rfl, ?_⟩; have n0_ := Aside0.mk (Kd.V_below (by (with_reducible repeat (first | apply Kd.V_alloc | apply Kd.V_drewN | apply Kd.V_drew)); exact HO244.out) hb); have n1_ := Aside0.mk (below_step (by repeat (first | (with_reducible first | exact HB.out | apply below_alloc | apply pw_below_drewN | apply below_drew1) | exact HB.out)) hb); clear HO244; clear HB; have HO244 := n0_; have HB := n1_; clear n0_ n1_; (try clear hb); (try clear hb2); (try clear hk); (try clear hi)) | ((with_reducible refine gate_callee (f := 24) rfl ?_); refine goesL_ (some 59) rfl rfl Try.func24 (by kernel_rfl) rfl #[.slice A0 l0.length c0] rfl (by (try simp only [List.map_toArray, List.map_cons, List.map_nil]); first | done | rfl | (simp only [List.length_drop, List.length_take]; rfl)) ?_; (with_reducible refine (gridhallref3_OffersError.calls kj5 _ _ l0 t250 _ ?side1 ?side2 A25.out).mono ?_); (case side1 => repeat (first | exact (Kd.C_below HR0.out HB.out) | (with_reducible refine Kd.C_alloc ?_ _) | (with_reducible refine Kd.C_drewN ?_ _) | (with_reducible refine Kd.C_drew ?_))); (case side2 => exact HC0.out); rintro e w29 ⟨rfl, hb⟩; refine ⟨_, rfl, ?_⟩; have n0_ := Aside0.mk (Kd.V_below (by (with_reducible repeat (first | apply Kd.V_alloc | apply Kd.V_drewN | apply Kd.V_drew)); exact HO244.out) hb); have n1_ := Aside0.mk (below_step (by repeat (first | (with_reducible first | exact HB.out | apply below_alloc | apply pw_below_drewN | apply below_drew1) | exact HB.out)) hb); clear HO244; clear HB; have HO244 := n0_; have HB := n1_; clear n0_ n1_; (try clear hb); (try clear hb2); (try clear hk); (try clear hi)))
        (try simp only [Act.put, List.setIfInBounds_toArray, List.set_cons_zero, List.set_cons_succ])
        go_cut [14] (fun v14 wc => ∃ (kq : Nat) (x14_25 : Int), v14 = .int .i64 x14_25 ∧ Aside0 (gridhalllaw3_DispatchUnits.j2 kq l0 a1 t242 t245 t246 t247 t248 t249 x14_25 = some r) ∧ Aside0 (kq ≤ kj5) ∧ Aside0 (Kd.V (Kd.int .i64) 3 wc w.heap.size (fun _ => True) v243 t242) ∧ Aside0 (Below w.heap.size w wc))
        case first =>
          have H := HC26.out
          clear HC26
          by_cases c30 : t250 = 0
          · rw [if_pos c30] at H
            have c30b0 : (t250 == 0) = true := beq_iff_eq.mpr c30
            have c30b1 : (t250 != 0) = false := bne_eq_false_iff_eq.mpr c30
            clear c30
            (first | rw [c30b0] | (simp only [i64_w, i32_w]; rw [c30b0]) | skip)
            have H' := Aside0.mk H
            clear H
            go_wp2
            go_loopg [15, 64] kj5 (fun kq v15 v64 w' => ∃ (x15_2 : Int) (x64_2 : Int), v15 = .int .i64 x15_2 ∧ v64 = .int .i64 x64_2 ∧ Aside0 (gridhalllaw3_DispatchUnits.l0 kq l0 a1 t242 t245 t246 t247 t248 t249 t250 x15_2 l0 (l0.length : Int) x64_2 = some r) ∧ Aside0 (kq ≤ kj5) ∧ Aside0 (Kd.V (Kd.int .i64) 3 w' w.heap.size (fun _ => True) v243 t242) ∧ Aside0 (Below w.heap.size w w'))
            case atStart => exact ⟨(0), (0), (by first | rfl | (simp; done) | (simp [*]; done)), (by first | rfl | (simp; done) | (simp [*]; done)), H', ⟨Nat.le_refl _⟩, ⟨by (with_reducible repeat (first | apply Kd.V_alloc | apply Kd.V_drewN | apply Kd.V_drew)); exact HO244.out⟩, ⟨by repeat (first | (with_reducible first | exact HB.out | apply below_alloc | apply pw_below_drewN | apply below_drew1) | exact HB.out)⟩⟩
            case round => as_aux_lemma =>
              clear H'
              try clear c1
              try clear c2
              try clear p2
              try clear c3
              try clear c5
              try clear c10
              try clear c15
              try clear c15b0
              try clear c15b1
              try clear c16
              try clear c16b0
              try clear c16b1
              try clear c21
              try clear c22
              try clear c23
              try clear c24
              try clear c30
              try clear c30b0
              try clear c30b1
              try clear p2
              obtain ⟨x15_2, x64_2, rfl, rfl, HA, HK2, HO_8, HB⟩ := hrel
              cases gk with
              | zero => exact absurd HA.out (by simp [gridhalllaw3_DispatchUnits.l0])
              | succ k2 =>
                have H := HA.out
                clear HA
                simp only [gridhalllaw3_DispatchUnits.l0] at H
                by_cases c31 : x64_2 < (l0.length : Int)
                · rw [if_pos c31] at H
                  have c31b0 : decide (x64_2 < (l0.length : Int)) = true := decide_eq_true c31
                  clear c31
                  by_cases c32 : 0 ≤ x64_2
                  · rw [if_pos c32] at H
                    have c32b0 : decide (0 ≤ x64_2) = true := decide_eq_true c32
                    clear c32
                    by_cases c33 : x64_2 < (l0.length : Int)
                    · rw [if_pos c33] at H
                      have c33b0 : decide (x64_2 < (l0.length : Int)) = true := decide_eq_true c33
                      clear c33
                      replace H := Option.bind_eq_some_iff.mp H
                      obtain ⟨t253, A340, H⟩ := H
                      replace H : (gridhalllaw3_DispatchUnits.l0 k2 l0 a1 t242 t245 t246 t247 t248 t249 t250 (wrap64 (x15_2 + t253)) l0 (l0.length : Int) (wrap64 (x64_2 + 1))) = some r := H
                      have A34 := Aside0.mk A340
                      clear A340
                      have H' := Aside0.mk H
                      clear H
                      have p251 : 0 ≤ (x64_2 : Int) := of_decide_eq_true (by first | (with_reducible assumption) | assumption)
                      have q251 : x64_2 < (l0.length : Int) := of_decide_eq_true (by first | (with_reducible assumption) | assumption)
                      obtain ⟨ad251, A251_1, c251_1, e251, hx251_0, hx251_1, hl251_1, hi251_1⟩ := at_T29 HR0.out x64_2 p251 q251
                      cases e251
                      replace hx251_0 := (HB.out.cell (World.block_lt_of_cell? w _ hx251_0)).trans hx251_0
                      replace hx251_1 := (HB.out.cell (World.block_lt_of_cell? w _ hx251_1)).trans hx251_1
                      have HR251_1 := Aside0.mk hi251_1
                      have HC251_1 := Aside0.mk hl251_1
                      clear hi251_1 hl251_1
                      replace p251 := eq_true p251
                      replace q251 := eq_true q251
                      go_wp2_with (first | ((with_reducible refine gate_dst (N := 17) rfl ?_); (try (refine gate_guard (by rfl) ?_; dsimp only)); refine box_event ?hg (N := 17) ?hd (cs := #[.string (⟨#[]⟩ : ByteArray), .slice none 0 0]) (t := 29) ?hr ?_; (case hd => rfl); (case hg => rfl); (case hr => first | (go_simp; done) | (go_simp; rfl)); intro gb252 hg w35 hbox hb; have n0_ := Aside0.mk (Kd.V_below (Kd.V_elderB (by (with_reducible repeat (first | apply Kd.V_alloc | apply Kd.V_drewN | apply Kd.V_drew)); exact HO_8.out) gb252 (Nat.le_of_eq hg.symm)) hb); have n1_ := Aside0.mk (below_step (by repeat (first | (with_reducible first | exact HB.out | apply below_alloc | apply pw_below_drewN | apply below_drew1) | exact HB.out)) hb); have n2_ := Aside0.mk (hbox); have n3_ := Aside0.mk ((by rw [hg]; exact (below_size (by repeat (first | (with_reducible first | exact HB.out | apply below_alloc | apply pw_below_drewN | apply below_drew1) | exact HB.out))) : w.heap.size ≤ gb252)); have n4_ := Aside0.mk ((by rw [hg]; exact (below_size (by repeat (first | (with_reducible first | exact HB.out | apply below_alloc | apply pw_below_drewN | apply below_drew1) | exact HB.out))) : w.heap.size ≤ gb252)); clear HO_8; clear HB; have HO_8 := n0_; have HB := n1_; have BK252 := n2_; have GW252 := n3_; have GE252 := n4_; clear n0_ n1_ n2_ n3_ n4_; clear hb hbox hg; have hcz36_0 : w35.cell? ⟨gb252, 0, none⟩ = some (.string (⟨#[]⟩ : ByteArray)) := (blk_cell BK252.out 0).trans rfl; have hcz36_1 : w35.cell? ⟨gb252, 1, none⟩ = some (.slice none 0 0) := (blk_cell BK252.out 1).trans rfl; have hfz36_0 := blk_frozen BK252.out 0; have hfz36_1 := blk_frozen BK252.out 1) | ((with_reducible refine gate_callee (f := 15) rfl ?_); refine goesL_ (some 70) rfl rfl Try.func15 (by kernel_rfl) rfl #[.agg #[.string ((rd_T29 l0 x64_2).f0), .slice A251_1 ((rd_T29 l0 x64_2).f1).length c251_1]] rfl (by (try simp only [List.map_toArray, List.map_cons, List.map_nil]); first | done | rfl | (simp only [List.length_drop, List.length_take]; rfl)) ?_; (with_reducible refine (gridhallref3_All.calls k2 ((rd_T29 l0 x64_2).f0) _ _ ((rd_T29 l0 x64_2).f1) t253 _ ?side1 ?side2 A34.out).mono ?_); (case side1 => exact Kd.C_below HR251_1.out (by repeat (first | (with_reducible first | exact HB.out | apply below_alloc | apply pw_below_drewN | apply below_drew1 | refine below_set ?_ GE252.out) | exact HB.out))); (case side2 => exact HC251_1.out); rintro e w37 ⟨rfl, hb⟩; refine ⟨_, rfl, ?_⟩; have n0_ := Aside0.mk (Kd.V_below (by (with_reducible repeat (first | apply Kd.V_alloc | apply Kd.V_drewN | apply Kd.V_drew)); exact (Kd.V_mono (Kd.V_far (p := ⟨gb252, 1, none⟩) (Kd.V_far (p := ⟨gb252, 0, none⟩) (Kd.V_mono HO_8.out (fun k_ hk => (⟨hk, hk.2⟩ : _ ∧ k_ ≠ gb252))) (fun _ hk => hk.2) (.string ((rd_T29 l0 x64_2).f0))) (fun _ hk => hk.2) (.slice A251_1 ((rd_T29 l0 x64_2).f1).length c251_1)) (fun _ h_ => h_.1))) hb); have n1_ := Aside0.mk (blk_below (g := gb252) (o := .cells #[.string ((rd_T29 l0 x64_2).f0), .slice A251_1 ((rd_T29 l0 x64_2).f1).length c251_1] 29 (0, 0)) (by (with_reducible repeat (first | refine blk_drewN ?_ _ | refine blk_drew ?_ | refine blk_alloc ?_ _)); refine blk_put (cs := #[.string ((rd_T29 l0 x64_2).f0), .slice none 0 0]) ?_ 1 _ rfl; (with_reducible repeat (first | refine blk_drewN ?_ _ | refine blk_drew ?_ | refine blk_alloc ?_ _)); refine blk_put (cs := #[.string (⟨#[]⟩ : ByteArray), .slice none 0 0]) ?_ 0 _ rfl; (with_reducible repeat (first | refine blk_drewN ?_ _ | refine blk_drew ?_ | refine blk_alloc ?_ _)); exact BK252.out) hb); have n2_ := Aside0.mk (below_step (by repeat (first | (with_reducible first | exact HB.out | apply below_alloc | apply pw_below_drewN | apply below_drew1 | refine below_set ?_ GE252.out) | exact HB.out)) hb); clear HO_8; clear BK252; clear HB; have HO_8 := n0_; have BK252 := n1_; have HB := n2_; clear n0_ n1_ n2_; (try clear hb); (try clear hb2); (try clear hk); (try clear hi)))
                      go_roundg k2
                      case measure => have := HJ5.out; have := HK2.out; omega
                      case rel => exact ⟨(wrap64 (x15_2 + t253)), (wrap64 (x64_2 + 1)), (by first | rfl | (simp; done) | (simp [*]; done)), (by first | rfl | (simp; done) | (simp [*]; done)), H', ⟨by have := HJ5.out; have := HK2.out; omega⟩, ⟨by (with_reducible repeat (first | apply Kd.V_alloc | apply Kd.V_drewN | apply Kd.V_drew)); exact Kd.V_mono HO_8.out (fun _ hk => trivial)⟩, ⟨by repeat (first | (with_reducible first | exact HB.out | apply below_alloc | apply pw_below_drewN | apply below_drew1 | refine below_set ?_ GE252.out) | exact HB.out)⟩⟩
                    · rw [if_neg c33] at H
                      exact absurd H (by simp)
                  · rw [if_neg c32] at H
                    exact absurd H (by simp)
                · rw [if_neg c31] at H
                  have c31b0 : decide (x64_2 < (l0.length : Int)) = false := decide_eq_false c31
                  clear c31
                  replace H := Option.bind_eq_some_iff.mp H
                  obtain ⟨t254, A380, H⟩ := H
                  replace H : (if t254 = true then (if a1 > x15_2 then (gridhalllaw3_DispatchUnits.j2 k2 l0 a1 t242 t245 t246 t247 t248 t249 8) else (gridhalllaw3_DispatchUnits.j2 k2 l0 a1 t242 t245 t246 t247 t248 t249 t250)) else (gridhalllaw3_DispatchUnits.j2 k2 l0 a1 t242 t245 t246 t247 t248 t249 4)) = some r := H
                  have A38 := Aside0.mk A380
                  clear A380
                  by_cases c39 : t254 = true
                  · subst c39
                    have H1 : (if a1 > x15_2 then (gridhalllaw3_DispatchUnits.j2 k2 l0 a1 t242 t245 t246 t247 t248 t249 8) else (gridhalllaw3_DispatchUnits.j2 k2 l0 a1 t242 t245 t246 t247 t248 t249 t250)) = some r := by rw [if_pos rfl] at H; exact H
                    clear H
                    have H := H1
                    clear H1
                    by_cases c40 : a1 > x15_2
                    · rw [if_pos c40] at H
                      have c40b0 : decide (x15_2 < a1) = true := decide_eq_true c40
                      clear c40
                      have H' := Aside0.mk H
                      clear H
                      go_wp2_with (first | ((with_reducible refine gate_callee (f := 16) rfl ?_); refine goesL_ (some 74) rfl rfl Try.func16 (by kernel_rfl) rfl #[.int .i64 a1, .int .i64 0, .int .i64 1000000] rfl (by (try simp only [List.map_toArray, List.map_cons, List.map_nil]); first | done | rfl | (simp only [List.length_drop, List.length_take]; rfl)) ?_; (with_reducible refine (gridhallref3_In.calls a1 0 1000000 true _ A38.out).mono ?_); rintro e w' ⟨rfl, ⟨nd, rfl⟩⟩; refine ⟨_, rfl, ?_⟩))
                      go_meet
                      case rel => exact ⟨_, (8), (by first | rfl | (simp; done) | (simp [*]; done)), H', ⟨by have := HJ5.out; have := HK2.out; first | omega | exact Nat.le_refl _⟩, ⟨by (with_reducible repeat (first | apply Kd.V_alloc | apply Kd.V_drewN | apply Kd.V_drew)); exact HO_8.out⟩, ⟨by repeat (first | (with_reducible first | exact HB.out | apply below_alloc | apply pw_below_drewN | apply below_drew1) | exact HB.out)⟩⟩
                    · rw [if_neg c40] at H
                      have c40b0 : decide (x15_2 < a1) = false := decide_eq_false c40
                      clear c40
                      have H' := Aside0.mk H
                      clear H
                      go_wp2_with (first | ((with_reducible refine gate_callee (f := 16) rfl ?_); refine goesL_ (some 74) rfl rfl Try.func16 (by kernel_rfl) rfl #[.int .i64 a1, .int .i64 0, .int .i64 1000000] rfl (by (try simp only [List.map_toArray, List.map_cons, List.map_nil]); first | done | rfl | (simp only [List.length_drop, List.length_take]; rfl)) ?_; (with_reducible refine (gridhallref3_In.calls a1 0 1000000 true _ A38.out).mono ?_); rintro e w' ⟨rfl, ⟨nd, rfl⟩⟩; refine ⟨_, rfl, ?_⟩))
                      go_meet
                      case rel => exact ⟨_, (t250), (by first | rfl | (simp; done) | (simp [*]; done)), H', ⟨by have := HJ5.out; have := HK2.out; first | omega | exact Nat.le_refl _⟩, ⟨by (with_reducible repeat (first | apply Kd.V_alloc | apply Kd.V_drewN | apply Kd.V_drew)); exact HO_8.out⟩, ⟨by repeat (first | (with_reducible first | exact HB.out | apply below_alloc | apply pw_below_drewN | apply below_drew1) | exact HB.out)⟩⟩
                  · replace c39 := Bool.eq_false_iff.mpr c39
                    subst c39
                    have H1 : (gridhalllaw3_DispatchUnits.j2 k2 l0 a1 t242 t245 t246 t247 t248 t249 4) = some r := by rw [if_neg (show ¬ (false = true) by decide)] at H; exact H
                    clear H
                    have H := H1
                    clear H1
                    have H' := Aside0.mk H
                    clear H
                    go_wp2_with (first | ((with_reducible refine gate_callee (f := 16) rfl ?_); refine goesL_ (some 74) rfl rfl Try.func16 (by kernel_rfl) rfl #[.int .i64 a1, .int .i64 0, .int .i64 1000000] rfl (by (try simp only [List.map_toArray, List.map_cons, List.map_nil]); first | done | rfl | (simp only [List.length_drop, List.length_take]; rfl)) ?_; (with_reducible refine (gridhallref3_In.calls a1 0 1000000 false _ A38.out).mono ?_); rintro e w' ⟨rfl, ⟨nd, rfl⟩⟩; refine ⟨_, rfl, ?_⟩))
                    go_meet
                    case rel => exact ⟨_, (4), (by first | rfl | (simp; done) | (simp [*]; done)), H', ⟨by have := HJ5.out; have := HK2.out; first | omega | exact Nat.le_refl _⟩, ⟨by (with_reducible repeat (first | apply Kd.V_alloc | apply Kd.V_drewN | apply Kd.V_drew)); exact HO_8.out⟩, ⟨by repeat (first | (with_reducible first | exact HB.out | apply below_alloc | apply pw_below_drewN | apply below_drew1) | exact HB.out)⟩⟩
          · rw [if_neg c30] at H
            have c30b0 : (t250 == 0) = false := beq_eq_false_iff_ne.mpr c30
            have c30b1 : (t250 != 0) = true := bne_iff_ne.mpr c30
            (first | rw [c30b0] | (simp only [i64_w, i32_w]; rw [c30b0]) | skip)
            have H' := Aside0.mk H
            clear H
            go_wp2
            go_meet
            case rel => exact ⟨_, (t250), (by first | rfl | (simp; done) | (simp [*]; done)), H', ⟨by have := HJ5.out; first | omega | exact Nat.le_refl _⟩, ⟨by (with_reducible repeat (first | apply Kd.V_alloc | apply Kd.V_drewN | apply Kd.V_drew)); exact HO244.out⟩, ⟨by repeat (first | (with_reducible first | exact HB.out | apply below_alloc | apply pw_below_drewN | apply below_drew1) | exact HB.out)⟩⟩
        case rest => as_aux_lemma =>
          clear HC26
          try clear c1
          try clear c2
          try clear p2
          try clear q2
          try clear hx2
          try clear c3
          try clear c4
          try clear c5
          try clear p6
          try clear c10
          try clear c15
          try clear c15b0
          try clear c15b1
          try clear c16
          try clear c16b0
          try clear c16b1
          try clear c21
          try clear c22
          try clear c23
          try clear c24
          try clear c25
          try clear p25
          try clear q25
          try clear hx25
          try clear c30
          try clear c30b0
          try clear c30b1
          try clear c31
          try clear c31b0
          try clear c32
          try clear c32b0
          try clear c33
          try clear c33b0
          try clear c39
          try clear c40
          try clear c40b0
          try clear hcz36_0
          try clear hcz36_1
          try clear hfz36_0
          try clear hfz36_1
          try clear hx251_0
          try clear hx251_1
          try clear p2
          try clear p251
          try clear q251
          obtain ⟨kq, x14_25, rfl, HA, HJ25, HO_8, HB⟩ := hcut
          cases kq with
          | zero => exact absurd HA.out (by simp [gridhalllaw3_DispatchUnits.j2])
          | succ kj25 =>
            have H := HA.out
            clear HA
            simp only [gridhalllaw3_DispatchUnits.j2] at H
            by_cases c41 : x14_25 = 0
            · rw [if_pos c41] at H
              have c41b0 : (x14_25 == 0) = true := beq_iff_eq.mpr c41
              have c41b1 : (x14_25 != 0) = false := bne_eq_false_iff_eq.mpr c41
              clear c41
              by_cases c42 : a1 > 200
              · rw [if_pos c42] at H
                have c42b0 : decide (200 < a1) = true := decide_eq_true c42
                clear c42
                obtain rfl := Option.some.inj H
                go_wp2
                go_ret
                exact ⟨by first | rfl | (simp [errW_none, errW_some] <;> rfl) | (simp [*, errW_none, errW_some] <;> rfl), by repeat (first | (with_reducible first | exact HB.out | apply below_alloc | apply pw_below_drewN | apply below_drew1) | exact HB.out)⟩
              · rw [if_neg c42] at H
                have c42b0 : decide (200 < a1) = false := decide_eq_false c42
                clear c42
                replace H := Option.bind_eq_some_iff.mp H
                obtain ⟨t255, A430, H⟩ := H
                replace H : (gridhalllaw3_DispatchUnits.l1 kj25 t242 t245 t246 t247 t248 t249 t255 0 (-2000000) 2000000 l0 (l0.length : Int) 0) = some r := H
                have A43 := Aside0.mk A430
                clear A430
                have H' := Aside0.mk H
                clear H
                go_wp2_with (first | ((with_reducible refine gate_callee (f := 25) rfl ?_); refine goesL_ (some 110) rfl rfl Try.func25 (by kernel_rfl) rfl #[.slice A0 l0.length c0, .int .i64 a1] rfl (by (try simp only [List.map_toArray, List.map_cons, List.map_nil]); first | done | rfl | (simp only [List.length_drop, List.length_take]; rfl)) ?_; (with_reducible refine (gridhallref3_Served.calls kj25 _ _ l0 a1 t255 _ ?side1 ?side2 A43.out).mono ?_); (case side1 => repeat (first | exact (Kd.C_below HR0.out HB.out) | (with_reducible refine Kd.C_alloc ?_ _) | (with_reducible refine Kd.C_drewN ?_ _) | (with_reducible refine Kd.C_drew ?_))); (case side2 => exact HC0.out); rintro e w44 ⟨v256, rfl, ho0, hb⟩; refine ⟨_, rfl, ?_⟩; have n0_ := Aside0.mk (Kd.V_elder' (by (with_reducible repeat (first | apply Kd.V_alloc | apply Kd.V_drewN | apply Kd.V_drew)); exact HO_8.out) (Kd.R_base ho0) hb); have n1_ := Aside0.mk (Kd.R_lower ho0 (below_size (by repeat (first | (with_reducible first | exact HB.out | apply below_alloc | apply pw_below_drewN | apply below_drew1) | exact HB.out)))); have n2_ := Aside0.mk (below_step (by repeat (first | (with_reducible first | exact HB.out | apply below_alloc | apply pw_below_drewN | apply below_drew1) | exact HB.out)) hb); clear HO_8; clear HB; have HO_8 := n0_; have HO257 := n1_; have HB := n2_; clear n0_ n1_ n2_; (try clear hb); (try clear hb2); (try clear hk); (try clear hi); (try clear ho0)))
                go_loopg [19, 20, 21, 113] kj25 (fun kq v19 v20 v21 v113 w' => ∃ (x19_3 : Int) (x20_3 : Int) (x21_3 : Int) (x113_3 : Int), v19 = .int .i64 x19_3 ∧ v20 = .int .i64 x20_3 ∧ v21 = .int .i64 x21_3 ∧ v113 = .int .i64 x113_3 ∧ Aside0 (gridhalllaw3_DispatchUnits.l1 kq t242 t245 t246 t247 t248 t249 t255 x19_3 x20_3 x21_3 l0 (l0.length : Int) x113_3 = some r) ∧ Aside0 (kq ≤ kj25) ∧ Aside0 (Kd.V (Kd.int .i64) 3 w' w.heap.size (fun k_ => some k_ ≠ (v256 : Value).ownBlock) v243 t242) ∧ Aside0 (Kd.R (Kd.int .i64) 3 w' w.heap.size (fun _ => True) v256 t255) ∧ Aside0 (Below w.heap.size w w'))
                case atStart => exact ⟨(0), ((-2000000)), (2000000), (0), (by first | rfl | (simp; done) | (simp [*]; done)), (by first | rfl | (simp; done) | (simp [*]; done)), (by first | rfl | (simp; done) | (simp [*]; done)), (by first | rfl | (simp; done) | (simp [*]; done)), H', ⟨Nat.le_refl _⟩, ⟨by (with_reducible repeat (first | apply Kd.V_alloc | apply Kd.V_drewN | apply Kd.V_drew)); exact Kd.V_mono HO_8.out (fun _ hk => hk.2)⟩, ⟨by (with_reducible repeat (first | apply Kd.R_alloc | apply Kd.R_drewN | apply Kd.R_drew)); exact HO257.out⟩, ⟨by repeat (first | (with_reducible first | exact HB.out | apply below_alloc | apply pw_below_drewN | apply below_drew1) | exact HB.out)⟩⟩
                case round => as_aux_lemma =>
                  clear H'
                  try clear c1
                  try clear c2
                  try clear p2
                  try clear q2
                  try clear hx2
                  try clear c3
                  try clear c4
                  try clear c5
                  try clear p6
                  try clear c10
                  try clear c15
                  try clear c15b0
                  try clear c15b1
                  try clear c16
                  try clear c16b0
                  try clear c16b1
                  try clear c21
                  try clear c22
                  try clear c23
                  try clear c24
                  try clear c25
                  try clear p25
                  try clear q25
                  try clear hx25
                  try clear c30
                  try clear c30b0
                  try clear c30b1
                  try clear c31
                  try clear c31b0
                  try clear c32
                  try clear c32b0
                  try clear c33
                  try clear c33b0
                  try clear c39
                  try clear c40
                  try clear c40b0
                  try clear c41
                  try clear c41b0
                  try clear c41b1
                  try clear c42
                  try clear c42b0
                  try clear hcz36_0
                  try clear hcz36_1
                  try clear hfz36_0
                  try clear hfz36_1
                  try clear hx251_0
                  try clear hx251_1
                  try clear p2
                  try clear p25
                  try clear p251
                  try clear p6
                  try clear q2
                  try clear q25
                  try clear q251
                  obtain ⟨x19_3, x20_3, x21_3, x113_3, rfl, rfl, rfl, rfl, HA, HK3, HO_8, HO_18, HB⟩ := hrel
                  cases gk with
                  | zero => exact absurd HA.out (by simp [gridhalllaw3_DispatchUnits.l1])
                  | succ k3 =>
                    have H := HA.out
                    clear HA
                    simp only [gridhalllaw3_DispatchUnits.l1] at H
                    by_cases c45 : x113_3 < (l0.length : Int)
                    · rw [if_pos c45] at H
                      have c45b0 : decide (x113_3 < (l0.length : Int)) = true := decide_eq_true c45
                      clear c45
                      by_cases c46 : 0 ≤ x113_3
                      · rw [if_pos c46] at H
                        have c46b0 : decide (0 ≤ x113_3) = true := decide_eq_true c46
                        clear c46
                        by_cases c47 : x113_3 < (l0.length : Int)
                        · rw [if_pos c47] at H
                          have c47b0 : decide (x113_3 < (l0.length : Int)) = true := decide_eq_true c47
                          clear c47
                          by_cases c48 : x113_3 < (t255.length : Int)
                          · rw [if_pos c48] at H
                            have c48b0 : decide (x113_3 < (t255.length : Int)) = true := decide_eq_true c48
                            clear c48
                            replace H := Option.bind_eq_some_iff.mp H
                            obtain ⟨t262, A490, H⟩ := H
                            replace H : (if (rd t255 x113_3) > 0 then ((gridhallref3_Unit.f k3 ((rd_T29 l0 x113_3).f0) ((rd_T29 l0 x113_3).f1) (wrap64 ((rd t255 x113_3) - 1))).bind fun t265 => ((gridhallref3_Unit.f k3 ((rd_T29 l0 x113_3).f0) ((rd_T29 l0 x113_3).f1) (rd t255 x113_3)).bind fun t267 => (gridhalllaw3_DispatchUnits.l1 k3 t242 t245 t246 t247 t248 t249 t255 (wrap64 (x19_3 + t262)) (mx x20_3 t265) (mn x21_3 t267) l0 (l0.length : Int) (wrap64 (x113_3 + 1))))) else ((gridhallref3_Unit.f k3 ((rd_T29 l0 x113_3).f0) ((rd_T29 l0 x113_3).f1) (rd t255 x113_3)).bind fun t269 => (gridhalllaw3_DispatchUnits.l1 k3 t242 t245 t246 t247 t248 t249 t255 (wrap64 (x19_3 + t262)) x20_3 (mn x21_3 t269) l0 (l0.length : Int) (wrap64 (x113_3 + 1))))) = some r := H
                            have A49 := Aside0.mk A490
                            clear A490
                            by_cases c50 : (rd t255 x113_3) > 0
                            · rw [if_pos c50] at H
                              have c50b0 : decide (0 < (rd t255 x113_3)) = true := decide_eq_true c50
                              clear c50
                              replace H := Option.bind_eq_some_iff.mp H
                              obtain ⟨t265, A510, H⟩ := H
                              replace H : ((gridhallref3_Unit.f k3 ((rd_T29 l0 x113_3).f0) ((rd_T29 l0 x113_3).f1) (rd t255 x113_3)).bind fun t267 => (gridhalllaw3_DispatchUnits.l1 k3 t242 t245 t246 t247 t248 t249 t255 (wrap64 (x19_3 + t262)) (mx x20_3 t265) (mn x21_3 t267) l0 (l0.length : Int) (wrap64 (x113_3 + 1)))) = some r := H
                              have A51 := Aside0.mk A510
                              clear A510
                              obtain ⟨ji52, hji52⟩ : ∃ j_ : Int, (mx x20_3 t265) = j_ := ⟨_, rfl⟩
                              replace H : ((gridhallref3_Unit.f k3 ((rd_T29 l0 x113_3).f0) ((rd_T29 l0 x113_3).f1) (rd t255 x113_3)).bind fun t267 => (gridhalllaw3_DispatchUnits.l1 k3 t242 t245 t246 t247 t248 t249 t255 (wrap64 (x19_3 + t262)) ji52 (mn x21_3 t267) l0 (l0.length : Int) (wrap64 (x113_3 + 1)))) = some r := by first | (rw [hji52] at H; exact H) | (simp only [hji52] at H ⊢; exact H)
                              (try rw [hji52] at A49)
                              (try rw [hji52] at A51)
                              have hji52_ : (if x20_3 < t265 then t265 else x20_3) = ji52 := hji52
                              replace H := Option.bind_eq_some_iff.mp H
                              obtain ⟨t267, A530, H⟩ := H
                              replace H : (gridhalllaw3_DispatchUnits.l1 k3 t242 t245 t246 t247 t248 t249 t255 (wrap64 (x19_3 + t262)) ji52 (mn x21_3 t267) l0 (l0.length : Int) (wrap64 (x113_3 + 1))) = some r := H
                              have A53 := Aside0.mk A530
                              clear A530
                              obtain ⟨ji54, hji54⟩ : ∃ j_ : Int, (mn x21_3 t267) = j_ := ⟨_, rfl⟩
                              replace H : (gridhalllaw3_DispatchUnits.l1 k3 t242 t245 t246 t247 t248 t249 t255 (wrap64 (x19_3 + t262)) ji52 ji54 l0 (l0.length : Int) (wrap64 (x113_3 + 1))) = some r := by first | (rw [hji54] at H; exact H) | (simp only [hji54] at H ⊢; exact H)
                              (try rw [hji54] at A49)
                              (try rw [hji54] at A51)
                              (try rw [hji54] at A53)
                              have hji54_ : (if t267 < x21_3 then t267 else x21_3) = ji54 := hji54
                              have H' := Aside0.mk H
                              clear H
                              have p259 : 0 ≤ (x113_3 : Int) := of_decide_eq_true (by first | (with_reducible assumption) | assumption)
                              have q259 : x113_3 < (l0.length : Int) := of_decide_eq_true (by first | (with_reducible assumption) | assumption)
                              obtain ⟨ad259, A259_1, c259_1, e259, hx259_0, hx259_1, hl259_1, hi259_1⟩ := at_T29 HR0.out x113_3 p259 q259
                              cases e259
                              replace hx259_0 := (HB.out.cell (World.block_lt_of_cell? w _ hx259_0)).trans hx259_0
                              replace hx259_1 := (HB.out.cell (World.block_lt_of_cell? w _ hx259_1)).trans hx259_1
                              have HR259_1 := Aside0.mk hi259_1
                              have HC259_1 := Aside0.mk hl259_1
                              clear hi259_1 hl259_1
                              replace p259 := eq_true p259
                              replace q259 := eq_true q259
                              try go_wp2_with (first | ((with_reducible refine gate_dst (N := 23) rfl ?_); (try (refine gate_guard (by rfl) ?_; dsimp only)); refine box_event ?hg (N := 23) ?hd (cs := #[.string (⟨#[]⟩ : ByteArray), .slice none 0 0]) (t := 29) ?hr ?_; (case hd => rfl); (case hg => rfl); (case hr => first | (go_simp; done) | (go_simp; rfl)); intro gb260 hg w55 hbox hb; have n0_ := Aside0.mk (Kd.V_below (Kd.V_elderB (by (with_reducible repeat (first | apply Kd.V_alloc | apply Kd.V_drewN | apply Kd.V_drew)); exact HO_8.out) gb260 (Nat.le_of_eq hg.symm)) hb); have n1_ := Aside0.mk (Kd.R_below (by (with_reducible repeat (first | apply Kd.R_alloc | apply Kd.R_drewN | apply Kd.R_drew)); exact HO_18.out) hb); have n2_ := Aside0.mk (below_step (by repeat (first | (with_reducible first | exact HB.out | apply below_alloc | apply pw_below_drewN | apply below_drew1) | exact HB.out)) hb); have n3_ := Aside0.mk (hbox); have n4_ := Aside0.mk ((by rw [hg]; exact (below_size (by repeat (first | (with_reducible first | exact HB.out | apply below_alloc | apply pw_below_drewN | apply below_drew1) | exact HB.out))) : w.heap.size ≤ gb260)); have n5_ := Aside0.mk ((by rw [hg]; exact (below_size (by repeat (first | (with_reducible first | exact HB.out | apply below_alloc | apply pw_below_drewN | apply below_drew1) | exact HB.out))) : w.heap.size ≤ gb260)); clear HO_8; clear HO_18; clear HB; have HO_8 := n0_; have HO_18 := n1_; have HB := n2_; have BK260 := n3_; have GW260 := n4_; have GE260 := n5_; clear n0_ n1_ n2_ n3_ n4_ n5_; clear hb hbox hg; have hcz56_0 : w55.cell? ⟨gb260, 0, none⟩ = some (.string (⟨#[]⟩ : ByteArray)) := (blk_cell BK260.out 0).trans rfl; have hcz56_1 : w55.cell? ⟨gb260, 1, none⟩ = some (.slice none 0 0) := (blk_cell BK260.out 1).trans rfl; have hfz56_0 := blk_frozen BK260.out 0; have hfz56_1 := blk_frozen BK260.out 1))
                              have n0_ : Aside0 (Kd.V (Kd.int .i64) 3 ((w55.setCell ⟨gb260, 0, none⟩ (.string ((rd_T29 l0 x113_3).f0))).setCell ⟨gb260, 1, none⟩ (.slice A259_1 ((rd_T29 l0 x113_3).f1).length c259_1)) w.heap.size (fun k_ => some k_ ≠ (v256 : Value).ownBlock ∧ k_ ≠ gb260) v243 t242) := ⟨by (with_reducible repeat (first | apply Kd.V_alloc | apply Kd.V_drewN | apply Kd.V_drew)); exact Kd.V_mono (Kd.V_far (p := ⟨gb260, 1, none⟩) (Kd.V_far (p := ⟨gb260, 0, none⟩) (Kd.V_mono HO_8.out (fun k_ hk => (⟨hk, hk.2⟩ : _ ∧ k_ ≠ gb260))) (fun _ hk => hk.2) (.string ((rd_T29 l0 x113_3).f0))) (fun _ hk => hk.2) (.slice A259_1 ((rd_T29 l0 x113_3).f1).length c259_1)) (fun _ hk => ⟨hk.1.1, hk.1.2⟩)⟩
                              have n1_ : Aside0 (Kd.R (Kd.int .i64) 3 ((w55.setCell ⟨gb260, 0, none⟩ (.string ((rd_T29 l0 x113_3).f0))).setCell ⟨gb260, 1, none⟩ (.slice A259_1 ((rd_T29 l0 x113_3).f1).length c259_1)) w.heap.size (fun _ => True) v256 t255) := ⟨by (with_reducible repeat (first | apply Kd.R_alloc | apply Kd.R_drewN | apply Kd.R_drew)); exact Kd.R_mono (Kd.R_far (p := ⟨gb260, 1, none⟩) (Kd.R_far (p := ⟨gb260, 0, none⟩) (Kd.R_types HO_18.out BK260.out (by decide)) (fun _ hk => hk.2) (.string ((rd_T29 l0 x113_3).f0))) (fun _ hk => hk.2) (.slice A259_1 ((rd_T29 l0 x113_3).f1).length c259_1)) (fun _ hk => trivial)⟩
                              have n2_ : Aside0 (((w55.setCell ⟨gb260, 0, none⟩ (.string ((rd_T29 l0 x113_3).f0))).setCell ⟨gb260, 1, none⟩ (.slice A259_1 ((rd_T29 l0 x113_3).f1).length c259_1)).heap[gb260]? = some (.cells #[.string ((rd_T29 l0 x113_3).f0), .slice A259_1 ((rd_T29 l0 x113_3).f1).length c259_1] 29 (0, 0))) := ⟨by (with_reducible repeat (first | refine blk_drewN ?_ _ | refine blk_drew ?_ | refine blk_alloc ?_ _)); refine blk_put (cs := #[.string ((rd_T29 l0 x113_3).f0), .slice none 0 0]) ?_ 1 _ rfl; (with_reducible repeat (first | refine blk_drewN ?_ _ | refine blk_drew ?_ | refine blk_alloc ?_ _)); refine blk_put (cs := #[.string (⟨#[]⟩ : ByteArray), .slice none 0 0]) ?_ 0 _ rfl; (with_reducible repeat (first | refine blk_drewN ?_ _ | refine blk_drew ?_ | refine blk_alloc ?_ _)); exact BK260.out⟩
                              have n3_ : Aside0 (Below w.heap.size w ((w55.setCell ⟨gb260, 0, none⟩ (.string ((rd_T29 l0 x113_3).f0))).setCell ⟨gb260, 1, none⟩ (.slice A259_1 ((rd_T29 l0 x113_3).f1).length c259_1))) := ⟨by repeat (first | (with_reducible first | exact HB.out | apply below_alloc | apply pw_below_drewN | apply below_drew1 | refine below_set ?_ GE260.out) | exact HB.out)⟩
                              (try clear HO_8)
                              (try clear HO_18)
                              (try clear BK260)
                              (try clear HB)
                              generalize ((w55.setCell ⟨gb260, 0, none⟩ (.string ((rd_T29 l0 x113_3).f0))).setCell ⟨gb260, 1, none⟩ (.slice A259_1 ((rd_T29 l0 x113_3).f1).length c259_1)) = w57 at n0_ n1_ n2_ n3_ ⊢
                              have HO_8 := n0_
                              have HO_18 := n1_
                              have BK260 := n2_
                              have HB := n3_
                              clear n0_ n1_ n2_ n3_
                              have n0_ := Aside0.mk (Kd.V_drew HO_8.out)
                              have n1_ := Aside0.mk (Kd.R_drew HO_18.out)
                              have n2_ := Aside0.mk (blk_drew BK260.out)
                              have n3_ := Aside0.mk (below_drew1 HB.out)
                              clear HO_8
                              clear HO_18
                              clear BK260
                              clear HB
                              have HO_8 := n0_
                              have HO_18 := n1_
                              have BK260 := n2_
                              have HB := n3_
                              clear n0_ n1_ n2_ n3_
                              obtain ⟨Ao59, co59, eo59⟩ := Kd.R_slice HO_18.out
                              (first | subst eo59 | (injection eo59 with f1_ f2_ f3_; have f4_ := f1_.symm; have f5_ := f3_.symm; clear f1_ f2_ f3_; subst f4_; subst f5_))
                              have p261 : 0 ≤ (x113_3 : Int) := of_decide_eq_true (by first | (with_reducible assumption) | assumption)
                              have q261 : x113_3 < (t255.length : Int) := of_decide_eq_true (by first | (with_reducible assumption) | assumption)
                              obtain ⟨ad261, e261, hx261_0⟩ := Kd.at_int (Kd.R_reads' HO_18.out).2.2 x113_3 p261 q261
                              cases e261
                              replace p261 := eq_true p261
                              replace q261 := eq_true q261
                              refine start_ (n := 9) (S := fun w' => w'.cell? ⟨gb260, 0, none⟩ = some (.string ((rd_T29 l0 x113_3).f0)) ∧ w'.cell? ⟨gb260, 1, none⟩ = some (.slice A259_1 ((rd_T29 l0 x113_3).f1).length c259_1) ∧ w'.cell? (ad261.add (x113_3).toNat) = some (.int .i64 (rd t255 x113_3))) (ds := []) #[false, false, false, false, false, false, false, false, false] (by kernel_rfl) rfl rfl ⟨(blk_cell BK260.out 0).trans rfl, (blk_cell BK260.out 1).trans rfl, hx261_0⟩ (fun hHeld => ?_); refine with_tabW gridhalllaw3_DispatchUnits.tab27 gridhalllaw3_DispatchUnits.bits27 (fun HT_ HW_ => ?_)
                              generalize w57.drew = w58 at HO_8 HO_18 BK260 HB hx261_0 hHeld ⊢
                              refine pure_ (i := 0) (N := some 118) (v := ?_) (a' := ?_) #[true, false, false, false, false, false, false, false, false] rfl rfl (any_of HT_.out (by kernel_rfl)) (fun _ _ _ h => h) (Or.inl ⟨by rfl, ?_⟩) ?_ ?_
                              rotate_left
                              · intro w'
                                go_simp
                                with_reducible rfl
                              rotate_left
                              · simp only [Act.put, List.setIfInBounds_toArray, List.set_cons_zero, List.set_cons_succ, i64_w, i32_w]
                                rfl
                              refine pure_ (i := 2) (N := some 120) (v := ?_) (a' := ?_) #[true, false, true, false, false, false, false, false, false] rfl rfl (any_of HT_.out (by kernel_rfl)) (fun _ _ _ h => h) (Or.inl ⟨by rfl, ?_⟩) ?_ ?_
                              rotate_left
                              · intro w'
                                go_simp
                                with_reducible rfl
                              rotate_left
                              · simp only [Act.put, List.setIfInBounds_toArray, List.set_cons_zero, List.set_cons_succ, i64_w, i32_w]
                                rfl
                              refine pure_ (i := 3) (N := some 121) (v := ?_) (a' := ?_) #[true, false, true, true, false, false, false, false, false] rfl rfl (any_of HT_.out (by kernel_rfl)) (fun _ _ _ h => h) (Or.inl ⟨by rfl, ?_⟩) ?_ ?_
                              rotate_left
                              · intro w'
                                go_simp
                                with_reducible rfl
                              rotate_left
                              · simp only [Act.put, List.setIfInBounds_toArray, List.set_cons_zero, List.set_cons_succ, i64_w, i32_w]
                                rfl
                              refine pure_ (i := 4) (N := some 122) (v := ?_) (a' := ?_) #[true, false, true, true, true, false, false, false, false] rfl rfl (any_of HT_.out (by kernel_rfl)) (fun _ _ _ h => h) (Or.inl ⟨by rfl, ?_⟩) ?_ ?_
                              rotate_left
                              · intro w'
                                go_simp
                                with_reducible rfl
                              rotate_left
                              · simp only [Act.put, List.setIfInBounds_toArray, List.set_cons_zero, List.set_cons_succ, i64_w, i32_w]
                                rfl
                              refine take_ (i := 1) (N := some 119) (v := ?_) (a' := ?_) #[true, true, true, true, true, false, false, false, false] rfl rfl (take_ofW HT_.out HW_.out (by kernel_rfl)) (fun _ _ _ h => h) (Or.inl ⟨by rfl, ?_⟩) hHeld ?_ ?_
                              rotate_left
                              · rintro w' ⟨s0, s1, s2⟩
                                go_simp
                                with_reducible rfl
                              rotate_left
                              · simp only [Act.put, List.setIfInBounds_toArray, List.set_cons_zero, List.set_cons_succ, i64_w, i32_w]
                                rfl
                              refine take_ (i := 5) (N := some 123) (v := ?_) (a' := ?_) #[true, true, true, true, true, true, false, false, false] rfl rfl (take_ofW HT_.out HW_.out (by kernel_rfl)) (fun _ _ _ h => h) (Or.inl ⟨by rfl, ?_⟩) hHeld ?_ ?_
                              rotate_left
                              · rintro w' ⟨s0, s1, s2⟩
                                go_simp
                                with_reducible rfl
                              rotate_left
                              · simp only [Act.put, List.setIfInBounds_toArray, List.set_cons_zero, List.set_cons_succ, i64_w, i32_w]
                                rfl
                              refine one_ (i := 6) (N := some 124) #[true, true, true, true, true, true, true, false, false] rfl rfl (one_of HT_.out (by kernel_rfl)) (by decide) (fun K hK => ?_)
                              refine goes_ Try.func19 (by kernel_rfl) rfl #[.agg #[.string ((rd_T29 l0 x113_3).f0), .slice A259_1 ((rd_T29 l0 x113_3).f1).length c259_1], .int .i64 (rd t255 x113_3)] (by rfl) rfl rfl (by (try simp only [List.map_toArray, List.map_cons, List.map_nil]); first | done | rfl | (simp only [List.length_drop, List.length_take]; rfl)) ?_
                              with_reducible refine (gridhallref3_Cost.calls k3 ((rd_T29 l0 x113_3).f0) _ _ ((rd_T29 l0 x113_3).f1) (rd t255 x113_3) t262 _ ?side1 ?side2 A49.out).mono ?_
                              (case side1 => repeat (first | exact (Kd.C_below HR259_1.out HB.out) | (with_reducible refine Kd.C_alloc ?_ _) | (with_reducible refine Kd.C_drewN ?_ _) | (with_reducible refine Kd.C_drew ?_)))
                              (case side2 => exact HC259_1.out)
                              rintro e w60 ⟨rfl, hb⟩
                              have HS2_ := (hb.cell (World.block_lt_of_cell? _ _ (hHeld.2.2))).trans (hHeld.2.2)
                              refine ⟨_, rfl, ?_⟩
                              have n0_ := Aside0.mk (Kd.V_below (by (with_reducible repeat (first | apply Kd.V_alloc | apply Kd.V_drewN | apply Kd.V_drew)); exact HO_8.out) hb)
                              have n1_ := Aside0.mk (Kd.R_below (by (with_reducible repeat (first | apply Kd.R_alloc | apply Kd.R_drewN | apply Kd.R_drew)); exact HO_18.out) hb)
                              have n2_ := Aside0.mk (blk_below (g := gb260) (o := .cells #[.string ((rd_T29 l0 x113_3).f0), .slice A259_1 ((rd_T29 l0 x113_3).f1).length c259_1] 29 (0, 0)) (by (with_reducible repeat (first | refine blk_drewN ?_ _ | refine blk_drew ?_ | refine blk_alloc ?_ _)); exact BK260.out) hb)
                              have n3_ := Aside0.mk (below_step (by repeat (first | (with_reducible first | exact HB.out | apply below_alloc | apply pw_below_drewN | apply below_drew1 | refine below_set ?_ GE260.out) | exact HB.out)) hb)
                              clear HO_8
                              clear HO_18
                              clear BK260
                              clear HB
                              have HO_8 := n0_
                              have HO_18 := n1_
                              have BK260 := n2_
                              have HB := n3_
                              clear n0_ n1_ n2_ n3_
                              (try clear hb)
                              (try clear hb2)
                              (try clear hk)
                              (try clear hi)
                              refine hK.out _ _ ⟨(blk_cell BK260.out 0).trans rfl, (blk_cell BK260.out 1).trans rfl, HS2_⟩ (fun hHeld => ?_)
                              clear hK K
                              refine norm_ (a' := ?_) ?_ ?_
                              rotate_left
                              · show Act.put _ (some 124) _ = _
                                simp only [Act.put, List.setIfInBounds_toArray, List.set_cons_zero, List.set_cons_succ, i64_w, i32_w]
                                rfl
                              refine pure_ (i := 7) (N := some 125) (v := ?_) (a' := ?_) #[true, true, true, true, true, true, true, true, false] rfl rfl (any_of HT_.out (by kernel_rfl)) (fun _ _ _ h => h) (Or.inl ⟨by rfl, ?_⟩) ?_ ?_
                              rotate_left
                              · intro w'
                                go_simp
                                with_reducible rfl
                              rotate_left
                              · simp only [Act.put, List.setIfInBounds_toArray, List.set_cons_zero, List.set_cons_succ, i64_w, i32_w]
                                rfl
                              refine pure_ (i := 8) (N := some 19) (v := ?_) (a' := ?_) #[true, true, true, true, true, true, true, true, true] rfl rfl (any_of HT_.out (by kernel_rfl)) (fun _ _ _ h => h) (Or.inl ⟨by rfl, ?_⟩) ?_ ?_
                              rotate_left
                              · intro w'
                                go_simp
                                with_reducible rfl
                              rotate_left
                              · simp only [Act.put, List.setIfInBounds_toArray, List.set_cons_zero, List.set_cons_succ, i64_w, i32_w]
                                rfl
                              refine done_ (done_of HT_.out (by kernel_rfl)) ?_
                              have p263 : 0 ≤ (x113_3 : Int) := of_decide_eq_true (by first | (with_reducible assumption) | assumption)
                              have q263 : x113_3 < (t255.length : Int) := of_decide_eq_true (by first | (with_reducible assumption) | assumption)
                              obtain ⟨ad263, e263, hx263_0⟩ := Kd.at_int (Kd.R_reads' HO_18.out).2.2 x113_3 p263 q263
                              obtain rfl : ad261 = ad263 := (by injection e263)
                              replace p263 := eq_true p263
                              replace q263 := eq_true q263
                              try go_wp2
                              have n0_ := Aside0.mk (Kd.V_drew HO_8.out)
                              have n1_ := Aside0.mk (Kd.R_drew HO_18.out)
                              have n2_ := Aside0.mk (blk_drew BK260.out)
                              have n3_ := Aside0.mk (below_drew1 HB.out)
                              clear HO_8
                              clear HO_18
                              clear BK260
                              clear HB
                              have HO_8 := n0_
                              have HO_18 := n1_
                              have BK260 := n2_
                              have HB := n3_
                              clear n0_ n1_ n2_ n3_
                              have p264 : 0 ≤ (x113_3 : Int) := of_decide_eq_true (by first | (with_reducible assumption) | assumption)
                              have q264 : x113_3 < (t255.length : Int) := of_decide_eq_true (by first | (with_reducible assumption) | assumption)
                              obtain ⟨ad264, e264, hx264_0⟩ := Kd.at_int (Kd.R_reads' HO_18.out).2.2 x113_3 p264 q264
                              obtain rfl : ad261 = ad264 := (by injection e264)
                              replace p264 := eq_true p264
                              replace q264 := eq_true q264
                              refine start_ (n := 10) (S := fun w' => w'.cell? ⟨gb260, 0, none⟩ = some (.string ((rd_T29 l0 x113_3).f0)) ∧ w'.cell? ⟨gb260, 1, none⟩ = some (.slice A259_1 ((rd_T29 l0 x113_3).f1).length c259_1) ∧ w'.cell? (ad261.add (x113_3).toNat) = some (.int .i64 (rd t255 x113_3))) (ds := []) #[false, false, false, false, false, false, false, false, false, false] (by kernel_rfl) rfl rfl ⟨(blk_cell BK260.out 0).trans rfl, (blk_cell BK260.out 1).trans rfl, hx264_0⟩ (fun hHeld => ?_); refine with_tabW gridhalllaw3_DispatchUnits.tab29 gridhalllaw3_DispatchUnits.bits29 (fun HT_ HW_ => ?_)
                              generalize w60.drew = w61 at HO_8 HO_18 BK260 HB hx264_0 hHeld ⊢
                              refine pure_ (i := 0) (N := some 131) (v := ?_) (a' := ?_) #[true, false, false, false, false, false, false, false, false, false] rfl rfl (any_of HT_.out (by kernel_rfl)) (fun _ _ _ h => h) (Or.inl ⟨by rfl, ?_⟩) ?_ ?_
                              rotate_left
                              · intro w'
                                go_simp
                                with_reducible rfl
                              rotate_left
                              · simp only [Act.put, List.setIfInBounds_toArray, List.set_cons_zero, List.set_cons_succ, i64_w, i32_w]
                                rfl
                              refine pure_ (i := 2) (N := some 133) (v := ?_) (a' := ?_) #[true, false, true, false, false, false, false, false, false, false] rfl rfl (any_of HT_.out (by kernel_rfl)) (fun _ _ _ h => h) (Or.inl ⟨by rfl, ?_⟩) ?_ ?_
                              rotate_left
                              · intro w'
                                go_simp
                                with_reducible rfl
                              rotate_left
                              · simp only [Act.put, List.setIfInBounds_toArray, List.set_cons_zero, List.set_cons_succ, i64_w, i32_w]
                                rfl
                              refine pure_ (i := 3) (N := some 134) (v := ?_) (a' := ?_) #[true, false, true, true, false, false, false, false, false, false] rfl rfl (any_of HT_.out (by kernel_rfl)) (fun _ _ _ h => h) (Or.inl ⟨by rfl, ?_⟩) ?_ ?_
                              rotate_left
                              · intro w'
                                go_simp
                                with_reducible rfl
                              rotate_left
                              · simp only [Act.put, List.setIfInBounds_toArray, List.set_cons_zero, List.set_cons_succ, i64_w, i32_w]
                                rfl
                              refine pure_ (i := 4) (N := some 135) (v := ?_) (a' := ?_) #[true, false, true, true, true, false, false, false, false, false] rfl rfl (any_of HT_.out (by kernel_rfl)) (fun _ _ _ h => h) (Or.inl ⟨by rfl, ?_⟩) ?_ ?_
                              rotate_left
                              · intro w'
                                go_simp
                                with_reducible rfl
                              rotate_left
                              · simp only [Act.put, List.setIfInBounds_toArray, List.set_cons_zero, List.set_cons_succ, i64_w, i32_w]
                                rfl
                              refine take_ (i := 1) (N := some 132) (v := ?_) (a' := ?_) #[true, true, true, true, true, false, false, false, false, false] rfl rfl (take_ofW HT_.out HW_.out (by kernel_rfl)) (fun _ _ _ h => h) (Or.inl ⟨by rfl, ?_⟩) hHeld ?_ ?_
                              rotate_left
                              · rintro w' ⟨s0, s1, s2⟩
                                go_simp
                                with_reducible rfl
                              rotate_left
                              · simp only [Act.put, List.setIfInBounds_toArray, List.set_cons_zero, List.set_cons_succ, i64_w, i32_w]
                                rfl
                              refine take_ (i := 5) (N := some 136) (v := ?_) (a' := ?_) #[true, true, true, true, true, true, false, false, false, false] rfl rfl (take_ofW HT_.out HW_.out (by kernel_rfl)) (fun _ _ _ h => h) (Or.inl ⟨by rfl, ?_⟩) hHeld ?_ ?_
                              rotate_left
                              · rintro w' ⟨s0, s1, s2⟩
                                go_simp
                                with_reducible rfl
                              rotate_left
                              · simp only [Act.put, List.setIfInBounds_toArray, List.set_cons_zero, List.set_cons_succ, i64_w, i32_w]
                                rfl
                              refine pure_ (i := 6) (N := some 137) (v := ?_) (a' := ?_) #[true, true, true, true, true, true, true, false, false, false] rfl rfl (any_of HT_.out (by kernel_rfl)) (fun _ _ _ h => h) (Or.inl ⟨by rfl, ?_⟩) ?_ ?_
                              rotate_left
                              · intro w'
                                go_simp
                                with_reducible rfl
                              rotate_left
                              · simp only [Act.put, List.setIfInBounds_toArray, List.set_cons_zero, List.set_cons_succ, i64_w, i32_w]
                                rfl
                              refine one_ (i := 7) (N := some 138) #[true, true, true, true, true, true, true, true, false, false] rfl rfl (one_of HT_.out (by kernel_rfl)) (by decide) (fun K hK => ?_)
                              refine goes_ Try.func26 (by kernel_rfl) rfl #[.agg #[.string ((rd_T29 l0 x113_3).f0), .slice A259_1 ((rd_T29 l0 x113_3).f1).length c259_1], .int .i64 (wrap64 ((rd t255 x113_3) - 1))] (by rfl) rfl rfl (by (try simp only [List.map_toArray, List.map_cons, List.map_nil]); first | done | rfl | (simp only [List.length_drop, List.length_take]; rfl)) ?_
                              with_reducible refine (gridhallref3_Unit.calls k3 ((rd_T29 l0 x113_3).f0) _ _ ((rd_T29 l0 x113_3).f1) (wrap64 ((rd t255 x113_3) - 1)) t265 _ ?side1 ?side2 A51.out).mono ?_
                              (case side1 => repeat (first | exact (Kd.C_below HR259_1.out HB.out) | (with_reducible refine Kd.C_alloc ?_ _) | (with_reducible refine Kd.C_drewN ?_ _) | (with_reducible refine Kd.C_drew ?_)))
                              (case side2 => exact HC259_1.out)
                              rintro e w62 ⟨rfl, hb⟩
                              have HS2_ := (hb.cell (World.block_lt_of_cell? _ _ (hHeld.2.2))).trans (hHeld.2.2)
                              refine ⟨_, rfl, ?_⟩
                              have n0_ := Aside0.mk (Kd.V_below (by (with_reducible repeat (first | apply Kd.V_alloc | apply Kd.V_drewN | apply Kd.V_drew)); exact HO_8.out) hb)
                              have n1_ := Aside0.mk (Kd.R_below (by (with_reducible repeat (first | apply Kd.R_alloc | apply Kd.R_drewN | apply Kd.R_drew)); exact HO_18.out) hb)
                              have n2_ := Aside0.mk (blk_below (g := gb260) (o := .cells #[.string ((rd_T29 l0 x113_3).f0), .slice A259_1 ((rd_T29 l0 x113_3).f1).length c259_1] 29 (0, 0)) (by (with_reducible repeat (first | refine blk_drewN ?_ _ | refine blk_drew ?_ | refine blk_alloc ?_ _)); exact BK260.out) hb)
                              have n3_ := Aside0.mk (below_step (by repeat (first | (with_reducible first | exact HB.out | apply below_alloc | apply pw_below_drewN | apply below_drew1 | refine below_set ?_ GE260.out) | exact HB.out)) hb)
                              clear HO_8
                              clear HO_18
                              clear BK260
                              clear HB
                              have HO_8 := n0_
                              have HO_18 := n1_
                              have BK260 := n2_
                              have HB := n3_
                              clear n0_ n1_ n2_ n3_
                              (try clear hb)
                              (try clear hb2)
                              (try clear hk)
                              (try clear hi)
                              refine hK.out _ _ ⟨(blk_cell BK260.out 0).trans rfl, (blk_cell BK260.out 1).trans rfl, HS2_⟩ (fun hHeld => ?_)
                              clear hK K
                              refine norm_ (a' := ?_) ?_ ?_
                              rotate_left
                              · show Act.put _ (some 138) _ = _
                                simp only [Act.put, List.setIfInBounds_toArray, List.set_cons_zero, List.set_cons_succ, i64_w, i32_w]
                                rfl
                              refine pure_ (i := 8) (N := some 139) (v := ?_) (a' := ?_) #[true, true, true, true, true, true, true, true, true, false] rfl rfl (any_of HT_.out (by kernel_rfl)) (fun _ _ _ h => h) (Or.inl ⟨by rfl, ?_⟩) ?_ ?_
                              rotate_left
                              · intro w'
                                go_simp
                                with_reducible rfl
                              rotate_left
                              · simp only [Act.put, List.setIfInBounds_toArray, List.set_cons_zero, List.set_cons_succ, i64_w, i32_w]
                                rfl
                              refine pure_ (i := 9) (N := some 20) (v := ?_) (a' := ?_) #[true, true, true, true, true, true, true, true, true, true] rfl rfl (any_of HT_.out (by kernel_rfl)) (fun _ _ _ h => h) (Or.inl ⟨by rfl, ?_⟩) ?_ ?_
                              rotate_left
                              · intro w'
                                go_simp
                                with_reducible rfl
                              rotate_left
                              · simp only [Act.put, List.setIfInBounds_toArray, List.set_cons_zero, List.set_cons_succ, i64_w, i32_w]
                                rfl
                              refine done_ (done_of HT_.out (by kernel_rfl)) ?_
                              try go_wp2
                              have n0_ := Aside0.mk (Kd.V_drew HO_8.out)
                              have n1_ := Aside0.mk (Kd.R_drew HO_18.out)
                              have n2_ := Aside0.mk (blk_drew BK260.out)
                              have n3_ := Aside0.mk (below_drew1 HB.out)
                              clear HO_8
                              clear HO_18
                              clear BK260
                              clear HB
                              have HO_8 := n0_
                              have HO_18 := n1_
                              have BK260 := n2_
                              have HB := n3_
                              clear n0_ n1_ n2_ n3_
                              have p266 : 0 ≤ (x113_3 : Int) := of_decide_eq_true (by first | (with_reducible assumption) | assumption)
                              have q266 : x113_3 < (t255.length : Int) := of_decide_eq_true (by first | (with_reducible assumption) | assumption)
                              obtain ⟨ad266, e266, hx266_0⟩ := Kd.at_int (Kd.R_reads' HO_18.out).2.2 x113_3 p266 q266
                              obtain rfl : ad261 = ad266 := (by injection e266)
                              replace p266 := eq_true p266
                              replace q266 := eq_true q266
                              refine start_ (n := 9) (S := fun w' => w'.cell? ⟨gb260, 0, none⟩ = some (.string ((rd_T29 l0 x113_3).f0)) ∧ w'.cell? ⟨gb260, 1, none⟩ = some (.slice A259_1 ((rd_T29 l0 x113_3).f1).length c259_1) ∧ w'.cell? (ad261.add (x113_3).toNat) = some (.int .i64 (rd t255 x113_3))) (ds := []) #[false, false, false, false, false, false, false, false, false] (by kernel_rfl) rfl rfl ⟨(blk_cell BK260.out 0).trans rfl, (blk_cell BK260.out 1).trans rfl, hx266_0⟩ (fun hHeld => ?_); refine with_tabW gridhalllaw3_DispatchUnits.tab30 gridhalllaw3_DispatchUnits.bits30 (fun HT_ HW_ => ?_)
                              generalize w62.drew = w63 at HO_8 HO_18 BK260 HB hx266_0 hHeld ⊢
                              refine pure_ (i := 0) (N := some 140) (v := ?_) (a' := ?_) #[true, false, false, false, false, false, false, false, false] rfl rfl (any_of HT_.out (by kernel_rfl)) (fun _ _ _ h => h) (Or.inl ⟨by rfl, ?_⟩) ?_ ?_
                              rotate_left
                              · intro w'
                                go_simp
                                with_reducible rfl
                              rotate_left
                              · simp only [Act.put, List.setIfInBounds_toArray, List.set_cons_zero, List.set_cons_succ, i64_w, i32_w]
                                rfl
                              refine pure_ (i := 2) (N := some 142) (v := ?_) (a' := ?_) #[true, false, true, false, false, false, false, false, false] rfl rfl (any_of HT_.out (by kernel_rfl)) (fun _ _ _ h => h) (Or.inl ⟨by rfl, ?_⟩) ?_ ?_
                              rotate_left
                              · intro w'
                                go_simp
                                with_reducible rfl
                              rotate_left
                              · simp only [Act.put, List.setIfInBounds_toArray, List.set_cons_zero, List.set_cons_succ, i64_w, i32_w]
                                rfl
                              refine pure_ (i := 3) (N := some 143) (v := ?_) (a' := ?_) #[true, false, true, true, false, false, false, false, false] rfl rfl (any_of HT_.out (by kernel_rfl)) (fun _ _ _ h => h) (Or.inl ⟨by rfl, ?_⟩) ?_ ?_
                              rotate_left
                              · intro w'
                                go_simp
                                with_reducible rfl
                              rotate_left
                              · simp only [Act.put, List.setIfInBounds_toArray, List.set_cons_zero, List.set_cons_succ, i64_w, i32_w]
                                rfl
                              refine pure_ (i := 4) (N := some 144) (v := ?_) (a' := ?_) #[true, false, true, true, true, false, false, false, false] rfl rfl (any_of HT_.out (by kernel_rfl)) (fun _ _ _ h => h) (Or.inl ⟨by rfl, ?_⟩) ?_ ?_
                              rotate_left
                              · intro w'
                                go_simp
                                with_reducible rfl
                              rotate_left
                              · simp only [Act.put, List.setIfInBounds_toArray, List.set_cons_zero, List.set_cons_succ, i64_w, i32_w]
                                rfl
                              refine take_ (i := 1) (N := some 141) (v := ?_) (a' := ?_) #[true, true, true, true, true, false, false, false, false] rfl rfl (take_ofW HT_.out HW_.out (by kernel_rfl)) (fun _ _ _ h => h) (Or.inl ⟨by rfl, ?_⟩) hHeld ?_ ?_
                              rotate_left
                              · rintro w' ⟨s0, s1, s2⟩
                                go_simp
                                with_reducible rfl
                              rotate_left
                              · simp only [Act.put, List.setIfInBounds_toArray, List.set_cons_zero, List.set_cons_succ, i64_w, i32_w]
                                rfl
                              refine take_ (i := 5) (N := some 145) (v := ?_) (a' := ?_) #[true, true, true, true, true, true, false, false, false] rfl rfl (take_ofW HT_.out HW_.out (by kernel_rfl)) (fun _ _ _ h => h) (Or.inl ⟨by rfl, ?_⟩) hHeld ?_ ?_
                              rotate_left
                              · rintro w' ⟨s0, s1, s2⟩
                                go_simp
                                with_reducible rfl
                              rotate_left
                              · simp only [Act.put, List.setIfInBounds_toArray, List.set_cons_zero, List.set_cons_succ, i64_w, i32_w]
                                rfl
                              refine one_ (i := 6) (N := some 146) #[true, true, true, true, true, true, true, false, false] rfl rfl (one_of HT_.out (by kernel_rfl)) (by decide) (fun K hK => ?_)
                              refine goes_ Try.func26 (by kernel_rfl) rfl #[.agg #[.string ((rd_T29 l0 x113_3).f0), .slice A259_1 ((rd_T29 l0 x113_3).f1).length c259_1], .int .i64 (rd t255 x113_3)] (by rfl) rfl rfl (by (try simp only [List.map_toArray, List.map_cons, List.map_nil]); first | done | rfl | (simp only [List.length_drop, List.length_take]; rfl)) ?_
                              with_reducible refine (gridhallref3_Unit.calls k3 ((rd_T29 l0 x113_3).f0) _ _ ((rd_T29 l0 x113_3).f1) (rd t255 x113_3) t267 _ ?side1 ?side2 A53.out).mono ?_
                              (case side1 => repeat (first | exact (Kd.C_below HR259_1.out HB.out) | (with_reducible refine Kd.C_alloc ?_ _) | (with_reducible refine Kd.C_drewN ?_ _) | (with_reducible refine Kd.C_drew ?_)))
                              (case side2 => exact HC259_1.out)
                              rintro e w64 ⟨rfl, hb⟩
                              have HS2_ := (hb.cell (World.block_lt_of_cell? _ _ (hHeld.2.2))).trans (hHeld.2.2)
                              refine ⟨_, rfl, ?_⟩
                              have n0_ := Aside0.mk (Kd.V_below (by (with_reducible repeat (first | apply Kd.V_alloc | apply Kd.V_drewN | apply Kd.V_drew)); exact HO_8.out) hb)
                              have n1_ := Aside0.mk (Kd.R_below (by (with_reducible repeat (first | apply Kd.R_alloc | apply Kd.R_drewN | apply Kd.R_drew)); exact HO_18.out) hb)
                              have n2_ := Aside0.mk (blk_below (g := gb260) (o := .cells #[.string ((rd_T29 l0 x113_3).f0), .slice A259_1 ((rd_T29 l0 x113_3).f1).length c259_1] 29 (0, 0)) (by (with_reducible repeat (first | refine blk_drewN ?_ _ | refine blk_drew ?_ | refine blk_alloc ?_ _)); exact BK260.out) hb)
                              have n3_ := Aside0.mk (below_step (by repeat (first | (with_reducible first | exact HB.out | apply below_alloc | apply pw_below_drewN | apply below_drew1 | refine below_set ?_ GE260.out) | exact HB.out)) hb)
                              clear HO_8
                              clear HO_18
                              clear BK260
                              clear HB
                              have HO_8 := n0_
                              have HO_18 := n1_
                              have BK260 := n2_
                              have HB := n3_
                              clear n0_ n1_ n2_ n3_
                              (try clear hb)
                              (try clear hb2)
                              (try clear hk)
                              (try clear hi)
                              refine hK.out _ _ ⟨(blk_cell BK260.out 0).trans rfl, (blk_cell BK260.out 1).trans rfl, HS2_⟩ (fun hHeld => ?_)
                              clear hK K
                              refine norm_ (a' := ?_) ?_ ?_
                              rotate_left
                              · show Act.put _ (some 146) _ = _
                                simp only [Act.put, List.setIfInBounds_toArray, List.set_cons_zero, List.set_cons_succ, i64_w, i32_w]
                                rfl
                              refine pure_ (i := 7) (N := some 147) (v := ?_) (a' := ?_) #[true, true, true, true, true, true, true, true, false] rfl rfl (any_of HT_.out (by kernel_rfl)) (fun _ _ _ h => h) (Or.inl ⟨by rfl, ?_⟩) ?_ ?_
                              rotate_left
                              · intro w'
                                go_simp
                                with_reducible rfl
                              rotate_left
                              · simp only [Act.put, List.setIfInBounds_toArray, List.set_cons_zero, List.set_cons_succ, i64_w, i32_w]
                                rfl
                              refine pure_ (i := 8) (N := some 21) (v := ?_) (a' := ?_) #[true, true, true, true, true, true, true, true, true] rfl rfl (any_of HT_.out (by kernel_rfl)) (fun _ _ _ h => h) (Or.inl ⟨by rfl, ?_⟩) ?_ ?_
                              rotate_left
                              · intro w'
                                go_simp
                                with_reducible rfl
                              rotate_left
                              · simp only [Act.put, List.setIfInBounds_toArray, List.set_cons_zero, List.set_cons_succ, i64_w, i32_w]
                                rfl
                              refine done_ (done_of HT_.out (by kernel_rfl)) ?_
                              try go_wp2
                              go_roundg k3
                              case measure => have := HJ5.out; have := HJ25.out; have := HK3.out; omega
                              case rel => exact ⟨(wrap64 (x19_3 + t262)), (ji52), (ji54), (wrap64 (x113_3 + 1)), (by first | rfl | (simp; done) | (simp [*]; done)), (by first | rfl | (simp; done) | (simp only [← hji52] <;> (first | rfl | simp)) | (simp [*]; done)), (by first | rfl | (simp; done) | (simp only [← hji54] <;> (first | rfl | simp)) | (simp [*]; done)), (by first | rfl | (simp; done) | (simp [*]; done)), H', ⟨by have := HJ5.out; have := HJ25.out; have := HK3.out; omega⟩, ⟨by (with_reducible repeat (first | apply Kd.V_alloc | apply Kd.V_drewN | apply Kd.V_drew)); exact Kd.V_mono HO_8.out (fun _ hk => hk.1)⟩, ⟨by (with_reducible repeat (first | apply Kd.R_alloc | apply Kd.R_drewN | apply Kd.R_drew)); exact HO_18.out⟩, ⟨by repeat (first | (with_reducible first | exact HB.out | apply below_alloc | apply pw_below_drewN | apply below_drew1 | refine below_set ?_ GE260.out) | exact HB.out)⟩⟩
                            · rw [if_neg c50] at H
                              have c50b0 : decide (0 < (rd t255 x113_3)) = false := decide_eq_false c50
                              clear c50
                              replace H := Option.bind_eq_some_iff.mp H
                              obtain ⟨t269, A650, H⟩ := H
                              replace H : (gridhalllaw3_DispatchUnits.l1 k3 t242 t245 t246 t247 t248 t249 t255 (wrap64 (x19_3 + t262)) x20_3 (mn x21_3 t269) l0 (l0.length : Int) (wrap64 (x113_3 + 1))) = some r := H
                              have A65 := Aside0.mk A650
                              clear A650
                              obtain ⟨ji66, hji66⟩ : ∃ j_ : Int, (mn x21_3 t269) = j_ := ⟨_, rfl⟩
                              replace H : (gridhalllaw3_DispatchUnits.l1 k3 t242 t245 t246 t247 t248 t249 t255 (wrap64 (x19_3 + t262)) x20_3 ji66 l0 (l0.length : Int) (wrap64 (x113_3 + 1))) = some r := by first | (rw [hji66] at H; exact H) | (simp only [hji66] at H ⊢; exact H)
                              (try rw [hji66] at A49)
                              (try rw [hji66] at A65)
                              have hji66_ : (if t269 < x21_3 then t269 else x21_3) = ji66 := hji66
                              have H' := Aside0.mk H
                              clear H
                              have p259 : 0 ≤ (x113_3 : Int) := of_decide_eq_true (by first | (with_reducible assumption) | assumption)
                              have q259 : x113_3 < (l0.length : Int) := of_decide_eq_true (by first | (with_reducible assumption) | assumption)
                              obtain ⟨ad259, A259_1, c259_1, e259, hx259_0, hx259_1, hl259_1, hi259_1⟩ := at_T29 HR0.out x113_3 p259 q259
                              cases e259
                              replace hx259_0 := (HB.out.cell (World.block_lt_of_cell? w _ hx259_0)).trans hx259_0
                              replace hx259_1 := (HB.out.cell (World.block_lt_of_cell? w _ hx259_1)).trans hx259_1
                              have HR259_1 := Aside0.mk hi259_1
                              have HC259_1 := Aside0.mk hl259_1
                              clear hi259_1 hl259_1
                              replace p259 := eq_true p259
                              replace q259 := eq_true q259
                              try go_wp2_with (first | ((with_reducible refine gate_dst (N := 23) rfl ?_); (try (refine gate_guard (by rfl) ?_; dsimp only)); refine box_event ?hg (N := 23) ?hd (cs := #[.string (⟨#[]⟩ : ByteArray), .slice none 0 0]) (t := 29) ?hr ?_; (case hd => rfl); (case hg => rfl); (case hr => first | (go_simp; done) | (go_simp; rfl)); intro gb260 hg w67 hbox hb; have n0_ := Aside0.mk (Kd.V_below (Kd.V_elderB (by (with_reducible repeat (first | apply Kd.V_alloc | apply Kd.V_drewN | apply Kd.V_drew)); exact HO_8.out) gb260 (Nat.le_of_eq hg.symm)) hb); have n1_ := Aside0.mk (Kd.R_below (by (with_reducible repeat (first | apply Kd.R_alloc | apply Kd.R_drewN | apply Kd.R_drew)); exact HO_18.out) hb); have n2_ := Aside0.mk (below_step (by repeat (first | (with_reducible first | exact HB.out | apply below_alloc | apply pw_below_drewN | apply below_drew1) | exact HB.out)) hb); have n3_ := Aside0.mk (hbox); have n4_ := Aside0.mk ((by rw [hg]; exact (below_size (by repeat (first | (with_reducible first | exact HB.out | apply below_alloc | apply pw_below_drewN | apply below_drew1) | exact HB.out))) : w.heap.size ≤ gb260)); have n5_ := Aside0.mk ((by rw [hg]; exact (below_size (by repeat (first | (with_reducible first | exact HB.out | apply below_alloc | apply pw_below_drewN | apply below_drew1) | exact HB.out))) : w.heap.size ≤ gb260)); clear HO_8; clear HO_18; clear HB; have HO_8 := n0_; have HO_18 := n1_; have HB := n2_; have BK260 := n3_; have GW260 := n4_; have GE260 := n5_; clear n0_ n1_ n2_ n3_ n4_ n5_; clear hb hbox hg; have hcz68_0 : w67.cell? ⟨gb260, 0, none⟩ = some (.string (⟨#[]⟩ : ByteArray)) := (blk_cell BK260.out 0).trans rfl; have hcz68_1 : w67.cell? ⟨gb260, 1, none⟩ = some (.slice none 0 0) := (blk_cell BK260.out 1).trans rfl; have hfz68_0 := blk_frozen BK260.out 0; have hfz68_1 := blk_frozen BK260.out 1))
                              have n0_ : Aside0 (Kd.V (Kd.int .i64) 3 ((w67.setCell ⟨gb260, 0, none⟩ (.string ((rd_T29 l0 x113_3).f0))).setCell ⟨gb260, 1, none⟩ (.slice A259_1 ((rd_T29 l0 x113_3).f1).length c259_1)) w.heap.size (fun k_ => some k_ ≠ (v256 : Value).ownBlock ∧ k_ ≠ gb260) v243 t242) := ⟨by (with_reducible repeat (first | apply Kd.V_alloc | apply Kd.V_drewN | apply Kd.V_drew)); exact Kd.V_mono (Kd.V_far (p := ⟨gb260, 1, none⟩) (Kd.V_far (p := ⟨gb260, 0, none⟩) (Kd.V_mono HO_8.out (fun k_ hk => (⟨hk, hk.2⟩ : _ ∧ k_ ≠ gb260))) (fun _ hk => hk.2) (.string ((rd_T29 l0 x113_3).f0))) (fun _ hk => hk.2) (.slice A259_1 ((rd_T29 l0 x113_3).f1).length c259_1)) (fun _ hk => ⟨hk.1.1, hk.1.2⟩)⟩
                              have n1_ : Aside0 (Kd.R (Kd.int .i64) 3 ((w67.setCell ⟨gb260, 0, none⟩ (.string ((rd_T29 l0 x113_3).f0))).setCell ⟨gb260, 1, none⟩ (.slice A259_1 ((rd_T29 l0 x113_3).f1).length c259_1)) w.heap.size (fun _ => True) v256 t255) := ⟨by (with_reducible repeat (first | apply Kd.R_alloc | apply Kd.R_drewN | apply Kd.R_drew)); exact Kd.R_mono (Kd.R_far (p := ⟨gb260, 1, none⟩) (Kd.R_far (p := ⟨gb260, 0, none⟩) (Kd.R_types HO_18.out BK260.out (by decide)) (fun _ hk => hk.2) (.string ((rd_T29 l0 x113_3).f0))) (fun _ hk => hk.2) (.slice A259_1 ((rd_T29 l0 x113_3).f1).length c259_1)) (fun _ hk => trivial)⟩
                              have n2_ : Aside0 (((w67.setCell ⟨gb260, 0, none⟩ (.string ((rd_T29 l0 x113_3).f0))).setCell ⟨gb260, 1, none⟩ (.slice A259_1 ((rd_T29 l0 x113_3).f1).length c259_1)).heap[gb260]? = some (.cells #[.string ((rd_T29 l0 x113_3).f0), .slice A259_1 ((rd_T29 l0 x113_3).f1).length c259_1] 29 (0, 0))) := ⟨by (with_reducible repeat (first | refine blk_drewN ?_ _ | refine blk_drew ?_ | refine blk_alloc ?_ _)); refine blk_put (cs := #[.string ((rd_T29 l0 x113_3).f0), .slice none 0 0]) ?_ 1 _ rfl; (with_reducible repeat (first | refine blk_drewN ?_ _ | refine blk_drew ?_ | refine blk_alloc ?_ _)); refine blk_put (cs := #[.string (⟨#[]⟩ : ByteArray), .slice none 0 0]) ?_ 0 _ rfl; (with_reducible repeat (first | refine blk_drewN ?_ _ | refine blk_drew ?_ | refine blk_alloc ?_ _)); exact BK260.out⟩
                              have n3_ : Aside0 (Below w.heap.size w ((w67.setCell ⟨gb260, 0, none⟩ (.string ((rd_T29 l0 x113_3).f0))).setCell ⟨gb260, 1, none⟩ (.slice A259_1 ((rd_T29 l0 x113_3).f1).length c259_1))) := ⟨by repeat (first | (with_reducible first | exact HB.out | apply below_alloc | apply pw_below_drewN | apply below_drew1 | refine below_set ?_ GE260.out) | exact HB.out)⟩
                              (try clear HO_8)
                              (try clear HO_18)
                              (try clear BK260)
                              (try clear HB)
                              generalize ((w67.setCell ⟨gb260, 0, none⟩ (.string ((rd_T29 l0 x113_3).f0))).setCell ⟨gb260, 1, none⟩ (.slice A259_1 ((rd_T29 l0 x113_3).f1).length c259_1)) = w69 at n0_ n1_ n2_ n3_ ⊢
                              have HO_8 := n0_
                              have HO_18 := n1_
                              have BK260 := n2_
                              have HB := n3_
                              clear n0_ n1_ n2_ n3_
                              have n0_ := Aside0.mk (Kd.V_drew HO_8.out)
                              have n1_ := Aside0.mk (Kd.R_drew HO_18.out)
                              have n2_ := Aside0.mk (blk_drew BK260.out)
                              have n3_ := Aside0.mk (below_drew1 HB.out)
                              clear HO_8
                              clear HO_18
                              clear BK260
                              clear HB
                              have HO_8 := n0_
                              have HO_18 := n1_
                              have BK260 := n2_
                              have HB := n3_
                              clear n0_ n1_ n2_ n3_
                              obtain ⟨Ao71, co71, eo71⟩ := Kd.R_slice HO_18.out
                              (first | subst eo71 | (injection eo71 with f1_ f2_ f3_; have f4_ := f1_.symm; have f5_ := f3_.symm; clear f1_ f2_ f3_; subst f4_; subst f5_))
                              have p261 : 0 ≤ (x113_3 : Int) := of_decide_eq_true (by first | (with_reducible assumption) | assumption)
                              have q261 : x113_3 < (t255.length : Int) := of_decide_eq_true (by first | (with_reducible assumption) | assumption)
                              obtain ⟨ad261, e261, hx261_0⟩ := Kd.at_int (Kd.R_reads' HO_18.out).2.2 x113_3 p261 q261
                              cases e261
                              replace p261 := eq_true p261
                              replace q261 := eq_true q261
                              refine start_ (n := 9) (S := fun w' => w'.cell? ⟨gb260, 0, none⟩ = some (.string ((rd_T29 l0 x113_3).f0)) ∧ w'.cell? ⟨gb260, 1, none⟩ = some (.slice A259_1 ((rd_T29 l0 x113_3).f1).length c259_1) ∧ w'.cell? (ad261.add (x113_3).toNat) = some (.int .i64 (rd t255 x113_3))) (ds := []) #[false, false, false, false, false, false, false, false, false] (by kernel_rfl) rfl rfl ⟨(blk_cell BK260.out 0).trans rfl, (blk_cell BK260.out 1).trans rfl, hx261_0⟩ (fun hHeld => ?_); refine with_tabW gridhalllaw3_DispatchUnits.tab27 gridhalllaw3_DispatchUnits.bits27 (fun HT_ HW_ => ?_)
                              generalize w69.drew = w70 at HO_8 HO_18 BK260 HB hx261_0 hHeld ⊢
                              refine pure_ (i := 0) (N := some 118) (v := ?_) (a' := ?_) #[true, false, false, false, false, false, false, false, false] rfl rfl (any_of HT_.out (by kernel_rfl)) (fun _ _ _ h => h) (Or.inl ⟨by rfl, ?_⟩) ?_ ?_
                              rotate_left
                              · intro w'
                                go_simp
                                with_reducible rfl
                              rotate_left
                              · simp only [Act.put, List.setIfInBounds_toArray, List.set_cons_zero, List.set_cons_succ, i64_w, i32_w]
                                rfl
                              refine pure_ (i := 2) (N := some 120) (v := ?_) (a' := ?_) #[true, false, true, false, false, false, false, false, false] rfl rfl (any_of HT_.out (by kernel_rfl)) (fun _ _ _ h => h) (Or.inl ⟨by rfl, ?_⟩) ?_ ?_
                              rotate_left
                              · intro w'
                                go_simp
                                with_reducible rfl
                              rotate_left
                              · simp only [Act.put, List.setIfInBounds_toArray, List.set_cons_zero, List.set_cons_succ, i64_w, i32_w]
                                rfl
                              refine pure_ (i := 3) (N := some 121) (v := ?_) (a' := ?_) #[true, false, true, true, false, false, false, false, false] rfl rfl (any_of HT_.out (by kernel_rfl)) (fun _ _ _ h => h) (Or.inl ⟨by rfl, ?_⟩) ?_ ?_
                              rotate_left
                              · intro w'
                                go_simp
                                with_reducible rfl
                              rotate_left
                              · simp only [Act.put, List.setIfInBounds_toArray, List.set_cons_zero, List.set_cons_succ, i64_w, i32_w]
                                rfl
                              refine pure_ (i := 4) (N := some 122) (v := ?_) (a' := ?_) #[true, false, true, true, true, false, false, false, false] rfl rfl (any_of HT_.out (by kernel_rfl)) (fun _ _ _ h => h) (Or.inl ⟨by rfl, ?_⟩) ?_ ?_
                              rotate_left
                              · intro w'
                                go_simp
                                with_reducible rfl
                              rotate_left
                              · simp only [Act.put, List.setIfInBounds_toArray, List.set_cons_zero, List.set_cons_succ, i64_w, i32_w]
                                rfl
                              refine take_ (i := 1) (N := some 119) (v := ?_) (a' := ?_) #[true, true, true, true, true, false, false, false, false] rfl rfl (take_ofW HT_.out HW_.out (by kernel_rfl)) (fun _ _ _ h => h) (Or.inl ⟨by rfl, ?_⟩) hHeld ?_ ?_
                              rotate_left
                              · rintro w' ⟨s0, s1, s2⟩
                                go_simp
                                with_reducible rfl
                              rotate_left
                              · simp only [Act.put, List.setIfInBounds_toArray, List.set_cons_zero, List.set_cons_succ, i64_w, i32_w]
                                rfl
                              refine take_ (i := 5) (N := some 123) (v := ?_) (a' := ?_) #[true, true, true, true, true, true, false, false, false] rfl rfl (take_ofW HT_.out HW_.out (by kernel_rfl)) (fun _ _ _ h => h) (Or.inl ⟨by rfl, ?_⟩) hHeld ?_ ?_
                              rotate_left
                              · rintro w' ⟨s0, s1, s2⟩
                                go_simp
                                with_reducible rfl
                              rotate_left
                              · simp only [Act.put, List.setIfInBounds_toArray, List.set_cons_zero, List.set_cons_succ, i64_w, i32_w]
                                rfl
                              refine one_ (i := 6) (N := some 124) #[true, true, true, true, true, true, true, false, false] rfl rfl (one_of HT_.out (by kernel_rfl)) (by decide) (fun K hK => ?_)
                              refine goes_ Try.func19 (by kernel_rfl) rfl #[.agg #[.string ((rd_T29 l0 x113_3).f0), .slice A259_1 ((rd_T29 l0 x113_3).f1).length c259_1], .int .i64 (rd t255 x113_3)] (by rfl) rfl rfl (by (try simp only [List.map_toArray, List.map_cons, List.map_nil]); first | done | rfl | (simp only [List.length_drop, List.length_take]; rfl)) ?_
                              with_reducible refine (gridhallref3_Cost.calls k3 ((rd_T29 l0 x113_3).f0) _ _ ((rd_T29 l0 x113_3).f1) (rd t255 x113_3) t262 _ ?side1 ?side2 A49.out).mono ?_
                              (case side1 => repeat (first | exact (Kd.C_below HR259_1.out HB.out) | (with_reducible refine Kd.C_alloc ?_ _) | (with_reducible refine Kd.C_drewN ?_ _) | (with_reducible refine Kd.C_drew ?_)))
                              (case side2 => exact HC259_1.out)
                              rintro e w72 ⟨rfl, hb⟩
                              have HS2_ := (hb.cell (World.block_lt_of_cell? _ _ (hHeld.2.2))).trans (hHeld.2.2)
                              refine ⟨_, rfl, ?_⟩
                              have n0_ := Aside0.mk (Kd.V_below (by (with_reducible repeat (first | apply Kd.V_alloc | apply Kd.V_drewN | apply Kd.V_drew)); exact HO_8.out) hb)
                              have n1_ := Aside0.mk (Kd.R_below (by (with_reducible repeat (first | apply Kd.R_alloc | apply Kd.R_drewN | apply Kd.R_drew)); exact HO_18.out) hb)
                              have n2_ := Aside0.mk (blk_below (g := gb260) (o := .cells #[.string ((rd_T29 l0 x113_3).f0), .slice A259_1 ((rd_T29 l0 x113_3).f1).length c259_1] 29 (0, 0)) (by (with_reducible repeat (first | refine blk_drewN ?_ _ | refine blk_drew ?_ | refine blk_alloc ?_ _)); exact BK260.out) hb)
                              have n3_ := Aside0.mk (below_step (by repeat (first | (with_reducible first | exact HB.out | apply below_alloc | apply pw_below_drewN | apply below_drew1 | refine below_set ?_ GE260.out) | exact HB.out)) hb)
                              clear HO_8
                              clear HO_18
                              clear BK260
                              clear HB
                              have HO_8 := n0_
                              have HO_18 := n1_
                              have BK260 := n2_
                              have HB := n3_
                              clear n0_ n1_ n2_ n3_
                              (try clear hb)
                              (try clear hb2)
                              (try clear hk)
                              (try clear hi)
                              refine hK.out _ _ ⟨(blk_cell BK260.out 0).trans rfl, (blk_cell BK260.out 1).trans rfl, HS2_⟩ (fun hHeld => ?_)
                              clear hK K
                              refine norm_ (a' := ?_) ?_ ?_
                              rotate_left
                              · show Act.put _ (some 124) _ = _
                                simp only [Act.put, List.setIfInBounds_toArray, List.set_cons_zero, List.set_cons_succ, i64_w, i32_w]
                                rfl
                              refine pure_ (i := 7) (N := some 125) (v := ?_) (a' := ?_) #[true, true, true, true, true, true, true, true, false] rfl rfl (any_of HT_.out (by kernel_rfl)) (fun _ _ _ h => h) (Or.inl ⟨by rfl, ?_⟩) ?_ ?_
                              rotate_left
                              · intro w'
                                go_simp
                                with_reducible rfl
                              rotate_left
                              · simp only [Act.put, List.setIfInBounds_toArray, List.set_cons_zero, List.set_cons_succ, i64_w, i32_w]
                                rfl
                              refine pure_ (i := 8) (N := some 19) (v := ?_) (a' := ?_) #[true, true, true, true, true, true, true, true, true] rfl rfl (any_of HT_.out (by kernel_rfl)) (fun _ _ _ h => h) (Or.inl ⟨by rfl, ?_⟩) ?_ ?_
                              rotate_left
                              · intro w'
                                go_simp
                                with_reducible rfl
                              rotate_left
                              · simp only [Act.put, List.setIfInBounds_toArray, List.set_cons_zero, List.set_cons_succ, i64_w, i32_w]
                                rfl
                              refine done_ (done_of HT_.out (by kernel_rfl)) ?_
                              have p263 : 0 ≤ (x113_3 : Int) := of_decide_eq_true (by first | (with_reducible assumption) | assumption)
                              have q263 : x113_3 < (t255.length : Int) := of_decide_eq_true (by first | (with_reducible assumption) | assumption)
                              obtain ⟨ad263, e263, hx263_0⟩ := Kd.at_int (Kd.R_reads' HO_18.out).2.2 x113_3 p263 q263
                              obtain rfl : ad261 = ad263 := (by injection e263)
                              replace p263 := eq_true p263
                              replace q263 := eq_true q263
                              try go_wp2
                              have n0_ := Aside0.mk (Kd.V_drew HO_8.out)
                              have n1_ := Aside0.mk (Kd.R_drew HO_18.out)
                              have n2_ := Aside0.mk (blk_drew BK260.out)
                              have n3_ := Aside0.mk (below_drew1 HB.out)
                              clear HO_8
                              clear HO_18
                              clear BK260
                              clear HB
                              have HO_8 := n0_
                              have HO_18 := n1_
                              have BK260 := n2_
                              have HB := n3_
                              clear n0_ n1_ n2_ n3_
                              have p268 : 0 ≤ (x113_3 : Int) := of_decide_eq_true (by first | (with_reducible assumption) | assumption)
                              have q268 : x113_3 < (t255.length : Int) := of_decide_eq_true (by first | (with_reducible assumption) | assumption)
                              obtain ⟨ad268, e268, hx268_0⟩ := Kd.at_int (Kd.R_reads' HO_18.out).2.2 x113_3 p268 q268
                              obtain rfl : ad261 = ad268 := (by injection e268)
                              replace p268 := eq_true p268
                              replace q268 := eq_true q268
                              refine start_ (n := 9) (S := fun w' => w'.cell? ⟨gb260, 0, none⟩ = some (.string ((rd_T29 l0 x113_3).f0)) ∧ w'.cell? ⟨gb260, 1, none⟩ = some (.slice A259_1 ((rd_T29 l0 x113_3).f1).length c259_1) ∧ w'.cell? (ad261.add (x113_3).toNat) = some (.int .i64 (rd t255 x113_3))) (ds := []) #[false, false, false, false, false, false, false, false, false] (by kernel_rfl) rfl rfl ⟨(blk_cell BK260.out 0).trans rfl, (blk_cell BK260.out 1).trans rfl, hx268_0⟩ (fun hHeld => ?_); refine with_tabW gridhalllaw3_DispatchUnits.tab30 gridhalllaw3_DispatchUnits.bits30 (fun HT_ HW_ => ?_)
                              generalize w72.drew = w73 at HO_8 HO_18 BK260 HB hx268_0 hHeld ⊢
                              refine pure_ (i := 0) (N := some 140) (v := ?_) (a' := ?_) #[true, false, false, false, false, false, false, false, false] rfl rfl (any_of HT_.out (by kernel_rfl)) (fun _ _ _ h => h) (Or.inl ⟨by rfl, ?_⟩) ?_ ?_
                              rotate_left
                              · intro w'
                                go_simp
                                with_reducible rfl
                              rotate_left
                              · simp only [Act.put, List.setIfInBounds_toArray, List.set_cons_zero, List.set_cons_succ, i64_w, i32_w]
                                rfl
                              refine pure_ (i := 2) (N := some 142) (v := ?_) (a' := ?_) #[true, false, true, false, false, false, false, false, false] rfl rfl (any_of HT_.out (by kernel_rfl)) (fun _ _ _ h => h) (Or.inl ⟨by rfl, ?_⟩) ?_ ?_
                              rotate_left
                              · intro w'
                                go_simp
                                with_reducible rfl
                              rotate_left
                              · simp only [Act.put, List.setIfInBounds_toArray, List.set_cons_zero, List.set_cons_succ, i64_w, i32_w]
                                rfl
                              refine pure_ (i := 3) (N := some 143) (v := ?_) (a' := ?_) #[true, false, true, true, false, false, false, false, false] rfl rfl (any_of HT_.out (by kernel_rfl)) (fun _ _ _ h => h) (Or.inl ⟨by rfl, ?_⟩) ?_ ?_
                              rotate_left
                              · intro w'
                                go_simp
                                with_reducible rfl
                              rotate_left
                              · simp only [Act.put, List.setIfInBounds_toArray, List.set_cons_zero, List.set_cons_succ, i64_w, i32_w]
                                rfl
                              refine pure_ (i := 4) (N := some 144) (v := ?_) (a' := ?_) #[true, false, true, true, true, false, false, false, false] rfl rfl (any_of HT_.out (by kernel_rfl)) (fun _ _ _ h => h) (Or.inl ⟨by rfl, ?_⟩) ?_ ?_
                              rotate_left
                              · intro w'
                                go_simp
                                with_reducible rfl
                              rotate_left
                              · simp only [Act.put, List.setIfInBounds_toArray, List.set_cons_zero, List.set_cons_succ, i64_w, i32_w]
                                rfl
                              refine take_ (i := 1) (N := some 141) (v := ?_) (a' := ?_) #[true, true, true, true, true, false, false, false, false] rfl rfl (take_ofW HT_.out HW_.out (by kernel_rfl)) (fun _ _ _ h => h) (Or.inl ⟨by rfl, ?_⟩) hHeld ?_ ?_
                              rotate_left
                              · rintro w' ⟨s0, s1, s2⟩
                                go_simp
                                with_reducible rfl
                              rotate_left
                              · simp only [Act.put, List.setIfInBounds_toArray, List.set_cons_zero, List.set_cons_succ, i64_w, i32_w]
                                rfl
                              refine take_ (i := 5) (N := some 145) (v := ?_) (a' := ?_) #[true, true, true, true, true, true, false, false, false] rfl rfl (take_ofW HT_.out HW_.out (by kernel_rfl)) (fun _ _ _ h => h) (Or.inl ⟨by rfl, ?_⟩) hHeld ?_ ?_
                              rotate_left
                              · rintro w' ⟨s0, s1, s2⟩
                                go_simp
                                with_reducible rfl
                              rotate_left
                              · simp only [Act.put, List.setIfInBounds_toArray, List.set_cons_zero, List.set_cons_succ, i64_w, i32_w]
                                rfl
                              refine one_ (i := 6) (N := some 146) #[true, true, true, true, true, true, true, false, false] rfl rfl (one_of HT_.out (by kernel_rfl)) (by decide) (fun K hK => ?_)
                              refine goes_ Try.func26 (by kernel_rfl) rfl #[.agg #[.string ((rd_T29 l0 x113_3).f0), .slice A259_1 ((rd_T29 l0 x113_3).f1).length c259_1], .int .i64 (rd t255 x113_3)] (by rfl) rfl rfl (by (try simp only [List.map_toArray, List.map_cons, List.map_nil]); first | done | rfl | (simp only [List.length_drop, List.length_take]; rfl)) ?_
                              with_reducible refine (gridhallref3_Unit.calls k3 ((rd_T29 l0 x113_3).f0) _ _ ((rd_T29 l0 x113_3).f1) (rd t255 x113_3) t269 _ ?side1 ?side2 A65.out).mono ?_
                              (case side1 => repeat (first | exact (Kd.C_below HR259_1.out HB.out) | (with_reducible refine Kd.C_alloc ?_ _) | (with_reducible refine Kd.C_drewN ?_ _) | (with_reducible refine Kd.C_drew ?_)))
                              (case side2 => exact HC259_1.out)
                              rintro e w74 ⟨rfl, hb⟩
                              have HS2_ := (hb.cell (World.block_lt_of_cell? _ _ (hHeld.2.2))).trans (hHeld.2.2)
                              refine ⟨_, rfl, ?_⟩
                              have n0_ := Aside0.mk (Kd.V_below (by (with_reducible repeat (first | apply Kd.V_alloc | apply Kd.V_drewN | apply Kd.V_drew)); exact HO_8.out) hb)
                              have n1_ := Aside0.mk (Kd.R_below (by (with_reducible repeat (first | apply Kd.R_alloc | apply Kd.R_drewN | apply Kd.R_drew)); exact HO_18.out) hb)
                              have n2_ := Aside0.mk (blk_below (g := gb260) (o := .cells #[.string ((rd_T29 l0 x113_3).f0), .slice A259_1 ((rd_T29 l0 x113_3).f1).length c259_1] 29 (0, 0)) (by (with_reducible repeat (first | refine blk_drewN ?_ _ | refine blk_drew ?_ | refine blk_alloc ?_ _)); exact BK260.out) hb)
                              have n3_ := Aside0.mk (below_step (by repeat (first | (with_reducible first | exact HB.out | apply below_alloc | apply pw_below_drewN | apply below_drew1 | refine below_set ?_ GE260.out) | exact HB.out)) hb)
                              clear HO_8
                              clear HO_18
                              clear BK260
                              clear HB
                              have HO_8 := n0_
                              have HO_18 := n1_
                              have BK260 := n2_
                              have HB := n3_
                              clear n0_ n1_ n2_ n3_
                              (try clear hb)
                              (try clear hb2)
                              (try clear hk)
                              (try clear hi)
                              refine hK.out _ _ ⟨(blk_cell BK260.out 0).trans rfl, (blk_cell BK260.out 1).trans rfl, HS2_⟩ (fun hHeld => ?_)
                              clear hK K
                              refine norm_ (a' := ?_) ?_ ?_
                              rotate_left
                              · show Act.put _ (some 146) _ = _
                                simp only [Act.put, List.setIfInBounds_toArray, List.set_cons_zero, List.set_cons_succ, i64_w, i32_w]
                                rfl
                              refine pure_ (i := 7) (N := some 147) (v := ?_) (a' := ?_) #[true, true, true, true, true, true, true, true, false] rfl rfl (any_of HT_.out (by kernel_rfl)) (fun _ _ _ h => h) (Or.inl ⟨by rfl, ?_⟩) ?_ ?_
                              rotate_left
                              · intro w'
                                go_simp
                                with_reducible rfl
                              rotate_left
                              · simp only [Act.put, List.setIfInBounds_toArray, List.set_cons_zero, List.set_cons_succ, i64_w, i32_w]
                                rfl
                              refine pure_ (i := 8) (N := some 21) (v := ?_) (a' := ?_) #[true, true, true, true, true, true, true, true, true] rfl rfl (any_of HT_.out (by kernel_rfl)) (fun _ _ _ h => h) (Or.inl ⟨by rfl, ?_⟩) ?_ ?_
                              rotate_left
                              · intro w'
                                go_simp
                                with_reducible rfl
                              rotate_left
                              · simp only [Act.put, List.setIfInBounds_toArray, List.set_cons_zero, List.set_cons_succ, i64_w, i32_w]
                                rfl
                              refine done_ (done_of HT_.out (by kernel_rfl)) ?_
                              try go_wp2
                              go_roundg k3
                              case measure => have := HJ5.out; have := HJ25.out; have := HK3.out; omega
                              case rel => exact ⟨(wrap64 (x19_3 + t262)), (x20_3), (ji66), (wrap64 (x113_3 + 1)), (by first | rfl | (simp; done) | (simp [*]; done)), (by first | rfl | (simp; done) | (simp [*]; done)), (by first | rfl | (simp; done) | (simp only [← hji66] <;> (first | rfl | simp)) | (simp [*]; done)), (by first | rfl | (simp; done) | (simp [*]; done)), H', ⟨by have := HJ5.out; have := HJ25.out; have := HK3.out; omega⟩, ⟨by (with_reducible repeat (first | apply Kd.V_alloc | apply Kd.V_drewN | apply Kd.V_drew)); exact Kd.V_mono HO_8.out (fun _ hk => hk.1)⟩, ⟨by (with_reducible repeat (first | apply Kd.R_alloc | apply Kd.R_drewN | apply Kd.R_drew)); exact HO_18.out⟩, ⟨by repeat (first | (with_reducible first | exact HB.out | apply below_alloc | apply pw_below_drewN | apply below_drew1 | refine below_set ?_ GE260.out) | exact HB.out)⟩⟩
                          · rw [if_neg c48] at H
                            exact absurd H (by simp)
                        · rw [if_neg c47] at H
                          exact absurd H (by simp)
                      · rw [if_neg c46] at H
                        exact absurd H (by simp)
                    · rw [if_neg c45] at H
                      have c45b0 : decide (x113_3 < (l0.length : Int)) = false := decide_eq_false c45
                      clear c45
                      by_cases c75 : t246 = 0
                      · rw [if_pos c75] at H
                        have c75b0 : (t246 == 0) = true := beq_iff_eq.mpr c75
                        have c75b1 : (t246 != 0) = false := bne_eq_false_iff_eq.mpr c75
                        clear c75
                        by_cases c76 : t249 = 0
                        · rw [if_pos c76] at H
                          have c76b0 : (t249 == 0) = true := beq_iff_eq.mpr c76
                          have c76b1 : (t249 != 0) = false := bne_eq_false_iff_eq.mpr c76
                          clear c76
                          replace H := Option.bind_eq_some_iff.mp H
                          obtain ⟨t258, A770, H⟩ := H
                          replace H : (if t258 = true then (if t245 = x19_3 then (if t247 = x20_3 then (some (t248 == x21_3)) else (some false)) else (some false)) else (some false)) = some r := H
                          have A77 := Aside0.mk A770
                          clear A770
                          by_cases c78 : t258 = true
                          · subst c78
                            have H1 : (if t245 = x19_3 then (if t247 = x20_3 then (some (t248 == x21_3)) else (some false)) else (some false)) = some r := by rw [if_pos rfl] at H; exact H
                            clear H
                            have H := H1
                            clear H1
                            by_cases c79 : t245 = x19_3
                            · rw [if_pos c79] at H
                              have c79b0 : (t245 == x19_3) = true := beq_iff_eq.mpr c79
                              have c79b1 : (t245 != x19_3) = false := bne_eq_false_iff_eq.mpr c79
                              clear c79
                              by_cases c80 : t247 = x20_3
                              · rw [if_pos c80] at H
                                have c80b0 : (t247 == x20_3) = true := beq_iff_eq.mpr c80
                                have c80b1 : (t247 != x20_3) = false := bne_eq_false_iff_eq.mpr c80
                                clear c80
                                obtain rfl := Option.some.inj H
                                obtain ⟨Ao81, co81, eo81⟩ := Kd.V_slice HO_8.out
                                subst eo81
                                obtain ⟨Ao82, co82, eo82⟩ := Kd.R_slice HO_18.out
                                subst eo82
                                go_wp2_with (first | (go_at_call 22; (with_reducible refine (gridhallref3_SameInts.calls k3 _ _ t242 _ _ t255 true _ ?side1 ?side2 ?side3 ?side4 A77.out).mono ?_); (case side1 => repeat (first | exact (Kd.V_reads' HO_8.out).2.2 | (with_reducible refine Kd.C_alloc ?_ _) | (with_reducible refine Kd.C_drewN ?_ _) | (with_reducible refine Kd.C_drew ?_))); (case side2 => exact (Kd.V_reads' HO_8.out).2.1); (case side3 => repeat (first | exact (Kd.R_reads' HO_18.out).2.2 | (with_reducible refine Kd.C_alloc ?_ _) | (with_reducible refine Kd.C_drewN ?_ _) | (with_reducible refine Kd.C_drew ?_))); (case side4 => exact (Kd.R_reads' HO_18.out).2.1); rintro e w' ⟨rfl, ⟨nd, rfl⟩⟩))
                                go_ret
                                exact ⟨by first | rfl | (simp [errW_none, errW_some] <;> rfl) | (simp [*, errW_none, errW_some] <;> rfl), by repeat (first | (with_reducible first | exact HB.out | apply below_alloc | apply pw_below_drewN | apply below_drew1) | exact HB.out)⟩
                              · rw [if_neg c80] at H
                                have c80b0 : (t247 == x20_3) = false := beq_eq_false_iff_ne.mpr c80
                                have c80b1 : (t247 != x20_3) = true := bne_iff_ne.mpr c80
                                obtain rfl := Option.some.inj H
                                obtain ⟨Ao83, co83, eo83⟩ := Kd.V_slice HO_8.out
                                subst eo83
                                obtain ⟨Ao84, co84, eo84⟩ := Kd.R_slice HO_18.out
                                subst eo84
                                go_wp2_with (first | (go_at_call 22; (with_reducible refine (gridhallref3_SameInts.calls k3 _ _ t242 _ _ t255 true _ ?side1 ?side2 ?side3 ?side4 A77.out).mono ?_); (case side1 => repeat (first | exact (Kd.V_reads' HO_8.out).2.2 | (with_reducible refine Kd.C_alloc ?_ _) | (with_reducible refine Kd.C_drewN ?_ _) | (with_reducible refine Kd.C_drew ?_))); (case side2 => exact (Kd.V_reads' HO_8.out).2.1); (case side3 => repeat (first | exact (Kd.R_reads' HO_18.out).2.2 | (with_reducible refine Kd.C_alloc ?_ _) | (with_reducible refine Kd.C_drewN ?_ _) | (with_reducible refine Kd.C_drew ?_))); (case side4 => exact (Kd.R_reads' HO_18.out).2.1); rintro e w' ⟨rfl, ⟨nd, rfl⟩⟩))
                                go_ret
                                exact ⟨by first | rfl | (simp [errW_none, errW_some] <;> rfl) | (simp [*, errW_none, errW_some] <;> rfl), by repeat (first | (with_reducible first | exact HB.out | apply below_alloc | apply pw_below_drewN | apply below_drew1) | exact HB.out)⟩
                            · rw [if_neg c79] at H
                              have c79b0 : (t245 == x19_3) = false := beq_eq_false_iff_ne.mpr c79
                              have c79b1 : (t245 != x19_3) = true := bne_iff_ne.mpr c79
                              obtain rfl := Option.some.inj H
                              obtain ⟨Ao85, co85, eo85⟩ := Kd.V_slice HO_8.out
                              subst eo85
                              obtain ⟨Ao86, co86, eo86⟩ := Kd.R_slice HO_18.out
                              subst eo86
                              go_wp2_with (first | (go_at_call 22; (with_reducible refine (gridhallref3_SameInts.calls k3 _ _ t242 _ _ t255 true _ ?side1 ?side2 ?side3 ?side4 A77.out).mono ?_); (case side1 => repeat (first | exact (Kd.V_reads' HO_8.out).2.2 | (with_reducible refine Kd.C_alloc ?_ _) | (with_reducible refine Kd.C_drewN ?_ _) | (with_reducible refine Kd.C_drew ?_))); (case side2 => exact (Kd.V_reads' HO_8.out).2.1); (case side3 => repeat (first | exact (Kd.R_reads' HO_18.out).2.2 | (with_reducible refine Kd.C_alloc ?_ _) | (with_reducible refine Kd.C_drewN ?_ _) | (with_reducible refine Kd.C_drew ?_))); (case side4 => exact (Kd.R_reads' HO_18.out).2.1); rintro e w' ⟨rfl, ⟨nd, rfl⟩⟩))
                              go_ret
                              exact ⟨by first | rfl | (simp [errW_none, errW_some] <;> rfl) | (simp [*, errW_none, errW_some] <;> rfl), by repeat (first | (with_reducible first | exact HB.out | apply below_alloc | apply pw_below_drewN | apply below_drew1) | exact HB.out)⟩
                          · replace c78 := Bool.eq_false_iff.mpr c78
                            subst c78
                            have H1 : (some false) = some r := by rw [if_neg (show ¬ (false = true) by decide)] at H; exact H
                            clear H
                            have H := H1
                            clear H1
                            obtain rfl := Option.some.inj H
                            obtain ⟨Ao87, co87, eo87⟩ := Kd.V_slice HO_8.out
                            subst eo87
                            obtain ⟨Ao88, co88, eo88⟩ := Kd.R_slice HO_18.out
                            subst eo88
                            go_wp2_with (first | (go_at_call 22; (with_reducible refine (gridhallref3_SameInts.calls k3 _ _ t242 _ _ t255 false _ ?side1 ?side2 ?side3 ?side4 A77.out).mono ?_); (case side1 => repeat (first | exact (Kd.V_reads' HO_8.out).2.2 | (with_reducible refine Kd.C_alloc ?_ _) | (with_reducible refine Kd.C_drewN ?_ _) | (with_reducible refine Kd.C_drew ?_))); (case side2 => exact (Kd.V_reads' HO_8.out).2.1); (case side3 => repeat (first | exact (Kd.R_reads' HO_18.out).2.2 | (with_reducible refine Kd.C_alloc ?_ _) | (with_reducible refine Kd.C_drewN ?_ _) | (with_reducible refine Kd.C_drew ?_))); (case side4 => exact (Kd.R_reads' HO_18.out).2.1); rintro e w' ⟨rfl, ⟨nd, rfl⟩⟩))
                            go_ret
                            exact ⟨by first | rfl | (simp [errW_none, errW_some] <;> rfl) | (simp [*, errW_none, errW_some] <;> rfl), by repeat (first | (with_reducible first | exact HB.out | apply below_alloc | apply pw_below_drewN | apply below_drew1) | exact HB.out)⟩
                        · rw [if_neg c76] at H
                          have c76b0 : (t249 == 0) = false := beq_eq_false_iff_ne.mpr c76
                          have c76b1 : (t249 != 0) = true := bne_iff_ne.mpr c76
                          obtain rfl := Option.some.inj H
                          go_wp2
                          go_ret
                          exact ⟨by first | rfl | (simp [errW_none, errW_some] <;> rfl) | (simp [*, errW_none, errW_some] <;> rfl), by repeat (first | (with_reducible first | exact HB.out | apply below_alloc | apply pw_below_drewN | apply below_drew1) | exact HB.out)⟩
                      · rw [if_neg c75] at H
                        have c75b0 : (t246 == 0) = false := beq_eq_false_iff_ne.mpr c75
                        have c75b1 : (t246 != 0) = true := bne_iff_ne.mpr c75
                        obtain rfl := Option.some.inj H
                        go_wp2
                        go_ret
                        exact ⟨by first | rfl | (simp [errW_none, errW_some] <;> rfl) | (simp [*, errW_none, errW_some] <;> rfl), by repeat (first | (with_reducible first | exact HB.out | apply below_alloc | apply pw_below_drewN | apply below_drew1) | exact HB.out)⟩
            · rw [if_neg c41] at H
              have c41b0 : (x14_25 == 0) = false := beq_eq_false_iff_ne.mpr c41
              have c41b1 : (x14_25 != 0) = true := bne_iff_ne.mpr c41
              by_cases c89 : t246 = x14_25
              · rw [if_pos c89] at H
                have c89b0 : (t246 == x14_25) = true := beq_iff_eq.mpr c89
                have c89b1 : (t246 != x14_25) = false := bne_eq_false_iff_eq.mpr c89
                clear c89
                by_cases c90 : t249 = x14_25
                · rw [if_pos c90] at H
                  have c90b0 : (t249 == x14_25) = true := beq_iff_eq.mpr c90
                  have c90b1 : (t249 != x14_25) = false := bne_eq_false_iff_eq.mpr c90
                  clear c90
                  by_cases c91 : (t242.length : Int) = 0
                  · rw [if_pos c91] at H
                    have c91b0 : ((t242.length : Int) == 0) = true := beq_iff_eq.mpr c91
                    have c91b1 : ((t242.length : Int) != 0) = false := bne_eq_false_iff_eq.mpr c91
                    clear c91
                    by_cases c92 : t245 = 0
                    · rw [if_pos c92] at H
                      have c92b0 : (t245 == 0) = true := beq_iff_eq.mpr c92
                      have c92b1 : (t245 != 0) = false := bne_eq_false_iff_eq.mpr c92
                      clear c92
                      by_cases c93 : t247 = 0
                      · rw [if_pos c93] at H
                        have c93b0 : (t247 == 0) = true := beq_iff_eq.mpr c93
                        have c93b1 : (t247 != 0) = false := bne_eq_false_iff_eq.mpr c93
                        clear c93
                        obtain rfl := Option.some.inj H
                        obtain ⟨Ao94, co94, eo94⟩ := Kd.V_slice HO_8.out
                        subst eo94
                        go_wp2
                        go_ret
                        exact ⟨by first | rfl | (simp [errW_none, errW_some] <;> rfl) | (simp [*, errW_none, errW_some] <;> rfl), by repeat (first | (with_reducible first | exact HB.out | apply below_alloc | apply pw_below_drewN | apply below_drew1) | exact HB.out)⟩
                      · rw [if_neg c93] at H
                        have c93b0 : (t247 == 0) = false := beq_eq_false_iff_ne.mpr c93
                        have c93b1 : (t247 != 0) = true := bne_iff_ne.mpr c93
                        obtain rfl := Option.some.inj H
                        obtain ⟨Ao95, co95, eo95⟩ := Kd.V_slice HO_8.out
                        subst eo95
                        go_wp2
                        go_ret
                        exact ⟨by first | rfl | (simp [errW_none, errW_some] <;> rfl) | (simp [*, errW_none, errW_some] <;> rfl), by repeat (first | (with_reducible first | exact HB.out | apply below_alloc | apply pw_below_drewN | apply below_drew1) | exact HB.out)⟩
                    · rw [if_neg c92] at H
                      have c92b0 : (t245 == 0) = false := beq_eq_false_iff_ne.mpr c92
                      have c92b1 : (t245 != 0) = true := bne_iff_ne.mpr c92
                      obtain rfl := Option.some.inj H
                      obtain ⟨Ao96, co96, eo96⟩ := Kd.V_slice HO_8.out
                      subst eo96
                      go_wp2
                      go_ret
                      exact ⟨by first | rfl | (simp [errW_none, errW_some] <;> rfl) | (simp [*, errW_none, errW_some] <;> rfl), by repeat (first | (with_reducible first | exact HB.out | apply below_alloc | apply pw_below_drewN | apply below_drew1) | exact HB.out)⟩
                  · rw [if_neg c91] at H
                    have c91b0 : ((t242.length : Int) == 0) = false := beq_eq_false_iff_ne.mpr c91
                    have c91b1 : ((t242.length : Int) != 0) = true := bne_iff_ne.mpr c91
                    have c91b2 : ¬ (t242 = []) := fun h_ => c91 (by rw [h_]; rfl)
                    obtain rfl := Option.some.inj H
                    obtain ⟨Ao97, co97, eo97⟩ := Kd.V_slice HO_8.out
                    subst eo97
                    go_wp2
                    go_ret
                    exact ⟨by first | rfl | (simp [errW_none, errW_some] <;> rfl) | (simp [*, errW_none, errW_some] <;> rfl), by repeat (first | (with_reducible first | exact HB.out | apply below_alloc | apply pw_below_drewN | apply below_drew1) | exact HB.out)⟩
                · rw [if_neg c90] at H
                  have c90b0 : (t249 == x14_25) = false := beq_eq_false_iff_ne.mpr c90
                  have c90b1 : (t249 != x14_25) = true := bne_iff_ne.mpr c90
                  obtain rfl := Option.some.inj H
                  go_wp2
                  go_ret
                  exact ⟨by first | rfl | (simp [errW_none, errW_some] <;> rfl) | (simp [*, errW_none, errW_some] <;> rfl), by repeat (first | (with_reducible first | exact HB.out | apply below_alloc | apply pw_below_drewN | apply below_drew1) | exact HB.out)⟩
              · rw [if_neg c89] at H
                have c89b0 : (t246 == x14_25) = false := beq_eq_false_iff_ne.mpr c89
                have c89b1 : (t246 != x14_25) = true := bne_iff_ne.mpr c89
                obtain rfl := Option.some.inj H
                go_wp2
                go_ret
                exact ⟨by first | rfl | (simp [errW_none, errW_some] <;> rfl) | (simp [*, errW_none, errW_some] <;> rfl), by repeat (first | (with_reducible first | exact HB.out | apply below_alloc | apply pw_below_drewN | apply below_drew1) | exact HB.out)⟩

end Go.Proofs.Ytekpnmeikibioaa.PDispatchUnits
