-- PRINTED BY print.sh 35421559b90ae4d0a3588c463048766b98c2df88dd9212a6774a882060cdf62d: not written by this session
import Derived.Test.YtdhboohbifmbnaaPOfferSuppliesx0
import Derived.Test.YtdhboohbifmbnaaPOfferSuppliesx1
import Derived.Test.YtdhboohbifmbnaaPOfferSuppliesx2
import Derived.Test.YtdhboohbifmbnaaPOfferSuppliesx4
import Derived.Test.YtdhboohbifmbnaaPOfferSuppliesx5
namespace Go.Proofs.Ytdhboohbifmbnaa.POfferSupplies
open Go.RowKit Go.Proofs.YtdhboohbifmbnaaW.PrintWords Go.Proofs.YtdhboohbifmbnaaW.PrintLast Go.Proofs.YtdhboohbifmbnaaW.PrintMore
attribute [local go_sem] max2_int min2_int max_two min_two max_three min_three max_four min_four   -- for this text's walks alone
set_option linter.unusedVariables false
set_option linter.unusedSimpArgs false

/-! ### gridhalllaw3_OfferSupplies: function 5 -/
mutual
def gridhalllaw3_OfferSupplies.j0 : Nat → Int → Bool → ByteArray → List (S61) → Option (Bool)
  | 0, _, _, _, _ => none
  | k + 1, x1, x35, x151000, x151001 => if x35 = true then (some false) else ((offer_Supply.f k x151000 x151001 x1).bind fun bt158 => ((offer_Profit.f k x151000 x151001 x1).bind fun bt161 => ((gridhallref3_OfferError.f k x151000 x151001).bind fun t163 => (if t163 = 0 then ((gridhallref3_In.f x1 (-2000000) 2000000).bind fun t164 => (gridhalllaw3_OfferSupplies.j1 k x1 bt158.1 bt158.2.1 bt158.2.2 bt161.1 bt161.2 t163 (!t164) x151000 x151001)) else (gridhalllaw3_OfferSupplies.j1 k x1 bt158.1 bt158.2.1 bt158.2.2 bt161.1 bt161.2 t163 false x151000 x151001)))))
def gridhalllaw3_OfferSupplies.j1 : Nat → Int → Int → Int → Int → Int → Int → Int → Bool → ByteArray → List (S61) → Option (Bool)
  | 0, _, _, _, _, _, _, _, _, _, _ => none
  | k + 1, x1, x8, x9, x10, x11, x12, x13, x57, x151000, x151001 => if x57 = true then (gridhalllaw3_OfferSupplies.j2 k x1 x8 x9 x10 x11 x12 4 x151000 x151001) else (gridhalllaw3_OfferSupplies.j2 k x1 x8 x9 x10 x11 x12 x13 x151000 x151001)
def gridhalllaw3_OfferSupplies.j2 : Nat → Int → Int → Int → Int → Int → Int → Int → ByteArray → List (S61) → Option (Bool)
  | 0, _, _, _, _, _, _, _, _, _ => none
  | k + 1, x1, x8, x9, x10, x11, x12, x13, x151000, x151001 => if x13 = 0 then (gridhalllaw3_OfferSupplies.l0 k x1 x8 x9 x10 x11 x12 0 0 0 1 x151000 x151001) else (if x10 = x13 then (if x12 = x13 then (if x8 = 0 then (if x9 = 0 then (some (x11 == 0)) else (some false)) else (some false)) else (some false)) else (some false))
def gridhalllaw3_OfferSupplies.l0 : Nat → Int → Int → Int → Int → Int → Int → Int → Int → Int → Int → ByteArray → List (S61) → Option (Bool)
  | 0, _, _, _, _, _, _, _, _, _, _, _, _ => none
  | k + 1, x1, x8, x9, x10, x11, x12, x14, x15, x16, x17, x151000, x151001 => if x17 ≤ (x151001.length : Int) then ((gridhallref3_Before.f k x151000 x151001 x17).bind fun t165 => ((gridhallref3_Cost.f k x151000 x151001 t165).bind fun t166 => (if (wrap64 ((wrap64 (x1 * t165)) - t166)) > x14 then (gridhalllaw3_OfferSupplies.l0 k x1 x8 x9 x10 x11 x12 (wrap64 ((wrap64 (x1 * t165)) - t166)) t165 t165 (wrap64 (x17 + 1)) x151000 x151001) else (if (wrap64 ((wrap64 (x1 * t165)) - t166)) = x14 then (gridhalllaw3_OfferSupplies.l0 k x1 x8 x9 x10 x11 x12 x14 x15 t165 (wrap64 (x17 + 1)) x151000 x151001) else (gridhalllaw3_OfferSupplies.l0 k x1 x8 x9 x10 x11 x12 x14 x15 x16 (wrap64 (x17 + 1)) x151000 x151001))))) else (if x10 = 0 then (if x12 = 0 then (if x8 = x15 then (if x9 = x16 then (some (x11 == x14)) else (some false)) else (some false)) else (some false)) else (some false))
end
def gridhalllaw3_OfferSupplies.f (k : Nat) (a0_0 : ByteArray) (l0_1 : List (S61)) (a1 : Int) : Option (Bool) := (gridhalllaw3_two.f (⟨#[65]⟩ : ByteArray)).bind fun bt151 => ((offer_Supply.f k bt151.1 bt151.2 8).bind fun bt155 => (if bt155.2.2 = 0 then (if bt155.1 = 10 then (gridhalllaw3_OfferSupplies.j0 k a1 (bt155.2.1 != 20) a0_0 l0_1) else (gridhalllaw3_OfferSupplies.j0 k a1 true a0_0 l0_1)) else (gridhalllaw3_OfferSupplies.j0 k a1 true a0_0 l0_1)))
theorem gridhalllaw3_OfferSupplies.mono_l : ∀ k, (∀ y0 y1 y2 y3, LeO (gridhalllaw3_OfferSupplies.j0 k y0 y1 y2 y3) (gridhalllaw3_OfferSupplies.j0 (k + 1) y0 y1 y2 y3)) ∧ (∀ y0 y1 y2 y3 y4 y5 y6 y7 y8 y9, LeO (gridhalllaw3_OfferSupplies.j1 k y0 y1 y2 y3 y4 y5 y6 y7 y8 y9) (gridhalllaw3_OfferSupplies.j1 (k + 1) y0 y1 y2 y3 y4 y5 y6 y7 y8 y9)) ∧ (∀ y0 y1 y2 y3 y4 y5 y6 y7 y8, LeO (gridhalllaw3_OfferSupplies.j2 k y0 y1 y2 y3 y4 y5 y6 y7 y8) (gridhalllaw3_OfferSupplies.j2 (k + 1) y0 y1 y2 y3 y4 y5 y6 y7 y8)) ∧ (∀ y0 y1 y2 y3 y4 y5 y6 y7 y8 y9 y10 y11, LeO (gridhalllaw3_OfferSupplies.l0 k y0 y1 y2 y3 y4 y5 y6 y7 y8 y9 y10 y11) (gridhalllaw3_OfferSupplies.l0 (k + 1) y0 y1 y2 y3 y4 y5 y6 y7 y8 y9 y10 y11))
  | 0 => ⟨fun _ _ _ _ r h => by simp [gridhalllaw3_OfferSupplies.j0] at h, fun _ _ _ _ _ _ _ _ _ _ r h => by simp [gridhalllaw3_OfferSupplies.j1] at h, fun _ _ _ _ _ _ _ _ _ r h => by simp [gridhalllaw3_OfferSupplies.j2] at h, fun _ _ _ _ _ _ _ _ _ _ _ _ r h => by simp [gridhalllaw3_OfferSupplies.l0] at h⟩
  | k + 1 => by
    obtain ⟨ih0, ih1, ih2, ih3⟩ := gridhalllaw3_OfferSupplies.mono_l k
    refine ⟨?_, ?_, ?_, ?_⟩
    · intro y0 y1 y2 y3
      unfold gridhalllaw3_OfferSupplies.j0
      repeat' first
      | (with_reducible exact ih0 _ _ _ _)
      | (with_reducible exact ih1 _ _ _ _ _ _ _ _ _ _)
      | (with_reducible exact ih2 _ _ _ _ _ _ _ _ _)
      | (with_reducible exact ih3 _ _ _ _ _ _ _ _ _ _ _ _)
      | (with_reducible exact gridhallref3_Before.mono _ _ _ _)
      | (with_reducible exact gridhallref3_Cost.mono _ _ _ _)
      | (with_reducible exact gridhallref3_OfferError.mono _ _ _)
      | (with_reducible exact offer_Profit.mono _ _ _ _)
      | (with_reducible exact offer_Supply.mono _ _ _ _)
      | (with_reducible exact LeO.refl _)
      | (with_reducible exact LeO.none _)
      | (with_reducible refine LeO.ite ?_ ?_)
      | (with_reducible refine LeO.bind ?_ (fun _ => ?_))
      | exact ih0 _ _ _ _
      | exact ih1 _ _ _ _ _ _ _ _ _ _
      | exact ih2 _ _ _ _ _ _ _ _ _
      | exact ih3 _ _ _ _ _ _ _ _ _ _ _ _
      | exact gridhallref3_Before.mono _ _ _ _
      | exact gridhallref3_Cost.mono _ _ _ _
      | exact gridhallref3_OfferError.mono _ _ _
      | exact offer_Profit.mono _ _ _ _
      | exact offer_Supply.mono _ _ _ _
      | exact LeO.none _
      | refine LeO.ite ?_ ?_
      | refine LeO.bind ?_ (fun _ => ?_)
    · intro y0 y1 y2 y3 y4 y5 y6 y7 y8 y9
      unfold gridhalllaw3_OfferSupplies.j1
      repeat' first
      | (with_reducible exact ih0 _ _ _ _)
      | (with_reducible exact ih1 _ _ _ _ _ _ _ _ _ _)
      | (with_reducible exact ih2 _ _ _ _ _ _ _ _ _)
      | (with_reducible exact ih3 _ _ _ _ _ _ _ _ _ _ _ _)
      | (with_reducible exact gridhallref3_Before.mono _ _ _ _)
      | (with_reducible exact gridhallref3_Cost.mono _ _ _ _)
      | (with_reducible exact gridhallref3_OfferError.mono _ _ _)
      | (with_reducible exact offer_Profit.mono _ _ _ _)
      | (with_reducible exact offer_Supply.mono _ _ _ _)
      | (with_reducible exact LeO.refl _)
      | (with_reducible exact LeO.none _)
      | (with_reducible refine LeO.ite ?_ ?_)
      | (with_reducible refine LeO.bind ?_ (fun _ => ?_))
      | exact ih0 _ _ _ _
      | exact ih1 _ _ _ _ _ _ _ _ _ _
      | exact ih2 _ _ _ _ _ _ _ _ _
      | exact ih3 _ _ _ _ _ _ _ _ _ _ _ _
      | exact gridhallref3_Before.mono _ _ _ _
      | exact gridhallref3_Cost.mono _ _ _ _
      | exact gridhallref3_OfferError.mono _ _ _
      | exact offer_Profit.mono _ _ _ _
      | exact offer_Supply.mono _ _ _ _
      | exact LeO.none _
      | refine LeO.ite ?_ ?_
      | refine LeO.bind ?_ (fun _ => ?_)
    · intro y0 y1 y2 y3 y4 y5 y6 y7 y8
      unfold gridhalllaw3_OfferSupplies.j2
      repeat' first
      | (with_reducible exact ih0 _ _ _ _)
      | (with_reducible exact ih1 _ _ _ _ _ _ _ _ _ _)
      | (with_reducible exact ih2 _ _ _ _ _ _ _ _ _)
      | (with_reducible exact ih3 _ _ _ _ _ _ _ _ _ _ _ _)
      | (with_reducible exact gridhallref3_Before.mono _ _ _ _)
      | (with_reducible exact gridhallref3_Cost.mono _ _ _ _)
      | (with_reducible exact gridhallref3_OfferError.mono _ _ _)
      | (with_reducible exact offer_Profit.mono _ _ _ _)
      | (with_reducible exact offer_Supply.mono _ _ _ _)
      | (with_reducible exact LeO.refl _)
      | (with_reducible exact LeO.none _)
      | (with_reducible refine LeO.ite ?_ ?_)
      | (with_reducible refine LeO.bind ?_ (fun _ => ?_))
      | exact ih0 _ _ _ _
      | exact ih1 _ _ _ _ _ _ _ _ _ _
      | exact ih2 _ _ _ _ _ _ _ _ _
      | exact ih3 _ _ _ _ _ _ _ _ _ _ _ _
      | exact gridhallref3_Before.mono _ _ _ _
      | exact gridhallref3_Cost.mono _ _ _ _
      | exact gridhallref3_OfferError.mono _ _ _
      | exact offer_Profit.mono _ _ _ _
      | exact offer_Supply.mono _ _ _ _
      | exact LeO.none _
      | refine LeO.ite ?_ ?_
      | refine LeO.bind ?_ (fun _ => ?_)
    · intro y0 y1 y2 y3 y4 y5 y6 y7 y8 y9 y10 y11
      unfold gridhalllaw3_OfferSupplies.l0
      repeat' first
      | (with_reducible exact ih0 _ _ _ _)
      | (with_reducible exact ih1 _ _ _ _ _ _ _ _ _ _)
      | (with_reducible exact ih2 _ _ _ _ _ _ _ _ _)
      | (with_reducible exact ih3 _ _ _ _ _ _ _ _ _ _ _ _)
      | (with_reducible exact gridhallref3_Before.mono _ _ _ _)
      | (with_reducible exact gridhallref3_Cost.mono _ _ _ _)
      | (with_reducible exact gridhallref3_OfferError.mono _ _ _)
      | (with_reducible exact offer_Profit.mono _ _ _ _)
      | (with_reducible exact offer_Supply.mono _ _ _ _)
      | (with_reducible exact LeO.refl _)
      | (with_reducible exact LeO.none _)
      | (with_reducible refine LeO.ite ?_ ?_)
      | (with_reducible refine LeO.bind ?_ (fun _ => ?_))
      | exact ih0 _ _ _ _
      | exact ih1 _ _ _ _ _ _ _ _ _ _
      | exact ih2 _ _ _ _ _ _ _ _ _
      | exact ih3 _ _ _ _ _ _ _ _ _ _ _ _
      | exact gridhallref3_Before.mono _ _ _ _
      | exact gridhallref3_Cost.mono _ _ _ _
      | exact gridhallref3_OfferError.mono _ _ _
      | exact offer_Profit.mono _ _ _ _
      | exact offer_Supply.mono _ _ _ _
      | exact LeO.none _
      | refine LeO.ite ?_ ?_
      | refine LeO.bind ?_ (fun _ => ?_)
theorem gridhalllaw3_OfferSupplies.mono : ∀ a0 a1 a2 k, LeO (gridhalllaw3_OfferSupplies.f k a0 a1 a2) (gridhalllaw3_OfferSupplies.f (k + 1) a0 a1 a2) := by
  intro a0 a1 a2 k
  obtain ⟨ih0, ih1, ih2, ih3⟩ := gridhalllaw3_OfferSupplies.mono_l k
  unfold gridhalllaw3_OfferSupplies.f
  repeat' first
      | (with_reducible exact ih0 _ _ _ _)
      | (with_reducible exact ih1 _ _ _ _ _ _ _ _ _ _)
      | (with_reducible exact ih2 _ _ _ _ _ _ _ _ _)
      | (with_reducible exact ih3 _ _ _ _ _ _ _ _ _ _ _ _)
      | (with_reducible exact gridhallref3_Before.mono _ _ _ _)
      | (with_reducible exact gridhallref3_Cost.mono _ _ _ _)
      | (with_reducible exact gridhallref3_OfferError.mono _ _ _)
      | (with_reducible exact offer_Profit.mono _ _ _ _)
      | (with_reducible exact offer_Supply.mono _ _ _ _)
      | (with_reducible exact LeO.refl _)
      | (with_reducible exact LeO.none _)
      | (with_reducible refine LeO.ite ?_ ?_)
      | (with_reducible refine LeO.bind ?_ (fun _ => ?_))
      | exact ih0 _ _ _ _
      | exact ih1 _ _ _ _ _ _ _ _ _ _
      | exact ih2 _ _ _ _ _ _ _ _ _
      | exact ih3 _ _ _ _ _ _ _ _ _ _ _ _
      | exact gridhallref3_Before.mono _ _ _ _
      | exact gridhallref3_Cost.mono _ _ _ _
      | exact gridhallref3_OfferError.mono _ _ _
      | exact offer_Profit.mono _ _ _ _
      | exact offer_Supply.mono _ _ _ _
      | exact LeO.none _
      | refine LeO.ite ?_ ?_
      | refine LeO.bind ?_ (fun _ => ?_)
set_option maxHeartbeats 8000000 in
set_option maxRecDepth 100000 in
theorem gridhalllaw3_OfferSupplies.calls (k : Nat) (a0_0 : ByteArray) (A0_1 : Option Addr) (c0_1 : Nat) (l0_1 : List (S61)) (a1 : Int) (r : Bool) (w : World) (hr0_1 : Kd.C k61 w A0_1 l0_1.length l0_1) (hc0_1 : l0_1.length ≤ c0_1) (h : gridhalllaw3_OfferSupplies.f k a0_0 l0_1 a1 = some r) :
    Calls Try.prog 5 #[.agg #[.string a0_0, .slice A0_1 l0_1.length c0_1], .int .i64 a1] w fun e w' => e = .returned (.bool r) ∧ Below w.heap.size w w' := by
  have hu27 := Try.underlying27
  have HR0_1 := Aside0.mk hr0_1
  have HC0_1 := Aside0.mk hc0_1
  clear hr0_1 hc0_1
  have HB := Aside0.mk (Below.refl w.heap.size w)
  have H : ((gridhalllaw3_two.f (⟨#[65]⟩ : ByteArray)).bind fun bt151 => ((offer_Supply.f k bt151.1 bt151.2 8).bind fun bt155 => (if bt155.2.2 = 0 then (if bt155.1 = 10 then (gridhalllaw3_OfferSupplies.j0 k a1 (bt155.2.1 != 20) a0_0 l0_1) else (gridhalllaw3_OfferSupplies.j0 k a1 true a0_0 l0_1)) else (gridhalllaw3_OfferSupplies.j0 k a1 true a0_0 l0_1)))) = some r := h
  clear h
  replace H := Option.bind_eq_some_iff.mp H
  obtain ⟨⟨t151, t152⟩, A30, H⟩ := H
  replace H : ((offer_Supply.f k t151 t152 8).bind fun bt155 => (if bt155.2.2 = 0 then (if bt155.1 = 10 then (gridhalllaw3_OfferSupplies.j0 k a1 (bt155.2.1 != 20) a0_0 l0_1) else (gridhalllaw3_OfferSupplies.j0 k a1 true a0_0 l0_1)) else (gridhalllaw3_OfferSupplies.j0 k a1 true a0_0 l0_1))) = some r := H
  have A3 := Aside0.mk A30
  clear A30
  replace H := Option.bind_eq_some_iff.mp H
  obtain ⟨⟨t155, t156, t157⟩, A40, H⟩ := H
  replace H : (if t157 = 0 then (if t155 = 10 then (gridhalllaw3_OfferSupplies.j0 k a1 (t156 != 20) a0_0 l0_1) else (gridhalllaw3_OfferSupplies.j0 k a1 true a0_0 l0_1)) else (gridhalllaw3_OfferSupplies.j0 k a1 true a0_0 l0_1)) = some r := H
  have A4 := Aside0.mk A40
  clear A40
  have HC5 := Aside0.mk H
  clear H
  go_enter Try.func5, Try.ntmps5
  go_upto_region 2 with (first | ((with_reducible refine gate_dst (N := 2) rfl ?_); refine box_event ?hg (N := 2) ?hd (cs := #[.string a0_0, .slice A0_1 l0_1.length c0_1]) (t := 27) ?hr ?_; (case hd => rfl); (case hg => rfl); (case hr => first | (go_simp; done) | (go_simp; rfl)); intro gb150 hg w6 hbox hb; have n0_ := Aside0.mk (below_step (by repeat (first | (with_reducible first | exact HB.out | apply below_alloc | apply pw_below_drewN | apply below_drew1) | exact HB.out)) hb); have n1_ := Aside0.mk (hbox); have n2_ := Aside0.mk ((by rw [hg]; exact (below_size (by repeat (first | (with_reducible first | exact HB.out | apply below_alloc | apply pw_below_drewN | apply below_drew1) | exact HB.out))) : w.heap.size ≤ gb150)); have n3_ := Aside0.mk ((by rw [hg]; exact (below_size (by repeat (first | (with_reducible first | exact HB.out | apply below_alloc | apply pw_below_drewN | apply below_drew1) | exact HB.out))) : w.heap.size ≤ gb150)); clear HB; have HB := n0_; have BK150 := n1_; have GW150 := n2_; have GE150 := n3_; clear n0_ n1_ n2_ n3_; clear hb hbox hg) | ((with_reducible refine gate_callee (f := 10) rfl ?_); refine goesL_ (some 21) rfl rfl Try.func10 (by kernel_rfl) rfl #[.string (⟨#[65]⟩ : ByteArray)] rfl (by (try simp only [List.map_toArray, List.map_cons, List.map_nil]); first | done | rfl | (simp only [List.length_drop, List.length_take]; rfl)) ?_; (with_reducible refine (gridhalllaw3_two.calls (⟨#[65]⟩ : ByteArray) t151 t152 _ A3.out).mono ?_); rintro e w7 ⟨v153, rfl, ho0, hb⟩; refine ⟨_, rfl, ?_⟩; have n0_ := Aside0.mk (Kd.R_lower ho0 (below_size (by repeat (first | (with_reducible first | exact HB.out | apply below_alloc | apply pw_below_drewN | apply below_drew1 | refine below_set ?_ GE150.out) | exact HB.out)))); have n1_ := Aside0.mk (blk_below (g := gb150) (o := .cells #[.string a0_0, .slice A0_1 l0_1.length c0_1] 27 (0, 0)) (by (with_reducible repeat (first | refine blk_drewN ?_ _ | refine blk_drew ?_ | refine blk_alloc ?_ _)); exact BK150.out) hb); have n2_ := Aside0.mk (below_step (by repeat (first | (with_reducible first | exact HB.out | apply below_alloc | apply pw_below_drewN | apply below_drew1 | refine below_set ?_ GE150.out) | exact HB.out)) hb); clear BK150; clear HB; have HO154 := n0_; have BK150 := n1_; have HB := n2_; clear n0_ n1_ n2_; (try clear hb); (try clear hb2); (try clear hk); (try clear hi); (try clear ho0); obtain ⟨Ao8, co8, eo8⟩ := Kd.R_slice HO154.out; subst eo8) | ((with_reducible refine gate_callee (f := 22) rfl ?_); refine goesL_ (some 22) rfl rfl Try.func22 (by kernel_rfl) rfl #[.agg #[.string t151, .slice Ao8 t152.length co8], .int .i64 8] rfl (by (try simp only [List.map_toArray, List.map_cons, List.map_nil]); first | done | rfl | (simp only [List.length_drop, List.length_take]; rfl)) ?_; (with_reducible refine (offer_Supply.calls k t151 _ _ t152 8 t155 t156 t157 _ ?side1 ?side2 A4.out).mono ?_); (case side1 => repeat (first | exact (Kd.R_reads' HO154.out).2.2 | (with_reducible refine Kd.C_alloc ?_ _) | (with_reducible refine Kd.C_drewN ?_ _) | (with_reducible refine Kd.C_drew ?_))); (case side2 => exact (Kd.R_reads' HO154.out).2.1); rintro e w9 ⟨rfl, hb⟩; refine ⟨_, rfl, ?_⟩; have n0_ := Aside0.mk (Kd.R_below (by (with_reducible repeat (first | apply Kd.R_alloc | apply Kd.R_drewN | apply Kd.R_drew)); exact HO154.out) hb); have n1_ := Aside0.mk (blk_below (g := gb150) (o := .cells #[.string a0_0, .slice A0_1 l0_1.length c0_1] 27 (0, 0)) (by (with_reducible repeat (first | refine blk_drewN ?_ _ | refine blk_drew ?_ | refine blk_alloc ?_ _)); exact BK150.out) hb); have n2_ := Aside0.mk (below_step (by repeat (first | (with_reducible first | exact HB.out | apply below_alloc | apply pw_below_drewN | apply below_drew1 | refine below_set ?_ GE150.out) | exact HB.out)) hb); clear HO154; clear BK150; clear HB; have HO154 := n0_; have BK150 := n1_; have HB := n2_; clear n0_ n1_ n2_; (try clear hb); (try clear hb2); (try clear hk); (try clear hi)))
  (try simp only [Act.put, List.setIfInBounds_toArray, List.set_cons_zero, List.set_cons_succ])
  go_cut [35] (fun v35 wc => ∃ (kq : Nat) (x35_4 : Bool), v35 = .bool x35_4 ∧ Aside0 (gridhalllaw3_OfferSupplies.j0 kq a1 x35_4 a0_0 l0_1 = some r) ∧ Aside0 (kq ≤ k) ∧ Aside0 (wc.heap[gb150]? = some (.cells #[.string a0_0, (.slice A0_1 l0_1.length c0_1)] 27 (0, 0))) ∧ Aside0 (Below w.heap.size w wc))
  case first =>
    have H := HC5.out
    clear HC5
    by_cases c10 : t157 = 0
    · rw [if_pos c10] at H
      have c10b0 : (t157 == 0) = true := beq_iff_eq.mpr c10
      have c10b1 : (t157 != 0) = false := bne_eq_false_iff_eq.mpr c10
      clear c10
      (first | rw [c10b0] | (simp only [i64_w, i32_w]; rw [c10b0]) | skip)
      by_cases c11 : t155 = 10
      · rw [if_pos c11] at H
        have c11b0 : (t155 == 10) = true := beq_iff_eq.mpr c11
        have c11b1 : (t155 != 10) = false := bne_eq_false_iff_eq.mpr c11
        clear c11
        have H' := Aside0.mk H
        clear H
        go_wp2
        go_meet
        case rel => exact ⟨_, ((t156 != 20)), (by first | rfl | (simp; done) | (simp [*]; done)), H', ⟨by first | omega | exact Nat.le_refl _⟩, ⟨by (with_reducible repeat (first | refine blk_drewN ?_ _ | refine blk_drew ?_ | refine blk_alloc ?_ _)); exact BK150.out⟩, ⟨by repeat (first | (with_reducible first | exact HB.out | apply below_alloc | apply pw_below_drewN | apply below_drew1 | refine below_set ?_ GE150.out) | exact HB.out)⟩⟩
      · rw [if_neg c11] at H
        have c11b0 : (t155 == 10) = false := beq_eq_false_iff_ne.mpr c11
        have c11b1 : (t155 != 10) = true := bne_iff_ne.mpr c11
        have H' := Aside0.mk H
        clear H
        go_wp2
        go_meet
        case rel => exact ⟨_, (true), (by first | rfl | (simp; done) | (simp [*]; done)), H', ⟨by first | omega | exact Nat.le_refl _⟩, ⟨by (with_reducible repeat (first | refine blk_drewN ?_ _ | refine blk_drew ?_ | refine blk_alloc ?_ _)); exact BK150.out⟩, ⟨by repeat (first | (with_reducible first | exact HB.out | apply below_alloc | apply pw_below_drewN | apply below_drew1 | refine below_set ?_ GE150.out) | exact HB.out)⟩⟩
    · rw [if_neg c10] at H
      have c10b0 : (t157 == 0) = false := beq_eq_false_iff_ne.mpr c10
      have c10b1 : (t157 != 0) = true := bne_iff_ne.mpr c10
      (first | rw [c10b0] | (simp only [i64_w, i32_w]; rw [c10b0]) | skip)
      have H' := Aside0.mk H
      clear H
      go_wp2
      go_meet
      case rel => exact ⟨_, (true), (by first | rfl | (simp; done) | (simp [*]; done)), H', ⟨by first | omega | exact Nat.le_refl _⟩, ⟨by (with_reducible repeat (first | refine blk_drewN ?_ _ | refine blk_drew ?_ | refine blk_alloc ?_ _)); exact BK150.out⟩, ⟨by repeat (first | (with_reducible first | exact HB.out | apply below_alloc | apply pw_below_drewN | apply below_drew1 | refine below_set ?_ GE150.out) | exact HB.out)⟩⟩
  case rest =>
    clear HC5
    try clear c1
    try clear c2
    try clear p2
    try clear c5
    try clear c10
    try clear c10b0
    try clear c10b1
    try clear c11
    try clear c11b0
    try clear c11b1
    obtain ⟨kq, x35_4, rfl, HA, HJ4, BK150, HB⟩ := hcut
    cases kq with
    | zero => exact absurd HA.out (by simp [gridhalllaw3_OfferSupplies.j0])
    | succ kj4 =>
      have H := HA.out
      clear HA
      simp only [gridhalllaw3_OfferSupplies.j0] at H
      by_cases c12 : x35_4 = true
      · subst c12
        have H1 : (some false) = some r := by rw [if_pos rfl] at H; exact H
        clear H
        have H := H1
        clear H1
        obtain rfl := Option.some.inj H
        go_wp2
        go_ret
        exact ⟨by first | rfl | (simp [errW_none, errW_some] <;> rfl) | (simp [*, errW_none, errW_some] <;> rfl), by repeat (first | (with_reducible first | exact HB.out | apply below_alloc | apply pw_below_drewN | apply below_drew1 | refine below_set ?_ GE150.out) | exact HB.out)⟩
      · replace c12 := Bool.eq_false_iff.mpr c12
        subst c12
        have H1 : ((offer_Supply.f kj4 a0_0 l0_1 a1).bind fun bt158 => ((offer_Profit.f kj4 a0_0 l0_1 a1).bind fun bt161 => ((gridhallref3_OfferError.f kj4 a0_0 l0_1).bind fun t163 => (if t163 = 0 then ((gridhallref3_In.f a1 (-2000000) 2000000).bind fun t164 => (gridhalllaw3_OfferSupplies.j1 kj4 a1 bt158.1 bt158.2.1 bt158.2.2 bt161.1 bt161.2 t163 (!t164) a0_0 l0_1)) else (gridhalllaw3_OfferSupplies.j1 kj4 a1 bt158.1 bt158.2.1 bt158.2.2 bt161.1 bt161.2 t163 false a0_0 l0_1))))) = some r := by rw [if_neg (show ¬ (false = true) by decide)] at H; exact H
        clear H
        have H := H1
        clear H1
        replace H := Option.bind_eq_some_iff.mp H
        obtain ⟨⟨t158, t159, t160⟩, A130, H⟩ := H
        replace H : ((offer_Profit.f kj4 a0_0 l0_1 a1).bind fun bt161 => ((gridhallref3_OfferError.f kj4 a0_0 l0_1).bind fun t163 => (if t163 = 0 then ((gridhallref3_In.f a1 (-2000000) 2000000).bind fun t164 => (gridhalllaw3_OfferSupplies.j1 kj4 a1 t158 t159 t160 bt161.1 bt161.2 t163 (!t164) a0_0 l0_1)) else (gridhalllaw3_OfferSupplies.j1 kj4 a1 t158 t159 t160 bt161.1 bt161.2 t163 false a0_0 l0_1)))) = some r := H
        have A13 := Aside0.mk A130
        clear A130
        replace H := Option.bind_eq_some_iff.mp H
        obtain ⟨⟨t161, t162⟩, A140, H⟩ := H
        replace H : ((gridhallref3_OfferError.f kj4 a0_0 l0_1).bind fun t163 => (if t163 = 0 then ((gridhallref3_In.f a1 (-2000000) 2000000).bind fun t164 => (gridhalllaw3_OfferSupplies.j1 kj4 a1 t158 t159 t160 t161 t162 t163 (!t164) a0_0 l0_1)) else (gridhalllaw3_OfferSupplies.j1 kj4 a1 t158 t159 t160 t161 t162 t163 false a0_0 l0_1))) = some r := H
        have A14 := Aside0.mk A140
        clear A140
        replace H := Option.bind_eq_some_iff.mp H
        obtain ⟨t163, A150, H⟩ := H
        replace H : (if t163 = 0 then ((gridhallref3_In.f a1 (-2000000) 2000000).bind fun t164 => (gridhalllaw3_OfferSupplies.j1 kj4 a1 t158 t159 t160 t161 t162 t163 (!t164) a0_0 l0_1)) else (gridhalllaw3_OfferSupplies.j1 kj4 a1 t158 t159 t160 t161 t162 t163 false a0_0 l0_1)) = some r := H
        have A15 := Aside0.mk A150
        clear A150
        have HC16 := Aside0.mk H
        clear H
        have hcz17_0 : wc.cell? ⟨gb150, 0, none⟩ = some (.string a0_0) := (blk_cell BK150.out 0).trans rfl
        have hcz17_1 : wc.cell? ⟨gb150, 1, none⟩ = some (.slice A0_1 l0_1.length c0_1) := (blk_cell BK150.out 1).trans rfl
        have hfz17_0 := blk_frozen BK150.out 0
        have hfz17_1 := blk_frozen BK150.out 1
        go_upto_region 7 with (first | ((with_reducible refine gate_callee (f := 22) rfl ?_); refine goesL_ (some 39) rfl rfl Try.func22 (by kernel_rfl) rfl #[.agg #[.string a0_0, .slice A0_1 l0_1.length c0_1], .int .i64 a1] rfl (by (try simp only [List.map_toArray, List.map_cons, List.map_nil]); first | done | rfl | (simp only [List.length_drop, List.length_take]; rfl)) ?_; (with_reducible refine (offer_Supply.calls kj4 a0_0 _ _ l0_1 a1 t158 t159 t160 _ ?side1 ?side2 A13.out).mono ?_); (case side1 => repeat (first | exact (Kd.C_below HR0_1.out HB.out) | (with_reducible refine Kd.C_alloc ?_ _) | (with_reducible refine Kd.C_drewN ?_ _) | (with_reducible refine Kd.C_drew ?_))); (case side2 => exact HC0_1.out); rintro e w18 ⟨rfl, hb⟩; refine ⟨_, rfl, ?_⟩; have n0_ := Aside0.mk (blk_below (g := gb150) (o := .cells #[.string a0_0, .slice A0_1 l0_1.length c0_1] 27 (0, 0)) (by (with_reducible repeat (first | refine blk_drewN ?_ _ | refine blk_drew ?_ | refine blk_alloc ?_ _)); exact BK150.out) hb); have n1_ := Aside0.mk (below_step (by repeat (first | (with_reducible first | exact HB.out | apply below_alloc | apply pw_below_drewN | apply below_drew1 | refine below_set ?_ GE150.out) | exact HB.out)) hb); clear BK150; clear HB; have BK150 := n0_; have HB := n1_; clear n0_ n1_; (try clear hb); (try clear hb2); (try clear hk); (try clear hi); have hcz19_0 : w18.cell? ⟨gb150, 0, none⟩ = some (.string a0_0) := (blk_cell BK150.out 0).trans rfl; have hcz19_1 : w18.cell? ⟨gb150, 1, none⟩ = some (.slice A0_1 l0_1.length c0_1) := (blk_cell BK150.out 1).trans rfl; have hfz19_0 := blk_frozen BK150.out 0; have hfz19_1 := blk_frozen BK150.out 1) | ((with_reducible refine gate_callee (f := 23) rfl ?_); refine goesL_ (some 46) rfl rfl Try.func23 (by kernel_rfl) rfl #[.agg #[.string a0_0, .slice A0_1 l0_1.length c0_1], .int .i64 a1] rfl (by (try simp only [List.map_toArray, List.map_cons, List.map_nil]); first | done | rfl | (simp only [List.length_drop, List.length_take]; rfl)) ?_; (with_reducible refine (offer_Profit.calls kj4 a0_0 _ _ l0_1 a1 t161 t162 _ ?side1 ?side2 A14.out).mono ?_); (case side1 => repeat (first | exact (Kd.C_below HR0_1.out HB.out) | (with_reducible refine Kd.C_alloc ?_ _) | (with_reducible refine Kd.C_drewN ?_ _) | (with_reducible refine Kd.C_drew ?_))); (case side2 => exact HC0_1.out); rintro e w20 ⟨rfl, hb⟩; refine ⟨_, rfl, ?_⟩; have n0_ := Aside0.mk (blk_below (g := gb150) (o := .cells #[.string a0_0, .slice A0_1 l0_1.length c0_1] 27 (0, 0)) (by (with_reducible repeat (first | refine blk_drewN ?_ _ | refine blk_drew ?_ | refine blk_alloc ?_ _)); exact BK150.out) hb); have n1_ := Aside0.mk (below_step (by repeat (first | (with_reducible first | exact HB.out | apply below_alloc | apply pw_below_drewN | apply below_drew1 | refine below_set ?_ GE150.out) | exact HB.out)) hb); clear BK150; clear HB; have BK150 := n0_; have HB := n1_; clear n0_ n1_; (try clear hb); (try clear hb2); (try clear hk); (try clear hi); have hcz21_0 : w20.cell? ⟨gb150, 0, none⟩ = some (.string a0_0) := (blk_cell BK150.out 0).trans rfl; have hcz21_1 : w20.cell? ⟨gb150, 1, none⟩ = some (.slice A0_1 l0_1.length c0_1) := (blk_cell BK150.out 1).trans rfl; have hfz21_0 := blk_frozen BK150.out 0; have hfz21_1 := blk_frozen BK150.out 1) | ((with_reducible refine gate_callee (f := 13) rfl ?_); refine goesL_ (some 50) rfl rfl Try.func13 (by kernel_rfl) rfl #[.agg #[.string a0_0, .slice A0_1 l0_1.length c0_1]] rfl (by (try simp only [List.map_toArray, List.map_cons, List.map_nil]); first | done | rfl | (simp only [List.length_drop, List.length_take]; rfl)) ?_; (with_reducible refine (gridhallref3_OfferError.calls kj4 a0_0 _ _ l0_1 t163 _ ?side1 ?side2 A15.out).mono ?_); (case side1 => repeat (first | exact (Kd.C_below HR0_1.out HB.out) | (with_reducible refine Kd.C_alloc ?_ _) | (with_reducible refine Kd.C_drewN ?_ _) | (with_reducible refine Kd.C_drew ?_))); (case side2 => exact HC0_1.out); rintro e w22 ⟨rfl, hb⟩; refine ⟨_, rfl, ?_⟩; have n0_ := Aside0.mk (blk_below (g := gb150) (o := .cells #[.string a0_0, .slice A0_1 l0_1.length c0_1] 27 (0, 0)) (by (with_reducible repeat (first | refine blk_drewN ?_ _ | refine blk_drew ?_ | refine blk_alloc ?_ _)); exact BK150.out) hb); have n1_ := Aside0.mk (below_step (by repeat (first | (with_reducible first | exact HB.out | apply below_alloc | apply pw_below_drewN | apply below_drew1 | refine below_set ?_ GE150.out) | exact HB.out)) hb); clear BK150; clear HB; have BK150 := n0_; have HB := n1_; clear n0_ n1_; (try clear hb); (try clear hb2); (try clear hk); (try clear hi)))
        (try simp only [Act.put, List.setIfInBounds_toArray, List.set_cons_zero, List.set_cons_succ])
        go_cut [57] (fun v57 wc => ∃ (kq : Nat) (x57_15 : Bool), v57 = .bool x57_15 ∧ Aside0 (gridhalllaw3_OfferSupplies.j1 kq a1 t158 t159 t160 t161 t162 t163 x57_15 a0_0 l0_1 = some r) ∧ Aside0 (kq ≤ kj4) ∧ Aside0 (wc.heap[gb150]? = some (.cells #[.string a0_0, (.slice A0_1 l0_1.length c0_1)] 27 (0, 0))) ∧ Aside0 (Below w.heap.size w wc))
        case first =>
          have H := HC16.out
          clear HC16
          by_cases c23 : t163 = 0
          · rw [if_pos c23] at H
            have c23b0 : (t163 == 0) = true := beq_iff_eq.mpr c23
            have c23b1 : (t163 != 0) = false := bne_eq_false_iff_eq.mpr c23
            clear c23
            (first | rw [c23b0] | (simp only [i64_w, i32_w]; rw [c23b0]) | skip)
            replace H := Option.bind_eq_some_iff.mp H
            obtain ⟨t164, A240, H⟩ := H
            replace H : (gridhalllaw3_OfferSupplies.j1 kj4 a1 t158 t159 t160 t161 t162 t163 (!t164) a0_0 l0_1) = some r := H
            have A24 := Aside0.mk A240
            clear A240
            have H' := Aside0.mk H
            clear H
            go_wp2_with (first | (go_at_call 19; (with_reducible refine (gridhallref3_In.calls a1 (-2000000) 2000000 t164 _ A24.out).mono ?_); rintro e w' ⟨rfl, ⟨nd, rfl⟩⟩))
            go_meet
            case rel => exact ⟨_, (!t164), (by first | rfl | (simp; done) | (simp [*]; done)), H', ⟨by have := HJ4.out; first | omega | exact Nat.le_refl _⟩, ⟨by (with_reducible repeat (first | refine blk_drewN ?_ _ | refine blk_drew ?_ | refine blk_alloc ?_ _)); exact BK150.out⟩, ⟨by repeat (first | (with_reducible first | exact HB.out | apply below_alloc | apply pw_below_drewN | apply below_drew1 | refine below_set ?_ GE150.out) | exact HB.out)⟩⟩
          · rw [if_neg c23] at H
            have c23b0 : (t163 == 0) = false := beq_eq_false_iff_ne.mpr c23
            have c23b1 : (t163 != 0) = true := bne_iff_ne.mpr c23
            (first | rw [c23b0] | (simp only [i64_w, i32_w]; rw [c23b0]) | skip)
            have H' := Aside0.mk H
            clear H
            go_wp2
            go_meet
            case rel => exact ⟨_, (false), (by first | rfl | (simp; done) | (simp [*]; done)), H', ⟨by have := HJ4.out; first | omega | exact Nat.le_refl _⟩, ⟨by (with_reducible repeat (first | refine blk_drewN ?_ _ | refine blk_drew ?_ | refine blk_alloc ?_ _)); exact BK150.out⟩, ⟨by repeat (first | (with_reducible first | exact HB.out | apply below_alloc | apply pw_below_drewN | apply below_drew1 | refine below_set ?_ GE150.out) | exact HB.out)⟩⟩
        case rest =>
          clear HC16
          try clear c1
          try clear c2
          try clear p2
          try clear c5
          try clear c10
          try clear c10b0
          try clear c10b1
          try clear c11
          try clear c11b0
          try clear c11b1
          try clear c12
          try clear c13
          try clear c22
          try clear c23
          try clear c23b0
          try clear c23b1
          try clear hcz17_0
          try clear hcz17_1
          try clear hcz19_0
          try clear hcz19_1
          try clear hcz21_0
          try clear hcz21_1
          try clear hfz17_0
          try clear hfz17_1
          try clear hfz19_0
          try clear hfz19_1
          try clear hfz21_0
          try clear hfz21_1
          try clear p2
          obtain ⟨kq, x57_15, rfl, HA, HJ15, BK150, HB⟩ := hcut
          cases kq with
          | zero => exact absurd HA.out (by simp [gridhalllaw3_OfferSupplies.j1])
          | succ kj15 =>
            have H := HA.out
            clear HA
            simp only [gridhalllaw3_OfferSupplies.j1] at H
            have HC25 := Aside0.mk H
            clear H
            go_upto_if 57 with (fail)
            go_cut [13] (fun v13 wc => ∃ (kq : Nat) (x13_24 : Int), v13 = .int .i64 x13_24 ∧ Aside0 (gridhalllaw3_OfferSupplies.j2 kq a1 t158 t159 t160 t161 t162 x13_24 a0_0 l0_1 = some r) ∧ Aside0 (kq ≤ kj15) ∧ Aside0 (wc.heap[gb150]? = some (.cells #[.string a0_0, (.slice A0_1 l0_1.length c0_1)] 27 (0, 0))) ∧ Aside0 (Below w.heap.size w wc))
            case first =>
              have H := HC25.out
              clear HC25
              by_cases c26 : x57_15 = true
              · subst c26
                have H1 : (gridhalllaw3_OfferSupplies.j2 kj15 a1 t158 t159 t160 t161 t162 4 a0_0 l0_1) = some r := by rw [if_pos rfl] at H; exact H
                clear H
                have H := H1
                clear H1
                have H' := Aside0.mk H
                clear H
                go_wp2
                go_meet
                case rel => exact ⟨_, (4), (by first | rfl | (simp; done) | (simp [*]; done)), H', ⟨by have := HJ4.out; have := HJ15.out; first | omega | exact Nat.le_refl _⟩, ⟨by (with_reducible repeat (first | refine blk_drewN ?_ _ | refine blk_drew ?_ | refine blk_alloc ?_ _)); exact BK150.out⟩, ⟨by repeat (first | (with_reducible first | exact HB.out | apply below_alloc | apply pw_below_drewN | apply below_drew1 | refine below_set ?_ GE150.out) | exact HB.out)⟩⟩
              · replace c26 := Bool.eq_false_iff.mpr c26
                subst c26
                have H1 : (gridhalllaw3_OfferSupplies.j2 kj15 a1 t158 t159 t160 t161 t162 t163 a0_0 l0_1) = some r := by rw [if_neg (show ¬ (false = true) by decide)] at H; exact H
                clear H
                have H := H1
                clear H1
                have H' := Aside0.mk H
                clear H
                go_wp2
                go_meet
                case rel => exact ⟨_, (t163), (by first | rfl | (simp; done) | (simp [*]; done)), H', ⟨by have := HJ4.out; have := HJ15.out; first | omega | exact Nat.le_refl _⟩, ⟨by (with_reducible repeat (first | refine blk_drewN ?_ _ | refine blk_drew ?_ | refine blk_alloc ?_ _)); exact BK150.out⟩, ⟨by repeat (first | (with_reducible first | exact HB.out | apply below_alloc | apply pw_below_drewN | apply below_drew1 | refine below_set ?_ GE150.out) | exact HB.out)⟩⟩
            case rest =>
              clear HC25
              try clear c1
              try clear c2
              try clear p2
              try clear c5
              try clear c10
              try clear c10b0
              try clear c10b1
              try clear c11
              try clear c11b0
              try clear c11b1
              try clear c12
              try clear c13
              try clear c22
              try clear c23
              try clear c23b0
              try clear c23b1
              try clear c26
              try clear hcz17_0
              try clear hcz17_1
              try clear hcz19_0
              try clear hcz19_1
              try clear hcz21_0
              try clear hcz21_1
              try clear hfz17_0
              try clear hfz17_1
              try clear hfz19_0
              try clear hfz19_1
              try clear hfz21_0
              try clear hfz21_1
              try clear p2
              obtain ⟨kq, x13_24, rfl, HA, HJ24, BK150, HB⟩ := hcut
              cases kq with
              | zero => exact absurd HA.out (by simp [gridhalllaw3_OfferSupplies.j2])
              | succ kj24 =>
                have H := HA.out
                clear HA
                simp only [gridhalllaw3_OfferSupplies.j2] at H
                by_cases c27 : x13_24 = 0
                · rw [if_pos c27] at H
                  have c27b0 : (x13_24 == 0) = true := beq_iff_eq.mpr c27
                  have c27b1 : (x13_24 != 0) = false := bne_eq_false_iff_eq.mpr c27
                  clear c27
                  have H' := Aside0.mk H
                  clear H
                  go_wp2
                  go_loopg [14, 15, 16, 17] kj24 (fun kq v14 v15 v16 v17 w' => ∃ (x14_4 : Int) (x15_4 : Int) (x16_4 : Int) (x17_4 : Int), v14 = .int .i64 x14_4 ∧ v15 = .int .i64 x15_4 ∧ v16 = .int .i64 x16_4 ∧ v17 = .int .i64 x17_4 ∧ Aside0 (gridhalllaw3_OfferSupplies.l0 kq a1 t158 t159 t160 t161 t162 x14_4 x15_4 x16_4 x17_4 a0_0 l0_1 = some r) ∧ Aside0 (kq ≤ kj24) ∧ Aside0 (w'.heap[gb150]? = some (.cells #[.string a0_0, (.slice A0_1 l0_1.length c0_1)] 27 (0, 0))) ∧ Aside0 (Below w.heap.size w w'))
                  case atStart => exact ⟨(0), (0), (0), (1), (by first | rfl | (simp; done) | (simp [*]; done)), (by first | rfl | (simp; done) | (simp [*]; done)), (by first | rfl | (simp; done) | (simp [*]; done)), (by first | rfl | (simp; done) | (simp [*]; done)), H', ⟨Nat.le_refl _⟩, ⟨by (with_reducible repeat (first | refine blk_drewN ?_ _ | refine blk_drew ?_ | refine blk_alloc ?_ _)); exact BK150.out⟩, ⟨by repeat (first | (with_reducible first | exact HB.out | apply below_alloc | apply pw_below_drewN | apply below_drew1 | refine below_set ?_ GE150.out) | exact HB.out)⟩⟩
                  case round =>
                    clear H'
                    try clear c1
                    try clear c2
                    try clear p2
                    try clear c5
                    try clear c10
                    try clear c10b0
                    try clear c10b1
                    try clear c11
                    try clear c11b0
                    try clear c11b1
                    try clear c12
                    try clear c13
                    try clear c22
                    try clear c23
                    try clear c23b0
                    try clear c23b1
                    try clear c26
                    try clear c27
                    try clear c27b0
                    try clear c27b1
                    try clear hcz17_0
                    try clear hcz17_1
                    try clear hcz19_0
                    try clear hcz19_1
                    try clear hcz21_0
                    try clear hcz21_1
                    try clear hfz17_0
                    try clear hfz17_1
                    try clear hfz19_0
                    try clear hfz19_1
                    try clear hfz21_0
                    try clear hfz21_1
                    try clear p2
                    obtain ⟨x14_4, x15_4, x16_4, x17_4, rfl, rfl, rfl, rfl, HA, HK4, BK150, HB⟩ := hrel
                    cases gk with
                    | zero => exact absurd HA.out (by simp [gridhalllaw3_OfferSupplies.l0])
                    | succ k4 =>
                      have H := HA.out
                      clear HA
                      simp only [gridhalllaw3_OfferSupplies.l0] at H
                      by_cases c28 : x17_4 ≤ (l0_1.length : Int)
                      · rw [if_pos c28] at H
                        have c28b0 : decide (x17_4 ≤ (l0_1.length : Int)) = true := decide_eq_true c28
                        clear c28
                        replace H := Option.bind_eq_some_iff.mp H
                        obtain ⟨t165, A290, H⟩ := H
                        replace H : ((gridhallref3_Cost.f k4 a0_0 l0_1 t165).bind fun t166 => (if (wrap64 ((wrap64 (a1 * t165)) - t166)) > x14_4 then (gridhalllaw3_OfferSupplies.l0 k4 a1 t158 t159 t160 t161 t162 (wrap64 ((wrap64 (a1 * t165)) - t166)) t165 t165 (wrap64 (x17_4 + 1)) a0_0 l0_1) else (if (wrap64 ((wrap64 (a1 * t165)) - t166)) = x14_4 then (gridhalllaw3_OfferSupplies.l0 k4 a1 t158 t159 t160 t161 t162 x14_4 x15_4 t165 (wrap64 (x17_4 + 1)) a0_0 l0_1) else (gridhalllaw3_OfferSupplies.l0 k4 a1 t158 t159 t160 t161 t162 x14_4 x15_4 x16_4 (wrap64 (x17_4 + 1)) a0_0 l0_1)))) = some r := H
                        have A29 := Aside0.mk A290
                        clear A290
                        replace H := Option.bind_eq_some_iff.mp H
                        obtain ⟨t166, A300, H⟩ := H
                        replace H : (if (wrap64 ((wrap64 (a1 * t165)) - t166)) > x14_4 then (gridhalllaw3_OfferSupplies.l0 k4 a1 t158 t159 t160 t161 t162 (wrap64 ((wrap64 (a1 * t165)) - t166)) t165 t165 (wrap64 (x17_4 + 1)) a0_0 l0_1) else (if (wrap64 ((wrap64 (a1 * t165)) - t166)) = x14_4 then (gridhalllaw3_OfferSupplies.l0 k4 a1 t158 t159 t160 t161 t162 x14_4 x15_4 t165 (wrap64 (x17_4 + 1)) a0_0 l0_1) else (gridhalllaw3_OfferSupplies.l0 k4 a1 t158 t159 t160 t161 t162 x14_4 x15_4 x16_4 (wrap64 (x17_4 + 1)) a0_0 l0_1))) = some r := H
                        have A30 := Aside0.mk A300
                        clear A300
                        by_cases c31 : (wrap64 ((wrap64 (a1 * t165)) - t166)) > x14_4
                        · rw [if_pos c31] at H
                          have c31b0 : decide (x14_4 < (wrap64 ((wrap64 (a1 * t165)) - t166))) = true := decide_eq_true c31
                          clear c31
                          have H' := Aside0.mk H
                          clear H
                          have hcz32_0 : wr.cell? ⟨gb150, 0, none⟩ = some (.string a0_0) := (blk_cell BK150.out 0).trans rfl
                          have hcz32_1 : wr.cell? ⟨gb150, 1, none⟩ = some (.slice A0_1 l0_1.length c0_1) := (blk_cell BK150.out 1).trans rfl
                          have hfz32_0 := blk_frozen BK150.out 0
                          have hfz32_1 := blk_frozen BK150.out 1
                          go_wp2_with (first | ((with_reducible refine gate_callee (f := 24) rfl ?_); refine goesL_ (some 89) rfl rfl Try.func24 (by kernel_rfl) rfl #[.agg #[.string a0_0, .slice A0_1 l0_1.length c0_1], .int .i64 x17_4] rfl (by (try simp only [List.map_toArray, List.map_cons, List.map_nil]); first | done | rfl | (simp only [List.length_drop, List.length_take]; rfl)) ?_; (with_reducible refine (gridhallref3_Before.calls k4 a0_0 _ _ l0_1 x17_4 t165 _ ?side1 ?side2 A29.out).mono ?_); (case side1 => repeat (first | exact (Kd.C_below HR0_1.out HB.out) | (with_reducible refine Kd.C_alloc ?_ _) | (with_reducible refine Kd.C_drewN ?_ _) | (with_reducible refine Kd.C_drew ?_))); (case side2 => exact HC0_1.out); rintro e w33 ⟨rfl, hb⟩; refine ⟨_, rfl, ?_⟩; have n0_ := Aside0.mk (blk_below (g := gb150) (o := .cells #[.string a0_0, .slice A0_1 l0_1.length c0_1] 27 (0, 0)) (by (with_reducible repeat (first | refine blk_drewN ?_ _ | refine blk_drew ?_ | refine blk_alloc ?_ _)); exact BK150.out) hb); have n1_ := Aside0.mk (below_step (by repeat (first | (with_reducible first | exact HB.out | apply below_alloc | apply pw_below_drewN | apply below_drew1 | refine below_set ?_ GE150.out) | exact HB.out)) hb); clear BK150; clear HB; have BK150 := n0_; have HB := n1_; clear n0_ n1_; (try clear hb); (try clear hb2); (try clear hk); (try clear hi); have hcz34_0 : w33.cell? ⟨gb150, 0, none⟩ = some (.string a0_0) := (blk_cell BK150.out 0).trans rfl; have hcz34_1 : w33.cell? ⟨gb150, 1, none⟩ = some (.slice A0_1 l0_1.length c0_1) := (blk_cell BK150.out 1).trans rfl; have hfz34_0 := blk_frozen BK150.out 0; have hfz34_1 := blk_frozen BK150.out 1) | ((with_reducible refine gate_callee (f := 21) rfl ?_); refine goesL_ (some 95) rfl rfl Try.func21 (by kernel_rfl) rfl #[.agg #[.string a0_0, .slice A0_1 l0_1.length c0_1], .int .i64 t165] rfl (by (try simp only [List.map_toArray, List.map_cons, List.map_nil]); first | done | rfl | (simp only [List.length_drop, List.length_take]; rfl)) ?_; (with_reducible refine (gridhallref3_Cost.calls k4 a0_0 _ _ l0_1 t165 t166 _ ?side1 ?side2 A30.out).mono ?_); (case side1 => repeat (first | exact (Kd.C_below HR0_1.out HB.out) | (with_reducible refine Kd.C_alloc ?_ _) | (with_reducible refine Kd.C_drewN ?_ _) | (with_reducible refine Kd.C_drew ?_))); (case side2 => exact HC0_1.out); rintro e w35 ⟨rfl, hb⟩; refine ⟨_, rfl, ?_⟩; have n0_ := Aside0.mk (blk_below (g := gb150) (o := .cells #[.string a0_0, .slice A0_1 l0_1.length c0_1] 27 (0, 0)) (by (with_reducible repeat (first | refine blk_drewN ?_ _ | refine blk_drew ?_ | refine blk_alloc ?_ _)); exact BK150.out) hb); have n1_ := Aside0.mk (below_step (by repeat (first | (with_reducible first | exact HB.out | apply below_alloc | apply pw_below_drewN | apply below_drew1 | refine below_set ?_ GE150.out) | exact HB.out)) hb); clear BK150; clear HB; have BK150 := n0_; have HB := n1_; clear n0_ n1_; (try clear hb); (try clear hb2); (try clear hk); (try clear hi)))
                          go_roundg k4
                          case measure => have := HJ4.out; have := HJ15.out; have := HJ24.out; have := HK4.out; omega
                          case rel => exact ⟨(wrap64 ((wrap64 (a1 * t165)) - t166)), (t165), (t165), (wrap64 (x17_4 + 1)), (by first | rfl | (simp; done) | (simp [*]; done)), (by first | rfl | (simp; done) | (simp [*]; done)), (by first | rfl | (simp; done) | (simp [*]; done)), (by first | rfl | (simp; done) | (simp [*]; done)), H', ⟨by have := HJ4.out; have := HJ15.out; have := HJ24.out; have := HK4.out; omega⟩, ⟨by (with_reducible repeat (first | refine blk_drewN ?_ _ | refine blk_drew ?_ | refine blk_alloc ?_ _)); exact BK150.out⟩, ⟨by repeat (first | (with_reducible first | exact HB.out | apply below_alloc | apply pw_below_drewN | apply below_drew1 | refine below_set ?_ GE150.out) | exact HB.out)⟩⟩
                        · rw [if_neg c31] at H
                          have c31b0 : decide (x14_4 < (wrap64 ((wrap64 (a1 * t165)) - t166))) = false := decide_eq_false c31
                          clear c31
                          by_cases c36 : (wrap64 ((wrap64 (a1 * t165)) - t166)) = x14_4
                          · rw [if_pos c36] at H
                            have c36b0 : ((wrap64 ((wrap64 (a1 * t165)) - t166)) == x14_4) = true := beq_iff_eq.mpr c36
                            have c36b1 : ((wrap64 ((wrap64 (a1 * t165)) - t166)) != x14_4) = false := bne_eq_false_iff_eq.mpr c36
                            clear c36
                            have H' := Aside0.mk H
                            clear H
                            have hcz37_0 : wr.cell? ⟨gb150, 0, none⟩ = some (.string a0_0) := (blk_cell BK150.out 0).trans rfl
                            have hcz37_1 : wr.cell? ⟨gb150, 1, none⟩ = some (.slice A0_1 l0_1.length c0_1) := (blk_cell BK150.out 1).trans rfl
                            have hfz37_0 := blk_frozen BK150.out 0
                            have hfz37_1 := blk_frozen BK150.out 1
                            go_wp2_with (first | ((with_reducible refine gate_callee (f := 24) rfl ?_); refine goesL_ (some 89) rfl rfl Try.func24 (by kernel_rfl) rfl #[.agg #[.string a0_0, .slice A0_1 l0_1.length c0_1], .int .i64 x17_4] rfl (by (try simp only [List.map_toArray, List.map_cons, List.map_nil]); first | done | rfl | (simp only [List.length_drop, List.length_take]; rfl)) ?_; (with_reducible refine (gridhallref3_Before.calls k4 a0_0 _ _ l0_1 x17_4 t165 _ ?side1 ?side2 A29.out).mono ?_); (case side1 => repeat (first | exact (Kd.C_below HR0_1.out HB.out) | (with_reducible refine Kd.C_alloc ?_ _) | (with_reducible refine Kd.C_drewN ?_ _) | (with_reducible refine Kd.C_drew ?_))); (case side2 => exact HC0_1.out); rintro e w38 ⟨rfl, hb⟩; refine ⟨_, rfl, ?_⟩; have n0_ := Aside0.mk (blk_below (g := gb150) (o := .cells #[.string a0_0, .slice A0_1 l0_1.length c0_1] 27 (0, 0)) (by (with_reducible repeat (first | refine blk_drewN ?_ _ | refine blk_drew ?_ | refine blk_alloc ?_ _)); exact BK150.out) hb); have n1_ := Aside0.mk (below_step (by repeat (first | (with_reducible first | exact HB.out | apply below_alloc | apply pw_below_drewN | apply below_drew1 | refine below_set ?_ GE150.out) | exact HB.out)) hb); clear BK150; clear HB; have BK150 := n0_; have HB := n1_; clear n0_ n1_; (try clear hb); (try clear hb2); (try clear hk); (try clear hi); have hcz39_0 : w38.cell? ⟨gb150, 0, none⟩ = some (.string a0_0) := (blk_cell BK150.out 0).trans rfl; have hcz39_1 : w38.cell? ⟨gb150, 1, none⟩ = some (.slice A0_1 l0_1.length c0_1) := (blk_cell BK150.out 1).trans rfl; have hfz39_0 := blk_frozen BK150.out 0; have hfz39_1 := blk_frozen BK150.out 1) | ((with_reducible refine gate_callee (f := 21) rfl ?_); refine goesL_ (some 95) rfl rfl Try.func21 (by kernel_rfl) rfl #[.agg #[.string a0_0, .slice A0_1 l0_1.length c0_1], .int .i64 t165] rfl (by (try simp only [List.map_toArray, List.map_cons, List.map_nil]); first | done | rfl | (simp only [List.length_drop, List.length_take]; rfl)) ?_; (with_reducible refine (gridhallref3_Cost.calls k4 a0_0 _ _ l0_1 t165 t166 _ ?side1 ?side2 A30.out).mono ?_); (case side1 => repeat (first | exact (Kd.C_below HR0_1.out HB.out) | (with_reducible refine Kd.C_alloc ?_ _) | (with_reducible refine Kd.C_drewN ?_ _) | (with_reducible refine Kd.C_drew ?_))); (case side2 => exact HC0_1.out); rintro e w40 ⟨rfl, hb⟩; refine ⟨_, rfl, ?_⟩; have n0_ := Aside0.mk (blk_below (g := gb150) (o := .cells #[.string a0_0, .slice A0_1 l0_1.length c0_1] 27 (0, 0)) (by (with_reducible repeat (first | refine blk_drewN ?_ _ | refine blk_drew ?_ | refine blk_alloc ?_ _)); exact BK150.out) hb); have n1_ := Aside0.mk (below_step (by repeat (first | (with_reducible first | exact HB.out | apply below_alloc | apply pw_below_drewN | apply below_drew1 | refine below_set ?_ GE150.out) | exact HB.out)) hb); clear BK150; clear HB; have BK150 := n0_; have HB := n1_; clear n0_ n1_; (try clear hb); (try clear hb2); (try clear hk); (try clear hi)))
                            go_roundg k4
                            case measure => have := HJ4.out; have := HJ15.out; have := HJ24.out; have := HK4.out; omega
                            case rel => exact ⟨(x14_4), (x15_4), (t165), (wrap64 (x17_4 + 1)), (by first | rfl | (simp; done) | (simp [*]; done)), (by first | rfl | (simp; done) | (simp [*]; done)), (by first | rfl | (simp; done) | (simp [*]; done)), (by first | rfl | (simp; done) | (simp [*]; done)), H', ⟨by have := HJ4.out; have := HJ15.out; have := HJ24.out; have := HK4.out; omega⟩, ⟨by (with_reducible repeat (first | refine blk_drewN ?_ _ | refine blk_drew ?_ | refine blk_alloc ?_ _)); exact BK150.out⟩, ⟨by repeat (first | (with_reducible first | exact HB.out | apply below_alloc | apply pw_below_drewN | apply below_drew1 | refine below_set ?_ GE150.out) | exact HB.out)⟩⟩
                          · rw [if_neg c36] at H
                            have c36b0 : ((wrap64 ((wrap64 (a1 * t165)) - t166)) == x14_4) = false := beq_eq_false_iff_ne.mpr c36
                            have c36b1 : ((wrap64 ((wrap64 (a1 * t165)) - t166)) != x14_4) = true := bne_iff_ne.mpr c36
                            have H' := Aside0.mk H
                            clear H
                            have hcz41_0 : wr.cell? ⟨gb150, 0, none⟩ = some (.string a0_0) := (blk_cell BK150.out 0).trans rfl
                            have hcz41_1 : wr.cell? ⟨gb150, 1, none⟩ = some (.slice A0_1 l0_1.length c0_1) := (blk_cell BK150.out 1).trans rfl
                            have hfz41_0 := blk_frozen BK150.out 0
                            have hfz41_1 := blk_frozen BK150.out 1
                            go_wp2_with (first | ((with_reducible refine gate_callee (f := 24) rfl ?_); refine goesL_ (some 89) rfl rfl Try.func24 (by kernel_rfl) rfl #[.agg #[.string a0_0, .slice A0_1 l0_1.length c0_1], .int .i64 x17_4] rfl (by (try simp only [List.map_toArray, List.map_cons, List.map_nil]); first | done | rfl | (simp only [List.length_drop, List.length_take]; rfl)) ?_; (with_reducible refine (gridhallref3_Before.calls k4 a0_0 _ _ l0_1 x17_4 t165 _ ?side1 ?side2 A29.out).mono ?_); (case side1 => repeat (first | exact (Kd.C_below HR0_1.out HB.out) | (with_reducible refine Kd.C_alloc ?_ _) | (with_reducible refine Kd.C_drewN ?_ _) | (with_reducible refine Kd.C_drew ?_))); (case side2 => exact HC0_1.out); rintro e w42 ⟨rfl, hb⟩; refine ⟨_, rfl, ?_⟩; have n0_ := Aside0.mk (blk_below (g := gb150) (o := .cells #[.string a0_0, .slice A0_1 l0_1.length c0_1] 27 (0, 0)) (by (with_reducible repeat (first | refine blk_drewN ?_ _ | refine blk_drew ?_ | refine blk_alloc ?_ _)); exact BK150.out) hb); have n1_ := Aside0.mk (below_step (by repeat (first | (with_reducible first | exact HB.out | apply below_alloc | apply pw_below_drewN | apply below_drew1 | refine below_set ?_ GE150.out) | exact HB.out)) hb); clear BK150; clear HB; have BK150 := n0_; have HB := n1_; clear n0_ n1_; (try clear hb); (try clear hb2); (try clear hk); (try clear hi); have hcz43_0 : w42.cell? ⟨gb150, 0, none⟩ = some (.string a0_0) := (blk_cell BK150.out 0).trans rfl; have hcz43_1 : w42.cell? ⟨gb150, 1, none⟩ = some (.slice A0_1 l0_1.length c0_1) := (blk_cell BK150.out 1).trans rfl; have hfz43_0 := blk_frozen BK150.out 0; have hfz43_1 := blk_frozen BK150.out 1) | ((with_reducible refine gate_callee (f := 21) rfl ?_); refine goesL_ (some 95) rfl rfl Try.func21 (by kernel_rfl) rfl #[.agg #[.string a0_0, .slice A0_1 l0_1.length c0_1], .int .i64 t165] rfl (by (try simp only [List.map_toArray, List.map_cons, List.map_nil]); first | done | rfl | (simp only [List.length_drop, List.length_take]; rfl)) ?_; (with_reducible refine (gridhallref3_Cost.calls k4 a0_0 _ _ l0_1 t165 t166 _ ?side1 ?side2 A30.out).mono ?_); (case side1 => repeat (first | exact (Kd.C_below HR0_1.out HB.out) | (with_reducible refine Kd.C_alloc ?_ _) | (with_reducible refine Kd.C_drewN ?_ _) | (with_reducible refine Kd.C_drew ?_))); (case side2 => exact HC0_1.out); rintro e w44 ⟨rfl, hb⟩; refine ⟨_, rfl, ?_⟩; have n0_ := Aside0.mk (blk_below (g := gb150) (o := .cells #[.string a0_0, .slice A0_1 l0_1.length c0_1] 27 (0, 0)) (by (with_reducible repeat (first | refine blk_drewN ?_ _ | refine blk_drew ?_ | refine blk_alloc ?_ _)); exact BK150.out) hb); have n1_ := Aside0.mk (below_step (by repeat (first | (with_reducible first | exact HB.out | apply below_alloc | apply pw_below_drewN | apply below_drew1 | refine below_set ?_ GE150.out) | exact HB.out)) hb); clear BK150; clear HB; have BK150 := n0_; have HB := n1_; clear n0_ n1_; (try clear hb); (try clear hb2); (try clear hk); (try clear hi)))
                            go_roundg k4
                            case measure => have := HJ4.out; have := HJ15.out; have := HJ24.out; have := HK4.out; omega
                            case rel => exact ⟨(x14_4), (x15_4), (x16_4), (wrap64 (x17_4 + 1)), (by first | rfl | (simp; done) | (simp [*]; done)), (by first | rfl | (simp; done) | (simp [*]; done)), (by first | rfl | (simp; done) | (simp [*]; done)), (by first | rfl | (simp; done) | (simp [*]; done)), H', ⟨by have := HJ4.out; have := HJ15.out; have := HJ24.out; have := HK4.out; omega⟩, ⟨by (with_reducible repeat (first | refine blk_drewN ?_ _ | refine blk_drew ?_ | refine blk_alloc ?_ _)); exact BK150.out⟩, ⟨by repeat (first | (with_reducible first | exact HB.out | apply below_alloc | apply pw_below_drewN | apply below_drew1 | refine below_set ?_ GE150.out) | exact HB.out)⟩⟩
                      · rw [if_neg c28] at H
                        have c28b0 : decide (x17_4 ≤ (l0_1.length : Int)) = false := decide_eq_false c28
                        clear c28
                        by_cases c45 : t160 = 0
                        · rw [if_pos c45] at H
                          have c45b0 : (t160 == 0) = true := beq_iff_eq.mpr c45
                          have c45b1 : (t160 != 0) = false := bne_eq_false_iff_eq.mpr c45
                          clear c45
                          by_cases c46 : t162 = 0
                          · rw [if_pos c46] at H
                            have c46b0 : (t162 == 0) = true := beq_iff_eq.mpr c46
                            have c46b1 : (t162 != 0) = false := bne_eq_false_iff_eq.mpr c46
                            clear c46
                            by_cases c47 : t158 = x15_4
                            · rw [if_pos c47] at H
                              have c47b0 : (t158 == x15_4) = true := beq_iff_eq.mpr c47
                              have c47b1 : (t158 != x15_4) = false := bne_eq_false_iff_eq.mpr c47
                              clear c47
                              by_cases c48 : t159 = x16_4
                              · rw [if_pos c48] at H
                                have c48b0 : (t159 == x16_4) = true := beq_iff_eq.mpr c48
                                have c48b1 : (t159 != x16_4) = false := bne_eq_false_iff_eq.mpr c48
                                clear c48
                                obtain rfl := Option.some.inj H
                                have hcz49_0 : wr.cell? ⟨gb150, 0, none⟩ = some (.string a0_0) := (blk_cell BK150.out 0).trans rfl
                                have hcz49_1 : wr.cell? ⟨gb150, 1, none⟩ = some (.slice A0_1 l0_1.length c0_1) := (blk_cell BK150.out 1).trans rfl
                                have hfz49_0 := blk_frozen BK150.out 0
                                have hfz49_1 := blk_frozen BK150.out 1
                                go_wp2
                                go_ret
                                exact ⟨by first | rfl | (simp [errW_none, errW_some] <;> rfl) | (simp [*, errW_none, errW_some] <;> rfl), by repeat (first | (with_reducible first | exact HB.out | apply below_alloc | apply pw_below_drewN | apply below_drew1 | refine below_set ?_ GE150.out) | exact HB.out)⟩
                              · rw [if_neg c48] at H
                                have c48b0 : (t159 == x16_4) = false := beq_eq_false_iff_ne.mpr c48
                                have c48b1 : (t159 != x16_4) = true := bne_iff_ne.mpr c48
                                obtain rfl := Option.some.inj H
                                have hcz50_0 : wr.cell? ⟨gb150, 0, none⟩ = some (.string a0_0) := (blk_cell BK150.out 0).trans rfl
                                have hcz50_1 : wr.cell? ⟨gb150, 1, none⟩ = some (.slice A0_1 l0_1.length c0_1) := (blk_cell BK150.out 1).trans rfl
                                have hfz50_0 := blk_frozen BK150.out 0
                                have hfz50_1 := blk_frozen BK150.out 1
                                go_wp2
                                go_ret
                                exact ⟨by first | rfl | (simp [errW_none, errW_some] <;> rfl) | (simp [*, errW_none, errW_some] <;> rfl), by repeat (first | (with_reducible first | exact HB.out | apply below_alloc | apply pw_below_drewN | apply below_drew1 | refine below_set ?_ GE150.out) | exact HB.out)⟩
                            · rw [if_neg c47] at H
                              have c47b0 : (t158 == x15_4) = false := beq_eq_false_iff_ne.mpr c47
                              have c47b1 : (t158 != x15_4) = true := bne_iff_ne.mpr c47
                              obtain rfl := Option.some.inj H
                              have hcz51_0 : wr.cell? ⟨gb150, 0, none⟩ = some (.string a0_0) := (blk_cell BK150.out 0).trans rfl
                              have hcz51_1 : wr.cell? ⟨gb150, 1, none⟩ = some (.slice A0_1 l0_1.length c0_1) := (blk_cell BK150.out 1).trans rfl
                              have hfz51_0 := blk_frozen BK150.out 0
                              have hfz51_1 := blk_frozen BK150.out 1
                              go_wp2
                              go_ret
                              exact ⟨by first | rfl | (simp [errW_none, errW_some] <;> rfl) | (simp [*, errW_none, errW_some] <;> rfl), by repeat (first | (with_reducible first | exact HB.out | apply below_alloc | apply pw_below_drewN | apply below_drew1 | refine below_set ?_ GE150.out) | exact HB.out)⟩
                          · rw [if_neg c46] at H
                            have c46b0 : (t162 == 0) = false := beq_eq_false_iff_ne.mpr c46
                            have c46b1 : (t162 != 0) = true := bne_iff_ne.mpr c46
                            obtain rfl := Option.some.inj H
                            have hcz52_0 : wr.cell? ⟨gb150, 0, none⟩ = some (.string a0_0) := (blk_cell BK150.out 0).trans rfl
                            have hcz52_1 : wr.cell? ⟨gb150, 1, none⟩ = some (.slice A0_1 l0_1.length c0_1) := (blk_cell BK150.out 1).trans rfl
                            have hfz52_0 := blk_frozen BK150.out 0
                            have hfz52_1 := blk_frozen BK150.out 1
                            go_wp2
                            go_ret
                            exact ⟨by first | rfl | (simp [errW_none, errW_some] <;> rfl) | (simp [*, errW_none, errW_some] <;> rfl), by repeat (first | (with_reducible first | exact HB.out | apply below_alloc | apply pw_below_drewN | apply below_drew1 | refine below_set ?_ GE150.out) | exact HB.out)⟩
                        · rw [if_neg c45] at H
                          have c45b0 : (t160 == 0) = false := beq_eq_false_iff_ne.mpr c45
                          have c45b1 : (t160 != 0) = true := bne_iff_ne.mpr c45
                          obtain rfl := Option.some.inj H
                          have hcz53_0 : wr.cell? ⟨gb150, 0, none⟩ = some (.string a0_0) := (blk_cell BK150.out 0).trans rfl
                          have hcz53_1 : wr.cell? ⟨gb150, 1, none⟩ = some (.slice A0_1 l0_1.length c0_1) := (blk_cell BK150.out 1).trans rfl
                          have hfz53_0 := blk_frozen BK150.out 0
                          have hfz53_1 := blk_frozen BK150.out 1
                          go_wp2
                          go_ret
                          exact ⟨by first | rfl | (simp [errW_none, errW_some] <;> rfl) | (simp [*, errW_none, errW_some] <;> rfl), by repeat (first | (with_reducible first | exact HB.out | apply below_alloc | apply pw_below_drewN | apply below_drew1 | refine below_set ?_ GE150.out) | exact HB.out)⟩
                · rw [if_neg c27] at H
                  have c27b0 : (x13_24 == 0) = false := beq_eq_false_iff_ne.mpr c27
                  have c27b1 : (x13_24 != 0) = true := bne_iff_ne.mpr c27
                  by_cases c54 : t160 = x13_24
                  · rw [if_pos c54] at H
                    have c54b0 : (t160 == x13_24) = true := beq_iff_eq.mpr c54
                    have c54b1 : (t160 != x13_24) = false := bne_eq_false_iff_eq.mpr c54
                    clear c54
                    by_cases c55 : t162 = x13_24
                    · rw [if_pos c55] at H
                      have c55b0 : (t162 == x13_24) = true := beq_iff_eq.mpr c55
                      have c55b1 : (t162 != x13_24) = false := bne_eq_false_iff_eq.mpr c55
                      clear c55
                      by_cases c56 : t158 = 0
                      · rw [if_pos c56] at H
                        have c56b0 : (t158 == 0) = true := beq_iff_eq.mpr c56
                        have c56b1 : (t158 != 0) = false := bne_eq_false_iff_eq.mpr c56
                        clear c56
                        by_cases c57 : t159 = 0
                        · rw [if_pos c57] at H
                          have c57b0 : (t159 == 0) = true := beq_iff_eq.mpr c57
                          have c57b1 : (t159 != 0) = false := bne_eq_false_iff_eq.mpr c57
                          clear c57
                          obtain rfl := Option.some.inj H
                          go_wp2
                          go_ret
                          exact ⟨by first | rfl | (simp [errW_none, errW_some] <;> rfl) | (simp [*, errW_none, errW_some] <;> rfl), by repeat (first | (with_reducible first | exact HB.out | apply below_alloc | apply pw_below_drewN | apply below_drew1 | refine below_set ?_ GE150.out) | exact HB.out)⟩
                        · rw [if_neg c57] at H
                          have c57b0 : (t159 == 0) = false := beq_eq_false_iff_ne.mpr c57
                          have c57b1 : (t159 != 0) = true := bne_iff_ne.mpr c57
                          obtain rfl := Option.some.inj H
                          go_wp2
                          go_ret
                          exact ⟨by first | rfl | (simp [errW_none, errW_some] <;> rfl) | (simp [*, errW_none, errW_some] <;> rfl), by repeat (first | (with_reducible first | exact HB.out | apply below_alloc | apply pw_below_drewN | apply below_drew1 | refine below_set ?_ GE150.out) | exact HB.out)⟩
                      · rw [if_neg c56] at H
                        have c56b0 : (t158 == 0) = false := beq_eq_false_iff_ne.mpr c56
                        have c56b1 : (t158 != 0) = true := bne_iff_ne.mpr c56
                        obtain rfl := Option.some.inj H
                        go_wp2
                        go_ret
                        exact ⟨by first | rfl | (simp [errW_none, errW_some] <;> rfl) | (simp [*, errW_none, errW_some] <;> rfl), by repeat (first | (with_reducible first | exact HB.out | apply below_alloc | apply pw_below_drewN | apply below_drew1 | refine below_set ?_ GE150.out) | exact HB.out)⟩
                    · rw [if_neg c55] at H
                      have c55b0 : (t162 == x13_24) = false := beq_eq_false_iff_ne.mpr c55
                      have c55b1 : (t162 != x13_24) = true := bne_iff_ne.mpr c55
                      obtain rfl := Option.some.inj H
                      go_wp2
                      go_ret
                      exact ⟨by first | rfl | (simp [errW_none, errW_some] <;> rfl) | (simp [*, errW_none, errW_some] <;> rfl), by repeat (first | (with_reducible first | exact HB.out | apply below_alloc | apply pw_below_drewN | apply below_drew1 | refine below_set ?_ GE150.out) | exact HB.out)⟩
                  · rw [if_neg c54] at H
                    have c54b0 : (t160 == x13_24) = false := beq_eq_false_iff_ne.mpr c54
                    have c54b1 : (t160 != x13_24) = true := bne_iff_ne.mpr c54
                    obtain rfl := Option.some.inj H
                    go_wp2
                    go_ret
                    exact ⟨by first | rfl | (simp [errW_none, errW_some] <;> rfl) | (simp [*, errW_none, errW_some] <;> rfl), by repeat (first | (with_reducible first | exact HB.out | apply below_alloc | apply pw_below_drewN | apply below_drew1 | refine below_set ?_ GE150.out) | exact HB.out)⟩

end Go.Proofs.Ytdhboohbifmbnaa.POfferSupplies
