/- Contracts of functions that UpkeepSays reaches, a text of this session's own. -/
import Derived.Test.YtielinaielicbaaHUpkeepSaysy0
import Derived.Test.YtielinaielicbaaHUpkeepSaysy4
import Derived.Test.YtielinaielicbaaHUpkeepSaysy7
namespace Go.Proofs.Ytielinaielicbaa.PUpkeepSays
open Go.RowKit Go.Proofs.YtielinaielicbaaW.PrintWords Go.Proofs.YtielinaielicbaaW.PrintLast Go.Proofs.YtielinaielicbaaW.PrintMore
attribute [local go_sem] max2_int min2_int max_two min_two max_three min_three max_four min_four   -- for this text's walks alone
set_option linter.unusedVariables false
set_option linter.unusedSimpArgs false

/-! ### gridhallref4_PlanError: function 12 -/
mutual
def gridhallref4_PlanError.l0 : Nat → List Int → Int → Int → List (S28) → List (S29) → Int → List Int → Option (Int)
 | 0, _, _, _, _, _, _, _ => none
 | k + 1, x21, x22, x23, x174000, x174001, x174002, x175000 => if x23 < x22 then (if 0 ≤ x23 then (if x23 < (x21.length : Int) then (if x23 < (x174000.length : Int) then ((gridhallref4_In.f (rd x21 x23) ((rd_T28 x174000 x23).f2) ((rd_T28 x174000 x23).f3)).bind fun t178 => (if t178 = true then (gridhallref4_PlanError.l0 k x21 x22 (wrap64 (x23 + 1)) x174000 x174001 x174002 x175000) else (some 12))) else (none)) else (none)) else (none)) else (gridhallref4_PlanError.l1 k (x175000.length : Int) 0 x174000 x174001 x174002 x175000)
def gridhallref4_PlanError.l1 : Nat → Int → Int → List (S28) → List (S29) → Int → List Int → Option (Int)
 | 0, _, _, _, _, _, _ => none
 | k + 1, x46, x47, x174000, x174001, x174002, x175000 => if x47 < x46 then (gridhallref4_PlanError.l2 k x47 x46 x47 0 x174000 x174001 x174002 x175000) else (some 0)
def gridhallref4_PlanError.l2 : Nat → Int → Int → Int → Int → List (S28) → List (S29) → Int → List Int → Option (Int)
 | 0, _, _, _, _, _, _, _, _ => none
 | k + 1, x8, x46, x47, x50, x174000, x174001, x174002, x175000 => if x50 < 121 then (gridhallref4_PlanError.l3 k x8 x50 x46 x47 x50 x174001 (x174001.length : Int) 0 x174000 x174001 x174002 x175000) else (gridhallref4_PlanError.l4 k x8 x46 x47 0 x174000 x174001 x174002 x175000)
def gridhallref4_PlanError.l3 : Nat → Int → Int → Int → Int → Int → List (S29) → Int → Int → List (S28) → List (S29) → Int → List Int → Option (Int)
 | 0, _, _, _, _, _, _, _, _, _, _, _, _ => none
 | k + 1, x8, x9, x46, x47, x50, x54, x55, x56, x174000, x174001, x174002, x175000 => if x56 < x55 then (if 0 ≤ x56 then (if x56 < (x54.length : Int) then (if ((rd_T29 x54 x56).f0) = x8 then (if ((rd_T29 x54 x56).f1) < x8 then ((gridhallref4_PlanError_1.f ((rd_T29 x54 x56).f0) x9 [x175000] [(⟨x174000, x174001, x174002⟩ : S25)]).bind fun t181 => (if t181 = true then ((gridhallref4_PlanError_1.f ((rd_T29 x54 x56).f1) x9 [x175000] [(⟨x174000, x174001, x174002⟩ : S25)]).bind fun t182 => (if t182 = true then (some 11) else (gridhallref4_PlanError.l3 k x8 x9 x46 x47 x50 x54 x55 (wrap64 (x56 + 1)) x174000 x174001 x174002 x175000))) else (gridhallref4_PlanError.l3 k x8 x9 x46 x47 x50 x54 x55 (wrap64 (x56 + 1)) x174000 x174001 x174002 x175000))) else (if ((rd_T29 x54 x56).f1) = x8 then (if ((rd_T29 x54 x56).f0) < x8 then ((gridhallref4_PlanError_1.f ((rd_T29 x54 x56).f0) x9 [x175000] [(⟨x174000, x174001, x174002⟩ : S25)]).bind fun t183 => (if t183 = true then ((gridhallref4_PlanError_1.f ((rd_T29 x54 x56).f1) x9 [x175000] [(⟨x174000, x174001, x174002⟩ : S25)]).bind fun t184 => (if t184 = true then (some 11) else (gridhallref4_PlanError.l3 k x8 x9 x46 x47 x50 x54 x55 (wrap64 (x56 + 1)) x174000 x174001 x174002 x175000))) else (gridhallref4_PlanError.l3 k x8 x9 x46 x47 x50 x54 x55 (wrap64 (x56 + 1)) x174000 x174001 x174002 x175000))) else (gridhallref4_PlanError.l3 k x8 x9 x46 x47 x50 x54 x55 (wrap64 (x56 + 1)) x174000 x174001 x174002 x175000)) else (gridhallref4_PlanError.l3 k x8 x9 x46 x47 x50 x54 x55 (wrap64 (x56 + 1)) x174000 x174001 x174002 x175000))) else (if ((rd_T29 x54 x56).f1) = x8 then (if ((rd_T29 x54 x56).f0) < x8 then ((gridhallref4_PlanError_1.f ((rd_T29 x54 x56).f0) x9 [x175000] [(⟨x174000, x174001, x174002⟩ : S25)]).bind fun t185 => (if t185 = true then ((gridhallref4_PlanError_1.f ((rd_T29 x54 x56).f1) x9 [x175000] [(⟨x174000, x174001, x174002⟩ : S25)]).bind fun t186 => (if t186 = true then (some 11) else (gridhallref4_PlanError.l3 k x8 x9 x46 x47 x50 x54 x55 (wrap64 (x56 + 1)) x174000 x174001 x174002 x175000))) else (gridhallref4_PlanError.l3 k x8 x9 x46 x47 x50 x54 x55 (wrap64 (x56 + 1)) x174000 x174001 x174002 x175000))) else (gridhallref4_PlanError.l3 k x8 x9 x46 x47 x50 x54 x55 (wrap64 (x56 + 1)) x174000 x174001 x174002 x175000)) else (gridhallref4_PlanError.l3 k x8 x9 x46 x47 x50 x54 x55 (wrap64 (x56 + 1)) x174000 x174001 x174002 x175000))) else (none)) else (none)) else (gridhallref4_PlanError.l2 k x8 x46 x47 (wrap64 (x50 + 1)) x174000 x174001 x174002 x175000)
def gridhallref4_PlanError.l4 : Nat → Int → Int → Int → Int → List (S28) → List (S29) → Int → List Int → Option (Int)
 | 0, _, _, _, _, _, _, _, _ => none
 | k + 1, x8, x46, x47, x98, x174000, x174001, x174002, x175000 => if x98 < 121 then (gridhallref4_PlanError.l5 k x8 x98 0 x46 x47 x98 (wrap64 (x8 + 1)) 0 x174000 x174001 x174002 x175000) else (gridhallref4_PlanError.l1 k x46 (wrap64 (x47 + 1)) x174000 x174001 x174002 x175000)
def gridhallref4_PlanError.l5 : Nat → Int → Int → Int → Int → Int → Int → Int → Int → List (S28) → List (S29) → Int → List Int → Option (Int)
 | 0, _, _, _, _, _, _, _, _, _, _, _, _ => none
 | k + 1, x8, x12, x13, x46, x47, x98, x102, x103, x174000, x174001, x174002, x175000 => if x103 < x102 then ((gridhallref4_PlanError_1.f x103 x12 [x175000] [(⟨x174000, x174001, x174002⟩ : S25)]).bind fun t187 => (if t187 = true then (gridhallref4_PlanError.l5 k x8 x12 (wrap64 (x13 + 1)) x46 x47 x98 x102 (wrap64 (x103 + 1)) x174000 x174001 x174002 x175000) else (gridhallref4_PlanError.l5 k x8 x12 x13 x46 x47 x98 x102 (wrap64 (x103 + 1)) x174000 x174001 x174002 x175000))) else ((gridhallref4_PlanError_1.f x8 x12 [x175000] [(⟨x174000, x174001, x174002⟩ : S25)]).bind fun t188 => (if t188 = true then (if x13 > x174002 then (some 9) else (gridhallref4_PlanError.l4 k x8 x46 x47 (wrap64 (x98 + 1)) x174000 x174001 x174002 x175000)) else (gridhallref4_PlanError.l4 k x8 x46 x47 (wrap64 (x98 + 1)) x174000 x174001 x174002 x175000)))
end
def gridhallref4_PlanError.f (k : Nat) (l0_0 : List (S28)) (l0_1 : List (S29)) (a0_2 : Int) (l1 : List Int) : Option (Int) := if (l1.length : Int) = (l0_0.length : Int) then (gridhallref4_PlanError.l0 k l1 (l1.length : Int) 0 l0_0 l0_1 a0_2 l1) else (some 3)
theorem gridhallref4_PlanError.mono_l : ∀ k, (∀ y0 y1 y2 y3 y4 y5 y6, LeO (gridhallref4_PlanError.l0 k y0 y1 y2 y3 y4 y5 y6) (gridhallref4_PlanError.l0 (k + 1) y0 y1 y2 y3 y4 y5 y6)) ∧ (∀ y0 y1 y2 y3 y4 y5, LeO (gridhallref4_PlanError.l1 k y0 y1 y2 y3 y4 y5) (gridhallref4_PlanError.l1 (k + 1) y0 y1 y2 y3 y4 y5)) ∧ (∀ y0 y1 y2 y3 y4 y5 y6 y7, LeO (gridhallref4_PlanError.l2 k y0 y1 y2 y3 y4 y5 y6 y7) (gridhallref4_PlanError.l2 (k + 1) y0 y1 y2 y3 y4 y5 y6 y7)) ∧ (∀ y0 y1 y2 y3 y4 y5 y6 y7 y8 y9 y10 y11, LeO (gridhallref4_PlanError.l3 k y0 y1 y2 y3 y4 y5 y6 y7 y8 y9 y10 y11) (gridhallref4_PlanError.l3 (k + 1) y0 y1 y2 y3 y4 y5 y6 y7 y8 y9 y10 y11)) ∧ (∀ y0 y1 y2 y3 y4 y5 y6 y7, LeO (gridhallref4_PlanError.l4 k y0 y1 y2 y3 y4 y5 y6 y7) (gridhallref4_PlanError.l4 (k + 1) y0 y1 y2 y3 y4 y5 y6 y7)) ∧ (∀ y0 y1 y2 y3 y4 y5 y6 y7 y8 y9 y10 y11, LeO (gridhallref4_PlanError.l5 k y0 y1 y2 y3 y4 y5 y6 y7 y8 y9 y10 y11) (gridhallref4_PlanError.l5 (k + 1) y0 y1 y2 y3 y4 y5 y6 y7 y8 y9 y10 y11))
 | 0 => ⟨fun _ _ _ _ _ _ _ r h => by simp [gridhallref4_PlanError.l0] at h, fun _ _ _ _ _ _ r h => by simp [gridhallref4_PlanError.l1] at h, fun _ _ _ _ _ _ _ _ r h => by simp [gridhallref4_PlanError.l2] at h, fun _ _ _ _ _ _ _ _ _ _ _ _ r h => by simp [gridhallref4_PlanError.l3] at h, fun _ _ _ _ _ _ _ _ r h => by simp [gridhallref4_PlanError.l4] at h, fun _ _ _ _ _ _ _ _ _ _ _ _ r h => by simp [gridhallref4_PlanError.l5] at h⟩
 | k + 1 => by
  obtain ⟨ih0, ih1, ih2, ih3, ih4, ih5⟩:=gridhallref4_PlanError.mono_l k
  refine ⟨?_, ?_, ?_, ?_, ?_, ?_⟩
  ·intro y0 y1 y2 y3 y4 y5 y6
   unfold gridhallref4_PlanError.l0
   repeat' first|(with_reducible first|exact ih0 _ _ _ _ _ _ _|exact ih1 _ _ _ _ _ _|exact ih2 _ _ _ _ _ _ _ _|exact ih3 _ _ _ _ _ _ _ _ _ _ _ _|exact ih4 _ _ _ _ _ _ _ _|exact ih5 _ _ _ _ _ _ _ _ _ _ _ _|exact LeO.refl _|exact LeO.none _|refine LeO.ite ?_ ?_|refine LeO.bind ?_ (fun _=>?_))|exact ih0 _ _ _ _ _ _ _|exact ih1 _ _ _ _ _ _|exact ih2 _ _ _ _ _ _ _ _|exact ih3 _ _ _ _ _ _ _ _ _ _ _ _|exact ih4 _ _ _ _ _ _ _ _|exact ih5 _ _ _ _ _ _ _ _ _ _ _ _|exact LeO.none _|refine LeO.ite ?_ ?_|refine LeO.bind ?_ (fun _=>?_)
  ·intro y0 y1 y2 y3 y4 y5
   unfold gridhallref4_PlanError.l1
   repeat' first|(with_reducible first|exact ih0 _ _ _ _ _ _ _|exact ih1 _ _ _ _ _ _|exact ih2 _ _ _ _ _ _ _ _|exact ih3 _ _ _ _ _ _ _ _ _ _ _ _|exact ih4 _ _ _ _ _ _ _ _|exact ih5 _ _ _ _ _ _ _ _ _ _ _ _|exact LeO.refl _|exact LeO.none _|refine LeO.ite ?_ ?_|refine LeO.bind ?_ (fun _=>?_))|exact ih0 _ _ _ _ _ _ _|exact ih1 _ _ _ _ _ _|exact ih2 _ _ _ _ _ _ _ _|exact ih3 _ _ _ _ _ _ _ _ _ _ _ _|exact ih4 _ _ _ _ _ _ _ _|exact ih5 _ _ _ _ _ _ _ _ _ _ _ _|exact LeO.none _|refine LeO.ite ?_ ?_|refine LeO.bind ?_ (fun _=>?_)
  ·intro y0 y1 y2 y3 y4 y5 y6 y7
   unfold gridhallref4_PlanError.l2
   repeat' first|(with_reducible first|exact ih0 _ _ _ _ _ _ _|exact ih1 _ _ _ _ _ _|exact ih2 _ _ _ _ _ _ _ _|exact ih3 _ _ _ _ _ _ _ _ _ _ _ _|exact ih4 _ _ _ _ _ _ _ _|exact ih5 _ _ _ _ _ _ _ _ _ _ _ _|exact LeO.refl _|exact LeO.none _|refine LeO.ite ?_ ?_|refine LeO.bind ?_ (fun _=>?_))|exact ih0 _ _ _ _ _ _ _|exact ih1 _ _ _ _ _ _|exact ih2 _ _ _ _ _ _ _ _|exact ih3 _ _ _ _ _ _ _ _ _ _ _ _|exact ih4 _ _ _ _ _ _ _ _|exact ih5 _ _ _ _ _ _ _ _ _ _ _ _|exact LeO.none _|refine LeO.ite ?_ ?_|refine LeO.bind ?_ (fun _=>?_)
  ·intro y0 y1 y2 y3 y4 y5 y6 y7 y8 y9 y10 y11
   unfold gridhallref4_PlanError.l3
   repeat' first|(with_reducible first|exact ih0 _ _ _ _ _ _ _|exact ih1 _ _ _ _ _ _|exact ih2 _ _ _ _ _ _ _ _|exact ih3 _ _ _ _ _ _ _ _ _ _ _ _|exact ih4 _ _ _ _ _ _ _ _|exact ih5 _ _ _ _ _ _ _ _ _ _ _ _|exact LeO.refl _|exact LeO.none _|refine LeO.ite ?_ ?_|refine LeO.bind ?_ (fun _=>?_))|exact ih0 _ _ _ _ _ _ _|exact ih1 _ _ _ _ _ _|exact ih2 _ _ _ _ _ _ _ _|exact ih3 _ _ _ _ _ _ _ _ _ _ _ _|exact ih4 _ _ _ _ _ _ _ _|exact ih5 _ _ _ _ _ _ _ _ _ _ _ _|exact LeO.none _|refine LeO.ite ?_ ?_|refine LeO.bind ?_ (fun _=>?_)
  ·intro y0 y1 y2 y3 y4 y5 y6 y7
   unfold gridhallref4_PlanError.l4
   repeat' first|(with_reducible first|exact ih0 _ _ _ _ _ _ _|exact ih1 _ _ _ _ _ _|exact ih2 _ _ _ _ _ _ _ _|exact ih3 _ _ _ _ _ _ _ _ _ _ _ _|exact ih4 _ _ _ _ _ _ _ _|exact ih5 _ _ _ _ _ _ _ _ _ _ _ _|exact LeO.refl _|exact LeO.none _|refine LeO.ite ?_ ?_|refine LeO.bind ?_ (fun _=>?_))|exact ih0 _ _ _ _ _ _ _|exact ih1 _ _ _ _ _ _|exact ih2 _ _ _ _ _ _ _ _|exact ih3 _ _ _ _ _ _ _ _ _ _ _ _|exact ih4 _ _ _ _ _ _ _ _|exact ih5 _ _ _ _ _ _ _ _ _ _ _ _|exact LeO.none _|refine LeO.ite ?_ ?_|refine LeO.bind ?_ (fun _=>?_)
  ·intro y0 y1 y2 y3 y4 y5 y6 y7 y8 y9 y10 y11
   unfold gridhallref4_PlanError.l5
   repeat' first|(with_reducible first|exact ih0 _ _ _ _ _ _ _|exact ih1 _ _ _ _ _ _|exact ih2 _ _ _ _ _ _ _ _|exact ih3 _ _ _ _ _ _ _ _ _ _ _ _|exact ih4 _ _ _ _ _ _ _ _|exact ih5 _ _ _ _ _ _ _ _ _ _ _ _|exact LeO.refl _|exact LeO.none _|refine LeO.ite ?_ ?_|refine LeO.bind ?_ (fun _=>?_))|exact ih0 _ _ _ _ _ _ _|exact ih1 _ _ _ _ _ _|exact ih2 _ _ _ _ _ _ _ _|exact ih3 _ _ _ _ _ _ _ _ _ _ _ _|exact ih4 _ _ _ _ _ _ _ _|exact ih5 _ _ _ _ _ _ _ _ _ _ _ _|exact LeO.none _|refine LeO.ite ?_ ?_|refine LeO.bind ?_ (fun _=>?_)
theorem gridhallref4_PlanError.mono : ∀ a0 a1 a2 a3 k, LeO (gridhallref4_PlanError.f k a0 a1 a2 a3) (gridhallref4_PlanError.f (k + 1) a0 a1 a2 a3) := by
 intro a0 a1 a2 a3 k
 obtain ⟨ih0, ih1, ih2, ih3, ih4, ih5⟩:=gridhallref4_PlanError.mono_l k
 unfold gridhallref4_PlanError.f
 repeat' first|(with_reducible first|exact ih0 _ _ _ _ _ _ _|exact ih1 _ _ _ _ _ _|exact ih2 _ _ _ _ _ _ _ _|exact ih3 _ _ _ _ _ _ _ _ _ _ _ _|exact ih4 _ _ _ _ _ _ _ _|exact ih5 _ _ _ _ _ _ _ _ _ _ _ _|exact LeO.refl _|exact LeO.none _|refine LeO.ite ?_ ?_|refine LeO.bind ?_ (fun _=>?_))|exact ih0 _ _ _ _ _ _ _|exact ih1 _ _ _ _ _ _|exact ih2 _ _ _ _ _ _ _ _|exact ih3 _ _ _ _ _ _ _ _ _ _ _ _|exact ih4 _ _ _ _ _ _ _ _|exact ih5 _ _ _ _ _ _ _ _ _ _ _ _|exact LeO.none _|refine LeO.ite ?_ ?_|refine LeO.bind ?_ (fun _=>?_)

theorem as_ {p:Prop}(h:p:=by first|(with_reducible assumption)|assumption):p:=h
theorem rs_ {p:Prop}(h:p:=by first|rfl|(simp;done)|(simp [*];done)):p:=h
theorem er_ {p:Prop}(h:p:=by first|rfl|(simp [errW_none, errW_some] <;> rfl)|(simp [*, errW_none, errW_some] <;> rfl)):p:=h
theorem mt_ {p:Prop}(h:p:=by (try simp only [List.map_toArray, List.map_cons, List.map_nil]);first|done|rfl|(simp only [List.length_drop, List.length_take];rfl)):p:=h
theorem bq_ {p q:Prop}(h:p)(k:p→q:=by intro h;(with_reducible repeat (first|refine blk_drewN ?_ _|refine blk_drew ?_|refine blk_alloc ?_ _));exact h):q:=k h
theorem rq_ {p q:Prop}(h:p)(k:p→q:=by intro h;(with_reducible repeat (first|apply Kd.R_alloc|apply Kd.R_drewN|apply Kd.R_drew));exact h):q:=k h
theorem vq_ {p q:Prop}(h:p)(k:p→q:=by intro h;(with_reducible repeat (first|apply Kd.V_alloc|apply Kd.V_drewN|apply Kd.V_drew));exact h):q:=k h
theorem nq_ {p q:Prop}(h:p)(k:p→q:=by intro h;(with_reducible repeat (first|apply Kd.N_alloc|apply Kd.N_drewN|apply Kd.N_drew));exact h):q:=k h
theorem hb0_ {p q:Prop}(h:p)(k:p→q:=by intro h;repeat (first|(with_reducible first|exact h|apply below_alloc|apply pw_below_drewN|apply below_drew1)|exact h)):q:=k h
theorem hb1_ {p q r:Prop}(h:p)(a:r)(k:p→r→q:=by intro h a;repeat (first|(with_reducible first|exact h|apply below_alloc|apply pw_below_drewN|apply below_drew1|refine below_set ?_ a)|exact h)):q:=k h a
theorem hb2_ {p q r s:Prop}(h:p)(a:r)(b:s)(k:p→r→s→q:=by intro h a b;repeat (first|(with_reducible first|exact h|apply below_alloc|apply pw_below_drewN|apply below_drew1|refine below_set ?_ a|refine below_set ?_ b)|exact h)):q:=k h a b
theorem hb3_ {p q r s t:Prop}(h:p)(a:r)(b:s)(c:t)(k:p→r→s→t→q:=by intro h a b c;repeat (first|(with_reducible first|exact h|apply below_alloc|apply pw_below_drewN|apply below_drew1|refine below_set ?_ a|refine below_set ?_ b|refine below_set ?_ c)|exact h)):q:=k h a b c
theorem hb4_ {p q r s t u:Prop}(h:p)(a:r)(b:s)(c:t)(d:u)(k:p→r→s→t→u→q:=by intro h a b c d;repeat (first|(with_reducible first|exact h|apply below_alloc|apply pw_below_drewN|apply below_drew1|refine below_set ?_ a|refine below_set ?_ b|refine below_set ?_ c|refine below_set ?_ d)|exact h)):q:=k h a b c d

end Go.Proofs.Ytielinaielicbaa.PUpkeepSays
