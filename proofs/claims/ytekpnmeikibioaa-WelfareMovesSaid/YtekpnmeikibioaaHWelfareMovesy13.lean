/- Contracts of functions that WelfareMoves reaches, a text of this session's own. -/
import Derived.Test.YtekpnmeikibioaaHWelfareMovesy12
import Derived.Test.YtekpnmeikibioaaHWelfareMovesy0
import Derived.Test.YtekpnmeikibioaaHWelfareMovesy1
import Derived.Test.YtekpnmeikibioaaHWelfareMovesy2
import Derived.Test.YtekpnmeikibioaaHWelfareMovesy3
import Derived.Test.YtekpnmeikibioaaHWelfareMovesy4
import Derived.Test.YtekpnmeikibioaaHWelfareMovesy9
import Derived.Test.YtekpnmeikibioaaHWelfareMovesy11
namespace Go.Proofs.Ytekpnmeikibioaa.PWelfareMoves
open Go.RowKit Go.Proofs.YtekpnmeikibioaaW.PrintWords Go.Proofs.YtekpnmeikibioaaW.PrintLast Go.Proofs.YtekpnmeikibioaaW.PrintMore
attribute [local go_sem] max2_int min2_int max_two min_two max_three min_three max_four min_four   -- for this text's walks alone
set_option linter.unusedVariables false
set_option linter.unusedSimpArgs false

set_option maxHeartbeats 8000000 in
set_option maxRecDepth 100000 in
theorem gridhalllaw3_WelfareMoves.calls (k : Nat) (A0 : Option Addr) (c0 : Nat) (l0 : List (S29)) (A1 : Option Addr) (c1 : Nat) (l1 : List Int) (r : Bool) (w : World) (hr0 : Kd.C k29 w A0 l0.length l0) (hc0 : l0.length ≤ c0) (hr1 : Kd.C (Kd.int .i64) w A1 l1.length l1) (hc1 : l1.length ≤ c1) (h : gridhalllaw3_WelfareMoves.f k l0 l1 = some r) :
  Calls Try.prog 6 #[.slice A0 l0.length c0, .slice A1 l1.length c1] w fun e w' => e = .returned (.bool r) ∧ Below w.heap.size w w' := by
 have hu29 := Try.underlying29
 have HR0 := Aside0.mk hr0
 have HC0 := Aside0.mk hc0
 clear hr0 hc0
 have HR1 := Aside0.mk hr1
 have HC1 := Aside0.mk hc1
 clear hr1 hc1
 have HB := Aside0.mk (Below.refl w.heap.size w)
 have H : ((gridhalllaw3_two.f (⟨#[65]⟩ : ByteArray)).bind fun bt254 => ((gridhalllaw3_two.f (⟨#[66]⟩ : ByteArray)).bind fun bt258 => ((welfare_Move.f k (([(⟨bt254.1, bt254.2⟩ : S29), (⟨bt258.1, bt258.2⟩ : S29)] : List (S29))) (([12, 2] : List Int))).bind fun bt268 => (if bt268.2.2.2 = 0 then (if bt268.1 = 0 then (if bt268.2.1 = 1 then (gridhalllaw3_WelfareMoves.j0 k l0 l1 (bt268.2.2.1 != 3)) else (gridhalllaw3_WelfareMoves.j0 k l0 l1 true)) else (gridhalllaw3_WelfareMoves.j0 k l0 l1 true)) else (gridhalllaw3_WelfareMoves.j0 k l0 l1 true))))) = some r := h
 clear h
 replace H := Option.bind_eq_some_iff.mp H
 obtain ⟨⟨t254, t255⟩, A30, H⟩ := H
 replace H : ((gridhalllaw3_two.f (⟨#[66]⟩ : ByteArray)).bind fun bt258 => ((welfare_Move.f k (([(⟨t254, t255⟩ : S29), (⟨bt258.1, bt258.2⟩ : S29)] : List (S29))) (([12, 2] : List Int))).bind fun bt268 => (if bt268.2.2.2 = 0 then (if bt268.1 = 0 then (if bt268.2.1 = 1 then (gridhalllaw3_WelfareMoves.j0 k l0 l1 (bt268.2.2.1 != 3)) else (gridhalllaw3_WelfareMoves.j0 k l0 l1 true)) else (gridhalllaw3_WelfareMoves.j0 k l0 l1 true)) else (gridhalllaw3_WelfareMoves.j0 k l0 l1 true)))) = some r := H
 have A3 := Aside0.mk A30
 clear A30
 replace H := Option.bind_eq_some_iff.mp H
 obtain ⟨⟨t258, t259⟩, A40, H⟩ := H
 replace H : ((welfare_Move.f k (([(⟨t254, t255⟩ : S29), (⟨t258, t259⟩ : S29)] : List (S29))) (([12, 2] : List Int))).bind fun bt268 => (if bt268.2.2.2 = 0 then (if bt268.1 = 0 then (if bt268.2.1 = 1 then (gridhalllaw3_WelfareMoves.j0 k l0 l1 (bt268.2.2.1 != 3)) else (gridhalllaw3_WelfareMoves.j0 k l0 l1 true)) else (gridhalllaw3_WelfareMoves.j0 k l0 l1 true)) else (gridhalllaw3_WelfareMoves.j0 k l0 l1 true))) = some r := H
 have A4 := Aside0.mk A40
 clear A40
 obtain ⟨y262, hy262⟩ : ∃ y_ : List (S29), y_ = (([(⟨t254, t255⟩ : S29), (⟨t258, t259⟩ : S29)] : List (S29))) := ⟨_, rfl⟩
 replace H : ((welfare_Move.f k y262 (([12, 2] : List Int))).bind fun bt268 => (if bt268.2.2.2 = 0 then (if bt268.1 = 0 then (if bt268.2.1 = 1 then (gridhalllaw3_WelfareMoves.j0 k l0 l1 (bt268.2.2.1 != 3)) else (gridhalllaw3_WelfareMoves.j0 k l0 l1 true)) else (gridhalllaw3_WelfareMoves.j0 k l0 l1 true)) else (gridhalllaw3_WelfareMoves.j0 k l0 l1 true))) = some r := by first | (rw [hy262]; with_reducible exact H) | (have H2_ := (Option.bind_some _ _).symm.trans H; rw [hy262]; with_reducible exact H2_) | (have H2_ := (Option.bind_some _ _).symm.trans H; with_reducible exact H2_) | with_reducible exact H | (rw [hy262]; exact H) | exact H
 have Ny262 := Aside0.mk hy262
 clear hy262
 obtain ⟨y265, hy265⟩ : ∃ y_ : List Int, y_ = (([12, 2] : List Int)) := ⟨_, rfl⟩
 replace H : ((welfare_Move.f k y262 y265).bind fun bt268 => (if bt268.2.2.2 = 0 then (if bt268.1 = 0 then (if bt268.2.1 = 1 then (gridhalllaw3_WelfareMoves.j0 k l0 l1 (bt268.2.2.1 != 3)) else (gridhalllaw3_WelfareMoves.j0 k l0 l1 true)) else (gridhalllaw3_WelfareMoves.j0 k l0 l1 true)) else (gridhalllaw3_WelfareMoves.j0 k l0 l1 true))) = some r := by first | (rw [hy265]; with_reducible exact H) | (have H2_ := (Option.bind_some _ _).symm.trans H; rw [hy265]; with_reducible exact H2_) | (have H2_ := (Option.bind_some _ _).symm.trans H; with_reducible exact H2_) | with_reducible exact H | (rw [hy265]; exact H) | exact H
 have Ny265 := Aside0.mk hy265
 clear hy265
 replace H := Option.bind_eq_some_iff.mp H
 obtain ⟨⟨t268, t269, t270, t271⟩, A50, H⟩ := H
 replace H : (if t271 = 0 then (if t268 = 0 then (if t269 = 1 then (gridhalllaw3_WelfareMoves.j0 k l0 l1 (t270 != 3)) else (gridhalllaw3_WelfareMoves.j0 k l0 l1 true)) else (gridhalllaw3_WelfareMoves.j0 k l0 l1 true)) else (gridhalllaw3_WelfareMoves.j0 k l0 l1 true)) = some r := H
 have A5 := Aside0.mk A50
 clear A50
 have HC6 := Aside0.mk H
 clear H
 go_enter Try.func6, Try.ntmps6
 go_upto_region 2 with (first | ((with_reducible refine gate_callee (f := 10) rfl ?_); refine goesL_ (some 30) rfl rfl Try.func10 (by kernel_rfl) rfl #[.string (⟨#[65]⟩ : ByteArray)] rfl (by (try simp only [List.map_toArray, List.map_cons, List.map_nil]); first | done | rfl | (simp only [List.length_drop, List.length_take]; rfl)) ?_; (with_reducible refine (gridhalllaw3_two.calls (⟨#[65]⟩ : ByteArray) t254 t255 _ A3.out).mono ?_); rintro e w7 ⟨v256, rfl, ho0, hb⟩; refine ⟨_, rfl, ?_⟩; have n0_ := Aside0.mk (Kd.R_lower ho0 (below_size (by repeat (first | (with_reducible first | exact HB.out | apply below_alloc | apply pw_below_drewN | apply below_drew1) | exact HB.out)))); have n1_ := Aside0.mk (below_step (by repeat (first | (with_reducible first | exact HB.out | apply below_alloc | apply pw_below_drewN | apply below_drew1) | exact HB.out)) hb); clear HB; have HO257 := n0_; have HB := n1_; clear n0_ n1_; (try clear hb); (try clear hb2); (try clear hk); (try clear hi); (try clear ho0)) | ((with_reducible refine gate_callee (f := 10) rfl ?_); refine goesL_ (some 31) rfl rfl Try.func10 (by kernel_rfl) rfl #[.string (⟨#[66]⟩ : ByteArray)] rfl (by (try simp only [List.map_toArray, List.map_cons, List.map_nil]); first | done | rfl | (simp only [List.length_drop, List.length_take]; rfl)) ?_; (with_reducible refine (gridhalllaw3_two.calls (⟨#[66]⟩ : ByteArray) t258 t259 _ A4.out).mono ?_); rintro e w8 ⟨v260, rfl, ho0, hb⟩; refine ⟨_, rfl, ?_⟩; have n0_ := Aside0.mk (Kd.R_elder' (by (with_reducible repeat (first | apply Kd.R_alloc | apply Kd.R_drewN | apply Kd.R_drew)); exact HO257.out) (Kd.R_base ho0) hb); have n1_ := Aside0.mk (Kd.R_lower (Kd.R_new' ho0 (Kd.R_lt (by (with_reducible repeat (first | apply Kd.R_alloc | apply Kd.R_drewN | apply Kd.R_drew)); exact HO257.out))) (below_size (by repeat (first | (with_reducible first | exact HB.out | apply below_alloc | apply pw_below_drewN | apply below_drew1) | exact HB.out)))); have n2_ := Aside0.mk (below_step (by repeat (first | (with_reducible first | exact HB.out | apply below_alloc | apply pw_below_drewN | apply below_drew1) | exact HB.out)) hb); clear HO257; clear HB; have HO257 := n0_; have HO261 := n1_; have HB := n2_; clear n0_ n1_ n2_; (try clear hb); (try clear hb2); (try clear hk); (try clear hi); (try clear ho0); obtain ⟨Ao9, co9, eo9⟩ := Kd.R_slice HO257.out; subst eo9; obtain ⟨Ao10, co10, eo10⟩ := Kd.R_slice HO261.out; subst eo10) | ((with_reducible refine gate_dst (N := 32) rfl ?_); (try (refine gate_guard (by rfl) ?_; dsimp only)); refine Kd.N_lit k29 _ 29 ?hg (N' := 32) ?hd (xs := ([(⟨t254, t255⟩ : S29), (⟨t258, t259⟩ : S29)] : List (S29))) (inner := [.string t254, .slice Ao9 t255.length co9, .string t258, .slice Ao10 t259.length co10]) (ok := (fun _ => True)) (okp := (fun _ => True)) ?hr ?hp (fun _ hk => hk) ((show ∀ k_, w8.heap.size ≤ k_ → (fun _ => True) k_ from fun k_ hk => trivial) _ (Nat.le_refl _)) (Below.refl _ _) (Nat.le_refl _) (by simp) ?_; (case hd => rfl); (case hg => rfl); (case hr => first | (go_simp; done) | (go_simp; rfl)); (case hp => exact (Reps.c2 (show Kd.FK k29 _ _ (⟨t254, t255⟩ : S29) [.string t254, .slice Ao9 t255.length co9] from (k29_mkF _ _ (⟨t254, t255⟩ : S29) (Kd.R_reads' (Kd.R_mono (ok' := (fun _ => True)) (HO257.out) (fun k_ hk => trivial))).2.1 (Kd.R_F (Kd.R_mono (ok' := (fun _ => True)) (HO257.out) (fun k_ hk => trivial))))) (Reps.c2 (show Kd.FK k29 _ _ (⟨t258, t259⟩ : S29) [.string t258, .slice Ao10 t259.length co10] from (k29_mkF _ _ (⟨t258, t259⟩ : S29) (Kd.R_reads' (Kd.R_mono (ok' := (fun _ => True)) (HO261.out) (fun k_ hk => trivial))).2.1 (Kd.R_F (Kd.R_mono (ok' := (fun _ => True)) (HO261.out) (fun k_ hk => trivial))))) (Reps.none _ _)))); intro v263 w11 ho12 hb hg_ hnew_; clear hg_ hnew_; (first | rw [← Ny262.out] at ho12 | (simp only [Int.reduceToNat] at ho12; rw [← Ny262.out] at ho12)); have n0_ := Aside0.mk (Kd.N_lower ho12 (below_size (by repeat (first | (with_reducible first | exact HB.out | apply below_alloc | apply pw_below_drewN | apply below_drew1) | exact HB.out)))); have n1_ := Aside0.mk (below_step (by repeat (first | (with_reducible first | exact HB.out | apply below_alloc | apply pw_below_drewN | apply below_drew1) | exact HB.out)) hb); clear HB; clear HO257; clear HO261; have HO264 := n0_; have HB := n1_; clear n0_ n1_; clear hb ho12) | ((with_reducible refine gate_dst (N := 33) rfl ?_); (try (refine gate_guard (by rfl) ?_; dsimp only)); refine Kd.R_lit (Kd.int .i64) _ 3 ?hg (N := 33) ?hd (xs := ([12, 2] : List Int)) (inner := [.int .i64 12, .int .i64 2]) (ok := fun _ => True) (okp := fun _ => True) ?hr ?hp (fun _ hk => hk) trivial (Below.refl _ _) (Nat.le_refl _) (by simp) ?_; (case hd => rfl); (case hg => rfl); (case hr => first | (go_simp; done) | (go_simp; rfl)); (case hp => exact (Reps.one (show Kd.M (Kd.int .i64) _ _ _ 12 [.int .i64 12] from rfl) (Reps.one (show Kd.M (Kd.int .i64) _ _ _ 2 [.int .i64 2] from rfl) (Reps.none _ _)))); intro v266 w13 ho14 hb hg_ hnew_; clear hg_ hnew_; (first | rw [← Ny265.out] at ho14 | (simp only [Int.reduceToNat] at ho14; rw [← Ny265.out] at ho14)); have n0_ := Aside0.mk (Kd.N_elder' (by (with_reducible repeat (first | apply Kd.N_alloc | apply Kd.N_drewN | apply Kd.N_drew)); exact HO264.out) (Kd.R_base ho14) hb); have n1_ := Aside0.mk (Kd.R_lower ho14 (below_size (by repeat (first | (with_reducible first | exact HB.out | apply below_alloc | apply pw_below_drewN | apply below_drew1) | exact HB.out)))); have n2_ := Aside0.mk (below_step (by repeat (first | (with_reducible first | exact HB.out | apply below_alloc | apply pw_below_drewN | apply below_drew1) | exact HB.out)) hb); clear HO264; clear HB; have HO264 := n0_; have HO267 := n1_; have HB := n2_; clear n0_ n1_ n2_; clear hb ho14; obtain ⟨Ao15, co15, eo15⟩ := Kd.N_slice HO264.out; subst eo15; obtain ⟨Ao16, co16, eo16⟩ := Kd.R_slice HO267.out; subst eo16) | ((with_reducible refine gate_callee (f := 27) rfl ?_); refine goesL_ (some 34) rfl rfl Try.func27 (by kernel_rfl) rfl #[.slice Ao15 y262.length co15, .slice Ao16 y265.length co16] rfl (by (try simp only [List.map_toArray, List.map_cons, List.map_nil]); first | done | rfl | (simp only [List.length_drop, List.length_take]; rfl)) ?_; (with_reducible refine (welfare_Move.calls k _ _ y262 _ _ y265 t268 t269 t270 t271 _ ?side1 ?side2 ?side3 ?side4 A5.out).mono ?_); (case side1 => repeat (first | exact (Kd.N_reads' HO264.out).2.2 | (with_reducible refine Kd.C_alloc ?_ _) | (with_reducible refine Kd.C_drewN ?_ _) | (with_reducible refine Kd.C_drew ?_))); (case side2 => exact (Kd.N_reads' HO264.out).2.1); (case side3 => repeat (first | exact (Kd.R_reads' HO267.out).2.2 | (with_reducible refine Kd.C_alloc ?_ _) | (with_reducible refine Kd.C_drewN ?_ _) | (with_reducible refine Kd.C_drew ?_))); (case side4 => exact (Kd.R_reads' HO267.out).2.1); rintro e w17 ⟨rfl, hb⟩; refine ⟨_, rfl, ?_⟩; have n0_ := Aside0.mk (Kd.N_below (by (with_reducible repeat (first | apply Kd.N_alloc | apply Kd.N_drewN | apply Kd.N_drew)); exact HO264.out) hb); have n1_ := Aside0.mk (Kd.R_below (by (with_reducible repeat (first | apply Kd.R_alloc | apply Kd.R_drewN | apply Kd.R_drew)); exact HO267.out) hb); have n2_ := Aside0.mk (below_step (by repeat (first | (with_reducible first | exact HB.out | apply below_alloc | apply pw_below_drewN | apply below_drew1) | exact HB.out)) hb); clear HO264; clear HO267; clear HB; have HO264 := n0_; have HO267 := n1_; have HB := n2_; clear n0_ n1_ n2_; (try clear hb); (try clear hb2); (try clear hk); (try clear hi)))
 (try simp only [Act.put, List.setIfInBounds_toArray, List.set_cons_zero, List.set_cons_succ])
 go_cut [52] (fun v52 wc => ∃ (kq : Nat) (x52_5 : Bool), v52 = .bool x52_5 ∧ Aside0 (gridhalllaw3_WelfareMoves.j0 kq l0 l1 x52_5 = some r) ∧ Aside0 (kq ≤ k) ∧ Aside0 (Below w.heap.size w wc))
 case first =>
  have H := HC6.out
  clear HC6
  by_cases c18 : t271 = 0
  ·rw [if_pos c18] at H
   have c18b0 : (t271 == 0) = true := beq_iff_eq.mpr c18
   have c18b1 : (t271 != 0) = false := bne_eq_false_iff_eq.mpr c18
   clear c18
   (first | rw [c18b0] | (simp only [i64_w, i32_w]; rw [c18b0]) | skip)
   by_cases c19 : t268 = 0
   ·rw [if_pos c19] at H
    have c19b0 : (t268 == 0) = true := beq_iff_eq.mpr c19
    have c19b1 : (t268 != 0) = false := bne_eq_false_iff_eq.mpr c19
    clear c19
    by_cases c20 : t269 = 1
    ·rw [if_pos c20] at H
     have c20b0 : (t269 == 1) = true := beq_iff_eq.mpr c20
     have c20b1 : (t269 != 1) = false := bne_eq_false_iff_eq.mpr c20
     clear c20
     as_aux_lemma =>
      have H' := Aside0.mk H
      clear H
      go_wp2
      go_meet
      case rel => exact ⟨_, ((t270 != 3)), (by first | rfl | (simp; done) | (simp [*]; done)), H', ⟨by first | omega | exact Nat.le_refl _⟩, ⟨by repeat (first | (with_reducible first | exact HB.out | apply below_alloc | apply pw_below_drewN | apply below_drew1) | exact HB.out)⟩⟩
    ·rw [if_neg c20] at H
     have c20b0 : (t269 == 1) = false := beq_eq_false_iff_ne.mpr c20
     have c20b1 : (t269 != 1) = true := bne_iff_ne.mpr c20
     as_aux_lemma =>
      have H' := Aside0.mk H
      clear H
      go_wp2
      go_meet
      case rel => exact ⟨_, (true), (by first | rfl | (simp; done) | (simp [*]; done)), H', ⟨by first | omega | exact Nat.le_refl _⟩, ⟨by repeat (first | (with_reducible first | exact HB.out | apply below_alloc | apply pw_below_drewN | apply below_drew1) | exact HB.out)⟩⟩
   ·rw [if_neg c19] at H
    have c19b0 : (t268 == 0) = false := beq_eq_false_iff_ne.mpr c19
    have c19b1 : (t268 != 0) = true := bne_iff_ne.mpr c19
    as_aux_lemma =>
     have H' := Aside0.mk H
     clear H
     go_wp2
     go_meet
     case rel => exact ⟨_, (true), (by first | rfl | (simp; done) | (simp [*]; done)), H', ⟨by first | omega | exact Nat.le_refl _⟩, ⟨by repeat (first | (with_reducible first | exact HB.out | apply below_alloc | apply pw_below_drewN | apply below_drew1) | exact HB.out)⟩⟩
  ·rw [if_neg c18] at H
   have c18b0 : (t271 == 0) = false := beq_eq_false_iff_ne.mpr c18
   have c18b1 : (t271 != 0) = true := bne_iff_ne.mpr c18
   (first | rw [c18b0] | (simp only [i64_w, i32_w]; rw [c18b0]) | skip)
   as_aux_lemma =>
    have H' := Aside0.mk H
    clear H
    go_wp2
    go_meet
    case rel => exact ⟨_, (true), (by first | rfl | (simp; done) | (simp [*]; done)), H', ⟨by first | omega | exact Nat.le_refl _⟩, ⟨by repeat (first | (with_reducible first | exact HB.out | apply below_alloc | apply pw_below_drewN | apply below_drew1) | exact HB.out)⟩⟩
 case rest =>
  clear HC6
  try clear c1
  try clear c2
  try clear p2
  try clear c6
  try clear c10
  try clear c18
  try clear c18b0
  try clear c18b1
  try clear c19
  try clear c19b0
  try clear c19b1
  try clear c20
  try clear c20b0
  try clear c20b1
  obtain ⟨kq, x52_5, rfl, HA, HJ5, HB⟩ := hcut
  cases kq with
  | zero => exact absurd HA.out (by simp [gridhalllaw3_WelfareMoves.j0])
  | succ kj5 =>
   have H := HA.out
   clear HA
   simp only [gridhalllaw3_WelfareMoves.j0] at H
   by_cases c21 : x52_5 = true
   ·subst c21
    have H1 : (some false) = some r := by rw [if_pos rfl] at H; exact H
    clear H
    have H := H1
    clear H1
    as_aux_lemma =>
     obtain rfl := Option.some.inj H
     go_wp2
     go_ret
     exact ⟨by first | rfl | (simp [errW_none, errW_some] <;> rfl) | (simp [*, errW_none, errW_some] <;> rfl), by repeat (first | (with_reducible first | exact HB.out | apply below_alloc | apply pw_below_drewN | apply below_drew1) | exact HB.out)⟩
   ·replace c21 := Bool.eq_false_iff.mpr c21
    subst c21
    have H1 : ((welfare_Waste.f kj5 l0 l1).bind fun bt272 => ((welfare_Move.f kj5 l0 l1).bind fun bt274 => ((gridhallref3_OffersError.f kj5 l0).bind fun t278 => (if t278 = 0 then (gridhalllaw3_WelfareMoves.j1 kj5 l0 l1 bt272.1 bt272.2 bt274.1 bt274.2.1 bt274.2.2.1 bt274.2.2.2 t278 ((l0.length : Int) != (l1.length : Int))) else (gridhalllaw3_WelfareMoves.j1 kj5 l0 l1 bt272.1 bt272.2 bt274.1 bt274.2.1 bt274.2.2.1 bt274.2.2.2 t278 false))))) = some r := by rw [if_neg (show ¬ (false = true) by decide)] at H; exact H
    clear H
    have H := H1
    clear H1
    replace H := Option.bind_eq_some_iff.mp H
    obtain ⟨⟨t272, t273⟩, A220, H⟩ := H
    replace H : ((welfare_Move.f kj5 l0 l1).bind fun bt274 => ((gridhallref3_OffersError.f kj5 l0).bind fun t278 => (if t278 = 0 then (gridhalllaw3_WelfareMoves.j1 kj5 l0 l1 t272 t273 bt274.1 bt274.2.1 bt274.2.2.1 bt274.2.2.2 t278 ((l0.length : Int) != (l1.length : Int))) else (gridhalllaw3_WelfareMoves.j1 kj5 l0 l1 t272 t273 bt274.1 bt274.2.1 bt274.2.2.1 bt274.2.2.2 t278 false)))) = some r := H
    have A22 := Aside0.mk A220
    clear A220
    replace H := Option.bind_eq_some_iff.mp H
    obtain ⟨⟨t274, t275, t276, t277⟩, A230, H⟩ := H
    replace H : ((gridhallref3_OffersError.f kj5 l0).bind fun t278 => (if t278 = 0 then (gridhalllaw3_WelfareMoves.j1 kj5 l0 l1 t272 t273 t274 t275 t276 t277 t278 ((l0.length : Int) != (l1.length : Int))) else (gridhalllaw3_WelfareMoves.j1 kj5 l0 l1 t272 t273 t274 t275 t276 t277 t278 false))) = some r := H
    have A23 := Aside0.mk A230
    clear A230
    replace H := Option.bind_eq_some_iff.mp H
    obtain ⟨t278, A240, H⟩ := H
    replace H : (if t278 = 0 then (gridhalllaw3_WelfareMoves.j1 kj5 l0 l1 t272 t273 t274 t275 t276 t277 t278 ((l0.length : Int) != (l1.length : Int))) else (gridhalllaw3_WelfareMoves.j1 kj5 l0 l1 t272 t273 t274 t275 t276 t277 t278 false)) = some r := H
    have A24 := Aside0.mk A240
    clear A240
    have HC25 := Aside0.mk H
    clear H
    go_upto_region 7 with (first | ((with_reducible refine gate_callee (f := 28) rfl ?_); refine goesL_ (some 56) rfl rfl Try.func28 (by kernel_rfl) rfl #[.slice A0 l0.length c0, .slice A1 l1.length c1] rfl (by (try simp only [List.map_toArray, List.map_cons, List.map_nil]); first | done | rfl | (simp only [List.length_drop, List.length_take]; rfl)) ?_; (with_reducible refine (welfare_Waste.calls kj5 _ _ l0 _ _ l1 t272 t273 _ ?side1 ?side2 ?side3 ?side4 A22.out).mono ?_); (case side1 => repeat (first | exact (Kd.C_below HR0.out HB.out) | (with_reducible refine Kd.C_alloc ?_ _) | (with_reducible refine Kd.C_drewN ?_ _) | (with_reducible refine Kd.C_drew ?_))); (case side2 => exact HC0.out); (case side3 => repeat (first | exact (Kd.C_below HR1.out HB.out) | (with_reducible refine Kd.C_alloc ?_ _) | (with_reducible refine Kd.C_drewN ?_ _) | (with_reducible refine Kd.C_drew ?_))); (case side4 => exact HC1.out); rintro e w26 ⟨rfl, hb⟩; refine ⟨_, rfl, ?_⟩; have n0_ := Aside0.mk (below_step (by repeat (first | (with_reducible first | exact HB.out | apply below_alloc | apply pw_below_drewN | apply below_drew1) | exact HB.out)) hb); clear HB; have HB := n0_; clear n0_; (try clear hb); (try clear hb2); (try clear hk); (try clear hi)) | ((with_reducible refine gate_callee (f := 27) rfl ?_); refine goesL_ (some 62) rfl rfl Try.func27 (by kernel_rfl) rfl #[.slice A0 l0.length c0, .slice A1 l1.length c1] rfl (by (try simp only [List.map_toArray, List.map_cons, List.map_nil]); first | done | rfl | (simp only [List.length_drop, List.length_take]; rfl)) ?_; (with_reducible refine (welfare_Move.calls kj5 _ _ l0 _ _ l1 t274 t275 t276 t277 _ ?side1 ?side2 ?side3 ?side4 A23.out).mono ?_); (case side1 => repeat (first | exact (Kd.C_below HR0.out HB.out) | (with_reducible refine Kd.C_alloc ?_ _) | (with_reducible refine Kd.C_drewN ?_ _) | (with_reducible refine Kd.C_drew ?_))); (case side2 => exact HC0.out); (case side3 => repeat (first | exact (Kd.C_below HR1.out HB.out) | (with_reducible refine Kd.C_alloc ?_ _) | (with_reducible refine Kd.C_drewN ?_ _) | (with_reducible refine Kd.C_drew ?_))); (case side4 => exact HC1.out); rintro e w27 ⟨rfl, hb⟩; refine ⟨_, rfl, ?_⟩; have n0_ := Aside0.mk (below_step (by repeat (first | (with_reducible first | exact HB.out | apply below_alloc | apply pw_below_drewN | apply below_drew1) | exact HB.out)) hb); clear HB; have HB := n0_; clear n0_; (try clear hb); (try clear hb2); (try clear hk); (try clear hi)) | ((with_reducible refine gate_callee (f := 24) rfl ?_); refine goesL_ (some 68) rfl rfl Try.func24 (by kernel_rfl) rfl #[.slice A0 l0.length c0] rfl (by (try simp only [List.map_toArray, List.map_cons, List.map_nil]); first | done | rfl | (simp only [List.length_drop, List.length_take]; rfl)) ?_; (with_reducible refine (gridhallref3_OffersError.calls kj5 _ _ l0 t278 _ ?side1 ?side2 A24.out).mono ?_); (case side1 => repeat (first | exact (Kd.C_below HR0.out HB.out) | (with_reducible refine Kd.C_alloc ?_ _) | (with_reducible refine Kd.C_drewN ?_ _) | (with_reducible refine Kd.C_drew ?_))); (case side2 => exact HC0.out); rintro e w28 ⟨rfl, hb⟩; refine ⟨_, rfl, ?_⟩; have n0_ := Aside0.mk (below_step (by repeat (first | (with_reducible first | exact HB.out | apply below_alloc | apply pw_below_drewN | apply below_drew1) | exact HB.out)) hb); clear HB; have HB := n0_; clear n0_; (try clear hb); (try clear hb2); (try clear hk); (try clear hi)))
    (try simp only [Act.put, List.setIfInBounds_toArray, List.set_cons_zero, List.set_cons_succ])
    go_cut [77] (fun v77 wc => ∃ (kq : Nat) (x77_24 : Bool), v77 = .bool x77_24 ∧ Aside0 (gridhalllaw3_WelfareMoves.j1 kq l0 l1 t272 t273 t274 t275 t276 t277 t278 x77_24 = some r) ∧ Aside0 (kq ≤ kj5) ∧ Aside0 (Below w.heap.size w wc))
    case first =>
     have H := HC25.out
     clear HC25
     by_cases c29 : t278 = 0
     ·rw [if_pos c29] at H
      have c29b0 : (t278 == 0) = true := beq_iff_eq.mpr c29
      have c29b1 : (t278 != 0) = false := bne_eq_false_iff_eq.mpr c29
      clear c29
      (first | rw [c29b0] | (simp only [i64_w, i32_w]; rw [c29b0]) | skip)
      as_aux_lemma =>
       have H' := Aside0.mk H
       clear H
       go_wp2
       go_meet
       case rel => exact ⟨_, (((l0.length : Int) != (l1.length : Int))), (by first | rfl | (simp; done) | (simp [*]; done)), H', ⟨by have := HJ5.out; first | omega | exact Nat.le_refl _⟩, ⟨by repeat (first | (with_reducible first | exact HB.out | apply below_alloc | apply pw_below_drewN | apply below_drew1) | exact HB.out)⟩⟩
     ·rw [if_neg c29] at H
      have c29b0 : (t278 == 0) = false := beq_eq_false_iff_ne.mpr c29
      have c29b1 : (t278 != 0) = true := bne_iff_ne.mpr c29
      (first | rw [c29b0] | (simp only [i64_w, i32_w]; rw [c29b0]) | skip)
      as_aux_lemma =>
       have H' := Aside0.mk H
       clear H
       go_wp2
       go_meet
       case rel => exact ⟨_, (false), (by first | rfl | (simp; done) | (simp [*]; done)), H', ⟨by have := HJ5.out; first | omega | exact Nat.le_refl _⟩, ⟨by repeat (first | (with_reducible first | exact HB.out | apply below_alloc | apply pw_below_drewN | apply below_drew1) | exact HB.out)⟩⟩
    case rest =>
     clear HC25
     try clear c1
     try clear c2
     try clear p2
     try clear c6
     try clear c10
     try clear c18
     try clear c18b0
     try clear c18b1
     try clear c19
     try clear c19b0
     try clear c19b1
     try clear c20
     try clear c20b0
     try clear c20b1
     try clear c21
     try clear c24
     try clear c27
     try clear c28
     try clear c29
     try clear c29b0
     try clear c29b1
     try clear p2
     obtain ⟨kq, x77_24, rfl, HA, HJ24, HB⟩ := hcut
     cases kq with
     | zero => exact absurd HA.out (by simp [gridhalllaw3_WelfareMoves.j1])
     | succ kj24 =>
      have H := HA.out
      clear HA
      simp only [gridhalllaw3_WelfareMoves.j1] at H
      have HC30 := Aside0.mk H
      clear H
      go_upto_if 77 with (fail)
      go_cut [15] (fun v15 wc => ∃ (kq : Nat) (x15_29 : Int), v15 = .int .i64 x15_29 ∧ Aside0 (gridhalllaw3_WelfareMoves.j2 kq l0 l1 t272 t273 t274 t275 t276 t277 x15_29 = some r) ∧ Aside0 (kq ≤ kj24) ∧ Aside0 (Below w.heap.size w wc))
      case first =>
       have H := HC30.out
       clear HC30
       by_cases c31 : x77_24 = true
       ·subst c31
        have H1 : (gridhalllaw3_WelfareMoves.j2 kj24 l0 l1 t272 t273 t274 t275 t276 t277 3) = some r := by rw [if_pos rfl] at H; exact H
        clear H
        have H := H1
        clear H1
        as_aux_lemma =>
         have H' := Aside0.mk H
         clear H
         go_wp2
         go_meet
         case rel => exact ⟨_, (3), (by first | rfl | (simp; done) | (simp [*]; done)), H', ⟨by have := HJ5.out; have := HJ24.out; first | omega | exact Nat.le_refl _⟩, ⟨by repeat (first | (with_reducible first | exact HB.out | apply below_alloc | apply pw_below_drewN | apply below_drew1) | exact HB.out)⟩⟩
       ·replace c31 := Bool.eq_false_iff.mpr c31
        subst c31
        have H1 : (gridhalllaw3_WelfareMoves.j2 kj24 l0 l1 t272 t273 t274 t275 t276 t277 t278) = some r := by rw [if_neg (show ¬ (false = true) by decide)] at H; exact H
        clear H
        have H := H1
        clear H1
        as_aux_lemma =>
         have H' := Aside0.mk H
         clear H
         go_wp2
         go_meet
         case rel => exact ⟨_, (t278), (by first | rfl | (simp; done) | (simp [*]; done)), H', ⟨by have := HJ5.out; have := HJ24.out; first | omega | exact Nat.le_refl _⟩, ⟨by repeat (first | (with_reducible first | exact HB.out | apply below_alloc | apply pw_below_drewN | apply below_drew1) | exact HB.out)⟩⟩
      case rest =>
       clear HC30
       try clear c1
       try clear c2
       try clear p2
       try clear c3
       try clear c6
       try clear c10
       try clear c18
       try clear c18b0
       try clear c18b1
       try clear c19
       try clear c19b0
       try clear c19b1
       try clear c20
       try clear c20b0
       try clear c20b1
       try clear c21
       try clear c24
       try clear c27
       try clear c28
       try clear c29
       try clear c29b0
       try clear c29b1
       try clear c31
       try clear p2
       obtain ⟨kq, x15_29, rfl, HA, HJ29, HB⟩ := hcut
       cases kq with
       | zero => exact absurd HA.out (by simp [gridhalllaw3_WelfareMoves.j2])
       | succ kj29 =>
        have H := HA.out
        clear HA
        simp only [gridhalllaw3_WelfareMoves.j2] at H
        have H' := Aside0.mk H
        clear H
        go_wp2
        go_loopg [15, 16, 17, 18] kj29 (fun kq v15 v16 v17 v18 w' => ∃ (x15_4 : Int) (x16_4 : Int) (x17_4 : Int) (x18_4 : Int), v15 = .int .i64 x15_4 ∧ v16 = .int .i64 x16_4 ∧ v17 = .int .i64 x17_4 ∧ v18 = .int .i64 x18_4 ∧ Aside0 (gridhalllaw3_WelfareMoves.l0 kq l0 l1 t272 t273 t274 t275 t276 t277 x15_4 x16_4 x17_4 x18_4 = some r) ∧ Aside0 (kq ≤ kj29) ∧ Aside0 (Below w.heap.size w w'))
        case atStart => exact ⟨(x15_29), (0), (0), (0), (by first | rfl | (simp; done) | (simp [*]; done)), (by first | rfl | (simp; done) | (simp [*]; done)), (by first | rfl | (simp; done) | (simp [*]; done)), (by first | rfl | (simp; done) | (simp [*]; done)), H', ⟨Nat.le_refl _⟩, ⟨by repeat (first | (with_reducible first | exact HB.out | apply below_alloc | apply pw_below_drewN | apply below_drew1) | exact HB.out)⟩⟩
        case round =>
         clear H'
         try clear c1
         try clear c2
         try clear p2
         try clear c3
         try clear c6
         try clear c10
         try clear c18
         try clear c18b0
         try clear c18b1
         try clear c19
         try clear c19b0
         try clear c19b1
         try clear c20
         try clear c20b0
         try clear c20b1
         try clear c21
         try clear c24
         try clear c27
         try clear c28
         try clear c29
         try clear c29b0
         try clear c29b1
         try clear c31
         try clear p2
         obtain ⟨x15_4, x16_4, x17_4, x18_4, rfl, rfl, rfl, rfl, HA, HK4, HB⟩ := hrel
         cases gk with
         | zero => exact absurd HA.out (by simp [gridhalllaw3_WelfareMoves.l0])
         | succ k4 =>
          have H := HA.out
          clear HA
          simp only [gridhalllaw3_WelfareMoves.l0] at H
          have HC32 := Aside0.mk H
          clear H
          go_upto_region 11 with (fail)
          go_cut [85] (fun v85 wc => ∃ (kq : Nat) (x85_31 : Bool), v85 = .bool x85_31 ∧ Aside0 (gridhalllaw3_WelfareMoves.j4 kq l0 l1 t272 t273 t274 t275 t276 t277 x15_4 x16_4 x17_4 x18_4 x85_31 = some r) ∧ Aside0 (kq ≤ k4) ∧ Aside0 (Below w.heap.size w wc))
          case first =>
           have H := HC32.out
           clear HC32
           by_cases c33 : x18_4 < (l0.length : Int)
           ·rw [if_pos c33] at H
            have c33b0 : decide (x18_4 < (l0.length : Int)) = true := decide_eq_true c33
            clear c33
            (first | rw [c33b0] | (simp only [i64_w, i32_w]; rw [c33b0]) | skip)
            as_aux_lemma =>
             have H' := Aside0.mk H
             clear H
             go_wp2
             go_meet
             case rel => exact ⟨_, ((x15_4 == 0)), (by first | rfl | (simp; done) | (simp [*]; done)), H', ⟨by have := HJ5.out; have := HJ24.out; have := HJ29.out; have := HK4.out; first | omega | exact Nat.le_refl _⟩, ⟨by repeat (first | (with_reducible first | exact HB.out | apply below_alloc | apply pw_below_drewN | apply below_drew1) | exact HB.out)⟩⟩
           ·rw [if_neg c33] at H
            have c33b0 : decide (x18_4 < (l0.length : Int)) = false := decide_eq_false c33
            clear c33
            (first | rw [c33b0] | (simp only [i64_w, i32_w]; rw [c33b0]) | skip)
            as_aux_lemma =>
             have H' := Aside0.mk H
             clear H
             go_wp2
             go_meet
             case rel => exact ⟨_, (false), (by first | rfl | (simp; done) | (simp [*]; done)), H', ⟨by have := HJ5.out; have := HJ24.out; have := HJ29.out; have := HK4.out; first | omega | exact Nat.le_refl _⟩, ⟨by repeat (first | (with_reducible first | exact HB.out | apply below_alloc | apply pw_below_drewN | apply below_drew1) | exact HB.out)⟩⟩
          case rest =>
           clear HC32
           try clear c1
           try clear c2
           try clear p2
           try clear c3
           try clear c6
           try clear c10
           try clear c18
           try clear c18b0
           try clear c18b1
           try clear c19
           try clear c19b0
           try clear c19b1
           try clear c20
           try clear c20b0
           try clear c20b1
           try clear c21
           try clear c24
           try clear c27
           try clear c28
           try clear c29
           try clear c29b0
           try clear c29b1
           try clear c31
           try clear c33
           try clear c33b0
           try clear p2
           obtain ⟨kq, x85_31, rfl, HA, HJ31, HB⟩ := hcut
           cases kq with
           | zero => exact absurd HA.out (by simp [gridhalllaw3_WelfareMoves.j4])
           | succ kj31 =>
            have H := HA.out
            clear HA
            simp only [gridhalllaw3_WelfareMoves.j4] at H
            by_cases c34 : x85_31 = true
            ·subst c34
             have H1 : (if 0 ≤ x18_4 then (if x18_4 < (l1.length : Int) then (if x18_4 < (l0.length : Int) then ((gridhallref3_All.f kj31 ((rd_T29 l0 x18_4).f0) ((rd_T29 l0 x18_4).f1)).bind fun t281 => ((gridhallref3_In.f (rd l1 x18_4) 0 t281).bind fun t282 => (if t282 = true then ((gridhallref3_Cost.f kj31 ((rd_T29 l0 x18_4).f0) ((rd_T29 l0 x18_4).f1) (rd l1 x18_4)).bind fun t286 => (gridhalllaw3_WelfareMoves.l0 kj31 l0 l1 t272 t273 t274 t275 t276 t277 x15_4 (wrap64 (x16_4 + (rd l1 x18_4))) (wrap64 (x17_4 + t286)) (wrap64 (x18_4 + 1)))) else (gridhalllaw3_WelfareMoves.l0 kj31 l0 l1 t272 t273 t274 t275 t276 t277 4 x16_4 x17_4 (wrap64 (x18_4 + 1)))))) else (none)) else (none)) else (none)) = some r := by rw [if_pos rfl] at H; exact H
             clear H
             have H := H1
             clear H1
             by_cases c35 : 0 ≤ x18_4
             ·rw [if_pos c35] at H
              have c35b0 : decide (0 ≤ x18_4) = true := decide_eq_true c35
              clear c35
              by_cases c36 : x18_4 < (l1.length : Int)
              ·rw [if_pos c36] at H
               have c36b0 : decide (x18_4 < (l1.length : Int)) = true := decide_eq_true c36
               clear c36
               by_cases c37 : x18_4 < (l0.length : Int)
               ·rw [if_pos c37] at H
                have c37b0 : decide (x18_4 < (l0.length : Int)) = true := decide_eq_true c37
                clear c37
                replace H := Option.bind_eq_some_iff.mp H
                obtain ⟨t281, A380, H⟩ := H
                replace H : ((gridhallref3_In.f (rd l1 x18_4) 0 t281).bind fun t282 => (if t282 = true then ((gridhallref3_Cost.f kj31 ((rd_T29 l0 x18_4).f0) ((rd_T29 l0 x18_4).f1) (rd l1 x18_4)).bind fun t286 => (gridhalllaw3_WelfareMoves.l0 kj31 l0 l1 t272 t273 t274 t275 t276 t277 x15_4 (wrap64 (x16_4 + (rd l1 x18_4))) (wrap64 (x17_4 + t286)) (wrap64 (x18_4 + 1)))) else (gridhalllaw3_WelfareMoves.l0 kj31 l0 l1 t272 t273 t274 t275 t276 t277 4 x16_4 x17_4 (wrap64 (x18_4 + 1))))) = some r := H
                have A38 := Aside0.mk A380
                clear A380
                replace H := Option.bind_eq_some_iff.mp H
                obtain ⟨t282, A390, H⟩ := H
                replace H : (if t282 = true then ((gridhallref3_Cost.f kj31 ((rd_T29 l0 x18_4).f0) ((rd_T29 l0 x18_4).f1) (rd l1 x18_4)).bind fun t286 => (gridhalllaw3_WelfareMoves.l0 kj31 l0 l1 t272 t273 t274 t275 t276 t277 x15_4 (wrap64 (x16_4 + (rd l1 x18_4))) (wrap64 (x17_4 + t286)) (wrap64 (x18_4 + 1)))) else (gridhalllaw3_WelfareMoves.l0 kj31 l0 l1 t272 t273 t274 t275 t276 t277 4 x16_4 x17_4 (wrap64 (x18_4 + 1)))) = some r := H
                have A39 := Aside0.mk A390
                clear A390
                by_cases c40 : t282 = true
                ·subst c40
                 have H1 : ((gridhallref3_Cost.f kj31 ((rd_T29 l0 x18_4).f0) ((rd_T29 l0 x18_4).f1) (rd l1 x18_4)).bind fun t286 => (gridhalllaw3_WelfareMoves.l0 kj31 l0 l1 t272 t273 t274 t275 t276 t277 x15_4 (wrap64 (x16_4 + (rd l1 x18_4))) (wrap64 (x17_4 + t286)) (wrap64 (x18_4 + 1)))) = some r := by rw [if_pos rfl] at H; exact H
                 clear H
                 have H := H1
                 clear H1
                 replace H := Option.bind_eq_some_iff.mp H
                 obtain ⟨t286, A410, H⟩ := H
                 replace H : (gridhalllaw3_WelfareMoves.l0 kj31 l0 l1 t272 t273 t274 t275 t276 t277 x15_4 (wrap64 (x16_4 + (rd l1 x18_4))) (wrap64 (x17_4 + t286)) (wrap64 (x18_4 + 1))) = some r := H
                 have A41 := Aside0.mk A410
                 clear A410
                 as_aux_lemma =>
                  have H' := Aside0.mk H
                  clear H
                  try go_wp2
                  have n0_ := Aside0.mk (below_drew1 HB.out)
                  clear HB
                  have HB := n0_
                  clear n0_
                  have p279 : 0 ≤ (x18_4 : Int) := of_decide_eq_true (by first | (with_reducible assumption) | assumption)
                  have q279 : x18_4 < (l1.length : Int) := of_decide_eq_true (by first | (with_reducible assumption) | assumption)
                  obtain ⟨ad279, e279, hx279_0⟩ := Kd.at_int HR1.out x18_4 p279 q279
                  have hw279_0 := hx279_0
                  cases e279
                  replace hx279_0 := (HB.out.cell (World.block_lt_of_cell? w _ hx279_0)).trans hx279_0
                  replace p279 := eq_true p279
                  replace q279 := eq_true q279
                  have p280 : 0 ≤ (x18_4 : Int) := of_decide_eq_true (by first | (with_reducible assumption) | assumption)
                  have q280 : x18_4 < (l0.length : Int) := of_decide_eq_true (by first | (with_reducible assumption) | assumption)
                  obtain ⟨ad280, A280_1, c280_1, e280, hx280_0, hx280_1, hl280_1, hi280_1⟩ := at_T29 HR0.out x18_4 p280 q280
                  have hw280_1 := hx280_1
                  have hw280_0 := hx280_0
                  cases e280
                  replace hx280_0 := (HB.out.cell (World.block_lt_of_cell? w _ hx280_0)).trans hx280_0
                  replace hx280_1 := (HB.out.cell (World.block_lt_of_cell? w _ hx280_1)).trans hx280_1
                  have HR280_1 := Aside0.mk hi280_1
                  have HC280_1 := Aside0.mk hl280_1
                  clear hi280_1 hl280_1
                  replace p280 := eq_true p280
                  replace q280 := eq_true q280
                  refine start_ (n := 11) (S := fun w' => w'.cell? (ad279.add (x18_4).toNat) = some (.int .i64 (rd l1 x18_4)) ∧ w'.cell? (ad280.add ((x18_4).toNat * 2)) = some (.string ((rd_T29 l0 x18_4).f0)) ∧ w'.cell? ⟨(ad280.add ((x18_4).toNat * 2)).block, (ad280.add ((x18_4).toNat * 2)).off + 1, none⟩ = some (.slice A280_1 ((rd_T29 l0 x18_4).f1).length c280_1)) (ds := []) #[false, false, false, false, false, false, false, false, false, false, false] (by kernel_rfl) rfl rfl ⟨((HB.out.cell (World.block_lt_of_cell? w _ hw279_0)).trans hw279_0), ((HB.out.cell (World.block_lt_of_cell? w _ hw280_0)).trans hw280_0), ((HB.out.cell (World.block_lt_of_cell? w _ hw280_1)).trans hw280_1)⟩ (fun hHeld => ?_); refine with_tabW gridhalllaw3_WelfareMoves.tab13 gridhalllaw3_WelfareMoves.bits13 (fun HT_ HW_ => ?_)
                  generalize wc.drew = w42 at HB HR280_1 hx279_0 hx280_0 hx280_1 hHeld ⊢
                  refine pure_ (i := 0) (N := some 88) (v := ?_) (a' := ?_) #[true, false, false, false, false, false, false, false, false, false, false] rfl rfl (any_of HT_.out (by kernel_rfl)) (fun _ _ _ h => h) (Or.inl ⟨by rfl, ?_⟩) ?_ ?_
                  rotate_left
                  ·intro w'
                   go_simp
                   with_reducible rfl
                  rotate_left
                  ·simp only [Act.put, List.setIfInBounds_toArray, List.set_cons_zero, List.set_cons_succ, i64_w, i32_w]
                   rfl
                  refine pure_ (i := 1) (N := some 89) (v := ?_) (a' := ?_) #[true, true, false, false, false, false, false, false, false, false, false] rfl rfl (any_of HT_.out (by kernel_rfl)) (fun _ _ _ h => h) (Or.inl ⟨by rfl, ?_⟩) ?_ ?_
                  rotate_left
                  ·intro w'
                   go_simp
                   with_reducible rfl
                  rotate_left
                  ·simp only [Act.put, List.setIfInBounds_toArray, List.set_cons_zero, List.set_cons_succ, i64_w, i32_w]
                   rfl
                  refine pure_ (i := 2) (N := some 90) (v := ?_) (a' := ?_) #[true, true, true, false, false, false, false, false, false, false, false] rfl rfl (any_of HT_.out (by kernel_rfl)) (fun _ _ _ h => h) (Or.inl ⟨by rfl, ?_⟩) ?_ ?_
                  rotate_left
                  ·intro w'
                   go_simp
                   with_reducible rfl
                  rotate_left
                  ·simp only [Act.put, List.setIfInBounds_toArray, List.set_cons_zero, List.set_cons_succ, i64_w, i32_w]
                   rfl
                  refine pure_ (i := 4) (N := some 92) (v := ?_) (a' := ?_) #[true, true, true, false, true, false, false, false, false, false, false] rfl rfl (any_of HT_.out (by kernel_rfl)) (fun _ _ _ h => h) (Or.inl ⟨by rfl, ?_⟩) ?_ ?_
                  rotate_left
                  ·intro w'
                   go_simp
                   with_reducible rfl
                  rotate_left
                  ·simp only [Act.put, List.setIfInBounds_toArray, List.set_cons_zero, List.set_cons_succ, i64_w, i32_w]
                   rfl
                  refine pure_ (i := 5) (N := some 93) (v := ?_) (a' := ?_) #[true, true, true, false, true, true, false, false, false, false, false] rfl rfl (any_of HT_.out (by kernel_rfl)) (fun _ _ _ h => h) (Or.inl ⟨by rfl, ?_⟩) ?_ ?_
                  rotate_left
                  ·intro w'
                   go_simp
                   with_reducible rfl
                  rotate_left
                  ·simp only [Act.put, List.setIfInBounds_toArray, List.set_cons_zero, List.set_cons_succ, i64_w, i32_w]
                   rfl
                  refine pure_ (i := 6) (N := some 94) (v := ?_) (a' := ?_) #[true, true, true, false, true, true, true, false, false, false, false] rfl rfl (any_of HT_.out (by kernel_rfl)) (fun _ _ _ h => h) (Or.inl ⟨by rfl, ?_⟩) ?_ ?_
                  rotate_left
                  ·intro w'
                   go_simp
                   with_reducible rfl
                  rotate_left
                  ·simp only [Act.put, List.setIfInBounds_toArray, List.set_cons_zero, List.set_cons_succ, i64_w, i32_w]
                   rfl
                  refine take_ (i := 3) (N := some 91) (v := ?_) (a' := ?_) #[true, true, true, true, true, true, true, false, false, false, false] rfl rfl (take_ofW HT_.out HW_.out (by kernel_rfl)) (fun _ _ _ h => h) (Or.inl ⟨by rfl, ?_⟩) hHeld ?_ ?_
                  rotate_left
                  ·rintro w' ⟨s0, s1, s2⟩
                   go_simp
                   with_reducible rfl
                  rotate_left
                  ·simp only [Act.put, List.setIfInBounds_toArray, List.set_cons_zero, List.set_cons_succ, i64_w, i32_w]
                   rfl
                  refine take_ (i := 7) (N := some 95) (v := ?_) (a' := ?_) #[true, true, true, true, true, true, true, true, false, false, false] rfl rfl (take_ofW HT_.out HW_.out (by kernel_rfl)) (fun _ _ _ h => h) (Or.inl ⟨by rfl, ?_⟩) hHeld ?_ ?_
                  rotate_left
                  ·rintro w' ⟨s0, s1, s2⟩
                   go_simp
                   with_reducible rfl
                  rotate_left
                  ·simp only [Act.put, List.setIfInBounds_toArray, List.set_cons_zero, List.set_cons_succ, i64_w, i32_w]
                   rfl
                  refine one_ (i := 8) (N := some 96) #[true, true, true, true, true, true, true, true, true, false, false] rfl rfl (one_of HT_.out (by kernel_rfl)) (by decide) (fun K hK => ?_)
                  refine goes_ Try.func15 (by kernel_rfl) rfl #[.agg #[.string ((rd_T29 l0 x18_4).f0), .slice A280_1 ((rd_T29 l0 x18_4).f1).length c280_1]] (by rfl) rfl rfl (by (try simp only [List.map_toArray, List.map_cons, List.map_nil]); first | done | rfl | (simp only [List.length_drop, List.length_take]; rfl)) ?_
                  with_reducible refine (gridhallref3_All.calls kj31 ((rd_T29 l0 x18_4).f0) _ _ ((rd_T29 l0 x18_4).f1) t281 _ ?side1 ?side2 A38.out).mono ?_
                  (case side1 => repeat (first | exact (Kd.C_below HR280_1.out HB.out) | (with_reducible refine Kd.C_alloc ?_ _) | (with_reducible refine Kd.C_drewN ?_ _) | (with_reducible refine Kd.C_drew ?_)))
                  (case side2 => exact HC280_1.out)
                  rintro e w43 ⟨rfl, hb⟩
                  refine ⟨_, rfl, ?_⟩
                  have n0_ := Aside0.mk (below_step (by repeat (first | (with_reducible first | exact HB.out | apply below_alloc | apply pw_below_drewN | apply below_drew1) | exact HB.out)) hb)
                  clear HB
                  have HB := n0_
                  clear n0_
                  (try clear hb)
                  (try clear hb2)
                  (try clear hk)
                  (try clear hi)
                  refine hK.out _ _ ⟨((HB.out.cell (World.block_lt_of_cell? w _ hw279_0)).trans hw279_0), ((HB.out.cell (World.block_lt_of_cell? w _ hw280_0)).trans hw280_0), ((HB.out.cell (World.block_lt_of_cell? w _ hw280_1)).trans hw280_1)⟩ (fun hHeld => ?_)
                  clear hK K
                  refine norm_ (a' := ?_) ?_ ?_
                  rotate_left
                  ·show Act.put _ (some 96) _ = _
                   simp only [Act.put, List.setIfInBounds_toArray, List.set_cons_zero, List.set_cons_succ, i64_w, i32_w]
                   rfl
                  refine one_ (i := 9) (N := some 97) #[true, true, true, true, true, true, true, true, true, true, false] rfl rfl (one_of HT_.out (by kernel_rfl)) (by decide) (fun K hK => ?_)
                  refine goes_ Try.func16 (by kernel_rfl) rfl #[.int .i64 (rd l1 x18_4), .int .i64 0, .int .i64 t281] (by rfl) rfl rfl (by (try simp only [List.map_toArray, List.map_cons, List.map_nil]); first | done | rfl | (simp only [List.length_drop, List.length_take]; rfl)) ?_
                  with_reducible refine (gridhallref3_In.calls (rd l1 x18_4) 0 t281 true _ A39.out).mono ?_
                  rintro e w' ⟨rfl, ⟨nd, rfl⟩⟩
                  refine ⟨_, rfl, ?_⟩
                  refine hK.out _ _ ⟨((HB.out.cell (World.block_lt_of_cell? w _ hw279_0)).trans hw279_0), ((HB.out.cell (World.block_lt_of_cell? w _ hw280_0)).trans hw280_0), ((HB.out.cell (World.block_lt_of_cell? w _ hw280_1)).trans hw280_1)⟩ (fun hHeld => ?_)
                  clear hK K
                  refine norm_ (a' := ?_) ?_ ?_
                  rotate_left
                  ·show Act.put _ (some 97) _ = _
                   simp only [Act.put, List.setIfInBounds_toArray, List.set_cons_zero, List.set_cons_succ, i64_w, i32_w]
                   rfl
                  refine pure_ (i := 10) (N := some 98) (v := ?_) (a' := ?_) #[true, true, true, true, true, true, true, true, true, true, true] rfl rfl (any_of HT_.out (by kernel_rfl)) (fun _ _ _ h => h) (Or.inl ⟨by rfl, ?_⟩) ?_ ?_
                  rotate_left
                  ·intro w'
                   go_simp
                   with_reducible rfl
                  rotate_left
                  ·simp only [Act.put, List.setIfInBounds_toArray, List.set_cons_zero, List.set_cons_succ, i64_w, i32_w]
                   rfl
                  refine done_ (done_of HT_.out (by kernel_rfl)) ?_
                  try go_wp2
                  (try (rw [drewN_self w43]; generalize hq_ : World.drewN w43 _ = w43; have n0_ : Aside0 (Below w.heap.size w w43) := ⟨by rw [← hq_]; exact (by repeat (first | (with_reducible first | exact HB.out | apply below_alloc | apply pw_below_drewN | apply below_drew1) | exact HB.out))⟩; clear HB hq_; have HB := n0_; clear n0_))
                  have n0_ := Aside0.mk (below_drew1 HB.out)
                  clear HB
                  have HB := n0_
                  clear n0_
                  have p283 : 0 ≤ (x18_4 : Int) := of_decide_eq_true (by first | (with_reducible assumption) | assumption)
                  have q283 : x18_4 < (l1.length : Int) := of_decide_eq_true (by first | (with_reducible assumption) | assumption)
                  obtain ⟨ad283, e283, hx283_0⟩ := Kd.at_int HR1.out x18_4 p283 q283
                  have hw283_0 := hx283_0
                  obtain rfl : ad279 = ad283 := (by injection e283)
                  replace hx283_0 := (HB.out.cell (World.block_lt_of_cell? w _ hx283_0)).trans hx283_0
                  replace p283 := eq_true p283
                  replace q283 := eq_true q283
                  have p284 : 0 ≤ (x18_4 : Int) := of_decide_eq_true (by first | (with_reducible assumption) | assumption)
                  have q284 : x18_4 < (l0.length : Int) := of_decide_eq_true (by first | (with_reducible assumption) | assumption)
                  obtain ⟨ad284, A284_1, c284_1, e284, hx284_0, hx284_1, hl284_1, hi284_1⟩ := at_T29 HR0.out x18_4 p284 q284
                  have hw284_1 := hx284_1
                  have hw284_0 := hx284_0
                  obtain rfl : ad280 = ad284 := (by injection e284)
                  replace hx284_0 := (HB.out.cell (World.block_lt_of_cell? w _ hx284_0)).trans hx284_0
                  replace hx284_1 := (HB.out.cell (World.block_lt_of_cell? w _ hx284_1)).trans hx284_1
                  have HR284_1 := Aside0.mk hi284_1
                  have HC284_1 := Aside0.mk hl284_1
                  clear hi284_1 hl284_1
                  replace p284 := eq_true p284
                  replace q284 := eq_true q284
                  have p285 : 0 ≤ (x18_4 : Int) := of_decide_eq_true (by first | (with_reducible assumption) | assumption)
                  have q285 : x18_4 < (l1.length : Int) := of_decide_eq_true (by first | (with_reducible assumption) | assumption)
                  obtain ⟨ad285, e285, hx285_0⟩ := Kd.at_int HR1.out x18_4 p285 q285
                  have hw285_0 := hx285_0
                  obtain rfl : ad279 = ad285 := (by injection e285)
                  replace hx285_0 := (HB.out.cell (World.block_lt_of_cell? w _ hx285_0)).trans hx285_0
                  replace p285 := eq_true p285
                  replace q285 := eq_true q285
                  refine start_ (n := 19) (S := fun w' => w'.cell? (ad279.add (x18_4).toNat) = some (.int .i64 (rd l1 x18_4)) ∧ w'.cell? (ad280.add ((x18_4).toNat * 2)) = some (.string ((rd_T29 l0 x18_4).f0)) ∧ w'.cell? ⟨(ad280.add ((x18_4).toNat * 2)).block, (ad280.add ((x18_4).toNat * 2)).off + 1, none⟩ = some (.slice A284_1 ((rd_T29 l0 x18_4).f1).length c284_1) ∧ w'.cell? (ad279.add (x18_4).toNat) = some (.int .i64 (rd l1 x18_4))) (ds := []) #[false, false, false, false, false, false, false, false, false, false, false, false, false, false, false, false, false, false, false] (by kernel_rfl) rfl rfl ⟨((HB.out.cell (World.block_lt_of_cell? w _ hw283_0)).trans hw283_0), ((HB.out.cell (World.block_lt_of_cell? w _ hw284_0)).trans hw284_0), ((HB.out.cell (World.block_lt_of_cell? w _ hw284_1)).trans hw284_1), ((HB.out.cell (World.block_lt_of_cell? w _ hw285_0)).trans hw285_0)⟩ (fun hHeld => ?_); refine with_tabW gridhalllaw3_WelfareMoves.tab15 gridhalllaw3_WelfareMoves.bits15 (fun HT_ HW_ => ?_)
                  generalize w43.drew = w44 at HB HR284_1 hx283_0 hx284_0 hx284_1 hx285_0 hHeld ⊢
                  refine pure_ (i := 0) (N := some 99) (v := ?_) (a' := ?_) #[true, false, false, false, false, false, false, false, false, false, false, false, false, false, false, false, false, false, false] rfl rfl (any_of HT_.out (by kernel_rfl)) (fun _ _ _ h => h) (Or.inl ⟨by rfl, ?_⟩) ?_ ?_
                  rotate_left
                  ·intro w'
                   go_simp
                   with_reducible rfl
                  rotate_left
                  ·simp only [Act.put, List.setIfInBounds_toArray, List.set_cons_zero, List.set_cons_succ, i64_w, i32_w]
                   rfl
                  refine pure_ (i := 1) (N := some 100) (v := ?_) (a' := ?_) #[true, true, false, false, false, false, false, false, false, false, false, false, false, false, false, false, false, false, false] rfl rfl (any_of HT_.out (by kernel_rfl)) (fun _ _ _ h => h) (Or.inl ⟨by rfl, ?_⟩) ?_ ?_
                  rotate_left
                  ·intro w'
                   go_simp
                   with_reducible rfl
                  rotate_left
                  ·simp only [Act.put, List.setIfInBounds_toArray, List.set_cons_zero, List.set_cons_succ, i64_w, i32_w]
                   rfl
                  refine pure_ (i := 2) (N := some 101) (v := ?_) (a' := ?_) #[true, true, true, false, false, false, false, false, false, false, false, false, false, false, false, false, false, false, false] rfl rfl (any_of HT_.out (by kernel_rfl)) (fun _ _ _ h => h) (Or.inl ⟨by rfl, ?_⟩) ?_ ?_
                  rotate_left
                  ·intro w'
                   go_simp
                   with_reducible rfl
                  rotate_left
                  ·simp only [Act.put, List.setIfInBounds_toArray, List.set_cons_zero, List.set_cons_succ, i64_w, i32_w]
                   rfl
                  refine pure_ (i := 3) (N := some 102) (v := ?_) (a' := ?_) #[true, true, true, true, false, false, false, false, false, false, false, false, false, false, false, false, false, false, false] rfl rfl (any_of HT_.out (by kernel_rfl)) (fun _ _ _ h => h) (Or.inl ⟨by rfl, ?_⟩) ?_ ?_
                  rotate_left
                  ·intro w'
                   go_simp
                   with_reducible rfl
                  rotate_left
                  ·simp only [Act.put, List.setIfInBounds_toArray, List.set_cons_zero, List.set_cons_succ, i64_w, i32_w]
                   rfl
                  refine pure_ (i := 6) (N := some 105) (v := ?_) (a' := ?_) #[true, true, true, true, false, false, true, false, false, false, false, false, false, false, false, false, false, false, false] rfl rfl (any_of HT_.out (by kernel_rfl)) (fun _ _ _ h => h) (Or.inl ⟨by rfl, ?_⟩) ?_ ?_
                  rotate_left
                  ·intro w'
                   go_simp
                   with_reducible rfl
                  rotate_left
                  ·simp only [Act.put, List.setIfInBounds_toArray, List.set_cons_zero, List.set_cons_succ, i64_w, i32_w]
                   rfl
                  refine pure_ (i := 7) (N := some 106) (v := ?_) (a' := ?_) #[true, true, true, true, false, false, true, true, false, false, false, false, false, false, false, false, false, false, false] rfl rfl (any_of HT_.out (by kernel_rfl)) (fun _ _ _ h => h) (Or.inl ⟨by rfl, ?_⟩) ?_ ?_
                  rotate_left
                  ·intro w'
                   go_simp
                   with_reducible rfl
                  rotate_left
                  ·simp only [Act.put, List.setIfInBounds_toArray, List.set_cons_zero, List.set_cons_succ, i64_w, i32_w]
                   rfl
                  refine pure_ (i := 8) (N := some 107) (v := ?_) (a' := ?_) #[true, true, true, true, false, false, true, true, true, false, false, false, false, false, false, false, false, false, false] rfl rfl (any_of HT_.out (by kernel_rfl)) (fun _ _ _ h => h) (Or.inl ⟨by rfl, ?_⟩) ?_ ?_
                  rotate_left
                  ·intro w'
                   go_simp
                   with_reducible rfl
                  rotate_left
                  ·simp only [Act.put, List.setIfInBounds_toArray, List.set_cons_zero, List.set_cons_succ, i64_w, i32_w]
                   rfl
                  refine pure_ (i := 9) (N := some 108) (v := ?_) (a' := ?_) #[true, true, true, true, false, false, true, true, true, true, false, false, false, false, false, false, false, false, false] rfl rfl (any_of HT_.out (by kernel_rfl)) (fun _ _ _ h => h) (Or.inl ⟨by rfl, ?_⟩) ?_ ?_
                  rotate_left
                  ·intro w'
                   go_simp
                   with_reducible rfl
                  rotate_left
                  ·simp only [Act.put, List.setIfInBounds_toArray, List.set_cons_zero, List.set_cons_succ, i64_w, i32_w]
                   rfl
                  refine pure_ (i := 11) (N := some 110) (v := ?_) (a' := ?_) #[true, true, true, true, false, false, true, true, true, true, false, true, false, false, false, false, false, false, false] rfl rfl (any_of HT_.out (by kernel_rfl)) (fun _ _ _ h => h) (Or.inl ⟨by rfl, ?_⟩) ?_ ?_
                  rotate_left
                  ·intro w'
                   go_simp
                   with_reducible rfl
                  rotate_left
                  ·simp only [Act.put, List.setIfInBounds_toArray, List.set_cons_zero, List.set_cons_succ, i64_w, i32_w]
                   rfl
                  refine pure_ (i := 12) (N := some 111) (v := ?_) (a' := ?_) #[true, true, true, true, false, false, true, true, true, true, false, true, true, false, false, false, false, false, false] rfl rfl (any_of HT_.out (by kernel_rfl)) (fun _ _ _ h => h) (Or.inl ⟨by rfl, ?_⟩) ?_ ?_
                  rotate_left
                  ·intro w'
                   go_simp
                   with_reducible rfl
                  rotate_left
                  ·simp only [Act.put, List.setIfInBounds_toArray, List.set_cons_zero, List.set_cons_succ, i64_w, i32_w]
                   rfl
                  refine pure_ (i := 13) (N := some 112) (v := ?_) (a' := ?_) #[true, true, true, true, false, false, true, true, true, true, false, true, true, true, false, false, false, false, false] rfl rfl (any_of HT_.out (by kernel_rfl)) (fun _ _ _ h => h) (Or.inl ⟨by rfl, ?_⟩) ?_ ?_
                  rotate_left
                  ·intro w'
                   go_simp
                   with_reducible rfl
                  rotate_left
                  ·simp only [Act.put, List.setIfInBounds_toArray, List.set_cons_zero, List.set_cons_succ, i64_w, i32_w]
                   rfl
                  refine take_ (i := 4) (N := some 103) (v := ?_) (a' := ?_) #[true, true, true, true, true, false, true, true, true, true, false, true, true, true, false, false, false, false, false] rfl rfl (take_ofW HT_.out HW_.out (by kernel_rfl)) (fun _ _ _ h => h) (Or.inl ⟨by rfl, ?_⟩) hHeld ?_ ?_
                  rotate_left
                  ·rintro w' ⟨s0, s1, s2, s3⟩
                   go_simp
                   with_reducible rfl
                  rotate_left
                  ·simp only [Act.put, List.setIfInBounds_toArray, List.set_cons_zero, List.set_cons_succ, i64_w, i32_w]
                   rfl
                  refine pure_ (i := 5) (N := some 104) (v := ?_) (a' := ?_) #[true, true, true, true, true, true, true, true, true, true, false, true, true, true, false, false, false, false, false] rfl rfl (any_of HT_.out (by kernel_rfl)) (fun _ _ _ h => h) (Or.inl ⟨by rfl, ?_⟩) ?_ ?_
                  rotate_left
                  ·intro w'
                   go_simp
                   with_reducible rfl
                  rotate_left
                  ·simp only [Act.put, List.setIfInBounds_toArray, List.set_cons_zero, List.set_cons_succ, i64_w, i32_w]
                   rfl
                  refine take_ (i := 10) (N := some 109) (v := ?_) (a' := ?_) #[true, true, true, true, true, true, true, true, true, true, true, true, true, true, false, false, false, false, false] rfl rfl (take_ofW HT_.out HW_.out (by kernel_rfl)) (fun _ _ _ h => h) (Or.inl ⟨by rfl, ?_⟩) hHeld ?_ ?_
                  rotate_left
                  ·rintro w' ⟨s0, s1, s2, s3⟩
                   go_simp
                   with_reducible rfl
                  rotate_left
                  ·simp only [Act.put, List.setIfInBounds_toArray, List.set_cons_zero, List.set_cons_succ, i64_w, i32_w]
                   rfl
                  refine take_ (i := 14) (N := some 113) (v := ?_) (a' := ?_) #[true, true, true, true, true, true, true, true, true, true, true, true, true, true, true, false, false, false, false] rfl rfl (take_ofW HT_.out HW_.out (by kernel_rfl)) (fun _ _ _ h => h) (Or.inl ⟨by rfl, ?_⟩) hHeld ?_ ?_
                  rotate_left
                  ·rintro w' ⟨s0, s1, s2, s3⟩
                   go_simp
                   with_reducible rfl
                  rotate_left
                  ·simp only [Act.put, List.setIfInBounds_toArray, List.set_cons_zero, List.set_cons_succ, i64_w, i32_w]
                   rfl
                  refine one_ (i := 15) (N := some 114) #[true, true, true, true, true, true, true, true, true, true, true, true, true, true, true, true, false, false, false] rfl rfl (one_of HT_.out (by kernel_rfl)) (by decide) (fun K hK => ?_)
                  refine goes_ Try.func19 (by kernel_rfl) rfl #[.agg #[.string ((rd_T29 l0 x18_4).f0), .slice A284_1 ((rd_T29 l0 x18_4).f1).length c284_1], .int .i64 (rd l1 x18_4)] (by rfl) rfl rfl (by (try simp only [List.map_toArray, List.map_cons, List.map_nil]); first | done | rfl | (simp only [List.length_drop, List.length_take]; rfl)) ?_
                  with_reducible refine (gridhallref3_Cost.calls kj31 ((rd_T29 l0 x18_4).f0) _ _ ((rd_T29 l0 x18_4).f1) (rd l1 x18_4) t286 _ ?side1 ?side2 A41.out).mono ?_
                  (case side1 => repeat (first | exact (Kd.C_below HR284_1.out HB.out) | (with_reducible refine Kd.C_alloc ?_ _) | (with_reducible refine Kd.C_drewN ?_ _) | (with_reducible refine Kd.C_drew ?_)))
                  (case side2 => exact HC284_1.out)
                  rintro e w45 ⟨rfl, hb⟩
                  refine ⟨_, rfl, ?_⟩
                  have n0_ := Aside0.mk (below_step (by repeat (first | (with_reducible first | exact HB.out | apply below_alloc | apply pw_below_drewN | apply below_drew1) | exact HB.out)) hb)
                  clear HB
                  have HB := n0_
                  clear n0_
                  (try clear hb)
                  (try clear hb2)
                  (try clear hk)
                  (try clear hi)
                  refine hK.out _ _ ⟨((HB.out.cell (World.block_lt_of_cell? w _ hw283_0)).trans hw283_0), ((HB.out.cell (World.block_lt_of_cell? w _ hw284_0)).trans hw284_0), ((HB.out.cell (World.block_lt_of_cell? w _ hw284_1)).trans hw284_1), ((HB.out.cell (World.block_lt_of_cell? w _ hw285_0)).trans hw285_0)⟩ (fun hHeld => ?_)
                  clear hK K
                  refine norm_ (a' := ?_) ?_ ?_
                  rotate_left
                  ·show Act.put _ (some 114) _ = _
                   simp only [Act.put, List.setIfInBounds_toArray, List.set_cons_zero, List.set_cons_succ, i64_w, i32_w]
                   rfl
                  refine pure_ (i := 16) (N := some 115) (v := ?_) (a' := ?_) #[true, true, true, true, true, true, true, true, true, true, true, true, true, true, true, true, true, false, false] rfl rfl (any_of HT_.out (by kernel_rfl)) (fun _ _ _ h => h) (Or.inl ⟨by rfl, ?_⟩) ?_ ?_
                  rotate_left
                  ·intro w'
                   go_simp
                   with_reducible rfl
                  rotate_left
                  ·simp only [Act.put, List.setIfInBounds_toArray, List.set_cons_zero, List.set_cons_succ, i64_w, i32_w]
                   rfl
                  refine pure_ (i := 17) (N := some 16) (v := ?_) (a' := ?_) #[true, true, true, true, true, true, true, true, true, true, true, true, true, true, true, true, true, true, false] rfl rfl (any_of HT_.out (by kernel_rfl)) (fun _ _ _ h => h) (Or.inl ⟨by rfl, ?_⟩) ?_ ?_
                  rotate_left
                  ·intro w'
                   go_simp
                   with_reducible rfl
                  rotate_left
                  ·simp only [Act.put, List.setIfInBounds_toArray, List.set_cons_zero, List.set_cons_succ, i64_w, i32_w]
                   rfl
                  refine pure_ (i := 18) (N := some 17) (v := ?_) (a' := ?_) #[true, true, true, true, true, true, true, true, true, true, true, true, true, true, true, true, true, true, true] rfl rfl (any_of HT_.out (by kernel_rfl)) (fun _ _ _ h => h) (Or.inl ⟨by rfl, ?_⟩) ?_ ?_
                  rotate_left
                  ·intro w'
                   go_simp
                   with_reducible rfl
                  rotate_left
                  ·simp only [Act.put, List.setIfInBounds_toArray, List.set_cons_zero, List.set_cons_succ, i64_w, i32_w]
                   rfl
                  refine done_ (done_of HT_.out (by kernel_rfl)) ?_
                  try go_wp2
                  go_roundg kj31
                  case measure => have := HJ5.out; have := HJ24.out; have := HJ29.out; have := HK4.out; have := HJ31.out; omega
                  case rel => exact ⟨(x15_4), (wrap64 (x16_4 + (rd l1 x18_4))), (wrap64 (x17_4 + t286)), (wrap64 (x18_4 + 1)), (by first | rfl | (simp; done) | (simp [*]; done)), (by first | rfl | (simp; done) | (simp [*]; done)), (by first | rfl | (simp; done) | (simp [*]; done)), (by first | rfl | (simp; done) | (simp [*]; done)), H', ⟨by have := HJ5.out; have := HJ24.out; have := HJ29.out; have := HK4.out; have := HJ31.out; omega⟩, ⟨by repeat (first | (with_reducible first | exact HB.out | apply below_alloc | apply pw_below_drewN | apply below_drew1) | exact HB.out)⟩⟩
                ·replace c40 := Bool.eq_false_iff.mpr c40
                 subst c40
                 have H1 : (gridhalllaw3_WelfareMoves.l0 kj31 l0 l1 t272 t273 t274 t275 t276 t277 4 x16_4 x17_4 (wrap64 (x18_4 + 1))) = some r := by rw [if_neg (show ¬ (false = true) by decide)] at H; exact H
                 clear H
                 have H := H1
                 clear H1
                 as_aux_lemma =>
                  have H' := Aside0.mk H
                  clear H
                  try go_wp2
                  have n0_ := Aside0.mk (below_drew1 HB.out)
                  clear HB
                  have HB := n0_
                  clear n0_
                  have p279 : 0 ≤ (x18_4 : Int) := of_decide_eq_true (by first | (with_reducible assumption) | assumption)
                  have q279 : x18_4 < (l1.length : Int) := of_decide_eq_true (by first | (with_reducible assumption) | assumption)
                  obtain ⟨ad279, e279, hx279_0⟩ := Kd.at_int HR1.out x18_4 p279 q279
                  have hw279_0 := hx279_0
                  cases e279
                  replace hx279_0 := (HB.out.cell (World.block_lt_of_cell? w _ hx279_0)).trans hx279_0
                  replace p279 := eq_true p279
                  replace q279 := eq_true q279
                  have p280 : 0 ≤ (x18_4 : Int) := of_decide_eq_true (by first | (with_reducible assumption) | assumption)
                  have q280 : x18_4 < (l0.length : Int) := of_decide_eq_true (by first | (with_reducible assumption) | assumption)
                  obtain ⟨ad280, A280_1, c280_1, e280, hx280_0, hx280_1, hl280_1, hi280_1⟩ := at_T29 HR0.out x18_4 p280 q280
                  have hw280_1 := hx280_1
                  have hw280_0 := hx280_0
                  cases e280
                  replace hx280_0 := (HB.out.cell (World.block_lt_of_cell? w _ hx280_0)).trans hx280_0
                  replace hx280_1 := (HB.out.cell (World.block_lt_of_cell? w _ hx280_1)).trans hx280_1
                  have HR280_1 := Aside0.mk hi280_1
                  have HC280_1 := Aside0.mk hl280_1
                  clear hi280_1 hl280_1
                  replace p280 := eq_true p280
                  replace q280 := eq_true q280
                  refine start_ (n := 11) (S := fun w' => w'.cell? (ad279.add (x18_4).toNat) = some (.int .i64 (rd l1 x18_4)) ∧ w'.cell? (ad280.add ((x18_4).toNat * 2)) = some (.string ((rd_T29 l0 x18_4).f0)) ∧ w'.cell? ⟨(ad280.add ((x18_4).toNat * 2)).block, (ad280.add ((x18_4).toNat * 2)).off + 1, none⟩ = some (.slice A280_1 ((rd_T29 l0 x18_4).f1).length c280_1)) (ds := []) #[false, false, false, false, false, false, false, false, false, false, false] (by kernel_rfl) rfl rfl ⟨((HB.out.cell (World.block_lt_of_cell? w _ hw279_0)).trans hw279_0), ((HB.out.cell (World.block_lt_of_cell? w _ hw280_0)).trans hw280_0), ((HB.out.cell (World.block_lt_of_cell? w _ hw280_1)).trans hw280_1)⟩ (fun hHeld => ?_); refine with_tabW gridhalllaw3_WelfareMoves.tab13 gridhalllaw3_WelfareMoves.bits13 (fun HT_ HW_ => ?_)
                  generalize wc.drew = w46 at HB HR280_1 hx279_0 hx280_0 hx280_1 hHeld ⊢
                  refine pure_ (i := 0) (N := some 88) (v := ?_) (a' := ?_) #[true, false, false, false, false, false, false, false, false, false, false] rfl rfl (any_of HT_.out (by kernel_rfl)) (fun _ _ _ h => h) (Or.inl ⟨by rfl, ?_⟩) ?_ ?_
                  rotate_left
                  ·intro w'
                   go_simp
                   with_reducible rfl
                  rotate_left
                  ·simp only [Act.put, List.setIfInBounds_toArray, List.set_cons_zero, List.set_cons_succ, i64_w, i32_w]
                   rfl
                  refine pure_ (i := 1) (N := some 89) (v := ?_) (a' := ?_) #[true, true, false, false, false, false, false, false, false, false, false] rfl rfl (any_of HT_.out (by kernel_rfl)) (fun _ _ _ h => h) (Or.inl ⟨by rfl, ?_⟩) ?_ ?_
                  rotate_left
                  ·intro w'
                   go_simp
                   with_reducible rfl
                  rotate_left
                  ·simp only [Act.put, List.setIfInBounds_toArray, List.set_cons_zero, List.set_cons_succ, i64_w, i32_w]
                   rfl
                  refine pure_ (i := 2) (N := some 90) (v := ?_) (a' := ?_) #[true, true, true, false, false, false, false, false, false, false, false] rfl rfl (any_of HT_.out (by kernel_rfl)) (fun _ _ _ h => h) (Or.inl ⟨by rfl, ?_⟩) ?_ ?_
                  rotate_left
                  ·intro w'
                   go_simp
                   with_reducible rfl
                  rotate_left
                  ·simp only [Act.put, List.setIfInBounds_toArray, List.set_cons_zero, List.set_cons_succ, i64_w, i32_w]
                   rfl
                  refine pure_ (i := 4) (N := some 92) (v := ?_) (a' := ?_) #[true, true, true, false, true, false, false, false, false, false, false] rfl rfl (any_of HT_.out (by kernel_rfl)) (fun _ _ _ h => h) (Or.inl ⟨by rfl, ?_⟩) ?_ ?_
                  rotate_left
                  ·intro w'
                   go_simp
                   with_reducible rfl
                  rotate_left
                  ·simp only [Act.put, List.setIfInBounds_toArray, List.set_cons_zero, List.set_cons_succ, i64_w, i32_w]
                   rfl
                  refine pure_ (i := 5) (N := some 93) (v := ?_) (a' := ?_) #[true, true, true, false, true, true, false, false, false, false, false] rfl rfl (any_of HT_.out (by kernel_rfl)) (fun _ _ _ h => h) (Or.inl ⟨by rfl, ?_⟩) ?_ ?_
                  rotate_left
                  ·intro w'
                   go_simp
                   with_reducible rfl
                  rotate_left
                  ·simp only [Act.put, List.setIfInBounds_toArray, List.set_cons_zero, List.set_cons_succ, i64_w, i32_w]
                   rfl
                  refine pure_ (i := 6) (N := some 94) (v := ?_) (a' := ?_) #[true, true, true, false, true, true, true, false, false, false, false] rfl rfl (any_of HT_.out (by kernel_rfl)) (fun _ _ _ h => h) (Or.inl ⟨by rfl, ?_⟩) ?_ ?_
                  rotate_left
                  ·intro w'
                   go_simp
                   with_reducible rfl
                  rotate_left
                  ·simp only [Act.put, List.setIfInBounds_toArray, List.set_cons_zero, List.set_cons_succ, i64_w, i32_w]
                   rfl
                  refine take_ (i := 3) (N := some 91) (v := ?_) (a' := ?_) #[true, true, true, true, true, true, true, false, false, false, false] rfl rfl (take_ofW HT_.out HW_.out (by kernel_rfl)) (fun _ _ _ h => h) (Or.inl ⟨by rfl, ?_⟩) hHeld ?_ ?_
                  rotate_left
                  ·rintro w' ⟨s0, s1, s2⟩
                   go_simp
                   with_reducible rfl
                  rotate_left
                  ·simp only [Act.put, List.setIfInBounds_toArray, List.set_cons_zero, List.set_cons_succ, i64_w, i32_w]
                   rfl
                  refine take_ (i := 7) (N := some 95) (v := ?_) (a' := ?_) #[true, true, true, true, true, true, true, true, false, false, false] rfl rfl (take_ofW HT_.out HW_.out (by kernel_rfl)) (fun _ _ _ h => h) (Or.inl ⟨by rfl, ?_⟩) hHeld ?_ ?_
                  rotate_left
                  ·rintro w' ⟨s0, s1, s2⟩
                   go_simp
                   with_reducible rfl
                  rotate_left
                  ·simp only [Act.put, List.setIfInBounds_toArray, List.set_cons_zero, List.set_cons_succ, i64_w, i32_w]
                   rfl
                  refine one_ (i := 8) (N := some 96) #[true, true, true, true, true, true, true, true, true, false, false] rfl rfl (one_of HT_.out (by kernel_rfl)) (by decide) (fun K hK => ?_)
                  refine goes_ Try.func15 (by kernel_rfl) rfl #[.agg #[.string ((rd_T29 l0 x18_4).f0), .slice A280_1 ((rd_T29 l0 x18_4).f1).length c280_1]] (by rfl) rfl rfl (by (try simp only [List.map_toArray, List.map_cons, List.map_nil]); first | done | rfl | (simp only [List.length_drop, List.length_take]; rfl)) ?_
                  with_reducible refine (gridhallref3_All.calls kj31 ((rd_T29 l0 x18_4).f0) _ _ ((rd_T29 l0 x18_4).f1) t281 _ ?side1 ?side2 A38.out).mono ?_
                  (case side1 => repeat (first | exact (Kd.C_below HR280_1.out HB.out) | (with_reducible refine Kd.C_alloc ?_ _) | (with_reducible refine Kd.C_drewN ?_ _) | (with_reducible refine Kd.C_drew ?_)))
                  (case side2 => exact HC280_1.out)
                  rintro e w47 ⟨rfl, hb⟩
                  refine ⟨_, rfl, ?_⟩
                  have n0_ := Aside0.mk (below_step (by repeat (first | (with_reducible first | exact HB.out | apply below_alloc | apply pw_below_drewN | apply below_drew1) | exact HB.out)) hb)
                  clear HB
                  have HB := n0_
                  clear n0_
                  (try clear hb)
                  (try clear hb2)
                  (try clear hk)
                  (try clear hi)
                  refine hK.out _ _ ⟨((HB.out.cell (World.block_lt_of_cell? w _ hw279_0)).trans hw279_0), ((HB.out.cell (World.block_lt_of_cell? w _ hw280_0)).trans hw280_0), ((HB.out.cell (World.block_lt_of_cell? w _ hw280_1)).trans hw280_1)⟩ (fun hHeld => ?_)
                  clear hK K
                  refine norm_ (a' := ?_) ?_ ?_
                  rotate_left
                  ·show Act.put _ (some 96) _ = _
                   simp only [Act.put, List.setIfInBounds_toArray, List.set_cons_zero, List.set_cons_succ, i64_w, i32_w]
                   rfl
                  refine one_ (i := 9) (N := some 97) #[true, true, true, true, true, true, true, true, true, true, false] rfl rfl (one_of HT_.out (by kernel_rfl)) (by decide) (fun K hK => ?_)
                  refine goes_ Try.func16 (by kernel_rfl) rfl #[.int .i64 (rd l1 x18_4), .int .i64 0, .int .i64 t281] (by rfl) rfl rfl (by (try simp only [List.map_toArray, List.map_cons, List.map_nil]); first | done | rfl | (simp only [List.length_drop, List.length_take]; rfl)) ?_
                  with_reducible refine (gridhallref3_In.calls (rd l1 x18_4) 0 t281 false _ A39.out).mono ?_
                  rintro e w' ⟨rfl, ⟨nd, rfl⟩⟩
                  refine ⟨_, rfl, ?_⟩
                  refine hK.out _ _ ⟨((HB.out.cell (World.block_lt_of_cell? w _ hw279_0)).trans hw279_0), ((HB.out.cell (World.block_lt_of_cell? w _ hw280_0)).trans hw280_0), ((HB.out.cell (World.block_lt_of_cell? w _ hw280_1)).trans hw280_1)⟩ (fun hHeld => ?_)
                  clear hK K
                  refine norm_ (a' := ?_) ?_ ?_
                  rotate_left
                  ·show Act.put _ (some 97) _ = _
                   simp only [Act.put, List.setIfInBounds_toArray, List.set_cons_zero, List.set_cons_succ, i64_w, i32_w]
                   rfl
                  refine pure_ (i := 10) (N := some 98) (v := ?_) (a' := ?_) #[true, true, true, true, true, true, true, true, true, true, true] rfl rfl (any_of HT_.out (by kernel_rfl)) (fun _ _ _ h => h) (Or.inl ⟨by rfl, ?_⟩) ?_ ?_
                  rotate_left
                  ·intro w'
                   go_simp
                   with_reducible rfl
                  rotate_left
                  ·simp only [Act.put, List.setIfInBounds_toArray, List.set_cons_zero, List.set_cons_succ, i64_w, i32_w]
                   rfl
                  refine done_ (done_of HT_.out (by kernel_rfl)) ?_
                  try go_wp2
                  go_roundg kj31
                  case measure => have := HJ5.out; have := HJ24.out; have := HJ29.out; have := HK4.out; have := HJ31.out; omega
                  case rel => exact ⟨(4), (x16_4), (x17_4), (wrap64 (x18_4 + 1)), (by first | rfl | (simp; done) | (simp [*]; done)), (by first | rfl | (simp; done) | (simp [*]; done)), (by first | rfl | (simp; done) | (simp [*]; done)), (by first | rfl | (simp; done) | (simp [*]; done)), H', ⟨by have := HJ5.out; have := HJ24.out; have := HJ29.out; have := HK4.out; have := HJ31.out; omega⟩, ⟨by repeat (first | (with_reducible first | exact HB.out | apply below_alloc | apply pw_below_drewN | apply below_drew1) | exact HB.out)⟩⟩
               ·rw [if_neg c37] at H
                exact absurd H (by simp)
              ·rw [if_neg c36] at H
               exact absurd H (by simp)
             ·rw [if_neg c35] at H
              exact absurd H (by simp)
            ·replace c34 := Bool.eq_false_iff.mpr c34
             subst c34
             have H1 : (if x15_4 = 0 then (if x16_4 > 200 then (some true) else ((gridhallref3_Served.f kj31 l0 x16_4).bind fun t287 => (gridhalllaw3_WelfareMoves.l1 kj31 l0 l1 t272 t273 t274 t275 t276 t277 x17_4 t287 (t287.length : Int) 0))) else (if t273 = x15_4 then (if t277 = x15_4 then (if t272 = 0 then (if t274 = 0 then (if t275 = 0 then (some (t276 == 0)) else (some false)) else (some false)) else (some false)) else (some false)) else (some false))) = some r := by rw [if_neg (show ¬ (false = true) by decide)] at H; exact H
             clear H
             have H := H1
             clear H1
             by_cases c48 : x15_4 = 0
             ·rw [if_pos c48] at H
              have c48b0 : (x15_4 == 0) = true := beq_iff_eq.mpr c48
              have c48b1 : (x15_4 != 0) = false := bne_eq_false_iff_eq.mpr c48
              clear c48
              by_cases c49 : x16_4 > 200
              ·rw [if_pos c49] at H
               have c49b0 : decide (200 < x16_4) = true := decide_eq_true c49
               clear c49
               as_aux_lemma =>
                obtain rfl := Option.some.inj H
                go_wp2
                go_ret
                exact ⟨by first | rfl | (simp [errW_none, errW_some] <;> rfl) | (simp [*, errW_none, errW_some] <;> rfl), by repeat (first | (with_reducible first | exact HB.out | apply below_alloc | apply pw_below_drewN | apply below_drew1) | exact HB.out)⟩
              ·rw [if_neg c49] at H
               have c49b0 : decide (200 < x16_4) = false := decide_eq_false c49
               clear c49
               replace H := Option.bind_eq_some_iff.mp H
               obtain ⟨t287, A500, H⟩ := H
               replace H : (gridhalllaw3_WelfareMoves.l1 kj31 l0 l1 t272 t273 t274 t275 t276 t277 x17_4 t287 (t287.length : Int) 0) = some r := H
               have A50 := Aside0.mk A500
               clear A500
               have H' := Aside0.mk H
               clear H
               go_wp2_with (first | ((with_reducible refine gate_callee (f := 25) rfl ?_); refine goesL_ (some 146) rfl rfl Try.func25 (by kernel_rfl) rfl #[.slice A0 l0.length c0, .int .i64 x16_4] rfl (by (try simp only [List.map_toArray, List.map_cons, List.map_nil]); first | done | rfl | (simp only [List.length_drop, List.length_take]; rfl)) ?_; (with_reducible refine (gridhallref3_Served.calls kj31 _ _ l0 x16_4 t287 _ ?side1 ?side2 A50.out).mono ?_); (case side1 => repeat (first | exact (Kd.C_below HR0.out HB.out) | (with_reducible refine Kd.C_alloc ?_ _) | (with_reducible refine Kd.C_drewN ?_ _) | (with_reducible refine Kd.C_drew ?_))); (case side2 => exact HC0.out); rintro e w51 ⟨v288, rfl, ho0, hb⟩; refine ⟨_, rfl, ?_⟩; have n0_ := Aside0.mk (Kd.R_lower ho0 (below_size (by repeat (first | (with_reducible first | exact HB.out | apply below_alloc | apply pw_below_drewN | apply below_drew1) | exact HB.out)))); have n1_ := Aside0.mk (below_step (by repeat (first | (with_reducible first | exact HB.out | apply below_alloc | apply pw_below_drewN | apply below_drew1) | exact HB.out)) hb); clear HB; have HO289 := n0_; have HB := n1_; clear n0_ n1_; (try clear hb); (try clear hb2); (try clear hk); (try clear hi); (try clear ho0); obtain ⟨Ao52, co52, eo52⟩ := Kd.R_slice HO289.out; subst eo52))
               go_loopg [17, 148] kj31 (fun kq v17 v148 w' => ∃ (x17_6 : Int) (x148_6 : Int), v17 = .int .i64 x17_6 ∧ v148 = .int .i64 x148_6 ∧ Aside0 (gridhalllaw3_WelfareMoves.l1 kq l0 l1 t272 t273 t274 t275 t276 t277 x17_6 t287 (t287.length : Int) x148_6 = some r) ∧ Aside0 (kq ≤ kj31) ∧ Aside0 (Kd.R (Kd.int .i64) 3 w' w.heap.size (fun _ => True) (.slice Ao52 t287.length co52) t287) ∧ Aside0 (Below w.heap.size w w'))
               case atStart => exact ⟨(x17_4), (0), (by first | rfl | (simp; done) | (simp [*]; done)), (by first | rfl | (simp; done) | (simp [*]; done)), H', ⟨Nat.le_refl _⟩, ⟨by (with_reducible repeat (first | apply Kd.R_alloc | apply Kd.R_drewN | apply Kd.R_drew)); exact HO289.out⟩, ⟨by repeat (first | (with_reducible first | exact HB.out | apply below_alloc | apply pw_below_drewN | apply below_drew1) | exact HB.out)⟩⟩
               case round =>
                clear H'
                try clear c1
                try clear c2
                try clear p2
                try clear q2
                try clear hx2
                try clear c3
                try clear c4
                try clear p6
                try clear c15
                try clear c16
                try clear c18
                try clear c18b0
                try clear c18b1
                try clear c19
                try clear c19b0
                try clear c19b1
                try clear c20
                try clear c20b0
                try clear c20b1
                try clear c21
                try clear c24
                try clear c25
                try clear c27
                try clear p27
                try clear q27
                try clear hx27
                try clear c28
                try clear p28
                try clear q28
                try clear hx28
                try clear c29
                try clear c29b0
                try clear c29b1
                try clear c31
                try clear c33
                try clear c33b0
                try clear c34
                try clear c35
                try clear c35b0
                try clear c36
                try clear c36b0
                try clear c37
                try clear c37b0
                try clear c40
                try clear c48
                try clear c48b0
                try clear c48b1
                try clear c49
                try clear c49b0
                try clear hx279_0
                try clear hx280_0
                try clear hx280_1
                try clear hx283_0
                try clear hx284_0
                try clear hx284_1
                try clear hx285_0
                try clear p2
                try clear p279
                try clear p280
                try clear p283
                try clear p284
                try clear p285
                try clear q279
                try clear q280
                try clear q283
                try clear q284
                try clear q285
                obtain ⟨x17_6, x148_6, rfl, rfl, HA, HK6, HO_146, HB⟩ := hrel
                cases gk with
                | zero => exact absurd HA.out (by simp [gridhalllaw3_WelfareMoves.l1])
                | succ k6 =>
                 have H := HA.out
                 clear HA
                 simp only [gridhalllaw3_WelfareMoves.l1] at H
                 by_cases c53 : x148_6 < (t287.length : Int)
                 ·rw [if_pos c53] at H
                  have c53b0 : decide (x148_6 < (t287.length : Int)) = true := decide_eq_true c53
                  clear c53
                  by_cases c54 : 0 ≤ x148_6
                  ·rw [if_pos c54] at H
                   have c54b0 : decide (0 ≤ x148_6) = true := decide_eq_true c54
                   clear c54
                   by_cases c55 : x148_6 < (t287.length : Int)
                   ·rw [if_pos c55] at H
                    have c55b0 : decide (x148_6 < (t287.length : Int)) = true := decide_eq_true c55
                    clear c55
                    by_cases c56 : x148_6 < (l0.length : Int)
                    ·rw [if_pos c56] at H
                     have c56b0 : decide (x148_6 < (l0.length : Int)) = true := decide_eq_true c56
                     clear c56
                     replace H := Option.bind_eq_some_iff.mp H
                     obtain ⟨t292, A570, H⟩ := H
                     replace H : (gridhalllaw3_WelfareMoves.l1 k6 l0 l1 t272 t273 t274 t275 t276 t277 (wrap64 (x17_6 - t292)) t287 (t287.length : Int) (wrap64 (x148_6 + 1))) = some r := H
                     have A57 := Aside0.mk A570
                     clear A570
                     as_aux_lemma =>
                      have H' := Aside0.mk H
                      clear H
                      have p290 : 0 ≤ (x148_6 : Int) := of_decide_eq_true (by first | (with_reducible assumption) | assumption)
                      have q290 : x148_6 < (t287.length : Int) := of_decide_eq_true (by first | (with_reducible assumption) | assumption)
                      obtain ⟨ad290, e290, hx290_0⟩ := Kd.at_int (Kd.R_reads' HO_146.out).2.2 x148_6 p290 q290
                      cases e290
                      replace p290 := eq_true p290
                      replace q290 := eq_true q290
                      have p291 : 0 ≤ (x148_6 : Int) := of_decide_eq_true (by first | (with_reducible assumption) | assumption)
                      have q291 : x148_6 < (l0.length : Int) := of_decide_eq_true (by first | (with_reducible assumption) | assumption)
                      obtain ⟨ad291, A291_1, c291_1, e291, hx291_0, hx291_1, hl291_1, hi291_1⟩ := at_T29 HR0.out x148_6 p291 q291
                      cases e291
                      replace hx291_0 := (HB.out.cell (World.block_lt_of_cell? w _ hx291_0)).trans hx291_0
                      replace hx291_1 := (HB.out.cell (World.block_lt_of_cell? w _ hx291_1)).trans hx291_1
                      have HR291_1 := Aside0.mk hi291_1
                      have HC291_1 := Aside0.mk hl291_1
                      clear hi291_1 hl291_1
                      replace p291 := eq_true p291
                      replace q291 := eq_true q291
                      go_wp2_with (first | ((with_reducible refine gate_callee (f := 19) rfl ?_); refine goesL_ (some 159) rfl rfl Try.func19 (by kernel_rfl) rfl #[.agg #[.string ((rd_T29 l0 x148_6).f0), .slice A291_1 ((rd_T29 l0 x148_6).f1).length c291_1], .int .i64 (rd t287 x148_6)] rfl (by (try simp only [List.map_toArray, List.map_cons, List.map_nil]); first | done | rfl | (simp only [List.length_drop, List.length_take]; rfl)) ?_; (with_reducible refine (gridhallref3_Cost.calls k6 ((rd_T29 l0 x148_6).f0) _ _ ((rd_T29 l0 x148_6).f1) (rd t287 x148_6) t292 _ ?side1 ?side2 A57.out).mono ?_); (case side1 => repeat (first | exact (Kd.C_below HR291_1.out HB.out) | (with_reducible refine Kd.C_alloc ?_ _) | (with_reducible refine Kd.C_drewN ?_ _) | (with_reducible refine Kd.C_drew ?_))); (case side2 => exact HC291_1.out); rintro e w58 ⟨rfl, hb⟩; refine ⟨_, rfl, ?_⟩; have n0_ := Aside0.mk (Kd.R_below (by (with_reducible repeat (first | apply Kd.R_alloc | apply Kd.R_drewN | apply Kd.R_drew)); exact HO_146.out) hb); have n1_ := Aside0.mk (below_step (by repeat (first | (with_reducible first | exact HB.out | apply below_alloc | apply pw_below_drewN | apply below_drew1) | exact HB.out)) hb); clear HO_146; clear HB; have HO_146 := n0_; have HB := n1_; clear n0_ n1_; (try clear hb); (try clear hb2); (try clear hk); (try clear hi)))
                      go_roundg k6
                      case measure => have := HJ5.out; have := HJ24.out; have := HJ29.out; have := HK4.out; have := HJ31.out; have := HK6.out; omega
                      case rel => exact ⟨(wrap64 (x17_6 - t292)), (wrap64 (x148_6 + 1)), (by first | rfl | (simp; done) | (simp [*]; done)), (by first | rfl | (simp; done) | (simp [*]; done)), H', ⟨by have := HJ5.out; have := HJ24.out; have := HJ29.out; have := HK4.out; have := HJ31.out; have := HK6.out; omega⟩, ⟨by (with_reducible repeat (first | apply Kd.R_alloc | apply Kd.R_drewN | apply Kd.R_drew)); exact HO_146.out⟩, ⟨by repeat (first | (with_reducible first | exact HB.out | apply below_alloc | apply pw_below_drewN | apply below_drew1) | exact HB.out)⟩⟩
                    ·rw [if_neg c56] at H
                     exact absurd H (by simp)
                   ·rw [if_neg c55] at H
                    exact absurd H (by simp)
                  ·rw [if_neg c54] at H
                   exact absurd H (by simp)
                 ·rw [if_neg c53] at H
                  have c53b0 : decide (x148_6 < (t287.length : Int)) = false := decide_eq_false c53
                  clear c53
                  have HC59 := Aside0.mk H
                  clear H
                  go_upto_region 25 with (fail)
                  go_cut [168] (fun v168 wc => ∃ (kq : Nat) (x168_58 : Bool), v168 = .bool x168_58 ∧ Aside0 (gridhalllaw3_WelfareMoves.j6 kq l0 l1 t274 t275 t276 t277 x168_58 = some r) ∧ Aside0 (kq ≤ k6) ∧ Aside0 (Below w.heap.size w wc))
                  case first =>
                   have H := HC59.out
                   clear HC59
                   by_cases c60 : t273 = 0
                   ·rw [if_pos c60] at H
                    have c60b0 : (t273 == 0) = true := beq_iff_eq.mpr c60
                    have c60b1 : (t273 != 0) = false := bne_eq_false_iff_eq.mpr c60
                    clear c60
                    (first | rw [c60b0] | (simp only [i64_w, i32_w]; rw [c60b0]) | skip)
                    as_aux_lemma =>
                     have H' := Aside0.mk H
                     clear H
                     go_wp2
                     go_meet
                     case rel => exact ⟨_, ((t272 != x17_6)), (by first | rfl | (simp; done) | (simp [*]; done)), H', ⟨by have := HJ5.out; have := HJ24.out; have := HJ29.out; have := HK4.out; have := HJ31.out; have := HK6.out; first | omega | exact Nat.le_refl _⟩, ⟨by repeat (first | (with_reducible first | exact HB.out | apply below_alloc | apply pw_below_drewN | apply below_drew1) | exact HB.out)⟩⟩
                   ·rw [if_neg c60] at H
                    have c60b0 : (t273 == 0) = false := beq_eq_false_iff_ne.mpr c60
                    have c60b1 : (t273 != 0) = true := bne_iff_ne.mpr c60
                    (first | rw [c60b0] | (simp only [i64_w, i32_w]; rw [c60b0]) | skip)
                    as_aux_lemma =>
                     have H' := Aside0.mk H
                     clear H
                     go_wp2
                     go_meet
                     case rel => exact ⟨_, (true), (by first | rfl | (simp; done) | (simp [*]; done)), H', ⟨by have := HJ5.out; have := HJ24.out; have := HJ29.out; have := HK4.out; have := HJ31.out; have := HK6.out; first | omega | exact Nat.le_refl _⟩, ⟨by repeat (first | (with_reducible first | exact HB.out | apply below_alloc | apply pw_below_drewN | apply below_drew1) | exact HB.out)⟩⟩
                  case rest =>
                   clear HC59
                   try clear c1
                   try clear c2
                   try clear p2
                   try clear q2
                   try clear hx2
                   try clear c3
                   try clear c4
                   try clear c5
                   try clear c6
                   try clear p6
                   try clear c15
                   try clear c16
                   try clear c18
                   try clear c18b0
                   try clear c18b1
                   try clear c19
                   try clear c19b0
                   try clear c19b1
                   try clear c20
                   try clear c20b0
                   try clear c20b1
                   try clear c21
                   try clear c24
                   try clear c25
                   try clear c27
                   try clear p27
                   try clear q27
                   try clear hx27
                   try clear c28
                   try clear p28
                   try clear q28
                   try clear hx28
                   try clear c29
                   try clear c29b0
                   try clear c29b1
                   try clear p29
                   try clear q29
                   try clear hx29
                   try clear c31
                   try clear c33
                   try clear c33b0
                   try clear c34
                   try clear c35
                   try clear c35b0
                   try clear c36
                   try clear c36b0
                   try clear c37
                   try clear c37b0
                   try clear c40
                   try clear c48
                   try clear c48b0
                   try clear c48b1
                   try clear c49
                   try clear c49b0
                   try clear c53
                   try clear c53b0
                   try clear c54
                   try clear c54b0
                   try clear c55
                   try clear c55b0
                   try clear c56
                   try clear c56b0
                   try clear c60
                   try clear c60b0
                   try clear c60b1
                   try clear hx279_0
                   try clear hx280_0
                   try clear hx280_1
                   try clear hx283_0
                   try clear hx284_0
                   try clear hx284_1
                   try clear hx285_0
                   try clear hx290_0
                   try clear hx291_0
                   try clear hx291_1
                   try clear p2
                   try clear p27
                   try clear p279
                   try clear p28
                   try clear p280
                   try clear p283
                   try clear p284
                   try clear p285
                   try clear p290
                   try clear p291
                   try clear p6
                   try clear q2
                   try clear q27
                   try clear q279
                   try clear q28
                   try clear q280
                   try clear q283
                   try clear q284
                   try clear q285
                   try clear q290
                   try clear q291
                   obtain ⟨kq, x168_58, rfl, HA, HJ58, HB⟩ := hcut
                   cases kq with
                   | zero => exact absurd HA.out (by simp [gridhalllaw3_WelfareMoves.j6])
                   | succ kj58 =>
                    have H := HA.out
                    clear HA
                    simp only [gridhalllaw3_WelfareMoves.j6] at H
                    by_cases c61 : x168_58 = true
                    ·subst c61
                     have H1 : (some false) = some r := by rw [if_pos rfl] at H; exact H
                     clear H
                     have H := H1
                     clear H1
                     as_aux_lemma =>
                      obtain rfl := Option.some.inj H
                      go_wp2
                      go_ret
                      exact ⟨by first | rfl | (simp [errW_none, errW_some] <;> rfl) | (simp [*, errW_none, errW_some] <;> rfl), by repeat (first | (with_reducible first | exact HB.out | apply below_alloc | apply pw_below_drewN | apply below_drew1) | exact HB.out)⟩
                    ·replace c61 := Bool.eq_false_iff.mpr c61
                     subst c61
                     have H1 : (gridhalllaw3_WelfareMoves.l2 kj58 l0 l1 t274 t275 t276 t277 0 0 0 l0 (l0.length : Int) 0) = some r := by rw [if_neg (show ¬ (false = true) by decide)] at H; exact H
                     clear H
                     have H := H1
                     clear H1
                     have H' := Aside0.mk H
                     clear H
                     go_wp2
                     go_loopg [21, 22, 23, 171] kj58 (fun kq v21 v22 v23 v171 w' => ∃ (x21_8 : Int) (x22_8 : Int) (x23_8 : Int) (x171_8 : Int), v21 = .int .i64 x21_8 ∧ v22 = .int .i64 x22_8 ∧ v23 = .int .i64 x23_8 ∧ v171 = .int .i64 x171_8 ∧ Aside0 (gridhalllaw3_WelfareMoves.l2 kq l0 l1 t274 t275 t276 t277 x21_8 x22_8 x23_8 l0 (l0.length : Int) x171_8 = some r) ∧ Aside0 (kq ≤ kj58) ∧ Aside0 (Below w.heap.size w w'))
                     case atStart => exact ⟨(0), (0), (0), (0), (by first | rfl | (simp; done) | (simp [*]; done)), (by first | rfl | (simp; done) | (simp [*]; done)), (by first | rfl | (simp; done) | (simp [*]; done)), (by first | rfl | (simp; done) | (simp [*]; done)), H', ⟨Nat.le_refl _⟩, ⟨by repeat (first | (with_reducible first | exact HB.out | apply below_alloc | apply pw_below_drewN | apply below_drew1) | exact HB.out)⟩⟩
                     case round =>
                      clear H'
                      try clear c1
                      try clear c2
                      try clear p2
                      try clear q2
                      try clear hx2
                      try clear c3
                      try clear c4
                      try clear c5
                      try clear c6
                      try clear p6
                      try clear c15
                      try clear c16
                      try clear c18
                      try clear c18b0
                      try clear c18b1
                      try clear c19
                      try clear c19b0
                      try clear c19b1
                      try clear c20
                      try clear c20b0
                      try clear c20b1
                      try clear c21
                      try clear c24
                      try clear c25
                      try clear c27
                      try clear p27
                      try clear q27
                      try clear hx27
                      try clear c28
                      try clear p28
                      try clear q28
                      try clear hx28
                      try clear c29
                      try clear c29b0
                      try clear c29b1
                      try clear p29
                      try clear q29
                      try clear hx29
                      try clear c31
                      try clear c33
                      try clear c33b0
                      try clear c34
                      try clear c35
                      try clear c35b0
                      try clear c36
                      try clear c36b0
                      try clear c37
                      try clear c37b0
                      try clear c40
                      try clear c48
                      try clear c48b0
                      try clear c48b1
                      try clear c49
                      try clear c49b0
                      try clear c53
                      try clear c53b0
                      try clear c54
                      try clear c54b0
                      try clear c55
                      try clear c55b0
                      try clear c56
                      try clear c56b0
                      try clear c60
                      try clear c60b0
                      try clear c60b1
                      try clear c61
                      try clear hx279_0
                      try clear hx280_0
                      try clear hx280_1
                      try clear hx283_0
                      try clear hx284_0
                      try clear hx284_1
                      try clear hx285_0
                      try clear hx290_0
                      try clear hx291_0
                      try clear hx291_1
                      try clear p2
                      try clear p27
                      try clear p279
                      try clear p28
                      try clear p280
                      try clear p283
                      try clear p284
                      try clear p285
                      try clear p29
                      try clear p290
                      try clear p291
                      try clear p6
                      try clear q2
                      try clear q27
                      try clear q279
                      try clear q28
                      try clear q280
                      try clear q283
                      try clear q284
                      try clear q285
                      try clear q29
                      try clear q290
                      try clear q291
                      obtain ⟨x21_8, x22_8, x23_8, x171_8, rfl, rfl, rfl, rfl, HA, HK8, HB⟩ := hrel
                      cases gk with
                      | zero => exact absurd HA.out (by simp [gridhalllaw3_WelfareMoves.l2])
                      | succ k8 =>
                       have H := HA.out
                       clear HA
                       simp only [gridhalllaw3_WelfareMoves.l2] at H
                       by_cases c62 : x171_8 < (l0.length : Int)
                       ·rw [if_pos c62] at H
                        have c62b0 : decide (x171_8 < (l0.length : Int)) = true := decide_eq_true c62
                        clear c62
                        by_cases c63 : 0 ≤ x171_8
                        ·rw [if_pos c63] at H
                         have c63b0 : decide (0 ≤ x171_8) = true := decide_eq_true c63
                         clear c63
                         by_cases c64 : x171_8 < (l0.length : Int)
                         ·rw [if_pos c64] at H
                          have c64b0 : decide (x171_8 < (l0.length : Int)) = true := decide_eq_true c64
                          clear c64
                          have H' := Aside0.mk H
                          clear H
                          have p293 : 0 ≤ (x171_8 : Int) := of_decide_eq_true (by first | (with_reducible assumption) | assumption)
                          have q293 : x171_8 < (l0.length : Int) := of_decide_eq_true (by first | (with_reducible assumption) | assumption)
                          obtain ⟨ad293, A293_1, c293_1, e293, hx293_0, hx293_1, hl293_1, hi293_1⟩ := at_T29 HR0.out x171_8 p293 q293
                          cases e293
                          replace hx293_0 := (HB.out.cell (World.block_lt_of_cell? w _ hx293_0)).trans hx293_0
                          replace hx293_1 := (HB.out.cell (World.block_lt_of_cell? w _ hx293_1)).trans hx293_1
                          have HR293_1 := Aside0.mk hi293_1
                          have HC293_1 := Aside0.mk hl293_1
                          clear hi293_1 hl293_1
                          replace p293 := eq_true p293
                          replace q293 := eq_true q293
                          go_wp2_with (first | ((with_reducible refine gate_dst (N := 25) rfl ?_); (try (refine gate_guard (by rfl) ?_; dsimp only)); refine box_event ?hg (N := 25) ?hd (cs := #[.string (⟨#[]⟩ : ByteArray), .slice none 0 0]) (t := 29) ?hr ?_; (case hd => rfl); (case hg => rfl); (case hr => first | (go_simp; done) | (go_simp; rfl)); intro gb294 hg w65 hbox hb; have n0_ := Aside0.mk (below_step (by repeat (first | (with_reducible first | exact HB.out | apply below_alloc | apply pw_below_drewN | apply below_drew1) | exact HB.out)) hb); have n1_ := Aside0.mk (hbox); have n2_ := Aside0.mk ((by rw [hg]; exact (below_size (by repeat (first | (with_reducible first | exact HB.out | apply below_alloc | apply pw_below_drewN | apply below_drew1) | exact HB.out))) : w.heap.size ≤ gb294)); have n3_ := Aside0.mk ((by rw [hg]; exact (below_size (by repeat (first | (with_reducible first | exact HB.out | apply below_alloc | apply pw_below_drewN | apply below_drew1) | exact HB.out))) : w.heap.size ≤ gb294)); clear HB; have HB := n0_; have BK294 := n1_; have GW294 := n2_; have GE294 := n3_; clear n0_ n1_ n2_ n3_; clear hb hbox hg; have hcz66_0 : w65.cell? ⟨gb294, 0, none⟩ = some (.string (⟨#[]⟩ : ByteArray)) := (blk_cell BK294.out 0).trans rfl; have hcz66_1 : w65.cell? ⟨gb294, 1, none⟩ = some (.slice none 0 0) := (blk_cell BK294.out 1).trans rfl; have hfz66_0 := blk_frozen BK294.out 0; have hfz66_1 := blk_frozen BK294.out 1))
                          go_loopg [21, 22, 23, 178] k8 (fun kq v21 v22 v23 v178 w' => ∃ (x21_9 : Int) (x22_9 : Int) (x23_9 : Int) (x178_9 : Int), v21 = .int .i64 x21_9 ∧ v22 = .int .i64 x22_9 ∧ v23 = .int .i64 x23_9 ∧ v178 = .int .i64 x178_9 ∧ Aside0 (gridhalllaw3_WelfareMoves.l3 kq l0 l1 t274 t275 t276 t277 x21_9 x22_9 x23_9 x171_8 l0 (l0.length : Int) x171_8 l0 (l0.length : Int) x178_9 ((rd_T29 l0 x171_8).f0) ((rd_T29 l0 x171_8).f1) = some r) ∧ Aside0 (kq ≤ k8) ∧ Aside0 (w'.heap[gb294]? = some (.cells #[.string ((rd_T29 l0 x171_8).f0), (.slice A293_1 ((rd_T29 l0 x171_8).f1).length c293_1)] 29 (0, 0))) ∧ Aside0 (Below w.heap.size w w'))
                          case atStart => exact ⟨(x21_8), (x22_8), (x23_8), (0), (by first | rfl | (simp; done) | (simp [*]; done)), (by first | rfl | (simp; done) | (simp [*]; done)), (by first | rfl | (simp; done) | (simp [*]; done)), (by first | rfl | (simp; done) | (simp [*]; done)), H', ⟨Nat.le_refl _⟩, ⟨by (with_reducible repeat (first | refine blk_drewN ?_ _ | refine blk_drew ?_ | refine blk_alloc ?_ _)); refine blk_put (cs := #[.string ((rd_T29 l0 x171_8).f0), .slice none 0 0]) ?_ 1 _ rfl; (with_reducible repeat (first | refine blk_drewN ?_ _ | refine blk_drew ?_ | refine blk_alloc ?_ _)); refine blk_put (cs := #[.string (⟨#[]⟩ : ByteArray), .slice none 0 0]) ?_ 0 _ rfl; (with_reducible repeat (first | refine blk_drewN ?_ _ | refine blk_drew ?_ | refine blk_alloc ?_ _)); exact BK294.out⟩, ⟨by repeat (first | (with_reducible first | exact HB.out | apply below_alloc | apply pw_below_drewN | apply below_drew1 | refine below_set ?_ GE294.out) | exact HB.out)⟩⟩
                          case round =>
                           clear H'
                           try clear c1
                           try clear c2
                           try clear p2
                           try clear q2
                           try clear hx2
                           try clear c3
                           try clear c4
                           try clear c5
                           try clear c6
                           try clear p6
                           try clear c15
                           try clear c16
                           try clear c18
                           try clear c18b0
                           try clear c18b1
                           try clear c19
                           try clear c19b0
                           try clear c19b1
                           try clear c20
                           try clear c20b0
                           try clear c20b1
                           try clear c21
                           try clear c24
                           try clear c25
                           try clear c27
                           try clear p27
                           try clear q27
                           try clear hx27
                           try clear c28
                           try clear p28
                           try clear q28
                           try clear hx28
                           try clear c29
                           try clear c29b0
                           try clear c29b1
                           try clear p29
                           try clear q29
                           try clear hx29
                           try clear c31
                           try clear c33
                           try clear c33b0
                           try clear c34
                           try clear c35
                           try clear c35b0
                           try clear c36
                           try clear c36b0
                           try clear c37
                           try clear c37b0
                           try clear c40
                           try clear c48
                           try clear c48b0
                           try clear c48b1
                           try clear c49
                           try clear c49b0
                           try clear c53
                           try clear c53b0
                           try clear c54
                           try clear c54b0
                           try clear c55
                           try clear c55b0
                           try clear c56
                           try clear c56b0
                           try clear c60
                           try clear c60b0
                           try clear c60b1
                           try clear c61
                           try clear c62
                           try clear c62b0
                           try clear c63
                           try clear c63b0
                           try clear c64
                           try clear c64b0
                           try clear p64
                           try clear hcz66_0
                           try clear hcz66_1
                           try clear hfz66_0
                           try clear hfz66_1
                           try clear hx279_0
                           try clear hx280_0
                           try clear hx280_1
                           try clear hx283_0
                           try clear hx284_0
                           try clear hx284_1
                           try clear hx285_0
                           try clear hx290_0
                           try clear hx291_0
                           try clear hx291_1
                           try clear hx293_0
                           try clear hx293_1
                           try clear p2
                           try clear p27
                           try clear p279
                           try clear p28
                           try clear p280
                           try clear p283
                           try clear p284
                           try clear p285
                           try clear p29
                           try clear p290
                           try clear p291
                           try clear p293
                           try clear p6
                           try clear q2
                           try clear q27
                           try clear q279
                           try clear q28
                           try clear q280
                           try clear q283
                           try clear q284
                           try clear q285
                           try clear q29
                           try clear q290
                           try clear q291
                           try clear q293
                           obtain ⟨x21_9, x22_9, x23_9, x178_9, rfl, rfl, rfl, rfl, HA, HK9, BK294, HB⟩ := hrel
                           cases gk with
                           | zero => exact absurd HA.out (by simp [gridhalllaw3_WelfareMoves.l3])
                           | succ k9 =>
                            have H := HA.out
                            clear HA
                            simp only [gridhalllaw3_WelfareMoves.l3] at H
                            by_cases c67 : x178_9 < (l0.length : Int)
                            ·rw [if_pos c67] at H
                             have c67b0 : decide (x178_9 < (l0.length : Int)) = true := decide_eq_true c67
                             clear c67
                             by_cases c68 : 0 ≤ x178_9
                             ·rw [if_pos c68] at H
                              have c68b0 : decide (0 ≤ x178_9) = true := decide_eq_true c68
                              clear c68
                              by_cases c69 : x178_9 < (l0.length : Int)
                              ·rw [if_pos c69] at H
                               have c69b0 : decide (x178_9 < (l0.length : Int)) = true := decide_eq_true c69
                               clear c69
                               have HC70 := Aside0.mk H
                               clear H
                               have p295 : 0 ≤ (x178_9 : Int) := of_decide_eq_true (by first | (with_reducible assumption) | assumption)
                               have q295 : x178_9 < (l0.length : Int) := of_decide_eq_true (by first | (with_reducible assumption) | assumption)
                               obtain ⟨ad295, A295_1, c295_1, e295, hx295_0, hx295_1, hl295_1, hi295_1⟩ := at_T29 HR0.out x178_9 p295 q295
                               obtain rfl : ad293 = ad295 := (by injection e295)
                               replace hx295_0 := (HB.out.cell (World.block_lt_of_cell? w _ hx295_0)).trans hx295_0
                               replace hx295_1 := (HB.out.cell (World.block_lt_of_cell? w _ hx295_1)).trans hx295_1
                               have HR295_1 := Aside0.mk hi295_1
                               have HC295_1 := Aside0.mk hl295_1
                               clear hi295_1 hl295_1
                               replace p295 := eq_true p295
                               replace q295 := eq_true q295
                               go_upto_region 34 with (first | ((with_reducible refine gate_dst (N := 27) rfl ?_); (try (refine gate_guard (by rfl) ?_; dsimp only)); refine box_event ?hg (N := 27) ?hd (cs := #[.string (⟨#[]⟩ : ByteArray), .slice none 0 0]) (t := 29) ?hr ?_; (case hd => rfl); (case hg => rfl); (case hr => first | (go_simp; done) | (go_simp; rfl)); intro gb296 hg w71 hbox hb; have n0_ := Aside0.mk (blk_below (g := gb294) (o := .cells #[.string ((rd_T29 l0 x171_8).f0), .slice A293_1 ((rd_T29 l0 x171_8).f1).length c293_1] 29 (0, 0)) (by (with_reducible repeat (first | refine blk_drewN ?_ _ | refine blk_drew ?_ | refine blk_alloc ?_ _)); exact BK294.out) hb); have n1_ := Aside0.mk (below_step (by repeat (first | (with_reducible first | exact HB.out | apply below_alloc | apply pw_below_drewN | apply below_drew1 | refine below_set ?_ GE294.out) | exact HB.out)) hb); have n2_ := Aside0.mk (hbox); have n3_ := Aside0.mk ((by rw [hg]; exact (below_size (by repeat (first | (with_reducible first | exact HB.out | apply below_alloc | apply pw_below_drewN | apply below_drew1 | refine below_set ?_ GE294.out) | exact HB.out))) : w.heap.size ≤ gb296)); have n4_ := Aside0.mk ((by rw [hg]; exact (below_size (by repeat (first | (with_reducible first | exact HB.out | apply below_alloc | apply pw_below_drewN | apply below_drew1 | refine below_set ?_ GE294.out) | exact HB.out))) : w.heap.size ≤ gb296)); have n5_ := Aside0.mk ((by rw [hg]; exact Nat.ne_of_lt (blk_lt (g := gb294) (o := .cells #[.string ((rd_T29 l0 x171_8).f0), .slice A293_1 ((rd_T29 l0 x171_8).f1).length c293_1] 29 (0, 0)) (by (with_reducible repeat (first | refine blk_drewN ?_ _ | refine blk_drew ?_ | refine blk_alloc ?_ _)); exact BK294.out)) : gb294 ≠ gb296)); have n6_ := Aside0.mk ((by rw [hg]; exact Nat.ne_of_gt (blk_lt (g := gb294) (o := .cells #[.string ((rd_T29 l0 x171_8).f0), .slice A293_1 ((rd_T29 l0 x171_8).f1).length c293_1] 29 (0, 0)) (by (with_reducible repeat (first | refine blk_drewN ?_ _ | refine blk_drew ?_ | refine blk_alloc ?_ _)); exact BK294.out)) : gb296 ≠ gb294)); clear BK294; clear HB; have BK294 := n0_; have HB := n1_; have BK296 := n2_; have GW296 := n3_; have GE296 := n4_; have NB294_296 := n5_; have NB296_294 := n6_; clear n0_ n1_ n2_ n3_ n4_ n5_ n6_; clear hb hbox hg; have hnb72 := NB296_294.out; have hnc72 := NB294_296.out; have hcz73_0 : w71.cell? ⟨gb296, 0, none⟩ = some (.string (⟨#[]⟩ : ByteArray)) := (blk_cell BK296.out 0).trans rfl; have hcz73_1 : w71.cell? ⟨gb296, 1, none⟩ = some (.slice none 0 0) := (blk_cell BK296.out 1).trans rfl; have hfz73_0 := blk_frozen BK296.out 0; have hfz73_1 := blk_frozen BK296.out 1))
                               (try simp only [Act.put, List.setIfInBounds_toArray, List.set_cons_zero, List.set_cons_succ])
                               go_cut [201] (fun v201 wc => ∃ (kq : Nat) (x201_69 : Bool), v201 = .bool x201_69 ∧ Aside0 (gridhalllaw3_WelfareMoves.j9 kq l0 l1 t274 t275 t276 t277 x21_9 x22_9 x23_9 x171_8 x178_9 l0 (l0.length : Int) x171_8 l0 (l0.length : Int) x178_9 x201_69 ((rd_T29 l0 x171_8).f0) ((rd_T29 l0 x171_8).f1) ((rd_T29 l0 x178_9).f0) ((rd_T29 l0 x178_9).f1) = some r) ∧ Aside0 (kq ≤ k9) ∧ Aside0 (wc.heap[gb294]? = some (.cells #[.string ((rd_T29 l0 x171_8).f0), (.slice A293_1 ((rd_T29 l0 x171_8).f1).length c293_1)] 29 (0, 0))) ∧ Aside0 (wc.heap[gb296]? = some (.cells #[.string ((rd_T29 l0 x178_9).f0), (.slice A295_1 ((rd_T29 l0 x178_9).f1).length c295_1)] 29 (0, 0))) ∧ Aside0 (Below w.heap.size w wc))
                               case first =>
                                have H := HC70.out
                                clear HC70
                                by_cases c74 : x171_8 = x178_9
                                ·rw [if_pos c74] at H
                                 have c74b0 : (x171_8 == x178_9) = true := beq_iff_eq.mpr c74
                                 have c74b1 : (x171_8 != x178_9) = false := bne_eq_false_iff_eq.mpr c74
                                 clear c74
                                 (first | rw [c74b0] | (simp only [i64_w, i32_w]; rw [c74b0]) | skip)
                                 as_aux_lemma =>
                                  have H' := Aside0.mk H
                                  clear H
                                  try go_wp2
                                  have n0_ : Aside0 (((w71.setCell ⟨gb296, 0, none⟩ (.string ((rd_T29 l0 x178_9).f0))).setCell ⟨gb296, 1, none⟩ (.slice A295_1 ((rd_T29 l0 x178_9).f1).length c295_1)).heap[gb294]? = some (.cells #[.string ((rd_T29 l0 x171_8).f0), .slice A293_1 ((rd_T29 l0 x171_8).f1).length c293_1] 29 (0, 0))) := ⟨by (with_reducible repeat (first | refine blk_drewN ?_ _ | refine blk_drew ?_ | refine blk_alloc ?_ _)); refine blk_far ?_ NB294_296.out _; (with_reducible repeat (first | refine blk_drewN ?_ _ | refine blk_drew ?_ | refine blk_alloc ?_ _)); refine blk_far ?_ NB294_296.out _; (with_reducible repeat (first | refine blk_drewN ?_ _ | refine blk_drew ?_ | refine blk_alloc ?_ _)); exact BK294.out⟩
                                  have n1_ : Aside0 (((w71.setCell ⟨gb296, 0, none⟩ (.string ((rd_T29 l0 x178_9).f0))).setCell ⟨gb296, 1, none⟩ (.slice A295_1 ((rd_T29 l0 x178_9).f1).length c295_1)).heap[gb296]? = some (.cells #[.string ((rd_T29 l0 x178_9).f0), .slice A295_1 ((rd_T29 l0 x178_9).f1).length c295_1] 29 (0, 0))) := ⟨by (with_reducible repeat (first | refine blk_drewN ?_ _ | refine blk_drew ?_ | refine blk_alloc ?_ _)); refine blk_put (cs := #[.string ((rd_T29 l0 x178_9).f0), .slice none 0 0]) ?_ 1 _ rfl; (with_reducible repeat (first | refine blk_drewN ?_ _ | refine blk_drew ?_ | refine blk_alloc ?_ _)); refine blk_put (cs := #[.string (⟨#[]⟩ : ByteArray), .slice none 0 0]) ?_ 0 _ rfl; (with_reducible repeat (first | refine blk_drewN ?_ _ | refine blk_drew ?_ | refine blk_alloc ?_ _)); exact BK296.out⟩
                                  have n2_ : Aside0 (Below w.heap.size w ((w71.setCell ⟨gb296, 0, none⟩ (.string ((rd_T29 l0 x178_9).f0))).setCell ⟨gb296, 1, none⟩ (.slice A295_1 ((rd_T29 l0 x178_9).f1).length c295_1))) := ⟨by repeat (first | (with_reducible first | exact HB.out | apply below_alloc | apply pw_below_drewN | apply below_drew1 | refine below_set ?_ GE294.out | refine below_set ?_ GE296.out) | exact HB.out)⟩
                                  (try clear BK294)
                                  (try clear BK296)
                                  (try clear HB)
                                  generalize ((w71.setCell ⟨gb296, 0, none⟩ (.string ((rd_T29 l0 x178_9).f0))).setCell ⟨gb296, 1, none⟩ (.slice A295_1 ((rd_T29 l0 x178_9).f1).length c295_1)) = w75 at n0_ n1_ n2_ ⊢
                                  have BK294 := n0_
                                  have BK296 := n1_
                                  have HB := n2_
                                  clear n0_ n1_ n2_
                                  have n0_ := Aside0.mk (blk_drew BK294.out)
                                  have n1_ := Aside0.mk (blk_drew BK296.out)
                                  have n2_ := Aside0.mk (below_drew1 HB.out)
                                  clear BK294
                                  clear BK296
                                  clear HB
                                  have BK294 := n0_
                                  have BK296 := n1_
                                  have HB := n2_
                                  clear n0_ n1_ n2_
                                  refine start_ (n := 19) (S := fun w' => True) (ds := []) #[false, false, false, false, false, false, false, false, false, false, false, false, false, false, false, false, false, false, false] (by kernel_rfl) rfl rfl trivial (fun hHeld => ?_); refine with_tabW gridhalllaw3_WelfareMoves.tab34 gridhalllaw3_WelfareMoves.bits34 (fun HT_ HW_ => ?_)
                                  generalize w75.drew = w76 at BK294 BK296 HB hHeld ⊢
                                  refine pure_ (i := 0) (N := some 183) (v := ?_) (a' := ?_) #[true, false, false, false, false, false, false, false, false, false, false, false, false, false, false, false, false, false, false] rfl rfl (any_of HT_.out (by kernel_rfl)) (fun _ _ _ h => h) (Or.inl ⟨by rfl, ?_⟩) ?_ ?_
                                  rotate_left
                                  ·intro w'
                                   go_simp
                                   with_reducible rfl
                                  rotate_left
                                  ·simp only [Act.put, List.setIfInBounds_toArray, List.set_cons_zero, List.set_cons_succ, i64_w, i32_w]
                                   rfl
                                  refine pure_ (i := 1) (N := some 184) (v := ?_) (a' := ?_) #[true, true, false, false, false, false, false, false, false, false, false, false, false, false, false, false, false, false, false] rfl rfl (any_of HT_.out (by kernel_rfl)) (fun _ _ _ h => h) (Or.inl ⟨by rfl, ?_⟩) ?_ ?_
                                  rotate_left
                                  ·intro w'
                                   go_simp
                                   with_reducible rfl
                                  rotate_left
                                  ·simp only [Act.put, List.setIfInBounds_toArray, List.set_cons_zero, List.set_cons_succ, i64_w, i32_w]
                                   rfl
                                  refine pure_ (i := 2) (N := some 185) (v := ?_) (a' := ?_) #[true, true, true, false, false, false, false, false, false, false, false, false, false, false, false, false, false, false, false] rfl rfl (any_of HT_.out (by kernel_rfl)) (fun _ _ _ h => h) (Or.inl ⟨by rfl, ?_⟩) ?_ ?_
                                  rotate_left
                                  ·intro w'
                                   go_simp
                                   with_reducible rfl
                                  rotate_left
                                  ·simp only [Act.put, List.setIfInBounds_toArray, List.set_cons_zero, List.set_cons_succ, i64_w, i32_w]
                                   rfl
                                  refine pure_ (i := 3) (N := some 186) (v := ?_) (a' := ?_) #[true, true, true, true, false, false, false, false, false, false, false, false, false, false, false, false, false, false, false] rfl rfl (any_of HT_.out (by kernel_rfl)) (fun _ _ _ h => h) (Or.inl ⟨by rfl, ?_⟩) ?_ ?_
                                  rotate_left
                                  ·intro w'
                                   go_simp
                                   with_reducible rfl
                                  rotate_left
                                  ·simp only [Act.put, List.setIfInBounds_toArray, List.set_cons_zero, List.set_cons_succ, i64_w, i32_w]
                                   rfl
                                  refine pure_ (i := 4) (N := some 187) (v := undef) (a' := ?_) #[true, true, true, true, true, false, false, false, false, false, false, false, false, false, false, false, false, false, false] rfl rfl (any_of HT_.out (by kernel_rfl)) (fun _ _ _ h => h) (Or.inr ⟨by rfl, rfl⟩) ?_ ?_
                                  rotate_left
                                  ·simp only [Act.put, List.setIfInBounds_toArray, List.set_cons_zero, List.set_cons_succ, i64_w, i32_w]
                                   rfl
                                  refine pure_ (i := 5) (N := some 188) (v := undef) (a' := ?_) #[true, true, true, true, true, true, false, false, false, false, false, false, false, false, false, false, false, false, false] rfl rfl (any_of HT_.out (by kernel_rfl)) (fun _ _ _ h => h) (Or.inr ⟨by rfl, rfl⟩) ?_ ?_
                                  rotate_left
                                  ·simp only [Act.put, List.setIfInBounds_toArray, List.set_cons_zero, List.set_cons_succ, i64_w, i32_w]
                                   rfl
                                  refine pure_ (i := 6) (N := some 189) (v := undef) (a' := ?_) #[true, true, true, true, true, true, true, false, false, false, false, false, false, false, false, false, false, false, false] rfl rfl (any_of HT_.out (by kernel_rfl)) (fun _ _ _ h => h) (Or.inr ⟨by rfl, rfl⟩) ?_ ?_
                                  rotate_left
                                  ·simp only [Act.put, List.setIfInBounds_toArray, List.set_cons_zero, List.set_cons_succ, i64_w, i32_w]
                                   rfl
                                  refine pure_ (i := 7) (N := some 190) (v := undef) (a' := ?_) #[true, true, true, true, true, true, true, true, false, false, false, false, false, false, false, false, false, false, false] rfl rfl (any_of HT_.out (by kernel_rfl)) (fun _ _ _ h => h) (Or.inr ⟨by rfl, rfl⟩) ?_ ?_
                                  rotate_left
                                  ·simp only [Act.put, List.setIfInBounds_toArray, List.set_cons_zero, List.set_cons_succ, i64_w, i32_w]
                                   rfl
                                  refine pure_ (i := 8) (N := some 191) (v := undef) (a' := ?_) #[true, true, true, true, true, true, true, true, true, false, false, false, false, false, false, false, false, false, false] rfl rfl (any_of HT_.out (by kernel_rfl)) (fun _ _ _ h => h) (Or.inr ⟨by rfl, rfl⟩) ?_ ?_
                                  rotate_left
                                  ·simp only [Act.put, List.setIfInBounds_toArray, List.set_cons_zero, List.set_cons_succ, i64_w, i32_w]
                                   rfl
                                  refine pure_ (i := 9) (N := some 192) (v := ?_) (a' := ?_) #[true, true, true, true, true, true, true, true, true, true, false, false, false, false, false, false, false, false, false] rfl rfl (any_of HT_.out (by kernel_rfl)) (fun _ _ _ h => h) (Or.inl ⟨by rfl, ?_⟩) ?_ ?_
                                  rotate_left
                                  ·intro w'
                                   go_simp
                                   with_reducible rfl
                                  rotate_left
                                  ·simp only [Act.put, List.setIfInBounds_toArray, List.set_cons_zero, List.set_cons_succ, i64_w, i32_w]
                                   rfl
                                  refine pure_ (i := 10) (N := some 193) (v := ?_) (a' := ?_) #[true, true, true, true, true, true, true, true, true, true, true, false, false, false, false, false, false, false, false] rfl rfl (any_of HT_.out (by kernel_rfl)) (fun _ _ _ h => h) (Or.inl ⟨by rfl, ?_⟩) ?_ ?_
                                  rotate_left
                                  ·intro w'
                                   go_simp
                                   with_reducible rfl
                                  rotate_left
                                  ·simp only [Act.put, List.setIfInBounds_toArray, List.set_cons_zero, List.set_cons_succ, i64_w, i32_w]
                                   rfl
                                  refine pure_ (i := 11) (N := some 194) (v := undef) (a' := ?_) #[true, true, true, true, true, true, true, true, true, true, true, true, false, false, false, false, false, false, false] rfl rfl (any_of HT_.out (by kernel_rfl)) (fun _ _ _ h => h) (Or.inr ⟨by rfl, rfl⟩) ?_ ?_
                                  rotate_left
                                  ·simp only [Act.put, List.setIfInBounds_toArray, List.set_cons_zero, List.set_cons_succ, i64_w, i32_w]
                                   rfl
                                  refine pure_ (i := 12) (N := some 195) (v := undef) (a' := ?_) #[true, true, true, true, true, true, true, true, true, true, true, true, true, false, false, false, false, false, false] rfl rfl (any_of HT_.out (by kernel_rfl)) (fun _ _ _ h => h) (Or.inr ⟨by rfl, rfl⟩) ?_ ?_
                                  rotate_left
                                  ·simp only [Act.put, List.setIfInBounds_toArray, List.set_cons_zero, List.set_cons_succ, i64_w, i32_w]
                                   rfl
                                  refine pure_ (i := 13) (N := some 196) (v := undef) (a' := ?_) #[true, true, true, true, true, true, true, true, true, true, true, true, true, true, false, false, false, false, false] rfl rfl (any_of HT_.out (by kernel_rfl)) (fun _ _ _ h => h) (Or.inr ⟨by rfl, rfl⟩) ?_ ?_
                                  rotate_left
                                  ·simp only [Act.put, List.setIfInBounds_toArray, List.set_cons_zero, List.set_cons_succ, i64_w, i32_w]
                                   rfl
                                  refine pure_ (i := 14) (N := some 197) (v := undef) (a' := ?_) #[true, true, true, true, true, true, true, true, true, true, true, true, true, true, true, false, false, false, false] rfl rfl (any_of HT_.out (by kernel_rfl)) (fun _ _ _ h => h) (Or.inr ⟨by rfl, rfl⟩) ?_ ?_
                                  rotate_left
                                  ·simp only [Act.put, List.setIfInBounds_toArray, List.set_cons_zero, List.set_cons_succ, i64_w, i32_w]
                                   rfl
                                  refine pure_ (i := 15) (N := some 198) (v := undef) (a' := ?_) #[true, true, true, true, true, true, true, true, true, true, true, true, true, true, true, true, false, false, false] rfl rfl (any_of HT_.out (by kernel_rfl)) (fun _ _ _ h => h) (Or.inr ⟨by rfl, rfl⟩) ?_ ?_
                                  rotate_left
                                  ·simp only [Act.put, List.setIfInBounds_toArray, List.set_cons_zero, List.set_cons_succ, i64_w, i32_w]
                                   rfl
                                  refine pure_ (i := 16) (N := some 199) (v := undef) (a' := ?_) #[true, true, true, true, true, true, true, true, true, true, true, true, true, true, true, true, true, false, false] rfl rfl (any_of HT_.out (by kernel_rfl)) (fun _ _ _ h => h) (Or.inr ⟨by rfl, rfl⟩) ?_ ?_
                                  rotate_left
                                  ·simp only [Act.put, List.setIfInBounds_toArray, List.set_cons_zero, List.set_cons_succ, i64_w, i32_w]
                                   rfl
                                  refine pure_ (i := 17) (N := some 200) (v := undef) (a' := ?_) #[true, true, true, true, true, true, true, true, true, true, true, true, true, true, true, true, true, true, false] rfl rfl (any_of HT_.out (by kernel_rfl)) (fun _ _ _ h => h) (Or.inr ⟨by rfl, rfl⟩) ?_ ?_
                                  rotate_left
                                  ·simp only [Act.put, List.setIfInBounds_toArray, List.set_cons_zero, List.set_cons_succ, i64_w, i32_w]
                                   rfl
                                  refine pure_ (i := 18) (N := some 201) (v := ?_) (a' := ?_) #[true, true, true, true, true, true, true, true, true, true, true, true, true, true, true, true, true, true, true] rfl rfl (any_of HT_.out (by kernel_rfl)) (fun _ _ _ h => h) (Or.inl ⟨by rfl, ?_⟩) ?_ ?_
                                  rotate_left
                                  ·intro w'
                                   go_simp
                                   with_reducible rfl
                                  rotate_left
                                  ·simp only [Act.put, List.setIfInBounds_toArray, List.set_cons_zero, List.set_cons_succ, i64_w, i32_w]
                                   rfl
                                  refine done_ (done_of HT_.out (by kernel_rfl)) ?_
                                  try go_wp2
                                  go_meet
                                  case rel => exact ⟨_, (false), (by first | rfl | (simp; done) | (simp [*]; done)), H', ⟨by have := HJ5.out; have := HJ24.out; have := HJ29.out; have := HK4.out; have := HJ31.out; have := HK6.out; have := HJ58.out; have := HK8.out; have := HK9.out; first | omega | exact Nat.le_refl _⟩, ⟨by (with_reducible repeat (first | refine blk_drewN ?_ _ | refine blk_drew ?_ | refine blk_alloc ?_ _)); exact BK294.out⟩, ⟨by (with_reducible repeat (first | refine blk_drewN ?_ _ | refine blk_drew ?_ | refine blk_alloc ?_ _)); exact BK296.out⟩, ⟨by repeat (first | (with_reducible first | exact HB.out | apply below_alloc | apply pw_below_drewN | apply below_drew1 | refine below_set ?_ GE294.out | refine below_set ?_ GE296.out) | exact HB.out)⟩⟩
                                ·rw [if_neg c74] at H
                                 have c74b0 : (x171_8 == x178_9) = false := beq_eq_false_iff_ne.mpr c74
                                 have c74b1 : (x171_8 != x178_9) = true := bne_iff_ne.mpr c74
                                 (first | rw [c74b0] | (simp only [i64_w, i32_w]; rw [c74b0]) | skip)
                                 by_cases c77 : 0 ≤ x171_8
                                 ·rw [if_pos c77] at H
                                  have c77b0 : decide (0 ≤ x171_8) = true := decide_eq_true c77
                                  clear c77
                                  by_cases c78 : x171_8 < (l1.length : Int)
                                  ·rw [if_pos c78] at H
                                   have c78b0 : decide (x171_8 < (l1.length : Int)) = true := decide_eq_true c78
                                   clear c78
                                   by_cases c79 : (rd l1 x171_8) > 0
                                   ·rw [if_pos c79] at H
                                    have c79b0 : decide (0 < (rd l1 x171_8)) = true := decide_eq_true c79
                                    clear c79
                                    by_cases c80 : x178_9 < (l1.length : Int)
                                    ·rw [if_pos c80] at H
                                     have c80b0 : decide (x178_9 < (l1.length : Int)) = true := decide_eq_true c80
                                     clear c80
                                     replace H := Option.bind_eq_some_iff.mp H
                                     obtain ⟨t299, A810, H⟩ := H
                                     replace H : (gridhalllaw3_WelfareMoves.j9 k9 l0 l1 t274 t275 t276 t277 x21_9 x22_9 x23_9 x171_8 x178_9 l0 (l0.length : Int) x171_8 l0 (l0.length : Int) x178_9 (decide ((rd l1 x178_9) < t299)) ((rd_T29 l0 x171_8).f0) ((rd_T29 l0 x171_8).f1) ((rd_T29 l0 x178_9).f0) ((rd_T29 l0 x178_9).f1)) = some r := H
                                     have A81 := Aside0.mk A810
                                     clear A810
                                     as_aux_lemma =>
                                      have H' := Aside0.mk H
                                      clear H
                                      try go_wp2
                                      have n0_ : Aside0 (((w71.setCell ⟨gb296, 0, none⟩ (.string ((rd_T29 l0 x178_9).f0))).setCell ⟨gb296, 1, none⟩ (.slice A295_1 ((rd_T29 l0 x178_9).f1).length c295_1)).heap[gb294]? = some (.cells #[.string ((rd_T29 l0 x171_8).f0), .slice A293_1 ((rd_T29 l0 x171_8).f1).length c293_1] 29 (0, 0))) := ⟨by (with_reducible repeat (first | refine blk_drewN ?_ _ | refine blk_drew ?_ | refine blk_alloc ?_ _)); refine blk_far ?_ NB294_296.out _; (with_reducible repeat (first | refine blk_drewN ?_ _ | refine blk_drew ?_ | refine blk_alloc ?_ _)); refine blk_far ?_ NB294_296.out _; (with_reducible repeat (first | refine blk_drewN ?_ _ | refine blk_drew ?_ | refine blk_alloc ?_ _)); exact BK294.out⟩
                                      have n1_ : Aside0 (((w71.setCell ⟨gb296, 0, none⟩ (.string ((rd_T29 l0 x178_9).f0))).setCell ⟨gb296, 1, none⟩ (.slice A295_1 ((rd_T29 l0 x178_9).f1).length c295_1)).heap[gb296]? = some (.cells #[.string ((rd_T29 l0 x178_9).f0), .slice A295_1 ((rd_T29 l0 x178_9).f1).length c295_1] 29 (0, 0))) := ⟨by (with_reducible repeat (first | refine blk_drewN ?_ _ | refine blk_drew ?_ | refine blk_alloc ?_ _)); refine blk_put (cs := #[.string ((rd_T29 l0 x178_9).f0), .slice none 0 0]) ?_ 1 _ rfl; (with_reducible repeat (first | refine blk_drewN ?_ _ | refine blk_drew ?_ | refine blk_alloc ?_ _)); refine blk_put (cs := #[.string (⟨#[]⟩ : ByteArray), .slice none 0 0]) ?_ 0 _ rfl; (with_reducible repeat (first | refine blk_drewN ?_ _ | refine blk_drew ?_ | refine blk_alloc ?_ _)); exact BK296.out⟩
                                      have n2_ : Aside0 (Below w.heap.size w ((w71.setCell ⟨gb296, 0, none⟩ (.string ((rd_T29 l0 x178_9).f0))).setCell ⟨gb296, 1, none⟩ (.slice A295_1 ((rd_T29 l0 x178_9).f1).length c295_1))) := ⟨by repeat (first | (with_reducible first | exact HB.out | apply below_alloc | apply pw_below_drewN | apply below_drew1 | refine below_set ?_ GE294.out | refine below_set ?_ GE296.out) | exact HB.out)⟩
                                      (try clear BK294)
                                      (try clear BK296)
                                      (try clear HB)
                                      generalize ((w71.setCell ⟨gb296, 0, none⟩ (.string ((rd_T29 l0 x178_9).f0))).setCell ⟨gb296, 1, none⟩ (.slice A295_1 ((rd_T29 l0 x178_9).f1).length c295_1)) = w82 at n0_ n1_ n2_ ⊢
                                      have BK294 := n0_
                                      have BK296 := n1_
                                      have HB := n2_
                                      clear n0_ n1_ n2_
                                      have n0_ := Aside0.mk (blk_drew BK294.out)
                                      have n1_ := Aside0.mk (blk_drew BK296.out)
                                      have n2_ := Aside0.mk (below_drew1 HB.out)
                                      clear BK294
                                      clear BK296
                                      clear HB
                                      have BK294 := n0_
                                      have BK296 := n1_
                                      have HB := n2_
                                      clear n0_ n1_ n2_
                                      have p297 : 0 ≤ (x171_8 : Int) := of_decide_eq_true (by first | (with_reducible assumption) | assumption)
                                      have q297 : x171_8 < (l1.length : Int) := of_decide_eq_true (by first | (with_reducible assumption) | assumption)
                                      obtain ⟨ad297, e297, hx297_0⟩ := Kd.at_int HR1.out x171_8 p297 q297
                                      have hw297_0 := hx297_0
                                      cases e297
                                      replace hx297_0 := (HB.out.cell (World.block_lt_of_cell? w _ hx297_0)).trans hx297_0
                                      replace p297 := eq_true p297
                                      replace q297 := eq_true q297
                                      have p298 : 0 ≤ (x178_9 : Int) := of_decide_eq_true (by first | (with_reducible assumption) | assumption)
                                      have q298 : x178_9 < (l1.length : Int) := of_decide_eq_true (by first | (with_reducible assumption) | assumption)
                                      obtain ⟨ad298, e298, hx298_0⟩ := Kd.at_int HR1.out x178_9 p298 q298
                                      have hw298_0 := hx298_0
                                      obtain rfl : ad297 = ad298 := (by injection e298)
                                      replace hx298_0 := (HB.out.cell (World.block_lt_of_cell? w _ hx298_0)).trans hx298_0
                                      replace p298 := eq_true p298
                                      replace q298 := eq_true q298
                                      refine start_ (n := 19) (S := fun w' => w'.cell? ⟨gb296, 0, none⟩ = some (.string ((rd_T29 l0 x178_9).f0)) ∧ w'.cell? ⟨gb296, 1, none⟩ = some (.slice A295_1 ((rd_T29 l0 x178_9).f1).length c295_1) ∧ w'.cell? (ad297.add (x171_8).toNat) = some (.int .i64 (rd l1 x171_8)) ∧ w'.cell? (ad297.add (x178_9).toNat) = some (.int .i64 (rd l1 x178_9))) (ds := []) #[false, false, false, false, false, false, false, false, false, false, false, false, false, false, false, false, false, false, false] (by kernel_rfl) rfl rfl ⟨(blk_cell BK296.out 0).trans rfl, (blk_cell BK296.out 1).trans rfl, ((HB.out.cell (World.block_lt_of_cell? w _ hw297_0)).trans hw297_0), ((HB.out.cell (World.block_lt_of_cell? w _ hw298_0)).trans hw298_0)⟩ (fun hHeld => ?_); refine with_tabW gridhalllaw3_WelfareMoves.tab34 gridhalllaw3_WelfareMoves.bits34 (fun HT_ HW_ => ?_)
                                      generalize w82.drew = w83 at BK294 BK296 HB hx297_0 hx298_0 hHeld ⊢
                                      refine pure_ (i := 0) (N := some 183) (v := ?_) (a' := ?_) #[true, false, false, false, false, false, false, false, false, false, false, false, false, false, false, false, false, false, false] rfl rfl (any_of HT_.out (by kernel_rfl)) (fun _ _ _ h => h) (Or.inl ⟨by rfl, ?_⟩) ?_ ?_
                                      rotate_left
                                      ·intro w'
                                       go_simp
                                       with_reducible rfl
                                      rotate_left
                                      ·simp only [Act.put, List.setIfInBounds_toArray, List.set_cons_zero, List.set_cons_succ, i64_w, i32_w]
                                       rfl
                                      refine pure_ (i := 1) (N := some 184) (v := ?_) (a' := ?_) #[true, true, false, false, false, false, false, false, false, false, false, false, false, false, false, false, false, false, false] rfl rfl (any_of HT_.out (by kernel_rfl)) (fun _ _ _ h => h) (Or.inl ⟨by rfl, ?_⟩) ?_ ?_
                                      rotate_left
                                      ·intro w'
                                       go_simp
                                       with_reducible rfl
                                      rotate_left
                                      ·simp only [Act.put, List.setIfInBounds_toArray, List.set_cons_zero, List.set_cons_succ, i64_w, i32_w]
                                       rfl
                                      refine pure_ (i := 2) (N := some 185) (v := ?_) (a' := ?_) #[true, true, true, false, false, false, false, false, false, false, false, false, false, false, false, false, false, false, false] rfl rfl (any_of HT_.out (by kernel_rfl)) (fun _ _ _ h => h) (Or.inl ⟨by rfl, ?_⟩) ?_ ?_
                                      rotate_left
                                      ·intro w'
                                       go_simp
                                       with_reducible rfl
                                      rotate_left
                                      ·simp only [Act.put, List.setIfInBounds_toArray, List.set_cons_zero, List.set_cons_succ, i64_w, i32_w]
                                       rfl
                                      refine pure_ (i := 3) (N := some 186) (v := ?_) (a' := ?_) #[true, true, true, true, false, false, false, false, false, false, false, false, false, false, false, false, false, false, false] rfl rfl (any_of HT_.out (by kernel_rfl)) (fun _ _ _ h => h) (Or.inl ⟨by rfl, ?_⟩) ?_ ?_
                                      rotate_left
                                      ·intro w'
                                       go_simp
                                       with_reducible rfl
                                      rotate_left
                                      ·simp only [Act.put, List.setIfInBounds_toArray, List.set_cons_zero, List.set_cons_succ, i64_w, i32_w]
                                       rfl
                                      refine pure_ (i := 4) (N := some 187) (v := ?_) (a' := ?_) #[true, true, true, true, true, false, false, false, false, false, false, false, false, false, false, false, false, false, false] rfl rfl (any_of HT_.out (by kernel_rfl)) (fun _ _ _ h => h) (Or.inl ⟨by rfl, ?_⟩) ?_ ?_
                                      rotate_left
                                      ·intro w'
                                       go_simp
                                       with_reducible rfl
                                      rotate_left
                                      ·simp only [Act.put, List.setIfInBounds_toArray, List.set_cons_zero, List.set_cons_succ, i64_w, i32_w]
                                       rfl
                                      refine pure_ (i := 5) (N := some 188) (v := ?_) (a' := ?_) #[true, true, true, true, true, true, false, false, false, false, false, false, false, false, false, false, false, false, false] rfl rfl (any_of HT_.out (by kernel_rfl)) (fun _ _ _ h => h) (Or.inl ⟨by rfl, ?_⟩) ?_ ?_
                                      rotate_left
                                      ·intro w'
                                       go_simp
                                       with_reducible rfl
                                      rotate_left
                                      ·simp only [Act.put, List.setIfInBounds_toArray, List.set_cons_zero, List.set_cons_succ, i64_w, i32_w]
                                       rfl
                                      refine pure_ (i := 6) (N := some 189) (v := ?_) (a' := ?_) #[true, true, true, true, true, true, true, false, false, false, false, false, false, false, false, false, false, false, false] rfl rfl (any_of HT_.out (by kernel_rfl)) (fun _ _ _ h => h) (Or.inl ⟨by rfl, ?_⟩) ?_ ?_
                                      rotate_left
                                      ·intro w'
                                       go_simp
                                       with_reducible rfl
                                      rotate_left
                                      ·simp only [Act.put, List.setIfInBounds_toArray, List.set_cons_zero, List.set_cons_succ, i64_w, i32_w]
                                       rfl
                                      refine take_ (i := 7) (N := some 190) (v := ?_) (a' := ?_) #[true, true, true, true, true, true, true, true, false, false, false, false, false, false, false, false, false, false, false] rfl rfl (take_ofW HT_.out HW_.out (by kernel_rfl)) (fun _ _ _ h => h) (Or.inl ⟨by rfl, ?_⟩) hHeld ?_ ?_
                                      rotate_left
                                      ·rintro w' ⟨s0, s1, s2, s3⟩
                                       go_simp
                                       with_reducible rfl
                                      rotate_left
                                      ·simp only [Act.put, List.setIfInBounds_toArray, List.set_cons_zero, List.set_cons_succ, i64_w, i32_w]
                                       rfl
                                      refine pure_ (i := 8) (N := some 191) (v := ?_) (a' := ?_) #[true, true, true, true, true, true, true, true, true, false, false, false, false, false, false, false, false, false, false] rfl rfl (any_of HT_.out (by kernel_rfl)) (fun _ _ _ h => h) (Or.inl ⟨by rfl, ?_⟩) ?_ ?_
                                      rotate_left
                                      ·intro w'
                                       go_simp
                                       with_reducible rfl
                                      rotate_left
                                      ·simp only [Act.put, List.setIfInBounds_toArray, List.set_cons_zero, List.set_cons_succ, i64_w, i32_w]
                                       rfl
                                      refine pure_ (i := 9) (N := some 192) (v := ?_) (a' := ?_) #[true, true, true, true, true, true, true, true, true, true, false, false, false, false, false, false, false, false, false] rfl rfl (any_of HT_.out (by kernel_rfl)) (fun _ _ _ h => h) (Or.inl ⟨by rfl, ?_⟩) ?_ ?_
                                      rotate_left
                                      ·intro w'
                                       go_simp
                                       with_reducible rfl
                                      rotate_left
                                      ·simp only [Act.put, List.setIfInBounds_toArray, List.set_cons_zero, List.set_cons_succ, i64_w, i32_w]
                                       rfl
                                      refine pure_ (i := 10) (N := some 193) (v := ?_) (a' := ?_) #[true, true, true, true, true, true, true, true, true, true, true, false, false, false, false, false, false, false, false] rfl rfl (any_of HT_.out (by kernel_rfl)) (fun _ _ _ h => h) (Or.inl ⟨by rfl, ?_⟩) ?_ ?_
                                      rotate_left
                                      ·intro w'
                                       go_simp
                                       with_reducible rfl
                                      rotate_left
                                      ·simp only [Act.put, List.setIfInBounds_toArray, List.set_cons_zero, List.set_cons_succ, i64_w, i32_w]
                                       rfl
                                      refine pure_ (i := 11) (N := some 194) (v := ?_) (a' := ?_) #[true, true, true, true, true, true, true, true, true, true, true, true, false, false, false, false, false, false, false] rfl rfl (any_of HT_.out (by kernel_rfl)) (fun _ _ _ h => h) (Or.inl ⟨by rfl, ?_⟩) ?_ ?_
                                      rotate_left
                                      ·intro w'
                                       go_simp
                                       with_reducible rfl
                                      rotate_left
                                      ·simp only [Act.put, List.setIfInBounds_toArray, List.set_cons_zero, List.set_cons_succ, i64_w, i32_w]
                                       rfl
                                      refine pure_ (i := 12) (N := some 195) (v := ?_) (a' := ?_) #[true, true, true, true, true, true, true, true, true, true, true, true, true, false, false, false, false, false, false] rfl rfl (any_of HT_.out (by kernel_rfl)) (fun _ _ _ h => h) (Or.inl ⟨by rfl, ?_⟩) ?_ ?_
                                      rotate_left
                                      ·intro w'
                                       go_simp
                                       with_reducible rfl
                                      rotate_left
                                      ·simp only [Act.put, List.setIfInBounds_toArray, List.set_cons_zero, List.set_cons_succ, i64_w, i32_w]
                                       rfl
                                      refine pure_ (i := 13) (N := some 196) (v := ?_) (a' := ?_) #[true, true, true, true, true, true, true, true, true, true, true, true, true, true, false, false, false, false, false] rfl rfl (any_of HT_.out (by kernel_rfl)) (fun _ _ _ h => h) (Or.inl ⟨by rfl, ?_⟩) ?_ ?_
                                      rotate_left
                                      ·intro w'
                                       go_simp
                                       with_reducible rfl
                                      rotate_left
                                      ·simp only [Act.put, List.setIfInBounds_toArray, List.set_cons_zero, List.set_cons_succ, i64_w, i32_w]
                                       rfl
                                      refine take_ (i := 14) (N := some 197) (v := ?_) (a' := ?_) #[true, true, true, true, true, true, true, true, true, true, true, true, true, true, true, false, false, false, false] rfl rfl (take_ofW HT_.out HW_.out (by kernel_rfl)) (fun _ _ _ h => h) (Or.inl ⟨by rfl, ?_⟩) hHeld ?_ ?_
                                      rotate_left
                                      ·rintro w' ⟨s0, s1, s2, s3⟩
                                       go_simp
                                       with_reducible rfl
                                      rotate_left
                                      ·simp only [Act.put, List.setIfInBounds_toArray, List.set_cons_zero, List.set_cons_succ, i64_w, i32_w]
                                       rfl
                                      refine take_ (i := 15) (N := some 198) (v := ?_) (a' := ?_) #[true, true, true, true, true, true, true, true, true, true, true, true, true, true, true, true, false, false, false] rfl rfl (take_ofW HT_.out HW_.out (by kernel_rfl)) (fun _ _ _ h => h) (Or.inl ⟨by rfl, ?_⟩) hHeld ?_ ?_
                                      rotate_left
                                      ·rintro w' ⟨s0, s1, s2, s3⟩
                                       go_simp
                                       with_reducible rfl
                                      rotate_left
                                      ·simp only [Act.put, List.setIfInBounds_toArray, List.set_cons_zero, List.set_cons_succ, i64_w, i32_w]
                                       rfl
                                      refine one_ (i := 16) (N := some 199) #[true, true, true, true, true, true, true, true, true, true, true, true, true, true, true, true, true, false, false] rfl rfl (one_of HT_.out (by kernel_rfl)) (by decide) (fun K hK => ?_)
                                      refine goes_ Try.func15 (by kernel_rfl) rfl #[.agg #[.string ((rd_T29 l0 x178_9).f0), .slice A295_1 ((rd_T29 l0 x178_9).f1).length c295_1]] (by rfl) rfl rfl (by (try simp only [List.map_toArray, List.map_cons, List.map_nil]); first | done | rfl | (simp only [List.length_drop, List.length_take]; rfl)) ?_
                                      with_reducible refine (gridhallref3_All.calls k9 ((rd_T29 l0 x178_9).f0) _ _ ((rd_T29 l0 x178_9).f1) t299 _ ?side1 ?side2 A81.out).mono ?_
                                      (case side1 => repeat (first | exact (Kd.C_below HR295_1.out HB.out) | (with_reducible refine Kd.C_alloc ?_ _) | (with_reducible refine Kd.C_drewN ?_ _) | (with_reducible refine Kd.C_drew ?_)))
                                      (case side2 => exact HC295_1.out)
                                      rintro e w84 ⟨rfl, hb⟩
                                      refine ⟨_, rfl, ?_⟩
                                      have n0_ := Aside0.mk (blk_below (g := gb294) (o := .cells #[.string ((rd_T29 l0 x171_8).f0), .slice A293_1 ((rd_T29 l0 x171_8).f1).length c293_1] 29 (0, 0)) (by (with_reducible repeat (first | refine blk_drewN ?_ _ | refine blk_drew ?_ | refine blk_alloc ?_ _)); exact BK294.out) hb)
                                      have n1_ := Aside0.mk (blk_below (g := gb296) (o := .cells #[.string ((rd_T29 l0 x178_9).f0), .slice A295_1 ((rd_T29 l0 x178_9).f1).length c295_1] 29 (0, 0)) (by (with_reducible repeat (first | refine blk_drewN ?_ _ | refine blk_drew ?_ | refine blk_alloc ?_ _)); exact BK296.out) hb)
                                      have n2_ := Aside0.mk (below_step (by repeat (first | (with_reducible first | exact HB.out | apply below_alloc | apply pw_below_drewN | apply below_drew1 | refine below_set ?_ GE294.out | refine below_set ?_ GE296.out) | exact HB.out)) hb)
                                      clear BK294
                                      clear BK296
                                      clear HB
                                      have BK294 := n0_
                                      have BK296 := n1_
                                      have HB := n2_
                                      clear n0_ n1_ n2_
                                      (try clear hb)
                                      (try clear hb2)
                                      (try clear hk)
                                      (try clear hi)
                                      refine hK.out _ _ ⟨(blk_cell BK296.out 0).trans rfl, (blk_cell BK296.out 1).trans rfl, ((HB.out.cell (World.block_lt_of_cell? w _ hw297_0)).trans hw297_0), ((HB.out.cell (World.block_lt_of_cell? w _ hw298_0)).trans hw298_0)⟩ (fun hHeld => ?_)
                                      clear hK K
                                      refine norm_ (a' := ?_) ?_ ?_
                                      rotate_left
                                      ·show Act.put _ (some 199) _ = _
                                       simp only [Act.put, List.setIfInBounds_toArray, List.set_cons_zero, List.set_cons_succ, i64_w, i32_w]
                                       rfl
                                      refine pure_ (i := 17) (N := some 200) (v := ?_) (a' := ?_) #[true, true, true, true, true, true, true, true, true, true, true, true, true, true, true, true, true, true, false] rfl rfl (any_of HT_.out (by kernel_rfl)) (fun _ _ _ h => h) (Or.inl ⟨by rfl, ?_⟩) ?_ ?_
                                      rotate_left
                                      ·intro w'
                                       go_simp
                                       with_reducible rfl
                                      rotate_left
                                      ·simp only [Act.put, List.setIfInBounds_toArray, List.set_cons_zero, List.set_cons_succ, i64_w, i32_w]
                                       rfl
                                      refine pure_ (i := 18) (N := some 201) (v := ?_) (a' := ?_) #[true, true, true, true, true, true, true, true, true, true, true, true, true, true, true, true, true, true, true] rfl rfl (any_of HT_.out (by kernel_rfl)) (fun _ _ _ h => h) (Or.inl ⟨by rfl, ?_⟩) ?_ ?_
                                      rotate_left
                                      ·intro w'
                                       go_simp
                                       with_reducible rfl
                                      rotate_left
                                      ·simp only [Act.put, List.setIfInBounds_toArray, List.set_cons_zero, List.set_cons_succ, i64_w, i32_w]
                                       rfl
                                      refine done_ (done_of HT_.out (by kernel_rfl)) ?_
                                      try go_wp2
                                      go_meet
                                      case rel => exact ⟨_, (decide ((rd l1 x178_9) < t299)), (by first | rfl | (simp; done) | (simp [*]; done)), H', ⟨by have := HJ5.out; have := HJ24.out; have := HJ29.out; have := HK4.out; have := HJ31.out; have := HK6.out; have := HJ58.out; have := HK8.out; have := HK9.out; first | omega | exact Nat.le_refl _⟩, ⟨by (with_reducible repeat (first | refine blk_drewN ?_ _ | refine blk_drew ?_ | refine blk_alloc ?_ _)); exact BK294.out⟩, ⟨by (with_reducible repeat (first | refine blk_drewN ?_ _ | refine blk_drew ?_ | refine blk_alloc ?_ _)); exact BK296.out⟩, ⟨by repeat (first | (with_reducible first | exact HB.out | apply below_alloc | apply pw_below_drewN | apply below_drew1 | refine below_set ?_ GE294.out | refine below_set ?_ GE296.out) | exact HB.out)⟩⟩
                                    ·rw [if_neg c80] at H
                                     exact absurd H (by simp)
                                   ·rw [if_neg c79] at H
                                    have c79b0 : decide (0 < (rd l1 x171_8)) = false := decide_eq_false c79
                                    clear c79
                                    as_aux_lemma =>
                                     have H' := Aside0.mk H
                                     clear H
                                     try go_wp2
                                     have n0_ : Aside0 (((w71.setCell ⟨gb296, 0, none⟩ (.string ((rd_T29 l0 x178_9).f0))).setCell ⟨gb296, 1, none⟩ (.slice A295_1 ((rd_T29 l0 x178_9).f1).length c295_1)).heap[gb294]? = some (.cells #[.string ((rd_T29 l0 x171_8).f0), .slice A293_1 ((rd_T29 l0 x171_8).f1).length c293_1] 29 (0, 0))) := ⟨by (with_reducible repeat (first | refine blk_drewN ?_ _ | refine blk_drew ?_ | refine blk_alloc ?_ _)); refine blk_far ?_ NB294_296.out _; (with_reducible repeat (first | refine blk_drewN ?_ _ | refine blk_drew ?_ | refine blk_alloc ?_ _)); refine blk_far ?_ NB294_296.out _; (with_reducible repeat (first | refine blk_drewN ?_ _ | refine blk_drew ?_ | refine blk_alloc ?_ _)); exact BK294.out⟩
                                     have n1_ : Aside0 (((w71.setCell ⟨gb296, 0, none⟩ (.string ((rd_T29 l0 x178_9).f0))).setCell ⟨gb296, 1, none⟩ (.slice A295_1 ((rd_T29 l0 x178_9).f1).length c295_1)).heap[gb296]? = some (.cells #[.string ((rd_T29 l0 x178_9).f0), .slice A295_1 ((rd_T29 l0 x178_9).f1).length c295_1] 29 (0, 0))) := ⟨by (with_reducible repeat (first | refine blk_drewN ?_ _ | refine blk_drew ?_ | refine blk_alloc ?_ _)); refine blk_put (cs := #[.string ((rd_T29 l0 x178_9).f0), .slice none 0 0]) ?_ 1 _ rfl; (with_reducible repeat (first | refine blk_drewN ?_ _ | refine blk_drew ?_ | refine blk_alloc ?_ _)); refine blk_put (cs := #[.string (⟨#[]⟩ : ByteArray), .slice none 0 0]) ?_ 0 _ rfl; (with_reducible repeat (first | refine blk_drewN ?_ _ | refine blk_drew ?_ | refine blk_alloc ?_ _)); exact BK296.out⟩
                                     have n2_ : Aside0 (Below w.heap.size w ((w71.setCell ⟨gb296, 0, none⟩ (.string ((rd_T29 l0 x178_9).f0))).setCell ⟨gb296, 1, none⟩ (.slice A295_1 ((rd_T29 l0 x178_9).f1).length c295_1))) := ⟨by repeat (first | (with_reducible first | exact HB.out | apply below_alloc | apply pw_below_drewN | apply below_drew1 | refine below_set ?_ GE294.out | refine below_set ?_ GE296.out) | exact HB.out)⟩
                                     (try clear BK294)
                                     (try clear BK296)
                                     (try clear HB)
                                     generalize ((w71.setCell ⟨gb296, 0, none⟩ (.string ((rd_T29 l0 x178_9).f0))).setCell ⟨gb296, 1, none⟩ (.slice A295_1 ((rd_T29 l0 x178_9).f1).length c295_1)) = w85 at n0_ n1_ n2_ ⊢
                                     have BK294 := n0_
                                     have BK296 := n1_
                                     have HB := n2_
                                     clear n0_ n1_ n2_
                                     have n0_ := Aside0.mk (blk_drew BK294.out)
                                     have n1_ := Aside0.mk (blk_drew BK296.out)
                                     have n2_ := Aside0.mk (below_drew1 HB.out)
                                     clear BK294
                                     clear BK296
                                     clear HB
                                     have BK294 := n0_
                                     have BK296 := n1_
                                     have HB := n2_
                                     clear n0_ n1_ n2_
                                     have p297 : 0 ≤ (x171_8 : Int) := of_decide_eq_true (by first | (with_reducible assumption) | assumption)
                                     have q297 : x171_8 < (l1.length : Int) := of_decide_eq_true (by first | (with_reducible assumption) | assumption)
                                     obtain ⟨ad297, e297, hx297_0⟩ := Kd.at_int HR1.out x171_8 p297 q297
                                     have hw297_0 := hx297_0
                                     cases e297
                                     replace hx297_0 := (HB.out.cell (World.block_lt_of_cell? w _ hx297_0)).trans hx297_0
                                     replace p297 := eq_true p297
                                     replace q297 := eq_true q297
                                     refine start_ (n := 19) (S := fun w' => w'.cell? (ad297.add (x171_8).toNat) = some (.int .i64 (rd l1 x171_8))) (ds := []) #[false, false, false, false, false, false, false, false, false, false, false, false, false, false, false, false, false, false, false] (by kernel_rfl) rfl rfl (((HB.out.cell (World.block_lt_of_cell? w _ hw297_0)).trans hw297_0)) (fun hHeld => ?_); refine with_tabW gridhalllaw3_WelfareMoves.tab34 gridhalllaw3_WelfareMoves.bits34 (fun HT_ HW_ => ?_)
                                     generalize w85.drew = w86 at BK294 BK296 HB hx297_0 hHeld ⊢
                                     refine pure_ (i := 0) (N := some 183) (v := ?_) (a' := ?_) #[true, false, false, false, false, false, false, false, false, false, false, false, false, false, false, false, false, false, false] rfl rfl (any_of HT_.out (by kernel_rfl)) (fun _ _ _ h => h) (Or.inl ⟨by rfl, ?_⟩) ?_ ?_
                                     rotate_left
                                     ·intro w'
                                      go_simp
                                      with_reducible rfl
                                     rotate_left
                                     ·simp only [Act.put, List.setIfInBounds_toArray, List.set_cons_zero, List.set_cons_succ, i64_w, i32_w]
                                      rfl
                                     refine pure_ (i := 1) (N := some 184) (v := ?_) (a' := ?_) #[true, true, false, false, false, false, false, false, false, false, false, false, false, false, false, false, false, false, false] rfl rfl (any_of HT_.out (by kernel_rfl)) (fun _ _ _ h => h) (Or.inl ⟨by rfl, ?_⟩) ?_ ?_
                                     rotate_left
                                     ·intro w'
                                      go_simp
                                      with_reducible rfl
                                     rotate_left
                                     ·simp only [Act.put, List.setIfInBounds_toArray, List.set_cons_zero, List.set_cons_succ, i64_w, i32_w]
                                      rfl
                                     refine pure_ (i := 2) (N := some 185) (v := ?_) (a' := ?_) #[true, true, true, false, false, false, false, false, false, false, false, false, false, false, false, false, false, false, false] rfl rfl (any_of HT_.out (by kernel_rfl)) (fun _ _ _ h => h) (Or.inl ⟨by rfl, ?_⟩) ?_ ?_
                                     rotate_left
                                     ·intro w'
                                      go_simp
                                      with_reducible rfl
                                     rotate_left
                                     ·simp only [Act.put, List.setIfInBounds_toArray, List.set_cons_zero, List.set_cons_succ, i64_w, i32_w]
                                      rfl
                                     refine pure_ (i := 3) (N := some 186) (v := ?_) (a' := ?_) #[true, true, true, true, false, false, false, false, false, false, false, false, false, false, false, false, false, false, false] rfl rfl (any_of HT_.out (by kernel_rfl)) (fun _ _ _ h => h) (Or.inl ⟨by rfl, ?_⟩) ?_ ?_
                                     rotate_left
                                     ·intro w'
                                      go_simp
                                      with_reducible rfl
                                     rotate_left
                                     ·simp only [Act.put, List.setIfInBounds_toArray, List.set_cons_zero, List.set_cons_succ, i64_w, i32_w]
                                      rfl
                                     refine pure_ (i := 4) (N := some 187) (v := ?_) (a' := ?_) #[true, true, true, true, true, false, false, false, false, false, false, false, false, false, false, false, false, false, false] rfl rfl (any_of HT_.out (by kernel_rfl)) (fun _ _ _ h => h) (Or.inl ⟨by rfl, ?_⟩) ?_ ?_
                                     rotate_left
                                     ·intro w'
                                      go_simp
                                      with_reducible rfl
                                     rotate_left
                                     ·simp only [Act.put, List.setIfInBounds_toArray, List.set_cons_zero, List.set_cons_succ, i64_w, i32_w]
                                      rfl
                                     refine pure_ (i := 5) (N := some 188) (v := ?_) (a' := ?_) #[true, true, true, true, true, true, false, false, false, false, false, false, false, false, false, false, false, false, false] rfl rfl (any_of HT_.out (by kernel_rfl)) (fun _ _ _ h => h) (Or.inl ⟨by rfl, ?_⟩) ?_ ?_
                                     rotate_left
                                     ·intro w'
                                      go_simp
                                      with_reducible rfl
                                     rotate_left
                                     ·simp only [Act.put, List.setIfInBounds_toArray, List.set_cons_zero, List.set_cons_succ, i64_w, i32_w]
                                      rfl
                                     refine pure_ (i := 6) (N := some 189) (v := ?_) (a' := ?_) #[true, true, true, true, true, true, true, false, false, false, false, false, false, false, false, false, false, false, false] rfl rfl (any_of HT_.out (by kernel_rfl)) (fun _ _ _ h => h) (Or.inl ⟨by rfl, ?_⟩) ?_ ?_
                                     rotate_left
                                     ·intro w'
                                      go_simp
                                      with_reducible rfl
                                     rotate_left
                                     ·simp only [Act.put, List.setIfInBounds_toArray, List.set_cons_zero, List.set_cons_succ, i64_w, i32_w]
                                      rfl
                                     refine take_ (i := 7) (N := some 190) (v := ?_) (a' := ?_) #[true, true, true, true, true, true, true, true, false, false, false, false, false, false, false, false, false, false, false] rfl rfl (take_ofW HT_.out HW_.out (by kernel_rfl)) (fun _ _ _ h => h) (Or.inl ⟨by rfl, ?_⟩) hHeld ?_ ?_
                                     rotate_left
                                     ·intro w' s0
                                      go_simp
                                      with_reducible rfl
                                     rotate_left
                                     ·simp only [Act.put, List.setIfInBounds_toArray, List.set_cons_zero, List.set_cons_succ, i64_w, i32_w]
                                      rfl
                                     refine pure_ (i := 8) (N := some 191) (v := ?_) (a' := ?_) #[true, true, true, true, true, true, true, true, true, false, false, false, false, false, false, false, false, false, false] rfl rfl (any_of HT_.out (by kernel_rfl)) (fun _ _ _ h => h) (Or.inl ⟨by rfl, ?_⟩) ?_ ?_
                                     rotate_left
                                     ·intro w'
                                      go_simp
                                      with_reducible rfl
                                     rotate_left
                                     ·simp only [Act.put, List.setIfInBounds_toArray, List.set_cons_zero, List.set_cons_succ, i64_w, i32_w]
                                      rfl
                                     refine pure_ (i := 9) (N := some 192) (v := ?_) (a' := ?_) #[true, true, true, true, true, true, true, true, true, true, false, false, false, false, false, false, false, false, false] rfl rfl (any_of HT_.out (by kernel_rfl)) (fun _ _ _ h => h) (Or.inl ⟨by rfl, ?_⟩) ?_ ?_
                                     rotate_left
                                     ·intro w'
                                      go_simp
                                      with_reducible rfl
                                     rotate_left
                                     ·simp only [Act.put, List.setIfInBounds_toArray, List.set_cons_zero, List.set_cons_succ, i64_w, i32_w]
                                      rfl
                                     refine pure_ (i := 10) (N := some 193) (v := ?_) (a' := ?_) #[true, true, true, true, true, true, true, true, true, true, true, false, false, false, false, false, false, false, false] rfl rfl (any_of HT_.out (by kernel_rfl)) (fun _ _ _ h => h) (Or.inl ⟨by rfl, ?_⟩) ?_ ?_
                                     rotate_left
                                     ·intro w'
                                      go_simp
                                      with_reducible rfl
                                     rotate_left
                                     ·simp only [Act.put, List.setIfInBounds_toArray, List.set_cons_zero, List.set_cons_succ, i64_w, i32_w]
                                      rfl
                                     refine pure_ (i := 11) (N := some 194) (v := undef) (a' := ?_) #[true, true, true, true, true, true, true, true, true, true, true, true, false, false, false, false, false, false, false] rfl rfl (any_of HT_.out (by kernel_rfl)) (fun _ _ _ h => h) (Or.inr ⟨by rfl, rfl⟩) ?_ ?_
                                     rotate_left
                                     ·simp only [Act.put, List.setIfInBounds_toArray, List.set_cons_zero, List.set_cons_succ, i64_w, i32_w]
                                      rfl
                                     refine pure_ (i := 12) (N := some 195) (v := undef) (a' := ?_) #[true, true, true, true, true, true, true, true, true, true, true, true, true, false, false, false, false, false, false] rfl rfl (any_of HT_.out (by kernel_rfl)) (fun _ _ _ h => h) (Or.inr ⟨by rfl, rfl⟩) ?_ ?_
                                     rotate_left
                                     ·simp only [Act.put, List.setIfInBounds_toArray, List.set_cons_zero, List.set_cons_succ, i64_w, i32_w]
                                      rfl
                                     refine pure_ (i := 13) (N := some 196) (v := undef) (a' := ?_) #[true, true, true, true, true, true, true, true, true, true, true, true, true, true, false, false, false, false, false] rfl rfl (any_of HT_.out (by kernel_rfl)) (fun _ _ _ h => h) (Or.inr ⟨by rfl, rfl⟩) ?_ ?_
                                     rotate_left
                                     ·simp only [Act.put, List.setIfInBounds_toArray, List.set_cons_zero, List.set_cons_succ, i64_w, i32_w]
                                      rfl
                                     refine pure_ (i := 14) (N := some 197) (v := undef) (a' := ?_) #[true, true, true, true, true, true, true, true, true, true, true, true, true, true, true, false, false, false, false] rfl rfl (any_of HT_.out (by kernel_rfl)) (fun _ _ _ h => h) (Or.inr ⟨by rfl, rfl⟩) ?_ ?_
                                     rotate_left
                                     ·simp only [Act.put, List.setIfInBounds_toArray, List.set_cons_zero, List.set_cons_succ, i64_w, i32_w]
                                      rfl
                                     refine pure_ (i := 15) (N := some 198) (v := undef) (a' := ?_) #[true, true, true, true, true, true, true, true, true, true, true, true, true, true, true, true, false, false, false] rfl rfl (any_of HT_.out (by kernel_rfl)) (fun _ _ _ h => h) (Or.inr ⟨by rfl, rfl⟩) ?_ ?_
                                     rotate_left
                                     ·simp only [Act.put, List.setIfInBounds_toArray, List.set_cons_zero, List.set_cons_succ, i64_w, i32_w]
                                      rfl
                                     refine pure_ (i := 16) (N := some 199) (v := undef) (a' := ?_) #[true, true, true, true, true, true, true, true, true, true, true, true, true, true, true, true, true, false, false] rfl rfl (any_of HT_.out (by kernel_rfl)) (fun _ _ _ h => h) (Or.inr ⟨by rfl, rfl⟩) ?_ ?_
                                     rotate_left
                                     ·simp only [Act.put, List.setIfInBounds_toArray, List.set_cons_zero, List.set_cons_succ, i64_w, i32_w]
                                      rfl
                                     refine pure_ (i := 17) (N := some 200) (v := undef) (a' := ?_) #[true, true, true, true, true, true, true, true, true, true, true, true, true, true, true, true, true, true, false] rfl rfl (any_of HT_.out (by kernel_rfl)) (fun _ _ _ h => h) (Or.inr ⟨by rfl, rfl⟩) ?_ ?_
                                     rotate_left
                                     ·simp only [Act.put, List.setIfInBounds_toArray, List.set_cons_zero, List.set_cons_succ, i64_w, i32_w]
                                      rfl
                                     refine pure_ (i := 18) (N := some 201) (v := ?_) (a' := ?_) #[true, true, true, true, true, true, true, true, true, true, true, true, true, true, true, true, true, true, true] rfl rfl (any_of HT_.out (by kernel_rfl)) (fun _ _ _ h => h) (Or.inl ⟨by rfl, ?_⟩) ?_ ?_
                                     rotate_left
                                     ·intro w'
                                      go_simp
                                      with_reducible rfl
                                     rotate_left
                                     ·simp only [Act.put, List.setIfInBounds_toArray, List.set_cons_zero, List.set_cons_succ, i64_w, i32_w]
                                      rfl
                                     refine done_ (done_of HT_.out (by kernel_rfl)) ?_
                                     try go_wp2
                                     go_meet
                                     case rel => exact ⟨_, (false), (by first | rfl | (simp; done) | (simp [*]; done)), H', ⟨by have := HJ5.out; have := HJ24.out; have := HJ29.out; have := HK4.out; have := HJ31.out; have := HK6.out; have := HJ58.out; have := HK8.out; have := HK9.out; first | omega | exact Nat.le_refl _⟩, ⟨by (with_reducible repeat (first | refine blk_drewN ?_ _ | refine blk_drew ?_ | refine blk_alloc ?_ _)); exact BK294.out⟩, ⟨by (with_reducible repeat (first | refine blk_drewN ?_ _ | refine blk_drew ?_ | refine blk_alloc ?_ _)); exact BK296.out⟩, ⟨by repeat (first | (with_reducible first | exact HB.out | apply below_alloc | apply pw_below_drewN | apply below_drew1 | refine below_set ?_ GE294.out | refine below_set ?_ GE296.out) | exact HB.out)⟩⟩
                                  ·rw [if_neg c78] at H
                                   exact absurd H (by simp)
                                 ·rw [if_neg c77] at H
                                  exact absurd H (by simp)
                               case rest =>
                                clear HC70
                                try clear c1
                                try clear c2
                                try clear p2
                                try clear q2
                                try clear hx2
                                try clear c6
                                try clear c7
                                try clear c8
                                try clear c15
                                try clear c29
                                try clear p29
                                try clear q29
                                try clear hx29
                                try clear c67
                                try clear c67b0
                                try clear c68
                                try clear c68b0
                                try clear c69
                                try clear c69b0
                                try clear c72
                                try clear c74
                                try clear c74b0
                                try clear c74b1
                                try clear c77
                                try clear c77b0
                                try clear c78
                                try clear c78b0
                                try clear c79
                                try clear c79b0
                                try clear c80
                                try clear c80b0
                                try clear hcz73_0
                                try clear hcz73_1
                                try clear hfz73_0
                                try clear hfz73_1
                                try clear hx295_0
                                try clear hx295_1
                                try clear hx297_0
                                try clear hx298_0
                                try clear p295
                                try clear p297
                                try clear p298
                                try clear q290
                                try clear q291
                                try clear q293
                                try clear q295
                                try clear q297
                                try clear q298
                                obtain ⟨kq, x201_69, rfl, HA, HJ69, BK294, BK296, HB⟩ := hcut
                                cases kq with
                                | zero => exact absurd HA.out (by simp [gridhalllaw3_WelfareMoves.j9])
                                | succ kj69 =>
                                 have H := HA.out
                                 clear HA
                                 simp only [gridhalllaw3_WelfareMoves.j9] at H
                                 by_cases c87 : x201_69 = true
                                 ·subst c87
                                  have H1 : (if 0 ≤ x171_8 then (if x171_8 < (l1.length : Int) then ((gridhallref3_Unit.f kj69 ((rd_T29 l0 x171_8).f0) ((rd_T29 l0 x171_8).f1) (wrap64 ((rd l1 x171_8) - 1))).bind fun t301 => (if 0 ≤ x178_9 then (if x178_9 < (l1.length : Int) then ((gridhallref3_Unit.f kj69 ((rd_T29 l0 x178_9).f0) ((rd_T29 l0 x178_9).f1) (rd l1 x178_9)).bind fun t303 => (if (wrap64 (t301 - t303)) > x23_9 then (gridhalllaw3_WelfareMoves.l3 kj69 l0 l1 t274 t275 t276 t277 x171_8 x178_9 (wrap64 (t301 - t303)) x171_8 l0 (l0.length : Int) x171_8 l0 (l0.length : Int) (wrap64 (x178_9 + 1)) ((rd_T29 l0 x171_8).f0) ((rd_T29 l0 x171_8).f1)) else (gridhalllaw3_WelfareMoves.l3 kj69 l0 l1 t274 t275 t276 t277 x21_9 x22_9 x23_9 x171_8 l0 (l0.length : Int) x171_8 l0 (l0.length : Int) (wrap64 (x178_9 + 1)) ((rd_T29 l0 x171_8).f0) ((rd_T29 l0 x171_8).f1)))) else (none)) else (none))) else (none)) else (none)) = some r := by rw [if_pos rfl] at H; exact H
                                  clear H
                                  have H := H1
                                  clear H1
                                  by_cases c88 : 0 ≤ x171_8
                                  ·rw [if_pos c88] at H
                                   have c88b0 : decide (0 ≤ x171_8) = true := decide_eq_true c88
                                   clear c88
                                   by_cases c89 : x171_8 < (l1.length : Int)
                                   ·rw [if_pos c89] at H
                                    have c89b0 : decide (x171_8 < (l1.length : Int)) = true := decide_eq_true c89
                                    clear c89
                                    replace H := Option.bind_eq_some_iff.mp H
                                    obtain ⟨t301, A900, H⟩ := H
                                    replace H : (if 0 ≤ x178_9 then (if x178_9 < (l1.length : Int) then ((gridhallref3_Unit.f kj69 ((rd_T29 l0 x178_9).f0) ((rd_T29 l0 x178_9).f1) (rd l1 x178_9)).bind fun t303 => (if (wrap64 (t301 - t303)) > x23_9 then (gridhalllaw3_WelfareMoves.l3 kj69 l0 l1 t274 t275 t276 t277 x171_8 x178_9 (wrap64 (t301 - t303)) x171_8 l0 (l0.length : Int) x171_8 l0 (l0.length : Int) (wrap64 (x178_9 + 1)) ((rd_T29 l0 x171_8).f0) ((rd_T29 l0 x171_8).f1)) else (gridhalllaw3_WelfareMoves.l3 kj69 l0 l1 t274 t275 t276 t277 x21_9 x22_9 x23_9 x171_8 l0 (l0.length : Int) x171_8 l0 (l0.length : Int) (wrap64 (x178_9 + 1)) ((rd_T29 l0 x171_8).f0) ((rd_T29 l0 x171_8).f1)))) else (none)) else (none)) = some r := H
                                    have A90 := Aside0.mk A900
                                    clear A900
                                    by_cases c91 : 0 ≤ x178_9
                                    ·rw [if_pos c91] at H
                                     have c91b0 : decide (0 ≤ x178_9) = true := decide_eq_true c91
                                     clear c91
                                     by_cases c92 : x178_9 < (l1.length : Int)
                                     ·rw [if_pos c92] at H
                                      have c92b0 : decide (x178_9 < (l1.length : Int)) = true := decide_eq_true c92
                                      clear c92
                                      replace H := Option.bind_eq_some_iff.mp H
                                      obtain ⟨t303, A930, H⟩ := H
                                      replace H : (if (wrap64 (t301 - t303)) > x23_9 then (gridhalllaw3_WelfareMoves.l3 kj69 l0 l1 t274 t275 t276 t277 x171_8 x178_9 (wrap64 (t301 - t303)) x171_8 l0 (l0.length : Int) x171_8 l0 (l0.length : Int) (wrap64 (x178_9 + 1)) ((rd_T29 l0 x171_8).f0) ((rd_T29 l0 x171_8).f1)) else (gridhalllaw3_WelfareMoves.l3 kj69 l0 l1 t274 t275 t276 t277 x21_9 x22_9 x23_9 x171_8 l0 (l0.length : Int) x171_8 l0 (l0.length : Int) (wrap64 (x178_9 + 1)) ((rd_T29 l0 x171_8).f0) ((rd_T29 l0 x171_8).f1))) = some r := H
                                      have A93 := Aside0.mk A930
                                      clear A930
                                      by_cases c94 : (wrap64 (t301 - t303)) > x23_9
                                      ·rw [if_pos c94] at H
                                       have c94b0 : decide (x23_9 < (wrap64 (t301 - t303))) = true := decide_eq_true c94
                                       clear c94
                                       as_aux_lemma =>
                                        have H' := Aside0.mk H
                                        clear H
                                        try go_wp2
                                        have n0_ := Aside0.mk (blk_drew BK294.out)
                                        have n1_ := Aside0.mk (blk_drew BK296.out)
                                        have n2_ := Aside0.mk (below_drew1 HB.out)
                                        clear BK294
                                        clear BK296
                                        clear HB
                                        have BK294 := n0_
                                        have BK296 := n1_
                                        have HB := n2_
                                        clear n0_ n1_ n2_
                                        have p300 : 0 ≤ (x171_8 : Int) := of_decide_eq_true (by first | (with_reducible assumption) | assumption)
                                        have q300 : x171_8 < (l1.length : Int) := of_decide_eq_true (by first | (with_reducible assumption) | assumption)
                                        obtain ⟨ad300, e300, hx300_0⟩ := Kd.at_int HR1.out x171_8 p300 q300
                                        have hw300_0 := hx300_0
                                        cases e300
                                        replace hx300_0 := (HB.out.cell (World.block_lt_of_cell? w _ hx300_0)).trans hx300_0
                                        replace p300 := eq_true p300
                                        replace q300 := eq_true q300
                                        have p302 : 0 ≤ (x178_9 : Int) := of_decide_eq_true (by first | (with_reducible assumption) | assumption)
                                        have q302 : x178_9 < (l1.length : Int) := of_decide_eq_true (by first | (with_reducible assumption) | assumption)
                                        obtain ⟨ad302, e302, hx302_0⟩ := Kd.at_int HR1.out x178_9 p302 q302
                                        have hw302_0 := hx302_0
                                        obtain rfl : ad300 = ad302 := (by injection e302)
                                        replace hx302_0 := (HB.out.cell (World.block_lt_of_cell? w _ hx302_0)).trans hx302_0
                                        replace p302 := eq_true p302
                                        replace q302 := eq_true q302
                                        refine start_ (n := 15) (S := fun w' => w'.cell? ⟨gb294, 0, none⟩ = some (.string ((rd_T29 l0 x171_8).f0)) ∧ w'.cell? ⟨gb294, 1, none⟩ = some (.slice A293_1 ((rd_T29 l0 x171_8).f1).length c293_1) ∧ w'.cell? ⟨gb296, 0, none⟩ = some (.string ((rd_T29 l0 x178_9).f0)) ∧ w'.cell? ⟨gb296, 1, none⟩ = some (.slice A295_1 ((rd_T29 l0 x178_9).f1).length c295_1) ∧ w'.cell? (ad300.add (x171_8).toNat) = some (.int .i64 (rd l1 x171_8)) ∧ w'.cell? (ad300.add (x178_9).toNat) = some (.int .i64 (rd l1 x178_9))) (ds := []) #[false, false, false, false, false, false, false, false, false, false, false, false, false, false, false] (by kernel_rfl) rfl rfl ⟨(blk_cell BK294.out 0).trans rfl, (blk_cell BK294.out 1).trans rfl, (blk_cell BK296.out 0).trans rfl, (blk_cell BK296.out 1).trans rfl, ((HB.out.cell (World.block_lt_of_cell? w _ hw300_0)).trans hw300_0), ((HB.out.cell (World.block_lt_of_cell? w _ hw302_0)).trans hw302_0)⟩ (fun hHeld => ?_); refine with_tabW gridhalllaw3_WelfareMoves.tab35 gridhalllaw3_WelfareMoves.bits35 (fun HT_ HW_ => ?_)
                                        generalize wc.drew = w95 at BK294 BK296 HB hx300_0 hx302_0 hHeld ⊢
                                        refine pure_ (i := 1) (N := some 203) (v := ?_) (a' := ?_) #[false, true, false, false, false, false, false, false, false, false, false, false, false, false, false] rfl rfl (any_of HT_.out (by kernel_rfl)) (fun _ _ _ h => h) (Or.inl ⟨by rfl, ?_⟩) ?_ ?_
                                        rotate_left
                                        ·intro w'
                                         go_simp
                                         with_reducible rfl
                                        rotate_left
                                        ·simp only [Act.put, List.setIfInBounds_toArray, List.set_cons_zero, List.set_cons_succ, i64_w, i32_w]
                                         rfl
                                        refine pure_ (i := 2) (N := some 204) (v := ?_) (a' := ?_) #[false, true, true, false, false, false, false, false, false, false, false, false, false, false, false] rfl rfl (any_of HT_.out (by kernel_rfl)) (fun _ _ _ h => h) (Or.inl ⟨by rfl, ?_⟩) ?_ ?_
                                        rotate_left
                                        ·intro w'
                                         go_simp
                                         with_reducible rfl
                                        rotate_left
                                        ·simp only [Act.put, List.setIfInBounds_toArray, List.set_cons_zero, List.set_cons_succ, i64_w, i32_w]
                                         rfl
                                        refine pure_ (i := 3) (N := some 205) (v := ?_) (a' := ?_) #[false, true, true, true, false, false, false, false, false, false, false, false, false, false, false] rfl rfl (any_of HT_.out (by kernel_rfl)) (fun _ _ _ h => h) (Or.inl ⟨by rfl, ?_⟩) ?_ ?_
                                        rotate_left
                                        ·intro w'
                                         go_simp
                                         with_reducible rfl
                                        rotate_left
                                        ·simp only [Act.put, List.setIfInBounds_toArray, List.set_cons_zero, List.set_cons_succ, i64_w, i32_w]
                                         rfl
                                        refine pure_ (i := 8) (N := some 210) (v := ?_) (a' := ?_) #[false, true, true, true, false, false, false, false, true, false, false, false, false, false, false] rfl rfl (any_of HT_.out (by kernel_rfl)) (fun _ _ _ h => h) (Or.inl ⟨by rfl, ?_⟩) ?_ ?_
                                        rotate_left
                                        ·intro w'
                                         go_simp
                                         with_reducible rfl
                                        rotate_left
                                        ·simp only [Act.put, List.setIfInBounds_toArray, List.set_cons_zero, List.set_cons_succ, i64_w, i32_w]
                                         rfl
                                        refine pure_ (i := 9) (N := some 211) (v := ?_) (a' := ?_) #[false, true, true, true, false, false, false, false, true, true, false, false, false, false, false] rfl rfl (any_of HT_.out (by kernel_rfl)) (fun _ _ _ h => h) (Or.inl ⟨by rfl, ?_⟩) ?_ ?_
                                        rotate_left
                                        ·intro w'
                                         go_simp
                                         with_reducible rfl
                                        rotate_left
                                        ·simp only [Act.put, List.setIfInBounds_toArray, List.set_cons_zero, List.set_cons_succ, i64_w, i32_w]
                                         rfl
                                        refine pure_ (i := 10) (N := some 212) (v := ?_) (a' := ?_) #[false, true, true, true, false, false, false, false, true, true, true, false, false, false, false] rfl rfl (any_of HT_.out (by kernel_rfl)) (fun _ _ _ h => h) (Or.inl ⟨by rfl, ?_⟩) ?_ ?_
                                        rotate_left
                                        ·intro w'
                                         go_simp
                                         with_reducible rfl
                                        rotate_left
                                        ·simp only [Act.put, List.setIfInBounds_toArray, List.set_cons_zero, List.set_cons_succ, i64_w, i32_w]
                                         rfl
                                        refine take_ (i := 0) (N := some 202) (v := ?_) (a' := ?_) #[true, true, true, true, false, false, false, false, true, true, true, false, false, false, false] rfl rfl (take_ofW HT_.out HW_.out (by kernel_rfl)) (fun _ _ _ h => h) (Or.inl ⟨by rfl, ?_⟩) hHeld ?_ ?_
                                        rotate_left
                                        ·rintro w' ⟨s0, s1, s2, s3, s4, s5⟩
                                         go_simp
                                         with_reducible rfl
                                        rotate_left
                                        ·simp only [Act.put, List.setIfInBounds_toArray, List.set_cons_zero, List.set_cons_succ, i64_w, i32_w]
                                         rfl
                                        refine take_ (i := 4) (N := some 206) (v := ?_) (a' := ?_) #[true, true, true, true, true, false, false, false, true, true, true, false, false, false, false] rfl rfl (take_ofW HT_.out HW_.out (by kernel_rfl)) (fun _ _ _ h => h) (Or.inl ⟨by rfl, ?_⟩) hHeld ?_ ?_
                                        rotate_left
                                        ·rintro w' ⟨s0, s1, s2, s3, s4, s5⟩
                                         go_simp
                                         with_reducible rfl
                                        rotate_left
                                        ·simp only [Act.put, List.setIfInBounds_toArray, List.set_cons_zero, List.set_cons_succ, i64_w, i32_w]
                                         rfl
                                        refine pure_ (i := 5) (N := some 207) (v := ?_) (a' := ?_) #[true, true, true, true, true, true, false, false, true, true, true, false, false, false, false] rfl rfl (any_of HT_.out (by kernel_rfl)) (fun _ _ _ h => h) (Or.inl ⟨by rfl, ?_⟩) ?_ ?_
                                        rotate_left
                                        ·intro w'
                                         go_simp
                                         with_reducible rfl
                                        rotate_left
                                        ·simp only [Act.put, List.setIfInBounds_toArray, List.set_cons_zero, List.set_cons_succ, i64_w, i32_w]
                                         rfl
                                        refine take_ (i := 7) (N := some 209) (v := ?_) (a' := ?_) #[true, true, true, true, true, true, false, true, true, true, true, false, false, false, false] rfl rfl (take_ofW HT_.out HW_.out (by kernel_rfl)) (fun _ _ _ h => h) (Or.inl ⟨by rfl, ?_⟩) hHeld ?_ ?_
                                        rotate_left
                                        ·rintro w' ⟨s0, s1, s2, s3, s4, s5⟩
                                         go_simp
                                         with_reducible rfl
                                        rotate_left
                                        ·simp only [Act.put, List.setIfInBounds_toArray, List.set_cons_zero, List.set_cons_succ, i64_w, i32_w]
                                         rfl
                                        refine take_ (i := 11) (N := some 213) (v := ?_) (a' := ?_) #[true, true, true, true, true, true, false, true, true, true, true, true, false, false, false] rfl rfl (take_ofW HT_.out HW_.out (by kernel_rfl)) (fun _ _ _ h => h) (Or.inl ⟨by rfl, ?_⟩) hHeld ?_ ?_
                                        rotate_left
                                        ·rintro w' ⟨s0, s1, s2, s3, s4, s5⟩
                                         go_simp
                                         with_reducible rfl
                                        rotate_left
                                        ·simp only [Act.put, List.setIfInBounds_toArray, List.set_cons_zero, List.set_cons_succ, i64_w, i32_w]
                                         rfl
                                        refine one_ (i := 6) (N := some 208) #[true, true, true, true, true, true, true, true, true, true, true, true, false, false, false] rfl rfl (one_of HT_.out (by kernel_rfl)) (by decide) (fun K hK => ?_)
                                        refine goes_ Try.func26 (by kernel_rfl) rfl #[.agg #[.string ((rd_T29 l0 x171_8).f0), .slice A293_1 ((rd_T29 l0 x171_8).f1).length c293_1], .int .i64 (wrap64 ((rd l1 x171_8) - 1))] (by rfl) rfl rfl (by (try simp only [List.map_toArray, List.map_cons, List.map_nil]); first | done | rfl | (simp only [List.length_drop, List.length_take]; rfl)) ?_
                                        with_reducible refine (gridhallref3_Unit.calls kj69 ((rd_T29 l0 x171_8).f0) _ _ ((rd_T29 l0 x171_8).f1) (wrap64 ((rd l1 x171_8) - 1)) t301 _ ?side1 ?side2 A90.out).mono ?_
                                        (case side1 => repeat (first | exact (Kd.C_below HR293_1.out HB.out) | (with_reducible refine Kd.C_alloc ?_ _) | (with_reducible refine Kd.C_drewN ?_ _) | (with_reducible refine Kd.C_drew ?_)))
                                        (case side2 => exact HC293_1.out)
                                        rintro e w96 ⟨rfl, hb⟩
                                        refine ⟨_, rfl, ?_⟩
                                        have n0_ := Aside0.mk (blk_below (g := gb294) (o := .cells #[.string ((rd_T29 l0 x171_8).f0), .slice A293_1 ((rd_T29 l0 x171_8).f1).length c293_1] 29 (0, 0)) (by (with_reducible repeat (first | refine blk_drewN ?_ _ | refine blk_drew ?_ | refine blk_alloc ?_ _)); exact BK294.out) hb)
                                        have n1_ := Aside0.mk (blk_below (g := gb296) (o := .cells #[.string ((rd_T29 l0 x178_9).f0), .slice A295_1 ((rd_T29 l0 x178_9).f1).length c295_1] 29 (0, 0)) (by (with_reducible repeat (first | refine blk_drewN ?_ _ | refine blk_drew ?_ | refine blk_alloc ?_ _)); exact BK296.out) hb)
                                        have n2_ := Aside0.mk (below_step (by repeat (first | (with_reducible first | exact HB.out | apply below_alloc | apply pw_below_drewN | apply below_drew1 | refine below_set ?_ GE294.out | refine below_set ?_ GE296.out) | exact HB.out)) hb)
                                        clear BK294
                                        clear BK296
                                        clear HB
                                        have BK294 := n0_
                                        have BK296 := n1_
                                        have HB := n2_
                                        clear n0_ n1_ n2_
                                        (try clear hb)
                                        (try clear hb2)
                                        (try clear hk)
                                        (try clear hi)
                                        refine hK.out _ _ ⟨(blk_cell BK294.out 0).trans rfl, (blk_cell BK294.out 1).trans rfl, (blk_cell BK296.out 0).trans rfl, (blk_cell BK296.out 1).trans rfl, ((HB.out.cell (World.block_lt_of_cell? w _ hw300_0)).trans hw300_0), ((HB.out.cell (World.block_lt_of_cell? w _ hw302_0)).trans hw302_0)⟩ (fun hHeld => ?_)
                                        clear hK K
                                        refine norm_ (a' := ?_) ?_ ?_
                                        rotate_left
                                        ·show Act.put _ (some 208) _ = _
                                         simp only [Act.put, List.setIfInBounds_toArray, List.set_cons_zero, List.set_cons_succ, i64_w, i32_w]
                                         rfl
                                        refine one_ (i := 12) (N := some 214) #[true, true, true, true, true, true, true, true, true, true, true, true, true, false, false] rfl rfl (one_of HT_.out (by kernel_rfl)) (by decide) (fun K hK => ?_)
                                        refine goes_ Try.func26 (by kernel_rfl) rfl #[.agg #[.string ((rd_T29 l0 x178_9).f0), .slice A295_1 ((rd_T29 l0 x178_9).f1).length c295_1], .int .i64 (rd l1 x178_9)] (by rfl) rfl rfl (by (try simp only [List.map_toArray, List.map_cons, List.map_nil]); first | done | rfl | (simp only [List.length_drop, List.length_take]; rfl)) ?_
                                        with_reducible refine (gridhallref3_Unit.calls kj69 ((rd_T29 l0 x178_9).f0) _ _ ((rd_T29 l0 x178_9).f1) (rd l1 x178_9) t303 _ ?side1 ?side2 A93.out).mono ?_
                                        (case side1 => repeat (first | exact (Kd.C_below HR295_1.out HB.out) | (with_reducible refine Kd.C_alloc ?_ _) | (with_reducible refine Kd.C_drewN ?_ _) | (with_reducible refine Kd.C_drew ?_)))
                                        (case side2 => exact HC295_1.out)
                                        rintro e w97 ⟨rfl, hb⟩
                                        refine ⟨_, rfl, ?_⟩
                                        have n0_ := Aside0.mk (blk_below (g := gb294) (o := .cells #[.string ((rd_T29 l0 x171_8).f0), .slice A293_1 ((rd_T29 l0 x171_8).f1).length c293_1] 29 (0, 0)) (by (with_reducible repeat (first | refine blk_drewN ?_ _ | refine blk_drew ?_ | refine blk_alloc ?_ _)); exact BK294.out) hb)
                                        have n1_ := Aside0.mk (blk_below (g := gb296) (o := .cells #[.string ((rd_T29 l0 x178_9).f0), .slice A295_1 ((rd_T29 l0 x178_9).f1).length c295_1] 29 (0, 0)) (by (with_reducible repeat (first | refine blk_drewN ?_ _ | refine blk_drew ?_ | refine blk_alloc ?_ _)); exact BK296.out) hb)
                                        have n2_ := Aside0.mk (below_step (by repeat (first | (with_reducible first | exact HB.out | apply below_alloc | apply pw_below_drewN | apply below_drew1 | refine below_set ?_ GE294.out | refine below_set ?_ GE296.out) | exact HB.out)) hb)
                                        clear BK294
                                        clear BK296
                                        clear HB
                                        have BK294 := n0_
                                        have BK296 := n1_
                                        have HB := n2_
                                        clear n0_ n1_ n2_
                                        (try clear hb)
                                        (try clear hb2)
                                        (try clear hk)
                                        (try clear hi)
                                        refine hK.out _ _ ⟨(blk_cell BK294.out 0).trans rfl, (blk_cell BK294.out 1).trans rfl, (blk_cell BK296.out 0).trans rfl, (blk_cell BK296.out 1).trans rfl, ((HB.out.cell (World.block_lt_of_cell? w _ hw300_0)).trans hw300_0), ((HB.out.cell (World.block_lt_of_cell? w _ hw302_0)).trans hw302_0)⟩ (fun hHeld => ?_)
                                        clear hK K
                                        refine norm_ (a' := ?_) ?_ ?_
                                        rotate_left
                                        ·show Act.put _ (some 214) _ = _
                                         simp only [Act.put, List.setIfInBounds_toArray, List.set_cons_zero, List.set_cons_succ, i64_w, i32_w]
                                         rfl
                                        refine pure_ (i := 13) (N := some 215) (v := ?_) (a' := ?_) #[true, true, true, true, true, true, true, true, true, true, true, true, true, true, false] rfl rfl (any_of HT_.out (by kernel_rfl)) (fun _ _ _ h => h) (Or.inl ⟨by rfl, ?_⟩) ?_ ?_
                                        rotate_left
                                        ·intro w'
                                         go_simp
                                         with_reducible rfl
                                        rotate_left
                                        ·simp only [Act.put, List.setIfInBounds_toArray, List.set_cons_zero, List.set_cons_succ, i64_w, i32_w]
                                         rfl
                                        refine pure_ (i := 14) (N := some 28) (v := ?_) (a' := ?_) #[true, true, true, true, true, true, true, true, true, true, true, true, true, true, true] rfl rfl (any_of HT_.out (by kernel_rfl)) (fun _ _ _ h => h) (Or.inl ⟨by rfl, ?_⟩) ?_ ?_
                                        rotate_left
                                        ·intro w'
                                         go_simp
                                         with_reducible rfl
                                        rotate_left
                                        ·simp only [Act.put, List.setIfInBounds_toArray, List.set_cons_zero, List.set_cons_succ, i64_w, i32_w]
                                         rfl
                                        refine done_ (done_of HT_.out (by kernel_rfl)) ?_
                                        try go_wp2
                                        go_roundg kj69
                                        case measure => have := HJ5.out; have := HJ24.out; have := HJ29.out; have := HK4.out; have := HJ31.out; have := HK6.out; have := HJ58.out; have := HK8.out; have := HK9.out; have := HJ69.out; omega
                                        case rel => exact ⟨(x171_8), (x178_9), (wrap64 (t301 - t303)), (wrap64 (x178_9 + 1)), (by first | rfl | (simp; done) | (simp [*]; done)), (by first | rfl | (simp; done) | (simp [*]; done)), (by first | rfl | (simp; done) | (simp [*]; done)), (by first | rfl | (simp; done) | (simp [*]; done)), H', ⟨by have := HJ5.out; have := HJ24.out; have := HJ29.out; have := HK4.out; have := HJ31.out; have := HK6.out; have := HJ58.out; have := HK8.out; have := HK9.out; have := HJ69.out; omega⟩, ⟨by (with_reducible repeat (first | refine blk_drewN ?_ _ | refine blk_drew ?_ | refine blk_alloc ?_ _)); exact BK294.out⟩, ⟨by repeat (first | (with_reducible first | exact HB.out | apply below_alloc | apply pw_below_drewN | apply below_drew1 | refine below_set ?_ GE294.out | refine below_set ?_ GE296.out) | exact HB.out)⟩⟩
                                      ·rw [if_neg c94] at H
                                       have c94b0 : decide (x23_9 < (wrap64 (t301 - t303))) = false := decide_eq_false c94
                                       clear c94
                                       as_aux_lemma =>
                                        have H' := Aside0.mk H
                                        clear H
                                        try go_wp2
                                        have n0_ := Aside0.mk (blk_drew BK294.out)
                                        have n1_ := Aside0.mk (blk_drew BK296.out)
                                        have n2_ := Aside0.mk (below_drew1 HB.out)
                                        clear BK294
                                        clear BK296
                                        clear HB
                                        have BK294 := n0_
                                        have BK296 := n1_
                                        have HB := n2_
                                        clear n0_ n1_ n2_
                                        have p300 : 0 ≤ (x171_8 : Int) := of_decide_eq_true (by first | (with_reducible assumption) | assumption)
                                        have q300 : x171_8 < (l1.length : Int) := of_decide_eq_true (by first | (with_reducible assumption) | assumption)
                                        obtain ⟨ad300, e300, hx300_0⟩ := Kd.at_int HR1.out x171_8 p300 q300
                                        have hw300_0 := hx300_0
                                        cases e300
                                        replace hx300_0 := (HB.out.cell (World.block_lt_of_cell? w _ hx300_0)).trans hx300_0
                                        replace p300 := eq_true p300
                                        replace q300 := eq_true q300
                                        have p302 : 0 ≤ (x178_9 : Int) := of_decide_eq_true (by first | (with_reducible assumption) | assumption)
                                        have q302 : x178_9 < (l1.length : Int) := of_decide_eq_true (by first | (with_reducible assumption) | assumption)
                                        obtain ⟨ad302, e302, hx302_0⟩ := Kd.at_int HR1.out x178_9 p302 q302
                                        have hw302_0 := hx302_0
                                        obtain rfl : ad300 = ad302 := (by injection e302)
                                        replace hx302_0 := (HB.out.cell (World.block_lt_of_cell? w _ hx302_0)).trans hx302_0
                                        replace p302 := eq_true p302
                                        replace q302 := eq_true q302
                                        refine start_ (n := 15) (S := fun w' => w'.cell? ⟨gb294, 0, none⟩ = some (.string ((rd_T29 l0 x171_8).f0)) ∧ w'.cell? ⟨gb294, 1, none⟩ = some (.slice A293_1 ((rd_T29 l0 x171_8).f1).length c293_1) ∧ w'.cell? ⟨gb296, 0, none⟩ = some (.string ((rd_T29 l0 x178_9).f0)) ∧ w'.cell? ⟨gb296, 1, none⟩ = some (.slice A295_1 ((rd_T29 l0 x178_9).f1).length c295_1) ∧ w'.cell? (ad300.add (x171_8).toNat) = some (.int .i64 (rd l1 x171_8)) ∧ w'.cell? (ad300.add (x178_9).toNat) = some (.int .i64 (rd l1 x178_9))) (ds := []) #[false, false, false, false, false, false, false, false, false, false, false, false, false, false, false] (by kernel_rfl) rfl rfl ⟨(blk_cell BK294.out 0).trans rfl, (blk_cell BK294.out 1).trans rfl, (blk_cell BK296.out 0).trans rfl, (blk_cell BK296.out 1).trans rfl, ((HB.out.cell (World.block_lt_of_cell? w _ hw300_0)).trans hw300_0), ((HB.out.cell (World.block_lt_of_cell? w _ hw302_0)).trans hw302_0)⟩ (fun hHeld => ?_); refine with_tabW gridhalllaw3_WelfareMoves.tab35 gridhalllaw3_WelfareMoves.bits35 (fun HT_ HW_ => ?_)
                                        generalize wc.drew = w98 at BK294 BK296 HB hx300_0 hx302_0 hHeld ⊢
                                        refine pure_ (i := 1) (N := some 203) (v := ?_) (a' := ?_) #[false, true, false, false, false, false, false, false, false, false, false, false, false, false, false] rfl rfl (any_of HT_.out (by kernel_rfl)) (fun _ _ _ h => h) (Or.inl ⟨by rfl, ?_⟩) ?_ ?_
                                        rotate_left
                                        ·intro w'
                                         go_simp
                                         with_reducible rfl
                                        rotate_left
                                        ·simp only [Act.put, List.setIfInBounds_toArray, List.set_cons_zero, List.set_cons_succ, i64_w, i32_w]
                                         rfl
                                        refine pure_ (i := 2) (N := some 204) (v := ?_) (a' := ?_) #[false, true, true, false, false, false, false, false, false, false, false, false, false, false, false] rfl rfl (any_of HT_.out (by kernel_rfl)) (fun _ _ _ h => h) (Or.inl ⟨by rfl, ?_⟩) ?_ ?_
                                        rotate_left
                                        ·intro w'
                                         go_simp
                                         with_reducible rfl
                                        rotate_left
                                        ·simp only [Act.put, List.setIfInBounds_toArray, List.set_cons_zero, List.set_cons_succ, i64_w, i32_w]
                                         rfl
                                        refine pure_ (i := 3) (N := some 205) (v := ?_) (a' := ?_) #[false, true, true, true, false, false, false, false, false, false, false, false, false, false, false] rfl rfl (any_of HT_.out (by kernel_rfl)) (fun _ _ _ h => h) (Or.inl ⟨by rfl, ?_⟩) ?_ ?_
                                        rotate_left
                                        ·intro w'
                                         go_simp
                                         with_reducible rfl
                                        rotate_left
                                        ·simp only [Act.put, List.setIfInBounds_toArray, List.set_cons_zero, List.set_cons_succ, i64_w, i32_w]
                                         rfl
                                        refine pure_ (i := 8) (N := some 210) (v := ?_) (a' := ?_) #[false, true, true, true, false, false, false, false, true, false, false, false, false, false, false] rfl rfl (any_of HT_.out (by kernel_rfl)) (fun _ _ _ h => h) (Or.inl ⟨by rfl, ?_⟩) ?_ ?_
                                        rotate_left
                                        ·intro w'
                                         go_simp
                                         with_reducible rfl
                                        rotate_left
                                        ·simp only [Act.put, List.setIfInBounds_toArray, List.set_cons_zero, List.set_cons_succ, i64_w, i32_w]
                                         rfl
                                        refine pure_ (i := 9) (N := some 211) (v := ?_) (a' := ?_) #[false, true, true, true, false, false, false, false, true, true, false, false, false, false, false] rfl rfl (any_of HT_.out (by kernel_rfl)) (fun _ _ _ h => h) (Or.inl ⟨by rfl, ?_⟩) ?_ ?_
                                        rotate_left
                                        ·intro w'
                                         go_simp
                                         with_reducible rfl
                                        rotate_left
                                        ·simp only [Act.put, List.setIfInBounds_toArray, List.set_cons_zero, List.set_cons_succ, i64_w, i32_w]
                                         rfl
                                        refine pure_ (i := 10) (N := some 212) (v := ?_) (a' := ?_) #[false, true, true, true, false, false, false, false, true, true, true, false, false, false, false] rfl rfl (any_of HT_.out (by kernel_rfl)) (fun _ _ _ h => h) (Or.inl ⟨by rfl, ?_⟩) ?_ ?_
                                        rotate_left
                                        ·intro w'
                                         go_simp
                                         with_reducible rfl
                                        rotate_left
                                        ·simp only [Act.put, List.setIfInBounds_toArray, List.set_cons_zero, List.set_cons_succ, i64_w, i32_w]
                                         rfl
                                        refine take_ (i := 0) (N := some 202) (v := ?_) (a' := ?_) #[true, true, true, true, false, false, false, false, true, true, true, false, false, false, false] rfl rfl (take_ofW HT_.out HW_.out (by kernel_rfl)) (fun _ _ _ h => h) (Or.inl ⟨by rfl, ?_⟩) hHeld ?_ ?_
                                        rotate_left
                                        ·rintro w' ⟨s0, s1, s2, s3, s4, s5⟩
                                         go_simp
                                         with_reducible rfl
                                        rotate_left
                                        ·simp only [Act.put, List.setIfInBounds_toArray, List.set_cons_zero, List.set_cons_succ, i64_w, i32_w]
                                         rfl
                                        refine take_ (i := 4) (N := some 206) (v := ?_) (a' := ?_) #[true, true, true, true, true, false, false, false, true, true, true, false, false, false, false] rfl rfl (take_ofW HT_.out HW_.out (by kernel_rfl)) (fun _ _ _ h => h) (Or.inl ⟨by rfl, ?_⟩) hHeld ?_ ?_
                                        rotate_left
                                        ·rintro w' ⟨s0, s1, s2, s3, s4, s5⟩
                                         go_simp
                                         with_reducible rfl
                                        rotate_left
                                        ·simp only [Act.put, List.setIfInBounds_toArray, List.set_cons_zero, List.set_cons_succ, i64_w, i32_w]
                                         rfl
                                        refine pure_ (i := 5) (N := some 207) (v := ?_) (a' := ?_) #[true, true, true, true, true, true, false, false, true, true, true, false, false, false, false] rfl rfl (any_of HT_.out (by kernel_rfl)) (fun _ _ _ h => h) (Or.inl ⟨by rfl, ?_⟩) ?_ ?_
                                        rotate_left
                                        ·intro w'
                                         go_simp
                                         with_reducible rfl
                                        rotate_left
                                        ·simp only [Act.put, List.setIfInBounds_toArray, List.set_cons_zero, List.set_cons_succ, i64_w, i32_w]
                                         rfl
                                        refine take_ (i := 7) (N := some 209) (v := ?_) (a' := ?_) #[true, true, true, true, true, true, false, true, true, true, true, false, false, false, false] rfl rfl (take_ofW HT_.out HW_.out (by kernel_rfl)) (fun _ _ _ h => h) (Or.inl ⟨by rfl, ?_⟩) hHeld ?_ ?_
                                        rotate_left
                                        ·rintro w' ⟨s0, s1, s2, s3, s4, s5⟩
                                         go_simp
                                         with_reducible rfl
                                        rotate_left
                                        ·simp only [Act.put, List.setIfInBounds_toArray, List.set_cons_zero, List.set_cons_succ, i64_w, i32_w]
                                         rfl
                                        refine take_ (i := 11) (N := some 213) (v := ?_) (a' := ?_) #[true, true, true, true, true, true, false, true, true, true, true, true, false, false, false] rfl rfl (take_ofW HT_.out HW_.out (by kernel_rfl)) (fun _ _ _ h => h) (Or.inl ⟨by rfl, ?_⟩) hHeld ?_ ?_
                                        rotate_left
                                        ·rintro w' ⟨s0, s1, s2, s3, s4, s5⟩
                                         go_simp
                                         with_reducible rfl
                                        rotate_left
                                        ·simp only [Act.put, List.setIfInBounds_toArray, List.set_cons_zero, List.set_cons_succ, i64_w, i32_w]
                                         rfl
                                        refine one_ (i := 6) (N := some 208) #[true, true, true, true, true, true, true, true, true, true, true, true, false, false, false] rfl rfl (one_of HT_.out (by kernel_rfl)) (by decide) (fun K hK => ?_)
                                        refine goes_ Try.func26 (by kernel_rfl) rfl #[.agg #[.string ((rd_T29 l0 x171_8).f0), .slice A293_1 ((rd_T29 l0 x171_8).f1).length c293_1], .int .i64 (wrap64 ((rd l1 x171_8) - 1))] (by rfl) rfl rfl (by (try simp only [List.map_toArray, List.map_cons, List.map_nil]); first | done | rfl | (simp only [List.length_drop, List.length_take]; rfl)) ?_
                                        with_reducible refine (gridhallref3_Unit.calls kj69 ((rd_T29 l0 x171_8).f0) _ _ ((rd_T29 l0 x171_8).f1) (wrap64 ((rd l1 x171_8) - 1)) t301 _ ?side1 ?side2 A90.out).mono ?_
                                        (case side1 => repeat (first | exact (Kd.C_below HR293_1.out HB.out) | (with_reducible refine Kd.C_alloc ?_ _) | (with_reducible refine Kd.C_drewN ?_ _) | (with_reducible refine Kd.C_drew ?_)))
                                        (case side2 => exact HC293_1.out)
                                        rintro e w99 ⟨rfl, hb⟩
                                        refine ⟨_, rfl, ?_⟩
                                        have n0_ := Aside0.mk (blk_below (g := gb294) (o := .cells #[.string ((rd_T29 l0 x171_8).f0), .slice A293_1 ((rd_T29 l0 x171_8).f1).length c293_1] 29 (0, 0)) (by (with_reducible repeat (first | refine blk_drewN ?_ _ | refine blk_drew ?_ | refine blk_alloc ?_ _)); exact BK294.out) hb)
                                        have n1_ := Aside0.mk (blk_below (g := gb296) (o := .cells #[.string ((rd_T29 l0 x178_9).f0), .slice A295_1 ((rd_T29 l0 x178_9).f1).length c295_1] 29 (0, 0)) (by (with_reducible repeat (first | refine blk_drewN ?_ _ | refine blk_drew ?_ | refine blk_alloc ?_ _)); exact BK296.out) hb)
                                        have n2_ := Aside0.mk (below_step (by repeat (first | (with_reducible first | exact HB.out | apply below_alloc | apply pw_below_drewN | apply below_drew1 | refine below_set ?_ GE294.out | refine below_set ?_ GE296.out) | exact HB.out)) hb)
                                        clear BK294
                                        clear BK296
                                        clear HB
                                        have BK294 := n0_
                                        have BK296 := n1_
                                        have HB := n2_
                                        clear n0_ n1_ n2_
                                        (try clear hb)
                                        (try clear hb2)
                                        (try clear hk)
                                        (try clear hi)
                                        refine hK.out _ _ ⟨(blk_cell BK294.out 0).trans rfl, (blk_cell BK294.out 1).trans rfl, (blk_cell BK296.out 0).trans rfl, (blk_cell BK296.out 1).trans rfl, ((HB.out.cell (World.block_lt_of_cell? w _ hw300_0)).trans hw300_0), ((HB.out.cell (World.block_lt_of_cell? w _ hw302_0)).trans hw302_0)⟩ (fun hHeld => ?_)
                                        clear hK K
                                        refine norm_ (a' := ?_) ?_ ?_
                                        rotate_left
                                        ·show Act.put _ (some 208) _ = _
                                         simp only [Act.put, List.setIfInBounds_toArray, List.set_cons_zero, List.set_cons_succ, i64_w, i32_w]
                                         rfl
                                        refine one_ (i := 12) (N := some 214) #[true, true, true, true, true, true, true, true, true, true, true, true, true, false, false] rfl rfl (one_of HT_.out (by kernel_rfl)) (by decide) (fun K hK => ?_)
                                        refine goes_ Try.func26 (by kernel_rfl) rfl #[.agg #[.string ((rd_T29 l0 x178_9).f0), .slice A295_1 ((rd_T29 l0 x178_9).f1).length c295_1], .int .i64 (rd l1 x178_9)] (by rfl) rfl rfl (by (try simp only [List.map_toArray, List.map_cons, List.map_nil]); first | done | rfl | (simp only [List.length_drop, List.length_take]; rfl)) ?_
                                        with_reducible refine (gridhallref3_Unit.calls kj69 ((rd_T29 l0 x178_9).f0) _ _ ((rd_T29 l0 x178_9).f1) (rd l1 x178_9) t303 _ ?side1 ?side2 A93.out).mono ?_
                                        (case side1 => repeat (first | exact (Kd.C_below HR295_1.out HB.out) | (with_reducible refine Kd.C_alloc ?_ _) | (with_reducible refine Kd.C_drewN ?_ _) | (with_reducible refine Kd.C_drew ?_)))
                                        (case side2 => exact HC295_1.out)
                                        rintro e w100 ⟨rfl, hb⟩
                                        refine ⟨_, rfl, ?_⟩
                                        have n0_ := Aside0.mk (blk_below (g := gb294) (o := .cells #[.string ((rd_T29 l0 x171_8).f0), .slice A293_1 ((rd_T29 l0 x171_8).f1).length c293_1] 29 (0, 0)) (by (with_reducible repeat (first | refine blk_drewN ?_ _ | refine blk_drew ?_ | refine blk_alloc ?_ _)); exact BK294.out) hb)
                                        have n1_ := Aside0.mk (blk_below (g := gb296) (o := .cells #[.string ((rd_T29 l0 x178_9).f0), .slice A295_1 ((rd_T29 l0 x178_9).f1).length c295_1] 29 (0, 0)) (by (with_reducible repeat (first | refine blk_drewN ?_ _ | refine blk_drew ?_ | refine blk_alloc ?_ _)); exact BK296.out) hb)
                                        have n2_ := Aside0.mk (below_step (by repeat (first | (with_reducible first | exact HB.out | apply below_alloc | apply pw_below_drewN | apply below_drew1 | refine below_set ?_ GE294.out | refine below_set ?_ GE296.out) | exact HB.out)) hb)
                                        clear BK294
                                        clear BK296
                                        clear HB
                                        have BK294 := n0_
                                        have BK296 := n1_
                                        have HB := n2_
                                        clear n0_ n1_ n2_
                                        (try clear hb)
                                        (try clear hb2)
                                        (try clear hk)
                                        (try clear hi)
                                        refine hK.out _ _ ⟨(blk_cell BK294.out 0).trans rfl, (blk_cell BK294.out 1).trans rfl, (blk_cell BK296.out 0).trans rfl, (blk_cell BK296.out 1).trans rfl, ((HB.out.cell (World.block_lt_of_cell? w _ hw300_0)).trans hw300_0), ((HB.out.cell (World.block_lt_of_cell? w _ hw302_0)).trans hw302_0)⟩ (fun hHeld => ?_)
                                        clear hK K
                                        refine norm_ (a' := ?_) ?_ ?_
                                        rotate_left
                                        ·show Act.put _ (some 214) _ = _
                                         simp only [Act.put, List.setIfInBounds_toArray, List.set_cons_zero, List.set_cons_succ, i64_w, i32_w]
                                         rfl
                                        refine pure_ (i := 13) (N := some 215) (v := ?_) (a' := ?_) #[true, true, true, true, true, true, true, true, true, true, true, true, true, true, false] rfl rfl (any_of HT_.out (by kernel_rfl)) (fun _ _ _ h => h) (Or.inl ⟨by rfl, ?_⟩) ?_ ?_
                                        rotate_left
                                        ·intro w'
                                         go_simp
                                         with_reducible rfl
                                        rotate_left
                                        ·simp only [Act.put, List.setIfInBounds_toArray, List.set_cons_zero, List.set_cons_succ, i64_w, i32_w]
                                         rfl
                                        refine pure_ (i := 14) (N := some 28) (v := ?_) (a' := ?_) #[true, true, true, true, true, true, true, true, true, true, true, true, true, true, true] rfl rfl (any_of HT_.out (by kernel_rfl)) (fun _ _ _ h => h) (Or.inl ⟨by rfl, ?_⟩) ?_ ?_
                                        rotate_left
                                        ·intro w'
                                         go_simp
                                         with_reducible rfl
                                        rotate_left
                                        ·simp only [Act.put, List.setIfInBounds_toArray, List.set_cons_zero, List.set_cons_succ, i64_w, i32_w]
                                         rfl
                                        refine done_ (done_of HT_.out (by kernel_rfl)) ?_
                                        try go_wp2
                                        go_roundg kj69
                                        case measure => have := HJ5.out; have := HJ24.out; have := HJ29.out; have := HK4.out; have := HJ31.out; have := HK6.out; have := HJ58.out; have := HK8.out; have := HK9.out; have := HJ69.out; omega
                                        case rel => exact ⟨(x21_9), (x22_9), (x23_9), (wrap64 (x178_9 + 1)), (by first | rfl | (simp; done) | (simp [*]; done)), (by first | rfl | (simp; done) | (simp [*]; done)), (by first | rfl | (simp; done) | (simp [*]; done)), (by first | rfl | (simp; done) | (simp [*]; done)), H', ⟨by have := HJ5.out; have := HJ24.out; have := HJ29.out; have := HK4.out; have := HJ31.out; have := HK6.out; have := HJ58.out; have := HK8.out; have := HK9.out; have := HJ69.out; omega⟩, ⟨by (with_reducible repeat (first | refine blk_drewN ?_ _ | refine blk_drew ?_ | refine blk_alloc ?_ _)); exact BK294.out⟩, ⟨by repeat (first | (with_reducible first | exact HB.out | apply below_alloc | apply pw_below_drewN | apply below_drew1 | refine below_set ?_ GE294.out | refine below_set ?_ GE296.out) | exact HB.out)⟩⟩
                                     ·rw [if_neg c92] at H
                                      exact absurd H (by simp)
                                    ·rw [if_neg c91] at H
                                     exact absurd H (by simp)
                                   ·rw [if_neg c89] at H
                                    exact absurd H (by simp)
                                  ·rw [if_neg c88] at H
                                   exact absurd H (by simp)
                                 ·replace c87 := Bool.eq_false_iff.mpr c87
                                  subst c87
                                  have H1 : (gridhalllaw3_WelfareMoves.l3 kj69 l0 l1 t274 t275 t276 t277 x21_9 x22_9 x23_9 x171_8 l0 (l0.length : Int) x171_8 l0 (l0.length : Int) (wrap64 (x178_9 + 1)) ((rd_T29 l0 x171_8).f0) ((rd_T29 l0 x171_8).f1)) = some r := by rw [if_neg (show ¬ (false = true) by decide)] at H; exact H
                                  clear H
                                  have H := H1
                                  clear H1
                                  as_aux_lemma =>
                                   have H' := Aside0.mk H
                                   clear H
                                   go_wp2
                                   go_roundg kj69
                                   case measure => have := HJ5.out; have := HJ24.out; have := HJ29.out; have := HK4.out; have := HJ31.out; have := HK6.out; have := HJ58.out; have := HK8.out; have := HK9.out; have := HJ69.out; omega
                                   case rel => exact ⟨(x21_9), (x22_9), (x23_9), (wrap64 (x178_9 + 1)), (by first | rfl | (simp; done) | (simp [*]; done)), (by first | rfl | (simp; done) | (simp [*]; done)), (by first | rfl | (simp; done) | (simp [*]; done)), (by first | rfl | (simp; done) | (simp [*]; done)), H', ⟨by have := HJ5.out; have := HJ24.out; have := HJ29.out; have := HK4.out; have := HJ31.out; have := HK6.out; have := HJ58.out; have := HK8.out; have := HK9.out; have := HJ69.out; omega⟩, ⟨by (with_reducible repeat (first | refine blk_drewN ?_ _ | refine blk_drew ?_ | refine blk_alloc ?_ _)); exact BK294.out⟩, ⟨by repeat (first | (with_reducible first | exact HB.out | apply below_alloc | apply pw_below_drewN | apply below_drew1 | refine below_set ?_ GE294.out | refine below_set ?_ GE296.out) | exact HB.out)⟩⟩
                              ·rw [if_neg c69] at H
                               exact absurd H (by simp)
                             ·rw [if_neg c68] at H
                              exact absurd H (by simp)
                            ·rw [if_neg c67] at H
                             have c67b0 : decide (x178_9 < (l0.length : Int)) = false := decide_eq_false c67
                             clear c67
                             as_aux_lemma =>
                              have H' := Aside0.mk H
                              clear H
                              go_wp2
                              go_roundg k9
                              case measure => have := HJ5.out; have := HJ24.out; have := HJ29.out; have := HK4.out; have := HJ31.out; have := HK6.out; have := HJ58.out; have := HK8.out; have := HK9.out; omega
                              case rel => exact ⟨(x21_9), (x22_9), (x23_9), (wrap64 (x171_8 + 1)), (by first | rfl | (simp; done) | (simp [*]; done)), (by first | rfl | (simp; done) | (simp [*]; done)), (by first | rfl | (simp; done) | (simp [*]; done)), (by first | rfl | (simp; done) | (simp [*]; done)), H', ⟨by have := HJ5.out; have := HJ24.out; have := HJ29.out; have := HK4.out; have := HJ31.out; have := HK6.out; have := HJ58.out; have := HK8.out; have := HK9.out; omega⟩, ⟨by repeat (first | (with_reducible first | exact HB.out | apply below_alloc | apply pw_below_drewN | apply below_drew1 | refine below_set ?_ GE294.out) | exact HB.out)⟩⟩
                         ·rw [if_neg c64] at H
                          exact absurd H (by simp)
                        ·rw [if_neg c63] at H
                         exact absurd H (by simp)
                       ·rw [if_neg c62] at H
                        have c62b0 : decide (x171_8 < (l0.length : Int)) = false := decide_eq_false c62
                        clear c62
                        by_cases c101 : x23_8 = 0
                        ·rw [if_pos c101] at H
                         have c101b0 : (x23_8 == 0) = true := beq_iff_eq.mpr c101
                         have c101b1 : (x23_8 != 0) = false := bne_eq_false_iff_eq.mpr c101
                         clear c101
                         by_cases c102 : t277 = 8
                         ·rw [if_pos c102] at H
                          have c102b0 : (t277 == 8) = true := beq_iff_eq.mpr c102
                          have c102b1 : (t277 != 8) = false := bne_eq_false_iff_eq.mpr c102
                          clear c102
                          by_cases c103 : t274 = 0
                          ·rw [if_pos c103] at H
                           have c103b0 : (t274 == 0) = true := beq_iff_eq.mpr c103
                           have c103b1 : (t274 != 0) = false := bne_eq_false_iff_eq.mpr c103
                           clear c103
                           by_cases c104 : t275 = 0
                           ·rw [if_pos c104] at H
                            have c104b0 : (t275 == 0) = true := beq_iff_eq.mpr c104
                            have c104b1 : (t275 != 0) = false := bne_eq_false_iff_eq.mpr c104
                            clear c104
                            as_aux_lemma =>
                             obtain rfl := Option.some.inj H
                             go_wp2
                             go_ret
                             exact ⟨by first | rfl | (simp [errW_none, errW_some] <;> rfl) | (simp [*, errW_none, errW_some] <;> rfl), by repeat (first | (with_reducible first | exact HB.out | apply below_alloc | apply pw_below_drewN | apply below_drew1) | exact HB.out)⟩
                           ·rw [if_neg c104] at H
                            have c104b0 : (t275 == 0) = false := beq_eq_false_iff_ne.mpr c104
                            have c104b1 : (t275 != 0) = true := bne_iff_ne.mpr c104
                            as_aux_lemma =>
                             obtain rfl := Option.some.inj H
                             go_wp2
                             go_ret
                             exact ⟨by first | rfl | (simp [errW_none, errW_some] <;> rfl) | (simp [*, errW_none, errW_some] <;> rfl), by repeat (first | (with_reducible first | exact HB.out | apply below_alloc | apply pw_below_drewN | apply below_drew1) | exact HB.out)⟩
                          ·rw [if_neg c103] at H
                           have c103b0 : (t274 == 0) = false := beq_eq_false_iff_ne.mpr c103
                           have c103b1 : (t274 != 0) = true := bne_iff_ne.mpr c103
                           as_aux_lemma =>
                            obtain rfl := Option.some.inj H
                            go_wp2
                            go_ret
                            exact ⟨by first | rfl | (simp [errW_none, errW_some] <;> rfl) | (simp [*, errW_none, errW_some] <;> rfl), by repeat (first | (with_reducible first | exact HB.out | apply below_alloc | apply pw_below_drewN | apply below_drew1) | exact HB.out)⟩
                         ·rw [if_neg c102] at H
                          have c102b0 : (t277 == 8) = false := beq_eq_false_iff_ne.mpr c102
                          have c102b1 : (t277 != 8) = true := bne_iff_ne.mpr c102
                          as_aux_lemma =>
                           obtain rfl := Option.some.inj H
                           go_wp2
                           go_ret
                           exact ⟨by first | rfl | (simp [errW_none, errW_some] <;> rfl) | (simp [*, errW_none, errW_some] <;> rfl), by repeat (first | (with_reducible first | exact HB.out | apply below_alloc | apply pw_below_drewN | apply below_drew1) | exact HB.out)⟩
                        ·rw [if_neg c101] at H
                         have c101b0 : (x23_8 == 0) = false := beq_eq_false_iff_ne.mpr c101
                         have c101b1 : (x23_8 != 0) = true := bne_iff_ne.mpr c101
                         by_cases c105 : t277 = 0
                         ·rw [if_pos c105] at H
                          have c105b0 : (t277 == 0) = true := beq_iff_eq.mpr c105
                          have c105b1 : (t277 != 0) = false := bne_eq_false_iff_eq.mpr c105
                          clear c105
                          by_cases c106 : t274 = x21_8
                          ·rw [if_pos c106] at H
                           have c106b0 : (t274 == x21_8) = true := beq_iff_eq.mpr c106
                           have c106b1 : (t274 != x21_8) = false := bne_eq_false_iff_eq.mpr c106
                           clear c106
                           by_cases c107 : t275 = x22_8
                           ·rw [if_pos c107] at H
                            have c107b0 : (t275 == x22_8) = true := beq_iff_eq.mpr c107
                            have c107b1 : (t275 != x22_8) = false := bne_eq_false_iff_eq.mpr c107
                            clear c107
                            as_aux_lemma =>
                             obtain rfl := Option.some.inj H
                             go_wp2
                             go_ret
                             exact ⟨by first | rfl | (simp [errW_none, errW_some] <;> rfl) | (simp [*, errW_none, errW_some] <;> rfl), by repeat (first | (with_reducible first | exact HB.out | apply below_alloc | apply pw_below_drewN | apply below_drew1) | exact HB.out)⟩
                           ·rw [if_neg c107] at H
                            have c107b0 : (t275 == x22_8) = false := beq_eq_false_iff_ne.mpr c107
                            have c107b1 : (t275 != x22_8) = true := bne_iff_ne.mpr c107
                            as_aux_lemma =>
                             obtain rfl := Option.some.inj H
                             go_wp2
                             go_ret
                             exact ⟨by first | rfl | (simp [errW_none, errW_some] <;> rfl) | (simp [*, errW_none, errW_some] <;> rfl), by repeat (first | (with_reducible first | exact HB.out | apply below_alloc | apply pw_below_drewN | apply below_drew1) | exact HB.out)⟩
                          ·rw [if_neg c106] at H
                           have c106b0 : (t274 == x21_8) = false := beq_eq_false_iff_ne.mpr c106
                           have c106b1 : (t274 != x21_8) = true := bne_iff_ne.mpr c106
                           as_aux_lemma =>
                            obtain rfl := Option.some.inj H
                            go_wp2
                            go_ret
                            exact ⟨by first | rfl | (simp [errW_none, errW_some] <;> rfl) | (simp [*, errW_none, errW_some] <;> rfl), by repeat (first | (with_reducible first | exact HB.out | apply below_alloc | apply pw_below_drewN | apply below_drew1) | exact HB.out)⟩
                         ·rw [if_neg c105] at H
                          have c105b0 : (t277 == 0) = false := beq_eq_false_iff_ne.mpr c105
                          have c105b1 : (t277 != 0) = true := bne_iff_ne.mpr c105
                          as_aux_lemma =>
                           obtain rfl := Option.some.inj H
                           go_wp2
                           go_ret
                           exact ⟨by first | rfl | (simp [errW_none, errW_some] <;> rfl) | (simp [*, errW_none, errW_some] <;> rfl), by repeat (first | (with_reducible first | exact HB.out | apply below_alloc | apply pw_below_drewN | apply below_drew1) | exact HB.out)⟩
             ·rw [if_neg c48] at H
              have c48b0 : (x15_4 == 0) = false := beq_eq_false_iff_ne.mpr c48
              have c48b1 : (x15_4 != 0) = true := bne_iff_ne.mpr c48
              by_cases c108 : t273 = x15_4
              ·rw [if_pos c108] at H
               have c108b0 : (t273 == x15_4) = true := beq_iff_eq.mpr c108
               have c108b1 : (t273 != x15_4) = false := bne_eq_false_iff_eq.mpr c108
               clear c108
               by_cases c109 : t277 = x15_4
               ·rw [if_pos c109] at H
                have c109b0 : (t277 == x15_4) = true := beq_iff_eq.mpr c109
                have c109b1 : (t277 != x15_4) = false := bne_eq_false_iff_eq.mpr c109
                clear c109
                by_cases c110 : t272 = 0
                ·rw [if_pos c110] at H
                 have c110b0 : (t272 == 0) = true := beq_iff_eq.mpr c110
                 have c110b1 : (t272 != 0) = false := bne_eq_false_iff_eq.mpr c110
                 clear c110
                 by_cases c111 : t274 = 0
                 ·rw [if_pos c111] at H
                  have c111b0 : (t274 == 0) = true := beq_iff_eq.mpr c111
                  have c111b1 : (t274 != 0) = false := bne_eq_false_iff_eq.mpr c111
                  clear c111
                  by_cases c112 : t275 = 0
                  ·rw [if_pos c112] at H
                   have c112b0 : (t275 == 0) = true := beq_iff_eq.mpr c112
                   have c112b1 : (t275 != 0) = false := bne_eq_false_iff_eq.mpr c112
                   clear c112
                   as_aux_lemma =>
                    obtain rfl := Option.some.inj H
                    go_wp2
                    go_ret
                    exact ⟨by first | rfl | (simp [errW_none, errW_some] <;> rfl) | (simp [*, errW_none, errW_some] <;> rfl), by repeat (first | (with_reducible first | exact HB.out | apply below_alloc | apply pw_below_drewN | apply below_drew1) | exact HB.out)⟩
                  ·rw [if_neg c112] at H
                   have c112b0 : (t275 == 0) = false := beq_eq_false_iff_ne.mpr c112
                   have c112b1 : (t275 != 0) = true := bne_iff_ne.mpr c112
                   as_aux_lemma =>
                    obtain rfl := Option.some.inj H
                    go_wp2
                    go_ret
                    exact ⟨by first | rfl | (simp [errW_none, errW_some] <;> rfl) | (simp [*, errW_none, errW_some] <;> rfl), by repeat (first | (with_reducible first | exact HB.out | apply below_alloc | apply pw_below_drewN | apply below_drew1) | exact HB.out)⟩
                 ·rw [if_neg c111] at H
                  have c111b0 : (t274 == 0) = false := beq_eq_false_iff_ne.mpr c111
                  have c111b1 : (t274 != 0) = true := bne_iff_ne.mpr c111
                  as_aux_lemma =>
                   obtain rfl := Option.some.inj H
                   go_wp2
                   go_ret
                   exact ⟨by first | rfl | (simp [errW_none, errW_some] <;> rfl) | (simp [*, errW_none, errW_some] <;> rfl), by repeat (first | (with_reducible first | exact HB.out | apply below_alloc | apply pw_below_drewN | apply below_drew1) | exact HB.out)⟩
                ·rw [if_neg c110] at H
                 have c110b0 : (t272 == 0) = false := beq_eq_false_iff_ne.mpr c110
                 have c110b1 : (t272 != 0) = true := bne_iff_ne.mpr c110
                 as_aux_lemma =>
                  obtain rfl := Option.some.inj H
                  go_wp2
                  go_ret
                  exact ⟨by first | rfl | (simp [errW_none, errW_some] <;> rfl) | (simp [*, errW_none, errW_some] <;> rfl), by repeat (first | (with_reducible first | exact HB.out | apply below_alloc | apply pw_below_drewN | apply below_drew1) | exact HB.out)⟩
               ·rw [if_neg c109] at H
                have c109b0 : (t277 == x15_4) = false := beq_eq_false_iff_ne.mpr c109
                have c109b1 : (t277 != x15_4) = true := bne_iff_ne.mpr c109
                as_aux_lemma =>
                 obtain rfl := Option.some.inj H
                 go_wp2
                 go_ret
                 exact ⟨by first | rfl | (simp [errW_none, errW_some] <;> rfl) | (simp [*, errW_none, errW_some] <;> rfl), by repeat (first | (with_reducible first | exact HB.out | apply below_alloc | apply pw_below_drewN | apply below_drew1) | exact HB.out)⟩
              ·rw [if_neg c108] at H
               have c108b0 : (t273 == x15_4) = false := beq_eq_false_iff_ne.mpr c108
               have c108b1 : (t273 != x15_4) = true := bne_iff_ne.mpr c108
               as_aux_lemma =>
                obtain rfl := Option.some.inj H
                go_wp2
                go_ret
                exact ⟨by first | rfl | (simp [errW_none, errW_some] <;> rfl) | (simp [*, errW_none, errW_some] <;> rfl), by repeat (first | (with_reducible first | exact HB.out | apply below_alloc | apply pw_below_drewN | apply below_drew1) | exact HB.out)⟩

end Go.Proofs.Ytekpnmeikibioaa.PWelfareMoves
