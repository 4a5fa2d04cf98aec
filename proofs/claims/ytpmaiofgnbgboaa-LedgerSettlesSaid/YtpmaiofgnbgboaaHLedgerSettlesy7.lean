/- Contracts of functions that LedgerSettles reaches, a text of this session's own. -/
import Derived.Test.YtpmaiofgnbgboaaHLedgerSettlesy6
import Derived.Test.YtpmaiofgnbgboaaHLedgerSettlesy0
import Derived.Test.YtpmaiofgnbgboaaHLedgerSettlesy1
import Derived.Test.YtpmaiofgnbgboaaHLedgerSettlesy2
import Derived.Test.YtpmaiofgnbgboaaHLedgerSettlesy4
import Derived.Test.YtpmaiofgnbgboaaHLedgerSettlesy5
namespace Go.Proofs.Ytpmaiofgnbgboaa.PLedgerSettles
open Go.RowKit Go.Proofs.YtpmaiofgnbgboaaW.PrintWords Go.Proofs.YtpmaiofgnbgboaaW.PrintLast Go.Proofs.YtpmaiofgnbgboaaW.PrintMore
attribute [local go_sem] max2_int min2_int max_two min_two max_three min_three max_four min_four   -- for this text's walks alone
set_option linter.unusedVariables false
set_option linter.unusedSimpArgs false

attribute [local go_sem high] eqA67
set_option maxHeartbeats 8000000 in
set_option maxRecDepth 100000 in
theorem gridhalllaw3_LedgerSettles.calls (k : Nat) (A0 : Option Addr) (c0 : Nat) (l0 : List ByteArray) (A1 : Option Addr) (c1 : Nat) (l1 : List Int) (r : Bool) (w : World) (hr0 : Kd.C Kd.string w A0 l0.length l0) (hc0 : l0.length ≤ c0) (hr1 : Kd.C (Kd.int .i64) w A1 l1.length l1) (hc1 : l1.length ≤ c1) (h : gridhalllaw3_LedgerSettles.f k l0 l1 = some r) :
  Calls Try.prog 8 #[.slice A0 l0.length c0, .slice A1 l1.length c1] w fun e w' => e = .returned (.bool r) ∧ Below w.heap.size w w' := by
 have hu67 := Try.underlying67
 have HR0 := Aside0.mk hr0
 have HC0 := Aside0.mk hc0
 clear hr0 hc0
 have HR1 := Aside0.mk hr1
 have HC1 := Aside0.mk hc1
 clear hr1 hc1
 have HB := Aside0.mk (Below.refl w.heap.size w)
 have H : ((ledger_Settle.f k (([(⟨#[65]⟩ : ByteArray), (⟨#[66]⟩ : ByteArray), (⟨#[67]⟩ : ByteArray)] : List ByteArray)) (([(-5), 3, 2] : List Int))).bind fun bt148 => (if bt148.2 = 0 then (gridhalllaw3_LedgerSettles.j0 k l0 l1 ((bt148.1.length : Int) != 2)) else (gridhalllaw3_LedgerSettles.j0 k l0 l1 true))) = some r := h
 clear h
 obtain ⟨y142, hy142⟩ : ∃ y_ : List ByteArray, y_ = (([(⟨#[65]⟩ : ByteArray), (⟨#[66]⟩ : ByteArray), (⟨#[67]⟩ : ByteArray)] : List ByteArray)) := ⟨_, rfl⟩
 replace H : ((ledger_Settle.f k y142 (([(-5), 3, 2] : List Int))).bind fun bt148 => (if bt148.2 = 0 then (gridhalllaw3_LedgerSettles.j0 k l0 l1 ((bt148.1.length : Int) != 2)) else (gridhalllaw3_LedgerSettles.j0 k l0 l1 true))) = some r := by first | (rw [hy142]; with_reducible exact H) | (have H2_ := (Option.bind_some _ _).symm.trans H; rw [hy142]; with_reducible exact H2_) | (have H2_ := (Option.bind_some _ _).symm.trans H; with_reducible exact H2_) | with_reducible exact H | (rw [hy142]; exact H) | exact H
 have Ny142 := Aside0.mk hy142
 clear hy142
 obtain ⟨y145, hy145⟩ : ∃ y_ : List Int, y_ = (([(-5), 3, 2] : List Int)) := ⟨_, rfl⟩
 replace H : ((ledger_Settle.f k y142 y145).bind fun bt148 => (if bt148.2 = 0 then (gridhalllaw3_LedgerSettles.j0 k l0 l1 ((bt148.1.length : Int) != 2)) else (gridhalllaw3_LedgerSettles.j0 k l0 l1 true))) = some r := by first | (rw [hy145]; with_reducible exact H) | (have H2_ := (Option.bind_some _ _).symm.trans H; rw [hy145]; with_reducible exact H2_) | (have H2_ := (Option.bind_some _ _).symm.trans H; with_reducible exact H2_) | with_reducible exact H | (rw [hy145]; exact H) | exact H
 have Ny145 := Aside0.mk hy145
 clear hy145
 replace H := Option.bind_eq_some_iff.mp H
 obtain ⟨⟨t148, t149⟩, A30, H⟩ := H
 replace H : (if t149 = 0 then (gridhalllaw3_LedgerSettles.j0 k l0 l1 ((t148.length : Int) != 2)) else (gridhalllaw3_LedgerSettles.j0 k l0 l1 true)) = some r := H
 have A3 := Aside0.mk A30
 clear A30
 have HC4 := Aside0.mk H
 clear H
 go_enter Try.func8, Try.ntmps8
 go_upto_region 2 with (first | ((with_reducible refine gate_dst (N := 23) rfl ?_); (try (refine gate_guard (by rfl) ?_; dsimp only)); refine Kd.R_lit Kd.string _ 9 ?hg (N := 23) ?hd (xs := ([(⟨#[65]⟩ : ByteArray), (⟨#[66]⟩ : ByteArray), (⟨#[67]⟩ : ByteArray)] : List ByteArray)) (inner := [.string (⟨#[65]⟩ : ByteArray), .string (⟨#[66]⟩ : ByteArray), .string (⟨#[67]⟩ : ByteArray)]) (ok := fun _ => True) (okp := fun _ => True) ?hr ?hp (fun _ hk => hk) trivial (Below.refl _ _) (Nat.le_refl _) (by simp) ?_; (case hd => rfl); (case hg => rfl); (case hr => first | (go_simp; done) | (go_simp; rfl)); (case hp => exact (Reps.one (show Kd.M Kd.string _ _ _ (⟨#[65]⟩ : ByteArray) [.string (⟨#[65]⟩ : ByteArray)] from rfl) (Reps.one (show Kd.M Kd.string _ _ _ (⟨#[66]⟩ : ByteArray) [.string (⟨#[66]⟩ : ByteArray)] from rfl) (Reps.one (show Kd.M Kd.string _ _ _ (⟨#[67]⟩ : ByteArray) [.string (⟨#[67]⟩ : ByteArray)] from rfl) (Reps.none _ _))))); intro v143 w5 ho6 hb hg_ hnew_; clear hg_ hnew_; (first | rw [← Ny142.out] at ho6 | (simp only [Int.reduceToNat] at ho6; rw [← Ny142.out] at ho6)); have n0_ := Aside0.mk (Kd.R_lower ho6 (below_size (by repeat (first | (with_reducible first | exact HB.out | apply below_alloc | apply pw_below_drewN | apply below_drew1) | exact HB.out)))); have n1_ := Aside0.mk (below_step (by repeat (first | (with_reducible first | exact HB.out | apply below_alloc | apply pw_below_drewN | apply below_drew1) | exact HB.out)) hb); clear HB; have HO144 := n0_; have HB := n1_; clear n0_ n1_; clear hb ho6) | ((with_reducible refine gate_dst (N := 24) rfl ?_); (try (refine gate_guard (by rfl) ?_; dsimp only)); refine Kd.R_lit (Kd.int .i64) _ 3 ?hg (N := 24) ?hd (xs := ([(-5), 3, 2] : List Int)) (inner := [.int .i64 (-5), .int .i64 3, .int .i64 2]) (ok := fun _ => True) (okp := fun _ => True) ?hr ?hp (fun _ hk => hk) trivial (Below.refl _ _) (Nat.le_refl _) (by simp) ?_; (case hd => rfl); (case hg => rfl); (case hr => first | (go_simp; done) | (go_simp; rfl)); (case hp => exact (Reps.one (show Kd.M (Kd.int .i64) _ _ _ (-5) [.int .i64 (-5)] from rfl) (Reps.one (show Kd.M (Kd.int .i64) _ _ _ 3 [.int .i64 3] from rfl) (Reps.one (show Kd.M (Kd.int .i64) _ _ _ 2 [.int .i64 2] from rfl) (Reps.none _ _))))); intro v146 w7 ho8 hb hg_ hnew_; clear hg_ hnew_; (first | rw [← Ny145.out] at ho8 | (simp only [Int.reduceToNat] at ho8; rw [← Ny145.out] at ho8)); have n0_ := Aside0.mk (Kd.R_below (by (with_reducible repeat (first | apply Kd.R_alloc | apply Kd.R_drewN | apply Kd.R_drew)); exact HO144.out) hb); have n1_ := Aside0.mk (Kd.R_lower ho8 (below_size (by repeat (first | (with_reducible first | exact HB.out | apply below_alloc | apply pw_below_drewN | apply below_drew1) | exact HB.out)))); have n2_ := Aside0.mk (below_step (by repeat (first | (with_reducible first | exact HB.out | apply below_alloc | apply pw_below_drewN | apply below_drew1) | exact HB.out)) hb); clear HO144; clear HB; have HO144 := n0_; have HO147 := n1_; have HB := n2_; clear n0_ n1_ n2_; clear hb ho8; obtain ⟨Ao9, co9, eo9⟩ := Kd.R_slice HO144.out; subst eo9; obtain ⟨Ao10, co10, eo10⟩ := Kd.R_slice HO147.out; subst eo10) | ((with_reducible refine gate_callee (f := 31) rfl ?_); refine goesL_ (some 25) rfl rfl Try.func31 (by kernel_rfl) rfl #[.slice Ao9 y142.length co9, .slice Ao10 y145.length co10] rfl (by (try simp only [List.map_toArray, List.map_cons, List.map_nil]); first | done | rfl | (simp only [List.length_drop, List.length_take]; rfl)) ?_; (with_reducible refine (ledger_Settle.calls k _ _ y142 _ _ y145 t148 t149 _ ?side1 ?side2 ?side3 ?side4 A3.out).mono ?_); (case side1 => repeat (first | exact (Kd.R_reads' HO144.out).2.2 | (with_reducible refine Kd.C_alloc ?_ _) | (with_reducible refine Kd.C_drewN ?_ _) | (with_reducible refine Kd.C_drew ?_))); (case side2 => exact (Kd.R_reads' HO144.out).2.1); (case side3 => repeat (first | exact (Kd.R_reads' HO147.out).2.2 | (with_reducible refine Kd.C_alloc ?_ _) | (with_reducible refine Kd.C_drewN ?_ _) | (with_reducible refine Kd.C_drew ?_))); (case side4 => exact (Kd.R_reads' HO147.out).2.1); rintro e w11 ⟨v150, rfl, ho0, hb⟩; refine ⟨_, rfl, ?_⟩; have n0_ := Aside0.mk (Kd.R_below (by (with_reducible repeat (first | apply Kd.R_alloc | apply Kd.R_drewN | apply Kd.R_drew)); exact HO144.out) hb); have n1_ := Aside0.mk (Kd.R_below (by (with_reducible repeat (first | apply Kd.R_alloc | apply Kd.R_drewN | apply Kd.R_drew)); exact HO147.out) hb); have n2_ := Aside0.mk (Kd.R_lower ho0 (below_size (by repeat (first | (with_reducible first | exact HB.out | apply below_alloc | apply pw_below_drewN | apply below_drew1) | exact HB.out)))); have n3_ := Aside0.mk (below_step (by repeat (first | (with_reducible first | exact HB.out | apply below_alloc | apply pw_below_drewN | apply below_drew1) | exact HB.out)) hb); clear HO144; clear HO147; clear HB; have HO144 := n0_; have HO147 := n1_; have HO151 := n2_; have HB := n3_; clear n0_ n1_ n2_ n3_; (try clear hb); (try clear hb2); (try clear hk); (try clear hi); (try clear ho0)))
 (try simp only [Act.put, List.setIfInBounds_toArray, List.set_cons_zero, List.set_cons_succ])
 go_cut [34] (fun v34 wc => ∃ (kq : Nat) (x34_3 : Bool), v34 = .bool x34_3 ∧ Aside0 (gridhalllaw3_LedgerSettles.j0 kq l0 l1 x34_3 = some r) ∧ Aside0 (kq ≤ k) ∧ Aside0 (Below w.heap.size w wc))
 case first =>
  have H := HC4.out
  clear HC4
  by_cases c12 : t149 = 0
  ·rw [if_pos c12] at H
   have c12b0 : (t149 == 0) = true := beq_iff_eq.mpr c12
   have c12b1 : (t149 != 0) = false := bne_eq_false_iff_eq.mpr c12
   clear c12
   (first | rw [c12b0] | (simp only [i64_w, i32_w]; rw [c12b0]) | skip)
   as_aux_lemma =>
    have H' := Aside0.mk H
    clear H
    obtain ⟨Ao13, co13, eo13⟩ := Kd.R_slice HO151.out
    subst eo13
    go_wp2
    go_meet
    case rel => exact ⟨_, (((t148.length : Int) != 2)), (by first | rfl | (simp; done) | (simp [*]; done)), H', ⟨by first | omega | exact Nat.le_refl _⟩, ⟨by repeat (first | (with_reducible first | exact HB.out | apply below_alloc | apply pw_below_drewN | apply below_drew1) | exact HB.out)⟩⟩
  ·rw [if_neg c12] at H
   have c12b0 : (t149 == 0) = false := beq_eq_false_iff_ne.mpr c12
   have c12b1 : (t149 != 0) = true := bne_iff_ne.mpr c12
   (first | rw [c12b0] | (simp only [i64_w, i32_w]; rw [c12b0]) | skip)
   as_aux_lemma =>
    have H' := Aside0.mk H
    clear H
    go_wp2
    go_meet
    case rel => exact ⟨_, (true), (by first | rfl | (simp; done) | (simp [*]; done)), H', ⟨by first | omega | exact Nat.le_refl _⟩, ⟨by repeat (first | (with_reducible first | exact HB.out | apply below_alloc | apply pw_below_drewN | apply below_drew1) | exact HB.out)⟩⟩
 case rest =>
  clear HC4
  try clear c1
  try clear p2
  try clear c3
  try clear c8
  try clear c12
  try clear c12b0
  try clear c12b1
  obtain ⟨kq, x34_3, rfl, HA, HJ3, HB⟩ := hcut
  cases kq with
  | zero => exact absurd HA.out (by simp [gridhalllaw3_LedgerSettles.j0])
  | succ kj3 =>
   have H := HA.out
   clear HA
   simp only [gridhalllaw3_LedgerSettles.j0] at H
   by_cases c14 : x34_3 = true
   ·subst c14
    have H1 : (some false) = some r := by rw [if_pos rfl] at H; exact H
    clear H
    have H := H1
    clear H1
    as_aux_lemma =>
     obtain rfl := Option.some.inj H
     go_wp2
     go_ret
     exact ⟨by first | rfl | (simp [errW_none, errW_some] <;> rfl) | (simp [*, errW_none, errW_some] <;> rfl), by repeat (first | (with_reducible first | exact HB.out | apply below_alloc | apply pw_below_drewN | apply below_drew1) | exact HB.out)⟩
   ·replace c14 := Bool.eq_false_iff.mpr c14
    subst c14
    have H1 : ((ledger_Settle.f kj3 l0 l1).bind fun bt152 => (if (l0.length : Int) > 64 then (gridhalllaw3_LedgerSettles.j1 kj3 l0 l1 bt152.1 bt152.2 2) else (if (l0.length : Int) = (l1.length : Int) then (gridhalllaw3_LedgerSettles.j1 kj3 l0 l1 bt152.1 bt152.2 0) else (gridhalllaw3_LedgerSettles.j1 kj3 l0 l1 bt152.1 bt152.2 3)))) = some r := by rw [if_neg (show ¬ (false = true) by decide)] at H; exact H
    clear H
    have H := H1
    clear H1
    replace H := Option.bind_eq_some_iff.mp H
    obtain ⟨⟨t152, t153⟩, A150, H⟩ := H
    replace H : (if (l0.length : Int) > 64 then (gridhalllaw3_LedgerSettles.j1 kj3 l0 l1 t152 t153 2) else (if (l0.length : Int) = (l1.length : Int) then (gridhalllaw3_LedgerSettles.j1 kj3 l0 l1 t152 t153 0) else (gridhalllaw3_LedgerSettles.j1 kj3 l0 l1 t152 t153 3))) = some r := H
    have A15 := Aside0.mk A150
    clear A150
    have HC16 := Aside0.mk H
    clear H
    go_upto_if 43 with (first | ((with_reducible refine gate_callee (f := 31) rfl ?_); refine goesL_ (some 38) rfl rfl Try.func31 (by kernel_rfl) rfl #[.slice A0 l0.length c0, .slice A1 l1.length c1] rfl (by (try simp only [List.map_toArray, List.map_cons, List.map_nil]); first | done | rfl | (simp only [List.length_drop, List.length_take]; rfl)) ?_; (with_reducible refine (ledger_Settle.calls kj3 _ _ l0 _ _ l1 t152 t153 _ ?side1 ?side2 ?side3 ?side4 A15.out).mono ?_); (case side1 => repeat (first | exact (Kd.C_below HR0.out HB.out) | (with_reducible refine Kd.C_alloc ?_ _) | (with_reducible refine Kd.C_drewN ?_ _) | (with_reducible refine Kd.C_drew ?_))); (case side2 => exact HC0.out); (case side3 => repeat (first | exact (Kd.C_below HR1.out HB.out) | (with_reducible refine Kd.C_alloc ?_ _) | (with_reducible refine Kd.C_drewN ?_ _) | (with_reducible refine Kd.C_drew ?_))); (case side4 => exact HC1.out); rintro e w17 ⟨v154, rfl, ho0, hb⟩; refine ⟨_, rfl, ?_⟩; have n0_ := Aside0.mk (Kd.R_lower ho0 (below_size (by repeat (first | (with_reducible first | exact HB.out | apply below_alloc | apply pw_below_drewN | apply below_drew1) | exact HB.out)))); have n1_ := Aside0.mk (below_step (by repeat (first | (with_reducible first | exact HB.out | apply below_alloc | apply pw_below_drewN | apply below_drew1) | exact HB.out)) hb); clear HB; have HO155 := n0_; have HB := n1_; clear n0_ n1_; (try clear hb); (try clear hb2); (try clear hk); (try clear hi); (try clear ho0)))
    (try simp only [Act.put, List.setIfInBounds_toArray, List.set_cons_zero, List.set_cons_succ])
    go_cut [9] (fun v9 wc => ∃ (kq : Nat) (x9_15 : Int), v9 = .int .i64 x9_15 ∧ Aside0 (gridhalllaw3_LedgerSettles.j1 kq l0 l1 t152 t153 x9_15 = some r) ∧ Aside0 (kq ≤ kj3) ∧ Aside0 (Kd.R k67 67 wc w.heap.size (fun _ => True) v154 t152) ∧ Aside0 (Below w.heap.size w wc))
    case first =>
     have H := HC16.out
     clear HC16
     by_cases c18 : (l0.length : Int) > 64
     ·rw [if_pos c18] at H
      have c18b0 : decide (64 < (l0.length : Int)) = true := decide_eq_true c18
      have c18b1 : decide (64 < l0.length) = true := decide_eq_true (by omega)
      clear c18
      (first | rw [c18b0] | (simp only [i64_w, i32_w]; rw [c18b0]) | skip)
      as_aux_lemma =>
       have H' := Aside0.mk H
       clear H
       go_wp2
       go_meet
       case rel => exact ⟨_, (2), (by first | rfl | (simp; done) | (simp [*]; done)), H', ⟨by have := HJ3.out; first | omega | exact Nat.le_refl _⟩, ⟨by (with_reducible repeat (first | apply Kd.R_alloc | apply Kd.R_drewN | apply Kd.R_drew)); exact HO155.out⟩, ⟨by repeat (first | (with_reducible first | exact HB.out | apply below_alloc | apply pw_below_drewN | apply below_drew1) | exact HB.out)⟩⟩
     ·rw [if_neg c18] at H
      have c18b0 : decide (64 < (l0.length : Int)) = false := decide_eq_false c18
      have c18b1 : decide (64 < l0.length) = false := decide_eq_false (by omega)
      clear c18
      (first | rw [c18b0] | (simp only [i64_w, i32_w]; rw [c18b0]) | skip)
      by_cases c19 : (l0.length : Int) = (l1.length : Int)
      ·rw [if_pos c19] at H
       have c19b0 : ((l0.length : Int) == (l1.length : Int)) = true := beq_iff_eq.mpr c19
       have c19b1 : ((l0.length : Int) != (l1.length : Int)) = false := bne_eq_false_iff_eq.mpr c19
       have c19b2 : (l0.length == l1.length) = true := by first | simpa using c19 | (simp at c19 ⊢; omega)
       clear c19
       as_aux_lemma =>
        have H' := Aside0.mk H
        clear H
        go_wp2
        go_meet
        case rel => exact ⟨_, (0), (by first | rfl | (simp; done) | (simp [*]; done)), H', ⟨by have := HJ3.out; first | omega | exact Nat.le_refl _⟩, ⟨by (with_reducible repeat (first | apply Kd.R_alloc | apply Kd.R_drewN | apply Kd.R_drew)); exact HO155.out⟩, ⟨by repeat (first | (with_reducible first | exact HB.out | apply below_alloc | apply pw_below_drewN | apply below_drew1) | exact HB.out)⟩⟩
      ·rw [if_neg c19] at H
       have c19b0 : ((l0.length : Int) == (l1.length : Int)) = false := beq_eq_false_iff_ne.mpr c19
       have c19b1 : ((l0.length : Int) != (l1.length : Int)) = true := bne_iff_ne.mpr c19
       have c19b2 : (l0.length == l1.length) = false := by first | simpa using c19 | (simp at c19 ⊢; omega)
       as_aux_lemma =>
        have H' := Aside0.mk H
        clear H
        go_wp2
        go_meet
        case rel => exact ⟨_, (3), (by first | rfl | (simp; done) | (simp [*]; done)), H', ⟨by have := HJ3.out; first | omega | exact Nat.le_refl _⟩, ⟨by (with_reducible repeat (first | apply Kd.R_alloc | apply Kd.R_drewN | apply Kd.R_drew)); exact HO155.out⟩, ⟨by repeat (first | (with_reducible first | exact HB.out | apply below_alloc | apply pw_below_drewN | apply below_drew1) | exact HB.out)⟩⟩
    case rest =>
     clear HC16
     try clear c1
     try clear p2
     try clear c3
     try clear c8
     try clear c12
     try clear c12b0
     try clear c12b1
     try clear c14
     try clear c18
     try clear c18b0
     try clear c18b1
     try clear c19
     try clear c19b0
     try clear c19b1
     try clear c19b2
     try clear p2
     obtain ⟨kq, x9_15, rfl, HA, HJ15, HO_7, HB⟩ := hcut
     cases kq with
     | zero => exact absurd HA.out (by simp [gridhalllaw3_LedgerSettles.j1])
     | succ kj15 =>
      have H := HA.out
      clear HA
      simp only [gridhalllaw3_LedgerSettles.j1] at H
      have H' := Aside0.mk H
      clear H
      go_wp2
      go_loopg [9, 10, 11] kj15 (fun kq v9 v10 v11 w' => ∃ (x9_3 : Int) (x10_3 : Int) (x11_3 : Int), v9 = .int .i64 x9_3 ∧ v10 = .int .i64 x10_3 ∧ v11 = .int .i64 x11_3 ∧ Aside0 (gridhalllaw3_LedgerSettles.l0 kq l0 l1 t152 t153 x9_3 x10_3 x11_3 = some r) ∧ Aside0 (kq ≤ kj15) ∧ Aside0 (Kd.R k67 67 w' w.heap.size (fun _ => True) v154 t152) ∧ Aside0 (Below w.heap.size w w'))
      case atStart => exact ⟨(x9_15), (0), (0), (by first | rfl | (simp; done) | (simp [*]; done)), (by first | rfl | (simp; done) | (simp [*]; done)), (by first | rfl | (simp; done) | (simp [*]; done)), H', ⟨Nat.le_refl _⟩, ⟨by (with_reducible repeat (first | apply Kd.R_alloc | apply Kd.R_drewN | apply Kd.R_drew)); exact HO_7.out⟩, ⟨by repeat (first | (with_reducible first | exact HB.out | apply below_alloc | apply pw_below_drewN | apply below_drew1) | exact HB.out)⟩⟩
      case round =>
       clear H'
       try clear c1
       try clear p2
       try clear c3
       try clear c8
       try clear c12
       try clear c12b0
       try clear c12b1
       try clear c14
       try clear c18
       try clear c18b0
       try clear c18b1
       try clear c19
       try clear c19b0
       try clear c19b1
       try clear c19b2
       try clear p2
       obtain ⟨x9_3, x10_3, x11_3, rfl, rfl, rfl, HA, HK3, HO_7, HB⟩ := hrel
       cases gk with
       | zero => exact absurd HA.out (by simp [gridhalllaw3_LedgerSettles.l0])
       | succ k3 =>
        have H := HA.out
        clear HA
        simp only [gridhalllaw3_LedgerSettles.l0] at H
        have HC20 := Aside0.mk H
        clear H
        go_upto_region 12 with (fail)
        go_cut [56] (fun v56 wc => ∃ (kq : Nat) (x56_19 : Bool), v56 = .bool x56_19 ∧ Aside0 (gridhalllaw3_LedgerSettles.j3 kq l0 l1 t152 t153 x9_3 x10_3 x11_3 x56_19 = some r) ∧ Aside0 (kq ≤ k3) ∧ Aside0 (Kd.R k67 67 wc w.heap.size (fun _ => True) v154 t152) ∧ Aside0 (Below w.heap.size w wc))
        case first =>
         have H := HC20.out
         clear HC20
         by_cases c21 : x11_3 < (l0.length : Int)
         ·rw [if_pos c21] at H
          have c21b0 : decide (x11_3 < (l0.length : Int)) = true := decide_eq_true c21
          clear c21
          (first | rw [c21b0] | (simp only [i64_w, i32_w]; rw [c21b0]) | skip)
          as_aux_lemma =>
           have H' := Aside0.mk H
           clear H
           go_wp2
           go_meet
           case rel => exact ⟨_, ((x9_3 == 0)), (by first | rfl | (simp; done) | (simp [*]; done)), H', ⟨by have := HJ3.out; have := HJ15.out; have := HK3.out; first | omega | exact Nat.le_refl _⟩, ⟨by (with_reducible repeat (first | apply Kd.R_alloc | apply Kd.R_drewN | apply Kd.R_drew)); exact HO_7.out⟩, ⟨by repeat (first | (with_reducible first | exact HB.out | apply below_alloc | apply pw_below_drewN | apply below_drew1) | exact HB.out)⟩⟩
         ·rw [if_neg c21] at H
          have c21b0 : decide (x11_3 < (l0.length : Int)) = false := decide_eq_false c21
          clear c21
          (first | rw [c21b0] | (simp only [i64_w, i32_w]; rw [c21b0]) | skip)
          as_aux_lemma =>
           have H' := Aside0.mk H
           clear H
           go_wp2
           go_meet
           case rel => exact ⟨_, (false), (by first | rfl | (simp; done) | (simp [*]; done)), H', ⟨by have := HJ3.out; have := HJ15.out; have := HK3.out; first | omega | exact Nat.le_refl _⟩, ⟨by (with_reducible repeat (first | apply Kd.R_alloc | apply Kd.R_drewN | apply Kd.R_drew)); exact HO_7.out⟩, ⟨by repeat (first | (with_reducible first | exact HB.out | apply below_alloc | apply pw_below_drewN | apply below_drew1) | exact HB.out)⟩⟩
        case rest =>
         clear HC20
         try clear c1
         try clear c2
         try clear p2
         try clear c3
         try clear c8
         try clear c12
         try clear c12b0
         try clear c12b1
         try clear c14
         try clear c18
         try clear c18b0
         try clear c18b1
         try clear c19
         try clear c19b0
         try clear c19b1
         try clear c19b2
         try clear c21
         try clear c21b0
         try clear p2
         obtain ⟨kq, x56_19, rfl, HA, HJ19, HO_7, HB⟩ := hcut
         cases kq with
         | zero => exact absurd HA.out (by simp [gridhalllaw3_LedgerSettles.j3])
         | succ kj19 =>
          have H := HA.out
          clear HA
          simp only [gridhalllaw3_LedgerSettles.j3] at H
          by_cases c22 : x56_19 = true
          ·subst c22
           have H1 : (if 0 ≤ x11_3 then (if x11_3 ≤ (l0.length : Int) then (gridhalllaw3_LedgerSettles.l1 kj19 l0 l1 t152 t153 x9_3 x10_3 x11_3 false (l0.take (x11_3 : Int).toNat) ((l0.take (x11_3 : Int).toNat).length : Int) 0) else (none)) else (none)) = some r := by rw [if_pos rfl] at H; exact H
           clear H
           have H := H1
           clear H1
           by_cases c23 : 0 ≤ x11_3
           ·rw [if_pos c23] at H
            have c23b0 := eq_true c23
            have c23b1 : decide (0 ≤ x11_3) = true := decide_eq_true c23
            clear c23
            by_cases c24 : x11_3 ≤ (l0.length : Int)
            ·rw [if_pos c24] at H
             have c24b0 := eq_true c24
             have c24b1 : decide (x11_3 ≤ (l0.length : Int)) = true := decide_eq_true c24
             clear c24
             have H' := Aside0.mk H
             clear H
             obtain ⟨i025, hi025, _, hsz25, _⟩ := info_parts info9
             obtain ⟨hcut25, hA25, hC25⟩ := print_take_of (P := Try.prog) Value.string (⟨#[]⟩ : ByteArray) 22 9 .i64 Try.underlying22 hi025 hsz25 A0 c0 l0 x11_3 (of_decide_eq_true (by first | (with_reducible assumption) | assumption)) (of_decide_eq_true (by first | (with_reducible assumption) | assumption)) HC0.out
             have HR156 := Aside0.mk (Kd.C_of_reads (h1 := fun _ => rfl) (hA25 _ (Kd.reads_of_C HR0.out)))
             have HC156 := Aside0.mk hC25
             clear hA25 hC25 hi025 hsz25
             go_wp2
             have HM25 : Aside0 ((((l0.take (x11_3 : Int).toNat).length : Nat) : Int) = max x11_3 0) := ⟨by have a_ := of_eq_true c23b0; have b_ := of_eq_true c24b0; rw [List.length_take]; omega⟩
             go_loopg [12, 63] kj19 (fun kq v12 v63 w' => ∃ (x12_5 : Bool) (x63_5 : Int), v12 = .bool x12_5 ∧ v63 = .int .i64 x63_5 ∧ Aside0 (gridhalllaw3_LedgerSettles.l1 kq l0 l1 t152 t153 x9_3 x10_3 x11_3 x12_5 (l0.take (x11_3 : Int).toNat) ((l0.take (x11_3 : Int).toNat).length : Int) x63_5 = some r) ∧ Aside0 (kq ≤ kj19) ∧ Aside0 (Kd.R k67 67 w' w.heap.size (fun _ => True) v154 t152) ∧ Aside0 (Below w.heap.size w w'))
             case atStart => exact ⟨(false), (0), (by first | rfl | (simp; done) | (simp [*]; done)), (by first | rfl | (simp; done) | (simp [*]; done)), H', ⟨Nat.le_refl _⟩, ⟨by (with_reducible repeat (first | apply Kd.R_alloc | apply Kd.R_drewN | apply Kd.R_drew)); exact HO_7.out⟩, ⟨by repeat (first | (with_reducible first | exact HB.out | apply below_alloc | apply pw_below_drewN | apply below_drew1) | exact HB.out)⟩⟩
             case round =>
              clear H'
              try clear c1
              try clear c2
              try clear p2
              try clear c3
              try clear c8
              try clear c12
              try clear c12b0
              try clear c12b1
              try clear c14
              try clear c18
              try clear c18b0
              try clear c18b1
              try clear c19
              try clear c19b0
              try clear c19b1
              try clear c19b2
              try clear c21
              try clear c21b0
              try clear c22
              try clear c23
              try clear c23b0
              try clear c23b1
              try clear c24
              try clear c24b0
              try clear c24b1
              try clear p2
              obtain ⟨x12_5, x63_5, rfl, rfl, HA, HK5, HO_7, HB⟩ := hrel
              cases gk with
              | zero => exact absurd HA.out (by simp [gridhalllaw3_LedgerSettles.l1])
              | succ k5 =>
               have H := HA.out
               clear HA
               simp only [gridhalllaw3_LedgerSettles.l1] at H
               by_cases c26 : x63_5 < ((l0.take (x11_3 : Int).toNat).length : Int)
               ·rw [if_pos c26] at H
                have c26b0 : decide (x63_5 < ((l0.take (x11_3 : Int).toNat).length : Int)) = true := decide_eq_true c26
                have c26m : x63_5 < max x11_3 0 := by have a_ := of_decide_eq_true c26b0; rw [HM25.out] at a_; exact a_
                have c26n : decide (x63_5 < max x11_3 0) = true := decide_eq_true c26m
                have c26o : (x63_5 < ((x11_3.toNat : Nat) : Int)) = True := eq_true (by omega)
                replace c26m := eq_true c26m
                clear c26
                by_cases c27 : 0 ≤ x63_5
                ·rw [if_pos c27] at H
                 have c27b0 : decide (0 ≤ x63_5) = true := decide_eq_true c27
                 clear c27
                 by_cases c28 : x63_5 < ((l0.take (x11_3 : Int).toNat).length : Int)
                 ·rw [if_pos c28] at H
                  have c28b0 : decide (x63_5 < ((l0.take (x11_3 : Int).toNat).length : Int)) = true := decide_eq_true c28
                  clear c28
                  by_cases c29 : x12_5 = true
                  ·subst c29
                   have H1 : (gridhalllaw3_LedgerSettles.l1 k5 l0 l1 t152 t153 x9_3 x10_3 x11_3 true (l0.take (x11_3 : Int).toNat) ((l0.take (x11_3 : Int).toNat).length : Int) (wrap64 (x63_5 + 1))) = some r := by rw [if_pos rfl] at H; exact H
                   clear H
                   have H := H1
                   clear H1
                   as_aux_lemma =>
                    have H' := Aside0.mk H
                    clear H
                    have p157 : 0 ≤ (x63_5 : Int) := of_decide_eq_true (by first | (with_reducible assumption) | assumption)
                    have q157 : x63_5 < ((l0.take (x11_3 : Int).toNat).length : Int) := of_decide_eq_true (by first | (with_reducible assumption) | assumption)
                    obtain ⟨ad157, e157, hx157_0⟩ := Kd.at_string HR156.out x63_5 p157 q157
                    cases e157
                    replace hx157_0 := (HB.out.cell (World.block_lt_of_cell? w _ hx157_0)).trans hx157_0
                    replace p157 := eq_true p157
                    replace q157 := eq_true q157
                    go_wp2
                    go_roundg k5
                    case measure => have := HJ3.out; have := HJ15.out; have := HK3.out; have := HJ19.out; have := HK5.out; omega
                    case rel => exact ⟨(true), (wrap64 (x63_5 + 1)), (by first | rfl | (simp; done) | (simp [*]; done)), (by first | rfl | (simp; done) | (simp [*]; done)), H', ⟨by have := HJ3.out; have := HJ15.out; have := HK3.out; have := HJ19.out; have := HK5.out; omega⟩, ⟨by (with_reducible repeat (first | apply Kd.R_alloc | apply Kd.R_drewN | apply Kd.R_drew)); exact HO_7.out⟩, ⟨by repeat (first | (with_reducible first | exact HB.out | apply below_alloc | apply pw_below_drewN | apply below_drew1) | exact HB.out)⟩⟩
                  ·replace c29 := Bool.eq_false_iff.mpr c29
                   subst c29
                   have H1 : (if 0 ≤ x11_3 then (if x11_3 < (l0.length : Int) then (gridhalllaw3_LedgerSettles.l1 k5 l0 l1 t152 t153 x9_3 x10_3 x11_3 ((rdOf ByteArray.empty (l0.take (x11_3 : Int).toNat) x63_5).toList == (rdOf ByteArray.empty l0 x11_3).toList) (l0.take (x11_3 : Int).toNat) ((l0.take (x11_3 : Int).toNat).length : Int) (wrap64 (x63_5 + 1))) else (none)) else (none)) = some r := by rw [if_neg (show ¬ (false = true) by decide)] at H; exact H
                   clear H
                   have H := H1
                   clear H1
                   by_cases c30 : 0 ≤ x11_3
                   ·rw [if_pos c30] at H
                    have c30b0 : decide (0 ≤ x11_3) = true := decide_eq_true c30
                    clear c30
                    by_cases c31 : x11_3 < (l0.length : Int)
                    ·rw [if_pos c31] at H
                     have c31b0 : decide (x11_3 < (l0.length : Int)) = true := decide_eq_true c31
                     clear c31
                     as_aux_lemma =>
                      have H' := Aside0.mk H
                      clear H
                      have p157 : 0 ≤ (x63_5 : Int) := of_decide_eq_true (by first | (with_reducible assumption) | assumption)
                      have q157 : x63_5 < ((l0.take (x11_3 : Int).toNat).length : Int) := of_decide_eq_true (by first | (with_reducible assumption) | assumption)
                      obtain ⟨ad157, e157, hx157_0⟩ := Kd.at_string HR156.out x63_5 p157 q157
                      cases e157
                      replace hx157_0 := (HB.out.cell (World.block_lt_of_cell? w _ hx157_0)).trans hx157_0
                      replace p157 := eq_true p157
                      replace q157 := eq_true q157
                      have p158 : 0 ≤ (x11_3 : Int) := of_decide_eq_true (by first | (with_reducible assumption) | assumption)
                      have q158 : x11_3 < (l0.length : Int) := of_decide_eq_true (by first | (with_reducible assumption) | assumption)
                      obtain ⟨ad158, e158, hx158_0⟩ := Kd.at_string HR0.out x11_3 p158 q158
                      obtain rfl : ad157 = ad158 := (by injection e158)
                      replace hx158_0 := (HB.out.cell (World.block_lt_of_cell? w _ hx158_0)).trans hx158_0
                      replace p158 := eq_true p158
                      replace q158 := eq_true q158
                      go_wp2
                      go_roundg k5
                      case measure => have := HJ3.out; have := HJ15.out; have := HK3.out; have := HJ19.out; have := HK5.out; omega
                      case rel => exact ⟨(((rdOf ByteArray.empty (l0.take (x11_3 : Int).toNat) x63_5).toList == (rdOf ByteArray.empty l0 x11_3).toList)), (wrap64 (x63_5 + 1)), (by first | rfl | (simp; done) | (simp [*]; done)), (by first | rfl | (simp; done) | (simp [*]; done)), H', ⟨by have := HJ3.out; have := HJ15.out; have := HK3.out; have := HJ19.out; have := HK5.out; omega⟩, ⟨by (with_reducible repeat (first | apply Kd.R_alloc | apply Kd.R_drewN | apply Kd.R_drew)); exact HO_7.out⟩, ⟨by repeat (first | (with_reducible first | exact HB.out | apply below_alloc | apply pw_below_drewN | apply below_drew1) | exact HB.out)⟩⟩
                    ·rw [if_neg c31] at H
                     exact absurd H (by simp)
                   ·rw [if_neg c30] at H
                    exact absurd H (by simp)
                 ·rw [if_neg c28] at H
                  exact absurd H (by simp)
                ·rw [if_neg c27] at H
                 exact absurd H (by simp)
               ·rw [if_neg c26] at H
                have c26b0 : decide (x63_5 < ((l0.take (x11_3 : Int).toNat).length : Int)) = false := decide_eq_false c26
                have c26n : decide (x63_5 < max x11_3 0) = false := by have a_ := of_decide_eq_false c26b0; rw [HM25.out] at a_; exact decide_eq_false a_
                clear c26
                by_cases c32 : 0 ≤ x11_3
                ·rw [if_pos c32] at H
                 have c32b0 : decide (0 ≤ x11_3) = true := decide_eq_true c32
                 clear c32
                 by_cases c33 : x11_3 < (l0.length : Int)
                 ·rw [if_pos c33] at H
                  have c33b0 : decide (x11_3 < (l0.length : Int)) = true := decide_eq_true c33
                  clear c33
                  replace H := Option.bind_eq_some_iff.mp H
                  obtain ⟨t160, A340, H⟩ := H
                  replace H : (if t160 = true then (if x12_5 = true then (gridhalllaw3_LedgerSettles.l0 k5 l0 l1 t152 t153 7 x10_3 (wrap64 (x11_3 + 1))) else (if x11_3 < (l1.length : Int) then ((gridhallref3_In.f (rd l1 x11_3) (-1000000000000) 1000000000000).bind fun t162 => (if t162 = true then (gridhalllaw3_LedgerSettles.l0 k5 l0 l1 t152 t153 x9_3 (wrap64 (x10_3 + (rd l1 x11_3))) (wrap64 (x11_3 + 1))) else (gridhalllaw3_LedgerSettles.l0 k5 l0 l1 t152 t153 4 x10_3 (wrap64 (x11_3 + 1))))) else (none))) else (gridhalllaw3_LedgerSettles.l0 k5 l0 l1 t152 t153 6 x10_3 (wrap64 (x11_3 + 1)))) = some r := H
                  have A34 := Aside0.mk A340
                  clear A340
                  by_cases c35 : t160 = true
                  ·subst c35
                   have H1 : (if x12_5 = true then (gridhalllaw3_LedgerSettles.l0 k5 l0 l1 t152 t153 7 x10_3 (wrap64 (x11_3 + 1))) else (if x11_3 < (l1.length : Int) then ((gridhallref3_In.f (rd l1 x11_3) (-1000000000000) 1000000000000).bind fun t162 => (if t162 = true then (gridhalllaw3_LedgerSettles.l0 k5 l0 l1 t152 t153 x9_3 (wrap64 (x10_3 + (rd l1 x11_3))) (wrap64 (x11_3 + 1))) else (gridhalllaw3_LedgerSettles.l0 k5 l0 l1 t152 t153 4 x10_3 (wrap64 (x11_3 + 1))))) else (none))) = some r := by rw [if_pos rfl] at H; exact H
                   clear H
                   have H := H1
                   clear H1
                   by_cases c36 : x12_5 = true
                   ·subst c36
                    have H1 : (gridhalllaw3_LedgerSettles.l0 k5 l0 l1 t152 t153 7 x10_3 (wrap64 (x11_3 + 1))) = some r := by rw [if_pos rfl] at H; exact H
                    clear H
                    have H := H1
                    clear H1
                    as_aux_lemma =>
                     have H' := Aside0.mk H
                     clear H
                     have p159 : 0 ≤ (x11_3 : Int) := of_decide_eq_true (by first | (with_reducible assumption) | assumption)
                     have q159 : x11_3 < (l0.length : Int) := of_decide_eq_true (by first | (with_reducible assumption) | assumption)
                     obtain ⟨ad159, e159, hx159_0⟩ := Kd.at_string HR0.out x11_3 p159 q159
                     cases e159
                     replace hx159_0 := (HB.out.cell (World.block_lt_of_cell? w _ hx159_0)).trans hx159_0
                     replace p159 := eq_true p159
                     replace q159 := eq_true q159
                     go_wp2_with (first | ((with_reducible refine gate_callee (f := 32) rfl ?_); refine goesL_ (some 88) rfl rfl Try.func32 (by kernel_rfl) rfl #[.string (rdOf ByteArray.empty l0 x11_3)] rfl (by (try simp only [List.map_toArray, List.map_cons, List.map_nil]); first | done | rfl | (simp only [List.length_drop, List.length_take]; rfl)) ?_; (with_reducible refine (gridhallref3_Named.calls k5 (rdOf ByteArray.empty l0 x11_3) true _ A34.out).mono ?_); rintro e w' ⟨rfl, ⟨nd, rfl⟩⟩; refine ⟨_, rfl, ?_⟩))
                     go_roundg k5
                     case measure => have := HJ3.out; have := HJ15.out; have := HK3.out; have := HJ19.out; have := HK5.out; omega
                     case rel => exact ⟨(7), (x10_3), (wrap64 (x11_3 + 1)), (by first | rfl | (simp; done) | (simp [*]; done)), (by first | rfl | (simp; done) | (simp [*]; done)), (by first | rfl | (simp; done) | (simp [*]; done)), H', ⟨by have := HJ3.out; have := HJ15.out; have := HK3.out; have := HJ19.out; have := HK5.out; omega⟩, ⟨by (with_reducible repeat (first | apply Kd.R_alloc | apply Kd.R_drewN | apply Kd.R_drew)); exact HO_7.out⟩, ⟨by repeat (first | (with_reducible first | exact HB.out | apply below_alloc | apply pw_below_drewN | apply below_drew1) | exact HB.out)⟩⟩
                   ·replace c36 := Bool.eq_false_iff.mpr c36
                    subst c36
                    have H1 : (if x11_3 < (l1.length : Int) then ((gridhallref3_In.f (rd l1 x11_3) (-1000000000000) 1000000000000).bind fun t162 => (if t162 = true then (gridhalllaw3_LedgerSettles.l0 k5 l0 l1 t152 t153 x9_3 (wrap64 (x10_3 + (rd l1 x11_3))) (wrap64 (x11_3 + 1))) else (gridhalllaw3_LedgerSettles.l0 k5 l0 l1 t152 t153 4 x10_3 (wrap64 (x11_3 + 1))))) else (none)) = some r := by rw [if_neg (show ¬ (false = true) by decide)] at H; exact H
                    clear H
                    have H := H1
                    clear H1
                    by_cases c37 : x11_3 < (l1.length : Int)
                    ·rw [if_pos c37] at H
                     have c37b0 : decide (x11_3 < (l1.length : Int)) = true := decide_eq_true c37
                     clear c37
                     replace H := Option.bind_eq_some_iff.mp H
                     obtain ⟨t162, A380, H⟩ := H
                     replace H : (if t162 = true then (gridhalllaw3_LedgerSettles.l0 k5 l0 l1 t152 t153 x9_3 (wrap64 (x10_3 + (rd l1 x11_3))) (wrap64 (x11_3 + 1))) else (gridhalllaw3_LedgerSettles.l0 k5 l0 l1 t152 t153 4 x10_3 (wrap64 (x11_3 + 1)))) = some r := H
                     have A38 := Aside0.mk A380
                     clear A380
                     by_cases c39 : t162 = true
                     ·subst c39
                      have H1 : (gridhalllaw3_LedgerSettles.l0 k5 l0 l1 t152 t153 x9_3 (wrap64 (x10_3 + (rd l1 x11_3))) (wrap64 (x11_3 + 1))) = some r := by rw [if_pos rfl] at H; exact H
                      clear H
                      have H := H1
                      clear H1
                      as_aux_lemma =>
                       have H' := Aside0.mk H
                       clear H
                       have p159 : 0 ≤ (x11_3 : Int) := of_decide_eq_true (by first | (with_reducible assumption) | assumption)
                       have q159 : x11_3 < (l0.length : Int) := of_decide_eq_true (by first | (with_reducible assumption) | assumption)
                       obtain ⟨ad159, e159, hx159_0⟩ := Kd.at_string HR0.out x11_3 p159 q159
                       cases e159
                       replace hx159_0 := (HB.out.cell (World.block_lt_of_cell? w _ hx159_0)).trans hx159_0
                       replace p159 := eq_true p159
                       replace q159 := eq_true q159
                       go_wp2_with (first | ((with_reducible refine gate_callee (f := 32) rfl ?_); refine goesL_ (some 88) rfl rfl Try.func32 (by kernel_rfl) rfl #[.string (rdOf ByteArray.empty l0 x11_3)] rfl (by (try simp only [List.map_toArray, List.map_cons, List.map_nil]); first | done | rfl | (simp only [List.length_drop, List.length_take]; rfl)) ?_; (with_reducible refine (gridhallref3_Named.calls k5 (rdOf ByteArray.empty l0 x11_3) true _ A34.out).mono ?_); rintro e w' ⟨rfl, ⟨nd, rfl⟩⟩; refine ⟨_, rfl, ?_⟩; have p161 : 0 ≤ (x11_3 : Int) := of_decide_eq_true (by first | (with_reducible assumption) | assumption); have q161 : x11_3 < (l1.length : Int) := of_decide_eq_true (by first | (with_reducible assumption) | assumption); obtain ⟨ad161, e161, hx161_0⟩ := Kd.at_int HR1.out x11_3 p161 q161; cases e161; replace hx161_0 := (HB.out.cell (World.block_lt_of_cell? w _ hx161_0)).trans hx161_0; replace p161 := eq_true p161; replace q161 := eq_true q161) | ((with_reducible refine gate_callee (f := 12) rfl ?_); refine goesL_ (some 97) rfl rfl Try.func12 (by kernel_rfl) rfl #[.int .i64 (rd l1 x11_3), .int .i64 (-1000000000000), .int .i64 1000000000000] rfl (by (try simp only [List.map_toArray, List.map_cons, List.map_nil]); first | done | rfl | (simp only [List.length_drop, List.length_take]; rfl)) ?_; (with_reducible refine (gridhallref3_In.calls (rd l1 x11_3) (-1000000000000) 1000000000000 true _ A38.out).mono ?_); rintro e w' ⟨rfl, ⟨nd, rfl⟩⟩; refine ⟨_, rfl, ?_⟩; have p163 : 0 ≤ (x11_3 : Int) := of_decide_eq_true (by first | (with_reducible assumption) | assumption); have q163 : x11_3 < (l1.length : Int) := of_decide_eq_true (by first | (with_reducible assumption) | assumption); obtain ⟨ad163, e163, hx163_0⟩ := Kd.at_int HR1.out x11_3 p163 q163; obtain rfl : ad161 = ad163 := (by injection e163); replace hx163_0 := (HB.out.cell (World.block_lt_of_cell? w _ hx163_0)).trans hx163_0; replace p163 := eq_true p163; replace q163 := eq_true q163))
                       go_roundg k5
                       case measure => have := HJ3.out; have := HJ15.out; have := HK3.out; have := HJ19.out; have := HK5.out; omega
                       case rel => exact ⟨(x9_3), (wrap64 (x10_3 + (rd l1 x11_3))), (wrap64 (x11_3 + 1)), (by first | rfl | (simp; done) | (simp [*]; done)), (by first | rfl | (simp; done) | (simp [*]; done)), (by first | rfl | (simp; done) | (simp [*]; done)), H', ⟨by have := HJ3.out; have := HJ15.out; have := HK3.out; have := HJ19.out; have := HK5.out; omega⟩, ⟨by (with_reducible repeat (first | apply Kd.R_alloc | apply Kd.R_drewN | apply Kd.R_drew)); exact HO_7.out⟩, ⟨by repeat (first | (with_reducible first | exact HB.out | apply below_alloc | apply pw_below_drewN | apply below_drew1) | exact HB.out)⟩⟩
                     ·replace c39 := Bool.eq_false_iff.mpr c39
                      subst c39
                      have H1 : (gridhalllaw3_LedgerSettles.l0 k5 l0 l1 t152 t153 4 x10_3 (wrap64 (x11_3 + 1))) = some r := by rw [if_neg (show ¬ (false = true) by decide)] at H; exact H
                      clear H
                      have H := H1
                      clear H1
                      as_aux_lemma =>
                       have H' := Aside0.mk H
                       clear H
                       have p159 : 0 ≤ (x11_3 : Int) := of_decide_eq_true (by first | (with_reducible assumption) | assumption)
                       have q159 : x11_3 < (l0.length : Int) := of_decide_eq_true (by first | (with_reducible assumption) | assumption)
                       obtain ⟨ad159, e159, hx159_0⟩ := Kd.at_string HR0.out x11_3 p159 q159
                       cases e159
                       replace hx159_0 := (HB.out.cell (World.block_lt_of_cell? w _ hx159_0)).trans hx159_0
                       replace p159 := eq_true p159
                       replace q159 := eq_true q159
                       go_wp2_with (first | ((with_reducible refine gate_callee (f := 32) rfl ?_); refine goesL_ (some 88) rfl rfl Try.func32 (by kernel_rfl) rfl #[.string (rdOf ByteArray.empty l0 x11_3)] rfl (by (try simp only [List.map_toArray, List.map_cons, List.map_nil]); first | done | rfl | (simp only [List.length_drop, List.length_take]; rfl)) ?_; (with_reducible refine (gridhallref3_Named.calls k5 (rdOf ByteArray.empty l0 x11_3) true _ A34.out).mono ?_); rintro e w' ⟨rfl, ⟨nd, rfl⟩⟩; refine ⟨_, rfl, ?_⟩; have p161 : 0 ≤ (x11_3 : Int) := of_decide_eq_true (by first | (with_reducible assumption) | assumption); have q161 : x11_3 < (l1.length : Int) := of_decide_eq_true (by first | (with_reducible assumption) | assumption); obtain ⟨ad161, e161, hx161_0⟩ := Kd.at_int HR1.out x11_3 p161 q161; cases e161; replace hx161_0 := (HB.out.cell (World.block_lt_of_cell? w _ hx161_0)).trans hx161_0; replace p161 := eq_true p161; replace q161 := eq_true q161) | ((with_reducible refine gate_callee (f := 12) rfl ?_); refine goesL_ (some 97) rfl rfl Try.func12 (by kernel_rfl) rfl #[.int .i64 (rd l1 x11_3), .int .i64 (-1000000000000), .int .i64 1000000000000] rfl (by (try simp only [List.map_toArray, List.map_cons, List.map_nil]); first | done | rfl | (simp only [List.length_drop, List.length_take]; rfl)) ?_; (with_reducible refine (gridhallref3_In.calls (rd l1 x11_3) (-1000000000000) 1000000000000 false _ A38.out).mono ?_); rintro e w' ⟨rfl, ⟨nd, rfl⟩⟩; refine ⟨_, rfl, ?_⟩))
                       go_roundg k5
                       case measure => have := HJ3.out; have := HJ15.out; have := HK3.out; have := HJ19.out; have := HK5.out; omega
                       case rel => exact ⟨(4), (x10_3), (wrap64 (x11_3 + 1)), (by first | rfl | (simp; done) | (simp [*]; done)), (by first | rfl | (simp; done) | (simp [*]; done)), (by first | rfl | (simp; done) | (simp [*]; done)), H', ⟨by have := HJ3.out; have := HJ15.out; have := HK3.out; have := HJ19.out; have := HK5.out; omega⟩, ⟨by (with_reducible repeat (first | apply Kd.R_alloc | apply Kd.R_drewN | apply Kd.R_drew)); exact HO_7.out⟩, ⟨by repeat (first | (with_reducible first | exact HB.out | apply below_alloc | apply pw_below_drewN | apply below_drew1) | exact HB.out)⟩⟩
                    ·rw [if_neg c37] at H
                     exact absurd H (by simp)
                  ·replace c35 := Bool.eq_false_iff.mpr c35
                   subst c35
                   have H1 : (gridhalllaw3_LedgerSettles.l0 k5 l0 l1 t152 t153 6 x10_3 (wrap64 (x11_3 + 1))) = some r := by rw [if_neg (show ¬ (false = true) by decide)] at H; exact H
                   clear H
                   have H := H1
                   clear H1
                   as_aux_lemma =>
                    have H' := Aside0.mk H
                    clear H
                    have p159 : 0 ≤ (x11_3 : Int) := of_decide_eq_true (by first | (with_reducible assumption) | assumption)
                    have q159 : x11_3 < (l0.length : Int) := of_decide_eq_true (by first | (with_reducible assumption) | assumption)
                    obtain ⟨ad159, e159, hx159_0⟩ := Kd.at_string HR0.out x11_3 p159 q159
                    cases e159
                    replace hx159_0 := (HB.out.cell (World.block_lt_of_cell? w _ hx159_0)).trans hx159_0
                    replace p159 := eq_true p159
                    replace q159 := eq_true q159
                    go_wp2_with (first | ((with_reducible refine gate_callee (f := 32) rfl ?_); refine goesL_ (some 88) rfl rfl Try.func32 (by kernel_rfl) rfl #[.string (rdOf ByteArray.empty l0 x11_3)] rfl (by (try simp only [List.map_toArray, List.map_cons, List.map_nil]); first | done | rfl | (simp only [List.length_drop, List.length_take]; rfl)) ?_; (with_reducible refine (gridhallref3_Named.calls k5 (rdOf ByteArray.empty l0 x11_3) false _ A34.out).mono ?_); rintro e w' ⟨rfl, ⟨nd, rfl⟩⟩; refine ⟨_, rfl, ?_⟩))
                    go_roundg k5
                    case measure => have := HJ3.out; have := HJ15.out; have := HK3.out; have := HJ19.out; have := HK5.out; omega
                    case rel => exact ⟨(6), (x10_3), (wrap64 (x11_3 + 1)), (by first | rfl | (simp; done) | (simp [*]; done)), (by first | rfl | (simp; done) | (simp [*]; done)), (by first | rfl | (simp; done) | (simp [*]; done)), H', ⟨by have := HJ3.out; have := HJ15.out; have := HK3.out; have := HJ19.out; have := HK5.out; omega⟩, ⟨by (with_reducible repeat (first | apply Kd.R_alloc | apply Kd.R_drewN | apply Kd.R_drew)); exact HO_7.out⟩, ⟨by repeat (first | (with_reducible first | exact HB.out | apply below_alloc | apply pw_below_drewN | apply below_drew1) | exact HB.out)⟩⟩
                 ·rw [if_neg c33] at H
                  exact absurd H (by simp)
                ·rw [if_neg c32] at H
                 exact absurd H (by simp)
            ·rw [if_neg c24] at H
             exact absurd H (by simp)
           ·rw [if_neg c23] at H
            exact absurd H (by simp)
          ·replace c22 := Bool.eq_false_iff.mpr c22
           subst c22
           have H1 : (if x9_3 = 0 then (gridhalllaw3_LedgerSettles.j5 kj19 l0 l1 t152 t153 x9_3 (x10_3 != 0)) else (gridhalllaw3_LedgerSettles.j5 kj19 l0 l1 t152 t153 x9_3 false)) = some r := by rw [if_neg (show ¬ (false = true) by decide)] at H; exact H
           clear H
           have H := H1
           clear H1
           have HC40 := Aside0.mk H
           clear H
           go_upto_region 27 with (fail)
           go_cut [104] (fun v104 wc => ∃ (kq : Nat) (x104_39 : Bool), v104 = .bool x104_39 ∧ Aside0 (gridhalllaw3_LedgerSettles.j5 kq l0 l1 t152 t153 x9_3 x104_39 = some r) ∧ Aside0 (kq ≤ kj19) ∧ Aside0 (Kd.R k67 67 wc w.heap.size (fun _ => True) v154 t152) ∧ Aside0 (Below w.heap.size w wc))
           case first =>
            have H := HC40.out
            clear HC40
            by_cases c41 : x9_3 = 0
            ·rw [if_pos c41] at H
             have c41b0 : (x9_3 == 0) = true := beq_iff_eq.mpr c41
             have c41b1 : (x9_3 != 0) = false := bne_eq_false_iff_eq.mpr c41
             clear c41
             (first | rw [c41b0] | (simp only [i64_w, i32_w]; rw [c41b0]) | skip)
             as_aux_lemma =>
              have H' := Aside0.mk H
              clear H
              go_wp2
              go_meet
              case rel => exact ⟨_, ((x10_3 != 0)), (by first | rfl | (simp; done) | (simp [*]; done)), H', ⟨by have := HJ3.out; have := HJ15.out; have := HK3.out; have := HJ19.out; first | omega | exact Nat.le_refl _⟩, ⟨by (with_reducible repeat (first | apply Kd.R_alloc | apply Kd.R_drewN | apply Kd.R_drew)); exact HO_7.out⟩, ⟨by repeat (first | (with_reducible first | exact HB.out | apply below_alloc | apply pw_below_drewN | apply below_drew1) | exact HB.out)⟩⟩
            ·rw [if_neg c41] at H
             have c41b0 : (x9_3 == 0) = false := beq_eq_false_iff_ne.mpr c41
             have c41b1 : (x9_3 != 0) = true := bne_iff_ne.mpr c41
             (first | rw [c41b0] | (simp only [i64_w, i32_w]; rw [c41b0]) | skip)
             as_aux_lemma =>
              have H' := Aside0.mk H
              clear H
              go_wp2
              go_meet
              case rel => exact ⟨_, (false), (by first | rfl | (simp; done) | (simp [*]; done)), H', ⟨by have := HJ3.out; have := HJ15.out; have := HK3.out; have := HJ19.out; first | omega | exact Nat.le_refl _⟩, ⟨by (with_reducible repeat (first | apply Kd.R_alloc | apply Kd.R_drewN | apply Kd.R_drew)); exact HO_7.out⟩, ⟨by repeat (first | (with_reducible first | exact HB.out | apply below_alloc | apply pw_below_drewN | apply below_drew1) | exact HB.out)⟩⟩
           case rest =>
            clear HC40
            try clear c1
            try clear p1
            try clear q1
            try clear hx1
            try clear c2
            try clear p2
            try clear c3
            try clear c4
            try clear p6
            try clear c8
            try clear c12
            try clear c12b0
            try clear c12b1
            try clear c14
            try clear p15
            try clear q15
            try clear hx15
            try clear p16
            try clear q16
            try clear hx16
            try clear c18
            try clear c18b0
            try clear c18b1
            try clear c19
            try clear c19b0
            try clear c19b1
            try clear c19b2
            try clear c21
            try clear c21b0
            try clear c22
            try clear c23
            try clear c23b0
            try clear c23b1
            try clear c24
            try clear c24b0
            try clear c24b1
            try clear c26
            try clear c26b0
            try clear c27
            try clear c27b0
            try clear c28
            try clear c28b0
            try clear c29
            try clear c30
            try clear c30b0
            try clear c31
            try clear c31b0
            try clear c32
            try clear c32b0
            try clear c33
            try clear c33b0
            try clear c35
            try clear c36
            try clear c37
            try clear c37b0
            try clear c39
            try clear c41
            try clear c41b0
            try clear c41b1
            try clear hx157_0
            try clear hx158_0
            try clear hx159_0
            try clear hx161_0
            try clear hx163_0
            try clear p157
            try clear p158
            try clear p159
            try clear p161
            try clear p163
            try clear p2
            try clear q157
            try clear q158
            try clear q159
            try clear q161
            try clear q163
            obtain ⟨kq, x104_39, rfl, HA, HJ39, HO_7, HB⟩ := hcut
            cases kq with
            | zero => exact absurd HA.out (by simp [gridhalllaw3_LedgerSettles.j5])
            | succ kj39 =>
             have H := HA.out
             clear HA
             simp only [gridhalllaw3_LedgerSettles.j5] at H
             have HC42 := Aside0.mk H
             clear H
             go_upto_if 104 with (fail)
             go_cut [9] (fun v9 wc => ∃ (kq : Nat) (x9_41 : Int), v9 = .int .i64 x9_41 ∧ Aside0 (gridhalllaw3_LedgerSettles.j6 kq l0 l1 t152 t153 x9_41 = some r) ∧ Aside0 (kq ≤ kj39) ∧ Aside0 (Kd.R k67 67 wc w.heap.size (fun _ => True) v154 t152) ∧ Aside0 (Below w.heap.size w wc))
             case first =>
              have H := HC42.out
              clear HC42
              by_cases c43 : x104_39 = true
              ·subst c43
               have H1 : (gridhalllaw3_LedgerSettles.j6 kj39 l0 l1 t152 t153 14) = some r := by rw [if_pos rfl] at H; exact H
               clear H
               have H := H1
               clear H1
               as_aux_lemma =>
                have H' := Aside0.mk H
                clear H
                go_wp2
                go_meet
                case rel => exact ⟨_, (14), (by first | rfl | (simp; done) | (simp [*]; done)), H', ⟨by have := HJ3.out; have := HJ15.out; have := HK3.out; have := HJ19.out; have := HJ39.out; first | omega | exact Nat.le_refl _⟩, ⟨by (with_reducible repeat (first | apply Kd.R_alloc | apply Kd.R_drewN | apply Kd.R_drew)); exact HO_7.out⟩, ⟨by repeat (first | (with_reducible first | exact HB.out | apply below_alloc | apply pw_below_drewN | apply below_drew1) | exact HB.out)⟩⟩
              ·replace c43 := Bool.eq_false_iff.mpr c43
               subst c43
               have H1 : (gridhalllaw3_LedgerSettles.j6 kj39 l0 l1 t152 t153 x9_3) = some r := by rw [if_neg (show ¬ (false = true) by decide)] at H; exact H
               clear H
               have H := H1
               clear H1
               as_aux_lemma =>
                have H' := Aside0.mk H
                clear H
                go_wp2
                go_meet
                case rel => exact ⟨_, (x9_3), (by first | rfl | (simp; done) | (simp [*]; done)), H', ⟨by have := HJ3.out; have := HJ15.out; have := HK3.out; have := HJ19.out; have := HJ39.out; first | omega | exact Nat.le_refl _⟩, ⟨by (with_reducible repeat (first | apply Kd.R_alloc | apply Kd.R_drewN | apply Kd.R_drew)); exact HO_7.out⟩, ⟨by repeat (first | (with_reducible first | exact HB.out | apply below_alloc | apply pw_below_drewN | apply below_drew1) | exact HB.out)⟩⟩
             case rest =>
              clear HC42
              try clear c1
              try clear p1
              try clear q1
              try clear hx1
              try clear c2
              try clear p2
              try clear c3
              try clear c4
              try clear p6
              try clear c8
              try clear c12
              try clear c12b0
              try clear c12b1
              try clear c14
              try clear p15
              try clear q15
              try clear hx15
              try clear p16
              try clear q16
              try clear hx16
              try clear c18
              try clear c18b0
              try clear c18b1
              try clear c19
              try clear c19b0
              try clear c19b1
              try clear c19b2
              try clear c21
              try clear c21b0
              try clear c22
              try clear c23
              try clear c23b0
              try clear c23b1
              try clear c24
              try clear c24b0
              try clear c24b1
              try clear c26
              try clear c26b0
              try clear c27
              try clear c27b0
              try clear c28
              try clear c28b0
              try clear c29
              try clear c30
              try clear c30b0
              try clear c31
              try clear c31b0
              try clear c32
              try clear c32b0
              try clear c33
              try clear c33b0
              try clear c35
              try clear c36
              try clear c37
              try clear c37b0
              try clear c39
              try clear c41
              try clear c41b0
              try clear c41b1
              try clear c43
              try clear hx157_0
              try clear hx158_0
              try clear hx159_0
              try clear hx161_0
              try clear hx163_0
              try clear p1
              try clear p15
              try clear p157
              try clear p158
              try clear p159
              try clear p16
              try clear p161
              try clear p163
              try clear p2
              try clear p6
              try clear q1
              try clear q15
              try clear q157
              try clear q158
              try clear q159
              try clear q16
              try clear q161
              try clear q163
              obtain ⟨kq, x9_41, rfl, HA, HJ41, HO_7, HB⟩ := hcut
              cases kq with
              | zero => exact absurd HA.out (by simp [gridhalllaw3_LedgerSettles.j6])
              | succ kj41 =>
               have H := HA.out
               clear HA
               simp only [gridhalllaw3_LedgerSettles.j6] at H
               by_cases c44 : x9_41 = 0
               ·rw [if_pos c44] at H
                have c44b0 : (x9_41 == 0) = true := beq_iff_eq.mpr c44
                have c44b1 : (x9_41 != 0) = false := bne_eq_false_iff_eq.mpr c44
                clear c44
                obtain ⟨y164, hy164⟩ : ∃ y_ : List Int, y_ = (([] : List Int)) := ⟨_, rfl⟩
                replace H : (if y164.length + l1.length < 17592186044416 then (gridhalllaw3_LedgerSettles.l2 kj41 l0 t152 t153 (y164 ++ l1) t152 (t152.length : Int) 0) else (none)) = some r := by first | (rw [hy164]; with_reducible exact H) | (have H2_ := (Option.bind_some _ _).symm.trans H; rw [hy164]; with_reducible exact H2_) | (have H2_ := (Option.bind_some _ _).symm.trans H; with_reducible exact H2_) | with_reducible exact H | (rw [hy164]; exact H) | exact H
                have Ny164 := Aside0.mk hy164
                clear hy164
                by_cases c45 : y164.length + l1.length < 17592186044416
                ·rw [if_pos c45] at H
                 have LMc45 := Aside0.mk c45
                 clear c45
                 obtain ⟨y167, hy167⟩ : ∃ y_ : List Int, y_ = (y164 ++ l1) := ⟨_, rfl⟩
                 replace H : (gridhalllaw3_LedgerSettles.l2 kj41 l0 t152 t153 y167 t152 (t152.length : Int) 0) = some r := by first | (rw [hy167]; with_reducible exact H) | (have H2_ := (Option.bind_some _ _).symm.trans H; rw [hy167]; with_reducible exact H2_) | (have H2_ := (Option.bind_some _ _).symm.trans H; with_reducible exact H2_) | with_reducible exact H | (rw [hy167]; exact H) | exact H
                 have Ny167 := Aside0.mk hy167
                 clear hy167
                 have H' := Aside0.mk H
                 clear H
                 go_wp2_with (first | ((with_reducible refine gate_dst (N := 115) rfl ?_); (try (refine gate_guard (by rfl) ?_; dsimp only)); refine Kd.R_lit (Kd.int .i64) _ 3 ?hg (N := 115) ?hd (xs := ([] : List Int)) (inner := []) (ok := fun _ => True) (okp := fun _ => True) ?hr ?hp (fun _ hk => hk) trivial (Below.refl _ _) (Nat.le_refl _) (by simp) ?_; (case hd => rfl); (case hg => rfl); (case hr => first | (go_simp; done) | (go_simp; rfl)); (case hp => exact (Reps.none _ _)); intro v165 w46 ho47 hb hg_ hnew_; clear hg_ hnew_; (first | rw [← Ny164.out] at ho47 | (simp only [Int.reduceToNat] at ho47; rw [← Ny164.out] at ho47)); have n0_ := Aside0.mk (Kd.R_below (by (with_reducible repeat (first | apply Kd.R_alloc | apply Kd.R_drewN | apply Kd.R_drew)); exact HO_7.out) hb); have n1_ := Aside0.mk (Kd.R_lower ho47 (below_size (by repeat (first | (with_reducible first | exact HB.out | apply below_alloc | apply pw_below_drewN | apply below_drew1) | exact HB.out)))); have n2_ := Aside0.mk (below_step (by repeat (first | (with_reducible first | exact HB.out | apply below_alloc | apply pw_below_drewN | apply below_drew1) | exact HB.out)) hb); clear HO_7; clear HB; have HO_7 := n0_; have HO166 := n1_; have HB := n2_; clear n0_ n1_ n2_; clear hb ho47) | ((with_reducible refine gate_builtin (b := .append) (xs := #[.tmp 115, .tmp 116]) rfl ?_); (try (refine gate_guard (by rfl) ?_; dsimp only)); at_builtin; refine Kd.R_append_rows (Kd.int .i64) (w0 := w) w.heap.size rfl (.tmp 115) (.tmp 116) 59 3 (.int .i64 0) 8 rfl Try.underlying59 info3 rfl (by decide) (by omega) v165 y164 l1 _ _ _ (fun _ => True) (fun _ => False) rfl rfl ?aO ?aR (fun _ _ h => h) (fun _ h => h.elim) ?aF ?aB ?aS ?aL ?_; (case aR => repeat (first | exact (Kd.C_below HR1.out HB.out) | (with_reducible refine Kd.C_alloc ?_ _) | (with_reducible refine Kd.C_drewN ?_ _) | (with_reducible refine Kd.C_drew ?_))); (case aB => exact (by repeat (first | (with_reducible first | exact HB.out | apply below_alloc | apply pw_below_drewN | apply below_drew1) | exact HB.out))); (case aF => exact (fun _ _ => trivial)); (case aO => exact (by (with_reducible repeat (first | apply Kd.R_alloc | apply Kd.R_drewN | apply Kd.R_drew)); exact HO166.out)); (case aS => exact (below_size (by repeat (first | (with_reducible first | exact HB.out | apply below_alloc | apply pw_below_drewN | apply below_drew1) | exact HB.out)))); (case aL => have := LMc45.out; omega); intro v168 w48 ho hb hg hat; rw [← Ny167.out] at ho; have n0_ := Aside0.mk (Kd.R_over' (by (with_reducible repeat (first | apply Kd.R_alloc | apply Kd.R_drewN | apply Kd.R_drew)); exact HO_7.out) (Kd.R_typed (by (with_reducible repeat (first | apply Kd.R_alloc | apply Kd.R_drewN | apply Kd.R_drew)); exact HO166.out)) (by decide) hg); have n1_ := Aside0.mk (hb); have n2_ := Aside0.mk (ho); clear HO_7; clear HB; clear HO166; have HO_7 := n0_; have HB := n1_; have HO169 := n2_; clear n0_ n1_ n2_; clear ho hb hg hat; obtain ⟨Ao49, co49, eo49⟩ := Kd.R_slice HO_7.out; subst eo49))
                 go_loopg [120] kj41 (fun kq v120 w' => ∃ (x15_7 : List Int) (x120_7 : Int), v120 = .int .i64 x120_7 ∧ Aside0 (gridhalllaw3_LedgerSettles.l2 kq l0 t152 t153 x15_7 t152 (t152.length : Int) x120_7 = some r) ∧ Aside0 (kq ≤ kj41) ∧ Aside0 (Kd.R k67 67 w' w.heap.size (fun _ => True) (.slice Ao49 t152.length co49) t152) ∧ Aside0 (Kd.R (Kd.int .i64) 3 w' w.heap.size (fun _ => True) v168 x15_7) ∧ Aside0 (Kd.R k67 67 w' w.heap.size (fun _ => True) (.slice Ao49 t152.length co49) t152) ∧ Aside0 (Below w.heap.size w w'))
                 case atStart => exact ⟨(y167), (0), (by first | rfl | (simp; done) | (simp [*]; done)), H', ⟨Nat.le_refl _⟩, ⟨by (with_reducible repeat (first | apply Kd.R_alloc | apply Kd.R_drewN | apply Kd.R_drew)); exact HO_7.out⟩, ⟨by (with_reducible repeat (first | apply Kd.R_alloc | apply Kd.R_drewN | apply Kd.R_drew)); exact HO169.out⟩, ⟨by (with_reducible repeat (first | apply Kd.R_alloc | apply Kd.R_drewN | apply Kd.R_drew)); exact HO_7.out⟩, ⟨by repeat (first | (with_reducible first | exact HB.out | apply below_alloc | apply pw_below_drewN | apply below_drew1) | exact HB.out)⟩⟩
                 case round =>
                  clear H'
                  try clear c1
                  try clear p1
                  try clear q1
                  try clear hx1
                  try clear c2
                  try clear p2
                  try clear c3
                  try clear c4
                  try clear p6
                  try clear c8
                  try clear c12
                  try clear c12b0
                  try clear c12b1
                  try clear c14
                  try clear p15
                  try clear q15
                  try clear hx15
                  try clear p16
                  try clear q16
                  try clear hx16
                  try clear c18
                  try clear c18b0
                  try clear c18b1
                  try clear c19
                  try clear c19b0
                  try clear c19b1
                  try clear c19b2
                  try clear c21
                  try clear c21b0
                  try clear c22
                  try clear c23
                  try clear c23b0
                  try clear c23b1
                  try clear c24
                  try clear c24b0
                  try clear c24b1
                  try clear c26
                  try clear c26b0
                  try clear c27
                  try clear c27b0
                  try clear c28
                  try clear c28b0
                  try clear c29
                  try clear c30
                  try clear c30b0
                  try clear c31
                  try clear c31b0
                  try clear c32
                  try clear c32b0
                  try clear c33
                  try clear c33b0
                  try clear c35
                  try clear c36
                  try clear c37
                  try clear c37b0
                  try clear c39
                  try clear c41
                  try clear c41b0
                  try clear c41b1
                  try clear c43
                  try clear c44
                  try clear c44b0
                  try clear c44b1
                  try clear c45
                  try clear hx157_0
                  try clear hx158_0
                  try clear hx159_0
                  try clear hx161_0
                  try clear hx163_0
                  try clear p1
                  try clear p15
                  try clear p157
                  try clear p158
                  try clear p159
                  try clear p16
                  try clear p161
                  try clear p163
                  try clear p2
                  try clear p6
                  try clear q1
                  try clear q15
                  try clear q157
                  try clear q158
                  try clear q159
                  try clear q16
                  try clear q161
                  try clear q163
                  obtain ⟨x15_7, x120_7, rfl, HA, HK7, HO_7, HO_15, HO_118, HB⟩ := hrel
                  cases gk with
                  | zero => exact absurd HA.out (by simp [gridhalllaw3_LedgerSettles.l2])
                  | succ k7 =>
                   have H := HA.out
                   clear HA
                   simp only [gridhalllaw3_LedgerSettles.l2] at H
                   by_cases c50 : x120_7 < (t152.length : Int)
                   ·rw [if_pos c50] at H
                    have c50b0 : decide (x120_7 < (t152.length : Int)) = true := decide_eq_true c50
                    clear c50
                    by_cases c51 : 0 ≤ x120_7
                    ·rw [if_pos c51] at H
                     have c51b0 : decide (0 ≤ x120_7) = true := decide_eq_true c51
                     clear c51
                     by_cases c52 : x120_7 < (t152.length : Int)
                     ·rw [if_pos c52] at H
                      have c52b0 : decide (x120_7 < (t152.length : Int)) = true := decide_eq_true c52
                      clear c52
                      have HC53 := Aside0.mk H
                      clear H
                      have p170 : 0 ≤ (x120_7 : Int) := of_decide_eq_true (by first | (with_reducible assumption) | assumption)
                      have q170 : x120_7 < (t152.length : Int) := of_decide_eq_true (by first | (with_reducible assumption) | assumption)
                      obtain ⟨ad170, e170, hx170_0, hx170_1, hx170_2⟩ := at_T67 (Kd.R_reads' HO_118.out).2.2 x120_7 p170 q170
                      cases e170
                      replace p170 := eq_true p170
                      replace q170 := eq_true q170
                      go_upto_block 7 with (first | ((with_reducible refine gate_dst (N := 17) rfl ?_); (try (refine gate_guard (by rfl) ?_; dsimp only)); refine box_event ?hg (N := 17) ?hd (cs := #[.string (⟨#[]⟩ : ByteArray), .string (⟨#[]⟩ : ByteArray), .int .i64 0]) (t := 67) ?hr ?_; (case hd => rfl); (case hg => rfl); (case hr => first | (go_simp; done) | (go_simp; rfl)); intro gb171 hg w54 hbox hb; have n0_ := Aside0.mk (Kd.R_below (Kd.R_elderB (by (with_reducible repeat (first | apply Kd.R_alloc | apply Kd.R_drewN | apply Kd.R_drew)); exact HO_7.out) gb171 (Nat.le_of_eq hg.symm)) hb); have n1_ := Aside0.mk (Kd.R_below (by (with_reducible repeat (first | apply Kd.R_alloc | apply Kd.R_drewN | apply Kd.R_drew)); exact HO_15.out) hb); have n2_ := Aside0.mk (Kd.R_below (Kd.R_elderB (by (with_reducible repeat (first | apply Kd.R_alloc | apply Kd.R_drewN | apply Kd.R_drew)); exact HO_118.out) gb171 (Nat.le_of_eq hg.symm)) hb); have n3_ := Aside0.mk (below_step (by repeat (first | (with_reducible first | exact HB.out | apply below_alloc | apply pw_below_drewN | apply below_drew1) | exact HB.out)) hb); have n4_ := Aside0.mk (hbox); have n5_ := Aside0.mk ((by rw [hg]; exact (below_size (by repeat (first | (with_reducible first | exact HB.out | apply below_alloc | apply pw_below_drewN | apply below_drew1) | exact HB.out))) : w.heap.size ≤ gb171)); have n6_ := Aside0.mk ((by rw [hg]; exact (below_size (by repeat (first | (with_reducible first | exact HB.out | apply below_alloc | apply pw_below_drewN | apply below_drew1) | exact HB.out))) : w.heap.size ≤ gb171)); clear HO_7; clear HO_15; clear HO_118; clear HB; have HO_7 := n0_; have HO_15 := n1_; have HO_118 := n2_; have HB := n3_; have BK171 := n4_; have GW171 := n5_; have GE171 := n6_; clear n0_ n1_ n2_ n3_ n4_ n5_ n6_; clear hb hbox hg; have hcz55_0 : w54.cell? ⟨gb171, 0, none⟩ = some (.string (⟨#[]⟩ : ByteArray)) := (blk_cell BK171.out 0).trans rfl; have hcz55_1 : w54.cell? ⟨gb171, 1, none⟩ = some (.string (⟨#[]⟩ : ByteArray)) := (blk_cell BK171.out 1).trans rfl; have hcz55_2 : w54.cell? ⟨gb171, 2, none⟩ = some (.int .i64 0) := (blk_cell BK171.out 2).trans rfl; have hfz55_0 := blk_frozen BK171.out 0; have hfz55_1 := blk_frozen BK171.out 1; have hfz55_2 := blk_frozen BK171.out 2))
                      (try simp only [Act.put, List.setIfInBounds_toArray, List.set_cons_zero, List.set_cons_succ])
                      go_cut [18] (fun v18 wc => ∃ (kq : Nat) (x18_52 : Int), v18 = .int .i64 x18_52 ∧ Aside0 (gridhalllaw3_LedgerSettles.j9 kq l0 t152 t153 x15_7 x18_52 0 t152 (t152.length : Int) x120_7 ((rd_T67 t152 x120_7).f0) ((rd_T67 t152 x120_7).f1) ((rd_T67 t152 x120_7).f2) = some r) ∧ Aside0 (kq ≤ k7) ∧ Aside0 (Kd.R k67 67 wc w.heap.size (fun k_ => k_ ≠ gb171) (.slice (some ad170) t152.length co49) t152) ∧ Aside0 (Kd.R (Kd.int .i64) 3 wc w.heap.size (fun _ => True) v168 x15_7) ∧ Aside0 (Kd.R k67 67 wc w.heap.size (fun k_ => k_ ≠ gb171) (.slice (some ad170) t152.length co49) t152) ∧ Aside0 (wc.heap[gb171]? = some (.cells #[.string ((rd_T67 t152 x120_7).f0), .string ((rd_T67 t152 x120_7).f1), .int .i64 ((rd_T67 t152 x120_7).f2)] 67 (0, 0))) ∧ Aside0 (Below w.heap.size w wc))
                      case first =>
                       have H := HC53.out
                       clear HC53
                       have H' := Aside0.mk H
                       clear H
                       go_wp2
                       go_loopg [18] k7 (fun kq v18 w' => ∃ (x18_8 : Int), v18 = .int .i64 x18_8 ∧ Aside0 (gridhalllaw3_LedgerSettles.l3 kq l0 t152 t153 x15_7 x18_8 0 t152 (t152.length : Int) x120_7 ((rd_T67 t152 x120_7).f0) ((rd_T67 t152 x120_7).f1) ((rd_T67 t152 x120_7).f2) = some r) ∧ Aside0 (kq ≤ k7) ∧ Aside0 (Kd.R k67 67 w' w.heap.size (fun k_ => k_ ≠ gb171) (.slice (some ad170) t152.length co49) t152) ∧ Aside0 (Kd.R (Kd.int .i64) 3 w' w.heap.size (fun _ => True) v168 x15_7) ∧ Aside0 (Kd.R k67 67 w' w.heap.size (fun k_ => k_ ≠ gb171) (.slice (some ad170) t152.length co49) t152) ∧ Aside0 (w'.heap[gb171]? = some (.cells #[.string ((rd_T67 t152 x120_7).f0), .string ((rd_T67 t152 x120_7).f1), .int .i64 ((rd_T67 t152 x120_7).f2)] 67 (0, 0))) ∧ Aside0 (Below w.heap.size w w'))
                       case atStart => exact ⟨(0), (by first | rfl | (simp; done) | (simp [*]; done)), H', ⟨Nat.le_refl _⟩, ⟨by (with_reducible repeat (first | apply Kd.R_alloc | apply Kd.R_drewN | apply Kd.R_drew)); exact Kd.R_mono (Kd.R_far (p := ⟨gb171, 2, none⟩) (Kd.R_far (p := ⟨gb171, 1, none⟩) (Kd.R_far (p := ⟨gb171, 0, none⟩) (Kd.R_mono HO_7.out (fun k_ hk => (⟨hk, hk.2⟩ : _ ∧ k_ ≠ gb171))) (fun _ hk => hk.2) (.string ((rd_T67 t152 x120_7).f0))) (fun _ hk => hk.2) (.string ((rd_T67 t152 x120_7).f1))) (fun _ hk => hk.2) (.int .i64 ((rd_T67 t152 x120_7).f2))) (fun _ hk => hk.1.2)⟩, ⟨by (with_reducible repeat (first | apply Kd.R_alloc | apply Kd.R_drewN | apply Kd.R_drew)); exact Kd.R_mono (Kd.R_far (p := ⟨gb171, 2, none⟩) (Kd.R_far (p := ⟨gb171, 1, none⟩) (Kd.R_far (p := ⟨gb171, 0, none⟩) (Kd.R_types HO_15.out BK171.out (by decide)) (fun _ hk => hk.2) (.string ((rd_T67 t152 x120_7).f0))) (fun _ hk => hk.2) (.string ((rd_T67 t152 x120_7).f1))) (fun _ hk => hk.2) (.int .i64 ((rd_T67 t152 x120_7).f2))) (fun _ hk => trivial)⟩, ⟨by (with_reducible repeat (first | apply Kd.R_alloc | apply Kd.R_drewN | apply Kd.R_drew)); exact Kd.R_mono (Kd.R_far (p := ⟨gb171, 2, none⟩) (Kd.R_far (p := ⟨gb171, 1, none⟩) (Kd.R_far (p := ⟨gb171, 0, none⟩) (Kd.R_mono HO_118.out (fun k_ hk => (⟨hk, hk.2⟩ : _ ∧ k_ ≠ gb171))) (fun _ hk => hk.2) (.string ((rd_T67 t152 x120_7).f0))) (fun _ hk => hk.2) (.string ((rd_T67 t152 x120_7).f1))) (fun _ hk => hk.2) (.int .i64 ((rd_T67 t152 x120_7).f2))) (fun _ hk => hk.1.2)⟩, ⟨by (with_reducible repeat (first | refine blk_drewN ?_ _ | refine blk_drew ?_ | refine blk_alloc ?_ _)); refine blk_put (cs := #[.string ((rd_T67 t152 x120_7).f0), .string ((rd_T67 t152 x120_7).f1), .int .i64 0]) ?_ 2 _ rfl; (with_reducible repeat (first | refine blk_drewN ?_ _ | refine blk_drew ?_ | refine blk_alloc ?_ _)); refine blk_put (cs := #[.string ((rd_T67 t152 x120_7).f0), .string (⟨#[]⟩ : ByteArray), .int .i64 0]) ?_ 1 _ rfl; (with_reducible repeat (first | refine blk_drewN ?_ _ | refine blk_drew ?_ | refine blk_alloc ?_ _)); refine blk_put (cs := #[.string (⟨#[]⟩ : ByteArray), .string (⟨#[]⟩ : ByteArray), .int .i64 0]) ?_ 0 _ rfl; (with_reducible repeat (first | refine blk_drewN ?_ _ | refine blk_drew ?_ | refine blk_alloc ?_ _)); exact BK171.out⟩, ⟨by repeat (first | (with_reducible first | exact HB.out | apply below_alloc | apply pw_below_drewN | apply below_drew1 | refine below_set ?_ GE171.out) | exact HB.out)⟩⟩
                       case round =>
                        clear H'
                        try clear c1
                        try clear p1
                        try clear q1
                        try clear hx1
                        try clear c2
                        try clear p2
                        try clear c3
                        try clear c4
                        try clear c5
                        try clear p6
                        try clear c8
                        try clear c12
                        try clear c12b0
                        try clear c12b1
                        try clear c14
                        try clear p15
                        try clear q15
                        try clear hx15
                        try clear p16
                        try clear q16
                        try clear hx16
                        try clear p17
                        try clear q17
                        try clear hx17
                        try clear c18
                        try clear c18b0
                        try clear c18b1
                        try clear c19
                        try clear c19b0
                        try clear c19b1
                        try clear c19b2
                        try clear c21
                        try clear c21b0
                        try clear c22
                        try clear c23
                        try clear c23b0
                        try clear c23b1
                        try clear c24
                        try clear c24b0
                        try clear c24b1
                        try clear c26
                        try clear c26b0
                        try clear c27
                        try clear c27b0
                        try clear c28
                        try clear c28b0
                        try clear c29
                        try clear c30
                        try clear c30b0
                        try clear c31
                        try clear c31b0
                        try clear c32
                        try clear c32b0
                        try clear c33
                        try clear c33b0
                        try clear c35
                        try clear c36
                        try clear c37
                        try clear c37b0
                        try clear c39
                        try clear c41
                        try clear c41b0
                        try clear c41b1
                        try clear c43
                        try clear c44
                        try clear c44b0
                        try clear c44b1
                        try clear c45
                        try clear c50
                        try clear c50b0
                        try clear c51
                        try clear c51b0
                        try clear c52
                        try clear c52b0
                        try clear hcz55_0
                        try clear hcz55_1
                        try clear hcz55_2
                        try clear hfz55_0
                        try clear hfz55_1
                        try clear hfz55_2
                        try clear hx157_0
                        try clear hx158_0
                        try clear hx159_0
                        try clear hx161_0
                        try clear hx163_0
                        try clear hx170_0
                        try clear hx170_1
                        try clear hx170_2
                        try clear p1
                        try clear p15
                        try clear p157
                        try clear p158
                        try clear p159
                        try clear p16
                        try clear p161
                        try clear p163
                        try clear p170
                        try clear p2
                        try clear p6
                        try clear q1
                        try clear q15
                        try clear q157
                        try clear q158
                        try clear q159
                        try clear q16
                        try clear q161
                        try clear q163
                        try clear q170
                        obtain ⟨x18_8, rfl, HA, HK8, HO_7, HO_15, HO_118, BK171, HB⟩ := hrel
                        cases gk with
                        | zero => exact absurd HA.out (by simp [gridhalllaw3_LedgerSettles.l3])
                        | succ k8 =>
                         have H := HA.out
                         clear HA
                         simp only [gridhalllaw3_LedgerSettles.l3] at H
                         by_cases c56 : x18_8 < (x15_7.length : Int)
                         ·rw [if_pos c56] at H
                          have c56b0 : decide (x18_8 < (x15_7.length : Int)) = true := decide_eq_true c56
                          clear c56
                          (first | rw [c56b0] | (simp only [i64_w, i32_w]; rw [c56b0]) | skip)
                          by_cases c57 : 0 ≤ x18_8
                          ·rw [if_pos c57] at H
                           have c57b0 : decide (0 ≤ x18_8) = true := decide_eq_true c57
                           clear c57
                           by_cases c58 : (rd x15_7 x18_8) ≥ 0
                           ·rw [if_pos c58] at H
                            have c58b0 : decide (0 ≤ (rd x15_7 x18_8)) = true := decide_eq_true c58
                            clear c58
                            as_aux_lemma =>
                             have H' := Aside0.mk H
                             clear H
                             obtain ⟨Ao59, co59, eo59⟩ := Kd.R_slice HO_15.out
                             subst eo59
                             have p172 : 0 ≤ (x18_8 : Int) := of_decide_eq_true (by first | (with_reducible assumption) | assumption)
                             have q172 : x18_8 < (x15_7.length : Int) := of_decide_eq_true (by first | (with_reducible assumption) | assumption)
                             obtain ⟨ad172, e172, hx172_0⟩ := Kd.at_int (Kd.R_reads' HO_15.out).2.2 x18_8 p172 q172
                             cases e172
                             replace p172 := eq_true p172
                             replace q172 := eq_true q172
                             go_wp2
                             go_roundg k8
                             case measure => have := HJ3.out; have := HJ15.out; have := HK3.out; have := HJ19.out; have := HJ39.out; have := HJ41.out; have := HK7.out; have := HK8.out; omega
                             case rel => exact ⟨(wrap64 (x18_8 + 1)), (by first | rfl | (simp; done) | (simp [*]; done)), H', ⟨by have := HJ3.out; have := HJ15.out; have := HK3.out; have := HJ19.out; have := HJ39.out; have := HJ41.out; have := HK7.out; have := HK8.out; omega⟩, ⟨by (with_reducible repeat (first | apply Kd.R_alloc | apply Kd.R_drewN | apply Kd.R_drew)); exact HO_7.out⟩, ⟨by (with_reducible repeat (first | apply Kd.R_alloc | apply Kd.R_drewN | apply Kd.R_drew)); exact HO_15.out⟩, ⟨by (with_reducible repeat (first | apply Kd.R_alloc | apply Kd.R_drewN | apply Kd.R_drew)); exact HO_118.out⟩, ⟨by (with_reducible repeat (first | refine blk_drewN ?_ _ | refine blk_drew ?_ | refine blk_alloc ?_ _)); exact BK171.out⟩, ⟨by repeat (first | (with_reducible first | exact HB.out | apply below_alloc | apply pw_below_drewN | apply below_drew1 | refine below_set ?_ GE171.out) | exact HB.out)⟩⟩
                           ·rw [if_neg c58] at H
                            have c58b0 : decide (0 ≤ (rd x15_7 x18_8)) = false := decide_eq_false c58
                            clear c58
                            as_aux_lemma =>
                             have H' := Aside0.mk H
                             clear H
                             obtain ⟨Ao60, co60, eo60⟩ := Kd.R_slice HO_15.out
                             subst eo60
                             have p172 : 0 ≤ (x18_8 : Int) := of_decide_eq_true (by first | (with_reducible assumption) | assumption)
                             have q172 : x18_8 < (x15_7.length : Int) := of_decide_eq_true (by first | (with_reducible assumption) | assumption)
                             obtain ⟨ad172, e172, hx172_0⟩ := Kd.at_int (Kd.R_reads' HO_15.out).2.2 x18_8 p172 q172
                             cases e172
                             replace p172 := eq_true p172
                             replace q172 := eq_true q172
                             go_wp2
                             go_meet
                             case rel => exact ⟨_, (x18_8), (by first | rfl | (simp; done) | (simp [*]; done)), H', ⟨by have := HJ3.out; have := HJ15.out; have := HK3.out; have := HJ19.out; have := HJ39.out; have := HJ41.out; have := HK7.out; have := HK8.out; first | omega | exact Nat.le_refl _⟩, ⟨by (with_reducible repeat (first | apply Kd.R_alloc | apply Kd.R_drewN | apply Kd.R_drew)); exact HO_7.out⟩, ⟨by (with_reducible repeat (first | apply Kd.R_alloc | apply Kd.R_drewN | apply Kd.R_drew)); exact HO_15.out⟩, ⟨by (with_reducible repeat (first | apply Kd.R_alloc | apply Kd.R_drewN | apply Kd.R_drew)); exact HO_118.out⟩, ⟨by (with_reducible repeat (first | refine blk_drewN ?_ _ | refine blk_drew ?_ | refine blk_alloc ?_ _)); exact BK171.out⟩, ⟨by repeat (first | (with_reducible first | exact HB.out | apply below_alloc | apply pw_below_drewN | apply below_drew1 | refine below_set ?_ GE171.out) | exact HB.out)⟩⟩
                          ·rw [if_neg c57] at H
                           exact absurd H (by simp)
                         ·rw [if_neg c56] at H
                          have c56b0 : decide (x18_8 < (x15_7.length : Int)) = false := decide_eq_false c56
                          clear c56
                          (first | rw [c56b0] | (simp only [i64_w, i32_w]; rw [c56b0]) | skip)
                          as_aux_lemma =>
                           have H' := Aside0.mk H
                           clear H
                           obtain ⟨Ao61, co61, eo61⟩ := Kd.R_slice HO_15.out
                           subst eo61
                           go_wp2
                           go_meet
                           case rel => exact ⟨_, (x18_8), (by first | rfl | (simp; done) | (simp [*]; done)), H', ⟨by have := HJ3.out; have := HJ15.out; have := HK3.out; have := HJ19.out; have := HJ39.out; have := HJ41.out; have := HK7.out; have := HK8.out; first | omega | exact Nat.le_refl _⟩, ⟨by (with_reducible repeat (first | apply Kd.R_alloc | apply Kd.R_drewN | apply Kd.R_drew)); exact HO_7.out⟩, ⟨by (with_reducible repeat (first | apply Kd.R_alloc | apply Kd.R_drewN | apply Kd.R_drew)); exact HO_15.out⟩, ⟨by (with_reducible repeat (first | apply Kd.R_alloc | apply Kd.R_drewN | apply Kd.R_drew)); exact HO_118.out⟩, ⟨by (with_reducible repeat (first | refine blk_drewN ?_ _ | refine blk_drew ?_ | refine blk_alloc ?_ _)); exact BK171.out⟩, ⟨by repeat (first | (with_reducible first | exact HB.out | apply below_alloc | apply pw_below_drewN | apply below_drew1 | refine below_set ?_ GE171.out) | exact HB.out)⟩⟩
                      case rest =>
                       clear HC53
                       try clear c1
                       try clear p1
                       try clear q1
                       try clear hx1
                       try clear c2
                       try clear p2
                       try clear c3
                       try clear c4
                       try clear c5
                       try clear p6
                       try clear c8
                       try clear c12
                       try clear c12b0
                       try clear c12b1
                       try clear c14
                       try clear p15
                       try clear q15
                       try clear hx15
                       try clear p16
                       try clear q16
                       try clear hx16
                       try clear p17
                       try clear q17
                       try clear hx17
                       try clear c18
                       try clear c18b0
                       try clear c18b1
                       try clear c19
                       try clear c19b0
                       try clear c19b1
                       try clear c19b2
                       try clear c21
                       try clear c21b0
                       try clear c22
                       try clear c23
                       try clear c23b0
                       try clear c23b1
                       try clear c24
                       try clear c24b0
                       try clear c24b1
                       try clear c26
                       try clear c26b0
                       try clear c27
                       try clear c27b0
                       try clear c28
                       try clear c28b0
                       try clear c29
                       try clear c30
                       try clear c30b0
                       try clear c31
                       try clear c31b0
                       try clear c32
                       try clear c32b0
                       try clear c33
                       try clear c33b0
                       try clear c35
                       try clear c36
                       try clear c37
                       try clear c37b0
                       try clear c39
                       try clear c41
                       try clear c41b0
                       try clear c41b1
                       try clear c43
                       try clear c44
                       try clear c44b0
                       try clear c44b1
                       try clear c45
                       try clear c50
                       try clear c50b0
                       try clear c51
                       try clear c51b0
                       try clear c52
                       try clear c52b0
                       try clear c56
                       try clear c56b0
                       try clear c57
                       try clear c57b0
                       try clear c58
                       try clear c58b0
                       try clear hcz55_0
                       try clear hcz55_1
                       try clear hcz55_2
                       try clear hfz55_0
                       try clear hfz55_1
                       try clear hfz55_2
                       try clear hx157_0
                       try clear hx158_0
                       try clear hx159_0
                       try clear hx161_0
                       try clear hx163_0
                       try clear hx170_0
                       try clear hx170_1
                       try clear hx170_2
                       try clear hx172_0
                       try clear p1
                       try clear p15
                       try clear p157
                       try clear p158
                       try clear p159
                       try clear p16
                       try clear p161
                       try clear p163
                       try clear p17
                       try clear p170
                       try clear p172
                       try clear p2
                       try clear p6
                       try clear q1
                       try clear q15
                       try clear q157
                       try clear q158
                       try clear q159
                       try clear q16
                       try clear q161
                       try clear q163
                       try clear q17
                       try clear q170
                       try clear q172
                       obtain ⟨kq, x18_52, rfl, HA, HJ52, HO_7, HO_15, HO_118, BK171, HB⟩ := hcut
                       cases kq with
                       | zero => exact absurd HA.out (by simp [gridhalllaw3_LedgerSettles.j9])
                       | succ kj52 =>
                        have H := HA.out
                        clear HA
                        simp only [gridhalllaw3_LedgerSettles.j9] at H
                        have H' := Aside0.mk H
                        clear H
                        go_wp2
                        go_loopg [19] kj52 (fun kq v19 w' => ∃ (x19_9 : Int), v19 = .int .i64 x19_9 ∧ Aside0 (gridhalllaw3_LedgerSettles.l4 kq l0 t152 t153 x15_7 x18_52 x19_9 t152 (t152.length : Int) x120_7 ((rd_T67 t152 x120_7).f0) ((rd_T67 t152 x120_7).f1) ((rd_T67 t152 x120_7).f2) = some r) ∧ Aside0 (kq ≤ kj52) ∧ Aside0 (Kd.R k67 67 w' w.heap.size (fun k_ => k_ ≠ gb171) (.slice (some ad170) t152.length co49) t152) ∧ Aside0 (Kd.R (Kd.int .i64) 3 w' w.heap.size (fun _ => True) v168 x15_7) ∧ Aside0 (Kd.R k67 67 w' w.heap.size (fun k_ => k_ ≠ gb171) (.slice (some ad170) t152.length co49) t152) ∧ Aside0 (w'.heap[gb171]? = some (.cells #[.string ((rd_T67 t152 x120_7).f0), .string ((rd_T67 t152 x120_7).f1), .int .i64 ((rd_T67 t152 x120_7).f2)] 67 (0, 0))) ∧ Aside0 (Below w.heap.size w w'))
                        case atStart => exact ⟨(0), (by first | rfl | (simp; done) | (simp [*]; done)), H', ⟨Nat.le_refl _⟩, ⟨by (with_reducible repeat (first | apply Kd.R_alloc | apply Kd.R_drewN | apply Kd.R_drew)); exact HO_7.out⟩, ⟨by (with_reducible repeat (first | apply Kd.R_alloc | apply Kd.R_drewN | apply Kd.R_drew)); exact HO_15.out⟩, ⟨by (with_reducible repeat (first | apply Kd.R_alloc | apply Kd.R_drewN | apply Kd.R_drew)); exact HO_118.out⟩, ⟨by (with_reducible repeat (first | refine blk_drewN ?_ _ | refine blk_drew ?_ | refine blk_alloc ?_ _)); exact BK171.out⟩, ⟨by repeat (first | (with_reducible first | exact HB.out | apply below_alloc | apply pw_below_drewN | apply below_drew1 | refine below_set ?_ GE171.out) | exact HB.out)⟩⟩
                        case round =>
                         clear H'
                         try clear c1
                         try clear p1
                         try clear q1
                         try clear hx1
                         try clear c2
                         try clear p2
                         try clear c3
                         try clear c4
                         try clear c5
                         try clear p6
                         try clear c8
                         try clear c12
                         try clear c12b0
                         try clear c12b1
                         try clear c14
                         try clear p15
                         try clear q15
                         try clear hx15
                         try clear p16
                         try clear q16
                         try clear hx16
                         try clear p17
                         try clear q17
                         try clear hx17
                         try clear c18
                         try clear c18b0
                         try clear c18b1
                         try clear c19
                         try clear c19b0
                         try clear c19b1
                         try clear c19b2
                         try clear c21
                         try clear c21b0
                         try clear c22
                         try clear c23
                         try clear c23b0
                         try clear c23b1
                         try clear c24
                         try clear c24b0
                         try clear c24b1
                         try clear c26
                         try clear c26b0
                         try clear c27
                         try clear c27b0
                         try clear c28
                         try clear c28b0
                         try clear c29
                         try clear c30
                         try clear c30b0
                         try clear c31
                         try clear c31b0
                         try clear c32
                         try clear c32b0
                         try clear c33
                         try clear c33b0
                         try clear c35
                         try clear c36
                         try clear c37
                         try clear c37b0
                         try clear c39
                         try clear c41
                         try clear c41b0
                         try clear c41b1
                         try clear c43
                         try clear c44
                         try clear c44b0
                         try clear c44b1
                         try clear c45
                         try clear c50
                         try clear c50b0
                         try clear c51
                         try clear c51b0
                         try clear c52
                         try clear c52b0
                         try clear c56
                         try clear c56b0
                         try clear c57
                         try clear c57b0
                         try clear c58
                         try clear c58b0
                         try clear hcz55_0
                         try clear hcz55_1
                         try clear hcz55_2
                         try clear hfz55_0
                         try clear hfz55_1
                         try clear hfz55_2
                         try clear hx157_0
                         try clear hx158_0
                         try clear hx159_0
                         try clear hx161_0
                         try clear hx163_0
                         try clear hx170_0
                         try clear hx170_1
                         try clear hx170_2
                         try clear hx172_0
                         try clear p1
                         try clear p15
                         try clear p157
                         try clear p158
                         try clear p159
                         try clear p16
                         try clear p161
                         try clear p163
                         try clear p17
                         try clear p170
                         try clear p172
                         try clear p2
                         try clear p6
                         try clear q1
                         try clear q15
                         try clear q157
                         try clear q158
                         try clear q159
                         try clear q16
                         try clear q161
                         try clear q163
                         try clear q17
                         try clear q170
                         try clear q172
                         obtain ⟨x19_9, rfl, HA, HK9, HO_7, HO_15, HO_118, BK171, HB⟩ := hrel
                         cases gk with
                         | zero => exact absurd HA.out (by simp [gridhalllaw3_LedgerSettles.l4])
                         | succ k9 =>
                          have H := HA.out
                          clear HA
                          simp only [gridhalllaw3_LedgerSettles.l4] at H
                          by_cases c62 : x19_9 < (x15_7.length : Int)
                          ·rw [if_pos c62] at H
                           have c62b0 : decide (x19_9 < (x15_7.length : Int)) = true := decide_eq_true c62
                           clear c62
                           by_cases c63 : 0 ≤ x19_9
                           ·rw [if_pos c63] at H
                            have c63b0 : decide (0 ≤ x19_9) = true := decide_eq_true c63
                            clear c63
                            by_cases c64 : (rd x15_7 x19_9) ≤ 0
                            ·rw [if_pos c64] at H
                             have c64b0 : decide ((rd x15_7 x19_9) ≤ 0) = true := decide_eq_true c64
                             clear c64
                             as_aux_lemma =>
                              have H' := Aside0.mk H
                              clear H
                              obtain ⟨Ao65, co65, eo65⟩ := Kd.R_slice HO_15.out
                              subst eo65
                              have p173 : 0 ≤ (x19_9 : Int) := of_decide_eq_true (by first | (with_reducible assumption) | assumption)
                              have q173 : x19_9 < (x15_7.length : Int) := of_decide_eq_true (by first | (with_reducible assumption) | assumption)
                              obtain ⟨ad173, e173, hx173_0⟩ := Kd.at_int (Kd.R_reads' HO_15.out).2.2 x19_9 p173 q173
                              cases e173
                              replace p173 := eq_true p173
                              replace q173 := eq_true q173
                              go_wp2
                              go_roundg k9
                              case measure => have := HJ3.out; have := HJ15.out; have := HK3.out; have := HJ19.out; have := HJ39.out; have := HJ41.out; have := HK7.out; have := HJ52.out; have := HK9.out; omega
                              case rel => exact ⟨(wrap64 (x19_9 + 1)), (by first | rfl | (simp; done) | (simp [*]; done)), H', ⟨by have := HJ3.out; have := HJ15.out; have := HK3.out; have := HJ19.out; have := HJ39.out; have := HJ41.out; have := HK7.out; have := HJ52.out; have := HK9.out; omega⟩, ⟨by (with_reducible repeat (first | apply Kd.R_alloc | apply Kd.R_drewN | apply Kd.R_drew)); exact HO_7.out⟩, ⟨by (with_reducible repeat (first | apply Kd.R_alloc | apply Kd.R_drewN | apply Kd.R_drew)); exact HO_15.out⟩, ⟨by (with_reducible repeat (first | apply Kd.R_alloc | apply Kd.R_drewN | apply Kd.R_drew)); exact HO_118.out⟩, ⟨by (with_reducible repeat (first | refine blk_drewN ?_ _ | refine blk_drew ?_ | refine blk_alloc ?_ _)); exact BK171.out⟩, ⟨by repeat (first | (with_reducible first | exact HB.out | apply below_alloc | apply pw_below_drewN | apply below_drew1 | refine below_set ?_ GE171.out) | exact HB.out)⟩⟩
                            ·rw [if_neg c64] at H
                             have c64b0 : decide ((rd x15_7 x19_9) ≤ 0) = false := decide_eq_false c64
                             clear c64
                             by_cases c66 : x18_52 = (x15_7.length : Int)
                             ·rw [if_pos c66] at H
                              have c66b0 : (x18_52 == (x15_7.length : Int)) = true := beq_iff_eq.mpr c66
                              have c66b1 : (x18_52 != (x15_7.length : Int)) = false := bne_eq_false_iff_eq.mpr c66
                              clear c66
                              as_aux_lemma =>
                               obtain rfl := Option.some.inj H
                               obtain ⟨Ao67, co67, eo67⟩ := Kd.R_slice HO_15.out
                               subst eo67
                               have p173 : 0 ≤ (x19_9 : Int) := of_decide_eq_true (by first | (with_reducible assumption) | assumption)
                               have q173 : x19_9 < (x15_7.length : Int) := of_decide_eq_true (by first | (with_reducible assumption) | assumption)
                               obtain ⟨ad173, e173, hx173_0⟩ := Kd.at_int (Kd.R_reads' HO_15.out).2.2 x19_9 p173 q173
                               cases e173
                               replace p173 := eq_true p173
                               replace q173 := eq_true q173
                               try go_wp2
                               have n0_ := Aside0.mk (Kd.R_drew HO_7.out)
                               have n1_ := Aside0.mk (Kd.R_drew HO_15.out)
                               have n2_ := Aside0.mk (Kd.R_drew HO_118.out)
                               have n3_ := Aside0.mk (blk_drew BK171.out)
                               have n4_ := Aside0.mk (below_drew1 HB.out)
                               clear HO_7
                               clear HO_15
                               clear HO_118
                               clear BK171
                               clear HB
                               have HO_7 := n0_
                               have HO_15 := n1_
                               have HO_118 := n2_
                               have BK171 := n3_
                               have HB := n4_
                               clear n0_ n1_ n2_ n3_ n4_
                               refine start_ (n := 33) (S := fun w' => True) (ds := []) mask_0 (by kernel_rfl) rfl rfl trivial (fun hHeld => ?_); refine with_tabW gridhalllaw3_LedgerSettles.tab40 gridhalllaw3_LedgerSettles.bits40 (fun HT_ HW_ => ?_)
                               generalize wr.drew = w68 at HO_7 HO_15 HO_118 BK171 HB hHeld ⊢
                               refine pure_ (i := 0) (N := some 150) (v := ?_) (a' := ?_) mask_1 rfl rfl (any_of HT_.out (by kernel_rfl)) (fun _ _ _ h => h) (Or.inl ⟨by rfl, ?_⟩) ?_ ?_
                               rotate_left
                               ·intro w'
                                go_simp
                                with_reducible rfl
                               rotate_left
                               ·simp only [Act.put, List.setIfInBounds_toArray, List.set_cons_zero, List.set_cons_succ, i64_w, i32_w]
                                rfl
                               refine pure_ (i := 1) (N := some 151) (v := ?_) (a' := ?_) mask_2 rfl rfl (any_of HT_.out (by kernel_rfl)) (fun _ _ _ h => h) (Or.inl ⟨by rfl, ?_⟩) ?_ ?_
                               rotate_left
                               ·intro w'
                                go_simp
                                with_reducible rfl
                               rotate_left
                               ·simp only [Act.put, List.setIfInBounds_toArray, List.set_cons_zero, List.set_cons_succ, i64_w, i32_w]
                                rfl
                               refine pure_ (i := 2) (N := some 152) (v := ?_) (a' := ?_) mask_3 rfl rfl (any_of HT_.out (by kernel_rfl)) (fun _ _ _ h => h) (Or.inl ⟨by rfl, ?_⟩) ?_ ?_
                               rotate_left
                               ·intro w'
                                go_simp
                                with_reducible rfl
                               rotate_left
                               ·simp only [Act.put, List.setIfInBounds_toArray, List.set_cons_zero, List.set_cons_succ, i64_w, i32_w]
                                rfl
                               refine pure_ (i := 3) (N := some 153) (v := ?_) (a' := ?_) mask_4 rfl rfl (any_of HT_.out (by kernel_rfl)) (fun _ _ _ h => h) (Or.inl ⟨by rfl, ?_⟩) ?_ ?_
                               rotate_left
                               ·intro w'
                                go_simp
                                with_reducible rfl
                               rotate_left
                               ·simp only [Act.put, List.setIfInBounds_toArray, List.set_cons_zero, List.set_cons_succ, i64_w, i32_w]
                                rfl
                               refine pure_ (i := 4) (N := some 154) (v := ?_) (a' := ?_) mask_5 rfl rfl (any_of HT_.out (by kernel_rfl)) (fun _ _ _ h => h) (Or.inl ⟨by rfl, ?_⟩) ?_ ?_
                               rotate_left
                               ·intro w'
                                go_simp
                                with_reducible rfl
                               rotate_left
                               ·simp only [Act.put, List.setIfInBounds_toArray, List.set_cons_zero, List.set_cons_succ, i64_w, i32_w]
                                rfl
                               refine pure_ (i := 5) (N := some 155) (v := undef) (a' := ?_) mask_6 rfl rfl (any_of HT_.out (by kernel_rfl)) (fun _ _ _ h => h) (Or.inr ⟨by rfl, rfl⟩) ?_ ?_
                               rotate_left
                               ·simp only [Act.put, List.setIfInBounds_toArray, List.set_cons_zero, List.set_cons_succ, i64_w, i32_w]
                                rfl
                               refine pure_ (i := 6) (N := some 156) (v := undef) (a' := ?_) mask_7 rfl rfl (any_of HT_.out (by kernel_rfl)) (fun _ _ _ h => h) (Or.inr ⟨by rfl, rfl⟩) ?_ ?_
                               rotate_left
                               ·simp only [Act.put, List.setIfInBounds_toArray, List.set_cons_zero, List.set_cons_succ, i64_w, i32_w]
                                rfl
                               refine pure_ (i := 7) (N := some 157) (v := undef) (a' := ?_) mask_8 rfl rfl (any_of HT_.out (by kernel_rfl)) (fun _ _ _ h => h) (Or.inr ⟨by rfl, rfl⟩) ?_ ?_
                               rotate_left
                               ·simp only [Act.put, List.setIfInBounds_toArray, List.set_cons_zero, List.set_cons_succ, i64_w, i32_w]
                                rfl
                               refine pure_ (i := 8) (N := some 158) (v := undef) (a' := ?_) mask_9 rfl rfl (any_of HT_.out (by kernel_rfl)) (fun _ _ _ h => h) (Or.inr ⟨by rfl, rfl⟩) ?_ ?_
                               rotate_left
                               ·simp only [Act.put, List.setIfInBounds_toArray, List.set_cons_zero, List.set_cons_succ, i64_w, i32_w]
                                rfl
                               refine pure_ (i := 9) (N := some 159) (v := ?_) (a' := ?_) mask_10 rfl rfl (any_of HT_.out (by kernel_rfl)) (fun _ _ _ h => h) (Or.inl ⟨by rfl, ?_⟩) ?_ ?_
                               rotate_left
                               ·intro w'
                                go_simp
                                with_reducible rfl
                               rotate_left
                               ·simp only [Act.put, List.setIfInBounds_toArray, List.set_cons_zero, List.set_cons_succ, i64_w, i32_w]
                                rfl
                               refine pure_ (i := 10) (N := some 160) (v := ?_) (a' := ?_) mask_11 rfl rfl (any_of HT_.out (by kernel_rfl)) (fun _ _ _ h => h) (Or.inl ⟨by rfl, ?_⟩) ?_ ?_
                               rotate_left
                               ·intro w'
                                go_simp
                                with_reducible rfl
                               rotate_left
                               ·simp only [Act.put, List.setIfInBounds_toArray, List.set_cons_zero, List.set_cons_succ, i64_w, i32_w]
                                rfl
                               refine pure_ (i := 11) (N := some 161) (v := undef) (a' := ?_) mask_12 rfl rfl (any_of HT_.out (by kernel_rfl)) (fun _ _ _ h => h) (Or.inr ⟨by rfl, rfl⟩) ?_ ?_
                               rotate_left
                               ·simp only [Act.put, List.setIfInBounds_toArray, List.set_cons_zero, List.set_cons_succ, i64_w, i32_w]
                                rfl
                               refine pure_ (i := 12) (N := some 162) (v := undef) (a' := ?_) mask_13 rfl rfl (any_of HT_.out (by kernel_rfl)) (fun _ _ _ h => h) (Or.inr ⟨by rfl, rfl⟩) ?_ ?_
                               rotate_left
                               ·simp only [Act.put, List.setIfInBounds_toArray, List.set_cons_zero, List.set_cons_succ, i64_w, i32_w]
                                rfl
                               refine pure_ (i := 13) (N := some 163) (v := undef) (a' := ?_) mask_14 rfl rfl (any_of HT_.out (by kernel_rfl)) (fun _ _ _ h => h) (Or.inr ⟨by rfl, rfl⟩) ?_ ?_
                               rotate_left
                               ·simp only [Act.put, List.setIfInBounds_toArray, List.set_cons_zero, List.set_cons_succ, i64_w, i32_w]
                                rfl
                               refine pure_ (i := 14) (N := some 164) (v := undef) (a' := ?_) mask_15 rfl rfl (any_of HT_.out (by kernel_rfl)) (fun _ _ _ h => h) (Or.inr ⟨by rfl, rfl⟩) ?_ ?_
                               rotate_left
                               ·simp only [Act.put, List.setIfInBounds_toArray, List.set_cons_zero, List.set_cons_succ, i64_w, i32_w]
                                rfl
                               refine pure_ (i := 15) (N := some 165) (v := undef) (a' := ?_) mask_16 rfl rfl (any_of HT_.out (by kernel_rfl)) (fun _ _ _ h => h) (Or.inr ⟨by rfl, rfl⟩) ?_ ?_
                               rotate_left
                               ·simp only [Act.put, List.setIfInBounds_toArray, List.set_cons_zero, List.set_cons_succ, i64_w, i32_w]
                                rfl
                               refine pure_ (i := 16) (N := some 166) (v := undef) (a' := ?_) mask_17 rfl rfl (any_of HT_.out (by kernel_rfl)) (fun _ _ _ h => h) (Or.inr ⟨by rfl, rfl⟩) ?_ ?_
                               rotate_left
                               ·simp only [Act.put, List.setIfInBounds_toArray, List.set_cons_zero, List.set_cons_succ, i64_w, i32_w]
                                rfl
                               refine pure_ (i := 17) (N := some 167) (v := undef) (a' := ?_) mask_18 rfl rfl (any_of HT_.out (by kernel_rfl)) (fun _ _ _ h => h) (Or.inr ⟨by rfl, rfl⟩) ?_ ?_
                               rotate_left
                               ·simp only [Act.put, List.setIfInBounds_toArray, List.set_cons_zero, List.set_cons_succ, i64_w, i32_w]
                                rfl
                               refine pure_ (i := 18) (N := some 168) (v := undef) (a' := ?_) mask_19 rfl rfl (any_of HT_.out (by kernel_rfl)) (fun _ _ _ h => h) (Or.inr ⟨by rfl, rfl⟩) ?_ ?_
                               rotate_left
                               ·simp only [Act.put, List.setIfInBounds_toArray, List.set_cons_zero, List.set_cons_succ, i64_w, i32_w]
                                rfl
                               refine pure_ (i := 19) (N := some 169) (v := undef) (a' := ?_) mask_20 rfl rfl (any_of HT_.out (by kernel_rfl)) (fun _ _ _ h => h) (Or.inr ⟨by rfl, rfl⟩) ?_ ?_
                               rotate_left
                               ·simp only [Act.put, List.setIfInBounds_toArray, List.set_cons_zero, List.set_cons_succ, i64_w, i32_w]
                                rfl
                               refine pure_ (i := 20) (N := some 170) (v := undef) (a' := ?_) mask_21 rfl rfl (any_of HT_.out (by kernel_rfl)) (fun _ _ _ h => h) (Or.inr ⟨by rfl, rfl⟩) ?_ ?_
                               rotate_left
                               ·simp only [Act.put, List.setIfInBounds_toArray, List.set_cons_zero, List.set_cons_succ, i64_w, i32_w]
                                rfl
                               refine pure_ (i := 21) (N := some 171) (v := undef) (a' := ?_) mask_22 rfl rfl (any_of HT_.out (by kernel_rfl)) (fun _ _ _ h => h) (Or.inr ⟨by rfl, rfl⟩) ?_ ?_
                               rotate_left
                               ·simp only [Act.put, List.setIfInBounds_toArray, List.set_cons_zero, List.set_cons_succ, i64_w, i32_w]
                                rfl
                               refine pure_ (i := 22) (N := some 172) (v := undef) (a' := ?_) mask_23 rfl rfl (any_of HT_.out (by kernel_rfl)) (fun _ _ _ h => h) (Or.inr ⟨by rfl, rfl⟩) ?_ ?_
                               rotate_left
                               ·simp only [Act.put, List.setIfInBounds_toArray, List.set_cons_zero, List.set_cons_succ, i64_w, i32_w]
                                rfl
                               refine pure_ (i := 23) (N := some 173) (v := undef) (a' := ?_) mask_24 rfl rfl (any_of HT_.out (by kernel_rfl)) (fun _ _ _ h => h) (Or.inr ⟨by rfl, rfl⟩) ?_ ?_
                               rotate_left
                               ·simp only [Act.put, List.setIfInBounds_toArray, List.set_cons_zero, List.set_cons_succ, i64_w, i32_w]
                                rfl
                               refine pure_ (i := 24) (N := some 174) (v := undef) (a' := ?_) mask_25 rfl rfl (any_of HT_.out (by kernel_rfl)) (fun _ _ _ h => h) (Or.inr ⟨by rfl, rfl⟩) ?_ ?_
                               rotate_left
                               ·simp only [Act.put, List.setIfInBounds_toArray, List.set_cons_zero, List.set_cons_succ, i64_w, i32_w]
                                rfl
                               refine pure_ (i := 25) (N := some 175) (v := undef) (a' := ?_) mask_26 rfl rfl (any_of HT_.out (by kernel_rfl)) (fun _ _ _ h => h) (Or.inr ⟨by rfl, rfl⟩) ?_ ?_
                               rotate_left
                               ·simp only [Act.put, List.setIfInBounds_toArray, List.set_cons_zero, List.set_cons_succ, i64_w, i32_w]
                                rfl
                               refine pure_ (i := 26) (N := some 176) (v := undef) (a' := ?_) mask_27 rfl rfl (any_of HT_.out (by kernel_rfl)) (fun _ _ _ h => h) (Or.inr ⟨by rfl, rfl⟩) ?_ ?_
                               rotate_left
                               ·simp only [Act.put, List.setIfInBounds_toArray, List.set_cons_zero, List.set_cons_succ, i64_w, i32_w]
                                rfl
                               refine pure_ (i := 27) (N := some 177) (v := undef) (a' := ?_) mask_28 rfl rfl (any_of HT_.out (by kernel_rfl)) (fun _ _ _ h => h) (Or.inr ⟨by rfl, rfl⟩) ?_ ?_
                               rotate_left
                               ·simp only [Act.put, List.setIfInBounds_toArray, List.set_cons_zero, List.set_cons_succ, i64_w, i32_w]
                                rfl
                               refine pure_ (i := 28) (N := some 178) (v := undef) (a' := ?_) mask_29 rfl rfl (any_of HT_.out (by kernel_rfl)) (fun _ _ _ h => h) (Or.inr ⟨by rfl, rfl⟩) ?_ ?_
                               rotate_left
                               ·simp only [Act.put, List.setIfInBounds_toArray, List.set_cons_zero, List.set_cons_succ, i64_w, i32_w]
                                rfl
                               refine pure_ (i := 29) (N := some 179) (v := undef) (a' := ?_) mask_30 rfl rfl (any_of HT_.out (by kernel_rfl)) (fun _ _ _ h => h) (Or.inr ⟨by rfl, rfl⟩) ?_ ?_
                               rotate_left
                               ·simp only [Act.put, List.setIfInBounds_toArray, List.set_cons_zero, List.set_cons_succ, i64_w, i32_w]
                                rfl
                               refine pure_ (i := 30) (N := some 180) (v := undef) (a' := ?_) mask_31 rfl rfl (any_of HT_.out (by kernel_rfl)) (fun _ _ _ h => h) (Or.inr ⟨by rfl, rfl⟩) ?_ ?_
                               rotate_left
                               ·simp only [Act.put, List.setIfInBounds_toArray, List.set_cons_zero, List.set_cons_succ, i64_w, i32_w]
                                rfl
                               refine pure_ (i := 31) (N := some 181) (v := undef) (a' := ?_) mask_32 rfl rfl (any_of HT_.out (by kernel_rfl)) (fun _ _ _ h => h) (Or.inr ⟨by rfl, rfl⟩) ?_ ?_
                               rotate_left
                               ·simp only [Act.put, List.setIfInBounds_toArray, List.set_cons_zero, List.set_cons_succ, i64_w, i32_w]
                                rfl
                               refine pure_ (i := 32) (N := some 182) (v := ?_) (a' := ?_) mask_33 rfl rfl (any_of HT_.out (by kernel_rfl)) (fun _ _ _ h => h) (Or.inl ⟨by rfl, ?_⟩) ?_ ?_
                               rotate_left
                               ·intro w'
                                go_simp
                                with_reducible rfl
                               rotate_left
                               ·simp only [Act.put, List.setIfInBounds_toArray, List.set_cons_zero, List.set_cons_succ, i64_w, i32_w]
                                rfl
                               refine done_ (done_of HT_.out (by kernel_rfl)) ?_
                               try go_wp2
                               go_ret
                               exact ⟨by first | rfl | (simp [errW_none, errW_some] <;> rfl) | (simp [*, errW_none, errW_some] <;> rfl), by repeat (first | (with_reducible first | exact HB.out | apply below_alloc | apply pw_below_drewN | apply below_drew1 | refine below_set ?_ GE171.out) | exact HB.out)⟩
                             ·rw [if_neg c66] at H
                              have c66b0 : (x18_52 == (x15_7.length : Int)) = false := beq_eq_false_iff_ne.mpr c66
                              have c66b1 : (x18_52 != (x15_7.length : Int)) = true := bne_iff_ne.mpr c66
                              by_cases c69 : x19_9 = (x15_7.length : Int)
                              ·rw [if_pos c69] at H
                               have c69b0 : (x19_9 == (x15_7.length : Int)) = true := beq_iff_eq.mpr c69
                               have c69b1 : (x19_9 != (x15_7.length : Int)) = false := bne_eq_false_iff_eq.mpr c69
                               clear c69
                               as_aux_lemma =>
                                obtain rfl := Option.some.inj H
                                obtain ⟨Ao70, co70, eo70⟩ := Kd.R_slice HO_15.out
                                subst eo70
                                have p173 : 0 ≤ (x19_9 : Int) := of_decide_eq_true (by first | (with_reducible assumption) | assumption)
                                have q173 : x19_9 < (x15_7.length : Int) := of_decide_eq_true (by first | (with_reducible assumption) | assumption)
                                obtain ⟨ad173, e173, hx173_0⟩ := Kd.at_int (Kd.R_reads' HO_15.out).2.2 x19_9 p173 q173
                                cases e173
                                replace p173 := eq_true p173
                                replace q173 := eq_true q173
                                try go_wp2
                                have n0_ := Aside0.mk (Kd.R_drew HO_7.out)
                                have n1_ := Aside0.mk (Kd.R_drew HO_15.out)
                                have n2_ := Aside0.mk (Kd.R_drew HO_118.out)
                                have n3_ := Aside0.mk (blk_drew BK171.out)
                                have n4_ := Aside0.mk (below_drew1 HB.out)
                                clear HO_7
                                clear HO_15
                                clear HO_118
                                clear BK171
                                clear HB
                                have HO_7 := n0_
                                have HO_15 := n1_
                                have HO_118 := n2_
                                have BK171 := n3_
                                have HB := n4_
                                clear n0_ n1_ n2_ n3_ n4_
                                refine start_ (n := 33) (S := fun w' => True) (ds := []) mask_0 (by kernel_rfl) rfl rfl trivial (fun hHeld => ?_); refine with_tabW gridhalllaw3_LedgerSettles.tab40 gridhalllaw3_LedgerSettles.bits40 (fun HT_ HW_ => ?_)
                                generalize wr.drew = w71 at HO_7 HO_15 HO_118 BK171 HB hHeld ⊢
                                refine pure_ (i := 0) (N := some 150) (v := ?_) (a' := ?_) mask_1 rfl rfl (any_of HT_.out (by kernel_rfl)) (fun _ _ _ h => h) (Or.inl ⟨by rfl, ?_⟩) ?_ ?_
                                rotate_left
                                ·intro w'
                                 go_simp
                                 with_reducible rfl
                                rotate_left
                                ·simp only [Act.put, List.setIfInBounds_toArray, List.set_cons_zero, List.set_cons_succ, i64_w, i32_w]
                                 rfl
                                refine pure_ (i := 1) (N := some 151) (v := ?_) (a' := ?_) mask_2 rfl rfl (any_of HT_.out (by kernel_rfl)) (fun _ _ _ h => h) (Or.inl ⟨by rfl, ?_⟩) ?_ ?_
                                rotate_left
                                ·intro w'
                                 go_simp
                                 with_reducible rfl
                                rotate_left
                                ·simp only [Act.put, List.setIfInBounds_toArray, List.set_cons_zero, List.set_cons_succ, i64_w, i32_w]
                                 rfl
                                refine pure_ (i := 2) (N := some 152) (v := ?_) (a' := ?_) mask_3 rfl rfl (any_of HT_.out (by kernel_rfl)) (fun _ _ _ h => h) (Or.inl ⟨by rfl, ?_⟩) ?_ ?_
                                rotate_left
                                ·intro w'
                                 go_simp
                                 with_reducible rfl
                                rotate_left
                                ·simp only [Act.put, List.setIfInBounds_toArray, List.set_cons_zero, List.set_cons_succ, i64_w, i32_w]
                                 rfl
                                refine pure_ (i := 3) (N := some 153) (v := ?_) (a' := ?_) mask_4 rfl rfl (any_of HT_.out (by kernel_rfl)) (fun _ _ _ h => h) (Or.inl ⟨by rfl, ?_⟩) ?_ ?_
                                rotate_left
                                ·intro w'
                                 go_simp
                                 with_reducible rfl
                                rotate_left
                                ·simp only [Act.put, List.setIfInBounds_toArray, List.set_cons_zero, List.set_cons_succ, i64_w, i32_w]
                                 rfl
                                refine pure_ (i := 4) (N := some 154) (v := ?_) (a' := ?_) mask_5 rfl rfl (any_of HT_.out (by kernel_rfl)) (fun _ _ _ h => h) (Or.inl ⟨by rfl, ?_⟩) ?_ ?_
                                rotate_left
                                ·intro w'
                                 go_simp
                                 with_reducible rfl
                                rotate_left
                                ·simp only [Act.put, List.setIfInBounds_toArray, List.set_cons_zero, List.set_cons_succ, i64_w, i32_w]
                                 rfl
                                refine pure_ (i := 5) (N := some 155) (v := ?_) (a' := ?_) mask_6 rfl rfl (any_of HT_.out (by kernel_rfl)) (fun _ _ _ h => h) (Or.inl ⟨by rfl, ?_⟩) ?_ ?_
                                rotate_left
                                ·intro w'
                                 go_simp
                                 with_reducible rfl
                                rotate_left
                                ·simp only [Act.put, List.setIfInBounds_toArray, List.set_cons_zero, List.set_cons_succ, i64_w, i32_w]
                                 rfl
                                refine pure_ (i := 6) (N := some 156) (v := ?_) (a' := ?_) mask_7 rfl rfl (any_of HT_.out (by kernel_rfl)) (fun _ _ _ h => h) (Or.inl ⟨by rfl, ?_⟩) ?_ ?_
                                rotate_left
                                ·intro w'
                                 go_simp
                                 with_reducible rfl
                                rotate_left
                                ·simp only [Act.put, List.setIfInBounds_toArray, List.set_cons_zero, List.set_cons_succ, i64_w, i32_w]
                                 rfl
                                refine pure_ (i := 7) (N := some 157) (v := ?_) (a' := ?_) mask_8 rfl rfl (any_of HT_.out (by kernel_rfl)) (fun _ _ _ h => h) (Or.inl ⟨by rfl, ?_⟩) ?_ ?_
                                rotate_left
                                ·intro w'
                                 go_simp
                                 with_reducible rfl
                                rotate_left
                                ·simp only [Act.put, List.setIfInBounds_toArray, List.set_cons_zero, List.set_cons_succ, i64_w, i32_w]
                                 rfl
                                refine pure_ (i := 8) (N := some 158) (v := ?_) (a' := ?_) mask_9 rfl rfl (any_of HT_.out (by kernel_rfl)) (fun _ _ _ h => h) (Or.inl ⟨by rfl, ?_⟩) ?_ ?_
                                rotate_left
                                ·intro w'
                                 go_simp
                                 with_reducible rfl
                                rotate_left
                                ·simp only [Act.put, List.setIfInBounds_toArray, List.set_cons_zero, List.set_cons_succ, i64_w, i32_w]
                                 rfl
                                refine pure_ (i := 9) (N := some 159) (v := ?_) (a' := ?_) mask_10 rfl rfl (any_of HT_.out (by kernel_rfl)) (fun _ _ _ h => h) (Or.inl ⟨by rfl, ?_⟩) ?_ ?_
                                rotate_left
                                ·intro w'
                                 go_simp
                                 with_reducible rfl
                                rotate_left
                                ·simp only [Act.put, List.setIfInBounds_toArray, List.set_cons_zero, List.set_cons_succ, i64_w, i32_w]
                                 rfl
                                refine pure_ (i := 10) (N := some 160) (v := ?_) (a' := ?_) mask_11 rfl rfl (any_of HT_.out (by kernel_rfl)) (fun _ _ _ h => h) (Or.inl ⟨by rfl, ?_⟩) ?_ ?_
                                rotate_left
                                ·intro w'
                                 go_simp
                                 with_reducible rfl
                                rotate_left
                                ·simp only [Act.put, List.setIfInBounds_toArray, List.set_cons_zero, List.set_cons_succ, i64_w, i32_w]
                                 rfl
                                refine pure_ (i := 11) (N := some 161) (v := undef) (a' := ?_) mask_12 rfl rfl (any_of HT_.out (by kernel_rfl)) (fun _ _ _ h => h) (Or.inr ⟨by rfl, rfl⟩) ?_ ?_
                                rotate_left
                                ·simp only [Act.put, List.setIfInBounds_toArray, List.set_cons_zero, List.set_cons_succ, i64_w, i32_w]
                                 rfl
                                refine pure_ (i := 12) (N := some 162) (v := undef) (a' := ?_) mask_13 rfl rfl (any_of HT_.out (by kernel_rfl)) (fun _ _ _ h => h) (Or.inr ⟨by rfl, rfl⟩) ?_ ?_
                                rotate_left
                                ·simp only [Act.put, List.setIfInBounds_toArray, List.set_cons_zero, List.set_cons_succ, i64_w, i32_w]
                                 rfl
                                refine pure_ (i := 13) (N := some 163) (v := undef) (a' := ?_) mask_14 rfl rfl (any_of HT_.out (by kernel_rfl)) (fun _ _ _ h => h) (Or.inr ⟨by rfl, rfl⟩) ?_ ?_
                                rotate_left
                                ·simp only [Act.put, List.setIfInBounds_toArray, List.set_cons_zero, List.set_cons_succ, i64_w, i32_w]
                                 rfl
                                refine pure_ (i := 14) (N := some 164) (v := undef) (a' := ?_) mask_15 rfl rfl (any_of HT_.out (by kernel_rfl)) (fun _ _ _ h => h) (Or.inr ⟨by rfl, rfl⟩) ?_ ?_
                                rotate_left
                                ·simp only [Act.put, List.setIfInBounds_toArray, List.set_cons_zero, List.set_cons_succ, i64_w, i32_w]
                                 rfl
                                refine pure_ (i := 15) (N := some 165) (v := undef) (a' := ?_) mask_16 rfl rfl (any_of HT_.out (by kernel_rfl)) (fun _ _ _ h => h) (Or.inr ⟨by rfl, rfl⟩) ?_ ?_
                                rotate_left
                                ·simp only [Act.put, List.setIfInBounds_toArray, List.set_cons_zero, List.set_cons_succ, i64_w, i32_w]
                                 rfl
                                refine pure_ (i := 16) (N := some 166) (v := undef) (a' := ?_) mask_17 rfl rfl (any_of HT_.out (by kernel_rfl)) (fun _ _ _ h => h) (Or.inr ⟨by rfl, rfl⟩) ?_ ?_
                                rotate_left
                                ·simp only [Act.put, List.setIfInBounds_toArray, List.set_cons_zero, List.set_cons_succ, i64_w, i32_w]
                                 rfl
                                refine pure_ (i := 17) (N := some 167) (v := undef) (a' := ?_) mask_18 rfl rfl (any_of HT_.out (by kernel_rfl)) (fun _ _ _ h => h) (Or.inr ⟨by rfl, rfl⟩) ?_ ?_
                                rotate_left
                                ·simp only [Act.put, List.setIfInBounds_toArray, List.set_cons_zero, List.set_cons_succ, i64_w, i32_w]
                                 rfl
                                refine pure_ (i := 18) (N := some 168) (v := undef) (a' := ?_) mask_19 rfl rfl (any_of HT_.out (by kernel_rfl)) (fun _ _ _ h => h) (Or.inr ⟨by rfl, rfl⟩) ?_ ?_
                                rotate_left
                                ·simp only [Act.put, List.setIfInBounds_toArray, List.set_cons_zero, List.set_cons_succ, i64_w, i32_w]
                                 rfl
                                refine pure_ (i := 19) (N := some 169) (v := undef) (a' := ?_) mask_20 rfl rfl (any_of HT_.out (by kernel_rfl)) (fun _ _ _ h => h) (Or.inr ⟨by rfl, rfl⟩) ?_ ?_
                                rotate_left
                                ·simp only [Act.put, List.setIfInBounds_toArray, List.set_cons_zero, List.set_cons_succ, i64_w, i32_w]
                                 rfl
                                refine pure_ (i := 20) (N := some 170) (v := undef) (a' := ?_) mask_21 rfl rfl (any_of HT_.out (by kernel_rfl)) (fun _ _ _ h => h) (Or.inr ⟨by rfl, rfl⟩) ?_ ?_
                                rotate_left
                                ·simp only [Act.put, List.setIfInBounds_toArray, List.set_cons_zero, List.set_cons_succ, i64_w, i32_w]
                                 rfl
                                refine pure_ (i := 21) (N := some 171) (v := undef) (a' := ?_) mask_22 rfl rfl (any_of HT_.out (by kernel_rfl)) (fun _ _ _ h => h) (Or.inr ⟨by rfl, rfl⟩) ?_ ?_
                                rotate_left
                                ·simp only [Act.put, List.setIfInBounds_toArray, List.set_cons_zero, List.set_cons_succ, i64_w, i32_w]
                                 rfl
                                refine pure_ (i := 22) (N := some 172) (v := undef) (a' := ?_) mask_23 rfl rfl (any_of HT_.out (by kernel_rfl)) (fun _ _ _ h => h) (Or.inr ⟨by rfl, rfl⟩) ?_ ?_
                                rotate_left
                                ·simp only [Act.put, List.setIfInBounds_toArray, List.set_cons_zero, List.set_cons_succ, i64_w, i32_w]
                                 rfl
                                refine pure_ (i := 23) (N := some 173) (v := undef) (a' := ?_) mask_24 rfl rfl (any_of HT_.out (by kernel_rfl)) (fun _ _ _ h => h) (Or.inr ⟨by rfl, rfl⟩) ?_ ?_
                                rotate_left
                                ·simp only [Act.put, List.setIfInBounds_toArray, List.set_cons_zero, List.set_cons_succ, i64_w, i32_w]
                                 rfl
                                refine pure_ (i := 24) (N := some 174) (v := undef) (a' := ?_) mask_25 rfl rfl (any_of HT_.out (by kernel_rfl)) (fun _ _ _ h => h) (Or.inr ⟨by rfl, rfl⟩) ?_ ?_
                                rotate_left
                                ·simp only [Act.put, List.setIfInBounds_toArray, List.set_cons_zero, List.set_cons_succ, i64_w, i32_w]
                                 rfl
                                refine pure_ (i := 25) (N := some 175) (v := undef) (a' := ?_) mask_26 rfl rfl (any_of HT_.out (by kernel_rfl)) (fun _ _ _ h => h) (Or.inr ⟨by rfl, rfl⟩) ?_ ?_
                                rotate_left
                                ·simp only [Act.put, List.setIfInBounds_toArray, List.set_cons_zero, List.set_cons_succ, i64_w, i32_w]
                                 rfl
                                refine pure_ (i := 26) (N := some 176) (v := undef) (a' := ?_) mask_27 rfl rfl (any_of HT_.out (by kernel_rfl)) (fun _ _ _ h => h) (Or.inr ⟨by rfl, rfl⟩) ?_ ?_
                                rotate_left
                                ·simp only [Act.put, List.setIfInBounds_toArray, List.set_cons_zero, List.set_cons_succ, i64_w, i32_w]
                                 rfl
                                refine pure_ (i := 27) (N := some 177) (v := undef) (a' := ?_) mask_28 rfl rfl (any_of HT_.out (by kernel_rfl)) (fun _ _ _ h => h) (Or.inr ⟨by rfl, rfl⟩) ?_ ?_
                                rotate_left
                                ·simp only [Act.put, List.setIfInBounds_toArray, List.set_cons_zero, List.set_cons_succ, i64_w, i32_w]
                                 rfl
                                refine pure_ (i := 28) (N := some 178) (v := undef) (a' := ?_) mask_29 rfl rfl (any_of HT_.out (by kernel_rfl)) (fun _ _ _ h => h) (Or.inr ⟨by rfl, rfl⟩) ?_ ?_
                                rotate_left
                                ·simp only [Act.put, List.setIfInBounds_toArray, List.set_cons_zero, List.set_cons_succ, i64_w, i32_w]
                                 rfl
                                refine pure_ (i := 29) (N := some 179) (v := undef) (a' := ?_) mask_30 rfl rfl (any_of HT_.out (by kernel_rfl)) (fun _ _ _ h => h) (Or.inr ⟨by rfl, rfl⟩) ?_ ?_
                                rotate_left
                                ·simp only [Act.put, List.setIfInBounds_toArray, List.set_cons_zero, List.set_cons_succ, i64_w, i32_w]
                                 rfl
                                refine pure_ (i := 30) (N := some 180) (v := undef) (a' := ?_) mask_31 rfl rfl (any_of HT_.out (by kernel_rfl)) (fun _ _ _ h => h) (Or.inr ⟨by rfl, rfl⟩) ?_ ?_
                                rotate_left
                                ·simp only [Act.put, List.setIfInBounds_toArray, List.set_cons_zero, List.set_cons_succ, i64_w, i32_w]
                                 rfl
                                refine pure_ (i := 31) (N := some 181) (v := undef) (a' := ?_) mask_32 rfl rfl (any_of HT_.out (by kernel_rfl)) (fun _ _ _ h => h) (Or.inr ⟨by rfl, rfl⟩) ?_ ?_
                                rotate_left
                                ·simp only [Act.put, List.setIfInBounds_toArray, List.set_cons_zero, List.set_cons_succ, i64_w, i32_w]
                                 rfl
                                refine pure_ (i := 32) (N := some 182) (v := ?_) (a' := ?_) mask_33 rfl rfl (any_of HT_.out (by kernel_rfl)) (fun _ _ _ h => h) (Or.inl ⟨by rfl, ?_⟩) ?_ ?_
                                rotate_left
                                ·intro w'
                                 go_simp
                                 with_reducible rfl
                                rotate_left
                                ·simp only [Act.put, List.setIfInBounds_toArray, List.set_cons_zero, List.set_cons_succ, i64_w, i32_w]
                                 rfl
                                refine done_ (done_of HT_.out (by kernel_rfl)) ?_
                                try go_wp2
                                go_ret
                                exact ⟨by first | rfl | (simp [errW_none, errW_some] <;> rfl) | (simp [*, errW_none, errW_some] <;> rfl), by repeat (first | (with_reducible first | exact HB.out | apply below_alloc | apply pw_below_drewN | apply below_drew1 | refine below_set ?_ GE171.out) | exact HB.out)⟩
                              ·rw [if_neg c69] at H
                               have c69b0 : (x19_9 == (x15_7.length : Int)) = false := beq_eq_false_iff_ne.mpr c69
                               have c69b1 : (x19_9 != (x15_7.length : Int)) = true := bne_iff_ne.mpr c69
                               by_cases c72 : 0 ≤ x18_52
                               ·rw [if_pos c72] at H
                                have c72b0 : decide (0 ≤ x18_52) = true := decide_eq_true c72
                                clear c72
                                by_cases c73 : x18_52 < (l0.length : Int)
                                ·rw [if_pos c73] at H
                                 have c73b0 : decide (x18_52 < (l0.length : Int)) = true := decide_eq_true c73
                                 clear c73
                                 by_cases c74 : x19_9 < (l0.length : Int)
                                 ·rw [if_pos c74] at H
                                  have c74b0 : decide (x19_9 < (l0.length : Int)) = true := decide_eq_true c74
                                  clear c74
                                  by_cases c75 : x18_52 < (x15_7.length : Int)
                                  ·rw [if_pos c75] at H
                                   have c75b0 : decide (x18_52 < (x15_7.length : Int)) = true := decide_eq_true c75
                                   clear c75
                                   obtain ⟨ji76, hji76⟩ : ∃ j_ : Int, (mn (wrap64 (-(rd x15_7 x18_52))) (rd x15_7 x19_9)) = j_ := ⟨_, rfl⟩
                                   replace H : (if (!(((rd_T67 t152 x120_7).f0).toList == ((rdOf ByteArray.empty l0 x18_52).toList)) || (!(((rd_T67 t152 x120_7).f1).toList == ((rdOf ByteArray.empty l0 x19_9).toList)) || (!(((rd_T67 t152 x120_7).f2) == (ji76))))) = true then (some false) else (gridhalllaw3_LedgerSettles.l2 k9 l0 t152 t153 ((x15_7.set (x18_52 : Int).toNat (wrap64 ((rd x15_7 x18_52) + ((rd_T67 t152 x120_7).f2)))).set (x19_9 : Int).toNat (wrap64 ((rd x15_7 x19_9) - ((rd_T67 t152 x120_7).f2)))) t152 (t152.length : Int) (wrap64 (x120_7 + 1)))) = some r := by first | (rw [hji76] at H; exact H) | (simp only [hji76] at H ⊢; exact H)
                                   have hji76_ : (if (rd x15_7 x19_9) < (wrap64 (-(rd x15_7 x18_52))) then (rd x15_7 x19_9) else (wrap64 (-(rd x15_7 x18_52)))) = ji76 := hji76
                                   by_cases c77 : (!(((rd_T67 t152 x120_7).f0).toList == ((rdOf ByteArray.empty l0 x18_52).toList)) || (!(((rd_T67 t152 x120_7).f1).toList == ((rdOf ByteArray.empty l0 x19_9).toList)) || (!(((rd_T67 t152 x120_7).f2) == (ji76))))) = true
                                   ·rw [if_pos c77] at H
                                    have c77b0 : (!(((rd_T67 t152 x120_7).f0).toList == ((rdOf ByteArray.empty l0 x18_52).toList)) || (!(((rd_T67 t152 x120_7).f1).toList == ((rdOf ByteArray.empty l0 x19_9).toList)) || (!(((rd_T67 t152 x120_7).f2) == (ji76))))) = true := c77
                                    clear c77
                                    as_aux_lemma =>
                                     obtain rfl := Option.some.inj H
                                     obtain ⟨Ao78, co78, eo78⟩ := Kd.R_slice HO_15.out
                                     subst eo78
                                     have p173 : 0 ≤ (x19_9 : Int) := of_decide_eq_true (by first | (with_reducible assumption) | assumption)
                                     have q173 : x19_9 < (x15_7.length : Int) := of_decide_eq_true (by first | (with_reducible assumption) | assumption)
                                     obtain ⟨ad173, e173, hx173_0⟩ := Kd.at_int (Kd.R_reads' HO_15.out).2.2 x19_9 p173 q173
                                     cases e173
                                     replace p173 := eq_true p173
                                     replace q173 := eq_true q173
                                     try go_wp2
                                     have n0_ := Aside0.mk (Kd.R_drew HO_7.out)
                                     have n1_ := Aside0.mk (Kd.R_drew HO_15.out)
                                     have n2_ := Aside0.mk (Kd.R_drew HO_118.out)
                                     have n3_ := Aside0.mk (blk_drew BK171.out)
                                     have n4_ := Aside0.mk (below_drew1 HB.out)
                                     clear HO_7
                                     clear HO_15
                                     clear HO_118
                                     clear BK171
                                     clear HB
                                     have HO_7 := n0_
                                     have HO_15 := n1_
                                     have HO_118 := n2_
                                     have BK171 := n3_
                                     have HB := n4_
                                     clear n0_ n1_ n2_ n3_ n4_
                                     have p174 : 0 ≤ (x18_52 : Int) := of_decide_eq_true (by first | (with_reducible assumption) | assumption)
                                     have q174 : x18_52 < (l0.length : Int) := of_decide_eq_true (by first | (with_reducible assumption) | assumption)
                                     obtain ⟨ad174, e174, hx174_0⟩ := Kd.at_string HR0.out x18_52 p174 q174
                                     have hw174_0 := hx174_0
                                     cases e174
                                     replace hx174_0 := (HB.out.cell (World.block_lt_of_cell? w _ hx174_0)).trans hx174_0
                                     replace p174 := eq_true p174
                                     replace q174 := eq_true q174
                                     have p175 : 0 ≤ (x19_9 : Int) := of_decide_eq_true (by first | (with_reducible assumption) | assumption)
                                     have q175 : x19_9 < (l0.length : Int) := of_decide_eq_true (by first | (with_reducible assumption) | assumption)
                                     obtain ⟨ad175, e175, hx175_0⟩ := Kd.at_string HR0.out x19_9 p175 q175
                                     have hw175_0 := hx175_0
                                     obtain rfl : ad174 = ad175 := (by injection e175)
                                     replace hx175_0 := (HB.out.cell (World.block_lt_of_cell? w _ hx175_0)).trans hx175_0
                                     replace p175 := eq_true p175
                                     replace q175 := eq_true q175
                                     have p176 : 0 ≤ (x18_52 : Int) := of_decide_eq_true (by first | (with_reducible assumption) | assumption)
                                     have q176 : x18_52 < (x15_7.length : Int) := of_decide_eq_true (by first | (with_reducible assumption) | assumption)
                                     obtain ⟨ad176, e176, hx176_0⟩ := Kd.at_int (Kd.R_reads' HO_15.out).2.2 x18_52 p176 q176
                                     obtain rfl : ad173 = ad176 := (by injection e176)
                                     replace p176 := eq_true p176
                                     replace q176 := eq_true q176
                                     have p177 : 0 ≤ (x19_9 : Int) := of_decide_eq_true (by first | (with_reducible assumption) | assumption)
                                     have q177 : x19_9 < (x15_7.length : Int) := of_decide_eq_true (by first | (with_reducible assumption) | assumption)
                                     obtain ⟨ad177, e177, hx177_0⟩ := Kd.at_int (Kd.R_reads' HO_15.out).2.2 x19_9 p177 q177
                                     obtain rfl : ad173 = ad177 := (by injection e177)
                                     replace p177 := eq_true p177
                                     replace q177 := eq_true q177
                                     refine start_ (n := 33) (S := fun w' => w'.cell? ⟨gb171, 0, none⟩ = some (.string ((rd_T67 t152 x120_7).f0)) ∧ w'.cell? ⟨gb171, 1, none⟩ = some (.string ((rd_T67 t152 x120_7).f1)) ∧ w'.cell? ⟨gb171, 2, none⟩ = some (.int .i64 ((rd_T67 t152 x120_7).f2)) ∧ w'.cell? (ad174.add (x18_52).toNat) = some (.string (rdOf ByteArray.empty l0 x18_52)) ∧ w'.cell? (ad174.add (x19_9).toNat) = some (.string (rdOf ByteArray.empty l0 x19_9)) ∧ w'.cell? (ad173.add (x18_52).toNat) = some (.int .i64 (rd x15_7 x18_52)) ∧ w'.cell? (ad173.add (x19_9).toNat) = some (.int .i64 (rd x15_7 x19_9))) (ds := []) mask_0 (by kernel_rfl) rfl rfl ⟨(blk_cell BK171.out 0).trans rfl, (blk_cell BK171.out 1).trans rfl, (blk_cell BK171.out 2).trans rfl, ((HB.out.cell (World.block_lt_of_cell? w _ hw174_0)).trans hw174_0), ((HB.out.cell (World.block_lt_of_cell? w _ hw175_0)).trans hw175_0), hx176_0, hx177_0⟩ (fun hHeld => ?_); refine with_tabW gridhalllaw3_LedgerSettles.tab40 gridhalllaw3_LedgerSettles.bits40 (fun HT_ HW_ => ?_)
                                     generalize wr.drew = w79 at HO_7 HO_15 HO_118 BK171 HB hx174_0 hx175_0 hx176_0 hx177_0 hHeld ⊢
                                     refine pure_ (i := 0) (N := some 150) (v := ?_) (a' := ?_) mask_1 rfl rfl (any_of HT_.out (by kernel_rfl)) (fun _ _ _ h => h) (Or.inl ⟨by rfl, ?_⟩) ?_ ?_
                                     rotate_left
                                     ·intro w'
                                      go_simp
                                      with_reducible rfl
                                     rotate_left
                                     ·simp only [Act.put, List.setIfInBounds_toArray, List.set_cons_zero, List.set_cons_succ, i64_w, i32_w]
                                      rfl
                                     refine pure_ (i := 1) (N := some 151) (v := ?_) (a' := ?_) mask_2 rfl rfl (any_of HT_.out (by kernel_rfl)) (fun _ _ _ h => h) (Or.inl ⟨by rfl, ?_⟩) ?_ ?_
                                     rotate_left
                                     ·intro w'
                                      go_simp
                                      with_reducible rfl
                                     rotate_left
                                     ·simp only [Act.put, List.setIfInBounds_toArray, List.set_cons_zero, List.set_cons_succ, i64_w, i32_w]
                                      rfl
                                     refine pure_ (i := 2) (N := some 152) (v := ?_) (a' := ?_) mask_3 rfl rfl (any_of HT_.out (by kernel_rfl)) (fun _ _ _ h => h) (Or.inl ⟨by rfl, ?_⟩) ?_ ?_
                                     rotate_left
                                     ·intro w'
                                      go_simp
                                      with_reducible rfl
                                     rotate_left
                                     ·simp only [Act.put, List.setIfInBounds_toArray, List.set_cons_zero, List.set_cons_succ, i64_w, i32_w]
                                      rfl
                                     refine pure_ (i := 3) (N := some 153) (v := ?_) (a' := ?_) mask_4 rfl rfl (any_of HT_.out (by kernel_rfl)) (fun _ _ _ h => h) (Or.inl ⟨by rfl, ?_⟩) ?_ ?_
                                     rotate_left
                                     ·intro w'
                                      go_simp
                                      with_reducible rfl
                                     rotate_left
                                     ·simp only [Act.put, List.setIfInBounds_toArray, List.set_cons_zero, List.set_cons_succ, i64_w, i32_w]
                                      rfl
                                     refine pure_ (i := 4) (N := some 154) (v := ?_) (a' := ?_) mask_5 rfl rfl (any_of HT_.out (by kernel_rfl)) (fun _ _ _ h => h) (Or.inl ⟨by rfl, ?_⟩) ?_ ?_
                                     rotate_left
                                     ·intro w'
                                      go_simp
                                      with_reducible rfl
                                     rotate_left
                                     ·simp only [Act.put, List.setIfInBounds_toArray, List.set_cons_zero, List.set_cons_succ, i64_w, i32_w]
                                      rfl
                                     refine pure_ (i := 5) (N := some 155) (v := ?_) (a' := ?_) mask_6 rfl rfl (any_of HT_.out (by kernel_rfl)) (fun _ _ _ h => h) (Or.inl ⟨by rfl, ?_⟩) ?_ ?_
                                     rotate_left
                                     ·intro w'
                                      go_simp
                                      with_reducible rfl
                                     rotate_left
                                     ·simp only [Act.put, List.setIfInBounds_toArray, List.set_cons_zero, List.set_cons_succ, i64_w, i32_w]
                                      rfl
                                     refine pure_ (i := 6) (N := some 156) (v := ?_) (a' := ?_) mask_7 rfl rfl (any_of HT_.out (by kernel_rfl)) (fun _ _ _ h => h) (Or.inl ⟨by rfl, ?_⟩) ?_ ?_
                                     rotate_left
                                     ·intro w'
                                      go_simp
                                      with_reducible rfl
                                     rotate_left
                                     ·simp only [Act.put, List.setIfInBounds_toArray, List.set_cons_zero, List.set_cons_succ, i64_w, i32_w]
                                      rfl
                                     refine pure_ (i := 7) (N := some 157) (v := ?_) (a' := ?_) mask_8 rfl rfl (any_of HT_.out (by kernel_rfl)) (fun _ _ _ h => h) (Or.inl ⟨by rfl, ?_⟩) ?_ ?_
                                     rotate_left
                                     ·intro w'
                                      go_simp
                                      with_reducible rfl
                                     rotate_left
                                     ·simp only [Act.put, List.setIfInBounds_toArray, List.set_cons_zero, List.set_cons_succ, i64_w, i32_w]
                                      rfl
                                     refine pure_ (i := 8) (N := some 158) (v := ?_) (a' := ?_) mask_9 rfl rfl (any_of HT_.out (by kernel_rfl)) (fun _ _ _ h => h) (Or.inl ⟨by rfl, ?_⟩) ?_ ?_
                                     rotate_left
                                     ·intro w'
                                      go_simp
                                      with_reducible rfl
                                     rotate_left
                                     ·simp only [Act.put, List.setIfInBounds_toArray, List.set_cons_zero, List.set_cons_succ, i64_w, i32_w]
                                      rfl
                                     refine pure_ (i := 9) (N := some 159) (v := ?_) (a' := ?_) mask_10 rfl rfl (any_of HT_.out (by kernel_rfl)) (fun _ _ _ h => h) (Or.inl ⟨by rfl, ?_⟩) ?_ ?_
                                     rotate_left
                                     ·intro w'
                                      go_simp
                                      with_reducible rfl
                                     rotate_left
                                     ·simp only [Act.put, List.setIfInBounds_toArray, List.set_cons_zero, List.set_cons_succ, i64_w, i32_w]
                                      rfl
                                     refine pure_ (i := 10) (N := some 160) (v := ?_) (a' := ?_) mask_11 rfl rfl (any_of HT_.out (by kernel_rfl)) (fun _ _ _ h => h) (Or.inl ⟨by rfl, ?_⟩) ?_ ?_
                                     rotate_left
                                     ·intro w'
                                      go_simp
                                      with_reducible rfl
                                     rotate_left
                                     ·simp only [Act.put, List.setIfInBounds_toArray, List.set_cons_zero, List.set_cons_succ, i64_w, i32_w]
                                      rfl
                                     refine pure_ (i := 12) (N := some 162) (v := ?_) (a' := ?_) mask_34 rfl rfl (any_of HT_.out (by kernel_rfl)) (fun _ _ _ h => h) (Or.inl ⟨by rfl, ?_⟩) ?_ ?_
                                     rotate_left
                                     ·intro w'
                                      go_simp
                                      with_reducible rfl
                                     rotate_left
                                     ·simp only [Act.put, List.setIfInBounds_toArray, List.set_cons_zero, List.set_cons_succ, i64_w, i32_w]
                                      rfl
                                     refine pure_ (i := 13) (N := some 163) (v := ?_) (a' := ?_) mask_35 rfl rfl (any_of HT_.out (by kernel_rfl)) (fun _ _ _ h => h) (Or.inl ⟨by rfl, ?_⟩) ?_ ?_
                                     rotate_left
                                     ·intro w'
                                      go_simp
                                      with_reducible rfl
                                     rotate_left
                                     ·simp only [Act.put, List.setIfInBounds_toArray, List.set_cons_zero, List.set_cons_succ, i64_w, i32_w]
                                      rfl
                                     refine pure_ (i := 14) (N := some 164) (v := ?_) (a' := ?_) mask_36 rfl rfl (any_of HT_.out (by kernel_rfl)) (fun _ _ _ h => h) (Or.inl ⟨by rfl, ?_⟩) ?_ ?_
                                     rotate_left
                                     ·intro w'
                                      go_simp
                                      with_reducible rfl
                                     rotate_left
                                     ·simp only [Act.put, List.setIfInBounds_toArray, List.set_cons_zero, List.set_cons_succ, i64_w, i32_w]
                                      rfl
                                     refine pure_ (i := 16) (N := some 166) (v := ?_) (a' := ?_) mask_37 rfl rfl (any_of HT_.out (by kernel_rfl)) (fun _ _ _ h => h) (Or.inl ⟨by rfl, ?_⟩) ?_ ?_
                                     rotate_left
                                     ·intro w'
                                      go_simp
                                      with_reducible rfl
                                     rotate_left
                                     ·simp only [Act.put, List.setIfInBounds_toArray, List.set_cons_zero, List.set_cons_succ, i64_w, i32_w]
                                      rfl
                                     refine pure_ (i := 17) (N := some 167) (v := ?_) (a' := ?_) mask_38 rfl rfl (any_of HT_.out (by kernel_rfl)) (fun _ _ _ h => h) (Or.inl ⟨by rfl, ?_⟩) ?_ ?_
                                     rotate_left
                                     ·intro w'
                                      go_simp
                                      with_reducible rfl
                                     rotate_left
                                     ·simp only [Act.put, List.setIfInBounds_toArray, List.set_cons_zero, List.set_cons_succ, i64_w, i32_w]
                                      rfl
                                     refine pure_ (i := 18) (N := some 168) (v := ?_) (a' := ?_) mask_39 rfl rfl (any_of HT_.out (by kernel_rfl)) (fun _ _ _ h => h) (Or.inl ⟨by rfl, ?_⟩) ?_ ?_
                                     rotate_left
                                     ·intro w'
                                      go_simp
                                      with_reducible rfl
                                     rotate_left
                                     ·simp only [Act.put, List.setIfInBounds_toArray, List.set_cons_zero, List.set_cons_succ, i64_w, i32_w]
                                      rfl
                                     refine pure_ (i := 20) (N := some 170) (v := ?_) (a' := ?_) mask_40 rfl rfl (any_of HT_.out (by kernel_rfl)) (fun _ _ _ h => h) (Or.inl ⟨by rfl, ?_⟩) ?_ ?_
                                     rotate_left
                                     ·intro w'
                                      go_simp
                                      with_reducible rfl
                                     rotate_left
                                     ·simp only [Act.put, List.setIfInBounds_toArray, List.set_cons_zero, List.set_cons_succ, i64_w, i32_w]
                                      rfl
                                     refine pure_ (i := 21) (N := some 171) (v := ?_) (a' := ?_) mask_41 rfl rfl (any_of HT_.out (by kernel_rfl)) (fun _ _ _ h => h) (Or.inl ⟨by rfl, ?_⟩) ?_ ?_
                                     rotate_left
                                     ·intro w'
                                      go_simp
                                      with_reducible rfl
                                     rotate_left
                                     ·simp only [Act.put, List.setIfInBounds_toArray, List.set_cons_zero, List.set_cons_succ, i64_w, i32_w]
                                      rfl
                                     refine pure_ (i := 22) (N := some 172) (v := ?_) (a' := ?_) mask_42 rfl rfl (any_of HT_.out (by kernel_rfl)) (fun _ _ _ h => h) (Or.inl ⟨by rfl, ?_⟩) ?_ ?_
                                     rotate_left
                                     ·intro w'
                                      go_simp
                                      with_reducible rfl
                                     rotate_left
                                     ·simp only [Act.put, List.setIfInBounds_toArray, List.set_cons_zero, List.set_cons_succ, i64_w, i32_w]
                                      rfl
                                     refine pure_ (i := 25) (N := some 175) (v := ?_) (a' := ?_) mask_43 rfl rfl (any_of HT_.out (by kernel_rfl)) (fun _ _ _ h => h) (Or.inl ⟨by rfl, ?_⟩) ?_ ?_
                                     rotate_left
                                     ·intro w'
                                      go_simp
                                      with_reducible rfl
                                     rotate_left
                                     ·simp only [Act.put, List.setIfInBounds_toArray, List.set_cons_zero, List.set_cons_succ, i64_w, i32_w]
                                      rfl
                                     refine pure_ (i := 26) (N := some 176) (v := ?_) (a' := ?_) mask_44 rfl rfl (any_of HT_.out (by kernel_rfl)) (fun _ _ _ h => h) (Or.inl ⟨by rfl, ?_⟩) ?_ ?_
                                     rotate_left
                                     ·intro w'
                                      go_simp
                                      with_reducible rfl
                                     rotate_left
                                     ·simp only [Act.put, List.setIfInBounds_toArray, List.set_cons_zero, List.set_cons_succ, i64_w, i32_w]
                                      rfl
                                     refine pure_ (i := 27) (N := some 177) (v := ?_) (a' := ?_) mask_45 rfl rfl (any_of HT_.out (by kernel_rfl)) (fun _ _ _ h => h) (Or.inl ⟨by rfl, ?_⟩) ?_ ?_
                                     rotate_left
                                     ·intro w'
                                      go_simp
                                      with_reducible rfl
                                     rotate_left
                                     ·simp only [Act.put, List.setIfInBounds_toArray, List.set_cons_zero, List.set_cons_succ, i64_w, i32_w]
                                      rfl
                                     refine take_ (i := 11) (N := some 161) (v := ?_) (a' := ?_) mask_46 rfl rfl (take_ofW HT_.out HW_.out (by kernel_rfl)) (fun _ _ _ h => h) (Or.inl ⟨by rfl, ?_⟩) hHeld ?_ ?_
                                     rotate_left
                                     ·rintro w' ⟨s0, s1, s2, s3, s4, s5, s6⟩
                                      go_simp
                                      with_reducible rfl
                                     rotate_left
                                     ·simp only [Act.put, List.setIfInBounds_toArray, List.set_cons_zero, List.set_cons_succ, i64_w, i32_w]
                                      rfl
                                     refine take_ (i := 15) (N := some 165) (v := ?_) (a' := ?_) mask_47 rfl rfl (take_ofW HT_.out HW_.out (by kernel_rfl)) (fun _ _ _ h => h) (Or.inl ⟨by rfl, ?_⟩) hHeld ?_ ?_
                                     rotate_left
                                     ·rintro w' ⟨s0, s1, s2, s3, s4, s5, s6⟩
                                      go_simp
                                      with_reducible rfl
                                     rotate_left
                                     ·simp only [Act.put, List.setIfInBounds_toArray, List.set_cons_zero, List.set_cons_succ, i64_w, i32_w]
                                      rfl
                                     refine take_ (i := 19) (N := some 169) (v := ?_) (a' := ?_) mask_48 rfl rfl (take_ofW HT_.out HW_.out (by kernel_rfl)) (fun _ _ _ h => h) (Or.inl ⟨by rfl, ?_⟩) hHeld ?_ ?_
                                     rotate_left
                                     ·rintro w' ⟨s0, s1, s2, s3, s4, s5, s6⟩
                                      go_simp
                                      with_reducible rfl
                                     rotate_left
                                     ·simp only [Act.put, List.setIfInBounds_toArray, List.set_cons_zero, List.set_cons_succ, i64_w, i32_w]
                                      rfl
                                     refine take_ (i := 23) (N := some 173) (v := ?_) (a' := ?_) mask_49 rfl rfl (take_ofW HT_.out HW_.out (by kernel_rfl)) (fun _ _ _ h => h) (Or.inl ⟨by rfl, ?_⟩) hHeld ?_ ?_
                                     rotate_left
                                     ·rintro w' ⟨s0, s1, s2, s3, s4, s5, s6⟩
                                      go_simp
                                      with_reducible rfl
                                     rotate_left
                                     ·simp only [Act.put, List.setIfInBounds_toArray, List.set_cons_zero, List.set_cons_succ, i64_w, i32_w]
                                      rfl
                                     refine pure_ (i := 24) (N := some 174) (v := ?_) (a' := ?_) mask_28 rfl rfl (any_of HT_.out (by kernel_rfl)) (fun _ _ _ h => h) (Or.inl ⟨by rfl, ?_⟩) ?_ ?_
                                     rotate_left
                                     ·intro w'
                                      go_simp
                                      with_reducible rfl
                                     rotate_left
                                     ·simp only [Act.put, List.setIfInBounds_toArray, List.set_cons_zero, List.set_cons_succ, i64_w, i32_w]
                                      rfl
                                     refine take_ (i := 28) (N := some 178) (v := ?_) (a' := ?_) mask_29 rfl rfl (take_ofW HT_.out HW_.out (by kernel_rfl)) (fun _ _ _ h => h) (Or.inl ⟨by rfl, ?_⟩) hHeld ?_ ?_
                                     rotate_left
                                     ·rintro w' ⟨s0, s1, s2, s3, s4, s5, s6⟩
                                      go_simp
                                      with_reducible rfl
                                     rotate_left
                                     ·simp only [Act.put, List.setIfInBounds_toArray, List.set_cons_zero, List.set_cons_succ, i64_w, i32_w]
                                      rfl
                                     refine pure_ (i := 29) (N := some 179) (v := ?_) (a' := ?_) mask_30 rfl rfl (any_of HT_.out (by kernel_rfl)) (fun _ _ _ h => h) (Or.inl ⟨by rfl, ?_⟩) ?_ ?_
                                     rotate_left
                                     ·intro w'
                                      go_simp
                                      with_reducible rfl
                                     rotate_left
                                     ·simp only [Act.put, List.setIfInBounds_toArray, List.set_cons_zero, List.set_cons_succ, i64_w, i32_w]
                                      rfl
                                     refine pure_ (i := 30) (N := some 180) (v := ?_) (a' := ?_) mask_31 rfl rfl (any_of HT_.out (by kernel_rfl)) (fun _ _ _ h => h) (Or.inl ⟨by rfl, ?_⟩) ?_ ?_
                                     rotate_left
                                     ·intro w'
                                      go_simp
                                      with_reducible rfl
                                     rotate_left
                                     ·simp only [Act.put, List.setIfInBounds_toArray, List.set_cons_zero, List.set_cons_succ, i64_w, i32_w]
                                      rfl
                                     refine pure_ (i := 31) (N := some 181) (v := ?_) (a' := ?_) mask_32 rfl rfl (any_of HT_.out (by kernel_rfl)) (fun _ _ _ h => h) (Or.inl ⟨by rfl, ?_⟩) ?_ ?_
                                     rotate_left
                                     ·intro w'
                                      go_simp
                                      with_reducible rfl
                                     rotate_left
                                     ·simp only [Act.put, List.setIfInBounds_toArray, List.set_cons_zero, List.set_cons_succ, i64_w, i32_w]
                                      rfl
                                     refine pure_ (i := 32) (N := some 182) (v := ?_) (a' := ?_) mask_33 rfl rfl (any_of HT_.out (by kernel_rfl)) (fun _ _ _ h => h) (Or.inl ⟨by rfl, ?_⟩) ?_ ?_
                                     rotate_left
                                     ·intro w'
                                      go_simp
                                      with_reducible rfl
                                     rotate_left
                                     ·simp only [Act.put, List.setIfInBounds_toArray, List.set_cons_zero, List.set_cons_succ, i64_w, i32_w]
                                      rfl
                                     refine done_ (done_of HT_.out (by kernel_rfl)) ?_
                                     try go_wp2
                                     go_ret
                                     exact ⟨by first | rfl | (simp [errW_none, errW_some] <;> rfl) | (simp only [← hji76]; first | rfl | (simp [errW_none, errW_some] <;> rfl)) | (simp [*, errW_none, errW_some] <;> rfl), by repeat (first | (with_reducible first | exact HB.out | apply below_alloc | apply pw_below_drewN | apply below_drew1 | refine below_set ?_ GE171.out) | exact HB.out)⟩
                                   ·rw [if_neg c77] at H
                                    have c77b0 : (!(((rd_T67 t152 x120_7).f0).toList == ((rdOf ByteArray.empty l0 x18_52).toList)) || (!(((rd_T67 t152 x120_7).f1).toList == ((rdOf ByteArray.empty l0 x19_9).toList)) || (!(((rd_T67 t152 x120_7).f2) == (ji76))))) = false := by simpa using c77
                                    clear c77
                                    obtain ⟨y180, hy180⟩ : ∃ y_ : List Int, y_ = (x15_7.set (x18_52 : Int).toNat (wrap64 ((rd x15_7 x18_52) + ((rd_T67 t152 x120_7).f2)))) := ⟨_, rfl⟩
                                    replace H : (gridhalllaw3_LedgerSettles.l2 k9 l0 t152 t153 (y180.set (x19_9 : Int).toNat (wrap64 ((rd x15_7 x19_9) - ((rd_T67 t152 x120_7).f2)))) t152 (t152.length : Int) (wrap64 (x120_7 + 1))) = some r := by first | (rw [hy180]; with_reducible exact H) | (have H2_ := (Option.bind_some _ _).symm.trans H; rw [hy180]; with_reducible exact H2_) | (have H2_ := (Option.bind_some _ _).symm.trans H; with_reducible exact H2_) | with_reducible exact H | (rw [hy180]; exact H) | exact H
                                    have Ny180 := Aside0.mk hy180
                                    clear hy180
                                    obtain ⟨y181, hy181⟩ : ∃ y_ : List Int, y_ = (y180.set (x19_9 : Int).toNat (wrap64 ((rd x15_7 x19_9) - ((rd_T67 t152 x120_7).f2)))) := ⟨_, rfl⟩
                                    replace H : (gridhalllaw3_LedgerSettles.l2 k9 l0 t152 t153 y181 t152 (t152.length : Int) (wrap64 (x120_7 + 1))) = some r := by first | (rw [hy181]; with_reducible exact H) | (have H2_ := (Option.bind_some _ _).symm.trans H; rw [hy181]; with_reducible exact H2_) | (have H2_ := (Option.bind_some _ _).symm.trans H; with_reducible exact H2_) | with_reducible exact H | (rw [hy181]; exact H) | exact H
                                    have Ny181 := Aside0.mk hy181
                                    clear hy181
                                    as_aux_lemma =>
                                     have H' := Aside0.mk H
                                     clear H
                                     obtain ⟨Ao82, co82, eo82⟩ := Kd.R_slice HO_15.out
                                     subst eo82
                                     have p173 : 0 ≤ (x19_9 : Int) := of_decide_eq_true (by first | (with_reducible assumption) | assumption)
                                     have q173 : x19_9 < (x15_7.length : Int) := of_decide_eq_true (by first | (with_reducible assumption) | assumption)
                                     obtain ⟨ad173, e173, hx173_0⟩ := Kd.at_int (Kd.R_reads' HO_15.out).2.2 x19_9 p173 q173
                                     cases e173
                                     replace p173 := eq_true p173
                                     replace q173 := eq_true q173
                                     try go_wp2
                                     have n0_ := Aside0.mk (Kd.R_drew HO_7.out)
                                     have n1_ := Aside0.mk (Kd.R_drew HO_15.out)
                                     have n2_ := Aside0.mk (Kd.R_drew HO_118.out)
                                     have n3_ := Aside0.mk (blk_drew BK171.out)
                                     have n4_ := Aside0.mk (below_drew1 HB.out)
                                     clear HO_7
                                     clear HO_15
                                     clear HO_118
                                     clear BK171
                                     clear HB
                                     have HO_7 := n0_
                                     have HO_15 := n1_
                                     have HO_118 := n2_
                                     have BK171 := n3_
                                     have HB := n4_
                                     clear n0_ n1_ n2_ n3_ n4_
                                     have p174 : 0 ≤ (x18_52 : Int) := of_decide_eq_true (by first | (with_reducible assumption) | assumption)
                                     have q174 : x18_52 < (l0.length : Int) := of_decide_eq_true (by first | (with_reducible assumption) | assumption)
                                     obtain ⟨ad174, e174, hx174_0⟩ := Kd.at_string HR0.out x18_52 p174 q174
                                     have hw174_0 := hx174_0
                                     cases e174
                                     replace hx174_0 := (HB.out.cell (World.block_lt_of_cell? w _ hx174_0)).trans hx174_0
                                     replace p174 := eq_true p174
                                     replace q174 := eq_true q174
                                     have p175 : 0 ≤ (x19_9 : Int) := of_decide_eq_true (by first | (with_reducible assumption) | assumption)
                                     have q175 : x19_9 < (l0.length : Int) := of_decide_eq_true (by first | (with_reducible assumption) | assumption)
                                     obtain ⟨ad175, e175, hx175_0⟩ := Kd.at_string HR0.out x19_9 p175 q175
                                     have hw175_0 := hx175_0
                                     obtain rfl : ad174 = ad175 := (by injection e175)
                                     replace hx175_0 := (HB.out.cell (World.block_lt_of_cell? w _ hx175_0)).trans hx175_0
                                     replace p175 := eq_true p175
                                     replace q175 := eq_true q175
                                     have p176 : 0 ≤ (x18_52 : Int) := of_decide_eq_true (by first | (with_reducible assumption) | assumption)
                                     have q176 : x18_52 < (x15_7.length : Int) := of_decide_eq_true (by first | (with_reducible assumption) | assumption)
                                     obtain ⟨ad176, e176, hx176_0⟩ := Kd.at_int (Kd.R_reads' HO_15.out).2.2 x18_52 p176 q176
                                     obtain rfl : ad173 = ad176 := (by injection e176)
                                     replace p176 := eq_true p176
                                     replace q176 := eq_true q176
                                     have p177 : 0 ≤ (x19_9 : Int) := of_decide_eq_true (by first | (with_reducible assumption) | assumption)
                                     have q177 : x19_9 < (x15_7.length : Int) := of_decide_eq_true (by first | (with_reducible assumption) | assumption)
                                     obtain ⟨ad177, e177, hx177_0⟩ := Kd.at_int (Kd.R_reads' HO_15.out).2.2 x19_9 p177 q177
                                     obtain rfl : ad173 = ad177 := (by injection e177)
                                     replace p177 := eq_true p177
                                     replace q177 := eq_true q177
                                     refine start_ (n := 33) (S := fun w' => w'.cell? ⟨gb171, 0, none⟩ = some (.string ((rd_T67 t152 x120_7).f0)) ∧ w'.cell? ⟨gb171, 1, none⟩ = some (.string ((rd_T67 t152 x120_7).f1)) ∧ w'.cell? ⟨gb171, 2, none⟩ = some (.int .i64 ((rd_T67 t152 x120_7).f2)) ∧ w'.cell? (ad174.add (x18_52).toNat) = some (.string (rdOf ByteArray.empty l0 x18_52)) ∧ w'.cell? (ad174.add (x19_9).toNat) = some (.string (rdOf ByteArray.empty l0 x19_9)) ∧ w'.cell? (ad173.add (x18_52).toNat) = some (.int .i64 (rd x15_7 x18_52)) ∧ w'.cell? (ad173.add (x19_9).toNat) = some (.int .i64 (rd x15_7 x19_9))) (ds := []) mask_0 (by kernel_rfl) rfl rfl ⟨(blk_cell BK171.out 0).trans rfl, (blk_cell BK171.out 1).trans rfl, (blk_cell BK171.out 2).trans rfl, ((HB.out.cell (World.block_lt_of_cell? w _ hw174_0)).trans hw174_0), ((HB.out.cell (World.block_lt_of_cell? w _ hw175_0)).trans hw175_0), hx176_0, hx177_0⟩ (fun hHeld => ?_); refine with_tabW gridhalllaw3_LedgerSettles.tab40 gridhalllaw3_LedgerSettles.bits40 (fun HT_ HW_ => ?_)
                                     generalize wr.drew = w83 at HO_7 HO_15 HO_118 BK171 HB hx174_0 hx175_0 hx176_0 hx177_0 hHeld ⊢
                                     refine pure_ (i := 0) (N := some 150) (v := ?_) (a' := ?_) mask_1 rfl rfl (any_of HT_.out (by kernel_rfl)) (fun _ _ _ h => h) (Or.inl ⟨by rfl, ?_⟩) ?_ ?_
                                     rotate_left
                                     ·intro w'
                                      go_simp
                                      with_reducible rfl
                                     rotate_left
                                     ·simp only [Act.put, List.setIfInBounds_toArray, List.set_cons_zero, List.set_cons_succ, i64_w, i32_w]
                                      rfl
                                     refine pure_ (i := 1) (N := some 151) (v := ?_) (a' := ?_) mask_2 rfl rfl (any_of HT_.out (by kernel_rfl)) (fun _ _ _ h => h) (Or.inl ⟨by rfl, ?_⟩) ?_ ?_
                                     rotate_left
                                     ·intro w'
                                      go_simp
                                      with_reducible rfl
                                     rotate_left
                                     ·simp only [Act.put, List.setIfInBounds_toArray, List.set_cons_zero, List.set_cons_succ, i64_w, i32_w]
                                      rfl
                                     refine pure_ (i := 2) (N := some 152) (v := ?_) (a' := ?_) mask_3 rfl rfl (any_of HT_.out (by kernel_rfl)) (fun _ _ _ h => h) (Or.inl ⟨by rfl, ?_⟩) ?_ ?_
                                     rotate_left
                                     ·intro w'
                                      go_simp
                                      with_reducible rfl
                                     rotate_left
                                     ·simp only [Act.put, List.setIfInBounds_toArray, List.set_cons_zero, List.set_cons_succ, i64_w, i32_w]
                                      rfl
                                     refine pure_ (i := 3) (N := some 153) (v := ?_) (a' := ?_) mask_4 rfl rfl (any_of HT_.out (by kernel_rfl)) (fun _ _ _ h => h) (Or.inl ⟨by rfl, ?_⟩) ?_ ?_
                                     rotate_left
                                     ·intro w'
                                      go_simp
                                      with_reducible rfl
                                     rotate_left
                                     ·simp only [Act.put, List.setIfInBounds_toArray, List.set_cons_zero, List.set_cons_succ, i64_w, i32_w]
                                      rfl
                                     refine pure_ (i := 4) (N := some 154) (v := ?_) (a' := ?_) mask_5 rfl rfl (any_of HT_.out (by kernel_rfl)) (fun _ _ _ h => h) (Or.inl ⟨by rfl, ?_⟩) ?_ ?_
                                     rotate_left
                                     ·intro w'
                                      go_simp
                                      with_reducible rfl
                                     rotate_left
                                     ·simp only [Act.put, List.setIfInBounds_toArray, List.set_cons_zero, List.set_cons_succ, i64_w, i32_w]
                                      rfl
                                     refine pure_ (i := 5) (N := some 155) (v := ?_) (a' := ?_) mask_6 rfl rfl (any_of HT_.out (by kernel_rfl)) (fun _ _ _ h => h) (Or.inl ⟨by rfl, ?_⟩) ?_ ?_
                                     rotate_left
                                     ·intro w'
                                      go_simp
                                      with_reducible rfl
                                     rotate_left
                                     ·simp only [Act.put, List.setIfInBounds_toArray, List.set_cons_zero, List.set_cons_succ, i64_w, i32_w]
                                      rfl
                                     refine pure_ (i := 6) (N := some 156) (v := ?_) (a' := ?_) mask_7 rfl rfl (any_of HT_.out (by kernel_rfl)) (fun _ _ _ h => h) (Or.inl ⟨by rfl, ?_⟩) ?_ ?_
                                     rotate_left
                                     ·intro w'
                                      go_simp
                                      with_reducible rfl
                                     rotate_left
                                     ·simp only [Act.put, List.setIfInBounds_toArray, List.set_cons_zero, List.set_cons_succ, i64_w, i32_w]
                                      rfl
                                     refine pure_ (i := 7) (N := some 157) (v := ?_) (a' := ?_) mask_8 rfl rfl (any_of HT_.out (by kernel_rfl)) (fun _ _ _ h => h) (Or.inl ⟨by rfl, ?_⟩) ?_ ?_
                                     rotate_left
                                     ·intro w'
                                      go_simp
                                      with_reducible rfl
                                     rotate_left
                                     ·simp only [Act.put, List.setIfInBounds_toArray, List.set_cons_zero, List.set_cons_succ, i64_w, i32_w]
                                      rfl
                                     refine pure_ (i := 8) (N := some 158) (v := ?_) (a' := ?_) mask_9 rfl rfl (any_of HT_.out (by kernel_rfl)) (fun _ _ _ h => h) (Or.inl ⟨by rfl, ?_⟩) ?_ ?_
                                     rotate_left
                                     ·intro w'
                                      go_simp
                                      with_reducible rfl
                                     rotate_left
                                     ·simp only [Act.put, List.setIfInBounds_toArray, List.set_cons_zero, List.set_cons_succ, i64_w, i32_w]
                                      rfl
                                     refine pure_ (i := 9) (N := some 159) (v := ?_) (a' := ?_) mask_10 rfl rfl (any_of HT_.out (by kernel_rfl)) (fun _ _ _ h => h) (Or.inl ⟨by rfl, ?_⟩) ?_ ?_
                                     rotate_left
                                     ·intro w'
                                      go_simp
                                      with_reducible rfl
                                     rotate_left
                                     ·simp only [Act.put, List.setIfInBounds_toArray, List.set_cons_zero, List.set_cons_succ, i64_w, i32_w]
                                      rfl
                                     refine pure_ (i := 10) (N := some 160) (v := ?_) (a' := ?_) mask_11 rfl rfl (any_of HT_.out (by kernel_rfl)) (fun _ _ _ h => h) (Or.inl ⟨by rfl, ?_⟩) ?_ ?_
                                     rotate_left
                                     ·intro w'
                                      go_simp
                                      with_reducible rfl
                                     rotate_left
                                     ·simp only [Act.put, List.setIfInBounds_toArray, List.set_cons_zero, List.set_cons_succ, i64_w, i32_w]
                                      rfl
                                     refine pure_ (i := 12) (N := some 162) (v := ?_) (a' := ?_) mask_34 rfl rfl (any_of HT_.out (by kernel_rfl)) (fun _ _ _ h => h) (Or.inl ⟨by rfl, ?_⟩) ?_ ?_
                                     rotate_left
                                     ·intro w'
                                      go_simp
                                      with_reducible rfl
                                     rotate_left
                                     ·simp only [Act.put, List.setIfInBounds_toArray, List.set_cons_zero, List.set_cons_succ, i64_w, i32_w]
                                      rfl
                                     refine pure_ (i := 13) (N := some 163) (v := ?_) (a' := ?_) mask_35 rfl rfl (any_of HT_.out (by kernel_rfl)) (fun _ _ _ h => h) (Or.inl ⟨by rfl, ?_⟩) ?_ ?_
                                     rotate_left
                                     ·intro w'
                                      go_simp
                                      with_reducible rfl
                                     rotate_left
                                     ·simp only [Act.put, List.setIfInBounds_toArray, List.set_cons_zero, List.set_cons_succ, i64_w, i32_w]
                                      rfl
                                     refine pure_ (i := 14) (N := some 164) (v := ?_) (a' := ?_) mask_36 rfl rfl (any_of HT_.out (by kernel_rfl)) (fun _ _ _ h => h) (Or.inl ⟨by rfl, ?_⟩) ?_ ?_
                                     rotate_left
                                     ·intro w'
                                      go_simp
                                      with_reducible rfl
                                     rotate_left
                                     ·simp only [Act.put, List.setIfInBounds_toArray, List.set_cons_zero, List.set_cons_succ, i64_w, i32_w]
                                      rfl
                                     refine pure_ (i := 16) (N := some 166) (v := ?_) (a' := ?_) mask_37 rfl rfl (any_of HT_.out (by kernel_rfl)) (fun _ _ _ h => h) (Or.inl ⟨by rfl, ?_⟩) ?_ ?_
                                     rotate_left
                                     ·intro w'
                                      go_simp
                                      with_reducible rfl
                                     rotate_left
                                     ·simp only [Act.put, List.setIfInBounds_toArray, List.set_cons_zero, List.set_cons_succ, i64_w, i32_w]
                                      rfl
                                     refine pure_ (i := 17) (N := some 167) (v := ?_) (a' := ?_) mask_38 rfl rfl (any_of HT_.out (by kernel_rfl)) (fun _ _ _ h => h) (Or.inl ⟨by rfl, ?_⟩) ?_ ?_
                                     rotate_left
                                     ·intro w'
                                      go_simp
                                      with_reducible rfl
                                     rotate_left
                                     ·simp only [Act.put, List.setIfInBounds_toArray, List.set_cons_zero, List.set_cons_succ, i64_w, i32_w]
                                      rfl
                                     refine pure_ (i := 18) (N := some 168) (v := ?_) (a' := ?_) mask_39 rfl rfl (any_of HT_.out (by kernel_rfl)) (fun _ _ _ h => h) (Or.inl ⟨by rfl, ?_⟩) ?_ ?_
                                     rotate_left
                                     ·intro w'
                                      go_simp
                                      with_reducible rfl
                                     rotate_left
                                     ·simp only [Act.put, List.setIfInBounds_toArray, List.set_cons_zero, List.set_cons_succ, i64_w, i32_w]
                                      rfl
                                     refine pure_ (i := 20) (N := some 170) (v := ?_) (a' := ?_) mask_40 rfl rfl (any_of HT_.out (by kernel_rfl)) (fun _ _ _ h => h) (Or.inl ⟨by rfl, ?_⟩) ?_ ?_
                                     rotate_left
                                     ·intro w'
                                      go_simp
                                      with_reducible rfl
                                     rotate_left
                                     ·simp only [Act.put, List.setIfInBounds_toArray, List.set_cons_zero, List.set_cons_succ, i64_w, i32_w]
                                      rfl
                                     refine pure_ (i := 21) (N := some 171) (v := ?_) (a' := ?_) mask_41 rfl rfl (any_of HT_.out (by kernel_rfl)) (fun _ _ _ h => h) (Or.inl ⟨by rfl, ?_⟩) ?_ ?_
                                     rotate_left
                                     ·intro w'
                                      go_simp
                                      with_reducible rfl
                                     rotate_left
                                     ·simp only [Act.put, List.setIfInBounds_toArray, List.set_cons_zero, List.set_cons_succ, i64_w, i32_w]
                                      rfl
                                     refine pure_ (i := 22) (N := some 172) (v := ?_) (a' := ?_) mask_42 rfl rfl (any_of HT_.out (by kernel_rfl)) (fun _ _ _ h => h) (Or.inl ⟨by rfl, ?_⟩) ?_ ?_
                                     rotate_left
                                     ·intro w'
                                      go_simp
                                      with_reducible rfl
                                     rotate_left
                                     ·simp only [Act.put, List.setIfInBounds_toArray, List.set_cons_zero, List.set_cons_succ, i64_w, i32_w]
                                      rfl
                                     refine pure_ (i := 25) (N := some 175) (v := ?_) (a' := ?_) mask_43 rfl rfl (any_of HT_.out (by kernel_rfl)) (fun _ _ _ h => h) (Or.inl ⟨by rfl, ?_⟩) ?_ ?_
                                     rotate_left
                                     ·intro w'
                                      go_simp
                                      with_reducible rfl
                                     rotate_left
                                     ·simp only [Act.put, List.setIfInBounds_toArray, List.set_cons_zero, List.set_cons_succ, i64_w, i32_w]
                                      rfl
                                     refine pure_ (i := 26) (N := some 176) (v := ?_) (a' := ?_) mask_44 rfl rfl (any_of HT_.out (by kernel_rfl)) (fun _ _ _ h => h) (Or.inl ⟨by rfl, ?_⟩) ?_ ?_
                                     rotate_left
                                     ·intro w'
                                      go_simp
                                      with_reducible rfl
                                     rotate_left
                                     ·simp only [Act.put, List.setIfInBounds_toArray, List.set_cons_zero, List.set_cons_succ, i64_w, i32_w]
                                      rfl
                                     refine pure_ (i := 27) (N := some 177) (v := ?_) (a' := ?_) mask_45 rfl rfl (any_of HT_.out (by kernel_rfl)) (fun _ _ _ h => h) (Or.inl ⟨by rfl, ?_⟩) ?_ ?_
                                     rotate_left
                                     ·intro w'
                                      go_simp
                                      with_reducible rfl
                                     rotate_left
                                     ·simp only [Act.put, List.setIfInBounds_toArray, List.set_cons_zero, List.set_cons_succ, i64_w, i32_w]
                                      rfl
                                     refine take_ (i := 11) (N := some 161) (v := ?_) (a' := ?_) mask_46 rfl rfl (take_ofW HT_.out HW_.out (by kernel_rfl)) (fun _ _ _ h => h) (Or.inl ⟨by rfl, ?_⟩) hHeld ?_ ?_
                                     rotate_left
                                     ·rintro w' ⟨s0, s1, s2, s3, s4, s5, s6⟩
                                      go_simp
                                      with_reducible rfl
                                     rotate_left
                                     ·simp only [Act.put, List.setIfInBounds_toArray, List.set_cons_zero, List.set_cons_succ, i64_w, i32_w]
                                      rfl
                                     refine take_ (i := 15) (N := some 165) (v := ?_) (a' := ?_) mask_47 rfl rfl (take_ofW HT_.out HW_.out (by kernel_rfl)) (fun _ _ _ h => h) (Or.inl ⟨by rfl, ?_⟩) hHeld ?_ ?_
                                     rotate_left
                                     ·rintro w' ⟨s0, s1, s2, s3, s4, s5, s6⟩
                                      go_simp
                                      with_reducible rfl
                                     rotate_left
                                     ·simp only [Act.put, List.setIfInBounds_toArray, List.set_cons_zero, List.set_cons_succ, i64_w, i32_w]
                                      rfl
                                     refine take_ (i := 19) (N := some 169) (v := ?_) (a' := ?_) mask_48 rfl rfl (take_ofW HT_.out HW_.out (by kernel_rfl)) (fun _ _ _ h => h) (Or.inl ⟨by rfl, ?_⟩) hHeld ?_ ?_
                                     rotate_left
                                     ·rintro w' ⟨s0, s1, s2, s3, s4, s5, s6⟩
                                      go_simp
                                      with_reducible rfl
                                     rotate_left
                                     ·simp only [Act.put, List.setIfInBounds_toArray, List.set_cons_zero, List.set_cons_succ, i64_w, i32_w]
                                      rfl
                                     refine take_ (i := 23) (N := some 173) (v := ?_) (a' := ?_) mask_49 rfl rfl (take_ofW HT_.out HW_.out (by kernel_rfl)) (fun _ _ _ h => h) (Or.inl ⟨by rfl, ?_⟩) hHeld ?_ ?_
                                     rotate_left
                                     ·rintro w' ⟨s0, s1, s2, s3, s4, s5, s6⟩
                                      go_simp
                                      with_reducible rfl
                                     rotate_left
                                     ·simp only [Act.put, List.setIfInBounds_toArray, List.set_cons_zero, List.set_cons_succ, i64_w, i32_w]
                                      rfl
                                     refine pure_ (i := 24) (N := some 174) (v := ?_) (a' := ?_) mask_28 rfl rfl (any_of HT_.out (by kernel_rfl)) (fun _ _ _ h => h) (Or.inl ⟨by rfl, ?_⟩) ?_ ?_
                                     rotate_left
                                     ·intro w'
                                      go_simp
                                      with_reducible rfl
                                     rotate_left
                                     ·simp only [Act.put, List.setIfInBounds_toArray, List.set_cons_zero, List.set_cons_succ, i64_w, i32_w]
                                      rfl
                                     refine take_ (i := 28) (N := some 178) (v := ?_) (a' := ?_) mask_29 rfl rfl (take_ofW HT_.out HW_.out (by kernel_rfl)) (fun _ _ _ h => h) (Or.inl ⟨by rfl, ?_⟩) hHeld ?_ ?_
                                     rotate_left
                                     ·rintro w' ⟨s0, s1, s2, s3, s4, s5, s6⟩
                                      go_simp
                                      with_reducible rfl
                                     rotate_left
                                     ·simp only [Act.put, List.setIfInBounds_toArray, List.set_cons_zero, List.set_cons_succ, i64_w, i32_w]
                                      rfl
                                     refine pure_ (i := 29) (N := some 179) (v := ?_) (a' := ?_) mask_30 rfl rfl (any_of HT_.out (by kernel_rfl)) (fun _ _ _ h => h) (Or.inl ⟨by rfl, ?_⟩) ?_ ?_
                                     rotate_left
                                     ·intro w'
                                      go_simp
                                      with_reducible rfl
                                     rotate_left
                                     ·simp only [Act.put, List.setIfInBounds_toArray, List.set_cons_zero, List.set_cons_succ, i64_w, i32_w]
                                      rfl
                                     refine pure_ (i := 30) (N := some 180) (v := ?_) (a' := ?_) mask_31 rfl rfl (any_of HT_.out (by kernel_rfl)) (fun _ _ _ h => h) (Or.inl ⟨by rfl, ?_⟩) ?_ ?_
                                     rotate_left
                                     ·intro w'
                                      go_simp
                                      with_reducible rfl
                                     rotate_left
                                     ·simp only [Act.put, List.setIfInBounds_toArray, List.set_cons_zero, List.set_cons_succ, i64_w, i32_w]
                                      rfl
                                     refine pure_ (i := 31) (N := some 181) (v := ?_) (a' := ?_) mask_32 rfl rfl (any_of HT_.out (by kernel_rfl)) (fun _ _ _ h => h) (Or.inl ⟨by rfl, ?_⟩) ?_ ?_
                                     rotate_left
                                     ·intro w'
                                      go_simp
                                      with_reducible rfl
                                     rotate_left
                                     ·simp only [Act.put, List.setIfInBounds_toArray, List.set_cons_zero, List.set_cons_succ, i64_w, i32_w]
                                      rfl
                                     refine pure_ (i := 32) (N := some 182) (v := ?_) (a' := ?_) mask_33 rfl rfl (any_of HT_.out (by kernel_rfl)) (fun _ _ _ h => h) (Or.inl ⟨by rfl, ?_⟩) ?_ ?_
                                     rotate_left
                                     ·intro w'
                                      go_simp
                                      with_reducible rfl
                                     rotate_left
                                     ·simp only [Act.put, List.setIfInBounds_toArray, List.set_cons_zero, List.set_cons_succ, i64_w, i32_w]
                                      rfl
                                     refine done_ (done_of HT_.out (by kernel_rfl)) ?_
                                     try go_wp2
                                     have n0_ := Aside0.mk (Kd.R_drew HO_7.out)
                                     have n1_ := Aside0.mk (Kd.R_drew HO_15.out)
                                     have n2_ := Aside0.mk (Kd.R_drew HO_118.out)
                                     have n3_ := Aside0.mk (blk_drew BK171.out)
                                     have n4_ := Aside0.mk (below_drew1 HB.out)
                                     clear HO_7
                                     clear HO_15
                                     clear HO_118
                                     clear BK171
                                     clear HB
                                     have HO_7 := n0_
                                     have HO_15 := n1_
                                     have HO_118 := n2_
                                     have BK171 := n3_
                                     have HB := n4_
                                     clear n0_ n1_ n2_ n3_ n4_
                                     have p178 : 0 ≤ (x18_52 : Int) := of_decide_eq_true (by first | (with_reducible assumption) | assumption)
                                     have q178 : x18_52 < (x15_7.length : Int) := of_decide_eq_true (by first | (with_reducible assumption) | assumption)
                                     obtain ⟨ad178, e178, hx178_0⟩ := Kd.at_int (Kd.R_reads' HO_15.out).2.2 x18_52 p178 q178
                                     obtain rfl : ad173 = ad178 := (by injection e178)
                                     replace p178 := eq_true p178
                                     replace q178 := eq_true q178
                                     have p179 : 0 ≤ (x19_9 : Int) := of_decide_eq_true (by first | (with_reducible assumption) | assumption)
                                     have q179 : x19_9 < (x15_7.length : Int) := of_decide_eq_true (by first | (with_reducible assumption) | assumption)
                                     obtain ⟨ad179, e179, hx179_0⟩ := Kd.at_int (Kd.R_reads' HO_15.out).2.2 x19_9 p179 q179
                                     obtain rfl : ad173 = ad179 := (by injection e179)
                                     replace p179 := eq_true p179
                                     replace q179 := eq_true q179
                                     have p80 : 0 ≤ (x18_52 : Int) := of_decide_eq_true (by first | (with_reducible assumption) | assumption)
                                     have q80 : (x18_52 : Int) < ((x15_7.length : Int) : Int) := of_decide_eq_true (by first | (with_reducible assumption) | assumption)
                                     obtain ⟨go80, co80, eo80, gb80, gl80, cl80, HG80⟩ := Kd.R_form HO_15.out (by omega)
                                     (first | cases eo80 | (injection eo80 with ea_ en_ ec_; (first | subst ea_ | (injection ea_ with ea_; subst ea_)); subst ec_; clear en_))
                                     have GB80 := Aside0.mk gb80
                                     have GG80 := Aside0.mk HG80
                                     clear gb80 gl80 HG80
                                     (first | simp only [add_plain] at hx173_0 | skip)
                                     (first | simp only [add_plain] at hx176_0 | skip)
                                     (first | simp only [add_plain] at hx177_0 | skip)
                                     (first | simp only [add_plain] at hx178_0 | skip)
                                     (first | simp only [add_plain] at hx179_0 | skip)
                                     obtain ⟨hx80_0, hf80_0⟩ := Kd.R_celln 0 HO_15.out (x18_52 : Int) p80 q80
                                     replace p80 := eq_true p80
                                     replace q80 := eq_true q80
                                     have HP85 := Kd.R_putn HO_15.out (x18_52 : Int) (wrap64 ((rd x15_7 x18_52) + ((rd_T67 t152 x120_7).f2)))
                                     rw [← Ny180.out] at HP85
                                     have HQ85 := Aside0.mk HP85
                                     clear HP85
                                     have p81 : 0 ≤ (x19_9 : Int) := of_decide_eq_true (by first | (with_reducible assumption) | assumption)
                                     have q81 : (x19_9 : Int) < ((x15_7.length : Int) : Int) := of_decide_eq_true (by first | (with_reducible assumption) | assumption)
                                     obtain ⟨hx81_0, hf81_0⟩ := Kd.R_celln 0 HQ85.out (x19_9 : Int) p81 q81
                                     replace p81 := eq_true p81
                                     replace q81 := eq_true q81
                                     have HP86 := Kd.R_putn HQ85.out (x19_9 : Int) (wrap64 ((rd x15_7 x19_9) - ((rd_T67 t152 x120_7).f2)))
                                     rw [← Ny181.out] at HP86
                                     have HQ86 := Aside0.mk HP86
                                     clear HP86
                                     have hne_ : gb171 ≠ go80 := by
                                      intro e_
                                      have h1_ := BK171.out
                                      rw [e_, GG80.out] at h1_
                                      simp at h1_
                                     refine start_ (n := 22) (S := fun w' => w'.cell? ⟨gb171, 2, none⟩ = some (.int .i64 ((rd_T67 t152 x120_7).f2))) (ds := [21]) #[false, false, false, false, false, false, false, false, false, false, false, false, false, false, false, false, false, false, false, false, false, false] (by kernel_rfl) rfl rfl ((blk_cell BK171.out 2).trans rfl) (fun hHeld => ?_); refine with_tabW gridhalllaw3_LedgerSettles.tab42 gridhalllaw3_LedgerSettles.bits42 (fun HT_ HW_ => ?_)
                                     generalize w83.drew = w84 at HO_7 HO_15 HO_118 BK171 HB GG80 HQ85 HQ86 hf80_0 hf81_0 hx173_0 hx176_0 hx177_0 hx178_0 hx179_0 hx80_0 hx81_0 hHeld ⊢
                                     refine pure_ (i := 0) (N := some 183) (v := ?_) (a' := ?_) #[true, false, false, false, false, false, false, false, false, false, false, false, false, false, false, false, false, false, false, false, false, false] rfl rfl (any_of HT_.out (by kernel_rfl)) (fun _ _ _ h => h) (Or.inl ⟨by rfl, ?_⟩) ?_ ?_
                                     rotate_left
                                     ·intro w'
                                      go_simp
                                      with_reducible rfl
                                     rotate_left
                                     ·simp only [Act.put, List.setIfInBounds_toArray, List.set_cons_zero, List.set_cons_succ, i64_w, i32_w]
                                      rfl
                                     refine pure_ (i := 1) (N := some 184) (v := ?_) (a' := ?_) #[true, true, false, false, false, false, false, false, false, false, false, false, false, false, false, false, false, false, false, false, false, false] rfl rfl (any_of HT_.out (by kernel_rfl)) (fun _ _ _ h => h) (Or.inl ⟨by rfl, ?_⟩) ?_ ?_
                                     rotate_left
                                     ·intro w'
                                      go_simp
                                      with_reducible rfl
                                     rotate_left
                                     ·simp only [Act.put, List.setIfInBounds_toArray, List.set_cons_zero, List.set_cons_succ, i64_w, i32_w]
                                      rfl
                                     refine pure_ (i := 2) (N := some 185) (v := ?_) (a' := ?_) #[true, true, true, false, false, false, false, false, false, false, false, false, false, false, false, false, false, false, false, false, false, false] rfl rfl (any_of HT_.out (by kernel_rfl)) (fun _ _ _ h => h) (Or.inl ⟨by rfl, ?_⟩) ?_ ?_
                                     rotate_left
                                     ·intro w'
                                      go_simp
                                      with_reducible rfl
                                     rotate_left
                                     ·simp only [Act.put, List.setIfInBounds_toArray, List.set_cons_zero, List.set_cons_succ, i64_w, i32_w]
                                      rfl
                                     refine pure_ (i := 3) (N := some 186) (v := ?_) (a' := ?_) #[true, true, true, true, false, false, false, false, false, false, false, false, false, false, false, false, false, false, false, false, false, false] rfl rfl (any_of HT_.out (by kernel_rfl)) (fun _ _ _ h => h) (Or.inl ⟨by rfl, ?_⟩) ?_ ?_
                                     rotate_left
                                     ·intro w'
                                      go_simp
                                      with_reducible rfl
                                     rotate_left
                                     ·simp only [Act.put, List.setIfInBounds_toArray, List.set_cons_zero, List.set_cons_succ, i64_w, i32_w]
                                      rfl
                                     refine pure_ (i := 4) (N := some 187) (v := ?_) (a' := ?_) #[true, true, true, true, true, false, false, false, false, false, false, false, false, false, false, false, false, false, false, false, false, false] rfl rfl (any_of HT_.out (by kernel_rfl)) (fun _ _ _ h => h) (Or.inl ⟨by rfl, ?_⟩) ?_ ?_
                                     rotate_left
                                     ·intro w'
                                      go_simp
                                      with_reducible rfl
                                     rotate_left
                                     ·simp only [Act.put, List.setIfInBounds_toArray, List.set_cons_zero, List.set_cons_succ, i64_w, i32_w]
                                      rfl
                                     refine pure_ (i := 5) (N := some 188) (v := ?_) (a' := ?_) #[true, true, true, true, true, true, false, false, false, false, false, false, false, false, false, false, false, false, false, false, false, false] rfl rfl (any_of HT_.out (by kernel_rfl)) (fun _ _ _ h => h) (Or.inl ⟨by rfl, ?_⟩) ?_ ?_
                                     rotate_left
                                     ·intro w'
                                      go_simp
                                      with_reducible rfl
                                     rotate_left
                                     ·simp only [Act.put, List.setIfInBounds_toArray, List.set_cons_zero, List.set_cons_succ, i64_w, i32_w]
                                      rfl
                                     refine pure_ (i := 6) (N := some 189) (v := ?_) (a' := ?_) #[true, true, true, true, true, true, true, false, false, false, false, false, false, false, false, false, false, false, false, false, false, false] rfl rfl (any_of HT_.out (by kernel_rfl)) (fun _ _ _ h => h) (Or.inl ⟨by rfl, ?_⟩) ?_ ?_
                                     rotate_left
                                     ·intro w'
                                      go_simp
                                      with_reducible rfl
                                     rotate_left
                                     ·simp only [Act.put, List.setIfInBounds_toArray, List.set_cons_zero, List.set_cons_succ, i64_w, i32_w]
                                      rfl
                                     refine pure_ (i := 8) (N := some 191) (v := ?_) (a' := ?_) #[true, true, true, true, true, true, true, false, true, false, false, false, false, false, false, false, false, false, false, false, false, false] rfl rfl (any_of HT_.out (by kernel_rfl)) (fun _ _ _ h => h) (Or.inl ⟨by rfl, ?_⟩) ?_ ?_
                                     rotate_left
                                     ·intro w'
                                      go_simp
                                      with_reducible rfl
                                     rotate_left
                                     ·simp only [Act.put, List.setIfInBounds_toArray, List.set_cons_zero, List.set_cons_succ, i64_w, i32_w]
                                      rfl
                                     refine pure_ (i := 11) (N := some 194) (v := ?_) (a' := ?_) #[true, true, true, true, true, true, true, false, true, false, false, true, false, false, false, false, false, false, false, false, false, false] rfl rfl (any_of HT_.out (by kernel_rfl)) (fun _ _ _ h => h) (Or.inl ⟨by rfl, ?_⟩) ?_ ?_
                                     rotate_left
                                     ·intro w'
                                      go_simp
                                      with_reducible rfl
                                     rotate_left
                                     ·simp only [Act.put, List.setIfInBounds_toArray, List.set_cons_zero, List.set_cons_succ, i64_w, i32_w]
                                      rfl
                                     refine pure_ (i := 12) (N := some 195) (v := ?_) (a' := ?_) #[true, true, true, true, true, true, true, false, true, false, false, true, true, false, false, false, false, false, false, false, false, false] rfl rfl (any_of HT_.out (by kernel_rfl)) (fun _ _ _ h => h) (Or.inl ⟨by rfl, ?_⟩) ?_ ?_
                                     rotate_left
                                     ·intro w'
                                      go_simp
                                      with_reducible rfl
                                     rotate_left
                                     ·simp only [Act.put, List.setIfInBounds_toArray, List.set_cons_zero, List.set_cons_succ, i64_w, i32_w]
                                      rfl
                                     refine pure_ (i := 13) (N := some 196) (v := ?_) (a' := ?_) #[true, true, true, true, true, true, true, false, true, false, false, true, true, true, false, false, false, false, false, false, false, false] rfl rfl (any_of HT_.out (by kernel_rfl)) (fun _ _ _ h => h) (Or.inl ⟨by rfl, ?_⟩) ?_ ?_
                                     rotate_left
                                     ·intro w'
                                      go_simp
                                      with_reducible rfl
                                     rotate_left
                                     ·simp only [Act.put, List.setIfInBounds_toArray, List.set_cons_zero, List.set_cons_succ, i64_w, i32_w]
                                      rfl
                                     refine pure_ (i := 15) (N := some 198) (v := ?_) (a' := ?_) #[true, true, true, true, true, true, true, false, true, false, false, true, true, true, false, true, false, false, false, false, false, false] rfl rfl (any_of HT_.out (by kernel_rfl)) (fun _ _ _ h => h) (Or.inl ⟨by rfl, ?_⟩) ?_ ?_
                                     rotate_left
                                     ·intro w'
                                      go_simp
                                      with_reducible rfl
                                     rotate_left
                                     ·simp only [Act.put, List.setIfInBounds_toArray, List.set_cons_zero, List.set_cons_succ, i64_w, i32_w]
                                      rfl
                                     refine take_ (i := 9) (N := some 192) (v := ?_) (a' := ?_) #[true, true, true, true, true, true, true, false, true, true, false, true, true, true, false, true, false, false, false, false, false, false] rfl rfl (take_ofW HT_.out HW_.out (by kernel_rfl)) (fun _ _ _ h => h) (Or.inl ⟨by rfl, ?_⟩) hHeld ?_ ?_
                                     rotate_left
                                     ·intro w' s0
                                      go_simp
                                      with_reducible rfl
                                     rotate_left
                                     ·simp only [Act.put, List.setIfInBounds_toArray, List.set_cons_zero, List.set_cons_succ, i64_w, i32_w]
                                      rfl
                                     refine take_ (i := 16) (N := some 199) (v := ?_) (a' := ?_) #[true, true, true, true, true, true, true, false, true, true, false, true, true, true, false, true, true, false, false, false, false, false] rfl rfl (take_ofW HT_.out HW_.out (by kernel_rfl)) (fun _ _ _ h => h) (Or.inl ⟨by rfl, ?_⟩) hHeld ?_ ?_
                                     rotate_left
                                     ·intro w' s0
                                      go_simp
                                      with_reducible rfl
                                     rotate_left
                                     ·simp only [Act.put, List.setIfInBounds_toArray, List.set_cons_zero, List.set_cons_succ, i64_w, i32_w]
                                      rfl
                                     refine two_ (i := 7) (j := 14) (Ni := some 190) (Nj := some 197) #[true, true, true, true, true, true, true, true, true, true, false, true, true, true, false, true, true, false, false, false, false, false] #[true, true, true, true, true, true, true, false, true, true, false, true, true, true, true, true, true, false, false, false, false, false] rfl rfl rfl rfl (by kernel_rfl) (by decide) (by decide) (fun K hK => ?_) (fun K hK => ?_)
                                     ·skip
                                      refine value_ (w1 := ?_) (v := ?_) (by rfl) rfl ?_ ?_
                                      rotate_left 2
                                      ·go_simp
                                       constructor
                                       ·rfl
                                       ·rfl
                                      refine hK.out _ _ (hHeld) (fun hHeld => ?_)
                                      clear hK K
                                      refine norm_ (a' := ?_) ?_ ?_
                                      rotate_left
                                      ·show Act.put _ (some 190) _ = _
                                       simp only [Act.put, List.setIfInBounds_toArray, List.set_cons_zero, List.set_cons_succ, i64_w, i32_w]
                                       rfl
                                      refine pure_ (i := 10) (N := some 193) (v := ?_) (a' := ?_) #[true, true, true, true, true, true, true, true, true, true, true, true, true, true, false, true, true, false, false, false, false, false] rfl rfl (any_of HT_.out (by kernel_rfl)) (fun _ _ _ h => h) (Or.inl ⟨by rfl, ?_⟩) ?_ ?_
                                      rotate_left
                                      ·intro w'
                                       go_simp
                                       with_reducible rfl
                                      rotate_left
                                      ·simp only [Act.put, List.setIfInBounds_toArray, List.set_cons_zero, List.set_cons_succ, i64_w, i32_w]
                                       rfl
                                      refine one_ (i := 14) (N := some 197) #[true, true, true, true, true, true, true, true, true, true, true, true, true, true, true, true, true, false, false, false, false, false] rfl rfl (one_of HT_.out (by kernel_rfl)) (by decide) (fun K hK => ?_)
                                      refine value_ (w1 := ?_) (v := ?_) (by rfl) rfl ?_ ?_
                                      rotate_left 2
                                      ·go_simp
                                       constructor
                                       ·rfl
                                       ·rfl
                                      refine hK.out _ _ (hHeld) (fun hHeld => ?_)
                                      clear hK K
                                      refine norm_ (a' := ?_) ?_ ?_
                                      rotate_left
                                      ·show Act.put _ (some 197) _ = _
                                       simp only [Act.put, List.setIfInBounds_toArray, List.set_cons_zero, List.set_cons_succ, i64_w, i32_w]
                                       rfl
                                      refine pure_ (i := 17) (N := some 200) (v := ?_) (a' := ?_) mask_50 rfl rfl (any_of HT_.out (by kernel_rfl)) (fun _ _ _ h => h) (Or.inl ⟨by rfl, ?_⟩) ?_ ?_
                                      rotate_left
                                      ·intro w'
                                       go_simp
                                       with_reducible rfl
                                      rotate_left
                                      ·simp only [Act.put, List.setIfInBounds_toArray, List.set_cons_zero, List.set_cons_succ, i64_w, i32_w]
                                       rfl
                                      refine pure_ (i := 18) (N := some 201) (v := ?_) (a' := ?_) mask_51 rfl rfl (any_of HT_.out (by kernel_rfl)) (fun _ _ _ h => h) (Or.inl ⟨by rfl, ?_⟩) ?_ ?_
                                      rotate_left
                                      ·intro w'
                                       go_simp
                                       with_reducible rfl
                                      rotate_left
                                      ·simp only [Act.put, List.setIfInBounds_toArray, List.set_cons_zero, List.set_cons_succ, i64_w, i32_w]
                                       rfl
                                      refine one_ (i := 19) (N := none) mask_52 rfl rfl (one_of HT_.out (by kernel_rfl)) (by decide) (fun K hK => ?_)
                                      refine skip_ (w1 := ?_) (by rfl) rfl ?_ ?_
                                      rotate_left
                                      ·go_simp
                                       rfl
                                      refine hK.out _ _ ((cell_far (p := ⟨go80, (x18_52 : Int).toNat, none⟩) hne_ _).trans hHeld) (fun hHeld => ?_)
                                      clear hK K
                                      refine pure_ (i := 20) (N := some 202) (v := ?_) (a' := ?_) mask_53 rfl rfl (any_of HT_.out (by kernel_rfl)) (fun _ _ _ h => h) (Or.inl ⟨by rfl, ?_⟩) ?_ ?_
                                      rotate_left
                                      ·intro w'
                                       go_simp
                                       with_reducible rfl
                                      rotate_left
                                      ·simp only [Act.put, List.setIfInBounds_toArray, List.set_cons_zero, List.set_cons_succ, i64_w, i32_w]
                                       rfl
                                      refine last_ (i := 21) (N := none) mask_54 rfl rfl (one_of HT_.out (by kernel_rfl)) (by decide) (fun K hK => ?_)
                                      refine skip_ (w1 := ?_) (by rfl) rfl ?_ ?_
                                      rotate_left
                                      ·go_simp
                                       rfl
                                      refine hK.out _ _ ?_
                                      clear hK K
                                      refine done_ (done_of HT_.out (by kernel_rfl)) ?_
                                      try go_wp2
                                      go_roundg k9
                                      case measure => have := HJ3.out; have := HJ15.out; have := HK3.out; have := HJ19.out; have := HJ39.out; have := HJ41.out; have := HK7.out; have := HJ52.out; have := HK9.out; omega
                                      case rel => exact ⟨(y181), (wrap64 (x120_7 + 1)), (by first | rfl | (simp; done) | (simp [*]; done)), H', ⟨by have := HJ3.out; have := HJ15.out; have := HK3.out; have := HJ19.out; have := HJ39.out; have := HJ41.out; have := HK7.out; have := HJ52.out; have := HK9.out; omega⟩, ⟨by (with_reducible repeat (first | apply Kd.R_alloc | apply Kd.R_drewN | apply Kd.R_drew)); exact Kd.R_mono (Kd.R_far (p := ⟨go80, (x19_9 : Int).toNat, none⟩) (Kd.R_far (p := ⟨go80, (x18_52 : Int).toNat, none⟩) (Kd.R_types HO_7.out GG80.out (by decide)) (fun _ hk => hk.2) (.int .i64 (wrap64 ((rd x15_7 x18_52) + ((rd_T67 t152 x120_7).f2))))) (fun _ hk => hk.2) (.int .i64 (wrap64 ((rd x15_7 x19_9) - ((rd_T67 t152 x120_7).f2))))) (fun _ hk => trivial)⟩, ⟨by (with_reducible repeat (first | apply Kd.R_alloc | apply Kd.R_drewN | apply Kd.R_drew)); exact HQ86.out⟩, ⟨by (with_reducible repeat (first | apply Kd.R_alloc | apply Kd.R_drewN | apply Kd.R_drew)); exact Kd.R_mono (Kd.R_far (p := ⟨go80, (x19_9 : Int).toNat, none⟩) (Kd.R_far (p := ⟨go80, (x18_52 : Int).toNat, none⟩) (Kd.R_types HO_118.out GG80.out (by decide)) (fun _ hk => hk.2) (.int .i64 (wrap64 ((rd x15_7 x18_52) + ((rd_T67 t152 x120_7).f2))))) (fun _ hk => hk.2) (.int .i64 (wrap64 ((rd x15_7 x19_9) - ((rd_T67 t152 x120_7).f2))))) (fun _ hk => trivial)⟩, ⟨by repeat (first | (with_reducible first | exact HB.out | apply below_alloc | apply pw_below_drewN | apply below_drew1 | refine below_set ?_ GB80.out | refine below_set ?_ GB80.out | refine below_set ?_ GE171.out) | exact HB.out)⟩⟩
                                     ·skip
                                      refine value_ (w1 := ?_) (v := ?_) (by rfl) rfl ?_ ?_
                                      rotate_left 2
                                      ·go_simp
                                       constructor
                                       ·rfl
                                       ·rfl
                                      refine hK.out _ _ (hHeld) (fun hHeld => ?_)
                                      clear hK K
                                      refine norm_ (a' := ?_) ?_ ?_
                                      rotate_left
                                      ·show Act.put _ (some 197) _ = _
                                       simp only [Act.put, List.setIfInBounds_toArray, List.set_cons_zero, List.set_cons_succ, i64_w, i32_w]
                                       rfl
                                      refine pure_ (i := 17) (N := some 200) (v := ?_) (a' := ?_) #[true, true, true, true, true, true, true, false, true, true, false, true, true, true, true, true, true, true, false, false, false, false] rfl rfl (any_of HT_.out (by kernel_rfl)) (fun _ _ _ h => h) (Or.inl ⟨by rfl, ?_⟩) ?_ ?_
                                      rotate_left
                                      ·intro w'
                                       go_simp
                                       with_reducible rfl
                                      rotate_left
                                      ·simp only [Act.put, List.setIfInBounds_toArray, List.set_cons_zero, List.set_cons_succ, i64_w, i32_w]
                                       rfl
                                      refine one_ (i := 7) (N := some 190) #[true, true, true, true, true, true, true, true, true, true, false, true, true, true, true, true, true, true, false, false, false, false] rfl rfl (one_of HT_.out (by kernel_rfl)) (by decide) (fun K hK => ?_)
                                      refine value_ (w1 := ?_) (v := ?_) (by rfl) rfl ?_ ?_
                                      rotate_left 2
                                      ·go_simp
                                       constructor
                                       ·rfl
                                       ·rfl
                                      refine hK.out _ _ (hHeld) (fun hHeld => ?_)
                                      clear hK K
                                      refine norm_ (a' := ?_) ?_ ?_
                                      rotate_left
                                      ·show Act.put _ (some 190) _ = _
                                       simp only [Act.put, List.setIfInBounds_toArray, List.set_cons_zero, List.set_cons_succ, i64_w, i32_w]
                                       rfl
                                      refine pure_ (i := 10) (N := some 193) (v := ?_) (a' := ?_) mask_50 rfl rfl (any_of HT_.out (by kernel_rfl)) (fun _ _ _ h => h) (Or.inl ⟨by rfl, ?_⟩) ?_ ?_
                                      rotate_left
                                      ·intro w'
                                       go_simp
                                       with_reducible rfl
                                      rotate_left
                                      ·simp only [Act.put, List.setIfInBounds_toArray, List.set_cons_zero, List.set_cons_succ, i64_w, i32_w]
                                       rfl
                                      refine pure_ (i := 18) (N := some 201) (v := ?_) (a' := ?_) mask_51 rfl rfl (any_of HT_.out (by kernel_rfl)) (fun _ _ _ h => h) (Or.inl ⟨by rfl, ?_⟩) ?_ ?_
                                      rotate_left
                                      ·intro w'
                                       go_simp
                                       with_reducible rfl
                                      rotate_left
                                      ·simp only [Act.put, List.setIfInBounds_toArray, List.set_cons_zero, List.set_cons_succ, i64_w, i32_w]
                                       rfl
                                      refine one_ (i := 19) (N := none) mask_52 rfl rfl (one_of HT_.out (by kernel_rfl)) (by decide) (fun K hK => ?_)
                                      refine skip_ (w1 := ?_) (by rfl) rfl ?_ ?_
                                      rotate_left
                                      ·go_simp
                                       rfl
                                      refine hK.out _ _ ((cell_far (p := ⟨go80, (x18_52 : Int).toNat, none⟩) hne_ _).trans hHeld) (fun hHeld => ?_)
                                      clear hK K
                                      refine pure_ (i := 20) (N := some 202) (v := ?_) (a' := ?_) mask_53 rfl rfl (any_of HT_.out (by kernel_rfl)) (fun _ _ _ h => h) (Or.inl ⟨by rfl, ?_⟩) ?_ ?_
                                      rotate_left
                                      ·intro w'
                                       go_simp
                                       with_reducible rfl
                                      rotate_left
                                      ·simp only [Act.put, List.setIfInBounds_toArray, List.set_cons_zero, List.set_cons_succ, i64_w, i32_w]
                                       rfl
                                      refine last_ (i := 21) (N := none) mask_54 rfl rfl (one_of HT_.out (by kernel_rfl)) (by decide) (fun K hK => ?_)
                                      refine skip_ (w1 := ?_) (by rfl) rfl ?_ ?_
                                      rotate_left
                                      ·go_simp
                                       rfl
                                      refine hK.out _ _ ?_
                                      clear hK K
                                      refine done_ (done_of HT_.out (by kernel_rfl)) ?_
                                      try go_wp2
                                      go_roundg k9
                                      case measure => have := HJ3.out; have := HJ15.out; have := HK3.out; have := HJ19.out; have := HJ39.out; have := HJ41.out; have := HK7.out; have := HJ52.out; have := HK9.out; omega
                                      case rel => exact ⟨(y181), (wrap64 (x120_7 + 1)), (by first | rfl | (simp; done) | (simp [*]; done)), H', ⟨by have := HJ3.out; have := HJ15.out; have := HK3.out; have := HJ19.out; have := HJ39.out; have := HJ41.out; have := HK7.out; have := HJ52.out; have := HK9.out; omega⟩, ⟨by (with_reducible repeat (first | apply Kd.R_alloc | apply Kd.R_drewN | apply Kd.R_drew)); exact Kd.R_mono (Kd.R_far (p := ⟨go80, (x19_9 : Int).toNat, none⟩) (Kd.R_far (p := ⟨go80, (x18_52 : Int).toNat, none⟩) (Kd.R_types HO_7.out GG80.out (by decide)) (fun _ hk => hk.2) (.int .i64 (wrap64 ((rd x15_7 x18_52) + ((rd_T67 t152 x120_7).f2))))) (fun _ hk => hk.2) (.int .i64 (wrap64 ((rd x15_7 x19_9) - ((rd_T67 t152 x120_7).f2))))) (fun _ hk => trivial)⟩, ⟨by (with_reducible repeat (first | apply Kd.R_alloc | apply Kd.R_drewN | apply Kd.R_drew)); exact HQ86.out⟩, ⟨by (with_reducible repeat (first | apply Kd.R_alloc | apply Kd.R_drewN | apply Kd.R_drew)); exact Kd.R_mono (Kd.R_far (p := ⟨go80, (x19_9 : Int).toNat, none⟩) (Kd.R_far (p := ⟨go80, (x18_52 : Int).toNat, none⟩) (Kd.R_types HO_118.out GG80.out (by decide)) (fun _ hk => hk.2) (.int .i64 (wrap64 ((rd x15_7 x18_52) + ((rd_T67 t152 x120_7).f2))))) (fun _ hk => hk.2) (.int .i64 (wrap64 ((rd x15_7 x19_9) - ((rd_T67 t152 x120_7).f2))))) (fun _ hk => trivial)⟩, ⟨by repeat (first | (with_reducible first | exact HB.out | apply below_alloc | apply pw_below_drewN | apply below_drew1 | refine below_set ?_ GB80.out | refine below_set ?_ GB80.out | refine below_set ?_ GE171.out) | exact HB.out)⟩⟩
                                  ·rw [if_neg c75] at H
                                   exact absurd H (by simp)
                                 ·rw [if_neg c74] at H
                                  exact absurd H (by simp)
                                ·rw [if_neg c73] at H
                                 exact absurd H (by simp)
                               ·rw [if_neg c72] at H
                                exact absurd H (by simp)
                           ·rw [if_neg c63] at H
                            exact absurd H (by simp)
                          ·rw [if_neg c62] at H
                           have c62b0 : decide (x19_9 < (x15_7.length : Int)) = false := decide_eq_false c62
                           clear c62
                           by_cases c87 : x18_52 = (x15_7.length : Int)
                           ·rw [if_pos c87] at H
                            have c87b0 : (x18_52 == (x15_7.length : Int)) = true := beq_iff_eq.mpr c87
                            have c87b1 : (x18_52 != (x15_7.length : Int)) = false := bne_eq_false_iff_eq.mpr c87
                            clear c87
                            as_aux_lemma =>
                             obtain rfl := Option.some.inj H
                             obtain ⟨Ao88, co88, eo88⟩ := Kd.R_slice HO_15.out
                             subst eo88
                             try go_wp2
                             have n0_ := Aside0.mk (Kd.R_drew HO_7.out)
                             have n1_ := Aside0.mk (Kd.R_drew HO_15.out)
                             have n2_ := Aside0.mk (Kd.R_drew HO_118.out)
                             have n3_ := Aside0.mk (blk_drew BK171.out)
                             have n4_ := Aside0.mk (below_drew1 HB.out)
                             clear HO_7
                             clear HO_15
                             clear HO_118
                             clear BK171
                             clear HB
                             have HO_7 := n0_
                             have HO_15 := n1_
                             have HO_118 := n2_
                             have BK171 := n3_
                             have HB := n4_
                             clear n0_ n1_ n2_ n3_ n4_
                             refine start_ (n := 33) (S := fun w' => True) (ds := []) mask_0 (by kernel_rfl) rfl rfl trivial (fun hHeld => ?_); refine with_tabW gridhalllaw3_LedgerSettles.tab40 gridhalllaw3_LedgerSettles.bits40 (fun HT_ HW_ => ?_)
                             generalize wr.drew = w89 at HO_7 HO_15 HO_118 BK171 HB hHeld ⊢
                             refine pure_ (i := 0) (N := some 150) (v := ?_) (a' := ?_) mask_1 rfl rfl (any_of HT_.out (by kernel_rfl)) (fun _ _ _ h => h) (Or.inl ⟨by rfl, ?_⟩) ?_ ?_
                             rotate_left
                             ·intro w'
                              go_simp
                              with_reducible rfl
                             rotate_left
                             ·simp only [Act.put, List.setIfInBounds_toArray, List.set_cons_zero, List.set_cons_succ, i64_w, i32_w]
                              rfl
                             refine pure_ (i := 1) (N := some 151) (v := ?_) (a' := ?_) mask_2 rfl rfl (any_of HT_.out (by kernel_rfl)) (fun _ _ _ h => h) (Or.inl ⟨by rfl, ?_⟩) ?_ ?_
                             rotate_left
                             ·intro w'
                              go_simp
                              with_reducible rfl
                             rotate_left
                             ·simp only [Act.put, List.setIfInBounds_toArray, List.set_cons_zero, List.set_cons_succ, i64_w, i32_w]
                              rfl
                             refine pure_ (i := 2) (N := some 152) (v := ?_) (a' := ?_) mask_3 rfl rfl (any_of HT_.out (by kernel_rfl)) (fun _ _ _ h => h) (Or.inl ⟨by rfl, ?_⟩) ?_ ?_
                             rotate_left
                             ·intro w'
                              go_simp
                              with_reducible rfl
                             rotate_left
                             ·simp only [Act.put, List.setIfInBounds_toArray, List.set_cons_zero, List.set_cons_succ, i64_w, i32_w]
                              rfl
                             refine pure_ (i := 3) (N := some 153) (v := ?_) (a' := ?_) mask_4 rfl rfl (any_of HT_.out (by kernel_rfl)) (fun _ _ _ h => h) (Or.inl ⟨by rfl, ?_⟩) ?_ ?_
                             rotate_left
                             ·intro w'
                              go_simp
                              with_reducible rfl
                             rotate_left
                             ·simp only [Act.put, List.setIfInBounds_toArray, List.set_cons_zero, List.set_cons_succ, i64_w, i32_w]
                              rfl
                             refine pure_ (i := 4) (N := some 154) (v := ?_) (a' := ?_) mask_5 rfl rfl (any_of HT_.out (by kernel_rfl)) (fun _ _ _ h => h) (Or.inl ⟨by rfl, ?_⟩) ?_ ?_
                             rotate_left
                             ·intro w'
                              go_simp
                              with_reducible rfl
                             rotate_left
                             ·simp only [Act.put, List.setIfInBounds_toArray, List.set_cons_zero, List.set_cons_succ, i64_w, i32_w]
                              rfl
                             refine pure_ (i := 5) (N := some 155) (v := undef) (a' := ?_) mask_6 rfl rfl (any_of HT_.out (by kernel_rfl)) (fun _ _ _ h => h) (Or.inr ⟨by rfl, rfl⟩) ?_ ?_
                             rotate_left
                             ·simp only [Act.put, List.setIfInBounds_toArray, List.set_cons_zero, List.set_cons_succ, i64_w, i32_w]
                              rfl
                             refine pure_ (i := 6) (N := some 156) (v := undef) (a' := ?_) mask_7 rfl rfl (any_of HT_.out (by kernel_rfl)) (fun _ _ _ h => h) (Or.inr ⟨by rfl, rfl⟩) ?_ ?_
                             rotate_left
                             ·simp only [Act.put, List.setIfInBounds_toArray, List.set_cons_zero, List.set_cons_succ, i64_w, i32_w]
                              rfl
                             refine pure_ (i := 7) (N := some 157) (v := undef) (a' := ?_) mask_8 rfl rfl (any_of HT_.out (by kernel_rfl)) (fun _ _ _ h => h) (Or.inr ⟨by rfl, rfl⟩) ?_ ?_
                             rotate_left
                             ·simp only [Act.put, List.setIfInBounds_toArray, List.set_cons_zero, List.set_cons_succ, i64_w, i32_w]
                              rfl
                             refine pure_ (i := 8) (N := some 158) (v := undef) (a' := ?_) mask_9 rfl rfl (any_of HT_.out (by kernel_rfl)) (fun _ _ _ h => h) (Or.inr ⟨by rfl, rfl⟩) ?_ ?_
                             rotate_left
                             ·simp only [Act.put, List.setIfInBounds_toArray, List.set_cons_zero, List.set_cons_succ, i64_w, i32_w]
                              rfl
                             refine pure_ (i := 9) (N := some 159) (v := ?_) (a' := ?_) mask_10 rfl rfl (any_of HT_.out (by kernel_rfl)) (fun _ _ _ h => h) (Or.inl ⟨by rfl, ?_⟩) ?_ ?_
                             rotate_left
                             ·intro w'
                              go_simp
                              with_reducible rfl
                             rotate_left
                             ·simp only [Act.put, List.setIfInBounds_toArray, List.set_cons_zero, List.set_cons_succ, i64_w, i32_w]
                              rfl
                             refine pure_ (i := 10) (N := some 160) (v := ?_) (a' := ?_) mask_11 rfl rfl (any_of HT_.out (by kernel_rfl)) (fun _ _ _ h => h) (Or.inl ⟨by rfl, ?_⟩) ?_ ?_
                             rotate_left
                             ·intro w'
                              go_simp
                              with_reducible rfl
                             rotate_left
                             ·simp only [Act.put, List.setIfInBounds_toArray, List.set_cons_zero, List.set_cons_succ, i64_w, i32_w]
                              rfl
                             refine pure_ (i := 11) (N := some 161) (v := undef) (a' := ?_) mask_12 rfl rfl (any_of HT_.out (by kernel_rfl)) (fun _ _ _ h => h) (Or.inr ⟨by rfl, rfl⟩) ?_ ?_
                             rotate_left
                             ·simp only [Act.put, List.setIfInBounds_toArray, List.set_cons_zero, List.set_cons_succ, i64_w, i32_w]
                              rfl
                             refine pure_ (i := 12) (N := some 162) (v := undef) (a' := ?_) mask_13 rfl rfl (any_of HT_.out (by kernel_rfl)) (fun _ _ _ h => h) (Or.inr ⟨by rfl, rfl⟩) ?_ ?_
                             rotate_left
                             ·simp only [Act.put, List.setIfInBounds_toArray, List.set_cons_zero, List.set_cons_succ, i64_w, i32_w]
                              rfl
                             refine pure_ (i := 13) (N := some 163) (v := undef) (a' := ?_) mask_14 rfl rfl (any_of HT_.out (by kernel_rfl)) (fun _ _ _ h => h) (Or.inr ⟨by rfl, rfl⟩) ?_ ?_
                             rotate_left
                             ·simp only [Act.put, List.setIfInBounds_toArray, List.set_cons_zero, List.set_cons_succ, i64_w, i32_w]
                              rfl
                             refine pure_ (i := 14) (N := some 164) (v := undef) (a' := ?_) mask_15 rfl rfl (any_of HT_.out (by kernel_rfl)) (fun _ _ _ h => h) (Or.inr ⟨by rfl, rfl⟩) ?_ ?_
                             rotate_left
                             ·simp only [Act.put, List.setIfInBounds_toArray, List.set_cons_zero, List.set_cons_succ, i64_w, i32_w]
                              rfl
                             refine pure_ (i := 15) (N := some 165) (v := undef) (a' := ?_) mask_16 rfl rfl (any_of HT_.out (by kernel_rfl)) (fun _ _ _ h => h) (Or.inr ⟨by rfl, rfl⟩) ?_ ?_
                             rotate_left
                             ·simp only [Act.put, List.setIfInBounds_toArray, List.set_cons_zero, List.set_cons_succ, i64_w, i32_w]
                              rfl
                             refine pure_ (i := 16) (N := some 166) (v := undef) (a' := ?_) mask_17 rfl rfl (any_of HT_.out (by kernel_rfl)) (fun _ _ _ h => h) (Or.inr ⟨by rfl, rfl⟩) ?_ ?_
                             rotate_left
                             ·simp only [Act.put, List.setIfInBounds_toArray, List.set_cons_zero, List.set_cons_succ, i64_w, i32_w]
                              rfl
                             refine pure_ (i := 17) (N := some 167) (v := undef) (a' := ?_) mask_18 rfl rfl (any_of HT_.out (by kernel_rfl)) (fun _ _ _ h => h) (Or.inr ⟨by rfl, rfl⟩) ?_ ?_
                             rotate_left
                             ·simp only [Act.put, List.setIfInBounds_toArray, List.set_cons_zero, List.set_cons_succ, i64_w, i32_w]
                              rfl
                             refine pure_ (i := 18) (N := some 168) (v := undef) (a' := ?_) mask_19 rfl rfl (any_of HT_.out (by kernel_rfl)) (fun _ _ _ h => h) (Or.inr ⟨by rfl, rfl⟩) ?_ ?_
                             rotate_left
                             ·simp only [Act.put, List.setIfInBounds_toArray, List.set_cons_zero, List.set_cons_succ, i64_w, i32_w]
                              rfl
                             refine pure_ (i := 19) (N := some 169) (v := undef) (a' := ?_) mask_20 rfl rfl (any_of HT_.out (by kernel_rfl)) (fun _ _ _ h => h) (Or.inr ⟨by rfl, rfl⟩) ?_ ?_
                             rotate_left
                             ·simp only [Act.put, List.setIfInBounds_toArray, List.set_cons_zero, List.set_cons_succ, i64_w, i32_w]
                              rfl
                             refine pure_ (i := 20) (N := some 170) (v := undef) (a' := ?_) mask_21 rfl rfl (any_of HT_.out (by kernel_rfl)) (fun _ _ _ h => h) (Or.inr ⟨by rfl, rfl⟩) ?_ ?_
                             rotate_left
                             ·simp only [Act.put, List.setIfInBounds_toArray, List.set_cons_zero, List.set_cons_succ, i64_w, i32_w]
                              rfl
                             refine pure_ (i := 21) (N := some 171) (v := undef) (a' := ?_) mask_22 rfl rfl (any_of HT_.out (by kernel_rfl)) (fun _ _ _ h => h) (Or.inr ⟨by rfl, rfl⟩) ?_ ?_
                             rotate_left
                             ·simp only [Act.put, List.setIfInBounds_toArray, List.set_cons_zero, List.set_cons_succ, i64_w, i32_w]
                              rfl
                             refine pure_ (i := 22) (N := some 172) (v := undef) (a' := ?_) mask_23 rfl rfl (any_of HT_.out (by kernel_rfl)) (fun _ _ _ h => h) (Or.inr ⟨by rfl, rfl⟩) ?_ ?_
                             rotate_left
                             ·simp only [Act.put, List.setIfInBounds_toArray, List.set_cons_zero, List.set_cons_succ, i64_w, i32_w]
                              rfl
                             refine pure_ (i := 23) (N := some 173) (v := undef) (a' := ?_) mask_24 rfl rfl (any_of HT_.out (by kernel_rfl)) (fun _ _ _ h => h) (Or.inr ⟨by rfl, rfl⟩) ?_ ?_
                             rotate_left
                             ·simp only [Act.put, List.setIfInBounds_toArray, List.set_cons_zero, List.set_cons_succ, i64_w, i32_w]
                              rfl
                             refine pure_ (i := 24) (N := some 174) (v := undef) (a' := ?_) mask_25 rfl rfl (any_of HT_.out (by kernel_rfl)) (fun _ _ _ h => h) (Or.inr ⟨by rfl, rfl⟩) ?_ ?_
                             rotate_left
                             ·simp only [Act.put, List.setIfInBounds_toArray, List.set_cons_zero, List.set_cons_succ, i64_w, i32_w]
                              rfl
                             refine pure_ (i := 25) (N := some 175) (v := undef) (a' := ?_) mask_26 rfl rfl (any_of HT_.out (by kernel_rfl)) (fun _ _ _ h => h) (Or.inr ⟨by rfl, rfl⟩) ?_ ?_
                             rotate_left
                             ·simp only [Act.put, List.setIfInBounds_toArray, List.set_cons_zero, List.set_cons_succ, i64_w, i32_w]
                              rfl
                             refine pure_ (i := 26) (N := some 176) (v := undef) (a' := ?_) mask_27 rfl rfl (any_of HT_.out (by kernel_rfl)) (fun _ _ _ h => h) (Or.inr ⟨by rfl, rfl⟩) ?_ ?_
                             rotate_left
                             ·simp only [Act.put, List.setIfInBounds_toArray, List.set_cons_zero, List.set_cons_succ, i64_w, i32_w]
                              rfl
                             refine pure_ (i := 27) (N := some 177) (v := undef) (a' := ?_) mask_28 rfl rfl (any_of HT_.out (by kernel_rfl)) (fun _ _ _ h => h) (Or.inr ⟨by rfl, rfl⟩) ?_ ?_
                             rotate_left
                             ·simp only [Act.put, List.setIfInBounds_toArray, List.set_cons_zero, List.set_cons_succ, i64_w, i32_w]
                              rfl
                             refine pure_ (i := 28) (N := some 178) (v := undef) (a' := ?_) mask_29 rfl rfl (any_of HT_.out (by kernel_rfl)) (fun _ _ _ h => h) (Or.inr ⟨by rfl, rfl⟩) ?_ ?_
                             rotate_left
                             ·simp only [Act.put, List.setIfInBounds_toArray, List.set_cons_zero, List.set_cons_succ, i64_w, i32_w]
                              rfl
                             refine pure_ (i := 29) (N := some 179) (v := undef) (a' := ?_) mask_30 rfl rfl (any_of HT_.out (by kernel_rfl)) (fun _ _ _ h => h) (Or.inr ⟨by rfl, rfl⟩) ?_ ?_
                             rotate_left
                             ·simp only [Act.put, List.setIfInBounds_toArray, List.set_cons_zero, List.set_cons_succ, i64_w, i32_w]
                              rfl
                             refine pure_ (i := 30) (N := some 180) (v := undef) (a' := ?_) mask_31 rfl rfl (any_of HT_.out (by kernel_rfl)) (fun _ _ _ h => h) (Or.inr ⟨by rfl, rfl⟩) ?_ ?_
                             rotate_left
                             ·simp only [Act.put, List.setIfInBounds_toArray, List.set_cons_zero, List.set_cons_succ, i64_w, i32_w]
                              rfl
                             refine pure_ (i := 31) (N := some 181) (v := undef) (a' := ?_) mask_32 rfl rfl (any_of HT_.out (by kernel_rfl)) (fun _ _ _ h => h) (Or.inr ⟨by rfl, rfl⟩) ?_ ?_
                             rotate_left
                             ·simp only [Act.put, List.setIfInBounds_toArray, List.set_cons_zero, List.set_cons_succ, i64_w, i32_w]
                              rfl
                             refine pure_ (i := 32) (N := some 182) (v := ?_) (a' := ?_) mask_33 rfl rfl (any_of HT_.out (by kernel_rfl)) (fun _ _ _ h => h) (Or.inl ⟨by rfl, ?_⟩) ?_ ?_
                             rotate_left
                             ·intro w'
                              go_simp
                              with_reducible rfl
                             rotate_left
                             ·simp only [Act.put, List.setIfInBounds_toArray, List.set_cons_zero, List.set_cons_succ, i64_w, i32_w]
                              rfl
                             refine done_ (done_of HT_.out (by kernel_rfl)) ?_
                             try go_wp2
                             go_ret
                             exact ⟨by first | rfl | (simp [errW_none, errW_some] <;> rfl) | (simp [*, errW_none, errW_some] <;> rfl), by repeat (first | (with_reducible first | exact HB.out | apply below_alloc | apply pw_below_drewN | apply below_drew1 | refine below_set ?_ GE171.out) | exact HB.out)⟩
                           ·rw [if_neg c87] at H
                            have c87b0 : (x18_52 == (x15_7.length : Int)) = false := beq_eq_false_iff_ne.mpr c87
                            have c87b1 : (x18_52 != (x15_7.length : Int)) = true := bne_iff_ne.mpr c87
                            by_cases c90 : x19_9 = (x15_7.length : Int)
                            ·rw [if_pos c90] at H
                             have c90b0 : (x19_9 == (x15_7.length : Int)) = true := beq_iff_eq.mpr c90
                             have c90b1 : (x19_9 != (x15_7.length : Int)) = false := bne_eq_false_iff_eq.mpr c90
                             clear c90
                             as_aux_lemma =>
                              obtain rfl := Option.some.inj H
                              obtain ⟨Ao91, co91, eo91⟩ := Kd.R_slice HO_15.out
                              subst eo91
                              try go_wp2
                              have n0_ := Aside0.mk (Kd.R_drew HO_7.out)
                              have n1_ := Aside0.mk (Kd.R_drew HO_15.out)
                              have n2_ := Aside0.mk (Kd.R_drew HO_118.out)
                              have n3_ := Aside0.mk (blk_drew BK171.out)
                              have n4_ := Aside0.mk (below_drew1 HB.out)
                              clear HO_7
                              clear HO_15
                              clear HO_118
                              clear BK171
                              clear HB
                              have HO_7 := n0_
                              have HO_15 := n1_
                              have HO_118 := n2_
                              have BK171 := n3_
                              have HB := n4_
                              clear n0_ n1_ n2_ n3_ n4_
                              refine start_ (n := 33) (S := fun w' => True) (ds := []) mask_0 (by kernel_rfl) rfl rfl trivial (fun hHeld => ?_); refine with_tabW gridhalllaw3_LedgerSettles.tab40 gridhalllaw3_LedgerSettles.bits40 (fun HT_ HW_ => ?_)
                              generalize wr.drew = w92 at HO_7 HO_15 HO_118 BK171 HB hHeld ⊢
                              refine pure_ (i := 0) (N := some 150) (v := ?_) (a' := ?_) mask_1 rfl rfl (any_of HT_.out (by kernel_rfl)) (fun _ _ _ h => h) (Or.inl ⟨by rfl, ?_⟩) ?_ ?_
                              rotate_left
                              ·intro w'
                               go_simp
                               with_reducible rfl
                              rotate_left
                              ·simp only [Act.put, List.setIfInBounds_toArray, List.set_cons_zero, List.set_cons_succ, i64_w, i32_w]
                               rfl
                              refine pure_ (i := 1) (N := some 151) (v := ?_) (a' := ?_) mask_2 rfl rfl (any_of HT_.out (by kernel_rfl)) (fun _ _ _ h => h) (Or.inl ⟨by rfl, ?_⟩) ?_ ?_
                              rotate_left
                              ·intro w'
                               go_simp
                               with_reducible rfl
                              rotate_left
                              ·simp only [Act.put, List.setIfInBounds_toArray, List.set_cons_zero, List.set_cons_succ, i64_w, i32_w]
                               rfl
                              refine pure_ (i := 2) (N := some 152) (v := ?_) (a' := ?_) mask_3 rfl rfl (any_of HT_.out (by kernel_rfl)) (fun _ _ _ h => h) (Or.inl ⟨by rfl, ?_⟩) ?_ ?_
                              rotate_left
                              ·intro w'
                               go_simp
                               with_reducible rfl
                              rotate_left
                              ·simp only [Act.put, List.setIfInBounds_toArray, List.set_cons_zero, List.set_cons_succ, i64_w, i32_w]
                               rfl
                              refine pure_ (i := 3) (N := some 153) (v := ?_) (a' := ?_) mask_4 rfl rfl (any_of HT_.out (by kernel_rfl)) (fun _ _ _ h => h) (Or.inl ⟨by rfl, ?_⟩) ?_ ?_
                              rotate_left
                              ·intro w'
                               go_simp
                               with_reducible rfl
                              rotate_left
                              ·simp only [Act.put, List.setIfInBounds_toArray, List.set_cons_zero, List.set_cons_succ, i64_w, i32_w]
                               rfl
                              refine pure_ (i := 4) (N := some 154) (v := ?_) (a' := ?_) mask_5 rfl rfl (any_of HT_.out (by kernel_rfl)) (fun _ _ _ h => h) (Or.inl ⟨by rfl, ?_⟩) ?_ ?_
                              rotate_left
                              ·intro w'
                               go_simp
                               with_reducible rfl
                              rotate_left
                              ·simp only [Act.put, List.setIfInBounds_toArray, List.set_cons_zero, List.set_cons_succ, i64_w, i32_w]
                               rfl
                              refine pure_ (i := 5) (N := some 155) (v := ?_) (a' := ?_) mask_6 rfl rfl (any_of HT_.out (by kernel_rfl)) (fun _ _ _ h => h) (Or.inl ⟨by rfl, ?_⟩) ?_ ?_
                              rotate_left
                              ·intro w'
                               go_simp
                               with_reducible rfl
                              rotate_left
                              ·simp only [Act.put, List.setIfInBounds_toArray, List.set_cons_zero, List.set_cons_succ, i64_w, i32_w]
                               rfl
                              refine pure_ (i := 6) (N := some 156) (v := ?_) (a' := ?_) mask_7 rfl rfl (any_of HT_.out (by kernel_rfl)) (fun _ _ _ h => h) (Or.inl ⟨by rfl, ?_⟩) ?_ ?_
                              rotate_left
                              ·intro w'
                               go_simp
                               with_reducible rfl
                              rotate_left
                              ·simp only [Act.put, List.setIfInBounds_toArray, List.set_cons_zero, List.set_cons_succ, i64_w, i32_w]
                               rfl
                              refine pure_ (i := 7) (N := some 157) (v := ?_) (a' := ?_) mask_8 rfl rfl (any_of HT_.out (by kernel_rfl)) (fun _ _ _ h => h) (Or.inl ⟨by rfl, ?_⟩) ?_ ?_
                              rotate_left
                              ·intro w'
                               go_simp
                               with_reducible rfl
                              rotate_left
                              ·simp only [Act.put, List.setIfInBounds_toArray, List.set_cons_zero, List.set_cons_succ, i64_w, i32_w]
                               rfl
                              refine pure_ (i := 8) (N := some 158) (v := ?_) (a' := ?_) mask_9 rfl rfl (any_of HT_.out (by kernel_rfl)) (fun _ _ _ h => h) (Or.inl ⟨by rfl, ?_⟩) ?_ ?_
                              rotate_left
                              ·intro w'
                               go_simp
                               with_reducible rfl
                              rotate_left
                              ·simp only [Act.put, List.setIfInBounds_toArray, List.set_cons_zero, List.set_cons_succ, i64_w, i32_w]
                               rfl
                              refine pure_ (i := 9) (N := some 159) (v := ?_) (a' := ?_) mask_10 rfl rfl (any_of HT_.out (by kernel_rfl)) (fun _ _ _ h => h) (Or.inl ⟨by rfl, ?_⟩) ?_ ?_
                              rotate_left
                              ·intro w'
                               go_simp
                               with_reducible rfl
                              rotate_left
                              ·simp only [Act.put, List.setIfInBounds_toArray, List.set_cons_zero, List.set_cons_succ, i64_w, i32_w]
                               rfl
                              refine pure_ (i := 10) (N := some 160) (v := ?_) (a' := ?_) mask_11 rfl rfl (any_of HT_.out (by kernel_rfl)) (fun _ _ _ h => h) (Or.inl ⟨by rfl, ?_⟩) ?_ ?_
                              rotate_left
                              ·intro w'
                               go_simp
                               with_reducible rfl
                              rotate_left
                              ·simp only [Act.put, List.setIfInBounds_toArray, List.set_cons_zero, List.set_cons_succ, i64_w, i32_w]
                               rfl
                              refine pure_ (i := 11) (N := some 161) (v := undef) (a' := ?_) mask_12 rfl rfl (any_of HT_.out (by kernel_rfl)) (fun _ _ _ h => h) (Or.inr ⟨by rfl, rfl⟩) ?_ ?_
                              rotate_left
                              ·simp only [Act.put, List.setIfInBounds_toArray, List.set_cons_zero, List.set_cons_succ, i64_w, i32_w]
                               rfl
                              refine pure_ (i := 12) (N := some 162) (v := undef) (a' := ?_) mask_13 rfl rfl (any_of HT_.out (by kernel_rfl)) (fun _ _ _ h => h) (Or.inr ⟨by rfl, rfl⟩) ?_ ?_
                              rotate_left
                              ·simp only [Act.put, List.setIfInBounds_toArray, List.set_cons_zero, List.set_cons_succ, i64_w, i32_w]
                               rfl
                              refine pure_ (i := 13) (N := some 163) (v := undef) (a' := ?_) mask_14 rfl rfl (any_of HT_.out (by kernel_rfl)) (fun _ _ _ h => h) (Or.inr ⟨by rfl, rfl⟩) ?_ ?_
                              rotate_left
                              ·simp only [Act.put, List.setIfInBounds_toArray, List.set_cons_zero, List.set_cons_succ, i64_w, i32_w]
                               rfl
                              refine pure_ (i := 14) (N := some 164) (v := undef) (a' := ?_) mask_15 rfl rfl (any_of HT_.out (by kernel_rfl)) (fun _ _ _ h => h) (Or.inr ⟨by rfl, rfl⟩) ?_ ?_
                              rotate_left
                              ·simp only [Act.put, List.setIfInBounds_toArray, List.set_cons_zero, List.set_cons_succ, i64_w, i32_w]
                               rfl
                              refine pure_ (i := 15) (N := some 165) (v := undef) (a' := ?_) mask_16 rfl rfl (any_of HT_.out (by kernel_rfl)) (fun _ _ _ h => h) (Or.inr ⟨by rfl, rfl⟩) ?_ ?_
                              rotate_left
                              ·simp only [Act.put, List.setIfInBounds_toArray, List.set_cons_zero, List.set_cons_succ, i64_w, i32_w]
                               rfl
                              refine pure_ (i := 16) (N := some 166) (v := undef) (a' := ?_) mask_17 rfl rfl (any_of HT_.out (by kernel_rfl)) (fun _ _ _ h => h) (Or.inr ⟨by rfl, rfl⟩) ?_ ?_
                              rotate_left
                              ·simp only [Act.put, List.setIfInBounds_toArray, List.set_cons_zero, List.set_cons_succ, i64_w, i32_w]
                               rfl
                              refine pure_ (i := 17) (N := some 167) (v := undef) (a' := ?_) mask_18 rfl rfl (any_of HT_.out (by kernel_rfl)) (fun _ _ _ h => h) (Or.inr ⟨by rfl, rfl⟩) ?_ ?_
                              rotate_left
                              ·simp only [Act.put, List.setIfInBounds_toArray, List.set_cons_zero, List.set_cons_succ, i64_w, i32_w]
                               rfl
                              refine pure_ (i := 18) (N := some 168) (v := undef) (a' := ?_) mask_19 rfl rfl (any_of HT_.out (by kernel_rfl)) (fun _ _ _ h => h) (Or.inr ⟨by rfl, rfl⟩) ?_ ?_
                              rotate_left
                              ·simp only [Act.put, List.setIfInBounds_toArray, List.set_cons_zero, List.set_cons_succ, i64_w, i32_w]
                               rfl
                              refine pure_ (i := 19) (N := some 169) (v := undef) (a' := ?_) mask_20 rfl rfl (any_of HT_.out (by kernel_rfl)) (fun _ _ _ h => h) (Or.inr ⟨by rfl, rfl⟩) ?_ ?_
                              rotate_left
                              ·simp only [Act.put, List.setIfInBounds_toArray, List.set_cons_zero, List.set_cons_succ, i64_w, i32_w]
                               rfl
                              refine pure_ (i := 20) (N := some 170) (v := undef) (a' := ?_) mask_21 rfl rfl (any_of HT_.out (by kernel_rfl)) (fun _ _ _ h => h) (Or.inr ⟨by rfl, rfl⟩) ?_ ?_
                              rotate_left
                              ·simp only [Act.put, List.setIfInBounds_toArray, List.set_cons_zero, List.set_cons_succ, i64_w, i32_w]
                               rfl
                              refine pure_ (i := 21) (N := some 171) (v := undef) (a' := ?_) mask_22 rfl rfl (any_of HT_.out (by kernel_rfl)) (fun _ _ _ h => h) (Or.inr ⟨by rfl, rfl⟩) ?_ ?_
                              rotate_left
                              ·simp only [Act.put, List.setIfInBounds_toArray, List.set_cons_zero, List.set_cons_succ, i64_w, i32_w]
                               rfl
                              refine pure_ (i := 22) (N := some 172) (v := undef) (a' := ?_) mask_23 rfl rfl (any_of HT_.out (by kernel_rfl)) (fun _ _ _ h => h) (Or.inr ⟨by rfl, rfl⟩) ?_ ?_
                              rotate_left
                              ·simp only [Act.put, List.setIfInBounds_toArray, List.set_cons_zero, List.set_cons_succ, i64_w, i32_w]
                               rfl
                              refine pure_ (i := 23) (N := some 173) (v := undef) (a' := ?_) mask_24 rfl rfl (any_of HT_.out (by kernel_rfl)) (fun _ _ _ h => h) (Or.inr ⟨by rfl, rfl⟩) ?_ ?_
                              rotate_left
                              ·simp only [Act.put, List.setIfInBounds_toArray, List.set_cons_zero, List.set_cons_succ, i64_w, i32_w]
                               rfl
                              refine pure_ (i := 24) (N := some 174) (v := undef) (a' := ?_) mask_25 rfl rfl (any_of HT_.out (by kernel_rfl)) (fun _ _ _ h => h) (Or.inr ⟨by rfl, rfl⟩) ?_ ?_
                              rotate_left
                              ·simp only [Act.put, List.setIfInBounds_toArray, List.set_cons_zero, List.set_cons_succ, i64_w, i32_w]
                               rfl
                              refine pure_ (i := 25) (N := some 175) (v := undef) (a' := ?_) mask_26 rfl rfl (any_of HT_.out (by kernel_rfl)) (fun _ _ _ h => h) (Or.inr ⟨by rfl, rfl⟩) ?_ ?_
                              rotate_left
                              ·simp only [Act.put, List.setIfInBounds_toArray, List.set_cons_zero, List.set_cons_succ, i64_w, i32_w]
                               rfl
                              refine pure_ (i := 26) (N := some 176) (v := undef) (a' := ?_) mask_27 rfl rfl (any_of HT_.out (by kernel_rfl)) (fun _ _ _ h => h) (Or.inr ⟨by rfl, rfl⟩) ?_ ?_
                              rotate_left
                              ·simp only [Act.put, List.setIfInBounds_toArray, List.set_cons_zero, List.set_cons_succ, i64_w, i32_w]
                               rfl
                              refine pure_ (i := 27) (N := some 177) (v := undef) (a' := ?_) mask_28 rfl rfl (any_of HT_.out (by kernel_rfl)) (fun _ _ _ h => h) (Or.inr ⟨by rfl, rfl⟩) ?_ ?_
                              rotate_left
                              ·simp only [Act.put, List.setIfInBounds_toArray, List.set_cons_zero, List.set_cons_succ, i64_w, i32_w]
                               rfl
                              refine pure_ (i := 28) (N := some 178) (v := undef) (a' := ?_) mask_29 rfl rfl (any_of HT_.out (by kernel_rfl)) (fun _ _ _ h => h) (Or.inr ⟨by rfl, rfl⟩) ?_ ?_
                              rotate_left
                              ·simp only [Act.put, List.setIfInBounds_toArray, List.set_cons_zero, List.set_cons_succ, i64_w, i32_w]
                               rfl
                              refine pure_ (i := 29) (N := some 179) (v := undef) (a' := ?_) mask_30 rfl rfl (any_of HT_.out (by kernel_rfl)) (fun _ _ _ h => h) (Or.inr ⟨by rfl, rfl⟩) ?_ ?_
                              rotate_left
                              ·simp only [Act.put, List.setIfInBounds_toArray, List.set_cons_zero, List.set_cons_succ, i64_w, i32_w]
                               rfl
                              refine pure_ (i := 30) (N := some 180) (v := undef) (a' := ?_) mask_31 rfl rfl (any_of HT_.out (by kernel_rfl)) (fun _ _ _ h => h) (Or.inr ⟨by rfl, rfl⟩) ?_ ?_
                              rotate_left
                              ·simp only [Act.put, List.setIfInBounds_toArray, List.set_cons_zero, List.set_cons_succ, i64_w, i32_w]
                               rfl
                              refine pure_ (i := 31) (N := some 181) (v := undef) (a' := ?_) mask_32 rfl rfl (any_of HT_.out (by kernel_rfl)) (fun _ _ _ h => h) (Or.inr ⟨by rfl, rfl⟩) ?_ ?_
                              rotate_left
                              ·simp only [Act.put, List.setIfInBounds_toArray, List.set_cons_zero, List.set_cons_succ, i64_w, i32_w]
                               rfl
                              refine pure_ (i := 32) (N := some 182) (v := ?_) (a' := ?_) mask_33 rfl rfl (any_of HT_.out (by kernel_rfl)) (fun _ _ _ h => h) (Or.inl ⟨by rfl, ?_⟩) ?_ ?_
                              rotate_left
                              ·intro w'
                               go_simp
                               with_reducible rfl
                              rotate_left
                              ·simp only [Act.put, List.setIfInBounds_toArray, List.set_cons_zero, List.set_cons_succ, i64_w, i32_w]
                               rfl
                              refine done_ (done_of HT_.out (by kernel_rfl)) ?_
                              try go_wp2
                              go_ret
                              exact ⟨by first | rfl | (simp [errW_none, errW_some] <;> rfl) | (simp [*, errW_none, errW_some] <;> rfl), by repeat (first | (with_reducible first | exact HB.out | apply below_alloc | apply pw_below_drewN | apply below_drew1 | refine below_set ?_ GE171.out) | exact HB.out)⟩
                            ·rw [if_neg c90] at H
                             have c90b0 : (x19_9 == (x15_7.length : Int)) = false := beq_eq_false_iff_ne.mpr c90
                             have c90b1 : (x19_9 != (x15_7.length : Int)) = true := bne_iff_ne.mpr c90
                             by_cases c93 : 0 ≤ x18_52
                             ·rw [if_pos c93] at H
                              have c93b0 : decide (0 ≤ x18_52) = true := decide_eq_true c93
                              clear c93
                              by_cases c94 : x18_52 < (l0.length : Int)
                              ·rw [if_pos c94] at H
                               have c94b0 : decide (x18_52 < (l0.length : Int)) = true := decide_eq_true c94
                               clear c94
                               by_cases c95 : 0 ≤ x19_9
                               ·rw [if_pos c95] at H
                                have c95b0 : decide (0 ≤ x19_9) = true := decide_eq_true c95
                                clear c95
                                by_cases c96 : x19_9 < (l0.length : Int)
                                ·rw [if_pos c96] at H
                                 have c96b0 : decide (x19_9 < (l0.length : Int)) = true := decide_eq_true c96
                                 clear c96
                                 by_cases c97 : x18_52 < (x15_7.length : Int)
                                 ·rw [if_pos c97] at H
                                  have c97b0 : decide (x18_52 < (x15_7.length : Int)) = true := decide_eq_true c97
                                  clear c97
                                  exact absurd H (by simp)
                                 ·rw [if_neg c97] at H
                                  exact absurd H (by simp)
                                ·rw [if_neg c96] at H
                                 exact absurd H (by simp)
                               ·rw [if_neg c95] at H
                                exact absurd H (by simp)
                              ·rw [if_neg c94] at H
                               exact absurd H (by simp)
                             ·rw [if_neg c93] at H
                              exact absurd H (by simp)
                     ·rw [if_neg c52] at H
                      exact absurd H (by simp)
                    ·rw [if_neg c51] at H
                     exact absurd H (by simp)
                   ·rw [if_neg c50] at H
                    have c50b0 : decide (x120_7 < (t152.length : Int)) = false := decide_eq_false c50
                    clear c50
                    have H' := Aside0.mk H
                    clear H
                    obtain ⟨Ao98, co98, eo98⟩ := Kd.R_slice HO_15.out
                    subst eo98
                    go_wp2
                    go_loopg [206] k7 (fun kq v206 w' => ∃ (x206_8 : Int), v206 = .int .i64 x206_8 ∧ Aside0 (gridhalllaw3_LedgerSettles.l5 kq l0 t152 t153 x15_7 (x15_7.length : Int) x206_8 = some r) ∧ Aside0 (kq ≤ k7) ∧ Aside0 (Kd.R k67 67 w' w.heap.size (fun _ => True) (.slice Ao49 t152.length co49) t152) ∧ Aside0 (Kd.R (Kd.int .i64) 3 w' w.heap.size (fun _ => True) (.slice Ao98 x15_7.length co98) x15_7) ∧ Aside0 (Below w.heap.size w w'))
                    case atStart => exact ⟨(0), (by first | rfl | (simp; done) | (simp [*]; done)), H', ⟨Nat.le_refl _⟩, ⟨by (with_reducible repeat (first | apply Kd.R_alloc | apply Kd.R_drewN | apply Kd.R_drew)); exact HO_7.out⟩, ⟨by (with_reducible repeat (first | apply Kd.R_alloc | apply Kd.R_drewN | apply Kd.R_drew)); exact HO_15.out⟩, ⟨by repeat (first | (with_reducible first | exact HB.out | apply below_alloc | apply pw_below_drewN | apply below_drew1) | exact HB.out)⟩⟩
                    case round =>
                     clear H'
                     try clear p2
                     try clear c5
                     try clear c6
                     try clear p6
                     try clear c7
                     try clear c8
                     try clear c9
                     try clear c50
                     try clear c50b0
                     try clear c51
                     try clear c52
                     try clear c62
                     try clear c62b0
                     try clear c63
                     try clear p64
                     try clear c72
                     try clear c73
                     try clear c74
                     try clear c75
                     try clear c87
                     try clear c87b0
                     try clear c87b1
                     try clear c90
                     try clear c90b0
                     try clear c90b1
                     try clear c93
                     try clear c93b0
                     try clear c94
                     try clear c94b0
                     try clear c95
                     try clear c95b0
                     try clear c96
                     try clear c96b0
                     try clear c97
                     try clear c97b0
                     obtain ⟨x206_8, rfl, HA, HK8, HO_7, HO_204, HB⟩ := hrel
                     cases gk with
                     | zero => exact absurd HA.out (by simp [gridhalllaw3_LedgerSettles.l5])
                     | succ k8 =>
                      have H := HA.out
                      clear HA
                      simp only [gridhalllaw3_LedgerSettles.l5] at H
                      by_cases c99 : x206_8 < (x15_7.length : Int)
                      ·rw [if_pos c99] at H
                       have c99b0 : decide (x206_8 < (x15_7.length : Int)) = true := decide_eq_true c99
                       clear c99
                       by_cases c100 : 0 ≤ x206_8
                       ·rw [if_pos c100] at H
                        have c100b0 : decide (0 ≤ x206_8) = true := decide_eq_true c100
                        clear c100
                        by_cases c101 : x206_8 < (x15_7.length : Int)
                        ·rw [if_pos c101] at H
                         have c101b0 : decide (x206_8 < (x15_7.length : Int)) = true := decide_eq_true c101
                         clear c101
                         by_cases c102 : (rd x15_7 x206_8) = 0
                         ·rw [if_pos c102] at H
                          have c102b0 : ((rd x15_7 x206_8) == 0) = true := beq_iff_eq.mpr c102
                          have c102b1 : ((rd x15_7 x206_8) != 0) = false := bne_eq_false_iff_eq.mpr c102
                          clear c102
                          as_aux_lemma =>
                           have H' := Aside0.mk H
                           clear H
                           have p185 : 0 ≤ (x206_8 : Int) := of_decide_eq_true (by first | (with_reducible assumption) | assumption)
                           have q185 : x206_8 < (x15_7.length : Int) := of_decide_eq_true (by first | (with_reducible assumption) | assumption)
                           obtain ⟨ad185, e185, hx185_0⟩ := Kd.at_int (Kd.R_reads' HO_204.out).2.2 x206_8 p185 q185
                           cases e185
                           replace p185 := eq_true p185
                           replace q185 := eq_true q185
                           go_wp2
                           go_roundg k8
                           case measure => have := HJ3.out; have := HJ15.out; have := HK3.out; have := HJ19.out; have := HJ39.out; have := HJ41.out; have := HK7.out; have := HK8.out; omega
                           case rel => exact ⟨(wrap64 (x206_8 + 1)), (by first | rfl | (simp; done) | (simp [*]; done)), H', ⟨by have := HJ3.out; have := HJ15.out; have := HK3.out; have := HJ19.out; have := HJ39.out; have := HJ41.out; have := HK7.out; have := HK8.out; omega⟩, ⟨by (with_reducible repeat (first | apply Kd.R_alloc | apply Kd.R_drewN | apply Kd.R_drew)); exact HO_7.out⟩, ⟨by (with_reducible repeat (first | apply Kd.R_alloc | apply Kd.R_drewN | apply Kd.R_drew)); exact HO_204.out⟩, ⟨by repeat (first | (with_reducible first | exact HB.out | apply below_alloc | apply pw_below_drewN | apply below_drew1) | exact HB.out)⟩⟩
                         ·rw [if_neg c102] at H
                          have c102b0 : ((rd x15_7 x206_8) == 0) = false := beq_eq_false_iff_ne.mpr c102
                          have c102b1 : ((rd x15_7 x206_8) != 0) = true := bne_iff_ne.mpr c102
                          as_aux_lemma =>
                           obtain rfl := Option.some.inj H
                           have p185 : 0 ≤ (x206_8 : Int) := of_decide_eq_true (by first | (with_reducible assumption) | assumption)
                           have q185 : x206_8 < (x15_7.length : Int) := of_decide_eq_true (by first | (with_reducible assumption) | assumption)
                           obtain ⟨ad185, e185, hx185_0⟩ := Kd.at_int (Kd.R_reads' HO_204.out).2.2 x206_8 p185 q185
                           cases e185
                           replace p185 := eq_true p185
                           replace q185 := eq_true q185
                           go_wp2
                           go_ret
                           exact ⟨by first | rfl | (simp [errW_none, errW_some] <;> rfl) | (simp [*, errW_none, errW_some] <;> rfl), by repeat (first | (with_reducible first | exact HB.out | apply below_alloc | apply pw_below_drewN | apply below_drew1) | exact HB.out)⟩
                        ·rw [if_neg c101] at H
                         exact absurd H (by simp)
                       ·rw [if_neg c100] at H
                        exact absurd H (by simp)
                      ·rw [if_neg c99] at H
                       have c99b0 : decide (x206_8 < (x15_7.length : Int)) = false := decide_eq_false c99
                       clear c99
                       by_cases c103 : t153 = 0
                       ·rw [if_pos c103] at H
                        have c103b0 : (t153 == 0) = true := beq_iff_eq.mpr c103
                        have c103b1 : (t153 != 0) = false := bne_eq_false_iff_eq.mpr c103
                        clear c103
                        by_cases c104 : (t152.length : Int) = 0
                        ·rw [if_pos c104] at H
                         have c104b0 : ((t152.length : Int) == 0) = true := beq_iff_eq.mpr c104
                         have c104b1 : ((t152.length : Int) != 0) = false := bne_eq_false_iff_eq.mpr c104
                         clear c104
                         as_aux_lemma =>
                          obtain rfl := Option.some.inj H
                          go_wp2
                          go_ret
                          exact ⟨by first | rfl | (simp [errW_none, errW_some] <;> rfl) | (simp [*, errW_none, errW_some] <;> rfl), by repeat (first | (with_reducible first | exact HB.out | apply below_alloc | apply pw_below_drewN | apply below_drew1) | exact HB.out)⟩
                        ·rw [if_neg c104] at H
                         have c104b0 : ((t152.length : Int) == 0) = false := beq_eq_false_iff_ne.mpr c104
                         have c104b1 : ((t152.length : Int) != 0) = true := bne_iff_ne.mpr c104
                         have c104b2 : ¬ (t152 = []) := fun h_ => c104 (by rw [h_]; rfl)
                         as_aux_lemma =>
                          obtain rfl := Option.some.inj H
                          go_wp2
                          go_ret
                          exact ⟨by first | rfl | (simp [errW_none, errW_some] <;> rfl) | (simp [*, errW_none, errW_some] <;> rfl), by repeat (first | (with_reducible first | exact HB.out | apply below_alloc | apply pw_below_drewN | apply below_drew1) | exact HB.out)⟩
                       ·rw [if_neg c103] at H
                        have c103b0 : (t153 == 0) = false := beq_eq_false_iff_ne.mpr c103
                        have c103b1 : (t153 != 0) = true := bne_iff_ne.mpr c103
                        as_aux_lemma =>
                         obtain rfl := Option.some.inj H
                         go_wp2
                         go_ret
                         exact ⟨by first | rfl | (simp [errW_none, errW_some] <;> rfl) | (simp [*, errW_none, errW_some] <;> rfl), by repeat (first | (with_reducible first | exact HB.out | apply below_alloc | apply pw_below_drewN | apply below_drew1) | exact HB.out)⟩
                ·rw [if_neg c45] at H
                 exact absurd H (by simp)
               ·rw [if_neg c44] at H
                have c44b0 : (x9_41 == 0) = false := beq_eq_false_iff_ne.mpr c44
                have c44b1 : (x9_41 != 0) = true := bne_iff_ne.mpr c44
                by_cases c105 : t153 = x9_41
                ·rw [if_pos c105] at H
                 have c105b0 : (t153 == x9_41) = true := beq_iff_eq.mpr c105
                 have c105b1 : (t153 != x9_41) = false := bne_eq_false_iff_eq.mpr c105
                 clear c105
                 as_aux_lemma =>
                  obtain rfl := Option.some.inj H
                  obtain ⟨Ao106, co106, eo106⟩ := Kd.R_slice HO_7.out
                  subst eo106
                  go_wp2
                  go_ret
                  exact ⟨by first | rfl | (simp [errW_none, errW_some] <;> rfl) | (simp [*, errW_none, errW_some] <;> rfl), by repeat (first | (with_reducible first | exact HB.out | apply below_alloc | apply pw_below_drewN | apply below_drew1) | exact HB.out)⟩
                ·rw [if_neg c105] at H
                 have c105b0 : (t153 == x9_41) = false := beq_eq_false_iff_ne.mpr c105
                 have c105b1 : (t153 != x9_41) = true := bne_iff_ne.mpr c105
                 as_aux_lemma =>
                  obtain rfl := Option.some.inj H
                  go_wp2
                  go_ret
                  exact ⟨by first | rfl | (simp [errW_none, errW_some] <;> rfl) | (simp [*, errW_none, errW_some] <;> rfl), by repeat (first | (with_reducible first | exact HB.out | apply below_alloc | apply pw_below_drewN | apply below_drew1) | exact HB.out)⟩

end Go.Proofs.Ytpmaiofgnbgboaa.PLedgerSettles
