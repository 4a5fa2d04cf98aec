-- PRINTED BY print.sh 35421559b90ae4d0a3588c463048766b98c2df88dd9212a6774a882060cdf62d: not written by this session
import Derived.Test.YtpmaiofgnbgboaaPNamesx0
namespace Go.Proofs.Ytpmaiofgnbgboaa.PNames
open Go.RowKit Go.Proofs.YtpmaiofgnbgboaaW.PrintWords Go.Proofs.YtpmaiofgnbgboaaW.PrintLast Go.Proofs.YtpmaiofgnbgboaaW.PrintMore
attribute [local go_sem] max2_int min2_int max_two min_two max_three min_three max_four min_four   -- for this text's walks alone
set_option linter.unusedVariables false
set_option linter.unusedSimpArgs false

/-! ### console_verbs: function 33 -/
def console_verbs.f  : Option ((List (S72))) := some (([(⟨(⟨#[97, 99, 107]⟩ : ByteArray), true, false, 0, 0⟩ : S72), (⟨(⟨#[99, 108, 111, 115, 101]⟩ : ByteArray), true, false, 0, 0⟩ : S72), (⟨(⟨#[103, 101, 110]⟩ : ByteArray), true, true, 0, 100000⟩ : S72), (⟨(⟨#[108, 111, 97, 100]⟩ : ByteArray), true, true, 0, 100000⟩ : S72), (⟨(⟨#[111, 112, 101, 110]⟩ : ByteArray), true, false, 0, 0⟩ : S72), (⟨(⟨#[115, 116, 111, 114, 101]⟩ : ByteArray), true, true, (-100000), 100000⟩ : S72), (⟨(⟨#[116, 101, 108, 108]⟩ : ByteArray), false, false, 0, 0⟩ : S72), (⟨(⟨#[119, 97, 105, 116]⟩ : ByteArray), false, true, 0, 3600⟩ : S72)] : List (S72)))
set_option maxHeartbeats 8000000 in
set_option maxRecDepth 100000 in
theorem console_verbs.calls  (r : List (S72)) (w : World) (h : console_verbs.f  = some r) :
    Calls Try.prog 33 #[] w fun e w' => ∃ v0_ : Value, e = .returned (v0_) ∧ Kd.R k72 72 w' w.heap.size (fun _ => True) v0_ r ∧ Below w.heap.size w w' := by
  have hu72 := Try.underlying72
  have HB := Aside0.mk (Below.refl w.heap.size w)
  have H : (some (([(⟨(⟨#[97, 99, 107]⟩ : ByteArray), true, false, 0, 0⟩ : S72), (⟨(⟨#[99, 108, 111, 115, 101]⟩ : ByteArray), true, false, 0, 0⟩ : S72), (⟨(⟨#[103, 101, 110]⟩ : ByteArray), true, true, 0, 100000⟩ : S72), (⟨(⟨#[108, 111, 97, 100]⟩ : ByteArray), true, true, 0, 100000⟩ : S72), (⟨(⟨#[111, 112, 101, 110]⟩ : ByteArray), true, false, 0, 0⟩ : S72), (⟨(⟨#[115, 116, 111, 114, 101]⟩ : ByteArray), true, true, (-100000), 100000⟩ : S72), (⟨(⟨#[116, 101, 108, 108]⟩ : ByteArray), false, false, 0, 0⟩ : S72), (⟨(⟨#[119, 97, 105, 116]⟩ : ByteArray), false, true, 0, 3600⟩ : S72)] : List (S72)))) = some r := h
  clear h
  obtain ⟨y101, hy101⟩ : ∃ y_ : List (S72), y_ = (([(⟨(⟨#[97, 99, 107]⟩ : ByteArray), true, false, 0, 0⟩ : S72), (⟨(⟨#[99, 108, 111, 115, 101]⟩ : ByteArray), true, false, 0, 0⟩ : S72), (⟨(⟨#[103, 101, 110]⟩ : ByteArray), true, true, 0, 100000⟩ : S72), (⟨(⟨#[108, 111, 97, 100]⟩ : ByteArray), true, true, 0, 100000⟩ : S72), (⟨(⟨#[111, 112, 101, 110]⟩ : ByteArray), true, false, 0, 0⟩ : S72), (⟨(⟨#[115, 116, 111, 114, 101]⟩ : ByteArray), true, true, (-100000), 100000⟩ : S72), (⟨(⟨#[116, 101, 108, 108]⟩ : ByteArray), false, false, 0, 0⟩ : S72), (⟨(⟨#[119, 97, 105, 116]⟩ : ByteArray), false, true, 0, 3600⟩ : S72)] : List (S72))) := ⟨_, rfl⟩
  replace H : (some y101) = some r := by first | (rw [hy101]; with_reducible exact H) | (have H2_ := (Option.bind_some _ _).symm.trans H; rw [hy101]; with_reducible exact H2_) | (have H2_ := (Option.bind_some _ _).symm.trans H; with_reducible exact H2_) | with_reducible exact H | (rw [hy101]; exact H) | exact H
  have Ny101 := Aside0.mk hy101
  clear hy101
  obtain rfl := Option.some.inj H
  go_enter Try.func33, Try.ntmps33
  go_wp2_with (first | ((with_reducible refine gate_dst (N := 9) rfl ?_); refine Kd.R_lit k72 _ 72 ?hg (N := 9) ?hd (xs := ([(⟨(⟨#[97, 99, 107]⟩ : ByteArray), true, false, 0, 0⟩ : S72), (⟨(⟨#[99, 108, 111, 115, 101]⟩ : ByteArray), true, false, 0, 0⟩ : S72), (⟨(⟨#[103, 101, 110]⟩ : ByteArray), true, true, 0, 100000⟩ : S72), (⟨(⟨#[108, 111, 97, 100]⟩ : ByteArray), true, true, 0, 100000⟩ : S72), (⟨(⟨#[111, 112, 101, 110]⟩ : ByteArray), true, false, 0, 0⟩ : S72), (⟨(⟨#[115, 116, 111, 114, 101]⟩ : ByteArray), true, true, (-100000), 100000⟩ : S72), (⟨(⟨#[116, 101, 108, 108]⟩ : ByteArray), false, false, 0, 0⟩ : S72), (⟨(⟨#[119, 97, 105, 116]⟩ : ByteArray), false, true, 0, 3600⟩ : S72)] : List (S72))) (inner := [.string (⟨#[97, 99, 107]⟩ : ByteArray), .bool true, .bool false, .int .i64 0, .int .i64 0, .string (⟨#[99, 108, 111, 115, 101]⟩ : ByteArray), .bool true, .bool false, .int .i64 0, .int .i64 0, .string (⟨#[103, 101, 110]⟩ : ByteArray), .bool true, .bool true, .int .i64 0, .int .i64 100000, .string (⟨#[108, 111, 97, 100]⟩ : ByteArray), .bool true, .bool true, .int .i64 0, .int .i64 100000, .string (⟨#[111, 112, 101, 110]⟩ : ByteArray), .bool true, .bool false, .int .i64 0, .int .i64 0, .string (⟨#[115, 116, 111, 114, 101]⟩ : ByteArray), .bool true, .bool true, .int .i64 (-100000), .int .i64 100000, .string (⟨#[116, 101, 108, 108]⟩ : ByteArray), .bool false, .bool false, .int .i64 0, .int .i64 0, .string (⟨#[119, 97, 105, 116]⟩ : ByteArray), .bool false, .bool true, .int .i64 0, .int .i64 3600]) (ok := fun _ => True) (okp := fun _ => True) ?hr ?hp (fun _ hk => hk) trivial (Below.refl _ _) (Nat.le_refl _) (by simp) ?_; (case hd => rfl); (case hg => rfl); (case hr => first | (go_simp; done) | (go_simp; rfl)); (case hp => exact (Reps.c5 (show Kd.M k72 _ _ _ (⟨(⟨#[97, 99, 107]⟩ : ByteArray), true, false, 0, 0⟩ : S72) [.string (⟨#[97, 99, 107]⟩ : ByteArray), .bool true, .bool false, .int .i64 0, .int .i64 0] from (k72_mkM _ _ _ (⟨(⟨#[97, 99, 107]⟩ : ByteArray), true, false, 0, 0⟩ : S72) )) (Reps.c5 (show Kd.M k72 _ _ _ (⟨(⟨#[99, 108, 111, 115, 101]⟩ : ByteArray), true, false, 0, 0⟩ : S72) [.string (⟨#[99, 108, 111, 115, 101]⟩ : ByteArray), .bool true, .bool false, .int .i64 0, .int .i64 0] from (k72_mkM _ _ _ (⟨(⟨#[99, 108, 111, 115, 101]⟩ : ByteArray), true, false, 0, 0⟩ : S72) )) (Reps.c5 (show Kd.M k72 _ _ _ (⟨(⟨#[103, 101, 110]⟩ : ByteArray), true, true, 0, 100000⟩ : S72) [.string (⟨#[103, 101, 110]⟩ : ByteArray), .bool true, .bool true, .int .i64 0, .int .i64 100000] from (k72_mkM _ _ _ (⟨(⟨#[103, 101, 110]⟩ : ByteArray), true, true, 0, 100000⟩ : S72) )) (Reps.c5 (show Kd.M k72 _ _ _ (⟨(⟨#[108, 111, 97, 100]⟩ : ByteArray), true, true, 0, 100000⟩ : S72) [.string (⟨#[108, 111, 97, 100]⟩ : ByteArray), .bool true, .bool true, .int .i64 0, .int .i64 100000] from (k72_mkM _ _ _ (⟨(⟨#[108, 111, 97, 100]⟩ : ByteArray), true, true, 0, 100000⟩ : S72) )) (Reps.c5 (show Kd.M k72 _ _ _ (⟨(⟨#[111, 112, 101, 110]⟩ : ByteArray), true, false, 0, 0⟩ : S72) [.string (⟨#[111, 112, 101, 110]⟩ : ByteArray), .bool true, .bool false, .int .i64 0, .int .i64 0] from (k72_mkM _ _ _ (⟨(⟨#[111, 112, 101, 110]⟩ : ByteArray), true, false, 0, 0⟩ : S72) )) (Reps.c5 (show Kd.M k72 _ _ _ (⟨(⟨#[115, 116, 111, 114, 101]⟩ : ByteArray), true, true, (-100000), 100000⟩ : S72) [.string (⟨#[115, 116, 111, 114, 101]⟩ : ByteArray), .bool true, .bool true, .int .i64 (-100000), .int .i64 100000] from (k72_mkM _ _ _ (⟨(⟨#[115, 116, 111, 114, 101]⟩ : ByteArray), true, true, (-100000), 100000⟩ : S72) )) (Reps.c5 (show Kd.M k72 _ _ _ (⟨(⟨#[116, 101, 108, 108]⟩ : ByteArray), false, false, 0, 0⟩ : S72) [.string (⟨#[116, 101, 108, 108]⟩ : ByteArray), .bool false, .bool false, .int .i64 0, .int .i64 0] from (k72_mkM _ _ _ (⟨(⟨#[116, 101, 108, 108]⟩ : ByteArray), false, false, 0, 0⟩ : S72) )) (Reps.c5 (show Kd.M k72 _ _ _ (⟨(⟨#[119, 97, 105, 116]⟩ : ByteArray), false, true, 0, 3600⟩ : S72) [.string (⟨#[119, 97, 105, 116]⟩ : ByteArray), .bool false, .bool true, .int .i64 0, .int .i64 3600] from (k72_mkM _ _ _ (⟨(⟨#[119, 97, 105, 116]⟩ : ByteArray), false, true, 0, 3600⟩ : S72) )) (Reps.none _ _)))))))))); intro v102 w1 ho2 hb hg_ hnew_; clear hg_ hnew_; (first | rw [← Ny101.out] at ho2 | (simp only [Int.reduceToNat] at ho2; rw [← Ny101.out] at ho2)); have n0_ := Aside0.mk (Kd.R_lower ho2 (below_size (by repeat (first | (with_reducible first | exact HB.out | apply below_alloc | apply pw_below_drewN | apply below_drew1) | exact HB.out)))); have n1_ := Aside0.mk (below_step (by repeat (first | (with_reducible first | exact HB.out | apply below_alloc | apply pw_below_drewN | apply below_drew1) | exact HB.out)) hb); clear HB; have HO103 := n0_; have HB := n1_; clear n0_ n1_; clear hb ho2))
  go_ret
  exact ⟨_, by first | rfl | (simp [errW_none, errW_some] <;> rfl) | (simp [*, errW_none, errW_some] <;> rfl), by (with_reducible repeat (first | apply Kd.R_alloc | apply Kd.R_drewN | apply Kd.R_drew)); exact HO103.out, by repeat (first | (with_reducible first | exact HB.out | apply below_alloc | apply pw_below_drewN | apply below_drew1) | exact HB.out)⟩

/-! ### stringslite_HasPrefix: function 45 -/
def stringslite_HasPrefix.f (a0 : ByteArray) (a1 : ByteArray) : Option (Bool) := if (a0.size : Int) ≥ (a1.size : Int) then (if 0 ≤ (a1.size : Int) then (if (a1.size : Int) ≤ (a0.size : Int) then (some ((a0.extract 0 ((a1.size : Int) : Int).toNat).toList == a1.toList)) else (none)) else (none)) else (some false)
set_option maxHeartbeats 8000000 in
set_option maxRecDepth 100000 in
theorem stringslite_HasPrefix.calls (a0 : ByteArray) (a1 : ByteArray) (r : Bool) (w : World) (h : stringslite_HasPrefix.f a0 a1 = some r) :
    Calls Try.prog 45 #[.string a0, .string a1] w fun e w' => e = .returned (.bool r) ∧ Drawn0 w w' := by
  have H : (if (a0.size : Int) ≥ (a1.size : Int) then (if 0 ≤ (a1.size : Int) then (if (a1.size : Int) ≤ (a0.size : Int) then (some ((a0.extract 0 ((a1.size : Int) : Int).toNat).toList == a1.toList)) else (none)) else (none)) else (some false)) = some r := h
  clear h
  by_cases c3 : (a0.size : Int) ≥ (a1.size : Int)
  · rw [if_pos c3] at H
    have c3b0 : decide ((a1.size : Int) ≤ (a0.size : Int)) = true := decide_eq_true c3
    have c3b1 : decide (a1.size ≤ a0.size) = true := decide_eq_true (Int.ofNat_le.mp c3)
    clear c3
    by_cases c4 : 0 ≤ (a1.size : Int)
    · rw [if_pos c4] at H
      have c4b0 := eq_true c4
      have c4b1 : decide (0 ≤ (a1.size : Int)) = true := decide_eq_true c4
      clear c4
      by_cases c5 : (a1.size : Int) ≤ (a0.size : Int)
      · rw [if_pos c5] at H
        have c5b0 := eq_true c5
        have c5b1 : decide ((a1.size : Int) ≤ (a0.size : Int)) = true := decide_eq_true c5
        clear c5
        obtain rfl := Option.some.inj H
        go_enter Try.func45, Try.ntmps45
        go_wp2
        go_ret
        exact ⟨by first | rfl | (simp; done) | (simp [*]; done), by repeat (first | exact Drawn0.refl _ | apply Drawn0.step)⟩
      · rw [if_neg c5] at H
        exact absurd H (by simp)
    · rw [if_neg c4] at H
      exact absurd H (by simp)
  · rw [if_neg c3] at H
    have c3b0 : decide ((a1.size : Int) ≤ (a0.size : Int)) = false := decide_eq_false c3
    have c3b1 : decide (a1.size ≤ a0.size) = false := decide_eq_false (fun h => c3 (Int.ofNat_le.mpr h))
    clear c3
    obtain rfl := Option.some.inj H
    go_enter Try.func45, Try.ntmps45
    go_wp2
    go_ret
    exact ⟨by first | rfl | (simp; done) | (simp [*]; done), by repeat (first | exact Drawn0.refl _ | apply Drawn0.step)⟩

/-! ### strings_HasPrefix: function 34 -/
def strings_HasPrefix.f (a0 : ByteArray) (a1 : ByteArray) : Option (Bool) := (stringslite_HasPrefix.f a0 a1).bind fun t104 => (some t104)
set_option maxHeartbeats 8000000 in
set_option maxRecDepth 100000 in
theorem strings_HasPrefix.calls (a0 : ByteArray) (a1 : ByteArray) (r : Bool) (w : World) (h : strings_HasPrefix.f a0 a1 = some r) :
    Calls Try.prog 34 #[.string a0, .string a1] w fun e w' => e = .returned (.bool r) ∧ Drawn0 w w' := by
  have H : ((stringslite_HasPrefix.f a0 a1).bind fun t104 => (some t104)) = some r := h
  clear h
  replace H := Option.bind_eq_some_iff.mp H
  obtain ⟨t104, A30, H⟩ := H
  replace H : (some t104) = some r := H
  have A3 := Aside0.mk A30
  clear A30
  obtain rfl := Option.some.inj H
  go_enter Try.func34, Try.ntmps34
  go_wp2_with (first | ((with_reducible refine gate_callee (f := 45) rfl ?_); refine goesL_ (some 7) rfl rfl Try.func45 (by kernel_rfl) rfl #[.string a0, .string a1] rfl (by (try simp only [List.map_toArray, List.map_cons, List.map_nil]); first | done | rfl | (simp only [List.length_drop, List.length_take]; rfl)) ?_; (with_reducible refine (stringslite_HasPrefix.calls a0 a1 t104 _ A3.out).mono ?_); rintro e w' ⟨rfl, ⟨nd, rfl⟩⟩; refine ⟨_, rfl, ?_⟩))
  go_ret
  exact ⟨by first | rfl | (simp; done) | (simp [*]; done), by repeat (first | exact Drawn0.refl _ | apply Drawn0.step)⟩

/-! ### console_Complete: function 9 -/
def console_Complete.l0 : Nat → ByteArray → List ByteArray → List (S72) → Int → Int → Option (List ByteArray)
  | 0, _, _, _, _, _ => none
  | k + 1, x0, x3, x6, x7, x8 => if x8 < x7 then (if 0 ≤ x8 then (if x8 < (x6.length : Int) then ((strings_HasPrefix.f ((rd_T72 x6 x8).f0) x0).bind fun t110 => (if t110 = true then (if x3.length < 8796093022208 then (console_Complete.l0 k x0 (x3 ++ [(rd_T72 x6 x8).f0]) x6 x7 (wrap64 (x8 + 1))) else (none)) else (console_Complete.l0 k x0 x3 x6 x7 (wrap64 (x8 + 1))))) else (none)) else (none)) else (some x3)
def console_Complete.f (k : Nat) (a0 : ByteArray) : Option (List ByteArray) := (console_verbs.f).bind fun t105 => (console_Complete.l0 k a0 ([] : List ByteArray) t105 (t105.length : Int) 0)
theorem console_Complete.mono_l : ∀ k, (∀ y0 y1 y2 y3 y4, LeO (console_Complete.l0 k y0 y1 y2 y3 y4) (console_Complete.l0 (k + 1) y0 y1 y2 y3 y4))
  | 0 => fun _ _ _ _ _ r h => by simp [console_Complete.l0] at h
  | k + 1 => by
    have ih0 := console_Complete.mono_l k
    · intro y0 y1 y2 y3 y4
      unfold console_Complete.l0
      repeat' first
      | (with_reducible exact ih0 _ _ _ _ _)
      | (with_reducible exact LeO.refl _)
      | (with_reducible exact LeO.none _)
      | (with_reducible refine LeO.ite ?_ ?_)
      | (with_reducible refine LeO.bind ?_ (fun _ => ?_))
      | exact ih0 _ _ _ _ _
      | exact LeO.none _
      | refine LeO.ite ?_ ?_
      | refine LeO.bind ?_ (fun _ => ?_)
theorem console_Complete.mono : ∀ a0 k, LeO (console_Complete.f k a0) (console_Complete.f (k + 1) a0) := by
  intro a0 k
  have ih0 := console_Complete.mono_l k
  unfold console_Complete.f
  repeat' first
      | (with_reducible exact ih0 _ _ _ _ _)
      | (with_reducible exact LeO.refl _)
      | (with_reducible exact LeO.none _)
      | (with_reducible refine LeO.ite ?_ ?_)
      | (with_reducible refine LeO.bind ?_ (fun _ => ?_))
      | exact ih0 _ _ _ _ _
      | exact LeO.none _
      | refine LeO.ite ?_ ?_
      | refine LeO.bind ?_ (fun _ => ?_)
set_option maxHeartbeats 8000000 in
set_option maxRecDepth 100000 in
theorem console_Complete.calls (k : Nat) (a0 : ByteArray) (r : List ByteArray) (w : World) (h : console_Complete.f k a0 = some r) :
    Calls Try.prog 9 #[.string a0] w fun e w' => ∃ v0_ : Value, e = .returned (v0_) ∧ Kd.R Kd.string 9 w' w.heap.size (fun _ => True) v0_ r ∧ Below w.heap.size w w' := by
  have hu72 := Try.underlying72
  have HB := Aside0.mk (Below.refl w.heap.size w)
  have H : ((console_verbs.f).bind fun t105 => (console_Complete.l0 k a0 ([] : List ByteArray) t105 (t105.length : Int) 0)) = some r := h
  clear h
  replace H := Option.bind_eq_some_iff.mp H
  obtain ⟨t105, A20, H⟩ := H
  replace H : (console_Complete.l0 k a0 ([] : List ByteArray) t105 (t105.length : Int) 0) = some r := H
  have A2 := Aside0.mk A20
  clear A20
  have H' := Aside0.mk H
  clear H
  go_enter Try.func9, Try.ntmps9
  go_wp2_with (first | ((with_reducible refine gate_callee (f := 33) rfl ?_); refine goesL_ (some 6) rfl rfl Try.func33 (by kernel_rfl) rfl #[] rfl (by (try simp only [List.map_toArray, List.map_cons, List.map_nil]); first | done | rfl | (simp only [List.length_drop, List.length_take]; rfl)) ?_; (with_reducible refine (console_verbs.calls  t105 _ A2.out).mono ?_); rintro e w3 ⟨v106, rfl, ho0, hb⟩; refine ⟨_, rfl, ?_⟩; have n0_ := Aside0.mk (Kd.R_lower ho0 (below_size (by repeat (first | (with_reducible first | exact HB.out | apply below_alloc | apply pw_below_drewN | apply below_drew1) | exact HB.out)))); have n1_ := Aside0.mk (below_step (by repeat (first | (with_reducible first | exact HB.out | apply below_alloc | apply pw_below_drewN | apply below_drew1) | exact HB.out)) hb); clear HB; have HO107 := n0_; have HB := n1_; clear n0_ n1_; (try clear hb); (try clear hb2); (try clear hk); (try clear hi); (try clear ho0); obtain ⟨Ao4, co4, eo4⟩ := Kd.R_slice HO107.out; subst eo4))
  go_loopg [3, 8] k (fun kq v3 v8 w' => ∃ (x3_1 : List ByteArray) (x8_1 : Int), v8 = .int .i64 x8_1 ∧ Aside0 (console_Complete.l0 kq a0 x3_1 t105 (t105.length : Int) x8_1 = some r) ∧ Aside0 (kq ≤ k) ∧ Aside0 (Kd.R Kd.string 9 w' w.heap.size (fun _ => True) v3 x3_1) ∧ Aside0 (Kd.R k72 72 w' w.heap.size (fun _ => True) (.slice Ao4 t105.length co4) t105) ∧ Aside0 (Below w.heap.size w w'))
  case atStart => exact ⟨(([] : List ByteArray)), (0), (by first | rfl | (simp; done) | (simp [*]; done)), H', ⟨Nat.le_refl _⟩, ⟨by first | exact Kd.R_nil _ _ _ _ _ | exact Kd.N_nil _ _ _ _ _ | exact Kd.V_nil _ _ _ _ _ | exact Kd.Q_nil _ _ _ _ _ | exact Kd.S_nil _ _ _ _ _⟩, ⟨by (with_reducible repeat (first | apply Kd.R_alloc | apply Kd.R_drewN | apply Kd.R_drew)); exact HO107.out⟩, ⟨by repeat (first | (with_reducible first | exact HB.out | apply below_alloc | apply pw_below_drewN | apply below_drew1) | exact HB.out)⟩⟩
  case round =>
    clear H'
    try clear p2
    try clear c3
    obtain ⟨x3_1, x8_1, rfl, HA, HK1, HO_3, HO_6, HB⟩ := hrel
    cases gk with
    | zero => exact absurd HA.out (by simp [console_Complete.l0])
    | succ k1 =>
      have H := HA.out
      clear HA
      simp only [console_Complete.l0] at H
      by_cases c5 : x8_1 < (t105.length : Int)
      · rw [if_pos c5] at H
        have c5b0 : decide (x8_1 < (t105.length : Int)) = true := decide_eq_true c5
        clear c5
        by_cases c6 : 0 ≤ x8_1
        · rw [if_pos c6] at H
          have c6b0 : decide (0 ≤ x8_1) = true := decide_eq_true c6
          clear c6
          by_cases c7 : x8_1 < (t105.length : Int)
          · rw [if_pos c7] at H
            have c7b0 : decide (x8_1 < (t105.length : Int)) = true := decide_eq_true c7
            clear c7
            replace H := Option.bind_eq_some_iff.mp H
            obtain ⟨t110, A80, H⟩ := H
            replace H : (if t110 = true then (if x3_1.length < 8796093022208 then (console_Complete.l0 k1 a0 (x3_1 ++ [(rd_T72 t105 x8_1).f0]) t105 (t105.length : Int) (wrap64 (x8_1 + 1))) else (none)) else (console_Complete.l0 k1 a0 x3_1 t105 (t105.length : Int) (wrap64 (x8_1 + 1)))) = some r := H
            have A8 := Aside0.mk A80
            clear A80
            by_cases c9 : t110 = true
            · subst c9
              have H1 : (if x3_1.length < 8796093022208 then (console_Complete.l0 k1 a0 (x3_1 ++ [(rd_T72 t105 x8_1).f0]) t105 (t105.length : Int) (wrap64 (x8_1 + 1))) else (none)) = some r := by rw [if_pos rfl] at H; exact H
              clear H
              have H := H1
              clear H1
              by_cases c10 : x3_1.length < 8796093022208
              · rw [if_pos c10] at H
                have LMc10 := Aside0.mk c10
                clear c10
                obtain ⟨y111, hy111⟩ : ∃ y_ : List ByteArray, y_ = (x3_1 ++ [(rd_T72 t105 x8_1).f0]) := ⟨_, rfl⟩
                replace H : (console_Complete.l0 k1 a0 y111 t105 (t105.length : Int) (wrap64 (x8_1 + 1))) = some r := by first | (rw [hy111]; with_reducible exact H) | (have H2_ := (Option.bind_some _ _).symm.trans H; rw [hy111]; with_reducible exact H2_) | (have H2_ := (Option.bind_some _ _).symm.trans H; with_reducible exact H2_) | with_reducible exact H | (rw [hy111]; exact H) | exact H
                have Ny111 := Aside0.mk hy111
                clear hy111
                have H' := Aside0.mk H
                clear H
                have p108 : 0 ≤ (x8_1 : Int) := of_decide_eq_true (by first | (with_reducible assumption) | assumption)
                have q108 : x8_1 < (t105.length : Int) := of_decide_eq_true (by first | (with_reducible assumption) | assumption)
                obtain ⟨ad108, e108, hx108_0, hx108_1, hx108_2, hx108_3, hx108_4⟩ := at_T72 (Kd.R_reads' HO_6.out).2.2 x8_1 p108 q108
                cases e108
                replace p108 := eq_true p108
                replace q108 := eq_true q108
                go_wp2_with (first | ((with_reducible refine gate_dst (N := 5) rfl ?_); refine box_event ?hg (N := 5) ?hd (cs := #[.string (⟨#[]⟩ : ByteArray), .bool false, .bool false, .int .i64 0, .int .i64 0]) (t := 72) ?hr ?_; (case hd => rfl); (case hg => rfl); (case hr => first | (go_simp; done) | (go_simp; rfl)); intro gb109 hg w11 hbox hb; have n0_ := Aside0.mk (Kd.R_below (by (with_reducible repeat (first | apply Kd.R_alloc | apply Kd.R_drewN | apply Kd.R_drew)); exact HO_3.out) hb); have n1_ := Aside0.mk (Kd.R_below (Kd.R_elderB (by (with_reducible repeat (first | apply Kd.R_alloc | apply Kd.R_drewN | apply Kd.R_drew)); exact HO_6.out) gb109 (Nat.le_of_eq hg.symm)) hb); have n2_ := Aside0.mk (below_step (by repeat (first | (with_reducible first | exact HB.out | apply below_alloc | apply pw_below_drewN | apply below_drew1) | exact HB.out)) hb); have n3_ := Aside0.mk (hbox); have n4_ := Aside0.mk ((by rw [hg]; exact (below_size (by repeat (first | (with_reducible first | exact HB.out | apply below_alloc | apply pw_below_drewN | apply below_drew1) | exact HB.out))) : w.heap.size ≤ gb109)); have n5_ := Aside0.mk ((by rw [hg]; exact (below_size (by repeat (first | (with_reducible first | exact HB.out | apply below_alloc | apply pw_below_drewN | apply below_drew1) | exact HB.out))) : w.heap.size ≤ gb109)); clear HO_3; clear HO_6; clear HB; have HO_3 := n0_; have HO_6 := n1_; have HB := n2_; have BK109 := n3_; have GW109 := n4_; have GE109 := n5_; clear n0_ n1_ n2_ n3_ n4_ n5_; clear hb hbox hg; have hcz12_0 : w11.cell? ⟨gb109, 0, none⟩ = some (.string (⟨#[]⟩ : ByteArray)) := (blk_cell BK109.out 0).trans rfl; have hcz12_1 : w11.cell? ⟨gb109, 1, none⟩ = some (.bool false) := (blk_cell BK109.out 1).trans rfl; have hcz12_2 : w11.cell? ⟨gb109, 2, none⟩ = some (.bool false) := (blk_cell BK109.out 2).trans rfl; have hcz12_3 : w11.cell? ⟨gb109, 3, none⟩ = some (.int .i64 0) := (blk_cell BK109.out 3).trans rfl; have hcz12_4 : w11.cell? ⟨gb109, 4, none⟩ = some (.int .i64 0) := (blk_cell BK109.out 4).trans rfl; have hfz12_0 := blk_frozen BK109.out 0; have hfz12_1 := blk_frozen BK109.out 1; have hfz12_2 := blk_frozen BK109.out 2; have hfz12_3 := blk_frozen BK109.out 3; have hfz12_4 := blk_frozen BK109.out 4) | ((with_reducible refine gate_callee (f := 34) rfl ?_); refine goesL_ (some 15) rfl rfl Try.func34 (by kernel_rfl) rfl #[.string ((rd_T72 t105 x8_1).f0), .string a0] rfl (by (try simp only [List.map_toArray, List.map_cons, List.map_nil]); first | done | rfl | (simp only [List.length_drop, List.length_take]; rfl)) ?_; (with_reducible refine (strings_HasPrefix.calls ((rd_T72 t105 x8_1).f0) a0 true _ A8.out).mono ?_); rintro e w' ⟨rfl, ⟨nd, rfl⟩⟩; refine ⟨_, rfl, ?_⟩) | ((with_reducible refine gate_builtin (b := .append) (xs := #[.tmp 16, .tmp 19]) rfl ?_); at_builtin; refine Kd.R_append Kd.string (w0 := w) w.heap.size rfl (.tmp 16) (.tmp 19) 22 9 (.string ⟨#[]⟩) 16 rfl Try.underlying22 info9 rfl (by decide) (by omega) u3 x3_1 ((rd_T72 t105 x8_1).f0) [.string ((rd_T72 t105 x8_1).f0)] (fun _ => True) (fun _ => False) rfl (by first | (go_simp; done) | (go_simp; rfl)) ?aP (fun _ hk => hk.elim) ?aF ?aO ?aB ?aS ?aL ?_; (case aP => exact rfl); (case aB => exact (by repeat (first | (with_reducible first | exact HB.out | apply below_alloc | apply pw_below_drewN | apply below_drew1 | refine below_set ?_ GE109.out) | exact HB.out))); (case aF => exact (fun _ _ => trivial)); (case aO => exact (by (with_reducible repeat (first | apply Kd.R_alloc | apply Kd.R_drewN | apply Kd.R_drew)); exact Kd.R_mono (Kd.R_far (p := ⟨gb109, 4, none⟩) (Kd.R_far (p := ⟨gb109, 3, none⟩) (Kd.R_far (p := ⟨gb109, 2, none⟩) (Kd.R_far (p := ⟨gb109, 1, none⟩) (Kd.R_far (p := ⟨gb109, 0, none⟩) (Kd.R_types HO_3.out BK109.out (by decide)) (fun _ hk => hk.2) (.string ((rd_T72 t105 x8_1).f0))) (fun _ hk => hk.2) (.bool ((rd_T72 t105 x8_1).f1))) (fun _ hk => hk.2) (.bool ((rd_T72 t105 x8_1).f2))) (fun _ hk => hk.2) (.int .i64 ((rd_T72 t105 x8_1).f3))) (fun _ hk => hk.2) (.int .i64 ((rd_T72 t105 x8_1).f4))) (fun _ hk => trivial))); (case aS => exact (below_size (by repeat (first | (with_reducible first | exact HB.out | apply below_alloc | apply pw_below_drewN | apply below_drew1 | refine below_set ?_ GE109.out) | exact HB.out)))); (case aL => have := LMc10.out; omega); intro v112 w13 ho hb hg hat; rw [← Ny111.out] at ho; have n0_ := Aside0.mk (Kd.R_over' (by (with_reducible repeat (first | apply Kd.R_alloc | apply Kd.R_drewN | apply Kd.R_drew)); exact (Kd.R_mono (Kd.R_far (p := ⟨gb109, 4, none⟩) (Kd.R_far (p := ⟨gb109, 3, none⟩) (Kd.R_far (p := ⟨gb109, 2, none⟩) (Kd.R_far (p := ⟨gb109, 1, none⟩) (Kd.R_far (p := ⟨gb109, 0, none⟩) (Kd.R_mono HO_6.out (fun k_ hk => (⟨hk, hk.2⟩ : _ ∧ k_ ≠ gb109))) (fun _ hk => hk.2) (.string ((rd_T72 t105 x8_1).f0))) (fun _ hk => hk.2) (.bool ((rd_T72 t105 x8_1).f1))) (fun _ hk => hk.2) (.bool ((rd_T72 t105 x8_1).f2))) (fun _ hk => hk.2) (.int .i64 ((rd_T72 t105 x8_1).f3))) (fun _ hk => hk.2) (.int .i64 ((rd_T72 t105 x8_1).f4))) (fun _ h_ => h_.1))) (Kd.R_typed (by (with_reducible repeat (first | apply Kd.R_alloc | apply Kd.R_drewN | apply Kd.R_drew)); exact (Kd.R_mono (Kd.R_far (p := ⟨gb109, 4, none⟩) (Kd.R_far (p := ⟨gb109, 3, none⟩) (Kd.R_far (p := ⟨gb109, 2, none⟩) (Kd.R_far (p := ⟨gb109, 1, none⟩) (Kd.R_far (p := ⟨gb109, 0, none⟩) (Kd.R_types HO_3.out BK109.out (by decide)) (fun _ hk => hk.2) (.string ((rd_T72 t105 x8_1).f0))) (fun _ hk => hk.2) (.bool ((rd_T72 t105 x8_1).f1))) (fun _ hk => hk.2) (.bool ((rd_T72 t105 x8_1).f2))) (fun _ hk => hk.2) (.int .i64 ((rd_T72 t105 x8_1).f3))) (fun _ hk => hk.2) (.int .i64 ((rd_T72 t105 x8_1).f4))) (fun _ h_ => h_.1)))) (by decide) hg); have n1_ := Aside0.mk (blk_grown (g := gb109) (o := .cells #[.string ((rd_T72 t105 x8_1).f0), .bool ((rd_T72 t105 x8_1).f1), .bool ((rd_T72 t105 x8_1).f2), .int .i64 ((rd_T72 t105 x8_1).f3), .int .i64 ((rd_T72 t105 x8_1).f4)] 72 (0, 0)) (by (with_reducible repeat (first | refine blk_drewN ?_ _ | refine blk_drew ?_ | refine blk_alloc ?_ _)); refine blk_put (cs := #[.string ((rd_T72 t105 x8_1).f0), .bool ((rd_T72 t105 x8_1).f1), .bool ((rd_T72 t105 x8_1).f2), .int .i64 ((rd_T72 t105 x8_1).f3), .int .i64 0]) ?_ 4 _ rfl; (with_reducible repeat (first | refine blk_drewN ?_ _ | refine blk_drew ?_ | refine blk_alloc ?_ _)); refine blk_put (cs := #[.string ((rd_T72 t105 x8_1).f0), .bool ((rd_T72 t105 x8_1).f1), .bool ((rd_T72 t105 x8_1).f2), .int .i64 0, .int .i64 0]) ?_ 3 _ rfl; (with_reducible repeat (first | refine blk_drewN ?_ _ | refine blk_drew ?_ | refine blk_alloc ?_ _)); refine blk_put (cs := #[.string ((rd_T72 t105 x8_1).f0), .bool ((rd_T72 t105 x8_1).f1), .bool false, .int .i64 0, .int .i64 0]) ?_ 2 _ rfl; (with_reducible repeat (first | refine blk_drewN ?_ _ | refine blk_drew ?_ | refine blk_alloc ?_ _)); refine blk_put (cs := #[.string ((rd_T72 t105 x8_1).f0), .bool false, .bool false, .int .i64 0, .int .i64 0]) ?_ 1 _ rfl; (with_reducible repeat (first | refine blk_drewN ?_ _ | refine blk_drew ?_ | refine blk_alloc ?_ _)); refine blk_put (cs := #[.string (⟨#[]⟩ : ByteArray), .bool false, .bool false, .int .i64 0, .int .i64 0]) ?_ 0 _ rfl; (with_reducible repeat (first | refine blk_drewN ?_ _ | refine blk_drew ?_ | refine blk_alloc ?_ _)); exact BK109.out) hg (Kd.R_ne HO_3.out BK109.out (by decide))); have n2_ := Aside0.mk (hb); have n3_ := Aside0.mk (ho); clear HO_6; clear BK109; clear HB; clear HO_3; have HO_6 := n0_; have BK109 := n1_; have HB := n2_; have HO113 := n3_; clear n0_ n1_ n2_ n3_; clear ho hb hg hat))
                go_roundg k1
                case measure => have := HK1.out; omega
                case rel => exact ⟨(y111), (wrap64 (x8_1 + 1)), (by first | rfl | (simp; done) | (simp [*]; done)), H', ⟨by have := HK1.out; omega⟩, ⟨by (with_reducible repeat (first | apply Kd.R_alloc | apply Kd.R_drewN | apply Kd.R_drew)); exact HO113.out⟩, ⟨by (with_reducible repeat (first | apply Kd.R_alloc | apply Kd.R_drewN | apply Kd.R_drew)); exact Kd.R_mono HO_6.out (fun _ hk => trivial)⟩, ⟨by repeat (first | (with_reducible first | exact HB.out | apply below_alloc | apply pw_below_drewN | apply below_drew1 | refine below_set ?_ GE109.out) | exact HB.out)⟩⟩
              · rw [if_neg c10] at H
                exact absurd H (by simp)
            · replace c9 := Bool.eq_false_iff.mpr c9
              subst c9
              have H1 : (console_Complete.l0 k1 a0 x3_1 t105 (t105.length : Int) (wrap64 (x8_1 + 1))) = some r := by rw [if_neg (show ¬ (false = true) by decide)] at H; exact H
              clear H
              have H := H1
              clear H1
              have H' := Aside0.mk H
              clear H
              have p108 : 0 ≤ (x8_1 : Int) := of_decide_eq_true (by first | (with_reducible assumption) | assumption)
              have q108 : x8_1 < (t105.length : Int) := of_decide_eq_true (by first | (with_reducible assumption) | assumption)
              obtain ⟨ad108, e108, hx108_0, hx108_1, hx108_2, hx108_3, hx108_4⟩ := at_T72 (Kd.R_reads' HO_6.out).2.2 x8_1 p108 q108
              cases e108
              replace p108 := eq_true p108
              replace q108 := eq_true q108
              go_wp2_with (first | ((with_reducible refine gate_dst (N := 5) rfl ?_); refine box_event ?hg (N := 5) ?hd (cs := #[.string (⟨#[]⟩ : ByteArray), .bool false, .bool false, .int .i64 0, .int .i64 0]) (t := 72) ?hr ?_; (case hd => rfl); (case hg => rfl); (case hr => first | (go_simp; done) | (go_simp; rfl)); intro gb109 hg w14 hbox hb; have n0_ := Aside0.mk (Kd.R_below (by (with_reducible repeat (first | apply Kd.R_alloc | apply Kd.R_drewN | apply Kd.R_drew)); exact HO_3.out) hb); have n1_ := Aside0.mk (Kd.R_below (Kd.R_elderB (by (with_reducible repeat (first | apply Kd.R_alloc | apply Kd.R_drewN | apply Kd.R_drew)); exact HO_6.out) gb109 (Nat.le_of_eq hg.symm)) hb); have n2_ := Aside0.mk (below_step (by repeat (first | (with_reducible first | exact HB.out | apply below_alloc | apply pw_below_drewN | apply below_drew1) | exact HB.out)) hb); have n3_ := Aside0.mk (hbox); have n4_ := Aside0.mk ((by rw [hg]; exact (below_size (by repeat (first | (with_reducible first | exact HB.out | apply below_alloc | apply pw_below_drewN | apply below_drew1) | exact HB.out))) : w.heap.size ≤ gb109)); have n5_ := Aside0.mk ((by rw [hg]; exact (below_size (by repeat (first | (with_reducible first | exact HB.out | apply below_alloc | apply pw_below_drewN | apply below_drew1) | exact HB.out))) : w.heap.size ≤ gb109)); clear HO_3; clear HO_6; clear HB; have HO_3 := n0_; have HO_6 := n1_; have HB := n2_; have BK109 := n3_; have GW109 := n4_; have GE109 := n5_; clear n0_ n1_ n2_ n3_ n4_ n5_; clear hb hbox hg; have hcz15_0 : w14.cell? ⟨gb109, 0, none⟩ = some (.string (⟨#[]⟩ : ByteArray)) := (blk_cell BK109.out 0).trans rfl; have hcz15_1 : w14.cell? ⟨gb109, 1, none⟩ = some (.bool false) := (blk_cell BK109.out 1).trans rfl; have hcz15_2 : w14.cell? ⟨gb109, 2, none⟩ = some (.bool false) := (blk_cell BK109.out 2).trans rfl; have hcz15_3 : w14.cell? ⟨gb109, 3, none⟩ = some (.int .i64 0) := (blk_cell BK109.out 3).trans rfl; have hcz15_4 : w14.cell? ⟨gb109, 4, none⟩ = some (.int .i64 0) := (blk_cell BK109.out 4).trans rfl; have hfz15_0 := blk_frozen BK109.out 0; have hfz15_1 := blk_frozen BK109.out 1; have hfz15_2 := blk_frozen BK109.out 2; have hfz15_3 := blk_frozen BK109.out 3; have hfz15_4 := blk_frozen BK109.out 4) | ((with_reducible refine gate_callee (f := 34) rfl ?_); refine goesL_ (some 15) rfl rfl Try.func34 (by kernel_rfl) rfl #[.string ((rd_T72 t105 x8_1).f0), .string a0] rfl (by (try simp only [List.map_toArray, List.map_cons, List.map_nil]); first | done | rfl | (simp only [List.length_drop, List.length_take]; rfl)) ?_; (with_reducible refine (strings_HasPrefix.calls ((rd_T72 t105 x8_1).f0) a0 false _ A8.out).mono ?_); rintro e w' ⟨rfl, ⟨nd, rfl⟩⟩; refine ⟨_, rfl, ?_⟩))
              go_roundg k1
              case measure => have := HK1.out; omega
              case rel => exact ⟨(x3_1), (wrap64 (x8_1 + 1)), (by first | rfl | (simp; done) | (simp [*]; done)), H', ⟨by have := HK1.out; omega⟩, ⟨by (with_reducible repeat (first | apply Kd.R_alloc | apply Kd.R_drewN | apply Kd.R_drew)); exact Kd.R_mono (Kd.R_far (p := ⟨gb109, 4, none⟩) (Kd.R_far (p := ⟨gb109, 3, none⟩) (Kd.R_far (p := ⟨gb109, 2, none⟩) (Kd.R_far (p := ⟨gb109, 1, none⟩) (Kd.R_far (p := ⟨gb109, 0, none⟩) (Kd.R_types HO_3.out BK109.out (by decide)) (fun _ hk => hk.2) (.string ((rd_T72 t105 x8_1).f0))) (fun _ hk => hk.2) (.bool ((rd_T72 t105 x8_1).f1))) (fun _ hk => hk.2) (.bool ((rd_T72 t105 x8_1).f2))) (fun _ hk => hk.2) (.int .i64 ((rd_T72 t105 x8_1).f3))) (fun _ hk => hk.2) (.int .i64 ((rd_T72 t105 x8_1).f4))) (fun _ hk => trivial)⟩, ⟨by (with_reducible repeat (first | apply Kd.R_alloc | apply Kd.R_drewN | apply Kd.R_drew)); exact Kd.R_mono (Kd.R_far (p := ⟨gb109, 4, none⟩) (Kd.R_far (p := ⟨gb109, 3, none⟩) (Kd.R_far (p := ⟨gb109, 2, none⟩) (Kd.R_far (p := ⟨gb109, 1, none⟩) (Kd.R_far (p := ⟨gb109, 0, none⟩) (Kd.R_mono HO_6.out (fun k_ hk => (⟨hk, hk.2⟩ : _ ∧ k_ ≠ gb109))) (fun _ hk => hk.2) (.string ((rd_T72 t105 x8_1).f0))) (fun _ hk => hk.2) (.bool ((rd_T72 t105 x8_1).f1))) (fun _ hk => hk.2) (.bool ((rd_T72 t105 x8_1).f2))) (fun _ hk => hk.2) (.int .i64 ((rd_T72 t105 x8_1).f3))) (fun _ hk => hk.2) (.int .i64 ((rd_T72 t105 x8_1).f4))) (fun _ hk => trivial)⟩, ⟨by repeat (first | (with_reducible first | exact HB.out | apply below_alloc | apply pw_below_drewN | apply below_drew1 | refine below_set ?_ GE109.out) | exact HB.out)⟩⟩
          · rw [if_neg c7] at H
            exact absurd H (by simp)
        · rw [if_neg c6] at H
          exact absurd H (by simp)
      · rw [if_neg c5] at H
        have c5b0 : decide (x8_1 < (t105.length : Int)) = false := decide_eq_false c5
        clear c5
        obtain rfl := Option.some.inj H
        go_wp2
        go_ret
        exact ⟨_, by first | rfl | (simp [errW_none, errW_some] <;> rfl) | (simp [*, errW_none, errW_some] <;> rfl), by (with_reducible repeat (first | apply Kd.R_alloc | apply Kd.R_drewN | apply Kd.R_drew)); exact HO_3.out, by repeat (first | (with_reducible first | exact HB.out | apply below_alloc | apply pw_below_drewN | apply below_drew1) | exact HB.out)⟩

/-! ### gridhalllaw4_Names: function 3 -/
def gridhalllaw4_Names.f (k : Nat)  : Option (Bool) := (console_Complete.f k (⟨#[]⟩ : ByteArray)).bind fun t114 => (if (t114.length : Int) = 8 then (some true) else (some false))
theorem gridhalllaw4_Names.mono : ∀ k, LeO (gridhalllaw4_Names.f k ) (gridhalllaw4_Names.f (k + 1) ) := by
  intro  k
  unfold gridhalllaw4_Names.f
  repeat' first
      | (with_reducible exact console_Complete.mono _ _)
      | (with_reducible exact LeO.refl _)
      | (with_reducible exact LeO.none _)
      | (with_reducible refine LeO.ite ?_ ?_)
      | (with_reducible refine LeO.bind ?_ (fun _ => ?_))
      | exact console_Complete.mono _ _
      | exact LeO.none _
      | refine LeO.ite ?_ ?_
      | refine LeO.bind ?_ (fun _ => ?_)
set_option maxHeartbeats 8000000 in
set_option maxRecDepth 100000 in
theorem gridhalllaw4_Names.calls (k : Nat)  (r : Bool) (w : World) (h : gridhalllaw4_Names.f k  = some r) :
    Calls Try.prog 3 #[] w fun e w' => e = .returned (.bool r) ∧ Below w.heap.size w w' := by
  have HB := Aside0.mk (Below.refl w.heap.size w)
  have H : ((console_Complete.f k (⟨#[]⟩ : ByteArray)).bind fun t114 => (if (t114.length : Int) = 8 then (some true) else (some false))) = some r := h
  clear h
  replace H := Option.bind_eq_some_iff.mp H
  obtain ⟨t114, A10, H⟩ := H
  replace H : (if (t114.length : Int) = 8 then (some true) else (some false)) = some r := H
  have A1 := Aside0.mk A10
  clear A10
  by_cases c2 : (t114.length : Int) = 8
  · rw [if_pos c2] at H
    have c2b0 : ((t114.length : Int) == 8) = true := beq_iff_eq.mpr c2
    have c2b1 : ((t114.length : Int) != 8) = false := bne_eq_false_iff_eq.mpr c2
    clear c2
    obtain rfl := Option.some.inj H
    go_enter Try.func3, Try.ntmps3
    go_wp2_with (first | ((with_reducible refine gate_callee (f := 9) rfl ?_); refine goesL_ (some 1) rfl rfl Try.func9 (by kernel_rfl) rfl #[.string (⟨#[]⟩ : ByteArray)] rfl (by (try simp only [List.map_toArray, List.map_cons, List.map_nil]); first | done | rfl | (simp only [List.length_drop, List.length_take]; rfl)) ?_; (with_reducible refine (console_Complete.calls k (⟨#[]⟩ : ByteArray) t114 _ A1.out).mono ?_); rintro e w3 ⟨v115, rfl, ho0, hb⟩; refine ⟨_, rfl, ?_⟩; have n0_ := Aside0.mk (Kd.R_lower ho0 (below_size (by repeat (first | (with_reducible first | exact HB.out | apply below_alloc | apply pw_below_drewN | apply below_drew1) | exact HB.out)))); have n1_ := Aside0.mk (below_step (by repeat (first | (with_reducible first | exact HB.out | apply below_alloc | apply pw_below_drewN | apply below_drew1) | exact HB.out)) hb); clear HB; have HO116 := n0_; have HB := n1_; clear n0_ n1_; (try clear hb); (try clear hb2); (try clear hk); (try clear hi); (try clear ho0); obtain ⟨Ao4, co4, eo4⟩ := Kd.R_slice HO116.out; subst eo4))
    go_ret
    exact ⟨by first | rfl | (simp [errW_none, errW_some] <;> rfl) | (simp [*, errW_none, errW_some] <;> rfl), by repeat (first | (with_reducible first | exact HB.out | apply below_alloc | apply pw_below_drewN | apply below_drew1) | exact HB.out)⟩
  · rw [if_neg c2] at H
    have c2b0 : ((t114.length : Int) == 8) = false := beq_eq_false_iff_ne.mpr c2
    have c2b1 : ((t114.length : Int) != 8) = true := bne_iff_ne.mpr c2
    obtain rfl := Option.some.inj H
    go_enter Try.func3, Try.ntmps3
    go_wp2_with (first | ((with_reducible refine gate_callee (f := 9) rfl ?_); refine goesL_ (some 1) rfl rfl Try.func9 (by kernel_rfl) rfl #[.string (⟨#[]⟩ : ByteArray)] rfl (by (try simp only [List.map_toArray, List.map_cons, List.map_nil]); first | done | rfl | (simp only [List.length_drop, List.length_take]; rfl)) ?_; (with_reducible refine (console_Complete.calls k (⟨#[]⟩ : ByteArray) t114 _ A1.out).mono ?_); rintro e w5 ⟨v115, rfl, ho0, hb⟩; refine ⟨_, rfl, ?_⟩; have n0_ := Aside0.mk (Kd.R_lower ho0 (below_size (by repeat (first | (with_reducible first | exact HB.out | apply below_alloc | apply pw_below_drewN | apply below_drew1) | exact HB.out)))); have n1_ := Aside0.mk (below_step (by repeat (first | (with_reducible first | exact HB.out | apply below_alloc | apply pw_below_drewN | apply below_drew1) | exact HB.out)) hb); clear HB; have HO116 := n0_; have HB := n1_; clear n0_ n1_; (try clear hb); (try clear hb2); (try clear hk); (try clear hi); (try clear ho0); obtain ⟨Ao6, co6, eo6⟩ := Kd.R_slice HO116.out; subst eo6))
    go_ret
    exact ⟨by first | rfl | (simp [errW_none, errW_some] <;> rfl) | (simp [*, errW_none, errW_some] <;> rfl), by repeat (first | (with_reducible first | exact HB.out | apply below_alloc | apply pw_below_drewN | apply below_drew1) | exact HB.out)⟩

/-- THE ONE PURE STATEMENT of gridhalllaw4_Names: yours. -/
def gridhalllaw4_Names.Pure : Prop := ∃ k, gridhalllaw4_Names.f k  = some true
theorem gridhalllaw4_Names.walk (P : gridhalllaw4_Names.Pure)  (w : World)  :
    Calls Try.prog 3 #[] w fun e w' => e = .returned (.bool true) ∧ Below w.heap.size w w' := by
  obtain ⟨k, h⟩ := P  
  refine (gridhalllaw4_Names.calls k  true w h).mono ?_
  rintro e w' ⟨rfl, hd⟩
  exact ⟨rfl, hd⟩

end Go.Proofs.Ytpmaiofgnbgboaa.PNames
