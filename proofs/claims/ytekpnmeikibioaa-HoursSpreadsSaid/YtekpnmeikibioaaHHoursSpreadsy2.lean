/- Contracts of functions that HoursSpreads reaches, a text of this session's own. -/
import Derived.Test.YtekpnmeikibioaaBox2
import Derived.Test.YtekpnmeikibioaaHHoursSpreadsy0
import Derived.Test.YtekpnmeikibioaaHHoursSpreadsy1
namespace Go.Proofs.Ytekpnmeikibioaa.PHoursSpreads
open Go.RowKit Go.Proofs.YtekpnmeikibioaaW.PrintWords Go.Proofs.YtekpnmeikibioaaW.PrintLast Go.Proofs.YtekpnmeikibioaaW.PrintMore
attribute [local go_sem] max2_int min2_int max_two min_two max_three min_three max_four min_four   -- for this text's walks alone
set_option linter.unusedVariables false
set_option linter.unusedSimpArgs false

/-! ### slices_insertionSortCmpFunc_of_Spread_1: function 100 -/
mutual
def slices_insertionSortCmpFunc_of_Spread_1.l0 : Nat → List Int → Int → Int → Int → List Int → List (List Int) → List Int → Option (List Int)
 | 0, _, _, _, _, _, _, _ => none
 | k + 1, x0, x1, x2, x8, x630, x631, x632 => if x8 < x2 then (slices_insertionSortCmpFunc_of_Spread_1.l1 k x0 x1 x2 x8 x8 x630 x631 x632) else (some x0)
def slices_insertionSortCmpFunc_of_Spread_1.l1 : Nat → List Int → Int → Int → Int → Int → List Int → List (List Int) → List Int → Option (List Int)
 | 0, _, _, _, _, _, _, _, _ => none
 | k + 1, x0, x1, x2, x8, x9, x630, x631, x632 => if x9 > x1 then (if 0 ≤ x9 then (if x9 < (x0.length : Int) then (if 0 ≤ (wrap64 (x9 - 1)) then (if (wrap64 (x9 - 1)) < (x0.length : Int) then ((hours_Spread_1.f (rd x0 x9) (rd x0 (wrap64 (x9 - 1))) x630 x631 x632).bind fun t117 => (if t117 < 0 then (slices_insertionSortCmpFunc_of_Spread_1.l1 k ((x0.set (x9 : Int).toNat (rd x0 (wrap64 (x9 - 1)))).set ((wrap64 (x9 - 1)) : Int).toNat (rd x0 x9)) x1 x2 x8 (wrap64 (x9 - 1)) x630 x631 x632) else (slices_insertionSortCmpFunc_of_Spread_1.l0 k x0 x1 x2 (wrap64 (x8 + 1)) x630 x631 x632))) else (none)) else (none)) else (none)) else (none)) else (slices_insertionSortCmpFunc_of_Spread_1.l0 k x0 x1 x2 (wrap64 (x8 + 1)) x630 x631 x632)
end
def slices_insertionSortCmpFunc_of_Spread_1.f (k : Nat) (l0 : List Int) (a1 : Int) (a2 : Int) (l3_0 : List Int) (l3_1 : List (List Int)) (l3_2 : List Int) : Option (List Int) := slices_insertionSortCmpFunc_of_Spread_1.l0 k l0 a1 a2 (wrap64 (a1 + 1)) l3_0 l3_1 l3_2
theorem slices_insertionSortCmpFunc_of_Spread_1.mono_l : ∀ k, (∀ y0 y1 y2 y3 y4 y5 y6, LeO (slices_insertionSortCmpFunc_of_Spread_1.l0 k y0 y1 y2 y3 y4 y5 y6) (slices_insertionSortCmpFunc_of_Spread_1.l0 (k + 1) y0 y1 y2 y3 y4 y5 y6)) ∧ (∀ y0 y1 y2 y3 y4 y5 y6 y7, LeO (slices_insertionSortCmpFunc_of_Spread_1.l1 k y0 y1 y2 y3 y4 y5 y6 y7) (slices_insertionSortCmpFunc_of_Spread_1.l1 (k + 1) y0 y1 y2 y3 y4 y5 y6 y7))
 | 0 => ⟨fun _ _ _ _ _ _ _ r h => by simp [slices_insertionSortCmpFunc_of_Spread_1.l0] at h, fun _ _ _ _ _ _ _ _ r h => by simp [slices_insertionSortCmpFunc_of_Spread_1.l1] at h⟩
 | k + 1 => by
  obtain ⟨ih0, ih1⟩:=slices_insertionSortCmpFunc_of_Spread_1.mono_l k
  refine ⟨?_, ?_⟩
  ·intro y0 y1 y2 y3 y4 y5 y6
   unfold slices_insertionSortCmpFunc_of_Spread_1.l0
   repeat' first|(with_reducible first|exact ih0 _ _ _ _ _ _ _|exact ih1 _ _ _ _ _ _ _ _|exact LeO.refl _|exact LeO.none _|refine LeO.ite ?_ ?_|refine LeO.bind ?_ (fun _=>?_))|exact ih0 _ _ _ _ _ _ _|exact ih1 _ _ _ _ _ _ _ _|exact LeO.none _|refine LeO.ite ?_ ?_|refine LeO.bind ?_ (fun _=>?_)
  ·intro y0 y1 y2 y3 y4 y5 y6 y7
   unfold slices_insertionSortCmpFunc_of_Spread_1.l1
   repeat' first|(with_reducible first|exact ih0 _ _ _ _ _ _ _|exact ih1 _ _ _ _ _ _ _ _|exact LeO.refl _|exact LeO.none _|refine LeO.ite ?_ ?_|refine LeO.bind ?_ (fun _=>?_))|exact ih0 _ _ _ _ _ _ _|exact ih1 _ _ _ _ _ _ _ _|exact LeO.none _|refine LeO.ite ?_ ?_|refine LeO.bind ?_ (fun _=>?_)
theorem slices_insertionSortCmpFunc_of_Spread_1.mono : ∀ a0 a1 a2 a3 a4 a5 k, LeO (slices_insertionSortCmpFunc_of_Spread_1.f k a0 a1 a2 a3 a4 a5) (slices_insertionSortCmpFunc_of_Spread_1.f (k + 1) a0 a1 a2 a3 a4 a5) := by
 intro a0 a1 a2 a3 a4 a5 k
 obtain ⟨ih0, ih1⟩:=slices_insertionSortCmpFunc_of_Spread_1.mono_l k
 unfold slices_insertionSortCmpFunc_of_Spread_1.f
 repeat' first|(with_reducible first|exact ih0 _ _ _ _ _ _ _|exact ih1 _ _ _ _ _ _ _ _|exact LeO.refl _|exact LeO.none _|refine LeO.ite ?_ ?_|refine LeO.bind ?_ (fun _=>?_))|exact ih0 _ _ _ _ _ _ _|exact ih1 _ _ _ _ _ _ _ _|exact LeO.none _|refine LeO.ite ?_ ?_|refine LeO.bind ?_ (fun _=>?_)
def slices_insertionSortCmpFunc_of_Spread_1.T4 : Bool × List (List Nat × List Nat) := (true, [([], []), ([], []), ([0, 1], [0, 1]), ([2], [2]), ([3], [3]), ([3], [3]), ([3], [3]), ([5, 6, 3], [3, 5, 6]), ([7, 3], [3, 7]), ([3], [3]), ([3], [3]), ([10, 3], [3, 10]), ([9, 11, 3], [3, 9, 11]), ([12, 3], [3, 12]), ([4, 8, 13, 3, 3], [3, 4, 8, 13]), ([14, 3], [3, 14]), ([3, 15], [3, 15])])
def slices_insertionSortCmpFunc_of_Spread_1.B4 : List Nat := [0, 0, 3, 7, 15, 15, 15, 111, 239, 15, 15, 1039, 3599, 7695, 16383, 32767, 65535]
theorem slices_insertionSortCmpFunc_of_Spread_1.tab4 : rtab .any (opsOf Try.f70 4) = slices_insertionSortCmpFunc_of_Spread_1.T4 := by kernel_rfl
theorem slices_insertionSortCmpFunc_of_Spread_1.bits4 : waitsOk slices_insertionSortCmpFunc_of_Spread_1.T4.2 slices_insertionSortCmpFunc_of_Spread_1.B4 = true := by kernel_rfl
def slices_insertionSortCmpFunc_of_Spread_1.T6 : Bool × List (List Nat × List Nat) := (true, [([], []), ([], []), ([], []), ([], []), ([3], [3]), ([], []), ([], []), ([6], [6]), ([5, 7], [5, 7]), ([8], [8]), ([], []), ([], []), ([10, 11], [10, 11]), ([12], [12]), ([0, 1, 0, 1, 5, 6, 7, 8, 9, 13], [0, 1]), ([14, 9, 0, 1, 5, 6, 7, 8, 9, 13], [9, 14]), ([2, 4, 0, 1, 2, 3, 4, 5, 6, 7, 8, 9, 10, 11, 12, 13, 14, 15], [2, 4]), ([16, 13, 15, 0, 1, 2, 3, 4, 5, 6, 7, 8, 9, 10, 11, 12, 13, 14, 15], [13, 16])])
def slices_insertionSortCmpFunc_of_Spread_1.B6 : List Nat := [0, 0, 0, 0, 8, 0, 0, 64, 224, 480, 0, 0, 3072, 7168, 16355, 32739, 65535, 131071]
theorem slices_insertionSortCmpFunc_of_Spread_1.tab6 : rtab .any (opsOf Try.f70 6) = slices_insertionSortCmpFunc_of_Spread_1.T6 := by kernel_rfl
theorem slices_insertionSortCmpFunc_of_Spread_1.bits6 : waitsOk slices_insertionSortCmpFunc_of_Spread_1.T6.2 slices_insertionSortCmpFunc_of_Spread_1.B6 = true := by kernel_rfl
set_option maxHeartbeats 8000000 in
set_option maxRecDepth 100000 in
theorem slices_insertionSortCmpFunc_of_Spread_1.calls (k : Nat) (P0_ : Nat → Prop) (u9000_ : Value) (l0 : List Int) (a1 : Int) (a2 : Int) (A3_0 : Option Addr) (l3_0 : List Int) (A3_1 : Option Addr) (l3_1 : List (List Int)) (A3_2 : Option Addr) (l3_2 : List Int) (r : List Int) (w0 w : World) (hB : Below w0.heap.size w0 w) (ho0 : Kd.R (Kd.int .i64) 3 w w0.heap.size P0_ u9000_ l0) (hr3_0 : ∀ W_, Kept w W_ (fun k_ => P0_ k_) → Kd.C (Kd.int .i64) W_ A3_0 l3_0.length l3_0) (hr3_1 : ∀ W_, Kept w W_ (fun k_ => P0_ k_) → Kd.C (Kd.slice 3 (Kd.int .i64)) W_ A3_1 l3_1.length l3_1) (hr3_2 : ∀ W_, Kept w W_ (fun k_ => P0_ k_) → Kd.C (Kd.int .i64) W_ A3_2 l3_2.length l3_2) (h : slices_insertionSortCmpFunc_of_Spread_1.f k l0 a1 a2 l3_0 l3_1 l3_2 = some r) :
  Calls Try.prog 70 #[u9000_, .int .i64 a1, .int .i64 a2, .func (.func 54) #[] #[.pointer A3_0, .pointer A3_1, .pointer A3_2]] w fun e w' => e = .returned (.tuple #[]) ∧ Kd.R (Kd.int .i64) 3 w' w0.heap.size (fun k_ => (P0_ k_ ∨ w.heap.size ≤ k_)) u9000_ r ∧ Below w0.heap.size w0 w' ∧ Kept w w' (fun k_ => P0_ k_) := by
 have HO0:=k0_ (show Kd.R (Kd.int .i64) 3 w w0.heap.size (fun k_=>(P0_ k_ ∨ w.heap.size ≤ k_)) u9000_ l0 from Kd.R_mono ho0 (fun k_ hk=>(.inl hk)));have HR3_0:=k0_ hr3_0;clear hr3_0;have HR3_1:=k0_ hr3_1;clear hr3_1;have HR3_2:=k0_ hr3_2;clear hr3_2;have HK:=k0_ (Kept.refl w (fun k_=>P0_ k_));have HW0:=k0_ hB.size;have HB:=k0_ hB;clear hB;have H : (slices_insertionSortCmpFunc_of_Spread_1.l0 k l0 a1 a2 (wrap64 (a1 + 1)) l3_0 l3_1 l3_2) = some r:=h;clear h;have H':=k0_ H;clear H
 go_enter Try.func70, Try.ntmps70
 go_wp2;(try simp only [Act.put, q1_,q3_,q2_])
 go_loopg [8] k (fun kq v8 w'=>∃ (x0_1 : List Int) (x8_1 : Int), v8 = .int .i64 x8_1∧Aside0 (slices_insertionSortCmpFunc_of_Spread_1.l0 kq x0_1 a1 a2 x8_1 l3_0 l3_1 l3_2 = some r)∧Aside0 (kq ≤ k)∧Aside0 (Kd.R (Kd.int .i64) 3 w' w0.heap.size (fun k_=>(P0_ k_ ∨ w.heap.size ≤ k_)) u9000_ x0_1)∧Aside0 (Kept w w' (fun k_=>P0_ k_))∧Aside0 (Below w0.heap.size w0 w'))
 case atStart=>exact ⟨(l0),(wrap64 (a1 + 1)),rs_, H', ⟨Nat.le_refl _⟩,⟨by (with_reducible repeat (first|apply Kd.R_alloc|apply Kd.R_drewN|apply Kd.R_drew));exact HO0.out⟩,⟨by repeat (first|(with_reducible first|exact HK.out|apply Kept.alloc|apply Kept.drewN|apply Kept.drew)|exact HK.out)⟩,⟨hb0_ HB.out⟩⟩
 clear H';(try clear p2);obtain ⟨x0_1, x8_1, rfl, HA, HK1, HO_0, HK, HB⟩:=hrel;obtain _|k1:=gk
 ·exact absurd HA.out (by simp [slices_insertionSortCmpFunc_of_Spread_1.l0])
 have H:=HA.out;clear HA;simp only [slices_insertionSortCmpFunc_of_Spread_1.l0] at H
 by_cases c5 : x8_1 < a2
 ·rw [if_pos c5] at H
  have c5b0:=decide_eq_true c5;clear c5;have H':=k0_ H;clear H;go_wp2;(try simp only [Act.put, q1_,q3_,q2_])
  go_loopg [9] k1 (fun kq v9 w'=>∃ (x0_2 : List Int) (x9_2 : Int), v9 = .int .i64 x9_2∧Aside0 (slices_insertionSortCmpFunc_of_Spread_1.l1 kq x0_2 a1 a2 x8_1 x9_2 l3_0 l3_1 l3_2 = some r)∧Aside0 (kq ≤ k1)∧Aside0 (Kd.R (Kd.int .i64) 3 w' w0.heap.size (fun k_=>(P0_ k_ ∨ w.heap.size ≤ k_)) u9000_ x0_2)∧Aside0 (Kept w w' (fun k_=>P0_ k_))∧Aside0 (Below w0.heap.size w0 w'))
  case atStart=>exact ⟨(x0_1),(x8_1),rs_, H', ⟨Nat.le_refl _⟩,⟨by (with_reducible repeat (first|apply Kd.R_alloc|apply Kd.R_drewN|apply Kd.R_drew));exact HO_0.out⟩,⟨by repeat (first|(with_reducible first|exact HK.out|apply Kept.alloc|apply Kept.drewN|apply Kept.drew)|exact HK.out)⟩,⟨hb0_ HB.out⟩⟩
  clear H';(try clear p2);(try clear c5);(try clear c5b0);(try clear p2);obtain ⟨x0_2, x9_2, rfl, HA, HK2, HO_0, HK, HB⟩:=hrel;obtain _|k2:=gk
  ·exact absurd HA.out (by simp [slices_insertionSortCmpFunc_of_Spread_1.l1])
  have H:=HA.out;clear HA;simp only [slices_insertionSortCmpFunc_of_Spread_1.l1] at H
  by_cases c6 : x9_2 > a1
  ·rw [if_pos c6] at H
   have c6b0:=decide_eq_true c6;clear c6
   by_cases c7 : 0 ≤ x9_2
   rw [if_pos c7] at H;have c7b0:=decide_eq_true c7;clear c7
   focus
    by_cases c8 : x9_2 < (x0_2.length : Int)
    rw [if_pos c8] at H;have c8b0:=decide_eq_true c8;clear c8;obtain ⟨ji9, hji9⟩ : ∃ j_ : Int, (wrap64 (x9_2 - 1)) = j_:=⟨_, rfl⟩;replace H : (if 0 ≤ (ji9) then (if (ji9) < (x0_2.length : Int) then ((hours_Spread_1.f (rd x0_2 x9_2) (rd x0_2 (ji9)) l3_0 l3_1 l3_2).bind fun t117=>(if t117 < 0 then (slices_insertionSortCmpFunc_of_Spread_1.l1 k2 ((x0_2.set (x9_2 : Int).toNat (rd x0_2 (ji9))).set ((ji9) : Int).toNat (rd x0_2 x9_2)) a1 a2 x8_1 ji9 l3_0 l3_1 l3_2) else (slices_insertionSortCmpFunc_of_Spread_1.l0 k2 x0_2 a1 a2 (wrap64 (x8_1 + 1)) l3_0 l3_1 l3_2))) else (none)) else (none)) = some r:=by first|(rw [hji9] at H;exact H)|(simp only [hji9] at H ⊢;exact H)
    have hji9w : (IntKind.i64.wrap (x9_2 - 1)) = ji9:=(i64_w _).trans hji9
    focus
     by_cases c10 : 0 ≤ (ji9)
     rw [if_pos c10] at H;have c10b0:=decide_eq_true c10;clear c10
     focus
      by_cases c11 : (ji9) < (x0_2.length : Int)
      rw [if_pos c11] at H;have c11b0:=decide_eq_true c11;clear c11;replace H:=Option.bind_eq_some_iff.mp H;obtain ⟨t117, A120, H⟩:=H;replace H : (if t117 < 0 then (slices_insertionSortCmpFunc_of_Spread_1.l1 k2 ((x0_2.set (x9_2 : Int).toNat (rd x0_2 (ji9))).set ((ji9) : Int).toNat (rd x0_2 x9_2)) a1 a2 x8_1 ji9 l3_0 l3_1 l3_2) else (slices_insertionSortCmpFunc_of_Spread_1.l0 k2 x0_2 a1 a2 (wrap64 (x8_1 + 1)) l3_0 l3_1 l3_2)) = some r:=H;have A12:=k0_ A120;clear A120
      focus
       by_cases c13 : t117 < 0
       rw [if_pos c13] at H;have c13b0:=decide_eq_true c13;clear c13;obtain ⟨y120, hy120⟩ : ∃ y_ : List Int, y_ = (x0_2.set (x9_2 : Int).toNat (rd x0_2 (ji9))):=⟨_, rfl⟩;replace H : (slices_insertionSortCmpFunc_of_Spread_1.l1 k2 (y120.set ((ji9) : Int).toNat (rd x0_2 x9_2)) a1 a2 x8_1 ji9 l3_0 l3_1 l3_2) = some r:=by first|(rw [hy120];with_reducible exact H)|(have H2_:=(Option.bind_some _ _).symm.trans H;rw [hy120];with_reducible exact H2_)|(have H2_:=(Option.bind_some _ _).symm.trans H;with_reducible exact H2_)|with_reducible exact H|(rw [hy120];exact H)|exact H
       have Ny120:=k0_ hy120;clear hy120;obtain ⟨y121, hy121⟩ : ∃ y_ : List Int, y_ = (y120.set ((ji9) : Int).toNat (rd x0_2 x9_2)):=⟨_, rfl⟩;replace H : (slices_insertionSortCmpFunc_of_Spread_1.l1 k2 y121 a1 a2 x8_1 ji9 l3_0 l3_1 l3_2) = some r:=by first|(rw [hy121];with_reducible exact H)|(have H2_:=(Option.bind_some _ _).symm.trans H;rw [hy121];with_reducible exact H2_)|(have H2_:=(Option.bind_some _ _).symm.trans H;with_reducible exact H2_)|with_reducible exact H|(rw [hy121];exact H)|exact H
       have Ny121:=k0_ hy121;clear hy121;have H':=k0_ H;clear H;rotate_left;rw [if_neg c13] at H;have c13b0:=decide_eq_false c13;clear c13;have H':=k0_ H;clear H;rotate_left
      rotate_left 2;rw [if_neg c11] at H
      exact absurd H (by simp)
     rotate_left 2;rw [if_neg c10] at H
     exact absurd H (by simp)
    rotate_left 2;rw [if_neg c8] at H
    exact absurd H (by simp)
   rotate_left 2;rw [if_neg c7] at H
   exact absurd H (by simp)
   all_goals
    try go_wp2
    replace HO_0:=k0_ (Kd.R_drew HO_0.out);replace HK:=k0_ (Kept.drew HK.out);replace HB:=k0_ (below_drew1 HB.out);obtain ⟨Ao17, co17, eo17⟩:=Kd.R_slice HO_0.out;(first|subst eo17|(injection eo17 with f1_ f2_ f3_;have f4_:=f1_.symm;have f5_:=f3_.symm;clear f1_ f2_ f3_;subst f4_;subst f5_));have p115 : 0 ≤ (x9_2 : Int):=of_decide_eq_true as_;have q115 : x9_2 < (x0_2.length : Int):=of_decide_eq_true as_;obtain ⟨ad115, e115, hx115_0⟩:=Kd.at_int (Kd.R_reads' HO_0.out).2.2 x9_2 p115 q115;cases e115;replace p115:=eq_true p115;replace q115:=eq_true q115;have p116 : 0 ≤ ((ji9) : Int):=of_decide_eq_true as_;have q116 : (ji9) < (x0_2.length : Int):=of_decide_eq_true as_;obtain ⟨ad116, e116, hx116_0⟩:=Kd.at_int (Kd.R_reads' HO_0.out).2.2 (ji9) p116 q116;obtain rfl : ad115 = ad116:=(by injection e116);replace p116:=eq_true p116;replace q116:=eq_true q116;refine start_ (n:=17) (S:=fun w'=>w'.cell? (ad115.add (x9_2).toNat) = some (.int .i64 (rd x0_2 x9_2))∧w'.cell? (ad115.add ((ji9)).toNat) = some (.int .i64 (rd x0_2 (ji9)))) (ds:=[]) (mb_ 17 0) (by kernel_rfl) rfl rfl ⟨hx115_0, hx116_0⟩ (fun hHeld=>?_);refine with_tabW slices_insertionSortCmpFunc_of_Spread_1.tab4 slices_insertionSortCmpFunc_of_Spread_1.bits4 (fun HT_ HW_=>?_);generalize wr.drew = w16 at HO_0 HK HB hx115_0 hx116_0 hHeld ⊢;refine pu_ 0 18 HT_.out (h:=?_);refine pu_ 1 19 HT_.out (h:=?_);refine pu_ 2 20 HT_.out (h:=?_);refine pu_ 3 21 HT_.out (h:=?_);refine pu_ 4 22 HT_.out (h:=?_);refine pu_ 5 23 HT_.out (h:=?_);refine pu_ 6 24 HT_.out (h:=?_);refine pu_ 7 25 HT_.out (h:=?_);refine pu_ 9 27 HT_.out (h:=?_);refine pu_ 10 28 HT_.out (h:=?_);refine pu_ 11 29 HT_.out (h:=?_);refine pu_ 12 30 HT_.out (h:=?_);refine tk_ 8 26 HT_.out HW_.out hHeld (h:=?_);refine tk_ 13 31 HT_.out HW_.out hHeld (h:=?_);refine on_ 14 (some 32) HT_.out (h:=fun K hK=>?_);refine goesD_ Try.func54 (by kernel_rfl) rfl #[.int .i64 (rd x0_2 x9_2), .int .i64 (rd x0_2 (ji9))] #[.int .i64 (rd x0_2 x9_2), .int .i64 (rd x0_2 (ji9)), .pointer A3_0, .pointer A3_1, .pointer A3_2] #[.pointer A3_0, .pointer A3_1, .pointer A3_2] (by rfl) rfl rfl (by rfl) (by (try simp only [List.map_toArray, List.map_cons, List.map_nil]);first|done|(simp only [hji9];rfl)|rfl|(simp only [List.length_drop, List.length_take];rfl)) (by first|rfl|simp) ?_
    with_reducible refine (hours_Spread_1.calls (rd x0_2 x9_2) (rd x0_2 (ji9)) _ l3_0 _ l3_1 _ l3_2 t117 _ ?side1 ?side2 ?side3 A12.out).mono ?_
    (case side1=>exact Kd.C_kept_now HR3_0.out (by repeat (first|(with_reducible first|exact HK.out|apply Kept.alloc|apply Kept.drewN|apply Kept.drew)|exact HK.out)))
    (case side2=>exact Kd.C_kept_now HR3_1.out (by repeat (first|(with_reducible first|exact HK.out|apply Kept.alloc|apply Kept.drewN|apply Kept.drew)|exact HK.out)))
    (case side3=>exact Kd.C_kept_now HR3_2.out (by repeat (first|(with_reducible first|exact HK.out|apply Kept.alloc|apply Kept.drewN|apply Kept.drew)|exact HK.out)))
    rintro e w' ⟨rfl, ⟨nd, rfl⟩⟩;refine ⟨_, rfl, ?_⟩;refine hK.out _ _ ⟨hHeld.1, hHeld.2⟩ (fun hHeld=>?_);clear hK K;refine norm_ (a':=?_) ?_ ?_;rotate_left
    ·show Act.put _ (some 32) _ = _
     simp only [Act.put, q1_,q2_,q3_,i64_w,i32_w];rfl
    refine pu_ 15 33 HT_.out (h:=?_);refine pu_ 16 34 HT_.out (h:=?_);refine done_ (done_of HT_.out (by kernel_rfl)) ?_
    try go_wp2
   ·(try (rw [drewN_self w16];generalize hq_ : World.drewN w16 _ = w16;have n0_ : Aside0 (Kd.R (Kd.int .i64) 3 w16 w0.heap.size (fun k_=>(P0_ k_ ∨ w.heap.size ≤ k_)) (.slice (some ad115) x0_2.length co17) x0_2):=⟨by rw [← hq_];exact (rq_ HO_0.out)⟩;have n1_ : Aside0 (Kept w w16 (fun k_=>P0_ k_)):=⟨by rw [← hq_];exact (by repeat (first|(with_reducible first|exact HK.out|apply Kept.alloc|apply Kept.drewN|apply Kept.drew)|exact HK.out))⟩;have n2_ : Aside0 (Below w0.heap.size w0 w16):=⟨by rw [← hq_];exact (hb0_ HB.out)⟩;clear HO_0 HK HB hq_;have HO_0:=n0_;have HK:=n1_;have HB:=n2_;clear n0_ n1_ n2_))
    replace HO_0:=k0_ (Kd.R_drew HO_0.out);replace HK:=k0_ (Kept.drew HK.out);replace HB:=k0_ (below_drew1 HB.out);have p118 : 0 ≤ ((ji9) : Int):=of_decide_eq_true as_;have q118 : (ji9) < (x0_2.length : Int):=of_decide_eq_true as_;obtain ⟨ad118, e118, hx118_0⟩:=Kd.at_int (Kd.R_reads' HO_0.out).2.2 (ji9) p118 q118;obtain rfl : ad115 = ad118:=(by injection e118);replace p118:=eq_true p118;replace q118:=eq_true q118;have p119 : 0 ≤ (x9_2 : Int):=of_decide_eq_true as_;have q119 : x9_2 < (x0_2.length : Int):=of_decide_eq_true as_;obtain ⟨ad119, e119, hx119_0⟩:=Kd.at_int (Kd.R_reads' HO_0.out).2.2 x9_2 p119 q119;obtain rfl : ad115 = ad119:=(by injection e119);replace p119:=eq_true p119;replace q119:=eq_true q119;have p14 : 0 ≤ (x9_2 : Int):=of_decide_eq_true as_;have q14 : (x9_2 : Int) < ((x0_2.length : Int) : Int):=of_decide_eq_true as_;obtain ⟨go14, co14, eo14, gb14, gl14, cl14, HG14⟩:=Kd.R_form HO_0.out (by omega);(first|cases eo14|(injection eo14 with ea_ en_ ec_;(first|subst ea_|(injection ea_ with ea_;subst ea_));subst ec_;clear en_));have GB14:=k0_ gb14;have GG14:=k0_ HG14;clear gb14 gl14 HG14;have HMgo14:=k0_ (show (P0_ go14 ∨ w.heap.size ≤ go14) from (HO_0.out.1 _ rfl));(first|simp only [add_plain] at hx115_0|skip);(first|simp only [add_plain] at hx116_0|skip);(first|simp only [add_plain] at hx118_0|skip);(first|simp only [add_plain] at hx119_0|skip);obtain ⟨hx14_0, hf14_0⟩:=Kd.R_celln 0 HO_0.out (x9_2 : Int) p14 q14;replace p14:=eq_true p14;replace q14:=eq_true q14;have HP19:=Kd.R_putn HO_0.out (x9_2 : Int) (rd x0_2 (ji9));rw [← Ny120.out] at HP19;have HQ19:=k0_ HP19;clear HP19;have p15 : 0 ≤ ((ji9) : Int):=of_decide_eq_true as_;have q15 : ((ji9) : Int) < ((x0_2.length : Int) : Int):=of_decide_eq_true as_;obtain ⟨hx15_0, hf15_0⟩:=Kd.R_celln 0 HQ19.out ((ji9) : Int) p15 q15;replace p15:=eq_true p15;replace q15:=eq_true q15;have HP20:=Kd.R_putn HQ19.out ((ji9) : Int) (rd x0_2 x9_2);rw [← Ny121.out] at HP20;have HQ20:=k0_ HP20;clear HP20;refine start_ (n:=18) (S:=fun w'=>w'.cell? ⟨go14, ((ji9)).toNat, none⟩ = some (.int .i64 (rd x0_2 (ji9)))∧w'.cell? ⟨go14, (x9_2).toNat, none⟩ = some (.int .i64 (rd x0_2 x9_2))) (ds:=[15, 17]) (mb_ 18 0) (by kernel_rfl) rfl rfl ⟨hx118_0, hx119_0⟩ (fun hHeld=>?_);refine with_tabW slices_insertionSortCmpFunc_of_Spread_1.tab6 slices_insertionSortCmpFunc_of_Spread_1.bits6 (fun HT_ HW_=>?_);generalize w16.drew = w18 at HO_0 HK HB GG14 HQ19 HQ20 hf14_0 hf15_0 hx115_0 hx116_0 hx118_0 hx119_0 hx14_0 hx15_0 hHeld ⊢;refine pu_ 0 37 HT_.out (h:=?_);refine pu_ 1 38 HT_.out (h:=?_);refine pu_ 2 39 HT_.out (h:=?_);refine pu_ 3 40 HT_.out (h:=?_);refine pu_ 4 41 HT_.out (h:=?_);refine pu_ 5 42 HT_.out (h:=?_);refine pu_ 6 43 HT_.out (h:=?_);refine pu_ 7 44 HT_.out (h:=?_);refine pu_ 8 45 HT_.out (h:=?_);refine pu_ 10 47 HT_.out (h:=?_);refine pu_ 11 48 HT_.out (h:=?_);refine pu_ 12 49 HT_.out (h:=?_);refine tk_ 9 46 HT_.out HW_.out hHeld (h:=?_);refine tk_ 13 50 HT_.out HW_.out hHeld (h:=?_);refine pu_ 14 51 HT_.out (h:=?_);refine la_ 15 none HT_.out (h:=fun K hK=>?_);refine skip_ (w1:=?_) (by rfl) rfl ?_ ?_;rotate_left
    (go_simp;rfl)
    refine hK.out _ _ ?_;clear hK K;refine pu_ 16 52 HT_.out (h:=?_);refine la_ 17 none HT_.out (h:=fun K hK=>?_);refine skip_ (w1:=?_) (by rfl) rfl ?_ ?_;rotate_left
    (go_simp;rfl)
    refine hK.out _ _ ?_;clear hK K;refine done_ (done_of HT_.out (by kernel_rfl)) ?_
    try go_wp2
    go_roundg k2
    case measure=>have:=HK1.out;have:=HK2.out;omega
    case rel=>exact ⟨(y121),(ji9),(by first|rfl|(simp;done)|(simp only [← hji9] <;> (first|rfl|simp))|(simp [*];done)), H', ⟨by have:=HK1.out;have:=HK2.out;omega⟩,⟨by (with_reducible repeat (first|apply Kd.R_alloc|apply Kd.R_drewN|apply Kd.R_drew));exact HQ20.out⟩,⟨by repeat (first|(with_reducible first|exact HK.out|apply Kept.alloc|apply Kept.drewN|apply Kept.drew|refine Kept.setCell ?_ HMgo14.out _|refine Kept.setCell ?_ HMgo14.out _)|exact HK.out)⟩,⟨hb2_ HB.out GB14.out GB14.out⟩⟩
   ·go_roundg k2
    case measure=>have:=HK1.out;have:=HK2.out;omega
    case rel=>exact ⟨(x0_2),(wrap64 (x8_1 + 1)),rs_, H', ⟨by have:=HK1.out;have:=HK2.out;omega⟩,⟨by (with_reducible repeat (first|apply Kd.R_alloc|apply Kd.R_drewN|apply Kd.R_drew));exact HO_0.out⟩,⟨by repeat (first|(with_reducible first|exact HK.out|apply Kept.alloc|apply Kept.drewN|apply Kept.drew)|exact HK.out)⟩,⟨hb0_ HB.out⟩⟩
  ·rw [if_neg c6] at H
   have c6b0:=decide_eq_false c6;clear c6;have H':=k0_ H;clear H
   try go_wp2
   replace HO_0:=k0_ (Kd.R_drew HO_0.out);replace HK:=k0_ (Kept.drew HK.out);replace HB:=k0_ (below_drew1 HB.out);refine start_ (n:=17) (S:=fun w'=>True) (ds:=[]) (mb_ 17 0) (by kernel_rfl) rfl rfl trivial (fun hHeld=>?_);refine with_tabW slices_insertionSortCmpFunc_of_Spread_1.tab4 slices_insertionSortCmpFunc_of_Spread_1.bits4 (fun HT_ HW_=>?_);generalize wr.drew = w23 at HO_0 HK HB hHeld ⊢;refine pu_ 0 18 HT_.out (h:=?_);refine pu_ 1 19 HT_.out (h:=?_);refine pu_ 2 20 HT_.out (h:=?_);refine pu_ 3 21 HT_.out (h:=?_);refine pn_ 4 22 HT_.out (h:=?_);refine pn_ 5 23 HT_.out (h:=?_);refine pn_ 6 24 HT_.out (h:=?_);refine pn_ 7 25 HT_.out (h:=?_);refine pn_ 8 26 HT_.out (h:=?_);refine pn_ 9 27 HT_.out (h:=?_);refine pn_ 10 28 HT_.out (h:=?_);refine pn_ 11 29 HT_.out (h:=?_);refine pn_ 12 30 HT_.out (h:=?_);refine pn_ 13 31 HT_.out (h:=?_);refine pn_ 14 32 HT_.out (h:=?_);refine pn_ 15 33 HT_.out (h:=?_);refine pu_ 16 34 HT_.out (h:=?_);refine done_ (done_of HT_.out (by kernel_rfl)) ?_
   try go_wp2
   go_roundg k2
   case measure=>have:=HK1.out;have:=HK2.out;omega
   case rel=>exact ⟨(x0_2),(wrap64 (x8_1 + 1)),rs_, H', ⟨by have:=HK1.out;have:=HK2.out;omega⟩,⟨by (with_reducible repeat (first|apply Kd.R_alloc|apply Kd.R_drewN|apply Kd.R_drew));exact HO_0.out⟩,⟨by repeat (first|(with_reducible first|exact HK.out|apply Kept.alloc|apply Kept.drewN|apply Kept.drew)|exact HK.out)⟩,⟨hb0_ HB.out⟩⟩
 ·rw [if_neg c5] at H
  have c5b0:=decide_eq_false c5;clear c5;obtain rfl:=Option.some.inj H;go_wp2
  first|go_end0|((try simp only [Exit.inBlock, Exit.then]);refine bodyPost_ret (results_none rfl _ _ _) rfl ?_)
  exact ⟨er_, by (with_reducible repeat (first|apply Kd.R_alloc|apply Kd.R_drewN|apply Kd.R_drew));exact HO_0.out, hb0_ HB.out, by repeat (first|(with_reducible first|exact HK.out|apply Kept.alloc|apply Kept.drewN|apply Kept.drew)|exact HK.out)⟩

end Go.Proofs.Ytekpnmeikibioaa.PHoursSpreads
