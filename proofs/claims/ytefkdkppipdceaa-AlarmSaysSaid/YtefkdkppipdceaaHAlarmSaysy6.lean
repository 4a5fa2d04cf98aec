/- Contracts of functions that AlarmSays reaches, a text of this session's own. -/
import Derived.Test.YtefkdkppipdceaaBox2
import Derived.Test.YtefkdkppipdceaaHAlarmSaysy0
import Derived.Test.YtefkdkppipdceaaHAlarmSaysy5
namespace Go.Proofs.Ytefkdkppipdceaa.PAlarmSays
open Go.RowKit Go.Proofs.YtefkdkppipdceaaW.PrintWords Go.Proofs.YtefkdkppipdceaaW.PrintLast Go.Proofs.YtefkdkppipdceaaW.PrintMore
attribute [local go_sem] max2_int min2_int max_two min_two max_three min_three max_four min_four   -- for this text's walks alone
set_option linter.unusedVariables false
set_option linter.unusedSimpArgs false

/-! ### slices_insertionSortOrdered_string: function 119 -/
mutual
def slices_insertionSortOrdered_string.l0 : Nat → List ByteArray → Int → Int → Int → Option (List ByteArray)
 | 0, _, _, _, _ => none
 | k + 1, x0, x1, x2, x6 => if x6 < x2 then (slices_insertionSortOrdered_string.l1 k x0 x1 x2 x6 x6) else (some x0)
def slices_insertionSortOrdered_string.l1 : Nat → List ByteArray → Int → Int → Int → Int → Option (List ByteArray)
 | 0, _, _, _, _, _ => none
 | k + 1, x0, x1, x2, x6, x7 => if x7 > x1 then (if 0 ≤ x7 then (if x7 < (x0.length : Int) then (if 0 ≤ (wrap64 (x7 - 1)) then (if (wrap64 (x7 - 1)) < (x0.length : Int) then ((cmp_Less_string.f (rdOf ByteArray.empty x0 x7) (rdOf ByteArray.empty x0 (wrap64 (x7 - 1)))).bind fun t169 => (if t169 = true then (slices_insertionSortOrdered_string.l1 k ((x0.set (x7 : Int).toNat (rdOf ByteArray.empty x0 (wrap64 (x7 - 1)))).set ((wrap64 (x7 - 1)) : Int).toNat (rdOf ByteArray.empty x0 x7)) x1 x2 x6 (wrap64 (x7 - 1))) else (slices_insertionSortOrdered_string.l0 k x0 x1 x2 (wrap64 (x6 + 1))))) else (none)) else (none)) else (none)) else (none)) else (slices_insertionSortOrdered_string.l0 k x0 x1 x2 (wrap64 (x6 + 1)))
end
def slices_insertionSortOrdered_string.f (k : Nat) (l0 : List ByteArray) (a1 : Int) (a2 : Int) : Option (List ByteArray) := slices_insertionSortOrdered_string.l0 k l0 a1 a2 (wrap64 (a1 + 1))
theorem slices_insertionSortOrdered_string.mono_l : ∀ k, (∀ y0 y1 y2 y3, LeO (slices_insertionSortOrdered_string.l0 k y0 y1 y2 y3) (slices_insertionSortOrdered_string.l0 (k + 1) y0 y1 y2 y3)) ∧ (∀ y0 y1 y2 y3 y4, LeO (slices_insertionSortOrdered_string.l1 k y0 y1 y2 y3 y4) (slices_insertionSortOrdered_string.l1 (k + 1) y0 y1 y2 y3 y4))
 | 0 => ⟨fun _ _ _ _ r h => by simp [slices_insertionSortOrdered_string.l0] at h, fun _ _ _ _ _ r h => by simp [slices_insertionSortOrdered_string.l1] at h⟩
 | k + 1 => by
  obtain ⟨ih0, ih1⟩:=slices_insertionSortOrdered_string.mono_l k
  refine ⟨?_, ?_⟩
  ·intro y0 y1 y2 y3
   unfold slices_insertionSortOrdered_string.l0
   repeat' first|(with_reducible first|exact ih0 _ _ _ _|exact ih1 _ _ _ _ _|exact LeO.refl _|exact LeO.none _|refine LeO.ite ?_ ?_|refine LeO.bind ?_ (fun _=>?_))|exact ih0 _ _ _ _|exact ih1 _ _ _ _ _|exact LeO.none _|refine LeO.ite ?_ ?_|refine LeO.bind ?_ (fun _=>?_)
  ·intro y0 y1 y2 y3 y4
   unfold slices_insertionSortOrdered_string.l1
   repeat' first|(with_reducible first|exact ih0 _ _ _ _|exact ih1 _ _ _ _ _|exact LeO.refl _|exact LeO.none _|refine LeO.ite ?_ ?_|refine LeO.bind ?_ (fun _=>?_))|exact ih0 _ _ _ _|exact ih1 _ _ _ _ _|exact LeO.none _|refine LeO.ite ?_ ?_|refine LeO.bind ?_ (fun _=>?_)
theorem slices_insertionSortOrdered_string.mono : ∀ a0 a1 a2 k, LeO (slices_insertionSortOrdered_string.f k a0 a1 a2) (slices_insertionSortOrdered_string.f (k + 1) a0 a1 a2) := by
 intro a0 a1 a2 k
 obtain ⟨ih0, ih1⟩:=slices_insertionSortOrdered_string.mono_l k
 unfold slices_insertionSortOrdered_string.f
 repeat' first|(with_reducible first|exact ih0 _ _ _ _|exact ih1 _ _ _ _ _|exact LeO.refl _|exact LeO.none _|refine LeO.ite ?_ ?_|refine LeO.bind ?_ (fun _=>?_))|exact ih0 _ _ _ _|exact ih1 _ _ _ _ _|exact LeO.none _|refine LeO.ite ?_ ?_|refine LeO.bind ?_ (fun _=>?_)
def slices_insertionSortOrdered_string.T4 : Bool × List (List Nat × List Nat) := (true, [([], []), ([], []), ([0, 1], [0, 1]), ([2], [2]), ([3], [3]), ([3], [3]), ([4, 5, 3], [3, 4, 5]), ([6, 3], [3, 6]), ([3], [3]), ([3], [3]), ([9, 3], [3, 9]), ([8, 10, 3], [3, 8, 10]), ([11, 3], [3, 11]), ([7, 12, 3, 3], [3, 7, 12]), ([3, 13], [3, 13])])
def slices_insertionSortOrdered_string.B4 : List Nat := [0, 0, 3, 7, 15, 15, 63, 127, 15, 15, 527, 1807, 3855, 8191, 16383]
theorem slices_insertionSortOrdered_string.tab4 : rtab .any (opsOf Try.f119 4) = slices_insertionSortOrdered_string.T4 := by kernel_rfl
theorem slices_insertionSortOrdered_string.bits4 : waitsOk slices_insertionSortOrdered_string.T4.2 slices_insertionSortOrdered_string.B4 = true := by kernel_rfl
def slices_insertionSortOrdered_string.T6 : Bool × List (List Nat × List Nat) := (true, [([], []), ([], []), ([], []), ([], []), ([3], [3]), ([], []), ([], []), ([6], [6]), ([5, 7], [5, 7]), ([8], [8]), ([], []), ([], []), ([10, 11], [10, 11]), ([12], [12]), ([0, 1, 0, 1, 5, 6, 7, 8, 9, 13], [0, 1]), ([14, 9, 0, 1, 5, 6, 7, 8, 9, 13], [9, 14]), ([2, 4, 0, 1, 2, 3, 4, 5, 6, 7, 8, 9, 10, 11, 12, 13, 14, 15], [2, 4]), ([16, 13, 15, 0, 1, 2, 3, 4, 5, 6, 7, 8, 9, 10, 11, 12, 13, 14, 15], [13, 16])])
def slices_insertionSortOrdered_string.B6 : List Nat := [0, 0, 0, 0, 8, 0, 0, 64, 224, 480, 0, 0, 3072, 7168, 16355, 32739, 65535, 131071]
theorem slices_insertionSortOrdered_string.tab6 : rtab .any (opsOf Try.f119 6) = slices_insertionSortOrdered_string.T6 := by kernel_rfl
theorem slices_insertionSortOrdered_string.bits6 : waitsOk slices_insertionSortOrdered_string.T6.2 slices_insertionSortOrdered_string.B6 = true := by kernel_rfl
set_option maxHeartbeats 8000000 in
set_option maxRecDepth 100000 in
theorem slices_insertionSortOrdered_string.calls (k : Nat) (P0_ : Nat → Prop) (u9000_ : Value) (l0 : List ByteArray) (a1 : Int) (a2 : Int) (r : List ByteArray) (w0 w : World) (hB : Below w0.heap.size w0 w) (ho0 : Kd.R Kd.string 9 w w0.heap.size P0_ u9000_ l0) (h : slices_insertionSortOrdered_string.f k l0 a1 a2 = some r) :
  Calls Try.prog 119 #[u9000_, .int .i64 a1, .int .i64 a2] w fun e w' => e = .returned (.tuple #[]) ∧ Kd.R Kd.string 9 w' w0.heap.size (fun k_ => (P0_ k_ ∨ w.heap.size ≤ k_)) u9000_ r ∧ Below w0.heap.size w0 w' ∧ Kept w w' (fun k_ => P0_ k_) := by
 have HO0:=k0_ (show Kd.R Kd.string 9 w w0.heap.size (fun k_=>(P0_ k_ ∨ w.heap.size ≤ k_)) u9000_ l0 from Kd.R_mono ho0 (fun k_ hk=>(.inl hk)));have HK:=k0_ (Kept.refl w (fun k_=>P0_ k_));have HW0:=k0_ hB.size;have HB:=k0_ hB;clear hB;have H : (slices_insertionSortOrdered_string.l0 k l0 a1 a2 (wrap64 (a1 + 1))) = some r:=h;clear h;have H':=k0_ H;clear H
 go_enter Try.func119, Try.ntmps119
 go_wp2;(try simp only [Act.put, q1_,q3_,q2_])
 go_loopg [6] k (fun kq v6 w'=>∃ (x0_1 : List ByteArray) (x6_1 : Int), v6 = .int .i64 x6_1∧Aside0 (slices_insertionSortOrdered_string.l0 kq x0_1 a1 a2 x6_1 = some r)∧Aside0 (kq ≤ k)∧Aside0 (Kd.R Kd.string 9 w' w0.heap.size (fun k_=>(P0_ k_ ∨ w.heap.size ≤ k_)) u9000_ x0_1)∧Aside0 (Kept w w' (fun k_=>P0_ k_))∧Aside0 (Below w0.heap.size w0 w'))
 case atStart=>exact ⟨(l0),(wrap64 (a1 + 1)),rs_, H', ⟨Nat.le_refl _⟩,⟨by (with_reducible repeat (first|apply Kd.R_alloc|apply Kd.R_drewN|apply Kd.R_drew));exact HO0.out⟩,⟨by repeat (first|(with_reducible first|exact HK.out|apply Kept.alloc|apply Kept.drewN|apply Kept.drew)|exact HK.out)⟩,⟨hb0_ HB.out⟩⟩
 clear H';(try clear c1);(try clear p2);obtain ⟨x0_1, x6_1, rfl, HA, HK1, HO_0, HK, HB⟩:=hrel;obtain _|k1:=gk
 ·exact absurd HA.out (by simp [slices_insertionSortOrdered_string.l0])
 have H:=HA.out;clear HA;simp only [slices_insertionSortOrdered_string.l0] at H
 by_cases c4 : x6_1 < a2
 ·rw [if_pos c4] at H
  have c4b0:=decide_eq_true c4;clear c4;have H':=k0_ H;clear H;go_wp2;(try simp only [Act.put, q1_,q3_,q2_])
  go_loopg [7] k1 (fun kq v7 w'=>∃ (x0_2 : List ByteArray) (x7_2 : Int), v7 = .int .i64 x7_2∧Aside0 (slices_insertionSortOrdered_string.l1 kq x0_2 a1 a2 x6_1 x7_2 = some r)∧Aside0 (kq ≤ k1)∧Aside0 (Kd.R Kd.string 9 w' w0.heap.size (fun k_=>(P0_ k_ ∨ w.heap.size ≤ k_)) u9000_ x0_2)∧Aside0 (Kept w w' (fun k_=>P0_ k_))∧Aside0 (Below w0.heap.size w0 w'))
  case atStart=>exact ⟨(x0_1),(x6_1),rs_, H', ⟨Nat.le_refl _⟩,⟨by (with_reducible repeat (first|apply Kd.R_alloc|apply Kd.R_drewN|apply Kd.R_drew));exact HO_0.out⟩,⟨by repeat (first|(with_reducible first|exact HK.out|apply Kept.alloc|apply Kept.drewN|apply Kept.drew)|exact HK.out)⟩,⟨hb0_ HB.out⟩⟩
  clear H';(try clear c1);(try clear p2);(try clear c4);(try clear c4b0);(try clear p2);obtain ⟨x0_2, x7_2, rfl, HA, HK2, HO_0, HK, HB⟩:=hrel;obtain _|k2:=gk
  ·exact absurd HA.out (by simp [slices_insertionSortOrdered_string.l1])
  have H:=HA.out;clear HA;simp only [slices_insertionSortOrdered_string.l1] at H
  by_cases c5 : x7_2 > a1
  ·rw [if_pos c5] at H
   have c5b0:=decide_eq_true c5;clear c5
   by_cases c6 : 0 ≤ x7_2
   rw [if_pos c6] at H;have c6b0:=decide_eq_true c6;clear c6
   focus
    by_cases c7 : x7_2 < (x0_2.length : Int)
    rw [if_pos c7] at H;have c7b0:=decide_eq_true c7;clear c7;obtain ⟨ji8, hji8⟩ : ∃ j_ : Int, (wrap64 (x7_2 - 1)) = j_:=⟨_, rfl⟩;replace H : (if 0 ≤ (ji8) then (if (ji8) < (x0_2.length : Int) then ((cmp_Less_string.f (rdOf ByteArray.empty x0_2 x7_2) (rdOf ByteArray.empty x0_2 (ji8))).bind fun t169=>(if t169 = true then (slices_insertionSortOrdered_string.l1 k2 ((x0_2.set (x7_2 : Int).toNat (rdOf ByteArray.empty x0_2 (ji8))).set ((ji8) : Int).toNat (rdOf ByteArray.empty x0_2 x7_2)) a1 a2 x6_1 ji8) else (slices_insertionSortOrdered_string.l0 k2 x0_2 a1 a2 (wrap64 (x6_1 + 1))))) else (none)) else (none)) = some r:=by first|(rw [hji8] at H;exact H)|(simp only [hji8] at H ⊢;exact H)
    have hji8w : (IntKind.i64.wrap (x7_2 - 1)) = ji8:=(i64_w _).trans hji8
    focus
     by_cases c9 : 0 ≤ (ji8)
     rw [if_pos c9] at H;have c9b0:=decide_eq_true c9;clear c9
     focus
      by_cases c10 : (ji8) < (x0_2.length : Int)
      rw [if_pos c10] at H;have c10b0:=decide_eq_true c10;clear c10;replace H:=Option.bind_eq_some_iff.mp H;obtain ⟨t169, A110, H⟩:=H;replace H : (if t169 = true then (slices_insertionSortOrdered_string.l1 k2 ((x0_2.set (x7_2 : Int).toNat (rdOf ByteArray.empty x0_2 (ji8))).set ((ji8) : Int).toNat (rdOf ByteArray.empty x0_2 x7_2)) a1 a2 x6_1 ji8) else (slices_insertionSortOrdered_string.l0 k2 x0_2 a1 a2 (wrap64 (x6_1 + 1)))) = some r:=H;have A11:=k0_ A110;clear A110
      focus
       by_cases c12 : t169 = true
       subst c12;have H1 : (slices_insertionSortOrdered_string.l1 k2 ((x0_2.set (x7_2 : Int).toNat (rdOf ByteArray.empty x0_2 (ji8))).set ((ji8) : Int).toNat (rdOf ByteArray.empty x0_2 x7_2)) a1 a2 x6_1 ji8) = some r:=by rw [if_pos rfl] at H;exact H
       clear H;have H:=H1;clear H1;obtain ⟨y172, hy172⟩ : ∃ y_ : List ByteArray, y_ = (x0_2.set (x7_2 : Int).toNat (rdOf ByteArray.empty x0_2 (ji8))):=⟨_, rfl⟩;replace H : (slices_insertionSortOrdered_string.l1 k2 (y172.set ((ji8) : Int).toNat (rdOf ByteArray.empty x0_2 x7_2)) a1 a2 x6_1 ji8) = some r:=by first|(rw [hy172];with_reducible exact H)|(have H2_:=(Option.bind_some _ _).symm.trans H;rw [hy172];with_reducible exact H2_)|(have H2_:=(Option.bind_some _ _).symm.trans H;with_reducible exact H2_)|with_reducible exact H|(rw [hy172];exact H)|exact H
       have Ny172:=k0_ hy172;clear hy172;obtain ⟨y173, hy173⟩ : ∃ y_ : List ByteArray, y_ = (y172.set ((ji8) : Int).toNat (rdOf ByteArray.empty x0_2 x7_2)):=⟨_, rfl⟩;replace H : (slices_insertionSortOrdered_string.l1 k2 y173 a1 a2 x6_1 ji8) = some r:=by first|(rw [hy173];with_reducible exact H)|(have H2_:=(Option.bind_some _ _).symm.trans H;rw [hy173];with_reducible exact H2_)|(have H2_:=(Option.bind_some _ _).symm.trans H;with_reducible exact H2_)|with_reducible exact H|(rw [hy173];exact H)|exact H
       have Ny173:=k0_ hy173;clear hy173;have H':=k0_ H;clear H;rotate_left;replace c12:=Bool.eq_false_iff.mpr c12;subst c12;have H1 : (slices_insertionSortOrdered_string.l0 k2 x0_2 a1 a2 (wrap64 (x6_1 + 1))) = some r:=by rw [if_neg (show ¬ (false = true) by decide)] at H;exact H
       clear H;have H:=H1;clear H1;have H':=k0_ H;clear H;rotate_left
      rotate_left 2;rw [if_neg c10] at H
      exact absurd H (by simp)
     rotate_left 2;rw [if_neg c9] at H
     exact absurd H (by simp)
    rotate_left 2;rw [if_neg c7] at H
    exact absurd H (by simp)
   rotate_left 2;rw [if_neg c6] at H
   exact absurd H (by simp)
   all_goals
    try go_wp2
    replace HO_0:=k0_ (Kd.R_drew HO_0.out);replace HK:=k0_ (Kept.drew HK.out);replace HB:=k0_ (below_drew1 HB.out);obtain ⟨Ao16, co16, eo16⟩:=Kd.R_slice HO_0.out;(first|subst eo16|(injection eo16 with f1_ f2_ f3_;have f4_:=f1_.symm;have f5_:=f3_.symm;clear f1_ f2_ f3_;subst f4_;subst f5_));have p167 : 0 ≤ (x7_2 : Int):=of_decide_eq_true as_;have q167 : x7_2 < (x0_2.length : Int):=of_decide_eq_true as_;obtain ⟨ad167, e167, hx167_0⟩:=Kd.at_string (Kd.R_reads' HO_0.out).2.2 x7_2 p167 q167;cases e167;replace p167:=eq_true p167;replace q167:=eq_true q167;have p168 : 0 ≤ ((ji8) : Int):=of_decide_eq_true as_;have q168 : (ji8) < (x0_2.length : Int):=of_decide_eq_true as_;obtain ⟨ad168, e168, hx168_0⟩:=Kd.at_string (Kd.R_reads' HO_0.out).2.2 (ji8) p168 q168;obtain rfl : ad167 = ad168:=(by injection e168);replace p168:=eq_true p168;replace q168:=eq_true q168;refine start_ (n:=15) (S:=fun w'=>w'.cell? (ad167.add (x7_2).toNat) = some (.string (rdOf ByteArray.empty x0_2 x7_2))∧w'.cell? (ad167.add ((ji8)).toNat) = some (.string (rdOf ByteArray.empty x0_2 (ji8)))) (ds:=[]) (mb_ 15 0) (by kernel_rfl) rfl rfl ⟨hx167_0, hx168_0⟩ (fun hHeld=>?_);refine with_tabW slices_insertionSortOrdered_string.tab4 slices_insertionSortOrdered_string.bits4 (fun HT_ HW_=>?_);generalize wr.drew = w15 at HO_0 HK HB hx167_0 hx168_0 hHeld ⊢;refine pu_ 0 16 HT_.out (h:=?_);refine pu_ 1 17 HT_.out (h:=?_);refine pu_ 2 18 HT_.out (h:=?_);refine pu_ 3 19 HT_.out (h:=?_);refine pu_ 4 20 HT_.out (h:=?_);refine pu_ 5 21 HT_.out (h:=?_);refine pu_ 6 22 HT_.out (h:=?_);refine pu_ 8 24 HT_.out (h:=?_);refine pu_ 9 25 HT_.out (h:=?_);refine pu_ 10 26 HT_.out (h:=?_);refine pu_ 11 27 HT_.out (h:=?_);refine tk_ 7 23 HT_.out HW_.out hHeld (h:=?_);refine tk_ 12 28 HT_.out HW_.out hHeld (h:=?_);refine on_ 13 (some 29) HT_.out (h:=fun K hK=>?_);refine goes_ Try.func125 (by kernel_rfl) rfl #[.string (rdOf ByteArray.empty x0_2 x7_2), .string (rdOf ByteArray.empty x0_2 (ji8))] (by rfl) rfl rfl (by (try simp only [List.map_toArray, List.map_cons, List.map_nil]);first|done|(simp only [hji8];rfl)|rfl|(simp only [List.length_drop, List.length_take];rfl)) ?_
   ·with_reducible refine (cmp_Less_string.calls (rdOf ByteArray.empty x0_2 x7_2) (rdOf ByteArray.empty x0_2 (ji8)) true _ A11.out).mono ?_
    rintro e w' ⟨rfl, ⟨nd, rfl⟩⟩;refine ⟨_, rfl, ?_⟩;refine hK.out _ _ ⟨hHeld.1, hHeld.2⟩ (fun hHeld=>?_);clear hK K;refine norm_ (a':=?_) ?_ ?_;rotate_left
    ·show Act.put _ (some 29) _ = _
     simp only [Act.put, q1_,q2_,q3_,i64_w,i32_w];rfl
    refine pu_ 14 30 HT_.out (h:=?_);refine done_ (done_of HT_.out (by kernel_rfl)) ?_
    try go_wp2
    (try (rw [drewN_self w15];generalize hq_ : World.drewN w15 _ = w15;have n0_ : Aside0 (Kd.R Kd.string 9 w15 w0.heap.size (fun k_=>(P0_ k_ ∨ w.heap.size ≤ k_)) (.slice (some ad167) x0_2.length co16) x0_2):=⟨by rw [← hq_];exact (rq_ HO_0.out)⟩;have n1_ : Aside0 (Kept w w15 (fun k_=>P0_ k_)):=⟨by rw [← hq_];exact (by repeat (first|(with_reducible first|exact HK.out|apply Kept.alloc|apply Kept.drewN|apply Kept.drew)|exact HK.out))⟩;have n2_ : Aside0 (Below w0.heap.size w0 w15):=⟨by rw [← hq_];exact (hb0_ HB.out)⟩;clear HO_0 HK HB hq_;have HO_0:=n0_;have HK:=n1_;have HB:=n2_;clear n0_ n1_ n2_));replace HO_0:=k0_ (Kd.R_drew HO_0.out);replace HK:=k0_ (Kept.drew HK.out);replace HB:=k0_ (below_drew1 HB.out);have p170 : 0 ≤ ((ji8) : Int):=of_decide_eq_true as_;have q170 : (ji8) < (x0_2.length : Int):=of_decide_eq_true as_;obtain ⟨ad170, e170, hx170_0⟩:=Kd.at_string (Kd.R_reads' HO_0.out).2.2 (ji8) p170 q170;obtain rfl : ad167 = ad170:=(by injection e170);replace p170:=eq_true p170;replace q170:=eq_true q170;have p171 : 0 ≤ (x7_2 : Int):=of_decide_eq_true as_;have q171 : x7_2 < (x0_2.length : Int):=of_decide_eq_true as_;obtain ⟨ad171, e171, hx171_0⟩:=Kd.at_string (Kd.R_reads' HO_0.out).2.2 x7_2 p171 q171;obtain rfl : ad167 = ad171:=(by injection e171);replace p171:=eq_true p171;replace q171:=eq_true q171;have p13 : 0 ≤ (x7_2 : Int):=of_decide_eq_true as_;have q13 : (x7_2 : Int) < ((x0_2.length : Int) : Int):=of_decide_eq_true as_;obtain ⟨go13, co13, eo13, gb13, gl13, cl13, HG13⟩:=Kd.R_form HO_0.out (by omega);(first|cases eo13|(injection eo13 with ea_ en_ ec_;(first|subst ea_|(injection ea_ with ea_;subst ea_));subst ec_;clear en_));have GB13:=k0_ gb13;have GG13:=k0_ HG13;clear gb13 gl13 HG13;have HMgo13:=k0_ (show (P0_ go13 ∨ w.heap.size ≤ go13) from (HO_0.out.1 _ rfl));(first|simp only [add_plain] at hx167_0|skip);(first|simp only [add_plain] at hx168_0|skip);(first|simp only [add_plain] at hx170_0|skip);(first|simp only [add_plain] at hx171_0|skip);obtain ⟨hx13_0, hf13_0⟩:=Kd.R_celln (⟨#[]⟩ : ByteArray) HO_0.out (x7_2 : Int) p13 q13;replace p13:=eq_true p13;replace q13:=eq_true q13;have HP18:=Kd.R_putn HO_0.out (x7_2 : Int) (rdOf ByteArray.empty x0_2 (ji8));rw [← Ny172.out] at HP18;have HQ18:=k0_ HP18;clear HP18;have p14 : 0 ≤ ((ji8) : Int):=of_decide_eq_true as_;have q14 : ((ji8) : Int) < ((x0_2.length : Int) : Int):=of_decide_eq_true as_;obtain ⟨hx14_0, hf14_0⟩:=Kd.R_celln (⟨#[]⟩ : ByteArray) HQ18.out ((ji8) : Int) p14 q14;replace p14:=eq_true p14;replace q14:=eq_true q14;have HP19:=Kd.R_putn HQ18.out ((ji8) : Int) (rdOf ByteArray.empty x0_2 x7_2);rw [← Ny173.out] at HP19;have HQ19:=k0_ HP19;clear HP19;refine start_ (n:=18) (S:=fun w'=>w'.cell? ⟨go13, ((ji8)).toNat, none⟩ = some (.string (rdOf ByteArray.empty x0_2 (ji8)))∧w'.cell? ⟨go13, (x7_2).toNat, none⟩ = some (.string (rdOf ByteArray.empty x0_2 x7_2))) (ds:=[15, 17]) (mb_ 18 0) (by kernel_rfl) rfl rfl ⟨hx170_0, hx171_0⟩ (fun hHeld=>?_);refine with_tabW slices_insertionSortOrdered_string.tab6 slices_insertionSortOrdered_string.bits6 (fun HT_ HW_=>?_);generalize w15.drew = w17 at HO_0 HK HB GG13 HQ18 HQ19 hf13_0 hf14_0 hx13_0 hx14_0 hx167_0 hx168_0 hx170_0 hx171_0 hHeld ⊢;refine pu_ 0 33 HT_.out (h:=?_);refine pu_ 1 34 HT_.out (h:=?_);refine pu_ 2 35 HT_.out (h:=?_);refine pu_ 3 36 HT_.out (h:=?_);refine pu_ 4 37 HT_.out (h:=?_);refine pu_ 5 38 HT_.out (h:=?_);refine pu_ 6 39 HT_.out (h:=?_);refine pu_ 7 40 HT_.out (h:=?_);refine pu_ 8 41 HT_.out (h:=?_);refine pu_ 10 43 HT_.out (h:=?_);refine pu_ 11 44 HT_.out (h:=?_);refine pu_ 12 45 HT_.out (h:=?_);refine tk_ 9 42 HT_.out HW_.out hHeld (h:=?_);refine tk_ 13 46 HT_.out HW_.out hHeld (h:=?_);refine pu_ 14 47 HT_.out (h:=?_);refine la_ 15 none HT_.out (h:=fun K hK=>?_);refine skip_ (w1:=?_) (by rfl) rfl ?_ ?_;rotate_left
    (go_simp;rfl)
    refine hK.out _ _ ?_;clear hK K;refine pu_ 16 48 HT_.out (h:=?_);refine la_ 17 none HT_.out (h:=fun K hK=>?_);refine skip_ (w1:=?_) (by rfl) rfl ?_ ?_;rotate_left
    (go_simp;rfl)
    refine hK.out _ _ ?_;clear hK K;refine done_ (done_of HT_.out (by kernel_rfl)) ?_
    try go_wp2
    go_roundg k2
    case measure=>have:=HK1.out;have:=HK2.out;omega
    case rel=>exact ⟨(y173),(ji8),(by first|rfl|(simp;done)|(simp only [← hji8] <;> (first|rfl|simp))|(simp [*];done)), H', ⟨by have:=HK1.out;have:=HK2.out;omega⟩,⟨by (with_reducible repeat (first|apply Kd.R_alloc|apply Kd.R_drewN|apply Kd.R_drew));exact HQ19.out⟩,⟨by repeat (first|(with_reducible first|exact HK.out|apply Kept.alloc|apply Kept.drewN|apply Kept.drew|refine Kept.setCell ?_ HMgo13.out _|refine Kept.setCell ?_ HMgo13.out _)|exact HK.out)⟩,⟨hb2_ HB.out GB13.out GB13.out⟩⟩
   ·with_reducible refine (cmp_Less_string.calls (rdOf ByteArray.empty x0_2 x7_2) (rdOf ByteArray.empty x0_2 (ji8)) false _ A11.out).mono ?_
    rintro e w' ⟨rfl, ⟨nd, rfl⟩⟩;refine ⟨_, rfl, ?_⟩;refine hK.out _ _ ⟨hHeld.1, hHeld.2⟩ (fun hHeld=>?_);clear hK K;refine norm_ (a':=?_) ?_ ?_;rotate_left
    ·show Act.put _ (some 29) _ = _
     simp only [Act.put, q1_,q2_,q3_,i64_w,i32_w];rfl
    refine pu_ 14 30 HT_.out (h:=?_);refine done_ (done_of HT_.out (by kernel_rfl)) ?_
    try go_wp2
    go_roundg k2
    case measure=>have:=HK1.out;have:=HK2.out;omega
    case rel=>exact ⟨(x0_2),(wrap64 (x6_1 + 1)),rs_, H', ⟨by have:=HK1.out;have:=HK2.out;omega⟩,⟨by (with_reducible repeat (first|apply Kd.R_alloc|apply Kd.R_drewN|apply Kd.R_drew));exact HO_0.out⟩,⟨by repeat (first|(with_reducible first|exact HK.out|apply Kept.alloc|apply Kept.drewN|apply Kept.drew)|exact HK.out)⟩,⟨hb0_ HB.out⟩⟩
  ·rw [if_neg c5] at H
   have c5b0:=decide_eq_false c5;clear c5;have H':=k0_ H;clear H
   try go_wp2
   replace HO_0:=k0_ (Kd.R_drew HO_0.out);replace HK:=k0_ (Kept.drew HK.out);replace HB:=k0_ (below_drew1 HB.out);refine start_ (n:=15) (S:=fun w'=>True) (ds:=[]) (mb_ 15 0) (by kernel_rfl) rfl rfl trivial (fun hHeld=>?_);refine with_tabW slices_insertionSortOrdered_string.tab4 slices_insertionSortOrdered_string.bits4 (fun HT_ HW_=>?_);generalize wr.drew = w22 at HO_0 HK HB hHeld ⊢;refine pu_ 0 16 HT_.out (h:=?_);refine pu_ 1 17 HT_.out (h:=?_);refine pu_ 2 18 HT_.out (h:=?_);refine pu_ 3 19 HT_.out (h:=?_);refine pn_ 4 20 HT_.out (h:=?_);refine pn_ 5 21 HT_.out (h:=?_);refine pn_ 6 22 HT_.out (h:=?_);refine pn_ 7 23 HT_.out (h:=?_);refine pn_ 8 24 HT_.out (h:=?_);refine pn_ 9 25 HT_.out (h:=?_);refine pn_ 10 26 HT_.out (h:=?_);refine pn_ 11 27 HT_.out (h:=?_);refine pn_ 12 28 HT_.out (h:=?_);refine pn_ 13 29 HT_.out (h:=?_);refine pu_ 14 30 HT_.out (h:=?_);refine done_ (done_of HT_.out (by kernel_rfl)) ?_
   try go_wp2
   go_roundg k2
   case measure=>have:=HK1.out;have:=HK2.out;omega
   case rel=>exact ⟨(x0_2),(wrap64 (x6_1 + 1)),rs_, H', ⟨by have:=HK1.out;have:=HK2.out;omega⟩,⟨by (with_reducible repeat (first|apply Kd.R_alloc|apply Kd.R_drewN|apply Kd.R_drew));exact HO_0.out⟩,⟨by repeat (first|(with_reducible first|exact HK.out|apply Kept.alloc|apply Kept.drewN|apply Kept.drew)|exact HK.out)⟩,⟨hb0_ HB.out⟩⟩
 ·rw [if_neg c4] at H
  have c4b0:=decide_eq_false c4;clear c4;obtain rfl:=Option.some.inj H;go_wp2
  first|go_end0|((try simp only [Exit.inBlock, Exit.then]);refine bodyPost_ret (results_none rfl _ _ _) rfl ?_)
  exact ⟨er_, by (with_reducible repeat (first|apply Kd.R_alloc|apply Kd.R_drewN|apply Kd.R_drew));exact HO_0.out, hb0_ HB.out, by repeat (first|(with_reducible first|exact HK.out|apply Kept.alloc|apply Kept.drewN|apply Kept.drew)|exact HK.out)⟩

-- NOT PRINTED: function 133 (slices_siftDownOrdered_string)

-- NOT PRINTED: function 120 (slices_heapSortOrdered_string)

end Go.Proofs.Ytefkdkppipdceaa.PAlarmSays
