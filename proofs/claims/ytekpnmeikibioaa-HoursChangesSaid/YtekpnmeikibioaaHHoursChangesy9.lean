/- Contracts of functions that HoursChanges reaches, a text of this session's own. -/
import Derived.Test.YtekpnmeikibioaaBox2
import Derived.Test.YtekpnmeikibioaaHHoursChangesy0
import Derived.Test.YtekpnmeikibioaaHHoursChangesy6
import Derived.Test.YtekpnmeikibioaaHHoursChangesy8
namespace Go.Proofs.Ytekpnmeikibioaa.PHoursChanges
open Go.RowKit Go.Proofs.YtekpnmeikibioaaW.PrintWords Go.Proofs.YtekpnmeikibioaaW.PrintLast Go.Proofs.YtekpnmeikibioaaW.PrintMore
attribute [local go_sem] max2_int min2_int max_two min_two max_three min_three max_four min_four   -- for this text's walks alone
set_option linter.unusedVariables false
set_option linter.unusedSimpArgs false

/-! ### slices_stableCmpFunc_of_Change_1: function 99 -/
mutual
def slices_stableCmpFunc_of_Change_1.l0 : Nat → List (S99) → Int → Int → Int → Int → Option ((List (S99)))
 | 0, _, _, _, _, _ => none
 | k + 1, x0, x1, x6, x7, x8 => if x8 ≤ x1 then ((slices_insertionSortCmpFunc_of_Change_1.f k x0 x7 x8).bind fun t210 => (slices_stableCmpFunc_of_Change_1.l0 k t210 x1 x6 x8 (wrap64 (x8 + x6)))) else ((slices_insertionSortCmpFunc_of_Change_1.f k x0 x7 x1).bind fun t211 => (slices_stableCmpFunc_of_Change_1.l1 k t211 x1 x6))
def slices_stableCmpFunc_of_Change_1.l1 : Nat → List (S99) → Int → Int → Option ((List (S99)))
 | 0, _, _, _ => none
 | k + 1, x0, x1, x6 => if x6 < x1 then (slices_stableCmpFunc_of_Change_1.l2 k x0 x1 x6 0 (wrap64 (2 * x6))) else (some x0)
def slices_stableCmpFunc_of_Change_1.l2 : Nat → List (S99) → Int → Int → Int → Int → Option ((List (S99)))
 | 0, _, _, _, _, _ => none
 | k + 1, x0, x1, x6, x7, x8 => if x8 ≤ x1 then ((slices_symMergeCmpFunc_of_Change_1.f k x0 x7 (wrap64 (x7 + x6)) x8).bind fun t212 => (slices_stableCmpFunc_of_Change_1.l2 k t212 x1 x6 x8 (wrap64 (x8 + (wrap64 (2 * x6)))))) else (if (wrap64 (x7 + x6)) < x1 then ((slices_symMergeCmpFunc_of_Change_1.f k x0 x7 (wrap64 (x7 + x6)) x1).bind fun t213 => (slices_stableCmpFunc_of_Change_1.l1 k t213 x1 (wrap64 (x6 * 2)))) else (slices_stableCmpFunc_of_Change_1.l1 k x0 x1 (wrap64 (x6 * 2))))
end
def slices_stableCmpFunc_of_Change_1.f (k : Nat) (l0 : List (S99)) (a1 : Int)  : Option ((List (S99))) := slices_stableCmpFunc_of_Change_1.l0 k l0 a1 20 0 20
theorem slices_stableCmpFunc_of_Change_1.mono_l : ∀ k, (∀ y0 y1 y2 y3 y4, LeO (slices_stableCmpFunc_of_Change_1.l0 k y0 y1 y2 y3 y4) (slices_stableCmpFunc_of_Change_1.l0 (k + 1) y0 y1 y2 y3 y4)) ∧ (∀ y0 y1 y2, LeO (slices_stableCmpFunc_of_Change_1.l1 k y0 y1 y2) (slices_stableCmpFunc_of_Change_1.l1 (k + 1) y0 y1 y2)) ∧ (∀ y0 y1 y2 y3 y4, LeO (slices_stableCmpFunc_of_Change_1.l2 k y0 y1 y2 y3 y4) (slices_stableCmpFunc_of_Change_1.l2 (k + 1) y0 y1 y2 y3 y4))
 | 0 => ⟨fun _ _ _ _ _ r h => by simp [slices_stableCmpFunc_of_Change_1.l0] at h, fun _ _ _ r h => by simp [slices_stableCmpFunc_of_Change_1.l1] at h, fun _ _ _ _ _ r h => by simp [slices_stableCmpFunc_of_Change_1.l2] at h⟩
 | k + 1 => by
  obtain ⟨ih0, ih1, ih2⟩:=slices_stableCmpFunc_of_Change_1.mono_l k
  refine ⟨?_, ?_, ?_⟩
  ·intro y0 y1 y2 y3 y4
   unfold slices_stableCmpFunc_of_Change_1.l0
   repeat' first|(with_reducible first|exact ih0 _ _ _ _ _|exact ih1 _ _ _|exact ih2 _ _ _ _ _|exact slices_insertionSortCmpFunc_of_Change_1.mono _ _ _ _|exact slices_symMergeCmpFunc_of_Change_1.mono _ _ _ _ _|exact LeO.refl _|exact LeO.none _|refine LeO.ite ?_ ?_|refine LeO.bind ?_ (fun _=>?_))|exact ih0 _ _ _ _ _|exact ih1 _ _ _|exact ih2 _ _ _ _ _|exact slices_insertionSortCmpFunc_of_Change_1.mono _ _ _ _|exact slices_symMergeCmpFunc_of_Change_1.mono _ _ _ _ _|exact LeO.none _|refine LeO.ite ?_ ?_|refine LeO.bind ?_ (fun _=>?_)
  ·intro y0 y1 y2
   unfold slices_stableCmpFunc_of_Change_1.l1
   repeat' first|(with_reducible first|exact ih0 _ _ _ _ _|exact ih1 _ _ _|exact ih2 _ _ _ _ _|exact slices_insertionSortCmpFunc_of_Change_1.mono _ _ _ _|exact slices_symMergeCmpFunc_of_Change_1.mono _ _ _ _ _|exact LeO.refl _|exact LeO.none _|refine LeO.ite ?_ ?_|refine LeO.bind ?_ (fun _=>?_))|exact ih0 _ _ _ _ _|exact ih1 _ _ _|exact ih2 _ _ _ _ _|exact slices_insertionSortCmpFunc_of_Change_1.mono _ _ _ _|exact slices_symMergeCmpFunc_of_Change_1.mono _ _ _ _ _|exact LeO.none _|refine LeO.ite ?_ ?_|refine LeO.bind ?_ (fun _=>?_)
  ·intro y0 y1 y2 y3 y4
   unfold slices_stableCmpFunc_of_Change_1.l2
   repeat' first|(with_reducible first|exact ih0 _ _ _ _ _|exact ih1 _ _ _|exact ih2 _ _ _ _ _|exact slices_insertionSortCmpFunc_of_Change_1.mono _ _ _ _|exact slices_symMergeCmpFunc_of_Change_1.mono _ _ _ _ _|exact LeO.refl _|exact LeO.none _|refine LeO.ite ?_ ?_|refine LeO.bind ?_ (fun _=>?_))|exact ih0 _ _ _ _ _|exact ih1 _ _ _|exact ih2 _ _ _ _ _|exact slices_insertionSortCmpFunc_of_Change_1.mono _ _ _ _|exact slices_symMergeCmpFunc_of_Change_1.mono _ _ _ _ _|exact LeO.none _|refine LeO.ite ?_ ?_|refine LeO.bind ?_ (fun _=>?_)
theorem slices_stableCmpFunc_of_Change_1.mono : ∀ a0 a1 k, LeO (slices_stableCmpFunc_of_Change_1.f k a0 a1) (slices_stableCmpFunc_of_Change_1.f (k + 1) a0 a1) := by
 intro a0 a1 k
 obtain ⟨ih0, ih1, ih2⟩:=slices_stableCmpFunc_of_Change_1.mono_l k
 unfold slices_stableCmpFunc_of_Change_1.f
 repeat' first|(with_reducible first|exact ih0 _ _ _ _ _|exact ih1 _ _ _|exact ih2 _ _ _ _ _|exact slices_insertionSortCmpFunc_of_Change_1.mono _ _ _ _|exact slices_symMergeCmpFunc_of_Change_1.mono _ _ _ _ _|exact LeO.refl _|exact LeO.none _|refine LeO.ite ?_ ?_|refine LeO.bind ?_ (fun _=>?_))|exact ih0 _ _ _ _ _|exact ih1 _ _ _|exact ih2 _ _ _ _ _|exact slices_insertionSortCmpFunc_of_Change_1.mono _ _ _ _|exact slices_symMergeCmpFunc_of_Change_1.mono _ _ _ _ _|exact LeO.none _|refine LeO.ite ?_ ?_|refine LeO.bind ?_ (fun _=>?_)
set_option maxHeartbeats 8000000 in
set_option maxRecDepth 100000 in
theorem slices_stableCmpFunc_of_Change_1.calls (k : Nat) (P0_ : Nat → Prop) (u9000_ : Value) (l0 : List (S99)) (a1 : Int)  (r : List (S99)) (w0 w : World) (hB : Below w0.heap.size w0 w) (ho0 : Kd.R k99 99 w w0.heap.size P0_ u9000_ l0) (h : slices_stableCmpFunc_of_Change_1.f k l0 a1 = some r) :
  Calls Try.prog 67 #[u9000_, .int .i64 a1, .func (.func 58) #[] #[]] w fun e w' => e = .returned (.tuple #[]) ∧ Kd.R k99 99 w' w0.heap.size (fun k_ => (P0_ k_ ∨ w.heap.size ≤ k_)) u9000_ r ∧ Below w0.heap.size w0 w' ∧ Kept w w' (fun k_ => P0_ k_) := by
 have HO0:=k0_ (show Kd.R k99 99 w w0.heap.size (fun k_=>(P0_ k_ ∨ w.heap.size ≤ k_)) u9000_ l0 from Kd.R_mono ho0 (fun k_ hk=>(.inl hk)));have HK:=k0_ (Kept.refl w (fun k_=>P0_ k_));have HW0:=k0_ hB.size;have HB:=k0_ hB;clear hB;have H : (slices_stableCmpFunc_of_Change_1.l0 k l0 a1 20 0 20) = some r:=h;clear h;have H':=k0_ H;clear H
 go_enter Try.func67, Try.ntmps67
 go_wp2;(try simp only [Act.put, q1_,q3_,q2_])
 go_loopg [7, 8] k (fun kq v7 v8 w'=>∃ (x0_1 : List (S99)) (x7_1 : Int) (x8_1 : Int), v7 = .int .i64 x7_1∧v8 = .int .i64 x8_1∧Aside0 (slices_stableCmpFunc_of_Change_1.l0 kq x0_1 a1 20 x7_1 x8_1 = some r)∧Aside0 (kq ≤ k)∧Aside0 (Kd.R k99 99 w' w0.heap.size (fun k_=>(P0_ k_ ∨ w.heap.size ≤ k_)) u9000_ x0_1)∧Aside0 (Kept w w' (fun k_=>P0_ k_))∧Aside0 (Below w0.heap.size w0 w'))
 case atStart=>exact ⟨(l0),(0),(20),rs_,rs_, H', ⟨Nat.le_refl _⟩,⟨by (with_reducible repeat (first|apply Kd.R_alloc|apply Kd.R_drewN|apply Kd.R_drew));exact HO0.out⟩,⟨by repeat (first|(with_reducible first|exact HK.out|apply Kept.alloc|apply Kept.drewN|apply Kept.drew)|exact HK.out)⟩,⟨hb0_ HB.out⟩⟩
 clear H';(try clear p2);obtain ⟨x0_1, x7_1, x8_1, rfl, rfl, HA, HK1, HO_0, HK, HB⟩:=hrel;obtain _|k1:=gk
 ·exact absurd HA.out (by simp [slices_stableCmpFunc_of_Change_1.l0])
 have H:=HA.out;clear HA;simp only [slices_stableCmpFunc_of_Change_1.l0] at H
 by_cases c4 : x8_1 ≤ a1
 ·rw [if_pos c4] at H
  have c4b0:=decide_eq_true c4;clear c4;replace H:=Option.bind_eq_some_iff.mp H;obtain ⟨t210, A50, H⟩:=H;replace H : (slices_stableCmpFunc_of_Change_1.l0 k1 t210 a1 20 x8_1 (wrap64 (x8_1 + 20))) = some r:=H;have A5:=k0_ A50;clear A50;have H':=k0_ H;clear H;obtain ⟨Ao6, co6, eo6⟩:=Kd.R_slice HO_0.out;subst eo6
  go_wp2_with (first|((with_reducible refine gate_callee (f:=72) rfl ?_);refine goesL_ (some 18) rfl rfl Try.func72 (by kernel_rfl) rfl #[.slice Ao6 x0_1.length co6, .int .i64 x7_1, .int .i64 x8_1, .func (.func 58) #[] #[]] rfl mt_ ?_;(with_reducible refine (slices_insertionSortCmpFunc_of_Change_1.calls k1 (fun k_=>some k_ = (.slice Ao6 x0_1.length co6 : Value).ownBlock) (.slice Ao6 x0_1.length co6) x0_1 x7_1 x8_1  t210 w0 _ ?side1 ?side2 A5.out).mono ?_);(case side1=>repeat (first|(with_reducible first|exact HB.out|apply below_alloc|apply pw_below_drewN|apply below_drew1)|exact HB.out));(case side2=>exact Kd.R_tight rfl HO_0.out);rintro e w7 ⟨rfl, hy0, hb, hkp⟩;refine ⟨_, rfl, ?_⟩;replace HK:=k0_ (Kept.then_ (S:=(fun k_=>P0_ k_)) (by repeat (first|(with_reducible first|exact HK.out|apply Kept.alloc|apply Kept.drewN|apply Kept.drew)|exact HK.out)) hkp (fun k_ hs_=>(fun e_=>(HO_0.out.1 k_ e_.symm)) hs_));replace HO_0:=k0_ (Kd.R_reok rfl hy0 (fun k_ e_=>HO_0.out.1 k_ e_));replace HB:=k0_ (hb);(try clear hb);(try clear hkp);(try clear hy0)))
  go_roundg k1
  case measure=>have:=HK1.out;omega
  case rel=>exact ⟨(t210),(x8_1),(wrap64 (x8_1 + 20)),rs_,rs_, H', ⟨by have:=HK1.out;omega⟩,⟨by (with_reducible repeat (first|apply Kd.R_alloc|apply Kd.R_drewN|apply Kd.R_drew));exact HO_0.out⟩,⟨by repeat (first|(with_reducible first|exact HK.out|apply Kept.alloc|apply Kept.drewN|apply Kept.drew)|exact HK.out)⟩,⟨hb0_ HB.out⟩⟩
 ·rw [if_neg c4] at H
  have c4b0:=decide_eq_false c4;clear c4;replace H:=Option.bind_eq_some_iff.mp H;obtain ⟨t211, A80, H⟩:=H;replace H : (slices_stableCmpFunc_of_Change_1.l1 k1 t211 a1 20) = some r:=H;have A8:=k0_ A80;clear A80;have H':=k0_ H;clear H;obtain ⟨Ao9, co9, eo9⟩:=Kd.R_slice HO_0.out;subst eo9
  go_wp2_with (first|((with_reducible refine gate_callee (f:=72) rfl ?_);refine goesL_ (some 27) rfl rfl Try.func72 (by kernel_rfl) rfl #[.slice Ao9 x0_1.length co9, .int .i64 x7_1, .int .i64 a1, .func (.func 58) #[] #[]] rfl mt_ ?_;(with_reducible refine (slices_insertionSortCmpFunc_of_Change_1.calls k1 (fun k_=>some k_ = (.slice Ao9 x0_1.length co9 : Value).ownBlock) (.slice Ao9 x0_1.length co9) x0_1 x7_1 a1  t211 w0 _ ?side1 ?side2 A8.out).mono ?_);(case side1=>repeat (first|(with_reducible first|exact HB.out|apply below_alloc|apply pw_below_drewN|apply below_drew1)|exact HB.out));(case side2=>exact Kd.R_tight rfl HO_0.out);rintro e w10 ⟨rfl, hy0, hb, hkp⟩;refine ⟨_, rfl, ?_⟩;replace HK:=k0_ (Kept.then_ (S:=(fun k_=>P0_ k_)) (by repeat (first|(with_reducible first|exact HK.out|apply Kept.alloc|apply Kept.drewN|apply Kept.drew)|exact HK.out)) hkp (fun k_ hs_=>(fun e_=>(HO_0.out.1 k_ e_.symm)) hs_));replace HO_0:=k0_ (Kd.R_reok rfl hy0 (fun k_ e_=>HO_0.out.1 k_ e_));replace HB:=k0_ (hb);(try clear hb);(try clear hkp);(try clear hy0)))
  (try simp only [Act.put, q1_,q3_,q2_])
  go_loopg [6] k1 (fun kq v6 w'=>∃ (x0_2 : List (S99)) (x6_2 : Int), v6 = .int .i64 x6_2∧Aside0 (slices_stableCmpFunc_of_Change_1.l1 kq x0_2 a1 x6_2 = some r)∧Aside0 (kq ≤ k1)∧Aside0 (Kd.R k99 99 w' w0.heap.size (fun k_=>(P0_ k_ ∨ w.heap.size ≤ k_)) (.slice Ao9 x0_1.length co9) x0_2)∧Aside0 (Kept w w' (fun k_=>P0_ k_))∧Aside0 (Below w0.heap.size w0 w'))
  case atStart=>exact ⟨(t211),(20),rs_, H', ⟨Nat.le_refl _⟩,⟨by (with_reducible repeat (first|apply Kd.R_alloc|apply Kd.R_drewN|apply Kd.R_drew));exact HO_0.out⟩,⟨by repeat (first|(with_reducible first|exact HK.out|apply Kept.alloc|apply Kept.drewN|apply Kept.drew)|exact HK.out)⟩,⟨hb0_ HB.out⟩⟩
  clear H';(try clear p2);(try clear c4);(try clear c4b0);(try clear c6);(try clear p6);(try clear c7);(try clear p2);obtain ⟨x0_2, x6_2, rfl, HA, HK2, HO_0, HK, HB⟩:=hrel;have hl0_2:=(Kd.R_reads' HO_0.out).1;rw [hl0_2] at HO_0;(try simp only [hl0_2]);obtain _|k2:=gk
  ·exact absurd HA.out (by simp [slices_stableCmpFunc_of_Change_1.l1])
  have H:=HA.out;clear HA;simp only [slices_stableCmpFunc_of_Change_1.l1] at H
  by_cases c11 : x6_2 < a1
  ·rw [if_pos c11] at H
   have c11b0:=decide_eq_true c11;(try (have c11b0h:=c11b0;simp only [hl0_2] at c11b0h));clear c11;have H':=k0_ H;clear H;go_wp2;(try simp only [Act.put, q1_,q3_,q2_])
   go_loopg [7, 8] k2 (fun kq v7 v8 w'=>∃ (x0_3 : List (S99)) (x7_3 : Int) (x8_3 : Int), v7 = .int .i64 x7_3∧v8 = .int .i64 x8_3∧Aside0 (slices_stableCmpFunc_of_Change_1.l2 kq x0_3 a1 x6_2 x7_3 x8_3 = some r)∧Aside0 (kq ≤ k2)∧Aside0 (Kd.R k99 99 w' w0.heap.size (fun k_=>(P0_ k_ ∨ w.heap.size ≤ k_)) (.slice Ao9 x0_2.length co9) x0_3)∧Aside0 (Kept w w' (fun k_=>P0_ k_))∧Aside0 (Below w0.heap.size w0 w'))
   case atStart=>exact ⟨(x0_2),(0),(wrap64 (2 * x6_2)),rs_,rs_, H', ⟨Nat.le_refl _⟩,⟨by (try simp only [hl0_2]);(with_reducible repeat (first|apply Kd.R_alloc|apply Kd.R_drewN|apply Kd.R_drew));exact HO_0.out⟩,⟨by repeat (first|(with_reducible first|exact HK.out|apply Kept.alloc|apply Kept.drewN|apply Kept.drew)|exact HK.out)⟩,⟨hb0_ HB.out⟩⟩
   clear H';(try clear c1);(try clear p2);(try clear c4);(try clear c4b0);(try clear c6);(try clear p6);(try clear c7);(try clear c11);(try clear c11b0);(try clear p2);(try clear p6);obtain ⟨x0_3, x7_3, x8_3, rfl, rfl, HA, HK3, HO_0, HK, HB⟩:=hrel;have hl0_3:=(Kd.R_reads' HO_0.out).1;rw [hl0_3] at HO_0;(try simp only [hl0_3]);obtain _|k3:=gk
   ·exact absurd HA.out (by simp [slices_stableCmpFunc_of_Change_1.l2])
   have H:=HA.out;clear HA;simp only [slices_stableCmpFunc_of_Change_1.l2] at H
   by_cases c12 : x8_3 ≤ a1
   ·rw [if_pos c12] at H
    have c12b0:=decide_eq_true c12;(try (have c12b0h:=c12b0;simp only [hl0_2, hl0_3] at c12b0h));clear c12;replace H:=Option.bind_eq_some_iff.mp H;obtain ⟨t212, A130, H⟩:=H;replace H : (slices_stableCmpFunc_of_Change_1.l2 k3 t212 a1 x6_2 x8_3 (wrap64 (x8_3 + (wrap64 (2 * x6_2))))) = some r:=H;have A13:=k0_ A130;clear A130;have H':=k0_ H;clear H
    go_wp2_with (first|((with_reducible refine gate_callee (f:=73) rfl ?_);refine goesL_ (some 43) rfl rfl Try.func73 (by kernel_rfl) rfl #[.slice Ao9 x0_3.length co9, .int .i64 x7_3, .int .i64 (wrap64 (x7_3 + x6_2)), .int .i64 x8_3, .func (.func 58) #[] #[]] rfl mt_ ?_;(with_reducible refine (slices_symMergeCmpFunc_of_Change_1.calls k3 (fun k_=>some k_ = (.slice Ao9 x0_3.length co9 : Value).ownBlock) (.slice Ao9 x0_3.length co9) x0_3 x7_3 (wrap64 (x7_3 + x6_2)) x8_3  t212 w0 _ ?side1 ?side2 A13.out).mono ?_);(case side1=>repeat (first|(with_reducible first|exact HB.out|apply below_alloc|apply pw_below_drewN|apply below_drew1)|exact HB.out));(case side2=>exact Kd.R_tight rfl HO_0.out);rintro e w14 ⟨rfl, hy0, hb, hkp⟩;refine ⟨_, rfl, ?_⟩;replace HK:=k0_ (Kept.then_ (S:=(fun k_=>P0_ k_)) (by repeat (first|(with_reducible first|exact HK.out|apply Kept.alloc|apply Kept.drewN|apply Kept.drew)|exact HK.out)) hkp (fun k_ hs_=>(fun e_=>(HO_0.out.1 k_ e_.symm)) hs_));replace HO_0:=k0_ (Kd.R_reok rfl hy0 (fun k_ e_=>HO_0.out.1 k_ e_));replace HB:=k0_ (hb);(try clear hb);(try clear hkp);(try clear hy0)))
    (try simp only [← hl0_3])
    go_roundg k3
    case measure=>have:=HK1.out;have:=HK2.out;have:=HK3.out;omega
    case rel=>exact ⟨(t212),(x8_3),(wrap64 (x8_3 + (wrap64 (2 * x6_2)))),rs_,rs_, H', ⟨by have:=HK1.out;have:=HK2.out;have:=HK3.out;omega⟩,⟨by (try simp only [hl0_2]);(try simp only [hl0_3]);(with_reducible repeat (first|apply Kd.R_alloc|apply Kd.R_drewN|apply Kd.R_drew));exact HO_0.out⟩,⟨by repeat (first|(with_reducible first|exact HK.out|apply Kept.alloc|apply Kept.drewN|apply Kept.drew)|exact HK.out)⟩,⟨hb0_ HB.out⟩⟩
   ·rw [if_neg c12] at H
    have c12b0:=decide_eq_false c12;(try (have c12b0h:=c12b0;simp only [hl0_2, hl0_3] at c12b0h));clear c12
    by_cases c15 : (wrap64 (x7_3 + x6_2)) < a1
    ·rw [if_pos c15] at H
     have c15b0:=decide_eq_true c15;(try (have c15b0h:=c15b0;simp only [hl0_2, hl0_3] at c15b0h));clear c15;replace H:=Option.bind_eq_some_iff.mp H;obtain ⟨t213, A160, H⟩:=H;replace H : (slices_stableCmpFunc_of_Change_1.l1 k3 t213 a1 (wrap64 (x6_2 * 2))) = some r:=H;have A16:=k0_ A160;clear A160;have H':=k0_ H;clear H
     go_wp2_with (first|((with_reducible refine gate_callee (f:=73) rfl ?_);refine goesL_ (some 60) rfl rfl Try.func73 (by kernel_rfl) rfl #[.slice Ao9 x0_3.length co9, .int .i64 x7_3, .int .i64 (wrap64 (x7_3 + x6_2)), .int .i64 a1, .func (.func 58) #[] #[]] rfl mt_ ?_;(with_reducible refine (slices_symMergeCmpFunc_of_Change_1.calls k3 (fun k_=>some k_ = (.slice Ao9 x0_3.length co9 : Value).ownBlock) (.slice Ao9 x0_3.length co9) x0_3 x7_3 (wrap64 (x7_3 + x6_2)) a1  t213 w0 _ ?side1 ?side2 A16.out).mono ?_);(case side1=>repeat (first|(with_reducible first|exact HB.out|apply below_alloc|apply pw_below_drewN|apply below_drew1)|exact HB.out));(case side2=>exact Kd.R_tight rfl HO_0.out);rintro e w17 ⟨rfl, hy0, hb, hkp⟩;refine ⟨_, rfl, ?_⟩;replace HK:=k0_ (Kept.then_ (S:=(fun k_=>P0_ k_)) (by repeat (first|(with_reducible first|exact HK.out|apply Kept.alloc|apply Kept.drewN|apply Kept.drew)|exact HK.out)) hkp (fun k_ hs_=>(fun e_=>(HO_0.out.1 k_ e_.symm)) hs_));replace HO_0:=k0_ (Kd.R_reok rfl hy0 (fun k_ e_=>HO_0.out.1 k_ e_));replace HB:=k0_ (hb);(try clear hb);(try clear hkp);(try clear hy0)))
     (try simp only [← hl0_2, ← hl0_3])
     go_roundg k3
     case measure=>have:=HK1.out;have:=HK2.out;have:=HK3.out;omega
     case rel=>exact ⟨(t213),(wrap64 (x6_2 * 2)),rs_, H', ⟨by have:=HK1.out;have:=HK2.out;have:=HK3.out;omega⟩,⟨by (try simp only [hl0_2]);(try simp only [hl0_3]);(with_reducible repeat (first|apply Kd.R_alloc|apply Kd.R_drewN|apply Kd.R_drew));exact HO_0.out⟩,⟨by repeat (first|(with_reducible first|exact HK.out|apply Kept.alloc|apply Kept.drewN|apply Kept.drew)|exact HK.out)⟩,⟨hb0_ HB.out⟩⟩
    ·rw [if_neg c15] at H
     have c15b0:=decide_eq_false c15;(try (have c15b0h:=c15b0;simp only [hl0_2, hl0_3] at c15b0h));clear c15;have H':=k0_ H;clear H;go_wp2;(try simp only [← hl0_2, ← hl0_3])
     go_roundg k3
     case measure=>have:=HK1.out;have:=HK2.out;have:=HK3.out;omega
     case rel=>exact ⟨(x0_3),(wrap64 (x6_2 * 2)),rs_, H', ⟨by have:=HK1.out;have:=HK2.out;have:=HK3.out;omega⟩,⟨by (try simp only [hl0_2]);(try simp only [hl0_3]);(with_reducible repeat (first|apply Kd.R_alloc|apply Kd.R_drewN|apply Kd.R_drew));exact HO_0.out⟩,⟨by repeat (first|(with_reducible first|exact HK.out|apply Kept.alloc|apply Kept.drewN|apply Kept.drew)|exact HK.out)⟩,⟨hb0_ HB.out⟩⟩
  ·rw [if_neg c11] at H
   have c11b0:=decide_eq_false c11;(try (have c11b0h:=c11b0;simp only [hl0_2] at c11b0h));clear c11;obtain rfl:=Option.some.inj H;go_wp2
   first|go_end0|((try simp only [Exit.inBlock, Exit.then]);refine bodyPost_ret (results_none rfl _ _ _) rfl ?_)
   (try simp only [hl0_2])
   exact ⟨er_,(by first|exact (rq_ HO_0.out)|(simp only [hl0_2];exact (rq_ HO_0.out))), hb0_ HB.out, by repeat (first|(with_reducible first|exact HK.out|apply Kept.alloc|apply Kept.drewN|apply Kept.drew)|exact HK.out)⟩

/-! ### slices_SortStableFunc_of_Change_1: function 98 -/
def slices_SortStableFunc_of_Change_1.f (k : Nat) (l0 : List (S99))  : Option ((List (S99))) := (slices_stableCmpFunc_of_Change_1.f k l0 (l0.length : Int)).bind fun t186 => (some t186)
theorem slices_SortStableFunc_of_Change_1.mono : ∀ a0 k, LeO (slices_SortStableFunc_of_Change_1.f k a0) (slices_SortStableFunc_of_Change_1.f (k + 1) a0) := by
 intro a0 k
 unfold slices_SortStableFunc_of_Change_1.f
 repeat' first|(with_reducible first|exact slices_stableCmpFunc_of_Change_1.mono _ _ _|exact LeO.refl _|exact LeO.none _|refine LeO.ite ?_ ?_|refine LeO.bind ?_ (fun _=>?_))|exact slices_stableCmpFunc_of_Change_1.mono _ _ _|exact LeO.none _|refine LeO.ite ?_ ?_|refine LeO.bind ?_ (fun _=>?_)
set_option maxHeartbeats 8000000 in
set_option maxRecDepth 100000 in
theorem slices_SortStableFunc_of_Change_1.calls (k : Nat) (P0_ : Nat → Prop) (u9000_ : Value) (l0 : List (S99))  (r : List (S99)) (w0 w : World) (hB : Below w0.heap.size w0 w) (ho0 : Kd.R k99 99 w w0.heap.size P0_ u9000_ l0) (h : slices_SortStableFunc_of_Change_1.f k l0 = some r) :
  Calls Try.prog 57 #[u9000_, .func (.func 58) #[] #[]] w fun e w' => e = .returned (.tuple #[]) ∧ Kd.R k99 99 w' w0.heap.size (fun k_ => (P0_ k_ ∨ w.heap.size ≤ k_)) u9000_ r ∧ Below w0.heap.size w0 w' ∧ Kept w w' (fun k_ => P0_ k_) := by
 have HO0:=k0_ (show Kd.R k99 99 w w0.heap.size (fun k_=>(P0_ k_ ∨ w.heap.size ≤ k_)) u9000_ l0 from Kd.R_mono ho0 (fun k_ hk=>(.inl hk)));have HK:=k0_ (Kept.refl w (fun k_=>P0_ k_));have HW0:=k0_ hB.size;have HB:=k0_ hB;clear hB;have H : ((slices_stableCmpFunc_of_Change_1.f k l0 (l0.length : Int)).bind fun t186=>(some t186)) = some r:=h;clear h;replace H:=Option.bind_eq_some_iff.mp H;obtain ⟨t186, A30, H⟩:=H;replace H : (some t186) = some r:=H;have A3:=k0_ A30;clear A30;obtain rfl:=Option.some.inj H;obtain ⟨Ao4, co4, eo4⟩:=Kd.R_slice HO0.out;subst eo4
 go_enter Try.func57, Try.ntmps57
 go_wp2_with (first|((with_reducible refine gate_callee (f:=67) rfl ?_);refine goesL_ (some 8) rfl rfl Try.func67 (by kernel_rfl) rfl #[.slice Ao4 l0.length co4, .int .i64 (l0.length : Int), .func (.func 58) #[] #[]] rfl mt_ ?_;(with_reducible refine (slices_stableCmpFunc_of_Change_1.calls k (fun k_=>some k_ = (.slice Ao4 l0.length co4 : Value).ownBlock) (.slice Ao4 l0.length co4) l0 (l0.length : Int)  t186 w0 _ ?side1 ?side2 A3.out).mono ?_);(case side1=>repeat (first|(with_reducible first|exact HB.out|apply below_alloc|apply pw_below_drewN|apply below_drew1)|exact HB.out));(case side2=>exact Kd.R_tight rfl HO0.out);rintro e w5 ⟨rfl, hy0, hb, hkp⟩;refine ⟨_, rfl, ?_⟩;replace HK:=k0_ (Kept.then_ (S:=(fun k_=>P0_ k_)) (by repeat (first|(with_reducible first|exact HK.out|apply Kept.alloc|apply Kept.drewN|apply Kept.drew)|exact HK.out)) hkp (fun k_ hs_=>(fun e_=>(HO0.out.1 k_ e_.symm)) hs_));replace HO0:=k0_ (Kd.R_reok rfl hy0 (fun k_ e_=>HO0.out.1 k_ e_));replace HB:=k0_ (hb);(try clear hb);(try clear hkp);(try clear hy0)))
 first|go_end0|((try simp only [Exit.inBlock, Exit.then]);refine bodyPost_ret (results_none rfl _ _ _) rfl ?_)
 exact ⟨er_, by (with_reducible repeat (first|apply Kd.R_alloc|apply Kd.R_drewN|apply Kd.R_drew));exact HO0.out, hb0_ HB.out, by repeat (first|(with_reducible first|exact HK.out|apply Kept.alloc|apply Kept.drewN|apply Kept.drew)|exact HK.out)⟩

end Go.Proofs.Ytekpnmeikibioaa.PHoursChanges
