/- Contracts of functions that AlarmSays reaches, a text of this session's own. -/
import Derived.Test.YtefkdkppipdceaaBox2
import Derived.Test.YtefkdkppipdceaaHAlarmSaysy0
import Derived.Test.YtefkdkppipdceaaHAlarmSaysy1
import Derived.Test.YtefkdkppipdceaaHAlarmSaysy8
namespace Go.Proofs.Ytefkdkppipdceaa.PAlarmSays
open Go.RowKit Go.Proofs.YtefkdkppipdceaaW.PrintWords Go.Proofs.YtefkdkppipdceaaW.PrintLast Go.Proofs.YtefkdkppipdceaaW.PrintMore
attribute [local go_sem] max2_int min2_int max_two min_two max_three min_three max_four min_four   -- for this text's walks alone
set_option linter.unusedVariables false
set_option linter.unusedSimpArgs false

attribute [local go_sem high] eqA81
/-! ### gridhallref4_AlarmError: function 29 -/
mutual
def gridhallref4_AlarmError.l0 : Nat → List (S81) → List ByteArray → List (S81) → Int → Int → Option (Int)
 | 0, _, _, _, _, _ => none
 | k + 1, x0, x1, x14, x15, x16 => if x16 < x15 then (if 0 ≤ x16 then (if x16 < (x14.length : Int) then ((gridhallref4_Named.f k ((rd_T81 x14 x16).f0)).bind fun t211 => (if t211 = true then ((gridhallref4_Named.f k ((rd_T81 x14 x16).f1)).bind fun t212 => (gridhallref4_AlarmError.j1 k x0 x1 x16 x14 x15 x16 (!t212) ((rd_T81 x14 x16).f0) ((rd_T81 x14 x16).f1))) else (gridhallref4_AlarmError.j1 k x0 x1 x16 x14 x15 x16 true ((rd_T81 x14 x16).f0) ((rd_T81 x14 x16).f1)))) else (none)) else (none)) else (if (x1.length : Int) > 24 then (some 2) else (gridhallref4_AlarmError.l2 k x1 x1 (x1.length : Int) 0))
def gridhallref4_AlarmError.j1 : Nat → List (S81) → List ByteArray → Int → List (S81) → Int → Int → Bool → ByteArray → ByteArray → Option (Int)
 | 0, _, _, _, _, _, _, _, _, _ => none
 | k + 1, x0, x1, x5, x14, x15, x16, x30, x211000, x211001 => if x30 = true then (some 6) else (if x211000.toList = x211001.toList then (some 3) else (if 0 ≤ x5 then (if x5 ≤ (x0.length : Int) then ((some (x0.take (x5 : Int).toNat : List (S81))).bind fun y213 => (gridhallref4_AlarmError.l1 k x0 x1 x14 x15 x16 y213 (y213.length : Int) 0 x211000 x211001)) else (none)) else (none)))
def gridhallref4_AlarmError.l1 : Nat → List (S81) → List ByteArray → List (S81) → Int → Int → List (S81) → Int → Int → ByteArray → ByteArray → Option (Int)
 | 0, _, _, _, _, _, _, _, _, _, _ => none
 | k + 1, x0, x1, x14, x15, x16, x38, x39, x40, x211000, x211001 => if x40 < x39 then (if 0 ≤ x40 then (if x40 < (x38.length : Int) then (if (x211000.toList == (((rd_T81 x38 x40).f0).toList) && (x211001.toList == (((rd_T81 x38 x40).f1).toList))) = true then (some 7) else (gridhallref4_AlarmError.l1 k x0 x1 x14 x15 x16 x38 x39 (wrap64 (x40 + 1)) x211000 x211001)) else (none)) else (none)) else (gridhallref4_AlarmError.l0 k x0 x1 x14 x15 (wrap64 (x16 + 1)))
def gridhallref4_AlarmError.l2 : Nat → List ByteArray → List ByteArray → Int → Int → Option (Int)
 | 0, _, _, _, _ => none
 | k + 1, x1, x52, x53, x54 => if x54 < x53 then (if 0 ≤ x54 then (if x54 < (x52.length : Int) then ((gridhallref4_Named.f k (rdOf ByteArray.empty x52 x54)).bind fun t220 => (if t220 = true then (if x54 ≤ (x1.length : Int) then ((gridhallref4_Index.f k (x1.take (x54 : Int).toNat) (rdOf ByteArray.empty x52 x54)).bind fun t222 => (if t222 ≥ 0 then (some 7) else (gridhallref4_AlarmError.l2 k x1 x52 x53 (wrap64 (x54 + 1))))) else (none)) else (some 6))) else (none)) else (none)) else (some 0)
end
def gridhallref4_AlarmError.f (k : Nat) (l0 : List (S81)) (l1 : List ByteArray) : Option (Int) := if (l0.length : Int) > 40 then (some 2) else (gridhallref4_AlarmError.l0 k l0 l1 l0 (l0.length : Int) 0)
theorem gridhallref4_AlarmError.mono_l : ∀ k, (∀ y0 y1 y2 y3 y4, LeO (gridhallref4_AlarmError.l0 k y0 y1 y2 y3 y4) (gridhallref4_AlarmError.l0 (k + 1) y0 y1 y2 y3 y4)) ∧ (∀ y0 y1 y2 y3 y4 y5 y6 y7 y8, LeO (gridhallref4_AlarmError.j1 k y0 y1 y2 y3 y4 y5 y6 y7 y8) (gridhallref4_AlarmError.j1 (k + 1) y0 y1 y2 y3 y4 y5 y6 y7 y8)) ∧ (∀ y0 y1 y2 y3 y4 y5 y6 y7 y8 y9, LeO (gridhallref4_AlarmError.l1 k y0 y1 y2 y3 y4 y5 y6 y7 y8 y9) (gridhallref4_AlarmError.l1 (k + 1) y0 y1 y2 y3 y4 y5 y6 y7 y8 y9)) ∧ (∀ y0 y1 y2 y3, LeO (gridhallref4_AlarmError.l2 k y0 y1 y2 y3) (gridhallref4_AlarmError.l2 (k + 1) y0 y1 y2 y3))
 | 0 => ⟨fun _ _ _ _ _ r h => by simp [gridhallref4_AlarmError.l0] at h, fun _ _ _ _ _ _ _ _ _ r h => by simp [gridhallref4_AlarmError.j1] at h, fun _ _ _ _ _ _ _ _ _ _ r h => by simp [gridhallref4_AlarmError.l1] at h, fun _ _ _ _ r h => by simp [gridhallref4_AlarmError.l2] at h⟩
 | k + 1 => by
  obtain ⟨ih0, ih1, ih2, ih3⟩:=gridhallref4_AlarmError.mono_l k
  refine ⟨?_, ?_, ?_, ?_⟩
  ·intro y0 y1 y2 y3 y4
   unfold gridhallref4_AlarmError.l0
   repeat' first|(with_reducible first|exact ih0 _ _ _ _ _|exact ih1 _ _ _ _ _ _ _ _ _|exact ih2 _ _ _ _ _ _ _ _ _ _|exact ih3 _ _ _ _|exact gridhallref4_Index.mono _ _ _|exact gridhallref4_Named.mono _ _|exact LeO.refl _|exact LeO.none _|refine LeO.ite ?_ ?_|refine LeO.bind ?_ (fun _=>?_))|exact ih0 _ _ _ _ _|exact ih1 _ _ _ _ _ _ _ _ _|exact ih2 _ _ _ _ _ _ _ _ _ _|exact ih3 _ _ _ _|exact gridhallref4_Index.mono _ _ _|exact gridhallref4_Named.mono _ _|exact LeO.none _|refine LeO.ite ?_ ?_|refine LeO.bind ?_ (fun _=>?_)
  ·intro y0 y1 y2 y3 y4 y5 y6 y7 y8
   unfold gridhallref4_AlarmError.j1
   repeat' first|(with_reducible first|exact ih0 _ _ _ _ _|exact ih1 _ _ _ _ _ _ _ _ _|exact ih2 _ _ _ _ _ _ _ _ _ _|exact ih3 _ _ _ _|exact gridhallref4_Index.mono _ _ _|exact gridhallref4_Named.mono _ _|exact LeO.refl _|exact LeO.none _|refine LeO.ite ?_ ?_|refine LeO.bind ?_ (fun _=>?_))|exact ih0 _ _ _ _ _|exact ih1 _ _ _ _ _ _ _ _ _|exact ih2 _ _ _ _ _ _ _ _ _ _|exact ih3 _ _ _ _|exact gridhallref4_Index.mono _ _ _|exact gridhallref4_Named.mono _ _|exact LeO.none _|refine LeO.ite ?_ ?_|refine LeO.bind ?_ (fun _=>?_)
  ·intro y0 y1 y2 y3 y4 y5 y6 y7 y8 y9
   unfold gridhallref4_AlarmError.l1
   repeat' first|(with_reducible first|exact ih0 _ _ _ _ _|exact ih1 _ _ _ _ _ _ _ _ _|exact ih2 _ _ _ _ _ _ _ _ _ _|exact ih3 _ _ _ _|exact gridhallref4_Index.mono _ _ _|exact gridhallref4_Named.mono _ _|exact LeO.refl _|exact LeO.none _|refine LeO.ite ?_ ?_|refine LeO.bind ?_ (fun _=>?_))|exact ih0 _ _ _ _ _|exact ih1 _ _ _ _ _ _ _ _ _|exact ih2 _ _ _ _ _ _ _ _ _ _|exact ih3 _ _ _ _|exact gridhallref4_Index.mono _ _ _|exact gridhallref4_Named.mono _ _|exact LeO.none _|refine LeO.ite ?_ ?_|refine LeO.bind ?_ (fun _=>?_)
  ·intro y0 y1 y2 y3
   unfold gridhallref4_AlarmError.l2
   repeat' first|(with_reducible first|exact ih0 _ _ _ _ _|exact ih1 _ _ _ _ _ _ _ _ _|exact ih2 _ _ _ _ _ _ _ _ _ _|exact ih3 _ _ _ _|exact gridhallref4_Index.mono _ _ _|exact gridhallref4_Named.mono _ _|exact LeO.refl _|exact LeO.none _|refine LeO.ite ?_ ?_|refine LeO.bind ?_ (fun _=>?_))|exact ih0 _ _ _ _ _|exact ih1 _ _ _ _ _ _ _ _ _|exact ih2 _ _ _ _ _ _ _ _ _ _|exact ih3 _ _ _ _|exact gridhallref4_Index.mono _ _ _|exact gridhallref4_Named.mono _ _|exact LeO.none _|refine LeO.ite ?_ ?_|refine LeO.bind ?_ (fun _=>?_)
theorem gridhallref4_AlarmError.mono : ∀ a0 a1 k, LeO (gridhallref4_AlarmError.f k a0 a1) (gridhallref4_AlarmError.f (k + 1) a0 a1) := by
 intro a0 a1 k
 obtain ⟨ih0, ih1, ih2, ih3⟩:=gridhallref4_AlarmError.mono_l k
 unfold gridhallref4_AlarmError.f
 repeat' first|(with_reducible first|exact ih0 _ _ _ _ _|exact ih1 _ _ _ _ _ _ _ _ _|exact ih2 _ _ _ _ _ _ _ _ _ _|exact ih3 _ _ _ _|exact gridhallref4_Index.mono _ _ _|exact gridhallref4_Named.mono _ _|exact LeO.refl _|exact LeO.none _|refine LeO.ite ?_ ?_|refine LeO.bind ?_ (fun _=>?_))|exact ih0 _ _ _ _ _|exact ih1 _ _ _ _ _ _ _ _ _|exact ih2 _ _ _ _ _ _ _ _ _ _|exact ih3 _ _ _ _|exact gridhallref4_Index.mono _ _ _|exact gridhallref4_Named.mono _ _|exact LeO.none _|refine LeO.ite ?_ ?_|refine LeO.bind ?_ (fun _=>?_)
set_option maxHeartbeats 8000000 in
set_option maxRecDepth 100000 in
theorem gridhallref4_AlarmError.calls (k : Nat) (A0 : Option Addr) (c0 : Nat) (l0 : List (S81)) (A1 : Option Addr) (c1 : Nat) (l1 : List ByteArray) (r : Int) (w : World) (hr0 : Kd.C k81 w A0 l0.length l0) (hc0 : l0.length ≤ c0) (hr1 : Kd.C Kd.string w A1 l1.length l1) (hc1 : l1.length ≤ c1) (h : gridhallref4_AlarmError.f k l0 l1 = some r) :
  Calls Try.prog 29 #[.slice A0 l0.length c0, .slice A1 l1.length c1] w fun e w' => e = .returned (.int .i64 r) ∧ Below w.heap.size w w' := by
 have hu81:=Try.underlying81;have HR0:=k0_ hr0;have HC0:=k0_ hc0;clear hr0 hc0;have HR1:=k0_ hr1;have HC1:=k0_ hc1;clear hr1 hc1;have HB:=k0_ (Below.refl w.heap.size w);have H : (if (l0.length : Int) > 40 then (some 2) else (gridhallref4_AlarmError.l0 k l0 l1 l0 (l0.length : Int) 0)) = some r:=h;clear h
 by_cases c3 : (l0.length : Int) > 40
 ·rw [if_pos c3] at H
  have c3b0:=decide_eq_true c3;have c3b1 : decide (40 < l0.length) = true:=decide_eq_true (by omega);clear c3;obtain rfl:=Option.some.inj H
  go_enter Try.func29, Try.ntmps29
  go_wp2
  go_ret
  exact ⟨er_, hb0_ HB.out⟩
 ·rw [if_neg c3] at H
  have c3b0:=decide_eq_false c3;have c3b1 : decide (40 < l0.length) = false:=decide_eq_false (by omega);clear c3;have H':=k0_ H;clear H
  go_enter Try.func29, Try.ntmps29
  go_wp2;(try simp only [Act.put, q1_,q3_,q2_])
  go_loopg [16] k (fun kq v16 w'=>∃ (x16_1 : Int), v16 = .int .i64 x16_1∧Aside0 (gridhallref4_AlarmError.l0 kq l0 l1 l0 (l0.length : Int) x16_1 = some r)∧Aside0 (kq ≤ k)∧Aside0 (Below w.heap.size w w'))
  case atStart=>exact ⟨(0),rs_, H', ⟨Nat.le_refl _⟩,⟨hb0_ HB.out⟩⟩
  clear H';(try clear c1);(try clear c2);(try clear p2);(try clear c3);(try clear c3b0);(try clear c3b1);obtain ⟨x16_1, rfl, HA, HK1, HB⟩:=hrel;obtain _|k1:=gk
  ·exact absurd HA.out (by simp [gridhallref4_AlarmError.l0])
  have H:=HA.out;clear HA;simp only [gridhallref4_AlarmError.l0] at H
  by_cases c4 : x16_1 < (l0.length : Int)
  ·rw [if_pos c4] at H
   have c4b0:=decide_eq_true c4;clear c4
   obtain ⟨c5,H⟩:=gi_ H;have c5b0:=decide_eq_true c5;clear c5
   obtain ⟨c6,H⟩:=gi_ H;have c6b0:=decide_eq_true c6;clear c6;have HC7:=k0_ H;clear H;have p209 : 0 ≤ (x16_1 : Int):=of_decide_eq_true as_;have q209 : x16_1 < (l0.length : Int):=of_decide_eq_true as_;obtain ⟨ad209, e209, hx209_0, hx209_1⟩:=at_T81 HR0.out x16_1 p209 q209;cases e209;replace hx209_0:=bt_ HB.out hx209_0;replace hx209_1:=bt_ HB.out hx209_1;replace p209:=eq_true p209;replace q209:=eq_true q209
   go_upto_region 6 with (first|((with_reducible refine gate_dst (N:=6) rfl ?_);refine box_event ?hg (N:=6) ?hd (cs:=#[.string (⟨#[]⟩ : ByteArray), .string (⟨#[]⟩ : ByteArray)]) (t:=81) ?hr ?_;(case hd=>rfl);(case hg=>rfl);(case hr=>first|(go_simp;done)|(go_simp;rfl));intro gb210 hg w8 hbox hb;have BK210:=k0_ (hbox);have GW210:=k0_ ((by rw [hg];exact (below_size (hb0_ HB.out)) : w.heap.size ≤ gb210));have GE210:=k0_ ((by rw [hg];exact (below_size (hb0_ HB.out)) : w.heap.size ≤ gb210));replace HB:=k0_ (below_step (hb0_ HB.out) hb);clear hb hbox hg;obtain ⟨hcz9_0,hcz9_1⟩:=bc2_ BK210.out;obtain ⟨hfz9_0,hfz9_1⟩:=bf2_ BK210.out))
   (try simp only [Act.put, q1_,q2_,q3_])
   go_cut [30] (fun v30 wc=>∃ (kq : Nat) (x30_6 : Bool), v30 = .bool x30_6∧Aside0 (gridhallref4_AlarmError.j1 kq l0 l1 x16_1 l0 (l0.length : Int) x16_1 x30_6 ((rd_T81 l0 x16_1).f0) ((rd_T81 l0 x16_1).f1) = some r)∧Aside0 (kq ≤ k1)∧Aside0 (wc.heap[gb210]? = some (.cells #[.string ((rd_T81 l0 x16_1).f0), .string ((rd_T81 l0 x16_1).f1)] 81 (0, 0)))∧Aside0 (Below w.heap.size w wc))
   case first =>
    have H:=HC7.out;clear HC7;replace H:=Option.bind_eq_some_iff.mp H;obtain ⟨t211, A100, H⟩:=H;replace H : (if t211 = true then ((gridhallref4_Named.f k1 ((rd_T81 l0 x16_1).f1)).bind fun t212=>(gridhallref4_AlarmError.j1 k1 l0 l1 x16_1 l0 (l0.length : Int) x16_1 (!t212) ((rd_T81 l0 x16_1).f0) ((rd_T81 l0 x16_1).f1))) else (gridhallref4_AlarmError.j1 k1 l0 l1 x16_1 l0 (l0.length : Int) x16_1 true ((rd_T81 l0 x16_1).f0) ((rd_T81 l0 x16_1).f1))) = some r:=H;have A10:=k0_ A100;clear A100
    by_cases c11 : t211 = true
    ·subst c11
     have H1 : ((gridhallref4_Named.f k1 ((rd_T81 l0 x16_1).f1)).bind fun t212=>(gridhallref4_AlarmError.j1 k1 l0 l1 x16_1 l0 (l0.length : Int) x16_1 (!t212) ((rd_T81 l0 x16_1).f0) ((rd_T81 l0 x16_1).f1))) = some r:=by rw [if_pos rfl] at H;exact H
     clear H;have H:=H1;clear H1;replace H:=Option.bind_eq_some_iff.mp H;obtain ⟨t212, A120, H⟩:=H;replace H : (gridhallref4_AlarmError.j1 k1 l0 l1 x16_1 l0 (l0.length : Int) x16_1 (!t212) ((rd_T81 l0 x16_1).f0) ((rd_T81 l0 x16_1).f1)) = some r:=H;have A12:=k0_ A120;clear A120;have H':=k0_ H;clear H;obtain ⟨hcz13_0,hcz13_1⟩:=bc2_ BK210.out;obtain ⟨hfz13_0,hfz13_1⟩:=bf2_ BK210.out
     go_wp2_with (first|((with_reducible refine gate_callee (f:=78) rfl ?_);refine goesL_ (some 23) rfl rfl Try.func78 (by kernel_rfl) rfl #[.string ((rd_T81 l0 x16_1).f0)] rfl mt_ ?_;(with_reducible refine (gridhallref4_Named.calls k1 ((rd_T81 l0 x16_1).f0) true _ A10.out).mono ?_);rintro e w' ⟨rfl, ⟨nd, rfl⟩⟩;refine ⟨_, rfl, ?_⟩)|(go_at_call 78;(with_reducible refine (gridhallref4_Named.calls k1 ((rd_T81 l0 x16_1).f1) t212 _ A12.out).mono ?_);rintro e w' ⟨rfl, ⟨nd, rfl⟩⟩))
     go_meet
     case rel=>exact ⟨_, (!t212),rs_, H', ⟨by have:=HK1.out;first|omega|exact Nat.le_refl _⟩,⟨by (with_reducible repeat (first|refine blk_drewN ?_ _|refine blk_drew ?_|refine blk_alloc ?_ _));refine blk_put (cs:=#[.string ((rd_T81 l0 x16_1).f0), .string (⟨#[]⟩ : ByteArray)]) ?_ 1 _ rfl;(with_reducible repeat (first|refine blk_drewN ?_ _|refine blk_drew ?_|refine blk_alloc ?_ _));refine blk_put (cs:=#[.string (⟨#[]⟩ : ByteArray), .string (⟨#[]⟩ : ByteArray)]) ?_ 0 _ rfl;(with_reducible repeat (first|refine blk_drewN ?_ _|refine blk_drew ?_|refine blk_alloc ?_ _));exact BK210.out⟩,⟨hb1_ HB.out GE210.out⟩⟩
    ·replace c11:=Bool.eq_false_iff.mpr c11
     subst c11;have H1 : (gridhallref4_AlarmError.j1 k1 l0 l1 x16_1 l0 (l0.length : Int) x16_1 true ((rd_T81 l0 x16_1).f0) ((rd_T81 l0 x16_1).f1)) = some r:=by rw [if_neg (show ¬ (false = true) by decide)] at H;exact H
     clear H;have H:=H1;clear H1;have H':=k0_ H;clear H;obtain ⟨hcz14_0,hcz14_1⟩:=bc2_ BK210.out;obtain ⟨hfz14_0,hfz14_1⟩:=bf2_ BK210.out
     go_wp2_with (first|((with_reducible refine gate_callee (f:=78) rfl ?_);refine goesL_ (some 23) rfl rfl Try.func78 (by kernel_rfl) rfl #[.string ((rd_T81 l0 x16_1).f0)] rfl mt_ ?_;(with_reducible refine (gridhallref4_Named.calls k1 ((rd_T81 l0 x16_1).f0) false _ A10.out).mono ?_);rintro e w' ⟨rfl, ⟨nd, rfl⟩⟩;refine ⟨_, rfl, ?_⟩))
     go_meet
     case rel=>exact ⟨_, (true),rs_, H', ⟨by have:=HK1.out;first|omega|exact Nat.le_refl _⟩,⟨by (with_reducible repeat (first|refine blk_drewN ?_ _|refine blk_drew ?_|refine blk_alloc ?_ _));refine blk_put (cs:=#[.string ((rd_T81 l0 x16_1).f0), .string (⟨#[]⟩ : ByteArray)]) ?_ 1 _ rfl;(with_reducible repeat (first|refine blk_drewN ?_ _|refine blk_drew ?_|refine blk_alloc ?_ _));refine blk_put (cs:=#[.string (⟨#[]⟩ : ByteArray), .string (⟨#[]⟩ : ByteArray)]) ?_ 0 _ rfl;(with_reducible repeat (first|refine blk_drewN ?_ _|refine blk_drew ?_|refine blk_alloc ?_ _));exact BK210.out⟩,⟨hb1_ HB.out GE210.out⟩⟩
   clear HC7;(try clear c1);(try clear c2);(try clear p2);(try clear q2);(try clear hx2);(try clear c3);(try clear c3b0);(try clear c3b1);(try clear c4);(try clear c4b0);(try clear c5);(try clear c5b0);(try clear c6);(try clear c6b0);(try clear c7);(try clear c11);(try clear hcz13_0);(try clear hcz13_1);(try clear hcz14_0);(try clear hcz14_1);(try clear hcz9_0);(try clear hcz9_1);(try clear hfz13_0);(try clear hfz13_1);(try clear hfz14_0);(try clear hfz14_1);(try clear hfz9_0);(try clear hfz9_1);(try clear hx209_0);(try clear hx209_1);(try clear p2);(try clear p209);(try clear q209);obtain ⟨kq, x30_6, rfl, HA, HJ6, BK210, HB⟩:=hcut;obtain _|kj6:=kq
   ·exact absurd HA.out (by simp [gridhallref4_AlarmError.j1])
   have H:=HA.out;clear HA;simp only [gridhallref4_AlarmError.j1] at H
   by_cases c15 : x30_6 = true
   ·subst c15
    have H1 : (some 6) = some r:=by rw [if_pos rfl] at H;exact H
    clear H;have H:=H1;clear H1;obtain rfl:=Option.some.inj H;go_wp2
    go_ret
    exact ⟨er_, hb1_ HB.out GE210.out⟩
   ·replace c15:=Bool.eq_false_iff.mpr c15
    subst c15;have H1 : (if ((rd_T81 l0 x16_1).f0).toList = ((rd_T81 l0 x16_1).f1).toList then (some 3) else (if 0 ≤ x16_1 then (if x16_1 ≤ (l0.length : Int) then ((some (l0.take (x16_1 : Int).toNat : List (S81))).bind fun y213=>(gridhallref4_AlarmError.l1 kj6 l0 l1 l0 (l0.length : Int) x16_1 y213 (y213.length : Int) 0 ((rd_T81 l0 x16_1).f0) ((rd_T81 l0 x16_1).f1))) else (none)) else (none))) = some r:=by rw [if_neg (show ¬ (false = true) by decide)] at H;exact H
    clear H;have H:=H1;clear H1
    by_cases c16 : ((rd_T81 l0 x16_1).f0).toList = ((rd_T81 l0 x16_1).f1).toList
    rw [if_pos c16] at H;have c16b0:=beq_iff_eq.mpr c16;have c16b1:=bne_eq_false_iff_eq.mpr c16;clear c16;obtain rfl:=Option.some.inj H;rotate_left;rw [if_neg c16] at H;have c16b0:=beq_eq_false_iff_ne.mpr c16;have c16b1:=bne_iff_ne.mpr c16
    focus
     by_cases c18 : 0 ≤ x16_1
     rw [if_pos c18] at H;have c18b0:=eq_true c18;have c18b1:=decide_eq_true c18;clear c18
     focus
      by_cases c19 : x16_1 ≤ (l0.length : Int)
      rw [if_pos c19] at H;have c19b0:=eq_true c19;have c19b1:=decide_eq_true c19;clear c19;obtain ⟨y213, hy213⟩ : ∃ y_ : List (S81), y_ = (l0.take (x16_1 : Int).toNat):=⟨_, rfl⟩;replace H : (gridhallref4_AlarmError.l1 kj6 l0 l1 l0 (l0.length : Int) x16_1 y213 (y213.length : Int) 0 ((rd_T81 l0 x16_1).f0) ((rd_T81 l0 x16_1).f1)) = some r:=by first|(rw [hy213];with_reducible exact H)|(have H2_:=(Option.bind_some _ _).symm.trans H;rw [hy213];with_reducible exact H2_)|(have H2_:=(Option.bind_some _ _).symm.trans H;with_reducible exact H2_)|with_reducible exact H|(rw [hy213];exact H)|exact H
      have Ny213:=k0_ hy213;clear hy213;have H':=k0_ H;clear H;rotate_left;rw [if_neg c19] at H
      exact absurd H (by simp)
     rotate_left;rw [if_neg c18] at H
     exact absurd H (by simp)
    rotate_left
    all_goals
     obtain ⟨hcz17_0,hcz17_1⟩:=bc2_ BK210.out;obtain ⟨hfz17_0,hfz17_1⟩:=bf2_ BK210.out
    ·go_wp2
     go_ret
     exact ⟨er_, hb1_ HB.out GE210.out⟩
    ·have q21 : (x16_1 : Int) ≤ ((l0.length : Int) : Int):=of_decide_eq_true as_
     obtain ⟨i021, hi021, _, hsz21, _⟩:=info_parts info81;have hroom21 : l0.length ≤ c0:=HC0.out;have hC21 : Kd.C k81 _ (some ad209) l0.length l0:=HR0.out;have hcut21:=cut_to (P:=Try.prog) 78 81 .i64 Try.underlying78 hi021 (some ad209) l0.length c0 x16_1 (of_decide_eq_true as_) q21 hroom21;have hr21:=Kd.C_take (m:=(x16_1 : Int).toNat) hC21 (by omega);have hy21 : y213.length = (x16_1 : Int).toNat:=(by rw [Ny213.out, List.length_take];omega);rw [← Ny213.out] at hr21;rw [← hy21] at hcut21;have HR216:=k0_ hr21;have HC216:=k0_ (show y213.length ≤ c0 from by omega);clear hr21 hC21 hroom21 hi021 hsz21;have KY21:=k0_ hy21;clear hy21;replace q21:=eq_true q21;go_wp2;(try simp only [Act.put, q1_,q3_,q2_])
     go_loopg [40] kj6 (fun kq v40 w'=>∃ (x40_3 : Int), v40 = .int .i64 x40_3∧Aside0 (gridhallref4_AlarmError.l1 kq l0 l1 l0 (l0.length : Int) x16_1 y213 (y213.length : Int) x40_3 ((rd_T81 l0 x16_1).f0) ((rd_T81 l0 x16_1).f1) = some r)∧Aside0 (kq ≤ kj6)∧Aside0 (w'.heap[gb210]? = some (.cells #[.string ((rd_T81 l0 x16_1).f0), .string ((rd_T81 l0 x16_1).f1)] 81 (0, 0)))∧Aside0 (Below w.heap.size w w'))
     case atStart=>exact ⟨(0),rs_, H', ⟨Nat.le_refl _⟩,⟨bq_ BK210.out⟩,⟨hb1_ HB.out GE210.out⟩⟩
     clear H';(try clear c1);(try clear c2);(try clear p2);(try clear q2);(try clear hx2);(try clear c3);(try clear c3b0);(try clear c3b1);(try clear c4);(try clear c4b0);(try clear c5);(try clear c5b0);(try clear c6);(try clear c6b0);(try clear c7);(try clear c11);(try clear c15);(try clear c16);(try clear c16b0);(try clear c16b1);(try clear c18);(try clear c18b0);(try clear c18b1);(try clear c19);(try clear c19b0);(try clear c19b1);(try clear p20);(try clear q20);(try clear hx20);(try clear q21);(try clear hcz13_0);(try clear hcz13_1);(try clear hcz14_0);(try clear hcz14_1);(try clear hcz17_0);(try clear hcz17_1);(try clear hcz17_0);(try clear hcz17_1);(try clear hcz9_0);(try clear hcz9_1);(try clear hfz13_0);(try clear hfz13_1);(try clear hfz14_0);(try clear hfz14_1);(try clear hfz17_0);(try clear hfz17_1);(try clear hfz17_0);(try clear hfz17_1);(try clear hfz9_0);(try clear hfz9_1);(try clear hx209_0);(try clear hx209_1);(try clear p2);(try clear p209);(try clear q2);(try clear q209);(try clear q21);obtain ⟨x40_3, rfl, HA, HK3, BK210, HB⟩:=hrel;obtain _|k3:=gk
     ·exact absurd HA.out (by simp [gridhallref4_AlarmError.l1])
     have H:=HA.out;clear HA;simp only [gridhallref4_AlarmError.l1] at H
     by_cases c22 : x40_3 < (y213.length : Int)
     ·rw [if_pos c22] at H
      have c22b0:=decide_eq_true c22;clear c22
      by_cases c23 : 0 ≤ x40_3
      rw [if_pos c23] at H;have c23b0:=decide_eq_true c23;clear c23
      focus
       by_cases c24 : x40_3 < (y213.length : Int)
       rw [if_pos c24] at H;have c24b0:=decide_eq_true c24;clear c24
       focus
        by_cases c25 : (((rd_T81 l0 x16_1).f0).toList == (((rd_T81 y213 x40_3).f0).toList) && (((rd_T81 l0 x16_1).f1).toList == (((rd_T81 y213 x40_3).f1).toList))) = true
        rw [if_pos c25] at H;have c25b0 : (((rd_T81 l0 x16_1).f0).toList == (((rd_T81 y213 x40_3).f0).toList) && (((rd_T81 l0 x16_1).f1).toList == (((rd_T81 y213 x40_3).f1).toList))) = true:=c25;(try (have c25b1 : decide (((rd_T81 l0 x16_1).f0).toList = (((rd_T81 y213 x40_3).f0).toList) && (((rd_T81 l0 x16_1).f1).toList == (((rd_T81 y213 x40_3).f1).toList))) = true:=by simpa using c25));(try (have c25b2 : (((rd_T81 l0 x16_1).f0).toList == (((rd_T81 y213 x40_3).f0).toList) && (((rd_T81 l0 x16_1).f1).toList == (((rd_T81 y213 x40_3).f1).toList))) = true:=by simpa using c25));clear c25;obtain rfl:=Option.some.inj H;rotate_left;rw [if_neg c25] at H;have c25b0 : (((rd_T81 l0 x16_1).f0).toList == (((rd_T81 y213 x40_3).f0).toList) && (((rd_T81 l0 x16_1).f1).toList == (((rd_T81 y213 x40_3).f1).toList))) = false:=by simpa using c25
        (try (have c25b1 : decide (((rd_T81 l0 x16_1).f0).toList = (((rd_T81 y213 x40_3).f0).toList) && (((rd_T81 l0 x16_1).f1).toList == (((rd_T81 y213 x40_3).f1).toList))) = false:=by simpa using c25));(try (have c25b2 : (((rd_T81 l0 x16_1).f0).toList == (((rd_T81 y213 x40_3).f0).toList) && (((rd_T81 l0 x16_1).f1).toList == (((rd_T81 y213 x40_3).f1).toList))) = false:=by simpa using c25));(try (have c25b3 : ¬ (((rd_T81 l0 x16_1).f0).toList = (((rd_T81 y213 x40_3).f0).toList) && (((rd_T81 l0 x16_1).f1).toList == (((rd_T81 y213 x40_3).f1).toList))):=by simpa using c25));clear c25;have H':=k0_ H;clear H;rotate_left
       rotate_left 2;rw [if_neg c24] at H
       exact absurd H (by simp)
      rotate_left 2;rw [if_neg c23] at H
      exact absurd H (by simp)
      all_goals
       have p217 : 0 ≤ (x40_3 : Int):=of_decide_eq_true as_;have q217 : x40_3 < (y213.length : Int):=of_decide_eq_true as_;obtain ⟨ad217, e217, hx217_0, hx217_1⟩:=at_T81 HR216.out x40_3 p217 q217;obtain rfl : ad209 = ad217:=(by injection e217);replace hx217_0:=bt_ HB.out hx217_0;replace hx217_1:=bt_ HB.out hx217_1;replace p217:=eq_true p217;replace q217:=eq_true q217
       go_wp2_with (first|((with_reducible refine gate_dst (N:=8) rfl ?_);refine box_event ?hg (N:=8) ?hd (cs:=#[.string (⟨#[]⟩ : ByteArray), .string (⟨#[]⟩ : ByteArray)]) (t:=81) ?hr ?_;(case hd=>rfl);(case hg=>rfl);(case hr=>first|(go_simp;done)|(go_simp;rfl));intro gb218 hg w26 hbox hb;have BK218:=k0_ (hbox);have GW218:=k0_ ((by rw [hg];exact (below_size (hb1_ HB.out GE210.out)) : w.heap.size ≤ gb218));have GE218:=k0_ ((by rw [hg];exact (below_size (hb1_ HB.out GE210.out)) : w.heap.size ≤ gb218));replace HB:=k0_ (below_step (hb1_ HB.out GE210.out) hb);have NB210_218:=k0_ ((by rw [hg];exact Nat.ne_of_lt (blk_lt (g:=gb210) (o:=.cells #[.string ((rd_T81 l0 x16_1).f0), .string ((rd_T81 l0 x16_1).f1)] 81 (0, 0)) (bq_ BK210.out)) : gb210 ≠ gb218));have NB218_210:=k0_ ((by rw [hg];exact Nat.ne_of_gt (blk_lt (g:=gb210) (o:=.cells #[.string ((rd_T81 l0 x16_1).f0), .string ((rd_T81 l0 x16_1).f1)] 81 (0, 0)) (bq_ BK210.out)) : gb218 ≠ gb210));replace BK210:=k0_ (blk_below (g:=gb210) (o:=.cells #[.string ((rd_T81 l0 x16_1).f0), .string ((rd_T81 l0 x16_1).f1)] 81 (0, 0)) (bq_ BK210.out) hb);clear hb hbox hg;have hnb27:=NB218_210.out;have hnc27:=NB210_218.out;obtain ⟨hcz28_0,hcz28_1⟩:=bc2_ BK218.out;obtain ⟨hfz28_0,hfz28_1⟩:=bf2_ BK218.out;obtain ⟨hcz29_0,hcz29_1⟩:=bc2_ BK210.out;obtain ⟨hfz29_0,hfz29_1⟩:=bf2_ BK210.out))
      ·go_ret
       exact ⟨er_, hb2_ HB.out GE210.out GE218.out⟩
      ·go_roundg k3
       case measure=>have:=HK1.out;have:=HJ6.out;have:=HK3.out;omega
       case rel=>exact ⟨(wrap64 (x40_3 + 1)),rs_, H', ⟨by have:=HK1.out;have:=HJ6.out;have:=HK3.out;omega⟩,⟨by (with_reducible repeat (first|refine blk_drewN ?_ _|refine blk_drew ?_|refine blk_alloc ?_ _));refine blk_far ?_ NB210_218.out _;(with_reducible repeat (first|refine blk_drewN ?_ _|refine blk_drew ?_|refine blk_alloc ?_ _));refine blk_far ?_ NB210_218.out _;(with_reducible repeat (first|refine blk_drewN ?_ _|refine blk_drew ?_|refine blk_alloc ?_ _));exact BK210.out⟩,⟨hb2_ HB.out GE210.out GE218.out⟩⟩
     ·rw [if_neg c22] at H
      have c22b0:=decide_eq_false c22;clear c22;have H':=k0_ H;clear H;go_wp2
      go_roundg k3
      case measure=>have:=HK1.out;have:=HJ6.out;have:=HK3.out;omega
      case rel=>exact ⟨(wrap64 (x16_1 + 1)),rs_, H', ⟨by have:=HK1.out;have:=HJ6.out;have:=HK3.out;omega⟩,⟨hb1_ HB.out GE210.out⟩⟩
  ·rw [if_neg c4] at H
   have c4b0:=decide_eq_false c4;clear c4
   by_cases c34 : (l1.length : Int) > 24
   ·rw [if_pos c34] at H
    have c34b0:=decide_eq_true c34;have c34b1 : decide (24 < l1.length) = true:=decide_eq_true (by omega);clear c34;obtain rfl:=Option.some.inj H;go_wp2
    go_ret
    exact ⟨er_, hb0_ HB.out⟩
   ·rw [if_neg c34] at H
    have c34b0:=decide_eq_false c34;have c34b1 : decide (24 < l1.length) = false:=decide_eq_false (by omega);clear c34;have H':=k0_ H;clear H;go_wp2;(try simp only [Act.put, q1_,q3_,q2_])
    go_loopg [54] k1 (fun kq v54 w'=>∃ (x54_2 : Int), v54 = .int .i64 x54_2∧Aside0 (gridhallref4_AlarmError.l2 kq l1 l1 (l1.length : Int) x54_2 = some r)∧Aside0 (kq ≤ k1)∧Aside0 (Below w.heap.size w w'))
    case atStart=>exact ⟨(0),rs_, H', ⟨Nat.le_refl _⟩,⟨hb0_ HB.out⟩⟩
    clear H';(try clear c1);(try clear c2);(try clear p2);(try clear q2);(try clear hx2);(try clear c3);(try clear c3b0);(try clear c3b1);(try clear c4);(try clear c4b0);(try clear c5);(try clear c5b0);(try clear c6);(try clear c6b0);(try clear p6);(try clear c7);(try clear c11);(try clear c15);(try clear c16);(try clear c16b0);(try clear c16b1);(try clear c18);(try clear c18b0);(try clear c18b1);(try clear c19);(try clear c19b0);(try clear c19b1);(try clear p20);(try clear q20);(try clear hx20);(try clear p21);(try clear q21);(try clear hx21);(try clear c22);(try clear c22b0);(try clear c23);(try clear c23b0);(try clear c24);(try clear c24b0);(try clear c25);(try clear c25b0);(try clear c25b1);(try clear c25b2);(try clear c27);(try clear c29);(try clear c31);(try clear c34);(try clear c34b0);(try clear c34b1);(try clear hcz13_0);(try clear hcz13_1);(try clear hcz14_0);(try clear hcz14_1);(try clear hcz17_0);(try clear hcz17_1);(try clear hcz20_0);(try clear hcz20_1);(try clear hcz28_0);(try clear hcz28_1);(try clear hcz29_0);(try clear hcz29_1);(try clear hcz32_0);(try clear hcz32_1);(try clear hcz33_0);(try clear hcz33_1);(try clear hcz9_0);(try clear hcz9_1);(try clear hfz13_0);(try clear hfz13_1);(try clear hfz14_0);(try clear hfz14_1);(try clear hfz17_0);(try clear hfz17_1);(try clear hfz20_0);(try clear hfz20_1);(try clear hfz28_0);(try clear hfz28_1);(try clear hfz29_0);(try clear hfz29_1);(try clear hfz32_0);(try clear hfz32_1);(try clear hfz33_0);(try clear hfz33_1);(try clear hfz9_0);(try clear hfz9_1);(try clear hx209_0);(try clear hx209_1);(try clear hx217_0);(try clear hx217_1);(try clear p2);(try clear p20);(try clear p209);(try clear p217);(try clear q2);(try clear q20);(try clear q209);(try clear q21);(try clear q217);obtain ⟨x54_2, rfl, HA, HK2, HB⟩:=hrel;obtain _|k2:=gk
    ·exact absurd HA.out (by simp [gridhallref4_AlarmError.l2])
    have H:=HA.out;clear HA;simp only [gridhallref4_AlarmError.l2] at H
    by_cases c35 : x54_2 < (l1.length : Int)
    ·rw [if_pos c35] at H
     have c35b0:=decide_eq_true c35;clear c35
     obtain ⟨c36,H⟩:=gi_ H;have c36b0:=decide_eq_true c36;clear c36
     obtain ⟨c37,H⟩:=gi_ H;have c37b0:=decide_eq_true c37;clear c37;replace H:=Option.bind_eq_some_iff.mp H;obtain ⟨t220, A380, H⟩:=H;replace H : (if t220 = true then (if x54_2 ≤ (l1.length : Int) then ((gridhallref4_Index.f k2 (l1.take (x54_2 : Int).toNat) (rdOf ByteArray.empty l1 x54_2)).bind fun t222=>(if t222 ≥ 0 then (some 7) else (gridhallref4_AlarmError.l2 k2 l1 l1 (l1.length : Int) (wrap64 (x54_2 + 1))))) else (none)) else (some 6)) = some r:=H;have A38:=k0_ A380;clear A380
     by_cases c39 : t220 = true
     ·subst c39
      have H1 : (if x54_2 ≤ (l1.length : Int) then ((gridhallref4_Index.f k2 (l1.take (x54_2 : Int).toNat) (rdOf ByteArray.empty l1 x54_2)).bind fun t222=>(if t222 ≥ 0 then (some 7) else (gridhallref4_AlarmError.l2 k2 l1 l1 (l1.length : Int) (wrap64 (x54_2 + 1))))) else (none)) = some r:=by rw [if_pos rfl] at H;exact H
      clear H;have H:=H1;clear H1;have c40b0:=eq_true (of_decide_eq_true as_ : 0 ≤ x54_2)
      by_cases c41 : x54_2 ≤ (l1.length : Int)
      rw [if_pos c41] at H;have c41b0:=eq_true c41;have c41b1:=decide_eq_true c41;clear c41;replace H:=Option.bind_eq_some_iff.mp H;obtain ⟨t222, A420, H⟩:=H;replace H : (if t222 ≥ 0 then (some 7) else (gridhallref4_AlarmError.l2 k2 l1 l1 (l1.length : Int) (wrap64 (x54_2 + 1)))) = some r:=H;have A42:=k0_ A420;clear A420
      focus
       by_cases c43 : t222 ≥ 0
       rw [if_pos c43] at H;have c43b0:=decide_eq_true c43;clear c43;obtain rfl:=Option.some.inj H;rotate_left;rw [if_neg c43] at H;have c43b0:=decide_eq_false c43;clear c43;have H':=k0_ H;clear H;rotate_left
      rotate_left 2;rw [if_neg c41] at H
      exact absurd H (by simp)
      all_goals
       have p219 : 0 ≤ (x54_2 : Int):=of_decide_eq_true as_;have q219 : x54_2 < (l1.length : Int):=of_decide_eq_true as_;obtain ⟨ad219, e219, hx219_0⟩:=Kd.at_string HR1.out x54_2 p219 q219;cases e219;replace hx219_0:=bt_ HB.out hx219_0;replace p219:=eq_true p219;replace q219:=eq_true q219
       go_wp2_with (first|((with_reducible refine gate_callee (f:=78) rfl ?_);refine goesL_ (some 60) rfl rfl Try.func78 (by kernel_rfl) rfl #[.string (rdOf ByteArray.empty l1 x54_2)] rfl mt_ ?_;(with_reducible refine (gridhallref4_Named.calls k2 (rdOf ByteArray.empty l1 x54_2) true _ A38.out).mono ?_);rintro e w' ⟨rfl, ⟨nd, rfl⟩⟩;refine ⟨_, rfl, ?_⟩;obtain ⟨i044, hi044, _, hsz44, _⟩:=info_parts info9;obtain ⟨hcut44, hA44, hC44⟩:=print_take_of (P:=Try.prog) Value.string (⟨#[]⟩ : ByteArray) 22 9 .i64 Try.underlying22 hi044 hsz44 (some ad219) c1 l1 x54_2 (of_decide_eq_true as_) (of_decide_eq_true as_) HC1.out;have HR221:=k0_ (Kd.C_of_reads (h1:=fun _=>rfl) (hA44 _ (Kd.reads_of_C HR1.out)));have HC221:=k0_ hC44;clear hA44 hC44 hi044 hsz44)|((with_reducible refine gate_callee (f:=30) rfl ?_);refine goesL_ (some 66) rfl rfl Try.func30 (by kernel_rfl) rfl #[.slice (some ad219) (l1.take (x54_2 : Int).toNat).length c1, .string (rdOf ByteArray.empty l1 x54_2)] rfl (by (try simp only [List.map_toArray, List.map_cons, List.map_nil]);first|done|(rw [show (l1.take (x54_2 : Int).toNat).length = x54_2.toNat from (by rw [List.length_take];have h_ : (x54_2 : Int) ≤ (l1.length : Int):=of_decide_eq_true as_;omega)] <;> rfl)|rfl|(simp only [List.length_drop, List.length_take];rfl)) ?_;(with_reducible refine (gridhallref4_Index.calls k2 _ _ (l1.take (x54_2 : Int).toNat) (rdOf ByteArray.empty l1 x54_2) t222 _ ?side1 ?side2 A42.out).mono ?_);(case side1=>repeat (first|exact (Kd.C_below HR221.out (hb0_ HB.out))|(with_reducible refine Kd.C_alloc ?_ _)|(with_reducible refine Kd.C_drewN ?_ _)|(with_reducible refine Kd.C_drew ?_)));(case side2=>exact HC221.out);rintro e w' ⟨rfl, ⟨nd, rfl⟩⟩;refine ⟨_, rfl, ?_⟩))
      ·go_ret
       exact ⟨er_, hb0_ HB.out⟩
      ·go_roundg k2
       case measure=>have:=HK1.out;have:=HK2.out;omega
       case rel=>exact ⟨(wrap64 (x54_2 + 1)),rs_, H', ⟨by have:=HK1.out;have:=HK2.out;omega⟩,⟨hb0_ HB.out⟩⟩
     ·replace c39:=Bool.eq_false_iff.mpr c39
      subst c39;have H1 : (some 6) = some r:=by rw [if_neg (show ¬ (false = true) by decide)] at H;exact H
      clear H;have H:=H1;clear H1;obtain rfl:=Option.some.inj H;have p219 : 0 ≤ (x54_2 : Int):=of_decide_eq_true as_;have q219 : x54_2 < (l1.length : Int):=of_decide_eq_true as_;obtain ⟨ad219, e219, hx219_0⟩:=Kd.at_string HR1.out x54_2 p219 q219;cases e219;replace hx219_0:=bt_ HB.out hx219_0;replace p219:=eq_true p219;replace q219:=eq_true q219
      go_wp2_with (first|((with_reducible refine gate_callee (f:=78) rfl ?_);refine goesL_ (some 60) rfl rfl Try.func78 (by kernel_rfl) rfl #[.string (rdOf ByteArray.empty l1 x54_2)] rfl mt_ ?_;(with_reducible refine (gridhallref4_Named.calls k2 (rdOf ByteArray.empty l1 x54_2) false _ A38.out).mono ?_);rintro e w' ⟨rfl, ⟨nd, rfl⟩⟩;refine ⟨_, rfl, ?_⟩))
      go_ret
      exact ⟨er_, hb0_ HB.out⟩
    ·rw [if_neg c35] at H
     have c35b0:=decide_eq_false c35;clear c35;obtain rfl:=Option.some.inj H;go_wp2
     go_ret
     exact ⟨er_, hb0_ HB.out⟩

end Go.Proofs.Ytefkdkppipdceaa.PAlarmSays
