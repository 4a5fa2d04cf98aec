/- Contracts of functions that UpkeepBest reaches, a text of this session's own. -/
import Derived.Test.YtielinaielicbaaBox2
import Derived.Test.YtielinaielicbaaHUpkeepBesty0
namespace Go.Proofs.Ytielinaielicbaa.PUpkeepBest
open Go.RowKit Go.Proofs.YtielinaielicbaaW.PrintWords Go.Proofs.YtielinaielicbaaW.PrintLast Go.Proofs.YtielinaielicbaaW.PrintMore
attribute [local go_sem] max2_int min2_int max_two min_two max_three min_three max_four min_four   -- for this text's walks alone
set_option linter.unusedVariables false
set_option linter.unusedSimpArgs false

/-! ### gridhallref4_PlanCost: function 13 -/
mutual
def gridhallref4_PlanCost.l0 : Nat → Int → List Int → Int → Int → List (S28) → List (S29) → Int → Option (Int)
 | 0, _, _, _, _, _, _, _ => none
 | k + 1, x5, x8, x9, x10, x144000, x144001, x144002 => if x10 < x9 then (if 0 ≤ x10 then (if x10 < (x8.length : Int) then (if x10 < (x144000.length : Int) then (gridhallref4_PlanCost.l1 k x5 x10 x8 x9 x10 (wrap64 ((rd x8 x10) - ((rd_T28 x144000 x10).f2))) 0 x144000 x144001 x144002) else (none)) else (none)) else (none)) else (some x5)
def gridhallref4_PlanCost.l1 : Nat → Int → Int → List Int → Int → Int → Int → Int → List (S28) → List (S29) → Int → Option (Int)
 | 0, _, _, _, _, _, _, _, _, _, _ => none
 | k + 1, x5, x6, x8, x9, x10, x22, x23, x144000, x144001, x144002 => if x23 < x22 then (if 0 ≤ x6 then (if x6 < (x144000.length : Int) then (gridhallref4_PlanCost.l1 k (wrap64 (x5 + ((rd_T28 x144000 x6).f4))) x6 x8 x9 x10 x22 (wrap64 (x23 + 1)) x144000 x144001 x144002) else (none)) else (none)) else (gridhallref4_PlanCost.l0 k x5 x8 x9 (wrap64 (x10 + 1)) x144000 x144001 x144002)
end
def gridhallref4_PlanCost.f (k : Nat) (l0_0 : List (S28)) (l0_1 : List (S29)) (a0_2 : Int) (l1 : List Int) : Option (Int) := gridhallref4_PlanCost.l0 k 0 l1 (l1.length : Int) 0 l0_0 l0_1 a0_2
theorem gridhallref4_PlanCost.mono_l : ∀ k, (∀ y0 y1 y2 y3 y4 y5 y6, LeO (gridhallref4_PlanCost.l0 k y0 y1 y2 y3 y4 y5 y6) (gridhallref4_PlanCost.l0 (k + 1) y0 y1 y2 y3 y4 y5 y6)) ∧ (∀ y0 y1 y2 y3 y4 y5 y6 y7 y8 y9, LeO (gridhallref4_PlanCost.l1 k y0 y1 y2 y3 y4 y5 y6 y7 y8 y9) (gridhallref4_PlanCost.l1 (k + 1) y0 y1 y2 y3 y4 y5 y6 y7 y8 y9))
 | 0 => ⟨fun _ _ _ _ _ _ _ r h => by simp [gridhallref4_PlanCost.l0] at h, fun _ _ _ _ _ _ _ _ _ _ r h => by simp [gridhallref4_PlanCost.l1] at h⟩
 | k + 1 => by
  obtain ⟨ih0, ih1⟩:=gridhallref4_PlanCost.mono_l k
  refine ⟨?_, ?_⟩
  ·intro y0 y1 y2 y3 y4 y5 y6
   unfold gridhallref4_PlanCost.l0
   repeat' first|(with_reducible first|exact ih0 _ _ _ _ _ _ _|exact ih1 _ _ _ _ _ _ _ _ _ _|exact LeO.refl _|exact LeO.none _|refine LeO.ite ?_ ?_|refine LeO.bind ?_ (fun _=>?_))|exact ih0 _ _ _ _ _ _ _|exact ih1 _ _ _ _ _ _ _ _ _ _|exact LeO.none _|refine LeO.ite ?_ ?_|refine LeO.bind ?_ (fun _=>?_)
  ·intro y0 y1 y2 y3 y4 y5 y6 y7 y8 y9
   unfold gridhallref4_PlanCost.l1
   repeat' first|(with_reducible first|exact ih0 _ _ _ _ _ _ _|exact ih1 _ _ _ _ _ _ _ _ _ _|exact LeO.refl _|exact LeO.none _|refine LeO.ite ?_ ?_|refine LeO.bind ?_ (fun _=>?_))|exact ih0 _ _ _ _ _ _ _|exact ih1 _ _ _ _ _ _ _ _ _ _|exact LeO.none _|refine LeO.ite ?_ ?_|refine LeO.bind ?_ (fun _=>?_)
theorem gridhallref4_PlanCost.mono : ∀ a0 a1 a2 a3 k, LeO (gridhallref4_PlanCost.f k a0 a1 a2 a3) (gridhallref4_PlanCost.f (k + 1) a0 a1 a2 a3) := by
 intro a0 a1 a2 a3 k
 obtain ⟨ih0, ih1⟩:=gridhallref4_PlanCost.mono_l k
 unfold gridhallref4_PlanCost.f
 repeat' first|(with_reducible first|exact ih0 _ _ _ _ _ _ _|exact ih1 _ _ _ _ _ _ _ _ _ _|exact LeO.refl _|exact LeO.none _|refine LeO.ite ?_ ?_|refine LeO.bind ?_ (fun _=>?_))|exact ih0 _ _ _ _ _ _ _|exact ih1 _ _ _ _ _ _ _ _ _ _|exact LeO.none _|refine LeO.ite ?_ ?_|refine LeO.bind ?_ (fun _=>?_)
set_option maxHeartbeats 8000000 in
set_option maxRecDepth 100000 in
theorem gridhallref4_PlanCost.calls (k : Nat) (A0_0 : Option Addr) (c0_0 : Nat) (l0_0 : List (S28)) (A0_1 : Option Addr) (c0_1 : Nat) (l0_1 : List (S29)) (a0_2 : Int) (A1 : Option Addr) (c1 : Nat) (l1 : List Int) (r : Int) (w : World) (hr0_0 : Kd.C k28 w A0_0 l0_0.length l0_0) (hc0_0 : l0_0.length ≤ c0_0) (hr0_1 : Kd.C k29 w A0_1 l0_1.length l0_1) (hc0_1 : l0_1.length ≤ c0_1) (hr1 : Kd.C (Kd.int .i64) w A1 l1.length l1) (hc1 : l1.length ≤ c1) (h : gridhallref4_PlanCost.f k l0_0 l0_1 a0_2 l1 = some r) :
  Calls Try.prog 13 #[.agg #[.slice A0_0 l0_0.length c0_0, .slice A0_1 l0_1.length c0_1, .int .i64 a0_2], .slice A1 l1.length c1] w fun e w' => e = .returned (.int .i64 r) ∧ Below w.heap.size w w' := by
 have hu25:=Try.underlying25;have HR0_0:=k0_ hr0_0;have HC0_0:=k0_ hc0_0;clear hr0_0 hc0_0;have HR0_1:=k0_ hr0_1;have HC0_1:=k0_ hc0_1;clear hr0_1 hc0_1;have HR1:=k0_ hr1;have HC1:=k0_ hc1;clear hr1 hc1;have HB:=k0_ (Below.refl w.heap.size w);have H : (gridhallref4_PlanCost.l0 k 0 l1 (l1.length : Int) 0 l0_0 l0_1 a0_2) = some r:=h;clear h;have H':=k0_ H;clear H
 go_enter Try.func13, Try.ntmps13
 go_wp2_with (first|((with_reducible refine gate_dst (N:=2) rfl ?_);refine box_event ?hg (N:=2) ?hd (cs:=#[.slice A0_0 l0_0.length c0_0, .slice A0_1 l0_1.length c0_1, .int .i64 a0_2]) (t:=25) ?hr ?_;(case hd=>rfl);(case hg=>rfl);(case hr=>first|(go_simp;done)|(go_simp;rfl));intro gb143 hg w3 hbox hb;have BK143:=k0_ (hbox);have GW143:=k0_ ((by rw [hg];exact (below_size (hb0_ HB.out)) : w.heap.size ≤ gb143));have GE143:=k0_ ((by rw [hg];exact (below_size (hb0_ HB.out)) : w.heap.size ≤ gb143));replace HB:=k0_ (below_step (hb0_ HB.out) hb);clear hb hbox hg))
 (try simp only [Act.put, q1_,q3_,q2_])
 go_loopg [5, 10] k (fun kq v5 v10 w'=>∃ (x5_1 : Int) (x10_1 : Int), v5 = .int .i64 x5_1∧v10 = .int .i64 x10_1∧Aside0 (gridhallref4_PlanCost.l0 kq x5_1 l1 (l1.length : Int) x10_1 l0_0 l0_1 a0_2 = some r)∧Aside0 (kq ≤ k)∧Aside0 (w'.heap[gb143]? = some (.cells #[(.slice A0_0 l0_0.length c0_0),(.slice A0_1 l0_1.length c0_1), .int .i64 a0_2] 25 (0, 0)))∧Aside0 (Below w.heap.size w w'))
 case atStart=>exact ⟨(0),(0),rs_,rs_, H', ⟨Nat.le_refl _⟩,⟨bq_ BK143.out⟩,⟨hb1_ HB.out GE143.out⟩⟩
 clear H';(try clear c1);(try clear p2);obtain ⟨x5_1, x10_1, rfl, rfl, HA, HK1, BK143, HB⟩:=hrel;obtain _|k1:=gk
 ·exact absurd HA.out (by simp [gridhallref4_PlanCost.l0])
 have H:=HA.out;clear HA;simp only [gridhallref4_PlanCost.l0] at H
 by_cases c4 : x10_1 < (l1.length : Int)
 ·rw [if_pos c4] at H
  have c4b0:=decide_eq_true c4;clear c4
  obtain ⟨c5,H⟩:=gi_ H;have c5b0:=decide_eq_true c5;clear c5
  obtain ⟨c6,H⟩:=gi_ H;have c6b0:=decide_eq_true c6;clear c6
  obtain ⟨c7,H⟩:=gi_ H;have c7b0:=decide_eq_true c7;clear c7;have H':=k0_ H;clear H;have p144 : 0 ≤ (x10_1 : Int):=of_decide_eq_true as_;have q144 : x10_1 < (l1.length : Int):=of_decide_eq_true as_;obtain ⟨ad144, e144, hx144_0⟩:=Kd.at_int HR1.out x10_1 p144 q144;cases e144;replace hx144_0:=bt_ HB.out hx144_0;replace p144:=eq_true p144;replace q144:=eq_true q144;obtain ⟨hcz8_0,hcz8_1,hcz8_2⟩:=bc3_ BK143.out;obtain ⟨hfz8_0,hfz8_1,hfz8_2⟩:=bf3_ BK143.out;have p145 : 0 ≤ (x10_1 : Int):=of_decide_eq_true as_;have q145 : x10_1 < (l0_0.length : Int):=of_decide_eq_true as_;obtain ⟨ad145, e145, hx145_0, hx145_1, hx145_2, hx145_3, hx145_4⟩:=at_T28 HR0_0.out x10_1 p145 q145;cases e145;replace hx145_0:=bt_ HB.out hx145_0;replace hx145_1:=bt_ HB.out hx145_1;replace hx145_2:=bt_ HB.out hx145_2;replace hx145_3:=bt_ HB.out hx145_3;replace hx145_4:=bt_ HB.out hx145_4;replace p145:=eq_true p145;replace q145:=eq_true q145;go_wp2;(try simp only [Act.put, q1_,q3_,q2_])
  go_loopg [5, 23] k1 (fun kq v5 v23 w'=>∃ (x5_2 : Int) (x23_2 : Int), v5 = .int .i64 x5_2∧v23 = .int .i64 x23_2∧Aside0 (gridhallref4_PlanCost.l1 kq x5_2 x10_1 l1 (l1.length : Int) x10_1 (wrap64 ((rd l1 x10_1) - ((rd_T28 l0_0 x10_1).f2))) x23_2 l0_0 l0_1 a0_2 = some r)∧Aside0 (kq ≤ k1)∧Aside0 (w'.heap[gb143]? = some (.cells #[(.slice (some ad145) l0_0.length c0_0),(.slice A0_1 l0_1.length c0_1), .int .i64 a0_2] 25 (0, 0)))∧Aside0 (Below w.heap.size w w'))
  case atStart=>exact ⟨(x5_1),(0),rs_,rs_, H', ⟨Nat.le_refl _⟩,⟨bq_ BK143.out⟩,⟨hb1_ HB.out GE143.out⟩⟩
  clear H';(try clear c1);(try clear p1);(try clear q1);(try clear hx1);(try clear p2);(try clear c4);(try clear c4b0);(try clear c5);(try clear c5b0);(try clear c6);(try clear c6b0);(try clear p6);(try clear c7);(try clear c7b0);(try clear hcz8_0);(try clear hcz8_1);(try clear hcz8_2);(try clear hfz8_0);(try clear hfz8_1);(try clear hfz8_2);(try clear hx144_0);(try clear hx145_0);(try clear hx145_1);(try clear hx145_2);(try clear hx145_3);(try clear hx145_4);(try clear p144);(try clear p145);(try clear p2);(try clear q144);(try clear q145);obtain ⟨x5_2, x23_2, rfl, rfl, HA, HK2, BK143, HB⟩:=hrel;obtain _|k2:=gk
  ·exact absurd HA.out (by simp [gridhallref4_PlanCost.l1])
  have H:=HA.out;clear HA;simp only [gridhallref4_PlanCost.l1] at H
  by_cases c9 : x23_2 < (wrap64 ((rd l1 x10_1) - ((rd_T28 l0_0 x10_1).f2)))
  ·rw [if_pos c9] at H
   have c9b0:=decide_eq_true c9;clear c9
   obtain ⟨c10,H⟩:=gi_ H;have c10b0:=decide_eq_true c10;clear c10
   obtain ⟨c11,H⟩:=gi_ H;have c11b0:=decide_eq_true c11;clear c11;have H':=k0_ H;clear H;obtain ⟨hcz12_0,hcz12_1,hcz12_2⟩:=bc3_ BK143.out;obtain ⟨hfz12_0,hfz12_1,hfz12_2⟩:=bf3_ BK143.out;have p146 : 0 ≤ (x10_1 : Int):=of_decide_eq_true as_;have q146 : x10_1 < (l0_0.length : Int):=of_decide_eq_true as_;obtain ⟨ad146, e146, hx146_0, hx146_1, hx146_2, hx146_3, hx146_4⟩:=at_T28 HR0_0.out x10_1 p146 q146;obtain rfl : ad145 = ad146:=(by injection e146);replace hx146_0:=bt_ HB.out hx146_0;replace hx146_1:=bt_ HB.out hx146_1;replace hx146_2:=bt_ HB.out hx146_2;replace hx146_3:=bt_ HB.out hx146_3;replace hx146_4:=bt_ HB.out hx146_4;replace p146:=eq_true p146;replace q146:=eq_true q146;go_wp2
   go_roundg k2
   case measure=>have:=HK1.out;have:=HK2.out;omega
   case rel=>exact ⟨(wrap64 (x5_2 + ((rd_T28 l0_0 x10_1).f4))),(wrap64 (x23_2 + 1)),rs_,rs_, H', ⟨by have:=HK1.out;have:=HK2.out;omega⟩,⟨bq_ BK143.out⟩,⟨hb1_ HB.out GE143.out⟩⟩
  ·rw [if_neg c9] at H
   have c9b0:=decide_eq_false c9;clear c9;have H':=k0_ H;clear H;go_wp2
   go_roundg k2
   case measure=>have:=HK1.out;have:=HK2.out;omega
   case rel=>exact ⟨(x5_2),(wrap64 (x10_1 + 1)),rs_,rs_, H', ⟨by have:=HK1.out;have:=HK2.out;omega⟩,⟨bq_ BK143.out⟩,⟨hb1_ HB.out GE143.out⟩⟩
 ·rw [if_neg c4] at H
  have c4b0:=decide_eq_false c4;clear c4;obtain rfl:=Option.some.inj H;go_wp2
  go_ret
  exact ⟨er_, hb1_ HB.out GE143.out⟩

/-! ### upkeep_named: function 62 -/
def upkeep_named.l0 : Nat → ByteArray → List Int → Int → Int → Option (Bool)
 | 0, _, _, _, _ => none
 | k + 1, x0, x6, x7, x8 => if x8 < x7 then (if 0 ≤ x8 then (if x8 < (x6.length : Int) then (if (rd x6 x8) ≥ 65 then (if (rd x6 x8) ≤ 90 then (upkeep_named.l0 k x0 x6 x7 (wrap64 (x8 + 1))) else (if x8 > 0 then (if (rd x6 x8) ≥ 48 then (if ((rd x6 x8) ≤ 57) then (upkeep_named.l0 k x0 x6 x7 (wrap64 (x8 + 1))) else (some false)) else (some false)) else (some false))) else (if x8 > 0 then (if (rd x6 x8) ≥ 48 then (if ((rd x6 x8) ≤ 57) then (upkeep_named.l0 k x0 x6 x7 (wrap64 (x8 + 1))) else (some false)) else (some false)) else (some false))) else (none)) else (none)) else (if x0.toList = ([] : List UInt8) then (some false) else (some (decide ((x0.size : Int) ≤ 8))))
def upkeep_named.f (k : Nat) (a0 : ByteArray) : Option (Bool) := if a0.size ≤ 9223372036854775807 then (upkeep_named.l0 k a0 (bytesOf a0) ((bytesOf a0).length : Int) 0) else (none)
theorem upkeep_named.mono_l : ∀ k, (∀ y0 y1 y2 y3, LeO (upkeep_named.l0 k y0 y1 y2 y3) (upkeep_named.l0 (k + 1) y0 y1 y2 y3))
 | 0 => fun _ _ _ _ r h => by simp [upkeep_named.l0] at h
 | k + 1 => by
  have ih0:=upkeep_named.mono_l k
  ·intro y0 y1 y2 y3
   unfold upkeep_named.l0
   repeat' first|(with_reducible first|exact ih0 _ _ _ _|exact LeO.refl _|exact LeO.none _|refine LeO.ite ?_ ?_|refine LeO.bind ?_ (fun _=>?_))|exact ih0 _ _ _ _|exact LeO.none _|refine LeO.ite ?_ ?_|refine LeO.bind ?_ (fun _=>?_)
theorem upkeep_named.mono : ∀ a0 k, LeO (upkeep_named.f k a0) (upkeep_named.f (k + 1) a0) := by
 intro a0 k
 have ih0:=upkeep_named.mono_l k
 unfold upkeep_named.f
 repeat' first|(with_reducible first|exact ih0 _ _ _ _|exact LeO.refl _|exact LeO.none _|refine LeO.ite ?_ ?_|refine LeO.bind ?_ (fun _=>?_))|exact ih0 _ _ _ _|exact LeO.none _|refine LeO.ite ?_ ?_|refine LeO.bind ?_ (fun _=>?_)
set_option maxHeartbeats 8000000 in
set_option maxRecDepth 100000 in
theorem upkeep_named.calls (k : Nat) (a0 : ByteArray) (r : Bool) (w : World) (h : upkeep_named.f k a0 = some r) :
  Calls Try.prog 62 #[.string a0] w fun e w' => e = .returned (.bool r) ∧ Below w.heap.size w w' := by
 have HB:=k0_ (Below.refl w.heap.size w);have H : (if a0.size ≤ 9223372036854775807 then (upkeep_named.l0 k a0 (bytesOf a0) ((bytesOf a0).length : Int) 0) else (none)) = some r:=h;clear h
 by_cases c2 : a0.size ≤ 9223372036854775807
 ·rw [if_pos c2] at H
  have c2b0:=eq_true c2;have c2b1:=decide_eq_true c2;(try have c2b2 : (9223372036854775807 < a0.size) = False:=eq_false (Nat.not_lt.2 c2));clear c2;have H':=k0_ H;clear H
  go_enter Try.func62, Try.ntmps62
  go_wp2_with (first|((with_reducible refine gate_dst (N:=6) rfl ?_);(try (refine gate_guard (by rfl) ?_;dsimp only));refine bytes_event ?hg (N:=6) ?hd 9 142 5 (.tmp 5) a0 ?ho ?hx Try.underlying9 Try.underlying142 Try.underlying5 ?hs ?_;(case hd=>rfl);(case hg=>rfl);(case ho=>rfl);(case hx=>rfl);(case hs=>exact of_decide_eq_true as_);intro A147_0 c147_0 hl_ w3 hc_ hb;replace HB:=k0_ (below_step (hb0_ HB.out) hb);have HR147_0:=k0_ (hc_);have HC147_0:=k0_ (hl_);clear hb hc_ hl_))
  (try simp only [Act.put, q1_,q3_,q2_])
  go_loopg [8] k (fun kq v8 w'=>∃ (x8_1 : Int), v8 = .int .i64 x8_1∧Aside0 (upkeep_named.l0 kq a0 (bytesOf a0) ((bytesOf a0).length : Int) x8_1 = some r)∧Aside0 (kq ≤ k)∧Aside0 (Kd.C (Kd.int .u8) w' A147_0 (bytesOf a0).length (bytesOf a0))∧Aside0 (Below w.heap.size w w'))
  case atStart=>exact ⟨(0),rs_, H', ⟨Nat.le_refl _⟩,⟨by repeat (first|(with_reducible exact HR147_0.out)|(with_reducible refine Kd.C_alloc ?_ _)|(with_reducible refine Kd.C_drewN ?_ _)|(with_reducible refine Kd.C_drew ?_)|exact HR147_0.out)⟩,⟨hb0_ HB.out⟩⟩
  clear H';(try clear c1);(try clear c2);(try clear c2b0);(try clear c2b1);(try clear c2b2);(try clear p2);obtain ⟨x8_1, rfl, HA, HK1, HR147_0, HB⟩:=hrel;obtain _|k1:=gk
  ·exact absurd HA.out (by simp [upkeep_named.l0])
  have H:=HA.out;clear HA;simp only [upkeep_named.l0] at H
  by_cases c4 : x8_1 < ((bytesOf a0).length : Int)
  ·rw [if_pos c4] at H
   have c4b0:=decide_eq_true c4;clear c4
   by_cases c5 : 0 ≤ x8_1
   rw [if_pos c5] at H;have c5b0:=decide_eq_true c5;clear c5
   focus
    by_cases c6 : x8_1 < ((bytesOf a0).length : Int)
    rw [if_pos c6] at H;have c6b0:=decide_eq_true c6;clear c6
    focus
     by_cases c7 : (rd (bytesOf a0) x8_1) ≥ 65
     rw [if_pos c7] at H;have c7b0:=decide_eq_true c7;clear c7
     focus
      by_cases c8 : (rd (bytesOf a0) x8_1) ≤ 90
      rw [if_pos c8] at H;have c8b0:=decide_eq_true c8;clear c8;have H':=k0_ H;clear H;rotate_left;rw [if_neg c8] at H;have c8b0:=decide_eq_false c8;clear c8
      focus
       by_cases c9 : x8_1 > 0
       rw [if_pos c9] at H;have c9b0:=decide_eq_true c9;clear c9
       focus
        by_cases c10 : (rd (bytesOf a0) x8_1) ≥ 48
        rw [if_pos c10] at H;have c10b0:=decide_eq_true c10;clear c10
        focus
         by_cases c11 : ((rd (bytesOf a0) x8_1) ≤ 57)
         rw [if_pos c11] at H;have c11b0:=decide_eq_true c11;clear c11;have H':=k0_ H;clear H;rotate_left;rw [if_neg c11] at H;have c11b0:=decide_eq_false c11;clear c11;obtain rfl:=Option.some.inj H;rotate_left
        rotate_left 2;rw [if_neg c10] at H;have c10b0:=decide_eq_false c10;clear c10;obtain rfl:=Option.some.inj H;rotate_left
       rotate_left 3;rw [if_neg c9] at H;have c9b0:=decide_eq_false c9;clear c9;obtain rfl:=Option.some.inj H;rotate_left
      rotate_left 4
     rotate_left 5;rw [if_neg c7] at H;have c7b0:=decide_eq_false c7;clear c7
     focus
      by_cases c12 : x8_1 > 0
      rw [if_pos c12] at H;have c12b0:=decide_eq_true c12;clear c12
      focus
       by_cases c13 : (rd (bytesOf a0) x8_1) ≥ 48
       rw [if_pos c13] at H;have c13b0:=decide_eq_true c13;clear c13
       focus
        by_cases c14 : ((rd (bytesOf a0) x8_1) ≤ 57)
        rw [if_pos c14] at H;have c14b0:=decide_eq_true c14;clear c14;have H':=k0_ H;clear H;rotate_left;rw [if_neg c14] at H;have c14b0:=decide_eq_false c14;clear c14;obtain rfl:=Option.some.inj H;rotate_left
       rotate_left 2;rw [if_neg c13] at H;have c13b0:=decide_eq_false c13;clear c13;obtain rfl:=Option.some.inj H;rotate_left
      rotate_left 3;rw [if_neg c12] at H;have c12b0:=decide_eq_false c12;clear c12;obtain rfl:=Option.some.inj H;rotate_left
     rotate_left 4
    rotate_left 9;rw [if_neg c6] at H
    exact absurd H (by simp)
   rotate_left 9;rw [if_neg c5] at H
   exact absurd H (by simp)
   all_goals
    have p148 : 0 ≤ (x8_1 : Int):=of_decide_eq_true as_;have q148 : x8_1 < ((bytesOf a0).length : Int):=of_decide_eq_true as_;obtain ⟨ad148, e148, hx148_0⟩:=Kd.at_int (by repeat (first|(with_reducible exact HR147_0.out)|(with_reducible refine Kd.C_alloc ?_ _)|(with_reducible refine Kd.C_drewN ?_ _)|(with_reducible refine Kd.C_drew ?_)|exact HR147_0.out)) x8_1 p148 q148;cases e148;replace p148:=eq_true p148;replace q148:=eq_true q148;go_wp2
   ·go_roundg k1
    case measure=>have:=HK1.out;omega
    case rel=>exact ⟨(wrap64 (x8_1 + 1)),rs_, H', ⟨by have:=HK1.out;omega⟩,⟨by repeat (first|(with_reducible exact HR147_0.out)|(with_reducible refine Kd.C_alloc ?_ _)|(with_reducible refine Kd.C_drewN ?_ _)|(with_reducible refine Kd.C_drew ?_)|exact HR147_0.out)⟩,⟨hb0_ HB.out⟩⟩
   ·go_roundg k1
    case measure=>have:=HK1.out;omega
    case rel=>exact ⟨(wrap64 (x8_1 + 1)),rs_, H', ⟨by have:=HK1.out;omega⟩,⟨by repeat (first|(with_reducible exact HR147_0.out)|(with_reducible refine Kd.C_alloc ?_ _)|(with_reducible refine Kd.C_drewN ?_ _)|(with_reducible refine Kd.C_drew ?_)|exact HR147_0.out)⟩,⟨hb0_ HB.out⟩⟩
   ·go_ret
    exact ⟨er_, hb0_ HB.out⟩
   ·go_ret
    exact ⟨er_, hb0_ HB.out⟩
   ·go_ret
    exact ⟨er_, hb0_ HB.out⟩
   ·go_roundg k1
    case measure=>have:=HK1.out;omega
    case rel=>exact ⟨(wrap64 (x8_1 + 1)),rs_, H', ⟨by have:=HK1.out;omega⟩,⟨by repeat (first|(with_reducible exact HR147_0.out)|(with_reducible refine Kd.C_alloc ?_ _)|(with_reducible refine Kd.C_drewN ?_ _)|(with_reducible refine Kd.C_drew ?_)|exact HR147_0.out)⟩,⟨hb0_ HB.out⟩⟩
   ·go_ret
    exact ⟨er_, hb0_ HB.out⟩
   ·go_ret
    exact ⟨er_, hb0_ HB.out⟩
   ·go_ret
    exact ⟨er_, hb0_ HB.out⟩
  ·rw [if_neg c4] at H
   have c4b0:=decide_eq_false c4;clear c4
   by_cases c15 : a0.toList = ([] : List UInt8)
   ·rw [if_pos c15] at H
    have c15b0:=beq_iff_eq.mpr c15;have c15b1:=bne_eq_false_iff_eq.mpr c15;clear c15;obtain rfl:=Option.some.inj H;go_wp2
    go_ret
    exact ⟨er_, hb0_ HB.out⟩
   ·rw [if_neg c15] at H
    have c15b0:=beq_eq_false_iff_ne.mpr c15;have c15b1:=bne_iff_ne.mpr c15;obtain rfl:=Option.some.inj H;go_wp2
    go_ret
    exact ⟨er_, hb0_ HB.out⟩
 ·rw [if_neg c2] at H
  exact absurd H (by simp)

-- NOT PRINTED: function 90 (api_UpkeepJob_90)

-- NOT PRINTED: function 63 (api_UpkeepJob_63)

/-! ### upkeep_Check_1: function 64 -/
def upkeep_Check_1.f (a0_0 : ByteArray) (a0_1 : Int) (a0_2 : Int) (a0_3 : Int) (a0_4 : Int) (l1 : List (S28)) : Option (Bool) := if 0 < (l1.length : Int) then (some (a0_0.toList == ((rd_T28 l1 0).f0).toList)) else (none)
set_option maxHeartbeats 8000000 in
set_option maxRecDepth 100000 in
theorem upkeep_Check_1.calls (a0_0 : ByteArray) (a0_1 : Int) (a0_2 : Int) (a0_3 : Int) (a0_4 : Int) (A1 : Option Addr) (l1 : List (S28)) (r : Bool) (w : World) (hr1 : Kd.C k28 w A1 l1.length l1) (h : upkeep_Check_1.f a0_0 a0_1 a0_2 a0_3 a0_4 l1 = some r) :
  Calls Try.prog 64 #[.agg #[.string a0_0, .int .i64 a0_1, .int .i64 a0_2, .int .i64 a0_3, .int .i64 a0_4], .pointer A1] w fun e w' => e = .returned (.bool r) ∧ Below w.heap.size w w' := by
 have hu28:=Try.underlying28;have HR1:=k0_ hr1;clear hr1;have HB:=k0_ (Below.refl w.heap.size w);have H : (if 0 < (l1.length : Int) then (some (a0_0.toList == ((rd_T28 l1 0).f0).toList)) else (none)) = some r:=h;clear h
 by_cases c3 : 0 < (l1.length : Int)
 ·rw [if_pos c3] at H
  have c3b0:=decide_eq_true c3;have c3b1 : decide (0 < l1.length) = true:=decide_eq_true (by omega);clear c3;obtain rfl:=Option.some.inj H
  go_enter Try.func64, Try.ntmps64
  go_wp2_with (first|((with_reducible refine gate_dst (N:=2) rfl ?_);refine box_event ?hg (N:=2) ?hd (cs:=#[.string a0_0, .int .i64 a0_1, .int .i64 a0_2, .int .i64 a0_3, .int .i64 a0_4]) (t:=28) ?hr ?_;(case hd=>rfl);(case hg=>rfl);(case hr=>first|(go_simp;done)|(go_simp;rfl));intro gb149 hg w4 hbox hb;have BK149:=k0_ (hbox);have GW149:=k0_ ((by rw [hg];exact (below_size (hb0_ HB.out)) : w.heap.size ≤ gb149));have GE149:=k0_ ((by rw [hg];exact (below_size (hb0_ HB.out)) : w.heap.size ≤ gb149));replace HB:=k0_ (below_step (hb0_ HB.out) hb);clear hb hbox hg;obtain ⟨hcz5_0,hcz5_1,hcz5_2,hcz5_3,hcz5_4⟩:=bc5_ BK149.out;obtain ⟨hfz5_0,hfz5_1,hfz5_2,hfz5_3,hfz5_4⟩:=bf5_ BK149.out;have p150 : 0 ≤ (0 : Int):=(by omega);have q150 : 0 < (l1.length : Int):=of_decide_eq_true as_;obtain ⟨ad150, e150, hx150_0, hx150_1, hx150_2, hx150_3, hx150_4⟩:=at_T28 HR1.out 0 p150 q150;cases e150;have qi150 : (0 < l1.length) = True:=eq_true (by omega);(try rw [show ((0 : Int)).toNat = 0 from rfl] at hx150_0);(try rw [show 0 * 5 = 0 from rfl] at hx150_0);(try rw [Addr.add_zero'] at hx150_0);(try rw [show ((0 : Int)).toNat = 0 from rfl] at hx150_1);(try rw [show 0 * 5 = 0 from rfl] at hx150_1);(try rw [Addr.add_zero'] at hx150_1);(try rw [show ((0 : Int)).toNat = 0 from rfl] at hx150_2);(try rw [show 0 * 5 = 0 from rfl] at hx150_2);(try rw [Addr.add_zero'] at hx150_2);(try rw [show ((0 : Int)).toNat = 0 from rfl] at hx150_3);(try rw [show 0 * 5 = 0 from rfl] at hx150_3);(try rw [Addr.add_zero'] at hx150_3);(try rw [show ((0 : Int)).toNat = 0 from rfl] at hx150_4);(try rw [show 0 * 5 = 0 from rfl] at hx150_4);(try rw [Addr.add_zero'] at hx150_4);replace hx150_0:=bt_ HB.out hx150_0;replace hx150_1:=bt_ HB.out hx150_1;replace hx150_2:=bt_ HB.out hx150_2;replace hx150_3:=bt_ HB.out hx150_3;replace hx150_4:=bt_ HB.out hx150_4;replace p150:=eq_true p150;replace q150:=eq_true q150))
  go_ret
  exact ⟨er_, hb1_ HB.out GE149.out⟩
 ·rw [if_neg c3] at H
  exact absurd H (by simp)

/-! ### slices_IndexFunc_of_Check_1: function 131 -/
def slices_IndexFunc_of_Check_1.l0 : Nat → List (S28) → Int → Int → List (S28) → Option (Int)
 | 0, _, _, _, _ => none
 | k + 1, x0, x7, x8, x610 => if x8 < x7 then (if 0 ≤ x8 then (if x8 < (x0.length : Int) then ((upkeep_Check_1.f ((rd_T28 x0 x8).f0) ((rd_T28 x0 x8).f1) ((rd_T28 x0 x8).f2) ((rd_T28 x0 x8).f3) ((rd_T28 x0 x8).f4) x610).bind fun t152 => (if t152 = true then (some x8) else (slices_IndexFunc_of_Check_1.l0 k x0 x7 (wrap64 (x8 + 1)) x610))) else (none)) else (none)) else (some (-1))
def slices_IndexFunc_of_Check_1.f (k : Nat) (l0 : List (S28)) (l1_0 : List (S28)) : Option (Int) := slices_IndexFunc_of_Check_1.l0 k l0 (l0.length : Int) 0 l1_0
theorem slices_IndexFunc_of_Check_1.mono_l : ∀ k, (∀ y0 y1 y2 y3, LeO (slices_IndexFunc_of_Check_1.l0 k y0 y1 y2 y3) (slices_IndexFunc_of_Check_1.l0 (k + 1) y0 y1 y2 y3))
 | 0 => fun _ _ _ _ r h => by simp [slices_IndexFunc_of_Check_1.l0] at h
 | k + 1 => by
  have ih0:=slices_IndexFunc_of_Check_1.mono_l k
  ·intro y0 y1 y2 y3
   unfold slices_IndexFunc_of_Check_1.l0
   repeat' first|(with_reducible first|exact ih0 _ _ _ _|exact LeO.refl _|exact LeO.none _|refine LeO.ite ?_ ?_|refine LeO.bind ?_ (fun _=>?_))|exact ih0 _ _ _ _|exact LeO.none _|refine LeO.ite ?_ ?_|refine LeO.bind ?_ (fun _=>?_)
theorem slices_IndexFunc_of_Check_1.mono : ∀ a0 a1 k, LeO (slices_IndexFunc_of_Check_1.f k a0 a1) (slices_IndexFunc_of_Check_1.f (k + 1) a0 a1) := by
 intro a0 a1 k
 have ih0:=slices_IndexFunc_of_Check_1.mono_l k
 unfold slices_IndexFunc_of_Check_1.f
 repeat' first|(with_reducible first|exact ih0 _ _ _ _|exact LeO.refl _|exact LeO.none _|refine LeO.ite ?_ ?_|refine LeO.bind ?_ (fun _=>?_))|exact ih0 _ _ _ _|exact LeO.none _|refine LeO.ite ?_ ?_|refine LeO.bind ?_ (fun _=>?_)
set_option maxHeartbeats 8000000 in
set_option maxRecDepth 100000 in
theorem slices_IndexFunc_of_Check_1.calls (k : Nat) (A0 : Option Addr) (c0 : Nat) (l0 : List (S28)) (A1_0 : Option Addr) (l1_0 : List (S28)) (r : Int) (w : World) (hr0 : Kd.C k28 w A0 l0.length l0) (hc0 : l0.length ≤ c0) (hr1_0 : Kd.C k28 w A1_0 l1_0.length l1_0) (h : slices_IndexFunc_of_Check_1.f k l0 l1_0 = some r) :
  Calls Try.prog 90 #[.slice A0 l0.length c0, .func (.func 64) #[] #[.pointer A1_0]] w fun e w' => e = .returned (.int .i64 r) ∧ Below w.heap.size w w' := by
 have hu28:=Try.underlying28;have HR0:=k0_ hr0;have HC0:=k0_ hc0;clear hr0 hc0;have HR1_0:=k0_ hr1_0;clear hr1_0;have HB:=k0_ (Below.refl w.heap.size w);have H : (slices_IndexFunc_of_Check_1.l0 k l0 (l0.length : Int) 0 l1_0) = some r:=h;clear h;have H':=k0_ H;clear H
 go_enter Try.func90, Try.ntmps90
 go_wp2;(try simp only [Act.put, q1_,q3_,q2_])
 go_loopg [8] k (fun kq v8 w'=>∃ (x8_1 : Int), v8 = .int .i64 x8_1∧Aside0 (slices_IndexFunc_of_Check_1.l0 kq l0 (l0.length : Int) x8_1 l1_0 = some r)∧Aside0 (kq ≤ k)∧Aside0 (Below w.heap.size w w'))
 case atStart=>exact ⟨(0),rs_, H', ⟨Nat.le_refl _⟩,⟨hb0_ HB.out⟩⟩
 clear H';(try clear p2);obtain ⟨x8_1, rfl, HA, HK1, HB⟩:=hrel;obtain _|k1:=gk
 ·exact absurd HA.out (by simp [slices_IndexFunc_of_Check_1.l0])
 have H:=HA.out;clear HA;simp only [slices_IndexFunc_of_Check_1.l0] at H
 by_cases c3 : x8_1 < (l0.length : Int)
 ·rw [if_pos c3] at H
  have c3b0:=decide_eq_true c3;clear c3
  by_cases c4 : 0 ≤ x8_1
  rw [if_pos c4] at H;have c4b0:=decide_eq_true c4;clear c4
  focus
   by_cases c5 : x8_1 < (l0.length : Int)
   rw [if_pos c5] at H;have c5b0:=decide_eq_true c5;clear c5;replace H:=Option.bind_eq_some_iff.mp H;obtain ⟨t152, A60, H⟩:=H;replace H : (if t152 = true then (some x8_1) else (slices_IndexFunc_of_Check_1.l0 k1 l0 (l0.length : Int) (wrap64 (x8_1 + 1)) l1_0)) = some r:=H;have A6:=k0_ A60;clear A60
   focus
    by_cases c7 : t152 = true
    subst c7;have H1 : (some x8_1) = some r:=by rw [if_pos rfl] at H;exact H
    clear H;have H:=H1;clear H1;obtain rfl:=Option.some.inj H;rotate_left;replace c7:=Bool.eq_false_iff.mpr c7;subst c7;have H1 : (slices_IndexFunc_of_Check_1.l0 k1 l0 (l0.length : Int) (wrap64 (x8_1 + 1)) l1_0) = some r:=by rw [if_neg (show ¬ (false = true) by decide)] at H;exact H
    clear H;have H:=H1;clear H1;have H':=k0_ H;clear H;rotate_left
   rotate_left 2;rw [if_neg c5] at H
   exact absurd H (by simp)
  rotate_left 2;rw [if_neg c4] at H
  exact absurd H (by simp)
  all_goals
   have p151 : 0 ≤ (x8_1 : Int):=of_decide_eq_true as_;have q151 : x8_1 < (l0.length : Int):=of_decide_eq_true as_;obtain ⟨ad151, e151, hx151_0, hx151_1, hx151_2, hx151_3, hx151_4⟩:=at_T28 HR0.out x8_1 p151 q151;cases e151;replace hx151_0:=bt_ HB.out hx151_0;replace hx151_1:=bt_ HB.out hx151_1;replace hx151_2:=bt_ HB.out hx151_2;replace hx151_3:=bt_ HB.out hx151_3;replace hx151_4:=bt_ HB.out hx151_4;replace p151:=eq_true p151;replace q151:=eq_true q151
  ·go_wp2_with (first|(go_at_call 64;(with_reducible refine (upkeep_Check_1.calls ((rd_T28 l0 x8_1).f0) ((rd_T28 l0 x8_1).f1) ((rd_T28 l0 x8_1).f2) ((rd_T28 l0 x8_1).f3) ((rd_T28 l0 x8_1).f4) _ l1_0 true _ ?side1 A6.out).mono ?_);(case side1=>repeat (first|exact (Kd.C_below HR1_0.out HB.out)|(with_reducible refine Kd.C_alloc ?_ _)|(with_reducible refine Kd.C_drewN ?_ _)|(with_reducible refine Kd.C_drew ?_)));rintro e w8 ⟨rfl, hb⟩;replace HB:=k0_ (below_step (hb0_ HB.out) hb);(try clear hb);(try clear hb2);(try clear hk);(try clear hi)))
   go_ret
   exact ⟨er_, hb0_ HB.out⟩
  ·go_wp2_with (first|(go_at_call 64;(with_reducible refine (upkeep_Check_1.calls ((rd_T28 l0 x8_1).f0) ((rd_T28 l0 x8_1).f1) ((rd_T28 l0 x8_1).f2) ((rd_T28 l0 x8_1).f3) ((rd_T28 l0 x8_1).f4) _ l1_0 false _ ?side1 A6.out).mono ?_);(case side1=>repeat (first|exact (Kd.C_below HR1_0.out HB.out)|(with_reducible refine Kd.C_alloc ?_ _)|(with_reducible refine Kd.C_drewN ?_ _)|(with_reducible refine Kd.C_drew ?_)));rintro e w9 ⟨rfl, hb⟩;replace HB:=k0_ (below_step (hb0_ HB.out) hb);(try clear hb);(try clear hb2);(try clear hk);(try clear hi)))
   go_roundg k1
   case measure=>have:=HK1.out;omega
   case rel=>exact ⟨(wrap64 (x8_1 + 1)),rs_, H', ⟨by have:=HK1.out;omega⟩,⟨hb0_ HB.out⟩⟩
 ·rw [if_neg c3] at H
  have c3b0:=decide_eq_false c3;clear c3;obtain rfl:=Option.some.inj H;go_wp2
  go_ret
  exact ⟨er_, hb0_ HB.out⟩

/-! ### slices_ContainsFunc_of_Check_1: function 130 -/
def slices_ContainsFunc_of_Check_1.f (k : Nat) (l0 : List (S28)) (l1_0 : List (S28)) : Option (Bool) := (slices_IndexFunc_of_Check_1.f k l0 l1_0).bind fun t153 => (some (decide (t153 ≥ 0)))
theorem slices_ContainsFunc_of_Check_1.mono : ∀ a0 a1 k, LeO (slices_ContainsFunc_of_Check_1.f k a0 a1) (slices_ContainsFunc_of_Check_1.f (k + 1) a0 a1) := by
 intro a0 a1 k
 unfold slices_ContainsFunc_of_Check_1.f
 repeat' first|(with_reducible first|exact slices_IndexFunc_of_Check_1.mono _ _ _|exact LeO.refl _|exact LeO.none _|refine LeO.ite ?_ ?_|refine LeO.bind ?_ (fun _=>?_))|exact slices_IndexFunc_of_Check_1.mono _ _ _|exact LeO.none _|refine LeO.ite ?_ ?_|refine LeO.bind ?_ (fun _=>?_)
set_option maxHeartbeats 8000000 in
set_option maxRecDepth 100000 in
theorem slices_ContainsFunc_of_Check_1.calls (k : Nat) (A0 : Option Addr) (c0 : Nat) (l0 : List (S28)) (A1_0 : Option Addr) (l1_0 : List (S28)) (r : Bool) (w : World) (hr0 : Kd.C k28 w A0 l0.length l0) (hc0 : l0.length ≤ c0) (hr1_0 : Kd.C k28 w A1_0 l1_0.length l1_0) (h : slices_ContainsFunc_of_Check_1.f k l0 l1_0 = some r) :
  Calls Try.prog 63 #[.slice A0 l0.length c0, .func (.func 64) #[] #[.pointer A1_0]] w fun e w' => e = .returned (.bool r) ∧ Below w.heap.size w w' := by
 have HR0:=k0_ hr0;have HC0:=k0_ hc0;clear hr0 hc0;have HR1_0:=k0_ hr1_0;clear hr1_0;have HB:=k0_ (Below.refl w.heap.size w);have H : ((slices_IndexFunc_of_Check_1.f k l0 l1_0).bind fun t153=>(some (decide (t153 ≥ 0)))) = some r:=h;clear h;replace H:=Option.bind_eq_some_iff.mp H;obtain ⟨t153, A30, H⟩:=H;replace H : (some (decide (t153 ≥ 0))) = some r:=H;have A3:=k0_ A30;clear A30;obtain rfl:=Option.some.inj H
 go_enter Try.func63, Try.ntmps63
 go_wp2_with (first|((with_reducible refine gate_callee (f:=90) rfl ?_);refine goesL_ (some 7) rfl rfl Try.func90 (by kernel_rfl) rfl #[.slice A0 l0.length c0, .func (.func 64) #[] #[.pointer A1_0]] rfl mt_ ?_;(with_reducible refine (slices_IndexFunc_of_Check_1.calls k _ _ l0 _ l1_0 t153 _ ?side1 ?side2 ?side3 A3.out).mono ?_);(case side1=>repeat (first|exact HR0.out|(with_reducible refine Kd.C_alloc ?_ _)|(with_reducible refine Kd.C_drewN ?_ _)|(with_reducible refine Kd.C_drew ?_)));(case side2=>exact HC0.out);(case side3=>repeat (first|exact HR1_0.out|(with_reducible refine Kd.C_alloc ?_ _)|(with_reducible refine Kd.C_drewN ?_ _)|(with_reducible refine Kd.C_drew ?_)));rintro e w4 ⟨rfl, hb⟩;refine ⟨_, rfl, ?_⟩;replace HB:=k0_ (below_step (hb0_ HB.out) hb);(try clear hb);(try clear hb2);(try clear hk);(try clear hi)))
 go_ret
 exact ⟨er_, hb0_ HB.out⟩

end Go.Proofs.Ytielinaielicbaa.PUpkeepBest
