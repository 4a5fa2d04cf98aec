/- Contracts of functions that AlarmSays reaches, a text of this session's own. -/
import Derived.Test.YtefkdkppipdceaaBox2
import Derived.Test.YtefkdkppipdceaaHAlarmSaysy0
import Derived.Test.YtefkdkppipdceaaHAlarmSaysy8
namespace Go.Proofs.Ytefkdkppipdceaa.PAlarmSays
open Go.RowKit Go.Proofs.YtefkdkppipdceaaW.PrintWords Go.Proofs.YtefkdkppipdceaaW.PrintLast Go.Proofs.YtefkdkppipdceaaW.PrintMore
attribute [local go_sem] max2_int min2_int max_two min_two max_three min_three max_four min_four   -- for this text's walks alone
set_option linter.unusedVariables false
set_option linter.unusedSimpArgs false

/-! ### gridhallref4_Sorted: function 31 -/
theorem bgt_irr : ∀ x : List UInt8, Op.bytesLess x x = false := by
 intro x
 induction x with
 | nil => rfl
 | cons a x ih => simp [Op.bytesLess, ih]
theorem bgt_tri : ∀ x y : List UInt8, Op.bytesLess x y = true ∨ x = y ∨ Op.bytesLess y x = true := by
 intro x
 induction x with
 | nil =>
  intro y
  cases y with
  | nil => exact Or.inr (Or.inl rfl)
  | cons b y => exact Or.inl rfl
 | cons a x ih =>
  intro y
  cases y with
  | nil => exact Or.inr (Or.inr rfl)
  | cons b y =>
   simp only [Op.bytesLess, Bool.or_eq_true, Bool.and_eq_true, decide_eq_true_eq, beq_iff_eq, List.cons.injEq, UInt8.lt_iff_toNat_lt, ← UInt8.toNat_inj]
   rcases Nat.lt_trichotomy a.toNat b.toNat with h|h|h
   ·exact Or.inl (Or.inl h)
   ·rcases ih y with g|g|g
    ·exact Or.inl (Or.inr ⟨h, g⟩)
    ·exact Or.inr (Or.inl ⟨h, g⟩)
    ·exact Or.inr (Or.inr (Or.inr ⟨h.symm, g⟩))
   ·exact Or.inr (Or.inr (Or.inl h))
theorem bgt_asym : ∀ x y : List UInt8, Op.bytesLess x y = true → Op.bytesLess y x = false := by
 intro x
 induction x with
 | nil =>
  intro y h
  cases y with
  | nil => rfl
  | cons b y => rfl
 | cons a x ih =>
  intro y h
  cases y with
  | nil => simp [Op.bytesLess] at h
  | cons b y =>
   simp only [Op.bytesLess, Bool.or_eq_true, Bool.and_eq_true, decide_eq_true_eq, beq_iff_eq, UInt8.lt_iff_toNat_lt, ← UInt8.toNat_inj] at h
   refine Bool.eq_false_iff.2 fun g=>?_
   simp only [Op.bytesLess, Bool.or_eq_true, Bool.and_eq_true, decide_eq_true_eq, beq_iff_eq, UInt8.lt_iff_toNat_lt, ← UInt8.toNat_inj] at g
   rcases h with h|⟨h, h2⟩ <;> rcases g with g|⟨g, g2⟩
   ·omega
   ·omega
   ·omega
   ·rw [ih y h2] at g2;cases g2
theorem bgt_op (t : TypeId) (a b : ByteArray) : binOp .gtr t (.string a) (.string b) = pure (.bool (Op.bytesLess b.toList a.toList)) := by
 have e : (!(Op.bytesLess a.toList b.toList || a.toList == b.toList)) = Op.bytesLess b.toList a.toList:=by
  rcases bgt_tri a.toList b.toList with g|g|g
  ·rw [g, bgt_asym _ _ g];rfl
  ·rw [g, bgt_irr];simp
  ·rw [bgt_asym _ _ g, g]
   have : (a.toList == b.toList) = false:=by
    refine beq_eq_false_iff_ne.2 fun h=>?_
    rw [h, bgt_irr] at g
    cases g
   rw [this]
   rfl
 rw [← e]
 simp [binOp, Op.stringOp]
mutual
def gridhallref4_Sorted.l0 : Nat → List ByteArray → List ByteArray → Int → Int → Option (List ByteArray)
 | 0, _, _, _, _ => none
 | k + 1, x3, x8, x9, x10 => if x10 < x9 then (if 0 ≤ x10 then (if x10 < (x8.length : Int) then (gridhallref4_Sorted.l1 k x3 (rdOf ByteArray.empty x8 x10) (x3.length : Int) x8 x9 x10) else (none)) else (none)) else (some x3)
def gridhallref4_Sorted.j2 : Nat → List ByteArray → ByteArray → Int → List ByteArray → Int → Int → Option (List ByteArray)
 | 0, _, _, _, _, _, _ => none
 | k + 1, x3, x5, x6, x8, x9, x10 => if x3.length < 8796093022208 then ((some (x3 ++ [(⟨#[]⟩ : ByteArray)] : List ByteArray)).bind fun y225 => (gridhallref4_Sorted.l2 k y225 x5 x6 (wrap64 ((y225.length : Int) - 1)) x8 x9 x10)) else (none)
def gridhallref4_Sorted.l2 : Nat → List ByteArray → ByteArray → Int → Int → List ByteArray → Int → Int → Option (List ByteArray)
 | 0, _, _, _, _, _, _, _ => none
 | k + 1, x3, x5, x6, x7, x8, x9, x10 => if x7 > x6 then (if 0 ≤ (wrap64 (x7 - 1)) then (if (wrap64 (x7 - 1)) < (x3.length : Int) then (if 0 ≤ x7 then (if x7 < (x3.length : Int) then (gridhallref4_Sorted.l2 k (x3.set (x7 : Int).toNat (rdOf ByteArray.empty x3 (wrap64 (x7 - 1)))) x5 x6 (wrap64 (x7 - 1)) x8 x9 x10) else (none)) else (none)) else (none)) else (none)) else (if 0 ≤ x6 then (if x6 < (x3.length : Int) then (gridhallref4_Sorted.l0 k (x3.set (x6 : Int).toNat x5) x8 x9 (wrap64 (x10 + 1))) else (none)) else (none))
def gridhallref4_Sorted.l1 : Nat → List ByteArray → ByteArray → Int → List ByteArray → Int → Int → Option (List ByteArray)
 | 0, _, _, _, _, _, _ => none
 | k + 1, x3, x5, x6, x8, x9, x10 => if x6 > 0 then (if 0 ≤ (wrap64 (x6 - 1)) then (if (wrap64 (x6 - 1)) < (x3.length : Int) then (if (Op.bytesLess x5.toList ((rdOf ByteArray.empty x3 (wrap64 (x6 - 1))).toList)) = true then (gridhallref4_Sorted.l1 k x3 x5 (wrap64 (x6 - 1)) x8 x9 x10) else (gridhallref4_Sorted.j2 k x3 x5 x6 x8 x9 x10)) else (none)) else (none)) else (gridhallref4_Sorted.j2 k x3 x5 x6 x8 x9 x10)
end
def gridhallref4_Sorted.f (k : Nat) (l0 : List ByteArray) : Option (List ByteArray) := gridhallref4_Sorted.l0 k ([] : List ByteArray) l0 (l0.length : Int) 0
theorem gridhallref4_Sorted.mono_l : ∀ k, (∀ y0 y1 y2 y3, LeO (gridhallref4_Sorted.l0 k y0 y1 y2 y3) (gridhallref4_Sorted.l0 (k + 1) y0 y1 y2 y3)) ∧ (∀ y0 y1 y2 y3 y4 y5, LeO (gridhallref4_Sorted.j2 k y0 y1 y2 y3 y4 y5) (gridhallref4_Sorted.j2 (k + 1) y0 y1 y2 y3 y4 y5)) ∧ (∀ y0 y1 y2 y3 y4 y5 y6, LeO (gridhallref4_Sorted.l2 k y0 y1 y2 y3 y4 y5 y6) (gridhallref4_Sorted.l2 (k + 1) y0 y1 y2 y3 y4 y5 y6)) ∧ (∀ y0 y1 y2 y3 y4 y5, LeO (gridhallref4_Sorted.l1 k y0 y1 y2 y3 y4 y5) (gridhallref4_Sorted.l1 (k + 1) y0 y1 y2 y3 y4 y5))
 | 0 => ⟨fun _ _ _ _ r h => by simp [gridhallref4_Sorted.l0] at h, fun _ _ _ _ _ _ r h => by simp [gridhallref4_Sorted.j2] at h, fun _ _ _ _ _ _ _ r h => by simp [gridhallref4_Sorted.l2] at h, fun _ _ _ _ _ _ r h => by simp [gridhallref4_Sorted.l1] at h⟩
 | k + 1 => by
  obtain ⟨ih0, ih1, ih2, ih3⟩:=gridhallref4_Sorted.mono_l k
  refine ⟨?_, ?_, ?_, ?_⟩
  ·intro y0 y1 y2 y3
   unfold gridhallref4_Sorted.l0
   repeat' first|(with_reducible first|exact ih0 _ _ _ _|exact ih1 _ _ _ _ _ _|exact ih2 _ _ _ _ _ _ _|exact ih3 _ _ _ _ _ _|exact LeO.refl _|exact LeO.none _|refine LeO.ite ?_ ?_|refine LeO.bind ?_ (fun _=>?_))|exact ih0 _ _ _ _|exact ih1 _ _ _ _ _ _|exact ih2 _ _ _ _ _ _ _|exact ih3 _ _ _ _ _ _|exact LeO.none _|refine LeO.ite ?_ ?_|refine LeO.bind ?_ (fun _=>?_)
  ·intro y0 y1 y2 y3 y4 y5
   unfold gridhallref4_Sorted.j2
   repeat' first|(with_reducible first|exact ih0 _ _ _ _|exact ih1 _ _ _ _ _ _|exact ih2 _ _ _ _ _ _ _|exact ih3 _ _ _ _ _ _|exact LeO.refl _|exact LeO.none _|refine LeO.ite ?_ ?_|refine LeO.bind ?_ (fun _=>?_))|exact ih0 _ _ _ _|exact ih1 _ _ _ _ _ _|exact ih2 _ _ _ _ _ _ _|exact ih3 _ _ _ _ _ _|exact LeO.none _|refine LeO.ite ?_ ?_|refine LeO.bind ?_ (fun _=>?_)
  ·intro y0 y1 y2 y3 y4 y5 y6
   unfold gridhallref4_Sorted.l2
   repeat' first|(with_reducible first|exact ih0 _ _ _ _|exact ih1 _ _ _ _ _ _|exact ih2 _ _ _ _ _ _ _|exact ih3 _ _ _ _ _ _|exact LeO.refl _|exact LeO.none _|refine LeO.ite ?_ ?_|refine LeO.bind ?_ (fun _=>?_))|exact ih0 _ _ _ _|exact ih1 _ _ _ _ _ _|exact ih2 _ _ _ _ _ _ _|exact ih3 _ _ _ _ _ _|exact LeO.none _|refine LeO.ite ?_ ?_|refine LeO.bind ?_ (fun _=>?_)
  ·intro y0 y1 y2 y3 y4 y5
   unfold gridhallref4_Sorted.l1
   repeat' first|(with_reducible first|exact ih0 _ _ _ _|exact ih1 _ _ _ _ _ _|exact ih2 _ _ _ _ _ _ _|exact ih3 _ _ _ _ _ _|exact LeO.refl _|exact LeO.none _|refine LeO.ite ?_ ?_|refine LeO.bind ?_ (fun _=>?_))|exact ih0 _ _ _ _|exact ih1 _ _ _ _ _ _|exact ih2 _ _ _ _ _ _ _|exact ih3 _ _ _ _ _ _|exact LeO.none _|refine LeO.ite ?_ ?_|refine LeO.bind ?_ (fun _=>?_)
theorem gridhallref4_Sorted.mono : ∀ a0 k, LeO (gridhallref4_Sorted.f k a0) (gridhallref4_Sorted.f (k + 1) a0) := by
 intro a0 k
 obtain ⟨ih0, ih1, ih2, ih3⟩:=gridhallref4_Sorted.mono_l k
 unfold gridhallref4_Sorted.f
 repeat' first|(with_reducible first|exact ih0 _ _ _ _|exact ih1 _ _ _ _ _ _|exact ih2 _ _ _ _ _ _ _|exact ih3 _ _ _ _ _ _|exact LeO.refl _|exact LeO.none _|refine LeO.ite ?_ ?_|refine LeO.bind ?_ (fun _=>?_))|exact ih0 _ _ _ _|exact ih1 _ _ _ _ _ _|exact ih2 _ _ _ _ _ _ _|exact ih3 _ _ _ _ _ _|exact LeO.none _|refine LeO.ite ?_ ?_|refine LeO.bind ?_ (fun _=>?_)
set_option maxHeartbeats 8000000 in
set_option maxRecDepth 100000 in
theorem gridhallref4_Sorted.calls (k : Nat) (A0 : Option Addr) (c0 : Nat) (l0 : List ByteArray) (r : List ByteArray) (w : World) (hr0 : Kd.C Kd.string w A0 l0.length l0) (hc0 : l0.length ≤ c0) (h : gridhallref4_Sorted.f k l0 = some r) :
  Calls Try.prog 31 #[.slice A0 l0.length c0] w fun e w' => ∃ v0_ : Value, e = .returned (v0_) ∧ Kd.R Kd.string 9 w' w.heap.size (fun _ => True) v0_ r ∧ Below w.heap.size w w' := by
 have HR0:=k0_ hr0;have HC0:=k0_ hc0;clear hr0 hc0;have HB:=k0_ (Below.refl w.heap.size w);have H : (gridhallref4_Sorted.l0 k ([] : List ByteArray) l0 (l0.length : Int) 0) = some r:=h;clear h;have H':=k0_ H;clear H
 go_enter Try.func31, Try.ntmps31
 go_wp2;(try simp only [Act.put, q1_,q3_,q2_])
 go_loopg [3, 10] k (fun kq v3 v10 w'=>∃ (x3_1 : List ByteArray) (x10_1 : Int), v10 = .int .i64 x10_1∧Aside0 (gridhallref4_Sorted.l0 kq x3_1 l0 (l0.length : Int) x10_1 = some r)∧Aside0 (kq ≤ k)∧Aside0 (Kd.R Kd.string 9 w' w.heap.size (fun _=>True) v3 x3_1)∧Aside0 (Below w.heap.size w w'))
 case atStart=>exact ⟨(([] : List ByteArray)),(0),rs_, H', ⟨Nat.le_refl _⟩,⟨by first|exact Kd.R_nil _ _ _ _ _|exact Kd.N_nil _ _ _ _ _|exact Kd.V_nil _ _ _ _ _|exact Kd.Q_nil _ _ _ _ _|exact Kd.S_nil _ _ _ _ _⟩,⟨hb0_ HB.out⟩⟩
 clear H';obtain ⟨x3_1, x10_1, rfl, HA, HK1, HO_3, HB⟩:=hrel;obtain _|k1:=gk
 ·exact absurd HA.out (by simp [gridhallref4_Sorted.l0])
 have H:=HA.out;clear HA;simp only [gridhallref4_Sorted.l0] at H
 by_cases c2 : x10_1 < (l0.length : Int)
 ·rw [if_pos c2] at H
  have c2b0:=decide_eq_true c2;clear c2
  obtain ⟨c3,H⟩:=gi_ H;have c3b0:=decide_eq_true c3;clear c3
  obtain ⟨c4,H⟩:=gi_ H;have c4b0:=decide_eq_true c4;clear c4;have HC5:=k0_ H;clear H;have p223 : 0 ≤ (x10_1 : Int):=of_decide_eq_true as_;have q223 : x10_1 < (l0.length : Int):=of_decide_eq_true as_;obtain ⟨ad223, e223, hx223_0⟩:=Kd.at_string HR0.out x10_1 p223 q223;cases e223;replace hx223_0:=bt_ HB.out hx223_0;replace p223:=eq_true p223;replace q223:=eq_true q223;obtain ⟨Ao6, co6, eo6⟩:=Kd.R_slice HO_3.out;subst eo6
  go_upto_block 2 with (fail)
  go_cut [6] (fun v6 wc=>∃ (kq : Nat) (x6_4 : Int), v6 = .int .i64 x6_4∧Aside0 (gridhallref4_Sorted.j2 kq x3_1 (rdOf ByteArray.empty l0 x10_1) x6_4 l0 (l0.length : Int) x10_1 = some r)∧Aside0 (kq ≤ k1)∧Aside0 (Kd.R Kd.string 9 wc w.heap.size (fun _=>True) (.slice Ao6 x3_1.length co6) x3_1)∧Aside0 (Below w.heap.size w wc))
  case first =>
   have H:=HC5.out;clear HC5;have H':=k0_ H;clear H;go_wp2;(try simp only [Act.put, q1_,q3_,q2_])
   go_loopg [6] k1 (fun kq v6 w'=>∃ (x6_2 : Int), v6 = .int .i64 x6_2∧Aside0 (gridhallref4_Sorted.l1 kq x3_1 (rdOf ByteArray.empty l0 x10_1) x6_2 l0 (l0.length : Int) x10_1 = some r)∧Aside0 (kq ≤ k1)∧Aside0 (Kd.R Kd.string 9 w' w.heap.size (fun _=>True) (.slice Ao6 x3_1.length co6) x3_1)∧Aside0 (Below w.heap.size w w'))
   case atStart=>exact ⟨((x3_1.length : Int)),rs_, H', ⟨Nat.le_refl _⟩,⟨by (with_reducible repeat (first|apply Kd.R_alloc|apply Kd.R_drewN|apply Kd.R_drew));exact HO_3.out⟩,⟨hb0_ HB.out⟩⟩
   clear H';(try clear c2);(try clear c2b0);(try clear p2);(try clear q2);(try clear hx2);(try clear c3);(try clear c3b0);(try clear c4);(try clear c4b0);(try clear hx223_0);(try clear p223);(try clear q223);obtain ⟨x6_2, rfl, HA, HK2, HO_3, HB⟩:=hrel;obtain _|k2:=gk
   ·exact absurd HA.out (by simp [gridhallref4_Sorted.l1])
   have H:=HA.out;clear HA;simp only [gridhallref4_Sorted.l1] at H
   by_cases c7 : x6_2 > 0
   ·rw [if_pos c7] at H
    have c7b0:=decide_eq_true c7;clear c7;(first|rw [c7b0]|(simp only [i64_w, i32_w];rw [c7b0])|skip);obtain ⟨ji8, hji8⟩ : ∃ j_ : Int, (wrap64 (x6_2 - 1)) = j_:=⟨_, rfl⟩;replace H : (if 0 ≤ (ji8) then (if (ji8) < (x3_1.length : Int) then (if (Op.bytesLess (rdOf ByteArray.empty l0 x10_1).toList ((rdOf ByteArray.empty x3_1 (ji8)).toList)) = true then (gridhallref4_Sorted.l1 k2 x3_1 (rdOf ByteArray.empty l0 x10_1) ji8 l0 (l0.length : Int) x10_1) else (gridhallref4_Sorted.j2 k2 x3_1 (rdOf ByteArray.empty l0 x10_1) x6_2 l0 (l0.length : Int) x10_1)) else (none)) else (none)) = some r:=by first|(rw [hji8] at H;exact H)|(simp only [hji8] at H ⊢;exact H)
    have hji8w : (IntKind.i64.wrap (x6_2 - 1)) = ji8:=(i64_w _).trans hji8
    by_cases c9 : 0 ≤ (ji8)
    rw [if_pos c9] at H;have c9b0:=decide_eq_true c9;clear c9
    focus
     by_cases c10 : (ji8) < (x3_1.length : Int)
     rw [if_pos c10] at H;have c10b0:=decide_eq_true c10;clear c10
     focus
      by_cases c11 : (Op.bytesLess (rdOf ByteArray.empty l0 x10_1).toList ((rdOf ByteArray.empty x3_1 (ji8)).toList)) = true
      rw [if_pos c11] at H;have c11b0 : (Op.bytesLess (rdOf ByteArray.empty l0 x10_1).toList ((rdOf ByteArray.empty x3_1 (ji8)).toList)) = true:=c11;have c11b1 : binOp .gtr 9 (.string (rdOf ByteArray.empty x3_1 (ji8))) (.string (rdOf ByteArray.empty l0 x10_1)) = pure (.bool true):=by rw [bgt_op, c11b0]
      clear c11;have H':=k0_ H;clear H;rotate_left;rw [if_neg c11] at H;have c11b0 : (Op.bytesLess (rdOf ByteArray.empty l0 x10_1).toList ((rdOf ByteArray.empty x3_1 (ji8)).toList)) = false:=by simpa using c11
      have c11b1 : binOp .gtr 9 (.string (rdOf ByteArray.empty x3_1 (ji8))) (.string (rdOf ByteArray.empty l0 x10_1)) = pure (.bool false):=by rw [bgt_op, c11b0]
      clear c11;have H':=k0_ H;clear H;rotate_left
     rotate_left 2;rw [if_neg c10] at H
     exact absurd H (by simp)
    rotate_left 2;rw [if_neg c9] at H
    exact absurd H (by simp)
    all_goals
     have p224 : 0 ≤ ((ji8) : Int):=of_decide_eq_true as_;have q224 : (ji8) < (x3_1.length : Int):=of_decide_eq_true as_;obtain ⟨ad224, e224, hx224_0⟩:=Kd.at_string (Kd.R_reads' HO_3.out).2.2 (ji8) p224 q224;cases e224;replace p224:=eq_true p224;replace q224:=eq_true q224;go_wp2
    ·go_roundg k2
     case measure=>have:=HK1.out;have:=HK2.out;omega
     case rel=>exact ⟨(ji8),(by first|rfl|(simp;done)|(simp only [← hji8] <;> (first|rfl|simp))|(simp [*];done)), H', ⟨by have:=HK1.out;have:=HK2.out;omega⟩,⟨by (with_reducible repeat (first|apply Kd.R_alloc|apply Kd.R_drewN|apply Kd.R_drew));exact HO_3.out⟩,⟨hb0_ HB.out⟩⟩
    ·go_meet
     case rel=>exact ⟨_, (x6_2),rs_, H', ⟨by have:=HK1.out;have:=HK2.out;first|omega|exact Nat.le_refl _⟩,⟨by (with_reducible repeat (first|apply Kd.R_alloc|apply Kd.R_drewN|apply Kd.R_drew));exact HO_3.out⟩,⟨hb0_ HB.out⟩⟩
   ·rw [if_neg c7] at H
    have c7b0:=decide_eq_false c7;clear c7;(first|rw [c7b0]|(simp only [i64_w, i32_w];rw [c7b0])|skip);have H':=k0_ H;clear H;go_wp2
    go_meet
    case rel=>exact ⟨_, (x6_2),rs_, H', ⟨by have:=HK1.out;have:=HK2.out;first|omega|exact Nat.le_refl _⟩,⟨by (with_reducible repeat (first|apply Kd.R_alloc|apply Kd.R_drewN|apply Kd.R_drew));exact HO_3.out⟩,⟨hb0_ HB.out⟩⟩
  clear HC5;(try clear c1);(try clear c2);(try clear c2b0);(try clear p2);(try clear q2);(try clear hx2);(try clear c3);(try clear c3b0);(try clear c4);(try clear c4b0);(try clear p6);(try clear c7);(try clear c7b0);(try clear c9);(try clear c9b0);(try clear c10);(try clear c10b0);(try clear c11);(try clear c11b0);(try clear hx223_0);(try clear hx224_0);(try clear p2);(try clear p223);(try clear p224);(try clear q2);(try clear q223);(try clear q224);obtain ⟨kq, x6_4, rfl, HA, HJ4, HO_3, HB⟩:=hcut;obtain _|kj4:=kq
  ·exact absurd HA.out (by simp [gridhallref4_Sorted.j2])
  have H:=HA.out;clear HA;simp only [gridhallref4_Sorted.j2] at H
  obtain ⟨c12,H⟩:=gi_ H;have LMc12:=k0_ c12;clear c12;obtain ⟨y225, hy225⟩ : ∃ y_ : List ByteArray, y_ = (x3_1 ++ [(⟨#[]⟩ : ByteArray)]):=⟨_, rfl⟩;replace H : (gridhallref4_Sorted.l2 kj4 y225 (rdOf ByteArray.empty l0 x10_1) x6_4 (wrap64 ((y225.length : Int) - 1)) l0 (l0.length : Int) x10_1) = some r:=by first|(rw [hy225];with_reducible exact H)|(have H2_:=(Option.bind_some _ _).symm.trans H;rw [hy225];with_reducible exact H2_)|(have H2_:=(Option.bind_some _ _).symm.trans H;with_reducible exact H2_)|with_reducible exact H|(rw [hy225];exact H)|exact H
  have Ny225:=k0_ hy225;clear hy225;have H':=k0_ H;clear H
  go_wp2_with (first|((with_reducible refine gate_builtin (b:=.append) (xs:=#[.tmp 29, .tmp 30]) rfl ?_);at_builtin;refine Kd.R_append Kd.string (w0:=w) w.heap.size rfl (.tmp 29) (.tmp 30) 22 9 (.string ⟨#[]⟩) 16 rfl Try.underlying22 info9 rfl (by decide) (by omega) (.slice Ao6 x3_1.length co6) x3_1 (⟨#[]⟩ : ByteArray) [.string (⟨#[]⟩ : ByteArray)] (fun _=>True) (fun _=>False) rfl rfl ?aP (fun _ hk=>hk.elim) ?aF ?aO ?aB ?aS ?aL ?_;(case aP=>exact rfl);(case aB=>exact (hb0_ HB.out));(case aF=>exact (fun _ _=>trivial));(case aO=>exact (rq_ HO_3.out));(case aS=>exact (below_size (hb0_ HB.out)));(case aL=>have:=LMc12.out;omega);intro v226 w13 ho hb hg hat;rw [← Ny225.out] at ho;replace HB:=k0_ (hb);have HO227:=k0_ (ho);clear HO_3;clear ho hb hg hat;obtain ⟨Ao14, co14, eo14⟩:=Kd.R_slice HO227.out;subst eo14))
  (try simp only [Act.put, q1_,q3_,q2_])
  go_loopg [7] kj4 (fun kq v7 w'=>∃ (x3_3 : List ByteArray) (x7_3 : Int), v7 = .int .i64 x7_3∧Aside0 (gridhallref4_Sorted.l2 kq x3_3 (rdOf ByteArray.empty l0 x10_1) x6_4 x7_3 l0 (l0.length : Int) x10_1 = some r)∧Aside0 (kq ≤ kj4)∧Aside0 (Kd.R Kd.string 9 w' w.heap.size (fun _=>True) (.slice Ao14 y225.length co14) x3_3)∧Aside0 (Below w.heap.size w w'))
  case atStart=>exact ⟨(y225),(wrap64 ((y225.length : Int) - 1)),rs_, H', ⟨Nat.le_refl _⟩,⟨by (with_reducible repeat (first|apply Kd.R_alloc|apply Kd.R_drewN|apply Kd.R_drew));exact HO227.out⟩,⟨hb0_ HB.out⟩⟩
  clear H';(try clear c1);(try clear c2);(try clear c2b0);(try clear p2);(try clear q2);(try clear hx2);(try clear c3);(try clear c3b0);(try clear c4);(try clear c4b0);(try clear p6);(try clear c7);(try clear c7b0);(try clear c9);(try clear c9b0);(try clear c10);(try clear c10b0);(try clear c11);(try clear c11b0);(try clear c12);(try clear hx223_0);(try clear hx224_0);(try clear p2);(try clear p223);(try clear p224);(try clear p6);(try clear q2);(try clear q223);(try clear q224);obtain ⟨x3_3, x7_3, rfl, HA, HK3, HO_3, HB⟩:=hrel;have hl3_3:=(Kd.R_reads' HO_3.out).1;rw [hl3_3] at HO_3;(try simp only [hl3_3]);obtain _|k3:=gk
  ·exact absurd HA.out (by simp [gridhallref4_Sorted.l2])
  have H:=HA.out;clear HA;simp only [gridhallref4_Sorted.l2] at H
  by_cases c15 : x7_3 > x6_4
  ·rw [if_pos c15] at H
   have c15b0:=decide_eq_true c15;(try (have c15b0h:=c15b0;simp only [hl3_3] at c15b0h));clear c15;obtain ⟨ji16, hji16⟩ : ∃ j_ : Int, (wrap64 (x7_3 - 1)) = j_:=⟨_, rfl⟩;replace H : (if 0 ≤ (ji16) then (if (ji16) < (x3_3.length : Int) then (if 0 ≤ x7_3 then (if x7_3 < (x3_3.length : Int) then (gridhallref4_Sorted.l2 k3 (x3_3.set (x7_3 : Int).toNat (rdOf ByteArray.empty x3_3 (ji16))) (rdOf ByteArray.empty l0 x10_1) x6_4 ji16 l0 (l0.length : Int) x10_1) else (none)) else (none)) else (none)) else (none)) = some r:=by first|(rw [hji16] at H;exact H)|(simp only [hji16] at H ⊢;exact H)
   have hji16w : (IntKind.i64.wrap (x7_3 - 1)) = ji16:=(i64_w _).trans hji16
   obtain ⟨c17,H⟩:=gi_ H;have c17b0:=decide_eq_true c17;(try (have c17b0h:=c17b0;simp only [hl3_3] at c17b0h));clear c17
   obtain ⟨c18,H⟩:=gi_ H;have c18b0:=decide_eq_true c18;(try (have c18b0h:=c18b0;simp only [hl3_3] at c18b0h));clear c18
   obtain ⟨c19,H⟩:=gi_ H;have c19b0:=decide_eq_true c19;(try (have c19b0h:=c19b0;simp only [hl3_3] at c19b0h));clear c19
   obtain ⟨c20,H⟩:=gi_ H;have c20b0:=decide_eq_true c20;(try (have c20b0h:=c20b0;simp only [hl3_3] at c20b0h));clear c20;obtain ⟨y229, hy229⟩ : ∃ y_ : List ByteArray, y_ = (x3_3.set (x7_3 : Int).toNat (rdOf ByteArray.empty x3_3 (ji16))):=⟨_, rfl⟩;replace H : (gridhallref4_Sorted.l2 k3 y229 (rdOf ByteArray.empty l0 x10_1) x6_4 ji16 l0 (l0.length : Int) x10_1) = some r:=by first|(rw [hy229];with_reducible exact H)|(have H2_:=(Option.bind_some _ _).symm.trans H;rw [hy229];with_reducible exact H2_)|(have H2_:=(Option.bind_some _ _).symm.trans H;with_reducible exact H2_)|with_reducible exact H|(rw [hy229];exact H)|exact H
   have Ny229:=k0_ hy229;clear hy229;have H':=k0_ H;clear H;have p228 : 0 ≤ ((ji16) : Int):=of_decide_eq_true as_;have q228 : (ji16) < (x3_3.length : Int):=of_decide_eq_true as_;obtain ⟨ad228, e228, hx228_0⟩:=Kd.at_string (Kd.R_reads' HO_3.out).2.2 (ji16) p228 q228;cases e228;replace p228:=eq_true p228;replace q228:=eq_true q228;have p21 : 0 ≤ (x7_3 : Int):=of_decide_eq_true as_;have q21 : (x7_3 : Int) < ((x3_3.length : Int) : Int):=of_decide_eq_true as_;obtain ⟨go21, co21, eo21, gb21, gl21, cl21, HG21⟩:=Kd.R_form HO_3.out (by omega);(first|cases eo21|(injection eo21 with ea_ en_ ec_;(first|subst ea_|(injection ea_ with ea_;subst ea_));subst ec_;clear en_));have GB21:=k0_ gb21;have GG21:=k0_ HG21;clear gb21 gl21 HG21;(first|simp only [add_plain] at hx228_0|skip);obtain ⟨hx21_0, hf21_0⟩:=Kd.R_celln (⟨#[]⟩ : ByteArray) HO_3.out (x7_3 : Int) p21 q21;replace p21:=eq_true p21;replace q21:=eq_true q21;have HP22:=Kd.R_putg HO_3.out (x7_3 : Int) (rdOf ByteArray.empty x3_3 (ji16))
   go_wp2_with (first|((with_reducible refine gate_store (t:=9) (p:=47) rfl ?_);refine store_event (t:=9) (p:=47) (v:=?vo_w23) (w1:=(wr.setCell ⟨go21, (x7_3 : Int).toNat, none⟩ (.string (rdOf ByteArray.empty x3_3 (ji16))))) ?hg ?ho ?hn ?hr ?_;(case ho=>rfl);(case hg=>rfl);(case hn=>rfl);(case hr=>first|(go_simp;done)|(go_simp;rfl));intro w23 hw;have hg : wr.grownBy w23 (some go21):=(by rw [hw];exact HP22.2);have hp_ : Kd.R Kd.string 9 w23 w.heap.size (fun _=>True) (.slice (some ⟨go21, 0, none⟩) x3_3.length co14) y229:=(by rw [hw, Ny229.out];exact HP22.1);clear HP22;replace HO_3:=k0_ (hp_);replace HB:=k0_ ((by rw [hw];exact below_set (HB.out) GB21.out : Below w.heap.size w w23));clear hg hw hp_))
   (try simp only [← hl3_3])
   go_roundg k3
   case measure=>have:=HK1.out;have:=HJ4.out;have:=HK3.out;omega
   case rel=>exact ⟨(y229),(ji16),(by first|rfl|(simp;done)|(simp only [← hji16] <;> (first|rfl|simp))|(simp [*];done)), H', ⟨by have:=HK1.out;have:=HJ4.out;have:=HK3.out;omega⟩,⟨by (try simp only [hl3_3]);(with_reducible repeat (first|apply Kd.R_alloc|apply Kd.R_drewN|apply Kd.R_drew));exact HO_3.out⟩,⟨hb0_ HB.out⟩⟩
  ·rw [if_neg c15] at H
   have c15b0:=decide_eq_false c15;(try (have c15b0h:=c15b0;simp only [hl3_3] at c15b0h));clear c15
   obtain ⟨c24,H⟩:=gi_ H;have c24b0:=decide_eq_true c24;(try (have c24b0h:=c24b0;simp only [hl3_3] at c24b0h));clear c24
   obtain ⟨c25,H⟩:=gi_ H;have c25b0:=decide_eq_true c25;(try (have c25b0h:=c25b0;simp only [hl3_3] at c25b0h));clear c25;obtain ⟨y230, hy230⟩ : ∃ y_ : List ByteArray, y_ = (x3_3.set (x6_4 : Int).toNat (rdOf ByteArray.empty l0 x10_1)):=⟨_, rfl⟩;replace H : (gridhallref4_Sorted.l0 k3 y230 l0 (l0.length : Int) (wrap64 (x10_1 + 1))) = some r:=by first|(rw [hy230];with_reducible exact H)|(have H2_:=(Option.bind_some _ _).symm.trans H;rw [hy230];with_reducible exact H2_)|(have H2_:=(Option.bind_some _ _).symm.trans H;with_reducible exact H2_)|with_reducible exact H|(rw [hy230];exact H)|exact H
   have Ny230:=k0_ hy230;clear hy230;have H':=k0_ H;clear H;have p26 : 0 ≤ (x6_4 : Int):=of_decide_eq_true as_;have q26 : (x6_4 : Int) < ((x3_3.length : Int) : Int):=of_decide_eq_true as_;obtain ⟨go26, co26, eo26, gb26, gl26, cl26, HG26⟩:=Kd.R_form HO_3.out (by omega);(first|cases eo26|(injection eo26 with ea_ en_ ec_;(first|subst ea_|(injection ea_ with ea_;subst ea_));subst ec_;clear en_));have GB26:=k0_ gb26;have GG26:=k0_ HG26;clear gb26 gl26 HG26;obtain ⟨hx26_0, hf26_0⟩:=Kd.R_celln (⟨#[]⟩ : ByteArray) HO_3.out (x6_4 : Int) p26 q26;replace p26:=eq_true p26;replace q26:=eq_true q26;have HP27:=Kd.R_putg HO_3.out (x6_4 : Int) (rdOf ByteArray.empty l0 x10_1)
   go_wp2_with (first|((with_reducible refine gate_store (t:=9) (p:=51) rfl ?_);refine store_event (t:=9) (p:=51) (v:=?vo_w28) (w1:=(wr.setCell ⟨go26, (x6_4 : Int).toNat, none⟩ (.string (rdOf ByteArray.empty l0 x10_1)))) ?hg ?ho ?hn ?hr ?_;(case ho=>rfl);(case hg=>rfl);(case hn=>rfl);(case hr=>first|(go_simp;done)|(go_simp;rfl));intro w28 hw;have hg : wr.grownBy w28 (some go26):=(by rw [hw];exact HP27.2);have hp_ : Kd.R Kd.string 9 w28 w.heap.size (fun _=>True) (.slice (some ⟨go26, 0, none⟩) x3_3.length co14) y230:=(by rw [hw, Ny230.out];exact HP27.1);clear HP27;replace HO_3:=k0_ (hp_);replace HB:=k0_ ((by rw [hw];exact below_set (HB.out) GB26.out : Below w.heap.size w w28));clear hg hw hp_))
   (try simp only [← hl3_3])
   go_roundg k3
   case measure=>have:=HK1.out;have:=HJ4.out;have:=HK3.out;omega
   case rel=>exact ⟨(y230),(wrap64 (x10_1 + 1)),rs_, H', ⟨by have:=HK1.out;have:=HJ4.out;have:=HK3.out;omega⟩,⟨by (try simp only [hl3_3]);(with_reducible repeat (first|apply Kd.R_alloc|apply Kd.R_drewN|apply Kd.R_drew));exact HO_3.out⟩,⟨hb0_ HB.out⟩⟩
 ·rw [if_neg c2] at H
  have c2b0:=decide_eq_false c2;clear c2;obtain rfl:=Option.some.inj H;go_wp2
  go_ret
  exact ⟨_, er_, by (with_reducible repeat (first|apply Kd.R_alloc|apply Kd.R_drewN|apply Kd.R_drew));exact HO_3.out, hb0_ HB.out⟩

/-! ### gridhallref4_Explained: function 33 -/
mutual
def gridhallref4_Explained.l0 : Nat → List (S81) → List ByteArray → ByteArray → ByteArray → Int → List (S81) → Int → Int → Option (Bool)
 | 0, _, _, _, _, _, _, _, _ => none
 | k + 1, x0, x1, x2, x3, x4, x18, x19, x20 => if x20 < x19 then (if 0 ≤ x20 then (if x20 < (x18.length : Int) then (if ((rd_T81 x18 x20).f0).toList = x2.toList then ((gridhallref4_Index.f k x1 ((rd_T81 x18 x20).f1)).bind fun t233 => (if t233 ≥ 0 then ((gridhallref4_Explained.f k x0 x1 ((rd_T81 x18 x20).f1) x3 (wrap64 (x4 - 1))).bind fun t234 => (if t234 = true then (some true) else (gridhallref4_Explained.l0 k x0 x1 x2 x3 x4 x18 x19 (wrap64 (x20 + 1))))) else (gridhallref4_Explained.l0 k x0 x1 x2 x3 x4 x18 x19 (wrap64 (x20 + 1))))) else (gridhallref4_Explained.l0 k x0 x1 x2 x3 x4 x18 x19 (wrap64 (x20 + 1)))) else (none)) else (none)) else (some false)
def gridhallref4_Explained.f : Nat → List (S81) → List ByteArray → ByteArray → ByteArray → Int → Option (Bool)
 | 0, _, _, _, _, _ => none
 | k + 1, l0, l1, a2, a3, a4 => if a2.toList = a3.toList then (some true) else (if a4 = 0 then (some false) else (gridhallref4_Explained.l0 k l0 l1 a2 a3 a4 l0 (l0.length : Int) 0))
end
theorem gridhallref4_Explained.mono_l : ∀ k, (∀ y0 y1 y2 y3 y4, LeO (gridhallref4_Explained.f k y0 y1 y2 y3 y4) (gridhallref4_Explained.f (k + 1) y0 y1 y2 y3 y4)) ∧ (∀ y0 y1 y2 y3 y4 y5 y6 y7, LeO (gridhallref4_Explained.l0 k y0 y1 y2 y3 y4 y5 y6 y7) (gridhallref4_Explained.l0 (k + 1) y0 y1 y2 y3 y4 y5 y6 y7))
 | 0 => ⟨fun _ _ _ _ _ r h => by simp [gridhallref4_Explained.f] at h, fun _ _ _ _ _ _ _ _ r h => by simp [gridhallref4_Explained.l0] at h⟩
 | k + 1 => by
  obtain ⟨ih0, ih1⟩:=gridhallref4_Explained.mono_l k
  refine ⟨?_, ?_⟩
  ·intro y0 y1 y2 y3 y4
   unfold gridhallref4_Explained.f
   repeat' first|(with_reducible first|exact ih0 _ _ _ _ _|exact ih1 _ _ _ _ _ _ _ _|exact gridhallref4_Index.mono _ _ _|exact LeO.refl _|exact LeO.none _|refine LeO.ite ?_ ?_|refine LeO.bind ?_ (fun _=>?_))|exact ih0 _ _ _ _ _|exact ih1 _ _ _ _ _ _ _ _|exact gridhallref4_Index.mono _ _ _|exact LeO.none _|refine LeO.ite ?_ ?_|refine LeO.bind ?_ (fun _=>?_)
  ·intro y0 y1 y2 y3 y4 y5 y6 y7
   unfold gridhallref4_Explained.l0
   repeat' first|(with_reducible first|exact ih0 _ _ _ _ _|exact ih1 _ _ _ _ _ _ _ _|exact gridhallref4_Index.mono _ _ _|exact LeO.refl _|exact LeO.none _|refine LeO.ite ?_ ?_|refine LeO.bind ?_ (fun _=>?_))|exact ih0 _ _ _ _ _|exact ih1 _ _ _ _ _ _ _ _|exact gridhallref4_Index.mono _ _ _|exact LeO.none _|refine LeO.ite ?_ ?_|refine LeO.bind ?_ (fun _=>?_)
theorem gridhallref4_Explained.mono : ∀ a0 a1 a2 a3 a4 k, LeO (gridhallref4_Explained.f k a0 a1 a2 a3 a4) (gridhallref4_Explained.f (k + 1) a0 a1 a2 a3 a4) := by
 intro a0 a1 a2 a3 a4 k
 obtain ⟨ih0, ih1⟩:=gridhallref4_Explained.mono_l k
 exact ih0 a0 a1 a2 a3 a4
set_option maxHeartbeats 8000000 in
set_option maxRecDepth 100000 in
theorem gridhallref4_Explained.calls (k : Nat) : ∀ (A0 : Option Addr) (c0 : Nat) (l0 : List (S81)) (A1 : Option Addr) (c1 : Nat) (l1 : List ByteArray) (a2 : ByteArray) (a3 : ByteArray) (a4 : Int) (r : Bool) (w : World) (hr0 : Kd.C k81 w A0 l0.length l0) (hc0 : l0.length ≤ c0) (hr1 : Kd.C Kd.string w A1 l1.length l1) (hc1 : l1.length ≤ c1) (h : gridhallref4_Explained.f k l0 l1 a2 a3 a4 = some r),
  Calls Try.prog 33 #[.slice A0 l0.length c0, .slice A1 l1.length c1, .string a2, .string a3, .int .i64 a4] w fun e w' => e = .returned (.bool r) ∧ Below w.heap.size w w' := by
 induction k using Nat.strongRecOn with
 | _ k ih =>
 intro A0 c0 l0 A1 c1 l1 a2 a3 a4 r w hr0 hc0 hr1 hc1 h
 cases k with
 | zero => exact absurd h (by simp [gridhallref4_Explained.f])
 | succ k =>
 simp only [gridhallref4_Explained.f] at h;have hu81:=Try.underlying81;have HR0:=k0_ hr0;have HC0:=k0_ hc0;clear hr0 hc0;have HR1:=k0_ hr1;have HC1:=k0_ hc1;clear hr1 hc1;have HB:=k0_ (Below.refl w.heap.size w);have H : (if a2.toList = a3.toList then (some true) else (if a4 = 0 then (some false) else (gridhallref4_Explained.l0 k l0 l1 a2 a3 a4 l0 (l0.length : Int) 0))) = some r:=h;clear h
 by_cases c6 : a2.toList = a3.toList
 ·rw [if_pos c6] at H
  have c6b0:=beq_iff_eq.mpr c6;have c6b1:=bne_eq_false_iff_eq.mpr c6;clear c6;obtain rfl:=Option.some.inj H
  go_enter Try.func33, Try.ntmps33
  go_wp2
  go_ret
  exact ⟨er_, hb0_ HB.out⟩
 ·rw [if_neg c6] at H
  have c6b0:=beq_eq_false_iff_ne.mpr c6;have c6b1:=bne_iff_ne.mpr c6
  by_cases c7 : a4 = 0
  ·rw [if_pos c7] at H
   have c7b0:=beq_iff_eq.mpr c7;have c7b1:=bne_eq_false_iff_eq.mpr c7;clear c7;obtain rfl:=Option.some.inj H
   go_enter Try.func33, Try.ntmps33
   go_wp2
   go_ret
   exact ⟨er_, hb0_ HB.out⟩
  ·rw [if_neg c7] at H
   have c7b0:=beq_eq_false_iff_ne.mpr c7;have c7b1:=bne_iff_ne.mpr c7;have H':=k0_ H;clear H
   go_enter Try.func33, Try.ntmps33
   go_wp2;(try simp only [Act.put, q1_,q3_,q2_])
   go_loopg [20] k (fun kq v20 w'=>∃ (x20_1 : Int), v20 = .int .i64 x20_1∧Aside0 (gridhallref4_Explained.l0 kq l0 l1 a2 a3 a4 l0 (l0.length : Int) x20_1 = some r)∧Aside0 (kq ≤ k)∧Aside0 (Below w.heap.size w w'))
   case atStart=>exact ⟨(0),rs_, H', ⟨Nat.le_refl _⟩,⟨hb0_ HB.out⟩⟩
   clear H';(try clear c1);(try clear p2);(try clear c3);(try clear c6);(try clear c6b0);(try clear c6b1);(try clear c7);(try clear c7b0);(try clear c7b1);obtain ⟨x20_1, rfl, HA, HK1, HB⟩:=hrel;obtain _|k1:=gk
   ·exact absurd HA.out (by simp [gridhallref4_Explained.l0])
   have H:=HA.out;clear HA;simp only [gridhallref4_Explained.l0] at H
   by_cases c8 : x20_1 < (l0.length : Int)
   ·rw [if_pos c8] at H
    have c8b0:=decide_eq_true c8;clear c8
    by_cases c9 : 0 ≤ x20_1
    rw [if_pos c9] at H;have c9b0:=decide_eq_true c9;clear c9
    focus
     by_cases c10 : x20_1 < (l0.length : Int)
     rw [if_pos c10] at H;have c10b0:=decide_eq_true c10;clear c10
     focus
      by_cases c11 : ((rd_T81 l0 x20_1).f0).toList = a2.toList
      rw [if_pos c11] at H;have c11b0:=beq_iff_eq.mpr c11;have c11b1:=bne_eq_false_iff_eq.mpr c11;clear c11;replace H:=Option.bind_eq_some_iff.mp H;obtain ⟨t233, A120, H⟩:=H;replace H : (if t233 ≥ 0 then ((gridhallref4_Explained.f k1 l0 l1 ((rd_T81 l0 x20_1).f1) a3 (wrap64 (a4 - 1))).bind fun t234=>(if t234 = true then (some true) else (gridhallref4_Explained.l0 k1 l0 l1 a2 a3 a4 l0 (l0.length : Int) (wrap64 (x20_1 + 1))))) else (gridhallref4_Explained.l0 k1 l0 l1 a2 a3 a4 l0 (l0.length : Int) (wrap64 (x20_1 + 1)))) = some r:=H;have A12:=k0_ A120;clear A120
      focus
       by_cases c13 : t233 ≥ 0
       rw [if_pos c13] at H;have c13b0:=decide_eq_true c13;clear c13;replace H:=Option.bind_eq_some_iff.mp H;obtain ⟨t234, A140, H⟩:=H;replace H : (if t234 = true then (some true) else (gridhallref4_Explained.l0 k1 l0 l1 a2 a3 a4 l0 (l0.length : Int) (wrap64 (x20_1 + 1)))) = some r:=H;have A14:=k0_ A140;clear A140
       focus
        by_cases c15 : t234 = true
        subst c15;have H1 : (some true) = some r:=by rw [if_pos rfl] at H;exact H
        clear H;have H:=H1;clear H1;obtain rfl:=Option.some.inj H;rotate_left;replace c15:=Bool.eq_false_iff.mpr c15;subst c15;have H1 : (gridhallref4_Explained.l0 k1 l0 l1 a2 a3 a4 l0 (l0.length : Int) (wrap64 (x20_1 + 1))) = some r:=by rw [if_neg (show ¬ (false = true) by decide)] at H;exact H
        clear H;have H:=H1;clear H1;have H':=k0_ H;clear H;rotate_left
       rotate_left 2;rw [if_neg c13] at H;have c13b0:=decide_eq_false c13;clear c13;have H':=k0_ H;clear H;rotate_left
      rotate_left 3;rw [if_neg c11] at H;have c11b0:=beq_eq_false_iff_ne.mpr c11;have c11b1:=bne_iff_ne.mpr c11;have H':=k0_ H;clear H;rotate_left
     rotate_left 4;rw [if_neg c10] at H
     exact absurd H (by simp)
    rotate_left 4;rw [if_neg c9] at H
    exact absurd H (by simp)
    all_goals
     have p231 : 0 ≤ (x20_1 : Int):=of_decide_eq_true as_;have q231 : x20_1 < (l0.length : Int):=of_decide_eq_true as_;obtain ⟨ad231, e231, hx231_0, hx231_1⟩:=at_T81 HR0.out x20_1 p231 q231;cases e231;replace hx231_0:=bt_ HB.out hx231_0;replace hx231_1:=bt_ HB.out hx231_1;replace p231:=eq_true p231;replace q231:=eq_true q231
    ·go_wp2_with (first|((with_reducible refine gate_dst (N:=12) rfl ?_);refine box_event ?hg (N:=12) ?hd (cs:=#[.string (⟨#[]⟩ : ByteArray), .string (⟨#[]⟩ : ByteArray)]) (t:=81) ?hr ?_;(case hd=>rfl);(case hg=>rfl);(case hr=>first|(go_simp;done)|(go_simp;rfl));intro gb232 hg w16 hbox hb;have BK232:=k0_ (hbox);have GW232:=k0_ ((by rw [hg];exact (below_size (hb0_ HB.out)) : w.heap.size ≤ gb232));have GE232:=k0_ ((by rw [hg];exact (below_size (hb0_ HB.out)) : w.heap.size ≤ gb232));replace HB:=k0_ (below_step (hb0_ HB.out) hb);clear hb hbox hg;obtain ⟨hcz17_0,hcz17_1⟩:=bc2_ BK232.out;obtain ⟨hfz17_0,hfz17_1⟩:=bf2_ BK232.out)|(go_at_call 30;(with_reducible refine (gridhallref4_Index.calls k1 _ _ l1 ((rd_T81 l0 x20_1).f1) t233 _ ?side1 ?side2 A12.out).mono ?_);(case side1=>exact Kd.C_below HR1.out (hb1_ HB.out GE232.out));(case side2=>exact HC1.out);rintro e w' ⟨rfl, ⟨nd, rfl⟩⟩)|(go_at_call 33;(with_reducible refine (ih k1 (by have:=HK1.out;omega) _ _ l0 _ _ l1 ((rd_T81 l0 x20_1).f1) a3 (wrap64 (a4 - 1)) true _ ?side1 ?side2 ?side3 ?side4 A14.out).mono ?_);(case side1=>exact Kd.C_below HR0.out (hb1_ HB.out GE232.out));(case side2=>exact HC0.out);(case side3=>exact Kd.C_below HR1.out (hb1_ HB.out GE232.out));(case side4=>exact HC1.out);rintro e w18 ⟨rfl, hb⟩;replace BK232:=k0_ (blk_below (g:=gb232) (o:=.cells #[.string ((rd_T81 l0 x20_1).f0), .string ((rd_T81 l0 x20_1).f1)] 81 (0, 0)) (by (with_reducible repeat (first|refine blk_drewN ?_ _|refine blk_drew ?_|refine blk_alloc ?_ _));refine blk_put (cs:=#[.string ((rd_T81 l0 x20_1).f0), .string (⟨#[]⟩ : ByteArray)]) ?_ 1 _ rfl;(with_reducible repeat (first|refine blk_drewN ?_ _|refine blk_drew ?_|refine blk_alloc ?_ _));refine blk_put (cs:=#[.string (⟨#[]⟩ : ByteArray), .string (⟨#[]⟩ : ByteArray)]) ?_ 0 _ rfl;(with_reducible repeat (first|refine blk_drewN ?_ _|refine blk_drew ?_|refine blk_alloc ?_ _));exact BK232.out) hb);replace HB:=k0_ (below_step (hb1_ HB.out GE232.out) hb);(try clear hb);(try clear hb2);(try clear hk);(try clear hi)))
     go_ret
     exact ⟨er_, hb1_ HB.out GE232.out⟩
    ·go_wp2_with (first|((with_reducible refine gate_dst (N:=12) rfl ?_);refine box_event ?hg (N:=12) ?hd (cs:=#[.string (⟨#[]⟩ : ByteArray), .string (⟨#[]⟩ : ByteArray)]) (t:=81) ?hr ?_;(case hd=>rfl);(case hg=>rfl);(case hr=>first|(go_simp;done)|(go_simp;rfl));intro gb232 hg w19 hbox hb;have BK232:=k0_ (hbox);have GW232:=k0_ ((by rw [hg];exact (below_size (hb0_ HB.out)) : w.heap.size ≤ gb232));have GE232:=k0_ ((by rw [hg];exact (below_size (hb0_ HB.out)) : w.heap.size ≤ gb232));replace HB:=k0_ (below_step (hb0_ HB.out) hb);clear hb hbox hg;obtain ⟨hcz20_0,hcz20_1⟩:=bc2_ BK232.out;obtain ⟨hfz20_0,hfz20_1⟩:=bf2_ BK232.out)|(go_at_call 30;(with_reducible refine (gridhallref4_Index.calls k1 _ _ l1 ((rd_T81 l0 x20_1).f1) t233 _ ?side1 ?side2 A12.out).mono ?_);(case side1=>exact Kd.C_below HR1.out (hb1_ HB.out GE232.out));(case side2=>exact HC1.out);rintro e w' ⟨rfl, ⟨nd, rfl⟩⟩)|(go_at_call 33;(with_reducible refine (ih k1 (by have:=HK1.out;omega) _ _ l0 _ _ l1 ((rd_T81 l0 x20_1).f1) a3 (wrap64 (a4 - 1)) false _ ?side1 ?side2 ?side3 ?side4 A14.out).mono ?_);(case side1=>exact Kd.C_below HR0.out (hb1_ HB.out GE232.out));(case side2=>exact HC0.out);(case side3=>exact Kd.C_below HR1.out (hb1_ HB.out GE232.out));(case side4=>exact HC1.out);rintro e w21 ⟨rfl, hb⟩;replace BK232:=k0_ (blk_below (g:=gb232) (o:=.cells #[.string ((rd_T81 l0 x20_1).f0), .string ((rd_T81 l0 x20_1).f1)] 81 (0, 0)) (by (with_reducible repeat (first|refine blk_drewN ?_ _|refine blk_drew ?_|refine blk_alloc ?_ _));refine blk_put (cs:=#[.string ((rd_T81 l0 x20_1).f0), .string (⟨#[]⟩ : ByteArray)]) ?_ 1 _ rfl;(with_reducible repeat (first|refine blk_drewN ?_ _|refine blk_drew ?_|refine blk_alloc ?_ _));refine blk_put (cs:=#[.string (⟨#[]⟩ : ByteArray), .string (⟨#[]⟩ : ByteArray)]) ?_ 0 _ rfl;(with_reducible repeat (first|refine blk_drewN ?_ _|refine blk_drew ?_|refine blk_alloc ?_ _));exact BK232.out) hb);replace HB:=k0_ (below_step (hb1_ HB.out GE232.out) hb);(try clear hb);(try clear hb2);(try clear hk);(try clear hi)))
     go_roundg k1
     case measure=>have:=HK1.out;omega
     case rel=>exact ⟨(wrap64 (x20_1 + 1)),rs_, H', ⟨by have:=HK1.out;omega⟩,⟨hb1_ HB.out GE232.out⟩⟩
    ·go_wp2_with (first|((with_reducible refine gate_dst (N:=12) rfl ?_);refine box_event ?hg (N:=12) ?hd (cs:=#[.string (⟨#[]⟩ : ByteArray), .string (⟨#[]⟩ : ByteArray)]) (t:=81) ?hr ?_;(case hd=>rfl);(case hg=>rfl);(case hr=>first|(go_simp;done)|(go_simp;rfl));intro gb232 hg w22 hbox hb;have BK232:=k0_ (hbox);have GW232:=k0_ ((by rw [hg];exact (below_size (hb0_ HB.out)) : w.heap.size ≤ gb232));have GE232:=k0_ ((by rw [hg];exact (below_size (hb0_ HB.out)) : w.heap.size ≤ gb232));replace HB:=k0_ (below_step (hb0_ HB.out) hb);clear hb hbox hg;obtain ⟨hcz23_0,hcz23_1⟩:=bc2_ BK232.out;obtain ⟨hfz23_0,hfz23_1⟩:=bf2_ BK232.out)|(go_at_call 30;(with_reducible refine (gridhallref4_Index.calls k1 _ _ l1 ((rd_T81 l0 x20_1).f1) t233 _ ?side1 ?side2 A12.out).mono ?_);(case side1=>exact Kd.C_below HR1.out (hb1_ HB.out GE232.out));(case side2=>exact HC1.out);rintro e w' ⟨rfl, ⟨nd, rfl⟩⟩))
     go_roundg k1
     case measure=>have:=HK1.out;omega
     case rel=>exact ⟨(wrap64 (x20_1 + 1)),rs_, H', ⟨by have:=HK1.out;omega⟩,⟨hb1_ HB.out GE232.out⟩⟩
    ·go_wp2_with (first|((with_reducible refine gate_dst (N:=12) rfl ?_);refine box_event ?hg (N:=12) ?hd (cs:=#[.string (⟨#[]⟩ : ByteArray), .string (⟨#[]⟩ : ByteArray)]) (t:=81) ?hr ?_;(case hd=>rfl);(case hg=>rfl);(case hr=>first|(go_simp;done)|(go_simp;rfl));intro gb232 hg w24 hbox hb;have BK232:=k0_ (hbox);have GW232:=k0_ ((by rw [hg];exact (below_size (hb0_ HB.out)) : w.heap.size ≤ gb232));have GE232:=k0_ ((by rw [hg];exact (below_size (hb0_ HB.out)) : w.heap.size ≤ gb232));replace HB:=k0_ (below_step (hb0_ HB.out) hb);clear hb hbox hg;obtain ⟨hcz25_0,hcz25_1⟩:=bc2_ BK232.out;obtain ⟨hfz25_0,hfz25_1⟩:=bf2_ BK232.out))
     go_roundg k1
     case measure=>have:=HK1.out;omega
     case rel=>exact ⟨(wrap64 (x20_1 + 1)),rs_, H', ⟨by have:=HK1.out;omega⟩,⟨hb1_ HB.out GE232.out⟩⟩
   ·rw [if_neg c8] at H
    have c8b0:=decide_eq_false c8;clear c8;obtain rfl:=Option.some.inj H;go_wp2
    go_ret
    exact ⟨er_, hb0_ HB.out⟩

/-! ### gridhallref4_Cause: function 32 -/
def gridhallref4_Cause.l0 : Nat → List (S81) → List ByteArray → ByteArray → List ByteArray → Int → Int → Option (Bool)
 | 0, _, _, _, _, _, _ => none
 | k + 1, x0, x1, x2, x9, x10, x11 => if x11 < x10 then (if 0 ≤ x11 then (if x11 < (x9.length : Int) then ((gridhallref4_Explained.f k x0 x1 x2 (rdOf ByteArray.empty x9 x11) (x1.length : Int)).bind fun t236 => (if t236 = true then ((gridhallref4_Explained.f k x0 x1 (rdOf ByteArray.empty x9 x11) x2 (x1.length : Int)).bind fun t237 => (if t237 = true then (if (Op.bytesLess ((rdOf ByteArray.empty x9 x11).toList) x2.toList) = true then (some false) else (gridhallref4_Cause.l0 k x0 x1 x2 x9 x10 (wrap64 (x11 + 1)))) else (some false))) else (gridhallref4_Cause.l0 k x0 x1 x2 x9 x10 (wrap64 (x11 + 1))))) else (none)) else (none)) else (some true)
def gridhallref4_Cause.f (k : Nat) (l0 : List (S81)) (l1 : List ByteArray) (a2 : ByteArray) : Option (Bool) := gridhallref4_Cause.l0 k l0 l1 a2 l1 (l1.length : Int) 0
theorem gridhallref4_Cause.mono_l : ∀ k, (∀ y0 y1 y2 y3 y4 y5, LeO (gridhallref4_Cause.l0 k y0 y1 y2 y3 y4 y5) (gridhallref4_Cause.l0 (k + 1) y0 y1 y2 y3 y4 y5))
 | 0 => fun _ _ _ _ _ _ r h => by simp [gridhallref4_Cause.l0] at h
 | k + 1 => by
  have ih0:=gridhallref4_Cause.mono_l k
  ·intro y0 y1 y2 y3 y4 y5
   unfold gridhallref4_Cause.l0
   repeat' first|(with_reducible first|exact ih0 _ _ _ _ _ _|exact gridhallref4_Explained.mono _ _ _ _ _ _|exact LeO.refl _|exact LeO.none _|refine LeO.ite ?_ ?_|refine LeO.bind ?_ (fun _=>?_))|exact ih0 _ _ _ _ _ _|exact gridhallref4_Explained.mono _ _ _ _ _ _|exact LeO.none _|refine LeO.ite ?_ ?_|refine LeO.bind ?_ (fun _=>?_)
theorem gridhallref4_Cause.mono : ∀ a0 a1 a2 k, LeO (gridhallref4_Cause.f k a0 a1 a2) (gridhallref4_Cause.f (k + 1) a0 a1 a2) := by
 intro a0 a1 a2 k
 have ih0:=gridhallref4_Cause.mono_l k
 unfold gridhallref4_Cause.f
 repeat' first|(with_reducible first|exact ih0 _ _ _ _ _ _|exact gridhallref4_Explained.mono _ _ _ _ _ _|exact LeO.refl _|exact LeO.none _|refine LeO.ite ?_ ?_|refine LeO.bind ?_ (fun _=>?_))|exact ih0 _ _ _ _ _ _|exact gridhallref4_Explained.mono _ _ _ _ _ _|exact LeO.none _|refine LeO.ite ?_ ?_|refine LeO.bind ?_ (fun _=>?_)
set_option maxHeartbeats 8000000 in
set_option maxRecDepth 100000 in
theorem gridhallref4_Cause.calls (k : Nat) (A0 : Option Addr) (c0 : Nat) (l0 : List (S81)) (A1 : Option Addr) (c1 : Nat) (l1 : List ByteArray) (a2 : ByteArray) (r : Bool) (w : World) (hr0 : Kd.C k81 w A0 l0.length l0) (hc0 : l0.length ≤ c0) (hr1 : Kd.C Kd.string w A1 l1.length l1) (hc1 : l1.length ≤ c1) (h : gridhallref4_Cause.f k l0 l1 a2 = some r) :
  Calls Try.prog 32 #[.slice A0 l0.length c0, .slice A1 l1.length c1, .string a2] w fun e w' => e = .returned (.bool r) ∧ Below w.heap.size w w' := by
 have HR0:=k0_ hr0;have HC0:=k0_ hc0;clear hr0 hc0;have HR1:=k0_ hr1;have HC1:=k0_ hc1;clear hr1 hc1;have HB:=k0_ (Below.refl w.heap.size w);have H : (gridhallref4_Cause.l0 k l0 l1 a2 l1 (l1.length : Int) 0) = some r:=h;clear h;have H':=k0_ H;clear H
 go_enter Try.func32, Try.ntmps32
 go_wp2;(try simp only [Act.put, q1_,q3_,q2_])
 go_loopg [11] k (fun kq v11 w'=>∃ (x11_1 : Int), v11 = .int .i64 x11_1∧Aside0 (gridhallref4_Cause.l0 kq l0 l1 a2 l1 (l1.length : Int) x11_1 = some r)∧Aside0 (kq ≤ k)∧Aside0 (Below w.heap.size w w'))
 case atStart=>exact ⟨(0),rs_, H', ⟨Nat.le_refl _⟩,⟨hb0_ HB.out⟩⟩
 clear H';(try clear c1);(try clear p2);(try clear c3);obtain ⟨x11_1, rfl, HA, HK1, HB⟩:=hrel;obtain _|k1:=gk
 ·exact absurd HA.out (by simp [gridhallref4_Cause.l0])
 have H:=HA.out;clear HA;simp only [gridhallref4_Cause.l0] at H
 by_cases c4 : x11_1 < (l1.length : Int)
 ·rw [if_pos c4] at H
  have c4b0:=decide_eq_true c4;clear c4
  by_cases c5 : 0 ≤ x11_1
  rw [if_pos c5] at H;have c5b0:=decide_eq_true c5;clear c5
  focus
   by_cases c6 : x11_1 < (l1.length : Int)
   rw [if_pos c6] at H;have c6b0:=decide_eq_true c6;clear c6;replace H:=Option.bind_eq_some_iff.mp H;obtain ⟨t236, A70, H⟩:=H;replace H : (if t236 = true then ((gridhallref4_Explained.f k1 l0 l1 (rdOf ByteArray.empty l1 x11_1) a2 (l1.length : Int)).bind fun t237=>(if t237 = true then (if (Op.bytesLess ((rdOf ByteArray.empty l1 x11_1).toList) a2.toList) = true then (some false) else (gridhallref4_Cause.l0 k1 l0 l1 a2 l1 (l1.length : Int) (wrap64 (x11_1 + 1)))) else (some false))) else (gridhallref4_Cause.l0 k1 l0 l1 a2 l1 (l1.length : Int) (wrap64 (x11_1 + 1)))) = some r:=H;have A7:=k0_ A70;clear A70
   focus
    by_cases c8 : t236 = true
    subst c8;have H1 : ((gridhallref4_Explained.f k1 l0 l1 (rdOf ByteArray.empty l1 x11_1) a2 (l1.length : Int)).bind fun t237=>(if t237 = true then (if (Op.bytesLess ((rdOf ByteArray.empty l1 x11_1).toList) a2.toList) = true then (some false) else (gridhallref4_Cause.l0 k1 l0 l1 a2 l1 (l1.length : Int) (wrap64 (x11_1 + 1)))) else (some false))) = some r:=by rw [if_pos rfl] at H;exact H
    clear H;have H:=H1;clear H1;replace H:=Option.bind_eq_some_iff.mp H;obtain ⟨t237, A90, H⟩:=H;replace H : (if t237 = true then (if (Op.bytesLess ((rdOf ByteArray.empty l1 x11_1).toList) a2.toList) = true then (some false) else (gridhallref4_Cause.l0 k1 l0 l1 a2 l1 (l1.length : Int) (wrap64 (x11_1 + 1)))) else (some false)) = some r:=H;have A9:=k0_ A90;clear A90
    focus
     by_cases c10 : t237 = true
     subst c10;have H1 : (if (Op.bytesLess ((rdOf ByteArray.empty l1 x11_1).toList) a2.toList) = true then (some false) else (gridhallref4_Cause.l0 k1 l0 l1 a2 l1 (l1.length : Int) (wrap64 (x11_1 + 1)))) = some r:=by rw [if_pos rfl] at H;exact H
     clear H;have H:=H1;clear H1
     focus
      by_cases c11 : (Op.bytesLess ((rdOf ByteArray.empty l1 x11_1).toList) a2.toList) = true
      rw [if_pos c11] at H;have c11b0 : (Op.bytesLess ((rdOf ByteArray.empty l1 x11_1).toList) a2.toList) = true:=c11;clear c11;obtain rfl:=Option.some.inj H;rotate_left;rw [if_neg c11] at H;have c11b0 : (Op.bytesLess ((rdOf ByteArray.empty l1 x11_1).toList) a2.toList) = false:=by simpa using c11
      clear c11;have H':=k0_ H;clear H;rotate_left
     rotate_left 2;replace c10:=Bool.eq_false_iff.mpr c10;subst c10;have H1 : (some false) = some r:=by rw [if_neg (show ¬ (false = true) by decide)] at H;exact H
     clear H;have H:=H1;clear H1;obtain rfl:=Option.some.inj H;rotate_left
    rotate_left 3;replace c8:=Bool.eq_false_iff.mpr c8;subst c8;have H1 : (gridhallref4_Cause.l0 k1 l0 l1 a2 l1 (l1.length : Int) (wrap64 (x11_1 + 1))) = some r:=by rw [if_neg (show ¬ (false = true) by decide)] at H;exact H
    clear H;have H:=H1;clear H1;have H':=k0_ H;clear H;rotate_left
   rotate_left 4;rw [if_neg c6] at H
   exact absurd H (by simp)
  rotate_left 4;rw [if_neg c5] at H
  exact absurd H (by simp)
  all_goals
   have p235 : 0 ≤ (x11_1 : Int):=of_decide_eq_true as_;have q235 : x11_1 < (l1.length : Int):=of_decide_eq_true as_;obtain ⟨ad235, e235, hx235_0⟩:=Kd.at_string HR1.out x11_1 p235 q235;cases e235;replace hx235_0:=bt_ HB.out hx235_0;replace p235:=eq_true p235;replace q235:=eq_true q235
  ·go_wp2_with (first|((with_reducible refine gate_callee (f:=33) rfl ?_);refine goesL_ (some 21) rfl rfl Try.func33 (by kernel_rfl) rfl #[.slice A0 l0.length c0, .slice (some ad235) l1.length c1, .string a2, .string (rdOf ByteArray.empty l1 x11_1), .int .i64 (l1.length : Int)] rfl mt_ ?_;(with_reducible refine (gridhallref4_Explained.calls k1 _ _ l0 _ _ l1 a2 (rdOf ByteArray.empty l1 x11_1) (l1.length : Int) true _ ?side1 ?side2 ?side3 ?side4 A7.out).mono ?_);(case side1=>repeat (first|exact (Kd.C_below HR0.out HB.out)|(with_reducible refine Kd.C_alloc ?_ _)|(with_reducible refine Kd.C_drewN ?_ _)|(with_reducible refine Kd.C_drew ?_)));(case side2=>exact HC0.out);(case side3=>repeat (first|exact (Kd.C_below HR1.out HB.out)|(with_reducible refine Kd.C_alloc ?_ _)|(with_reducible refine Kd.C_drewN ?_ _)|(with_reducible refine Kd.C_drew ?_)));(case side4=>exact HC1.out);rintro e w12 ⟨rfl, hb⟩;refine ⟨_, rfl, ?_⟩;replace HB:=k0_ (below_step (hb0_ HB.out) hb);(try clear hb);(try clear hb2);(try clear hk);(try clear hi))|(go_at_call 33;(with_reducible refine (gridhallref4_Explained.calls k1 _ _ l0 _ _ l1 (rdOf ByteArray.empty l1 x11_1) a2 (l1.length : Int) true _ ?side1 ?side2 ?side3 ?side4 A9.out).mono ?_);(case side1=>repeat (first|exact (Kd.C_below HR0.out HB.out)|(with_reducible refine Kd.C_alloc ?_ _)|(with_reducible refine Kd.C_drewN ?_ _)|(with_reducible refine Kd.C_drew ?_)));(case side2=>exact HC0.out);(case side3=>repeat (first|exact (Kd.C_below HR1.out HB.out)|(with_reducible refine Kd.C_alloc ?_ _)|(with_reducible refine Kd.C_drewN ?_ _)|(with_reducible refine Kd.C_drew ?_)));(case side4=>exact HC1.out);rintro e w13 ⟨rfl, hb⟩;replace HB:=k0_ (below_step (hb0_ HB.out) hb);(try clear hb);(try clear hb2);(try clear hk);(try clear hi)))
   go_ret
   exact ⟨er_, hb0_ HB.out⟩
  ·go_wp2_with (first|((with_reducible refine gate_callee (f:=33) rfl ?_);refine goesL_ (some 21) rfl rfl Try.func33 (by kernel_rfl) rfl #[.slice A0 l0.length c0, .slice (some ad235) l1.length c1, .string a2, .string (rdOf ByteArray.empty l1 x11_1), .int .i64 (l1.length : Int)] rfl mt_ ?_;(with_reducible refine (gridhallref4_Explained.calls k1 _ _ l0 _ _ l1 a2 (rdOf ByteArray.empty l1 x11_1) (l1.length : Int) true _ ?side1 ?side2 ?side3 ?side4 A7.out).mono ?_);(case side1=>repeat (first|exact (Kd.C_below HR0.out HB.out)|(with_reducible refine Kd.C_alloc ?_ _)|(with_reducible refine Kd.C_drewN ?_ _)|(with_reducible refine Kd.C_drew ?_)));(case side2=>exact HC0.out);(case side3=>repeat (first|exact (Kd.C_below HR1.out HB.out)|(with_reducible refine Kd.C_alloc ?_ _)|(with_reducible refine Kd.C_drewN ?_ _)|(with_reducible refine Kd.C_drew ?_)));(case side4=>exact HC1.out);rintro e w14 ⟨rfl, hb⟩;refine ⟨_, rfl, ?_⟩;replace HB:=k0_ (below_step (hb0_ HB.out) hb);(try clear hb);(try clear hb2);(try clear hk);(try clear hi))|(go_at_call 33;(with_reducible refine (gridhallref4_Explained.calls k1 _ _ l0 _ _ l1 (rdOf ByteArray.empty l1 x11_1) a2 (l1.length : Int) true _ ?side1 ?side2 ?side3 ?side4 A9.out).mono ?_);(case side1=>repeat (first|exact (Kd.C_below HR0.out HB.out)|(with_reducible refine Kd.C_alloc ?_ _)|(with_reducible refine Kd.C_drewN ?_ _)|(with_reducible refine Kd.C_drew ?_)));(case side2=>exact HC0.out);(case side3=>repeat (first|exact (Kd.C_below HR1.out HB.out)|(with_reducible refine Kd.C_alloc ?_ _)|(with_reducible refine Kd.C_drewN ?_ _)|(with_reducible refine Kd.C_drew ?_)));(case side4=>exact HC1.out);rintro e w15 ⟨rfl, hb⟩;replace HB:=k0_ (below_step (hb0_ HB.out) hb);(try clear hb);(try clear hb2);(try clear hk);(try clear hi)))
   go_roundg k1
   case measure=>have:=HK1.out;omega
   case rel=>exact ⟨(wrap64 (x11_1 + 1)),rs_, H', ⟨by have:=HK1.out;omega⟩,⟨hb0_ HB.out⟩⟩
  ·go_wp2_with (first|((with_reducible refine gate_callee (f:=33) rfl ?_);refine goesL_ (some 21) rfl rfl Try.func33 (by kernel_rfl) rfl #[.slice A0 l0.length c0, .slice (some ad235) l1.length c1, .string a2, .string (rdOf ByteArray.empty l1 x11_1), .int .i64 (l1.length : Int)] rfl mt_ ?_;(with_reducible refine (gridhallref4_Explained.calls k1 _ _ l0 _ _ l1 a2 (rdOf ByteArray.empty l1 x11_1) (l1.length : Int) true _ ?side1 ?side2 ?side3 ?side4 A7.out).mono ?_);(case side1=>repeat (first|exact (Kd.C_below HR0.out HB.out)|(with_reducible refine Kd.C_alloc ?_ _)|(with_reducible refine Kd.C_drewN ?_ _)|(with_reducible refine Kd.C_drew ?_)));(case side2=>exact HC0.out);(case side3=>repeat (first|exact (Kd.C_below HR1.out HB.out)|(with_reducible refine Kd.C_alloc ?_ _)|(with_reducible refine Kd.C_drewN ?_ _)|(with_reducible refine Kd.C_drew ?_)));(case side4=>exact HC1.out);rintro e w16 ⟨rfl, hb⟩;refine ⟨_, rfl, ?_⟩;replace HB:=k0_ (below_step (hb0_ HB.out) hb);(try clear hb);(try clear hb2);(try clear hk);(try clear hi))|(go_at_call 33;(with_reducible refine (gridhallref4_Explained.calls k1 _ _ l0 _ _ l1 (rdOf ByteArray.empty l1 x11_1) a2 (l1.length : Int) false _ ?side1 ?side2 ?side3 ?side4 A9.out).mono ?_);(case side1=>repeat (first|exact (Kd.C_below HR0.out HB.out)|(with_reducible refine Kd.C_alloc ?_ _)|(with_reducible refine Kd.C_drewN ?_ _)|(with_reducible refine Kd.C_drew ?_)));(case side2=>exact HC0.out);(case side3=>repeat (first|exact (Kd.C_below HR1.out HB.out)|(with_reducible refine Kd.C_alloc ?_ _)|(with_reducible refine Kd.C_drewN ?_ _)|(with_reducible refine Kd.C_drew ?_)));(case side4=>exact HC1.out);rintro e w17 ⟨rfl, hb⟩;replace HB:=k0_ (below_step (hb0_ HB.out) hb);(try clear hb);(try clear hb2);(try clear hk);(try clear hi)))
   go_ret
   exact ⟨er_, hb0_ HB.out⟩
  ·go_wp2_with (first|((with_reducible refine gate_callee (f:=33) rfl ?_);refine goesL_ (some 21) rfl rfl Try.func33 (by kernel_rfl) rfl #[.slice A0 l0.length c0, .slice (some ad235) l1.length c1, .string a2, .string (rdOf ByteArray.empty l1 x11_1), .int .i64 (l1.length : Int)] rfl mt_ ?_;(with_reducible refine (gridhallref4_Explained.calls k1 _ _ l0 _ _ l1 a2 (rdOf ByteArray.empty l1 x11_1) (l1.length : Int) false _ ?side1 ?side2 ?side3 ?side4 A7.out).mono ?_);(case side1=>repeat (first|exact (Kd.C_below HR0.out HB.out)|(with_reducible refine Kd.C_alloc ?_ _)|(with_reducible refine Kd.C_drewN ?_ _)|(with_reducible refine Kd.C_drew ?_)));(case side2=>exact HC0.out);(case side3=>repeat (first|exact (Kd.C_below HR1.out HB.out)|(with_reducible refine Kd.C_alloc ?_ _)|(with_reducible refine Kd.C_drewN ?_ _)|(with_reducible refine Kd.C_drew ?_)));(case side4=>exact HC1.out);rintro e w18 ⟨rfl, hb⟩;refine ⟨_, rfl, ?_⟩;replace HB:=k0_ (below_step (hb0_ HB.out) hb);(try clear hb);(try clear hb2);(try clear hk);(try clear hi)))
   go_roundg k1
   case measure=>have:=HK1.out;omega
   case rel=>exact ⟨(wrap64 (x11_1 + 1)),rs_, H', ⟨by have:=HK1.out;omega⟩,⟨hb0_ HB.out⟩⟩
 ·rw [if_neg c4] at H
  have c4b0:=decide_eq_false c4;clear c4;obtain rfl:=Option.some.inj H;go_wp2
  go_ret
  exact ⟨er_, hb0_ HB.out⟩

end Go.Proofs.Ytefkdkppipdceaa.PAlarmSays
