/- Contracts of functions that CommitServes reaches, a text of this session's own. -/
import Derived.Test.YtefkdkppipdceaaBox2
import Derived.Test.YtefkdkppipdceaaHCommitServesy0
import Derived.Test.YtefkdkppipdceaaHCommitServesy6
import Derived.Test.YtefkdkppipdceaaHCommitServesy12
namespace Go.Proofs.Ytefkdkppipdceaa.PCommitServes
open Go.RowKit Go.Proofs.YtefkdkppipdceaaW.PrintWords Go.Proofs.YtefkdkppipdceaaW.PrintLast Go.Proofs.YtefkdkppipdceaaW.PrintMore
attribute [local go_sem] max2_int min2_int max_two min_two max_three min_three max_four min_four   -- for this text's walks alone
set_option linter.unusedVariables false
set_option linter.unusedSimpArgs false

/-! ### commit_Serve: function 16 -/
def commit_Serve.f (k : Nat) (l0 : List (S61)) (l1 : List Bool) (a2 : Int) : Option (List Int × Int × Int) := (dual_CheckAll.f k l0 (([a2] : List Int))).bind fun t169 => (if t169 = 0 then (if (l1.length : Int) = (l0.length : Int) then ((commit_serve.f k l0 l1 a2).bind fun bt170 => (if bt170.2.2 = true then (some (bt170.1, bt170.2.1, 0)) else (some (([] : List Int), 0, 8)))) else (some (([] : List Int), 0, 3))) else (some (([] : List Int), 0, t169)))
theorem commit_Serve.mono : ∀ a0 a1 a2 k, LeO (commit_Serve.f k a0 a1 a2) (commit_Serve.f (k + 1) a0 a1 a2) := by
 intro a0 a1 a2 k
 unfold commit_Serve.f
 repeat' first|(with_reducible first|exact commit_serve.mono _ _ _ _|exact dual_CheckAll.mono _ _ _|exact LeO.refl _|exact LeO.none _|refine LeO.ite ?_ ?_|refine LeO.bind ?_ (fun _=>?_))|exact commit_serve.mono _ _ _ _|exact dual_CheckAll.mono _ _ _|exact LeO.none _|refine LeO.ite ?_ ?_|refine LeO.bind ?_ (fun _=>?_)
set_option maxHeartbeats 8000000 in
set_option maxRecDepth 100000 in
theorem commit_Serve.calls (k : Nat) (A0 : Option Addr) (c0 : Nat) (l0 : List (S61)) (A1 : Option Addr) (c1 : Nat) (l1 : List Bool) (a2 : Int) (r1 : List Int) (r2 : Int) (r3 : Int) (w : World) (hr0 : Kd.C k61 w A0 l0.length l0) (hc0 : l0.length ≤ c0) (hr1 : Kd.C Kd.bool w A1 l1.length l1) (hc1 : l1.length ≤ c1) (h : commit_Serve.f k l0 l1 a2 = some (r1, r2, r3)) :
  Calls Try.prog 16 #[.slice A0 l0.length c0, .slice A1 l1.length c1, .int .i64 a2] w fun e w' => ∃ v0_ : Value, e = .returned (.tuple #[v0_, .int .i64 r2, .int .i64 r3]) ∧ Kd.R (Kd.int .i64) 3 w' w.heap.size (fun _ => True) v0_ r1 ∧ Below w.heap.size w w' := by
 have HR0:=k0_ hr0;have HC0:=k0_ hc0;clear hr0 hc0;have HR1:=k0_ hr1;have HC1:=k0_ hc1;clear hr1 hc1;have HB:=k0_ (Below.refl w.heap.size w);have H : ((dual_CheckAll.f k l0 (([a2] : List Int))).bind fun t169=>(if t169 = 0 then (if (l1.length : Int) = (l0.length : Int) then ((commit_serve.f k l0 l1 a2).bind fun bt170=>(if bt170.2.2 = true then (some (bt170.1, bt170.2.1, 0)) else (some (([] : List Int), 0, 8)))) else (some (([] : List Int), 0, 3))) else (some (([] : List Int), 0, t169)))) = some (r1, r2, r3):=h;clear h;obtain ⟨y166, hy166⟩ : ∃ y_ : List Int, y_ = (([a2] : List Int)):=⟨_, rfl⟩;replace H : ((dual_CheckAll.f k l0 y166).bind fun t169=>(if t169 = 0 then (if (l1.length : Int) = (l0.length : Int) then ((commit_serve.f k l0 l1 a2).bind fun bt170=>(if bt170.2.2 = true then (some (bt170.1, bt170.2.1, 0)) else (some (([] : List Int), 0, 8)))) else (some (([] : List Int), 0, 3))) else (some (([] : List Int), 0, t169)))) = some (r1, r2, r3):=by first|(rw [hy166];with_reducible exact H)|(have H2_:=(Option.bind_some _ _).symm.trans H;rw [hy166];with_reducible exact H2_)|(have H2_:=(Option.bind_some _ _).symm.trans H;with_reducible exact H2_)|with_reducible exact H|(rw [hy166];exact H)|exact H
 have Ny166:=k0_ hy166;clear hy166;replace H:=Option.bind_eq_some_iff.mp H;obtain ⟨t169, A40, H⟩:=H;replace H : (if t169 = 0 then (if (l1.length : Int) = (l0.length : Int) then ((commit_serve.f k l0 l1 a2).bind fun bt170=>(if bt170.2.2 = true then (some (bt170.1, bt170.2.1, 0)) else (some (([] : List Int), 0, 8)))) else (some (([] : List Int), 0, 3))) else (some (([] : List Int), 0, t169))) = some (r1, r2, r3):=H;have A4:=k0_ A40;clear A40
 by_cases c5 : t169 = 0
 ·rw [if_pos c5] at H
  have c5b0:=beq_iff_eq.mpr c5;have c5b1:=bne_eq_false_iff_eq.mpr c5;clear c5
  by_cases c6 : (l1.length : Int) = (l0.length : Int)
  ·rw [if_pos c6] at H
   have c6b0:=beq_iff_eq.mpr c6;have c6b1:=bne_eq_false_iff_eq.mpr c6;have c6b2 : (l1.length == l0.length) = true:=by first|simpa using c6|(simp at c6 ⊢;omega)
   clear c6;replace H:=Option.bind_eq_some_iff.mp H;obtain ⟨⟨t170, t171, t172⟩, A70, H⟩:=H;replace H : (if t172 = true then (some (t170, t171, 0)) else (some (([] : List Int), 0, 8))) = some (r1, r2, r3):=H;have A7:=k0_ A70;clear A70
   by_cases c8 : t172 = true
   ·subst c8
    have H1 : (some (t170, t171, 0)) = some (r1, r2, r3):=by rw [if_pos rfl] at H;exact H
    clear H;have H:=H1;clear H1;simp only [Option.some.injEq, Prod.mk.injEq] at H;obtain ⟨rfl, rfl, rfl⟩:=H
    go_enter Try.func16, Try.ntmps16
    go_wp2_with (first|((with_reducible refine gate_dst (N:=15) rfl ?_);refine Kd.R_lit (Kd.int .i64) _ 3 ?hg (N:=15) ?hd (xs:=([a2] : List Int)) (inner:=[.int .i64 a2]) (ok:=fun _=>True) (okp:=fun _=>True) ?hr ?hp (fun _ hk=>hk) trivial (Below.refl _ _) (Nat.le_refl _) (by simp) ?_;(case hd=>rfl);(case hg=>rfl);(case hr=>first|(go_simp;done)|(go_simp;rfl));(case hp=>exact (Reps.one (show Kd.M (Kd.int .i64) _ _ _ a2 [.int .i64 a2] from rfl) (Reps.none _ _)));intro v167 w9 ho10 hb hg_ hnew_;clear hg_ hnew_;(first|rw [← Ny166.out] at ho10|(simp only [Int.reduceToNat] at ho10;rw [← Ny166.out] at ho10));have HO168:=k0_ (Kd.R_lower ho10 (below_size (hb0_ HB.out)));replace HB:=k0_ (below_step (hb0_ HB.out) hb);clear hb ho10;obtain ⟨Ao11, co11, eo11⟩:=Kd.R_slice HO168.out;subst eo11)|((with_reducible refine gate_callee (f:=61) rfl ?_);refine goesL_ (some 16) rfl rfl Try.func61 (by kernel_rfl) rfl #[.slice A0 l0.length c0, .slice Ao11 y166.length co11] rfl mt_ ?_;(with_reducible refine (dual_CheckAll.calls k _ _ l0 _ _ y166 t169 _ ?side1 ?side2 ?side3 ?side4 A4.out).mono ?_);(case side1=>repeat (first|exact (Kd.C_below HR0.out HB.out)|(with_reducible refine Kd.C_alloc ?_ _)|(with_reducible refine Kd.C_drewN ?_ _)|(with_reducible refine Kd.C_drew ?_)));(case side2=>exact HC0.out);(case side3=>repeat (first|exact (Kd.R_reads' HO168.out).2.2|(with_reducible refine Kd.C_alloc ?_ _)|(with_reducible refine Kd.C_drewN ?_ _)|(with_reducible refine Kd.C_drew ?_)));(case side4=>exact (Kd.R_reads' HO168.out).2.1);rintro e w12 ⟨rfl, hb⟩;refine ⟨_, rfl, ?_⟩;replace HO168:=k0_ (Kd.R_below (rq_ HO168.out) hb);replace HB:=k0_ (below_step (hb0_ HB.out) hb);clear hb)|((with_reducible refine gate_callee (f:=62) rfl ?_);refine goesL_ (some 29) rfl rfl Try.func62 (by kernel_rfl) rfl #[.slice A0 l0.length c0, .slice A1 l1.length c1, .int .i64 a2] rfl mt_ ?_;(with_reducible refine (commit_serve.calls k _ _ l0 _ _ l1 a2 t170 t171 true _ ?side1 ?side2 ?side3 ?side4 A7.out).mono ?_);(case side1=>repeat (first|exact (Kd.C_below HR0.out HB.out)|(with_reducible refine Kd.C_alloc ?_ _)|(with_reducible refine Kd.C_drewN ?_ _)|(with_reducible refine Kd.C_drew ?_)));(case side2=>exact HC0.out);(case side3=>repeat (first|exact (Kd.C_below HR1.out HB.out)|(with_reducible refine Kd.C_alloc ?_ _)|(with_reducible refine Kd.C_drewN ?_ _)|(with_reducible refine Kd.C_drew ?_)));(case side4=>exact HC1.out);rintro e w13 ⟨v173, rfl, ho0, hb⟩;refine ⟨_, rfl, ?_⟩;have HO174:=k0_ (Kd.R_lower (Kd.R_new' ho0 (Kd.R_lt (rq_ HO168.out))) (below_size (hb0_ HB.out)));replace HO168:=k0_ (Kd.R_elder' (rq_ HO168.out) (Kd.R_base ho0) hb);replace HB:=k0_ (below_step (hb0_ HB.out) hb);clear hb ho0))
    go_ret3
    exact ⟨_, er_, by (with_reducible repeat (first|apply Kd.R_alloc|apply Kd.R_drewN|apply Kd.R_drew));exact Kd.R_mono HO174.out (fun _ hk=>trivial), hb0_ HB.out⟩
   ·replace c8:=Bool.eq_false_iff.mpr c8
    subst c8;have H1 : (some (([] : List Int), 0, 8)) = some (r1, r2, r3):=by rw [if_neg (show ¬ (false = true) by decide)] at H;exact H
    clear H;have H:=H1;clear H1;simp only [Option.some.injEq, Prod.mk.injEq] at H;obtain ⟨rfl, rfl, rfl⟩:=H
    go_enter Try.func16, Try.ntmps16
    go_wp2_with (first|((with_reducible refine gate_dst (N:=15) rfl ?_);refine Kd.R_lit (Kd.int .i64) _ 3 ?hg (N:=15) ?hd (xs:=([a2] : List Int)) (inner:=[.int .i64 a2]) (ok:=fun _=>True) (okp:=fun _=>True) ?hr ?hp (fun _ hk=>hk) trivial (Below.refl _ _) (Nat.le_refl _) (by simp) ?_;(case hd=>rfl);(case hg=>rfl);(case hr=>first|(go_simp;done)|(go_simp;rfl));(case hp=>exact (Reps.one (show Kd.M (Kd.int .i64) _ _ _ a2 [.int .i64 a2] from rfl) (Reps.none _ _)));intro v167 w14 ho15 hb hg_ hnew_;clear hg_ hnew_;(first|rw [← Ny166.out] at ho15|(simp only [Int.reduceToNat] at ho15;rw [← Ny166.out] at ho15));have HO168:=k0_ (Kd.R_lower ho15 (below_size (hb0_ HB.out)));replace HB:=k0_ (below_step (hb0_ HB.out) hb);clear hb ho15;obtain ⟨Ao16, co16, eo16⟩:=Kd.R_slice HO168.out;subst eo16)|((with_reducible refine gate_callee (f:=61) rfl ?_);refine goesL_ (some 16) rfl rfl Try.func61 (by kernel_rfl) rfl #[.slice A0 l0.length c0, .slice Ao16 y166.length co16] rfl mt_ ?_;(with_reducible refine (dual_CheckAll.calls k _ _ l0 _ _ y166 t169 _ ?side1 ?side2 ?side3 ?side4 A4.out).mono ?_);(case side1=>repeat (first|exact (Kd.C_below HR0.out HB.out)|(with_reducible refine Kd.C_alloc ?_ _)|(with_reducible refine Kd.C_drewN ?_ _)|(with_reducible refine Kd.C_drew ?_)));(case side2=>exact HC0.out);(case side3=>repeat (first|exact (Kd.R_reads' HO168.out).2.2|(with_reducible refine Kd.C_alloc ?_ _)|(with_reducible refine Kd.C_drewN ?_ _)|(with_reducible refine Kd.C_drew ?_)));(case side4=>exact (Kd.R_reads' HO168.out).2.1);rintro e w17 ⟨rfl, hb⟩;refine ⟨_, rfl, ?_⟩;replace HO168:=k0_ (Kd.R_below (rq_ HO168.out) hb);replace HB:=k0_ (below_step (hb0_ HB.out) hb);clear hb)|((with_reducible refine gate_callee (f:=62) rfl ?_);refine goesL_ (some 29) rfl rfl Try.func62 (by kernel_rfl) rfl #[.slice A0 l0.length c0, .slice A1 l1.length c1, .int .i64 a2] rfl mt_ ?_;(with_reducible refine (commit_serve.calls k _ _ l0 _ _ l1 a2 t170 t171 false _ ?side1 ?side2 ?side3 ?side4 A7.out).mono ?_);(case side1=>repeat (first|exact (Kd.C_below HR0.out HB.out)|(with_reducible refine Kd.C_alloc ?_ _)|(with_reducible refine Kd.C_drewN ?_ _)|(with_reducible refine Kd.C_drew ?_)));(case side2=>exact HC0.out);(case side3=>repeat (first|exact (Kd.C_below HR1.out HB.out)|(with_reducible refine Kd.C_alloc ?_ _)|(with_reducible refine Kd.C_drewN ?_ _)|(with_reducible refine Kd.C_drew ?_)));(case side4=>exact HC1.out);rintro e w18 ⟨v173, rfl, ho0, hb⟩;refine ⟨_, rfl, ?_⟩;have HO174:=k0_ (Kd.R_lower (Kd.R_new' ho0 (Kd.R_lt (rq_ HO168.out))) (below_size (hb0_ HB.out)));replace HO168:=k0_ (Kd.R_elder' (rq_ HO168.out) (Kd.R_base ho0) hb);replace HB:=k0_ (below_step (hb0_ HB.out) hb);clear hb ho0))
    go_ret3
    exact ⟨_, er_, by first|exact Kd.R_nil _ _ _ _ _|exact Kd.N_nil _ _ _ _ _|exact Kd.V_nil _ _ _ _ _|exact Kd.Q_nil _ _ _ _ _|exact Kd.S_nil _ _ _ _ _, hb0_ HB.out⟩
  ·rw [if_neg c6] at H
   have c6b0:=beq_eq_false_iff_ne.mpr c6;have c6b1:=bne_iff_ne.mpr c6;have c6b2 : (l1.length == l0.length) = false:=by first|simpa using c6|(simp at c6 ⊢;omega)
   simp only [Option.some.injEq, Prod.mk.injEq] at H;obtain ⟨rfl, rfl, rfl⟩:=H
   go_enter Try.func16, Try.ntmps16
   go_wp2_with (first|((with_reducible refine gate_dst (N:=15) rfl ?_);refine Kd.R_lit (Kd.int .i64) _ 3 ?hg (N:=15) ?hd (xs:=([a2] : List Int)) (inner:=[.int .i64 a2]) (ok:=fun _=>True) (okp:=fun _=>True) ?hr ?hp (fun _ hk=>hk) trivial (Below.refl _ _) (Nat.le_refl _) (by simp) ?_;(case hd=>rfl);(case hg=>rfl);(case hr=>first|(go_simp;done)|(go_simp;rfl));(case hp=>exact (Reps.one (show Kd.M (Kd.int .i64) _ _ _ a2 [.int .i64 a2] from rfl) (Reps.none _ _)));intro v167 w19 ho20 hb hg_ hnew_;clear hg_ hnew_;(first|rw [← Ny166.out] at ho20|(simp only [Int.reduceToNat] at ho20;rw [← Ny166.out] at ho20));have HO168:=k0_ (Kd.R_lower ho20 (below_size (hb0_ HB.out)));replace HB:=k0_ (below_step (hb0_ HB.out) hb);clear hb ho20;obtain ⟨Ao21, co21, eo21⟩:=Kd.R_slice HO168.out;subst eo21)|((with_reducible refine gate_callee (f:=61) rfl ?_);refine goesL_ (some 16) rfl rfl Try.func61 (by kernel_rfl) rfl #[.slice A0 l0.length c0, .slice Ao21 y166.length co21] rfl mt_ ?_;(with_reducible refine (dual_CheckAll.calls k _ _ l0 _ _ y166 t169 _ ?side1 ?side2 ?side3 ?side4 A4.out).mono ?_);(case side1=>repeat (first|exact (Kd.C_below HR0.out HB.out)|(with_reducible refine Kd.C_alloc ?_ _)|(with_reducible refine Kd.C_drewN ?_ _)|(with_reducible refine Kd.C_drew ?_)));(case side2=>exact HC0.out);(case side3=>repeat (first|exact (Kd.R_reads' HO168.out).2.2|(with_reducible refine Kd.C_alloc ?_ _)|(with_reducible refine Kd.C_drewN ?_ _)|(with_reducible refine Kd.C_drew ?_)));(case side4=>exact (Kd.R_reads' HO168.out).2.1);rintro e w22 ⟨rfl, hb⟩;refine ⟨_, rfl, ?_⟩;replace HO168:=k0_ (Kd.R_below (rq_ HO168.out) hb);replace HB:=k0_ (below_step (hb0_ HB.out) hb);clear hb))
   go_ret3
   exact ⟨_, er_, by first|exact Kd.R_nil _ _ _ _ _|exact Kd.N_nil _ _ _ _ _|exact Kd.V_nil _ _ _ _ _|exact Kd.Q_nil _ _ _ _ _|exact Kd.S_nil _ _ _ _ _, hb0_ HB.out⟩
 ·rw [if_neg c5] at H
  have c5b0:=beq_eq_false_iff_ne.mpr c5;have c5b1:=bne_iff_ne.mpr c5;simp only [Option.some.injEq, Prod.mk.injEq] at H;obtain ⟨rfl, rfl, rfl⟩:=H
  go_enter Try.func16, Try.ntmps16
  go_wp2_with (first|((with_reducible refine gate_dst (N:=15) rfl ?_);refine Kd.R_lit (Kd.int .i64) _ 3 ?hg (N:=15) ?hd (xs:=([a2] : List Int)) (inner:=[.int .i64 a2]) (ok:=fun _=>True) (okp:=fun _=>True) ?hr ?hp (fun _ hk=>hk) trivial (Below.refl _ _) (Nat.le_refl _) (by simp) ?_;(case hd=>rfl);(case hg=>rfl);(case hr=>first|(go_simp;done)|(go_simp;rfl));(case hp=>exact (Reps.one (show Kd.M (Kd.int .i64) _ _ _ a2 [.int .i64 a2] from rfl) (Reps.none _ _)));intro v167 w23 ho24 hb hg_ hnew_;clear hg_ hnew_;(first|rw [← Ny166.out] at ho24|(simp only [Int.reduceToNat] at ho24;rw [← Ny166.out] at ho24));have HO168:=k0_ (Kd.R_lower ho24 (below_size (hb0_ HB.out)));replace HB:=k0_ (below_step (hb0_ HB.out) hb);clear hb ho24;obtain ⟨Ao25, co25, eo25⟩:=Kd.R_slice HO168.out;subst eo25)|((with_reducible refine gate_callee (f:=61) rfl ?_);refine goesL_ (some 16) rfl rfl Try.func61 (by kernel_rfl) rfl #[.slice A0 l0.length c0, .slice Ao25 y166.length co25] rfl mt_ ?_;(with_reducible refine (dual_CheckAll.calls k _ _ l0 _ _ y166 t169 _ ?side1 ?side2 ?side3 ?side4 A4.out).mono ?_);(case side1=>repeat (first|exact (Kd.C_below HR0.out HB.out)|(with_reducible refine Kd.C_alloc ?_ _)|(with_reducible refine Kd.C_drewN ?_ _)|(with_reducible refine Kd.C_drew ?_)));(case side2=>exact HC0.out);(case side3=>repeat (first|exact (Kd.R_reads' HO168.out).2.2|(with_reducible refine Kd.C_alloc ?_ _)|(with_reducible refine Kd.C_drewN ?_ _)|(with_reducible refine Kd.C_drew ?_)));(case side4=>exact (Kd.R_reads' HO168.out).2.1);rintro e w26 ⟨rfl, hb⟩;refine ⟨_, rfl, ?_⟩;replace HO168:=k0_ (Kd.R_below (rq_ HO168.out) hb);replace HB:=k0_ (below_step (hb0_ HB.out) hb);clear hb))
  go_ret3
  exact ⟨_, er_, by first|exact Kd.R_nil _ _ _ _ _|exact Kd.N_nil _ _ _ _ _|exact Kd.V_nil _ _ _ _ _|exact Kd.Q_nil _ _ _ _ _|exact Kd.S_nil _ _ _ _ _, hb0_ HB.out⟩

/-! ### gridhalllaw3_two: function 63 -/
def gridhalllaw3_two.f (a0 : ByteArray) : Option (ByteArray × (List (S132))) := some (a0, (([(⟨10, 5⟩ : S132), (⟨10, 8⟩ : S132)] : List (S132))))
set_option maxHeartbeats 8000000 in
set_option maxRecDepth 100000 in
theorem gridhalllaw3_two.calls (a0 : ByteArray) (r1 : ByteArray) (r2 : List (S132)) (w : World) (h : gridhalllaw3_two.f a0 = some (r1, r2)) :
  Calls Try.prog 63 #[.string a0] w fun e w' => ∃ v1_ : Value, e = .returned (.agg #[.string r1, v1_]) ∧ Kd.R k132 132 w' w.heap.size (fun _ => True) v1_ r2 ∧ Below w.heap.size w w' := by
 have hu57:=Try.underlying57;have hu132:=Try.underlying132;have HB:=k0_ (Below.refl w.heap.size w);have H : (some (a0, (([(⟨10, 5⟩ : S132),(⟨10, 8⟩ : S132)] : List (S132))))) = some (r1, r2):=h;clear h;obtain ⟨y176, hy176⟩ : ∃ y_ : List (S132), y_ = (([(⟨10, 5⟩ : S132),(⟨10, 8⟩ : S132)] : List (S132))):=⟨_, rfl⟩;replace H : (some (a0, y176)) = some (r1, r2):=by first|(rw [hy176];with_reducible exact H)|(have H2_:=(Option.bind_some _ _).symm.trans H;rw [hy176];with_reducible exact H2_)|(have H2_:=(Option.bind_some _ _).symm.trans H;with_reducible exact H2_)|with_reducible exact H|(rw [hy176];exact H)|exact H
 have Ny176:=k0_ hy176;clear hy176;simp only [Option.some.injEq, Prod.mk.injEq] at H;obtain ⟨rfl, rfl⟩:=H
 go_enter Try.func63, Try.ntmps63
 go_wp2_with (first|((with_reducible refine gate_dst (N:=2) rfl ?_);refine box_event ?hg (N:=2) ?hd (cs:=#[.string (⟨#[]⟩ : ByteArray), .slice none 0 0]) (t:=57) ?hr ?_;(case hd=>rfl);(case hg=>rfl);(case hr=>first|(go_simp;done)|(go_simp;rfl));intro gb175 hg w2 hbox hb;have BK175:=k0_ (hbox);have GW175:=k0_ ((by rw [hg];exact (below_size (hb0_ HB.out)) : w.heap.size ≤ gb175));have GE175:=k0_ ((by rw [hg];exact (below_size (hb0_ HB.out)) : w.heap.size ≤ gb175));replace HB:=k0_ (below_step (hb0_ HB.out) hb);clear hb hbox hg)|((with_reducible refine gate_dst (N:=6) rfl ?_);refine Kd.R_lit k132 _ 132 ?hg (N:=6) ?hd (xs:=([(⟨10, 5⟩ : S132),(⟨10, 8⟩ : S132)] : List (S132))) (inner:=[.int .i64 10, .int .i64 5, .int .i64 10, .int .i64 8]) (ok:=fun _=>True) (okp:=fun _=>True) ?hr ?hp (fun _ hk=>hk) trivial (Below.refl _ _) (Nat.le_refl _) (by simp) ?_;(case hd=>rfl);(case hg=>rfl);(case hr=>first|(go_simp;done)|(go_simp;rfl));(case hp=>exact (Reps.c2 (show Kd.M k132 _ _ _ (⟨10, 5⟩ : S132) [.int .i64 10, .int .i64 5] from (k132_mkM _ _ _ (⟨10, 5⟩ : S132) )) (Reps.c2 (show Kd.M k132 _ _ _ (⟨10, 8⟩ : S132) [.int .i64 10, .int .i64 8] from (k132_mkM _ _ _ (⟨10, 8⟩ : S132) )) (Reps.none _ _))));intro v177 w3 ho4 hb hg_ hnew_;clear hg_ hnew_;(first|rw [← Ny176.out] at ho4|(simp only [Int.reduceToNat] at ho4;rw [← Ny176.out] at ho4));have HO178:=k0_ (Kd.R_lower ho4 (below_size (hb1_ HB.out GE175.out)));replace BK175:=k0_ (blk_below (g:=gb175) (o:=.cells #[.string (⟨#[]⟩ : ByteArray), .slice none 0 0] 57 (0, 0)) (bq_ BK175.out) hb);replace HB:=k0_ (below_step (hb1_ HB.out GE175.out) hb);clear hb ho4;obtain ⟨Ao5, co5, eo5⟩:=Kd.R_slice HO178.out;subst eo5;obtain ⟨hcz6_0,hcz6_1⟩:=bc2_ BK175.out;obtain ⟨hfz6_0,hfz6_1⟩:=bf2_ BK175.out))
 refine bodyPost_ret (results_cell_row rfl _ _ gb175 57 #[.string a0, .slice Ao5 y176.length co5] (0, 0) _ rfl (by (with_reducible repeat (first|refine blk_drewN ?_ _|refine blk_drew ?_|refine blk_alloc ?_ _));refine blk_put (cs:=#[.string a0, .slice none 0 0]) ?_ 1 _ rfl;(with_reducible repeat (first|refine blk_drewN ?_ _|refine blk_drew ?_|refine blk_alloc ?_ _));refine blk_put (cs:=#[.string (⟨#[]⟩ : ByteArray), .slice none 0 0]) ?_ 0 _ rfl;(with_reducible repeat (first|refine blk_drewN ?_ _|refine blk_drew ?_|refine blk_alloc ?_ _));exact BK175.out) Try.underlying57 rfl (by kernel_rfl)) rfl ?_
 exact ⟨_, er_, by (with_reducible repeat (first|apply Kd.R_alloc|apply Kd.R_drewN|apply Kd.R_drew));exact Kd.R_mono (Kd.R_far (p:=⟨gb175, 1, none⟩) (Kd.R_far (p:=⟨gb175, 0, none⟩) (Kd.R_types HO178.out BK175.out (by decide)) (fun _ hk=>hk.2) (.string a0)) (fun _ hk=>hk.2) (.slice Ao5 y176.length co5)) (fun _ hk=>trivial), hb1_ HB.out GE175.out⟩

/-! ### gridhalllaw3_alone: function 17 -/
def gridhalllaw3_alone.f  : Option (ByteArray × Int × Int × Int × Int × Int × Int × Int × ByteArray × (List (S132)) × Bool × Int × Int) := (gridhalllaw3_two.f (⟨#[65]⟩ : ByteArray)).bind fun bt180 => (some ((⟨#[65]⟩ : ByteArray), 0, 20, 20, 20, 1, 1, 9, bt180.1, bt180.2, false, 5, 0))
set_option maxHeartbeats 8000000 in
set_option maxRecDepth 100000 in
theorem gridhalllaw3_alone.calls  (r1 : ByteArray) (r2 : Int) (r3 : Int) (r4 : Int) (r5 : Int) (r6 : Int) (r7 : Int) (r8 : Int) (r9 : ByteArray) (r10 : List (S132)) (r11 : Bool) (r12 : Int) (r13 : Int) (w : World) (h : gridhalllaw3_alone.f  = some (r1, r2, r3, r4, r5, r6, r7, r8, r9, r10, r11, r12, r13)) :
  Calls Try.prog 17 #[] w fun e w' => ∃ v9_ : Value, e = .returned (.agg #[.string r1, .int .i64 r2, .int .i64 r3, .int .i64 r4, .int .i64 r5, .int .i64 r6, .int .i64 r7, .int .i64 r8, .string r9, v9_, .bool r11, .int .i64 r12, .int .i64 r13]) ∧ Kd.R k132 132 w' w.heap.size (fun _ => True) v9_ r10 ∧ Below w.heap.size w w' := by
 have hu61:=Try.underlying61;have hu54:=Try.underlying54;have hu59:=Try.underlying59;have HB:=k0_ (Below.refl w.heap.size w);have H : ((gridhalllaw3_two.f (⟨#[65]⟩ : ByteArray)).bind fun bt180=>(some ((⟨#[65]⟩ : ByteArray), 0, 20, 20, 20, 1, 1, 9, bt180.1, bt180.2, false, 5, 0))) = some (r1, r2, r3, r4, r5, r6, r7, r8, r9, r10, r11, r12, r13):=h;clear h;replace H:=Option.bind_eq_some_iff.mp H;obtain ⟨⟨t180, t181⟩, A10, H⟩:=H;replace H : (some ((⟨#[65]⟩ : ByteArray), 0, 20, 20, 20, 1, 1, 9, t180, t181, false, 5, 0)) = some (r1, r2, r3, r4, r5, r6, r7, r8, r9, r10, r11, r12, r13):=H;have A1:=k0_ A10;clear A10;simp only [Option.some.injEq, Prod.mk.injEq] at H;obtain ⟨rfl, rfl, rfl, rfl, rfl, rfl, rfl, rfl, rfl, rfl, rfl, rfl, rfl⟩:=H
 go_enter Try.func17, Try.ntmps17
 go_wp2_with (first|((with_reducible refine gate_dst (N:=0) rfl ?_);refine box_event ?hg (N:=0) ?hd (cs:=#[.string (⟨#[]⟩ : ByteArray), .int .i64 0, .int .i64 0, .int .i64 0, .int .i64 0, .int .i64 0, .int .i64 0, .int .i64 0, .string (⟨#[]⟩ : ByteArray), .slice none 0 0, .bool false, .int .i64 0, .int .i64 0]) (t:=61) ?hr ?_;(case hd=>rfl);(case hg=>rfl);(case hr=>first|(go_simp;done)|(go_simp;rfl));intro gb179 hg w2 hbox hb;have BK179:=k0_ (hbox);have GW179:=k0_ ((by rw [hg];exact (below_size (hb0_ HB.out)) : w.heap.size ≤ gb179));have GE179:=k0_ ((by rw [hg];exact (below_size (hb0_ HB.out)) : w.heap.size ≤ gb179));replace HB:=k0_ (below_step (hb0_ HB.out) hb);clear hb hbox hg)|((with_reducible refine gate_callee (f:=63) rfl ?_);refine goesL_ (some 2) rfl rfl Try.func63 (by kernel_rfl) rfl #[.string (⟨#[65]⟩ : ByteArray)] rfl mt_ ?_;(with_reducible refine (gridhalllaw3_two.calls (⟨#[65]⟩ : ByteArray) t180 t181 _ A1.out).mono ?_);rintro e w3 ⟨v182, rfl, ho0, hb⟩;refine ⟨_, rfl, ?_⟩;have HO183:=k0_ (Kd.R_lower ho0 (below_size (hb1_ HB.out GE179.out)));replace BK179:=k0_ (blk_below (g:=gb179) (o:=.cells #[.string (⟨#[]⟩ : ByteArray), .int .i64 0, .int .i64 0, .int .i64 0, .int .i64 0, .int .i64 0, .int .i64 0, .int .i64 0, .string (⟨#[]⟩ : ByteArray), .slice none 0 0, .bool false, .int .i64 0, .int .i64 0] 61 (0, 0)) (bq_ BK179.out) hb);replace HB:=k0_ (below_step (hb1_ HB.out GE179.out) hb);clear hb ho0;obtain ⟨Ao4, co4, eo4⟩:=Kd.R_slice HO183.out;subst eo4;obtain ⟨hcz5_0,hcz5_1,hcz5_2,hcz5_3,hcz5_4,hcz5_5,hcz5_6,hcz5_7,hcz5_8,hcz5_9,hcz5_10,hcz5_11,hcz5_12⟩:=bc13_ BK179.out;obtain ⟨hfz5_0,hfz5_1,hfz5_2,hfz5_3,hfz5_4,hfz5_5,hfz5_6,hfz5_7,hfz5_8,hfz5_9,hfz5_10,hfz5_11,hfz5_12⟩:=bf13_ BK179.out)|((with_reducible refine gate_store (t:=61) (p:=0) rfl ?_);refine store_event (t:=61) (p:=0) (v:=?vo_w6) (w1:=(((((((((((((w3.setCell ⟨gb179, 0, none⟩ (.string (⟨#[65]⟩ : ByteArray))).setCell ⟨gb179, 1, none⟩ (.int .i64 0)).setCell ⟨gb179, 2, none⟩ (.int .i64 20)).setCell ⟨gb179, 3, none⟩ (.int .i64 20)).setCell ⟨gb179, 4, none⟩ (.int .i64 20)).setCell ⟨gb179, 5, none⟩ (.int .i64 1)).setCell ⟨gb179, 6, none⟩ (.int .i64 1)).setCell ⟨gb179, 7, none⟩ (.int .i64 9)).setCell ⟨gb179, 8, none⟩ (.string t180)).setCell ⟨gb179, 9, none⟩ (.slice Ao4 t181.length co4)).setCell ⟨gb179, 10, none⟩ (.bool false)).setCell ⟨gb179, 11, none⟩ (.int .i64 5)).setCell ⟨gb179, 12, none⟩ (.int .i64 0))) ?hg ?ho ?hn ?hr ?_;(case ho=>rfl);(case hg=>rfl);(case hn=>rfl);(case hr=>first|(go_simp;done)|(go_simp;rfl));intro w6 hw;have n0_ : Aside0 (Kd.R k132 132 w6 w.heap.size (fun _=>True) (.slice Ao4 t181.length co4) t181):=⟨(by rw [hw];exact (by (with_reducible repeat (first|apply Kd.R_alloc|apply Kd.R_drewN|apply Kd.R_drew));exact Kd.R_mono (Kd.R_far (p:=⟨gb179, 12, none⟩) (Kd.R_far (p:=⟨gb179, 11, none⟩) (Kd.R_far (p:=⟨gb179, 10, none⟩) (Kd.R_far (p:=⟨gb179, 9, none⟩) (Kd.R_far (p:=⟨gb179, 8, none⟩) (Kd.R_far (p:=⟨gb179, 7, none⟩) (Kd.R_far (p:=⟨gb179, 6, none⟩) (Kd.R_far (p:=⟨gb179, 5, none⟩) (Kd.R_far (p:=⟨gb179, 4, none⟩) (Kd.R_far (p:=⟨gb179, 3, none⟩) (Kd.R_far (p:=⟨gb179, 2, none⟩) (Kd.R_far (p:=⟨gb179, 1, none⟩) (Kd.R_far (p:=⟨gb179, 0, none⟩) (Kd.R_types HO183.out BK179.out (by decide)) (fun _ hk=>hk.2) (.string (⟨#[65]⟩ : ByteArray))) (fun _ hk=>hk.2) (.int .i64 0)) (fun _ hk=>hk.2) (.int .i64 20)) (fun _ hk=>hk.2) (.int .i64 20)) (fun _ hk=>hk.2) (.int .i64 20)) (fun _ hk=>hk.2) (.int .i64 1)) (fun _ hk=>hk.2) (.int .i64 1)) (fun _ hk=>hk.2) (.int .i64 9)) (fun _ hk=>hk.2) (.string t180)) (fun _ hk=>hk.2) (.slice Ao4 t181.length co4)) (fun _ hk=>hk.2) (.bool false)) (fun _ hk=>hk.2) (.int .i64 5)) (fun _ hk=>hk.2) (.int .i64 0)) (fun _ hk=>trivial)))⟩;have n1_ : Aside0 (w6.heap[gb179]? = some (.cells #[.string (⟨#[65]⟩ : ByteArray), .int .i64 0, .int .i64 20, .int .i64 20, .int .i64 20, .int .i64 1, .int .i64 1, .int .i64 9, .string t180, .slice Ao4 t181.length co4, .bool false, .int .i64 5, .int .i64 0] 61 (0, 0))):=⟨(by rw [hw];exact (by (with_reducible repeat (first|refine blk_drewN ?_ _|refine blk_drew ?_|refine blk_alloc ?_ _));refine blk_put (cs:=#[.string (⟨#[65]⟩ : ByteArray), .int .i64 0, .int .i64 20, .int .i64 20, .int .i64 20, .int .i64 1, .int .i64 1, .int .i64 9, .string t180, .slice Ao4 t181.length co4, .bool false, .int .i64 5, .int .i64 0]) ?_ 12 _ rfl;(with_reducible repeat (first|refine blk_drewN ?_ _|refine blk_drew ?_|refine blk_alloc ?_ _));refine blk_put (cs:=#[.string (⟨#[65]⟩ : ByteArray), .int .i64 0, .int .i64 20, .int .i64 20, .int .i64 20, .int .i64 1, .int .i64 1, .int .i64 9, .string t180, .slice Ao4 t181.length co4, .bool false, .int .i64 0, .int .i64 0]) ?_ 11 _ rfl;(with_reducible repeat (first|refine blk_drewN ?_ _|refine blk_drew ?_|refine blk_alloc ?_ _));refine blk_put (cs:=#[.string (⟨#[65]⟩ : ByteArray), .int .i64 0, .int .i64 20, .int .i64 20, .int .i64 20, .int .i64 1, .int .i64 1, .int .i64 9, .string t180, .slice Ao4 t181.length co4, .bool false, .int .i64 0, .int .i64 0]) ?_ 10 _ rfl;(with_reducible repeat (first|refine blk_drewN ?_ _|refine blk_drew ?_|refine blk_alloc ?_ _));refine blk_put (cs:=#[.string (⟨#[65]⟩ : ByteArray), .int .i64 0, .int .i64 20, .int .i64 20, .int .i64 20, .int .i64 1, .int .i64 1, .int .i64 9, .string t180, .slice none 0 0, .bool false, .int .i64 0, .int .i64 0]) ?_ 9 _ rfl;(with_reducible repeat (first|refine blk_drewN ?_ _|refine blk_drew ?_|refine blk_alloc ?_ _));refine blk_put (cs:=#[.string (⟨#[65]⟩ : ByteArray), .int .i64 0, .int .i64 20, .int .i64 20, .int .i64 20, .int .i64 1, .int .i64 1, .int .i64 9, .string (⟨#[]⟩ : ByteArray), .slice none 0 0, .bool false, .int .i64 0, .int .i64 0]) ?_ 8 _ rfl;(with_reducible repeat (first|refine blk_drewN ?_ _|refine blk_drew ?_|refine blk_alloc ?_ _));refine blk_put (cs:=#[.string (⟨#[65]⟩ : ByteArray), .int .i64 0, .int .i64 20, .int .i64 20, .int .i64 20, .int .i64 1, .int .i64 1, .int .i64 0, .string (⟨#[]⟩ : ByteArray), .slice none 0 0, .bool false, .int .i64 0, .int .i64 0]) ?_ 7 _ rfl;(with_reducible repeat (first|refine blk_drewN ?_ _|refine blk_drew ?_|refine blk_alloc ?_ _));refine blk_put (cs:=#[.string (⟨#[65]⟩ : ByteArray), .int .i64 0, .int .i64 20, .int .i64 20, .int .i64 20, .int .i64 1, .int .i64 0, .int .i64 0, .string (⟨#[]⟩ : ByteArray), .slice none 0 0, .bool false, .int .i64 0, .int .i64 0]) ?_ 6 _ rfl;(with_reducible repeat (first|refine blk_drewN ?_ _|refine blk_drew ?_|refine blk_alloc ?_ _));refine blk_put (cs:=#[.string (⟨#[65]⟩ : ByteArray), .int .i64 0, .int .i64 20, .int .i64 20, .int .i64 20, .int .i64 0, .int .i64 0, .int .i64 0, .string (⟨#[]⟩ : ByteArray), .slice none 0 0, .bool false, .int .i64 0, .int .i64 0]) ?_ 5 _ rfl;(with_reducible repeat (first|refine blk_drewN ?_ _|refine blk_drew ?_|refine blk_alloc ?_ _));refine blk_put (cs:=#[.string (⟨#[65]⟩ : ByteArray), .int .i64 0, .int .i64 20, .int .i64 20, .int .i64 0, .int .i64 0, .int .i64 0, .int .i64 0, .string (⟨#[]⟩ : ByteArray), .slice none 0 0, .bool false, .int .i64 0, .int .i64 0]) ?_ 4 _ rfl;(with_reducible repeat (first|refine blk_drewN ?_ _|refine blk_drew ?_|refine blk_alloc ?_ _));refine blk_put (cs:=#[.string (⟨#[65]⟩ : ByteArray), .int .i64 0, .int .i64 20, .int .i64 0, .int .i64 0, .int .i64 0, .int .i64 0, .int .i64 0, .string (⟨#[]⟩ : ByteArray), .slice none 0 0, .bool false, .int .i64 0, .int .i64 0]) ?_ 3 _ rfl;(with_reducible repeat (first|refine blk_drewN ?_ _|refine blk_drew ?_|refine blk_alloc ?_ _));refine blk_put (cs:=#[.string (⟨#[65]⟩ : ByteArray), .int .i64 0, .int .i64 0, .int .i64 0, .int .i64 0, .int .i64 0, .int .i64 0, .int .i64 0, .string (⟨#[]⟩ : ByteArray), .slice none 0 0, .bool false, .int .i64 0, .int .i64 0]) ?_ 2 _ rfl;(with_reducible repeat (first|refine blk_drewN ?_ _|refine blk_drew ?_|refine blk_alloc ?_ _));refine blk_put (cs:=#[.string (⟨#[65]⟩ : ByteArray), .int .i64 0, .int .i64 0, .int .i64 0, .int .i64 0, .int .i64 0, .int .i64 0, .int .i64 0, .string (⟨#[]⟩ : ByteArray), .slice none 0 0, .bool false, .int .i64 0, .int .i64 0]) ?_ 1 _ rfl;(with_reducible repeat (first|refine blk_drewN ?_ _|refine blk_drew ?_|refine blk_alloc ?_ _));refine blk_put (cs:=#[.string (⟨#[]⟩ : ByteArray), .int .i64 0, .int .i64 0, .int .i64 0, .int .i64 0, .int .i64 0, .int .i64 0, .int .i64 0, .string (⟨#[]⟩ : ByteArray), .slice none 0 0, .bool false, .int .i64 0, .int .i64 0]) ?_ 0 _ rfl;(with_reducible repeat (first|refine blk_drewN ?_ _|refine blk_drew ?_|refine blk_alloc ?_ _));exact BK179.out))⟩;have n2_ : Aside0 (Below w.heap.size w w6):=⟨(by rw [hw];exact (hb1_ HB.out GE179.out))⟩;clear hw;clear HO183;clear BK179;clear HB;have HO183:=n0_;have BK179:=n1_;have HB:=n2_;clear n0_ n1_ n2_))
 refine bodyPost_ret (results_cell_row rfl _ _ gb179 61 #[.string (⟨#[65]⟩ : ByteArray), .int .i64 0, .int .i64 20, .int .i64 20, .int .i64 20, .int .i64 1, .int .i64 1, .int .i64 9, .string t180, .slice Ao4 t181.length co4, .bool false, .int .i64 5, .int .i64 0] (0, 0) _ rfl (bq_ BK179.out) Try.underlying61 rfl (by kernel_rfl)) rfl ?_
 exact ⟨_, er_, by (with_reducible repeat (first|apply Kd.R_alloc|apply Kd.R_drewN|apply Kd.R_drew));exact HO183.out, hb1_ HB.out GE179.out⟩

/-! ### gridhallref3_SameInts: function 18 -/
def gridhallref3_SameInts.l0 : Nat → List Int → List Int → Int → Int → Option (Bool)
 | 0, _, _, _, _ => none
 | k + 1, x0, x1, x12, x13 => if x13 < x12 then (if 0 ≤ x13 then (if x13 < (x0.length : Int) then (if x13 < (x1.length : Int) then (if (rd x0 x13) = (rd x1 x13) then (gridhallref3_SameInts.l0 k x0 x1 x12 (wrap64 (x13 + 1))) else (some false)) else (none)) else (none)) else (none)) else (some true)
def gridhallref3_SameInts.f (k : Nat) (l0 : List Int) (l1 : List Int) : Option (Bool) := if (l0.length : Int) = (l1.length : Int) then (gridhallref3_SameInts.l0 k l0 l1 (l0.length : Int) 0) else (some false)
theorem gridhallref3_SameInts.mono_l : ∀ k, (∀ y0 y1 y2 y3, LeO (gridhallref3_SameInts.l0 k y0 y1 y2 y3) (gridhallref3_SameInts.l0 (k + 1) y0 y1 y2 y3))
 | 0 => fun _ _ _ _ r h => by simp [gridhallref3_SameInts.l0] at h
 | k + 1 => by
  have ih0:=gridhallref3_SameInts.mono_l k
  ·intro y0 y1 y2 y3
   unfold gridhallref3_SameInts.l0
   repeat' first|(with_reducible first|exact ih0 _ _ _ _|exact LeO.refl _|exact LeO.none _|refine LeO.ite ?_ ?_|refine LeO.bind ?_ (fun _=>?_))|exact ih0 _ _ _ _|exact LeO.none _|refine LeO.ite ?_ ?_|refine LeO.bind ?_ (fun _=>?_)
theorem gridhallref3_SameInts.mono : ∀ a0 a1 k, LeO (gridhallref3_SameInts.f k a0 a1) (gridhallref3_SameInts.f (k + 1) a0 a1) := by
 intro a0 a1 k
 have ih0:=gridhallref3_SameInts.mono_l k
 unfold gridhallref3_SameInts.f
 repeat' first|(with_reducible first|exact ih0 _ _ _ _|exact LeO.refl _|exact LeO.none _|refine LeO.ite ?_ ?_|refine LeO.bind ?_ (fun _=>?_))|exact ih0 _ _ _ _|exact LeO.none _|refine LeO.ite ?_ ?_|refine LeO.bind ?_ (fun _=>?_)
set_option maxHeartbeats 8000000 in
set_option maxRecDepth 100000 in
theorem gridhallref3_SameInts.calls (k : Nat) (A0 : Option Addr) (c0 : Nat) (l0 : List Int) (A1 : Option Addr) (c1 : Nat) (l1 : List Int) (r : Bool) (w : World) (hr0 : Kd.C (Kd.int .i64) w A0 l0.length l0) (hc0 : l0.length ≤ c0) (hr1 : Kd.C (Kd.int .i64) w A1 l1.length l1) (hc1 : l1.length ≤ c1) (h : gridhallref3_SameInts.f k l0 l1 = some r) :
  Calls Try.prog 18 #[.slice A0 l0.length c0, .slice A1 l1.length c1] w fun e w' => e = .returned (.bool r) ∧ Drawn0 w w' := by
 have HR0:=k0_ hr0;have HC0:=k0_ hc0;clear hr0 hc0;have HR1:=k0_ hr1;have HC1:=k0_ hc1;clear hr1 hc1;have H : (if (l0.length : Int) = (l1.length : Int) then (gridhallref3_SameInts.l0 k l0 l1 (l0.length : Int) 0) else (some false)) = some r:=h;clear h
 by_cases c3 : (l0.length : Int) = (l1.length : Int)
 ·rw [if_pos c3] at H
  have c3b0:=beq_iff_eq.mpr c3;have c3b1:=bne_eq_false_iff_eq.mpr c3;have c3b2 : (l0.length == l1.length) = true:=by first|simpa using c3|(simp at c3 ⊢;omega)
  clear c3;have H':=k0_ H;clear H
  go_enter Try.func18, Try.ntmps18
  go_wp2
  (try simp only [Act.put, q1_,q3_,q2_])
  go_loopg [13] k (fun kq v13 w'=>∃ (x13_1 : Int), v13 = .int .i64 x13_1∧Aside0 (gridhallref3_SameInts.l0 kq l0 l1 (l0.length : Int) x13_1 = some r)∧Aside0 (kq ≤ k)∧Drawn0 w w')
  case atStart=>exact ⟨(0),rs_, H', ⟨Nat.le_refl _⟩, by repeat (first|exact Drawn0.refl _|apply Drawn0.step)⟩
  clear H' c3b0 c3b1 c3b2;obtain ⟨x13_1, rfl, HA, HK1, ⟨m1, rfl⟩⟩:=hrel;obtain _|k1:=gk
  ·exact absurd HA.out (by simp [gridhallref3_SameInts.l0])
  have H:=HA.out;clear HA;simp only [gridhallref3_SameInts.l0] at H
  by_cases c4 : x13_1 < (l0.length : Int)
  ·rw [if_pos c4] at H
   have c4b0:=decide_eq_true c4;clear c4
   by_cases c5 : 0 ≤ x13_1
   rw [if_pos c5] at H;have c5b0:=decide_eq_true c5;clear c5
   focus
    by_cases c6 : x13_1 < (l0.length : Int)
    rw [if_pos c6] at H;have c6b0:=decide_eq_true c6;clear c6
    focus
     by_cases c7 : x13_1 < (l1.length : Int)
     rw [if_pos c7] at H;have c7b0:=decide_eq_true c7;clear c7
     focus
      by_cases c8 : (rd l0 x13_1) = (rd l1 x13_1)
      rw [if_pos c8] at H;have c8b0:=beq_iff_eq.mpr c8;have c8b1:=bne_eq_false_iff_eq.mpr c8;clear c8;have H':=k0_ H;clear H;rotate_left;rw [if_neg c8] at H;have c8b0:=beq_eq_false_iff_ne.mpr c8;have c8b1:=bne_iff_ne.mpr c8;obtain rfl:=Option.some.inj H;rotate_left
     rotate_left 2;rw [if_neg c7] at H
     exact absurd H (by simp)
    rotate_left 2;rw [if_neg c6] at H
    exact absurd H (by simp)
   rotate_left 2;rw [if_neg c5] at H
   exact absurd H (by simp)
   all_goals
    have p184 : 0 ≤ (x13_1 : Int):=of_decide_eq_true as_;have q184 : x13_1 < (l0.length : Int):=of_decide_eq_true as_;obtain ⟨ad184, e184, hx184_0⟩:=Kd.at_int HR0.out x13_1 p184 q184;cases e184;replace p184:=eq_true p184;replace q184:=eq_true q184;have p185 : 0 ≤ (x13_1 : Int):=of_decide_eq_true as_;have q185 : x13_1 < (l1.length : Int):=of_decide_eq_true as_;obtain ⟨ad185, e185, hx185_0⟩:=Kd.at_int HR1.out x13_1 p185 q185;cases e185;replace p185:=eq_true p185;replace q185:=eq_true q185;go_wp2
    repeat (go_quiet (fail);try go_wp2)
   ·go_roundg k1
    case measure=>have:=HK1.out;omega
    case rel=>exact ⟨(wrap64 (x13_1 + 1)),rs_, H', ⟨by have:=HK1.out;omega⟩, by repeat (first|exact Drawn0.refl _|apply Drawn0.step)⟩
   ·go_ret
    exact ⟨by first|rfl|(simp;done)|(simp [*];done), by repeat (first|exact Drawn0.refl _|apply Drawn0.step)⟩
  ·rw [if_neg c4] at H
   have c4b0:=decide_eq_false c4;clear c4;obtain rfl:=Option.some.inj H;go_wp2
   go_ret
   exact ⟨by first|rfl|(simp;done)|(simp [*];done), by repeat (first|exact Drawn0.refl _|apply Drawn0.step)⟩
 ·rw [if_neg c3] at H
  have c3b0:=beq_eq_false_iff_ne.mpr c3;have c3b1:=bne_iff_ne.mpr c3;have c3b2 : (l0.length == l1.length) = false:=by first|simpa using c3|(simp at c3 ⊢;omega)
  obtain rfl:=Option.some.inj H
  go_enter Try.func18, Try.ntmps18
  go_wp2
  go_ret
  exact ⟨by first|rfl|(simp;done)|(simp [*];done), by repeat (first|exact Drawn0.refl _|apply Drawn0.step)⟩

/-! ### gridhallref3_In: function 21 -/
def gridhallref3_In.f (a0 : Int) (a1 : Int) (a2 : Int) : Option (Bool) := if a0 ≥ a1 then (some (decide (a0 ≤ a2))) else (some false)
set_option maxHeartbeats 8000000 in
set_option maxRecDepth 100000 in
theorem gridhallref3_In.calls (a0 : Int) (a1 : Int) (a2 : Int) (r : Bool) (w : World) (h : gridhallref3_In.f a0 a1 a2 = some r) :
  Calls Try.prog 21 #[.int .i64 a0, .int .i64 a1, .int .i64 a2] w fun e w' => e = .returned (.bool r) ∧ Drawn0 w w' := by
 have H : (if a0 ≥ a1 then (some (decide (a0 ≤ a2))) else (some false)) = some r:=h;clear h
 by_cases c4 : a0 ≥ a1
 ·rw [if_pos c4] at H
  have c4b0:=decide_eq_true c4;clear c4;obtain rfl:=Option.some.inj H
  go_enter Try.func21, Try.ntmps21
  go_wp2
  go_ret
  exact ⟨by first|rfl|(simp;done)|(simp [*];done), by repeat (first|exact Drawn0.refl _|apply Drawn0.step)⟩
 ·rw [if_neg c4] at H
  have c4b0:=decide_eq_false c4;clear c4;obtain rfl:=Option.some.inj H
  go_enter Try.func21, Try.ntmps21
  go_wp2
  go_ret
  exact ⟨by first|rfl|(simp;done)|(simp [*];done), by repeat (first|exact Drawn0.refl _|apply Drawn0.step)⟩

/-! ### gridhallref3_Named: function 115 -/
mutual
def gridhallref3_Named.j0 : Nat → ByteArray → Bool → Option (Bool)
 | 0, _, _ => none
 | k + 1, x0, x17 => if x17 = true then (some false) else (gridhallref3_Named.l0 k x0 (x0.size : Int) 0)
def gridhallref3_Named.l0 : Nat → ByteArray → Int → Int → Option (Bool)
 | 0, _, _, _ => none
 | k + 1, x0, x19, x20 => if x20 < x19 then (if 0 ≤ x20 then (if x20 < (x0.size : Int) then ((gridhallref3_In.f (wrap64 (bt x0 x20)) 65 90).bind fun t187 => (if t187 = true then (gridhallref3_Named.l0 k x0 x19 (wrap64 (x20 + 1))) else ((gridhallref3_In.f (wrap64 (bt x0 x20)) 48 57).bind fun t188 => (if t188 = true then (gridhallref3_Named.l0 k x0 x19 (wrap64 (x20 + 1))) else (some false))))) else (none)) else (none)) else (some true)
end
def gridhallref3_Named.f (k : Nat) (a0 : ByteArray) : Option (Bool) := if (a0.size : Int) < 1 then (gridhallref3_Named.j0 k a0 true) else (if (a0.size : Int) > 8 then (gridhallref3_Named.j0 k a0 true) else (if 0 < (a0.size : Int) then ((gridhallref3_In.f (wrap64 (bt a0 0)) 48 57).bind fun t186 => (gridhallref3_Named.j0 k a0 t186)) else (none)))
theorem gridhallref3_Named.mono_l : ∀ k, (∀ y0 y1, LeO (gridhallref3_Named.j0 k y0 y1) (gridhallref3_Named.j0 (k + 1) y0 y1)) ∧ (∀ y0 y1 y2, LeO (gridhallref3_Named.l0 k y0 y1 y2) (gridhallref3_Named.l0 (k + 1) y0 y1 y2))
 | 0 => ⟨fun _ _ r h => by simp [gridhallref3_Named.j0] at h, fun _ _ _ r h => by simp [gridhallref3_Named.l0] at h⟩
 | k + 1 => by
  obtain ⟨ih0, ih1⟩:=gridhallref3_Named.mono_l k
  refine ⟨?_, ?_⟩
  ·intro y0 y1
   unfold gridhallref3_Named.j0
   repeat' first|(with_reducible first|exact ih0 _ _|exact ih1 _ _ _|exact LeO.refl _|exact LeO.none _|refine LeO.ite ?_ ?_|refine LeO.bind ?_ (fun _=>?_))|exact ih0 _ _|exact ih1 _ _ _|exact LeO.none _|refine LeO.ite ?_ ?_|refine LeO.bind ?_ (fun _=>?_)
  ·intro y0 y1 y2
   unfold gridhallref3_Named.l0
   repeat' first|(with_reducible first|exact ih0 _ _|exact ih1 _ _ _|exact LeO.refl _|exact LeO.none _|refine LeO.ite ?_ ?_|refine LeO.bind ?_ (fun _=>?_))|exact ih0 _ _|exact ih1 _ _ _|exact LeO.none _|refine LeO.ite ?_ ?_|refine LeO.bind ?_ (fun _=>?_)
theorem gridhallref3_Named.mono : ∀ a0 k, LeO (gridhallref3_Named.f k a0) (gridhallref3_Named.f (k + 1) a0) := by
 intro a0 k
 obtain ⟨ih0, ih1⟩:=gridhallref3_Named.mono_l k
 unfold gridhallref3_Named.f
 repeat' first|(with_reducible first|exact ih0 _ _|exact ih1 _ _ _|exact LeO.refl _|exact LeO.none _|refine LeO.ite ?_ ?_|refine LeO.bind ?_ (fun _=>?_))|exact ih0 _ _|exact ih1 _ _ _|exact LeO.none _|refine LeO.ite ?_ ?_|refine LeO.bind ?_ (fun _=>?_)
set_option maxHeartbeats 8000000 in
set_option maxRecDepth 100000 in
theorem gridhallref3_Named.calls (k : Nat) (a0 : ByteArray) (r : Bool) (w : World) (h : gridhallref3_Named.f k a0 = some r) :
  Calls Try.prog 115 #[.string a0] w fun e w' => e = .returned (.bool r) ∧ Drawn0 w w' := by
 have H : (if (a0.size : Int) < 1 then (gridhallref3_Named.j0 k a0 true) else (if (a0.size : Int) > 8 then (gridhallref3_Named.j0 k a0 true) else (if 0 < (a0.size : Int) then ((gridhallref3_In.f (wrap64 (bt a0 0)) 48 57).bind fun t186=>(gridhallref3_Named.j0 k a0 t186)) else (none)))) = some r:=h;clear h;have HC2:=k0_ H;clear H
 go_enter Try.func115, Try.ntmps115
 go_upto_region 1 with (fail)
 go_cut [17] (fun v17 wc=>∃ (kq : Nat) (x17_1 : Bool), v17 = .bool x17_1∧Aside0 (gridhallref3_Named.j0 kq a0 x17_1 = some r)∧Aside0 (kq ≤ k)∧Drawn0 w wc)
 case first =>
  have H:=HC2.out;clear HC2
  by_cases c3 : (a0.size : Int) < 1
  ·rw [if_pos c3] at H
   have c3b0:=decide_eq_true c3;have c3b1 : decide (a0.size < 1) = true:=decide_eq_true (by omega);clear c3;(first|rw [c3b0]|(simp only [i64_w, i32_w];rw [c3b0])|skip);have H':=k0_ H;clear H;go_wp2
   go_meet
   case rel=>exact ⟨_, (true),rs_, H', ⟨by first|omega|exact Nat.le_refl _⟩, by repeat (first|exact Drawn0.refl _|apply Drawn0.step)⟩
  ·rw [if_neg c3] at H
   have c3b0:=decide_eq_false c3;have c3b1 : decide (a0.size < 1) = false:=decide_eq_false (by omega);clear c3;(first|rw [c3b0]|(simp only [i64_w, i32_w];rw [c3b0])|skip)
   by_cases c4 : (a0.size : Int) > 8
   ·rw [if_pos c4] at H
    have c4b0:=decide_eq_true c4;have c4b1 : decide (8 < a0.size) = true:=decide_eq_true (by omega);clear c4;have H':=k0_ H;clear H;go_wp2
    go_meet
    case rel=>exact ⟨_, (true),rs_, H', ⟨by first|omega|exact Nat.le_refl _⟩, by repeat (first|exact Drawn0.refl _|apply Drawn0.step)⟩
   ·rw [if_neg c4] at H
    have c4b0:=decide_eq_false c4;have c4b1 : decide (8 < a0.size) = false:=decide_eq_false (by omega);clear c4
    obtain ⟨c5,H⟩:=gi_ H;have c5b0:=decide_eq_true c5;have c5b1 : decide (0 < a0.size) = true:=decide_eq_true (by omega);clear c5;replace H:=Option.bind_eq_some_iff.mp H;obtain ⟨t186, A70, H⟩:=H;replace H : (gridhallref3_Named.j0 k a0 t186) = some r:=H;have A7:=k0_ A70;clear A70;have H':=k0_ H;clear H;have p6 : 0 ≤ (0 : Int):=(by omega);have q6 : 0 < a0.size:=(by have : (0 : Int) < (a0.size : Int):=of_decide_eq_true as_;omega);have hx6 : ∀ h : 0 < a0.size, ((a0[0]'h).toNat : Int) = bt a0 0:=bt_at a0 0;clear p6;have qi6 : (0 < (a0.size : Int)) = True:=eq_true (of_decide_eq_true as_);replace q6:=eq_true q6
    go_wp2_with (first|(go_at_call 21;(with_reducible refine (gridhallref3_In.calls (wrap64 (bt a0 0)) 48 57 t186 _ A7.out).mono ?_);rintro e w' ⟨rfl, ⟨nd, rfl⟩⟩))
    go_meet
    case rel=>exact ⟨_, (t186),rs_, H', ⟨by first|omega|exact Nat.le_refl _⟩, by repeat (first|exact Drawn0.refl _|apply Drawn0.step)⟩
 clear HC2;obtain ⟨kq, x17_1, rfl, HA, HJ1, ⟨mc1, rfl⟩⟩:=hcut;obtain _|kj1:=kq
 ·exact absurd HA.out (by simp [gridhallref3_Named.j0])
 have H:=HA.out;clear HA;simp only [gridhallref3_Named.j0] at H
 by_cases c8 : x17_1 = true
 ·subst c8
  have H1 : (some false) = some r:=by rw [if_pos rfl] at H;exact H
  clear H;have H:=H1;clear H1;obtain rfl:=Option.some.inj H;go_wp2
  go_ret
  exact ⟨by first|rfl|(simp;done)|(simp [*];done), by repeat (first|exact Drawn0.refl _|apply Drawn0.step)⟩
 ·replace c8:=Bool.eq_false_iff.mpr c8
  subst c8;have H1 : (gridhallref3_Named.l0 kj1 a0 (a0.size : Int) 0) = some r:=by rw [if_neg (show ¬ (false = true) by decide)] at H;exact H
  clear H;have H:=H1;clear H1;have H':=k0_ H;clear H;go_wp2;(try simp only [Act.put, q1_,q3_,q2_])
  go_loopg [20] kj1 (fun kq v20 w'=>∃ (x20_2 : Int), v20 = .int .i64 x20_2∧Aside0 (gridhallref3_Named.l0 kq a0 (a0.size : Int) x20_2 = some r)∧Aside0 (kq ≤ kj1)∧Drawn0 w w')
  case atStart=>exact ⟨(0),rs_, H', ⟨Nat.le_refl _⟩, by repeat (first|exact Drawn0.refl _|apply Drawn0.step)⟩
  clear H';obtain ⟨x20_2, rfl, HA, HK2, ⟨m2, rfl⟩⟩:=hrel;obtain _|k2:=gk
  ·exact absurd HA.out (by simp [gridhallref3_Named.l0])
  have H:=HA.out;clear HA;simp only [gridhallref3_Named.l0] at H
  by_cases c9 : x20_2 < (a0.size : Int)
  ·rw [if_pos c9] at H
   have c9b0:=decide_eq_true c9;clear c9
   by_cases c10 : 0 ≤ x20_2
   rw [if_pos c10] at H;have c10b0:=decide_eq_true c10;clear c10
   focus
    by_cases c11 : x20_2 < (a0.size : Int)
    rw [if_pos c11] at H;have c11b0:=decide_eq_true c11;clear c11;replace H:=Option.bind_eq_some_iff.mp H;obtain ⟨t187, A130, H⟩:=H;replace H : (if t187 = true then (gridhallref3_Named.l0 k2 a0 (a0.size : Int) (wrap64 (x20_2 + 1))) else ((gridhallref3_In.f (wrap64 (bt a0 x20_2)) 48 57).bind fun t188=>(if t188 = true then (gridhallref3_Named.l0 k2 a0 (a0.size : Int) (wrap64 (x20_2 + 1))) else (some false)))) = some r:=H;have A13:=k0_ A130;clear A130
    focus
     by_cases c14 : t187 = true
     subst c14;have H1 : (gridhallref3_Named.l0 k2 a0 (a0.size : Int) (wrap64 (x20_2 + 1))) = some r:=by rw [if_pos rfl] at H;exact H
     clear H;have H:=H1;clear H1;have H':=k0_ H;clear H;rotate_left;replace c14:=Bool.eq_false_iff.mpr c14;subst c14;have H1 : ((gridhallref3_In.f (wrap64 (bt a0 x20_2)) 48 57).bind fun t188=>(if t188 = true then (gridhallref3_Named.l0 k2 a0 (a0.size : Int) (wrap64 (x20_2 + 1))) else (some false))) = some r:=by rw [if_neg (show ¬ (false = true) by decide)] at H;exact H
     clear H;have H:=H1;clear H1;replace H:=Option.bind_eq_some_iff.mp H;obtain ⟨t188, A160, H⟩:=H;replace H : (if t188 = true then (gridhallref3_Named.l0 k2 a0 (a0.size : Int) (wrap64 (x20_2 + 1))) else (some false)) = some r:=H;have A16:=k0_ A160;clear A160
     focus
      by_cases c17 : t188 = true
      subst c17;have H1 : (gridhallref3_Named.l0 k2 a0 (a0.size : Int) (wrap64 (x20_2 + 1))) = some r:=by rw [if_pos rfl] at H;exact H
      clear H;have H:=H1;clear H1;have H':=k0_ H;clear H;rotate_left;replace c17:=Bool.eq_false_iff.mpr c17;subst c17;have H1 : (some false) = some r:=by rw [if_neg (show ¬ (false = true) by decide)] at H;exact H
      clear H;have H:=H1;clear H1;obtain rfl:=Option.some.inj H;rotate_left
     rotate_left 2
    rotate_left 3;rw [if_neg c11] at H
    exact absurd H (by simp)
   rotate_left 3;rw [if_neg c10] at H
   exact absurd H (by simp)
   all_goals
    have p12 : 0 ≤ (x20_2 : Int):=of_decide_eq_true as_;have q12 : x20_2 < (a0.size : Int):=of_decide_eq_true as_;have hx12:=bt_at a0 x20_2;replace p12:=eq_true p12;replace q12:=eq_true q12
   ·go_wp2_with (first|((with_reducible refine gate_callee (f:=21) rfl ?_);refine goesL_ (some 27) rfl rfl Try.func21 (by kernel_rfl) rfl #[.int .i64 (wrap64 (bt a0 x20_2)), .int .i64 65, .int .i64 90] rfl mt_ ?_;(with_reducible refine (gridhallref3_In.calls (wrap64 (bt a0 x20_2)) 65 90 true _ A13.out).mono ?_);rintro e w' ⟨rfl, ⟨nd, rfl⟩⟩;refine ⟨_, rfl, ?_⟩))
    go_roundg k2
    case measure=>have:=HJ1.out;have:=HK2.out;omega
    case rel=>exact ⟨(wrap64 (x20_2 + 1)),rs_, H', ⟨by have:=HJ1.out;have:=HK2.out;omega⟩, by repeat (first|exact Drawn0.refl _|apply Drawn0.step)⟩
   ·go_wp2_with (first|((with_reducible refine gate_callee (f:=21) rfl ?_);refine goesL_ (some 27) rfl rfl Try.func21 (by kernel_rfl) rfl #[.int .i64 (wrap64 (bt a0 x20_2)), .int .i64 65, .int .i64 90] rfl mt_ ?_;(with_reducible refine (gridhallref3_In.calls (wrap64 (bt a0 x20_2)) 65 90 false _ A13.out).mono ?_);rintro e w' ⟨rfl, ⟨nd, rfl⟩⟩;refine ⟨_, rfl, ?_⟩;have p15 : 0 ≤ (x20_2 : Int):=of_decide_eq_true as_;have q15 : x20_2 < (a0.size : Int):=of_decide_eq_true as_;have hx15:=bt_at a0 x20_2;replace p15:=eq_true p15;replace q15:=eq_true q15)|(go_at_call 21;(with_reducible refine (gridhallref3_In.calls (wrap64 (bt a0 x20_2)) 48 57 true _ A16.out).mono ?_);rintro e w' ⟨rfl, ⟨nd, rfl⟩⟩))
    go_roundg k2
    case measure=>have:=HJ1.out;have:=HK2.out;omega
    case rel=>exact ⟨(wrap64 (x20_2 + 1)),rs_, H', ⟨by have:=HJ1.out;have:=HK2.out;omega⟩, by repeat (first|exact Drawn0.refl _|apply Drawn0.step)⟩
   ·go_wp2_with (first|((with_reducible refine gate_callee (f:=21) rfl ?_);refine goesL_ (some 27) rfl rfl Try.func21 (by kernel_rfl) rfl #[.int .i64 (wrap64 (bt a0 x20_2)), .int .i64 65, .int .i64 90] rfl mt_ ?_;(with_reducible refine (gridhallref3_In.calls (wrap64 (bt a0 x20_2)) 65 90 false _ A13.out).mono ?_);rintro e w' ⟨rfl, ⟨nd, rfl⟩⟩;refine ⟨_, rfl, ?_⟩;have p15 : 0 ≤ (x20_2 : Int):=of_decide_eq_true as_;have q15 : x20_2 < (a0.size : Int):=of_decide_eq_true as_;have hx15:=bt_at a0 x20_2;replace p15:=eq_true p15;replace q15:=eq_true q15)|(go_at_call 21;(with_reducible refine (gridhallref3_In.calls (wrap64 (bt a0 x20_2)) 48 57 false _ A16.out).mono ?_);rintro e w' ⟨rfl, ⟨nd, rfl⟩⟩))
    go_ret
    exact ⟨by first|rfl|(simp;done)|(simp [*];done), by repeat (first|exact Drawn0.refl _|apply Drawn0.step)⟩
  ·rw [if_neg c9] at H
   have c9b0:=decide_eq_false c9;clear c9;obtain rfl:=Option.some.inj H;go_wp2
   go_ret
   exact ⟨by first|rfl|(simp;done)|(simp [*];done), by repeat (first|exact Drawn0.refl _|apply Drawn0.step)⟩

/-! ### gridhallref3_RuleError: function 114 -/
def gridhallref3_RuleError.f (k : Nat) (a0_0 : ByteArray) (a0_1 : Int) (a0_2 : Int) (a0_3 : Int) (a0_4 : Int) (a0_5 : Int) (a0_6 : Int) (a0_7 : Int) : Option (Int) := (gridhallref3_Named.f k a0_0).bind fun t190 => (if t190 = true then ((gridhallref3_In.f a0_1 0 a0_2).bind fun t191 => (if t191 = true then (if a0_2 ≤ 100000 then ((gridhallref3_In.f a0_3 1 100000).bind fun t192 => (if t192 = true then ((gridhallref3_In.f a0_4 1 100000).bind fun t193 => (if t193 = true then ((gridhallref3_In.f a0_5 1 24).bind fun t194 => (if t194 = true then ((gridhallref3_In.f a0_6 1 24).bind fun t195 => (if t195 = true then ((gridhallref3_In.f a0_7 0 1000000).bind fun t196 => (if t196 = true then (some 0) else (some 4))) else (some 4))) else (some 4))) else (some 4))) else (some 4))) else (some 4)) else (some 4))) else (some 6))
theorem gridhallref3_RuleError.mono : ∀ a0 a1 a2 a3 a4 a5 a6 a7 k, LeO (gridhallref3_RuleError.f k a0 a1 a2 a3 a4 a5 a6 a7) (gridhallref3_RuleError.f (k + 1) a0 a1 a2 a3 a4 a5 a6 a7) := by
 intro a0 a1 a2 a3 a4 a5 a6 a7 k
 unfold gridhallref3_RuleError.f
 repeat' first|(with_reducible first|exact gridhallref3_Named.mono _ _|exact LeO.refl _|exact LeO.none _|refine LeO.ite ?_ ?_|refine LeO.bind ?_ (fun _=>?_))|exact gridhallref3_Named.mono _ _|exact LeO.none _|refine LeO.ite ?_ ?_|refine LeO.bind ?_ (fun _=>?_)
set_option maxHeartbeats 8000000 in
set_option maxRecDepth 100000 in
theorem gridhallref3_RuleError.calls (k : Nat) (a0_0 : ByteArray) (a0_1 : Int) (a0_2 : Int) (a0_3 : Int) (a0_4 : Int) (a0_5 : Int) (a0_6 : Int) (a0_7 : Int) (r : Int) (w : World) (h : gridhallref3_RuleError.f k a0_0 a0_1 a0_2 a0_3 a0_4 a0_5 a0_6 a0_7 = some r) :
  Calls Try.prog 114 #[.agg #[.string a0_0, .int .i64 a0_1, .int .i64 a0_2, .int .i64 a0_3, .int .i64 a0_4, .int .i64 a0_5, .int .i64 a0_6, .int .i64 a0_7]] w fun e w' => e = .returned (.int .i64 r) ∧ Below w.heap.size w w' := by
 have hu54:=Try.underlying54;have HB:=k0_ (Below.refl w.heap.size w);have H : ((gridhallref3_Named.f k a0_0).bind fun t190=>(if t190 = true then ((gridhallref3_In.f a0_1 0 a0_2).bind fun t191=>(if t191 = true then (if a0_2 ≤ 100000 then ((gridhallref3_In.f a0_3 1 100000).bind fun t192=>(if t192 = true then ((gridhallref3_In.f a0_4 1 100000).bind fun t193=>(if t193 = true then ((gridhallref3_In.f a0_5 1 24).bind fun t194=>(if t194 = true then ((gridhallref3_In.f a0_6 1 24).bind fun t195=>(if t195 = true then ((gridhallref3_In.f a0_7 0 1000000).bind fun t196=>(if t196 = true then (some 0) else (some 4))) else (some 4))) else (some 4))) else (some 4))) else (some 4))) else (some 4)) else (some 4))) else (some 6))) = some r:=h;clear h;replace H:=Option.bind_eq_some_iff.mp H;obtain ⟨t190, A20, H⟩:=H;replace H : (if t190 = true then ((gridhallref3_In.f a0_1 0 a0_2).bind fun t191=>(if t191 = true then (if a0_2 ≤ 100000 then ((gridhallref3_In.f a0_3 1 100000).bind fun t192=>(if t192 = true then ((gridhallref3_In.f a0_4 1 100000).bind fun t193=>(if t193 = true then ((gridhallref3_In.f a0_5 1 24).bind fun t194=>(if t194 = true then ((gridhallref3_In.f a0_6 1 24).bind fun t195=>(if t195 = true then ((gridhallref3_In.f a0_7 0 1000000).bind fun t196=>(if t196 = true then (some 0) else (some 4))) else (some 4))) else (some 4))) else (some 4))) else (some 4))) else (some 4)) else (some 4))) else (some 6)) = some r:=H;have A2:=k0_ A20;clear A20
 by_cases c3 : t190 = true
 ·subst c3
  have H1 : ((gridhallref3_In.f a0_1 0 a0_2).bind fun t191=>(if t191 = true then (if a0_2 ≤ 100000 then ((gridhallref3_In.f a0_3 1 100000).bind fun t192=>(if t192 = true then ((gridhallref3_In.f a0_4 1 100000).bind fun t193=>(if t193 = true then ((gridhallref3_In.f a0_5 1 24).bind fun t194=>(if t194 = true then ((gridhallref3_In.f a0_6 1 24).bind fun t195=>(if t195 = true then ((gridhallref3_In.f a0_7 0 1000000).bind fun t196=>(if t196 = true then (some 0) else (some 4))) else (some 4))) else (some 4))) else (some 4))) else (some 4))) else (some 4)) else (some 4))) = some r:=by rw [if_pos rfl] at H;exact H
  clear H;have H:=H1;clear H1;replace H:=Option.bind_eq_some_iff.mp H;obtain ⟨t191, A40, H⟩:=H;replace H : (if t191 = true then (if a0_2 ≤ 100000 then ((gridhallref3_In.f a0_3 1 100000).bind fun t192=>(if t192 = true then ((gridhallref3_In.f a0_4 1 100000).bind fun t193=>(if t193 = true then ((gridhallref3_In.f a0_5 1 24).bind fun t194=>(if t194 = true then ((gridhallref3_In.f a0_6 1 24).bind fun t195=>(if t195 = true then ((gridhallref3_In.f a0_7 0 1000000).bind fun t196=>(if t196 = true then (some 0) else (some 4))) else (some 4))) else (some 4))) else (some 4))) else (some 4))) else (some 4)) else (some 4)) = some r:=H;have A4:=k0_ A40;clear A40
  by_cases c5 : t191 = true
  ·subst c5
   have H1 : (if a0_2 ≤ 100000 then ((gridhallref3_In.f a0_3 1 100000).bind fun t192=>(if t192 = true then ((gridhallref3_In.f a0_4 1 100000).bind fun t193=>(if t193 = true then ((gridhallref3_In.f a0_5 1 24).bind fun t194=>(if t194 = true then ((gridhallref3_In.f a0_6 1 24).bind fun t195=>(if t195 = true then ((gridhallref3_In.f a0_7 0 1000000).bind fun t196=>(if t196 = true then (some 0) else (some 4))) else (some 4))) else (some 4))) else (some 4))) else (some 4))) else (some 4)) = some r:=by rw [if_pos rfl] at H;exact H
   clear H;have H:=H1;clear H1
   by_cases c6 : a0_2 ≤ 100000
   ·rw [if_pos c6] at H
    have c6b0:=decide_eq_true c6;clear c6;replace H:=Option.bind_eq_some_iff.mp H;obtain ⟨t192, A70, H⟩:=H;replace H : (if t192 = true then ((gridhallref3_In.f a0_4 1 100000).bind fun t193=>(if t193 = true then ((gridhallref3_In.f a0_5 1 24).bind fun t194=>(if t194 = true then ((gridhallref3_In.f a0_6 1 24).bind fun t195=>(if t195 = true then ((gridhallref3_In.f a0_7 0 1000000).bind fun t196=>(if t196 = true then (some 0) else (some 4))) else (some 4))) else (some 4))) else (some 4))) else (some 4)) = some r:=H;have A7:=k0_ A70;clear A70
    by_cases c8 : t192 = true
    ·subst c8
     have H1 : ((gridhallref3_In.f a0_4 1 100000).bind fun t193=>(if t193 = true then ((gridhallref3_In.f a0_5 1 24).bind fun t194=>(if t194 = true then ((gridhallref3_In.f a0_6 1 24).bind fun t195=>(if t195 = true then ((gridhallref3_In.f a0_7 0 1000000).bind fun t196=>(if t196 = true then (some 0) else (some 4))) else (some 4))) else (some 4))) else (some 4))) = some r:=by rw [if_pos rfl] at H;exact H
     clear H;have H:=H1;clear H1;replace H:=Option.bind_eq_some_iff.mp H;obtain ⟨t193, A90, H⟩:=H;replace H : (if t193 = true then ((gridhallref3_In.f a0_5 1 24).bind fun t194=>(if t194 = true then ((gridhallref3_In.f a0_6 1 24).bind fun t195=>(if t195 = true then ((gridhallref3_In.f a0_7 0 1000000).bind fun t196=>(if t196 = true then (some 0) else (some 4))) else (some 4))) else (some 4))) else (some 4)) = some r:=H;have A9:=k0_ A90;clear A90
     by_cases c10 : t193 = true
     ·subst c10
      have H1 : ((gridhallref3_In.f a0_5 1 24).bind fun t194=>(if t194 = true then ((gridhallref3_In.f a0_6 1 24).bind fun t195=>(if t195 = true then ((gridhallref3_In.f a0_7 0 1000000).bind fun t196=>(if t196 = true then (some 0) else (some 4))) else (some 4))) else (some 4))) = some r:=by rw [if_pos rfl] at H;exact H
      clear H;have H:=H1;clear H1;replace H:=Option.bind_eq_some_iff.mp H;obtain ⟨t194, A110, H⟩:=H;replace H : (if t194 = true then ((gridhallref3_In.f a0_6 1 24).bind fun t195=>(if t195 = true then ((gridhallref3_In.f a0_7 0 1000000).bind fun t196=>(if t196 = true then (some 0) else (some 4))) else (some 4))) else (some 4)) = some r:=H;have A11:=k0_ A110;clear A110
      by_cases c12 : t194 = true
      ·subst c12
       have H1 : ((gridhallref3_In.f a0_6 1 24).bind fun t195=>(if t195 = true then ((gridhallref3_In.f a0_7 0 1000000).bind fun t196=>(if t196 = true then (some 0) else (some 4))) else (some 4))) = some r:=by rw [if_pos rfl] at H;exact H
       clear H;have H:=H1;clear H1;replace H:=Option.bind_eq_some_iff.mp H;obtain ⟨t195, A130, H⟩:=H;replace H : (if t195 = true then ((gridhallref3_In.f a0_7 0 1000000).bind fun t196=>(if t196 = true then (some 0) else (some 4))) else (some 4)) = some r:=H;have A13:=k0_ A130;clear A130
       by_cases c14 : t195 = true
       ·subst c14
        have H1 : ((gridhallref3_In.f a0_7 0 1000000).bind fun t196=>(if t196 = true then (some 0) else (some 4))) = some r:=by rw [if_pos rfl] at H;exact H
        clear H;have H:=H1;clear H1;replace H:=Option.bind_eq_some_iff.mp H;obtain ⟨t196, A150, H⟩:=H;replace H : (if t196 = true then (some 0) else (some 4)) = some r:=H;have A15:=k0_ A150;clear A150
        by_cases c16 : t196 = true
        ·subst c16
         have H1 : (some 0) = some r:=by rw [if_pos rfl] at H;exact H
         clear H;have H:=H1;clear H1;obtain rfl:=Option.some.inj H
         go_enter Try.func114, Try.ntmps114
         go_wp2_with (first|((with_reducible refine gate_dst (N:=1) rfl ?_);refine box_event ?hg (N:=1) ?hd (cs:=#[.string a0_0, .int .i64 a0_1, .int .i64 a0_2, .int .i64 a0_3, .int .i64 a0_4, .int .i64 a0_5, .int .i64 a0_6, .int .i64 a0_7]) (t:=54) ?hr ?_;(case hd=>rfl);(case hg=>rfl);(case hr=>first|(go_simp;done)|(go_simp;rfl));intro gb189 hg w17 hbox hb;have BK189:=k0_ (hbox);have GW189:=k0_ ((by rw [hg];exact (below_size (hb0_ HB.out)) : w.heap.size ≤ gb189));have GE189:=k0_ ((by rw [hg];exact (below_size (hb0_ HB.out)) : w.heap.size ≤ gb189));replace HB:=k0_ (below_step (hb0_ HB.out) hb);clear hb hbox hg;obtain ⟨hcz18_0,hcz18_1,hcz18_2,hcz18_3,hcz18_4,hcz18_5,hcz18_6,hcz18_7⟩:=bc8_ BK189.out;obtain ⟨hfz18_0,hfz18_1,hfz18_2,hfz18_3,hfz18_4,hfz18_5,hfz18_6,hfz18_7⟩:=bf8_ BK189.out)|((with_reducible refine gate_callee (f:=115) rfl ?_);refine goesL_ (some 6) rfl rfl Try.func115 (by kernel_rfl) rfl #[.string a0_0] rfl mt_ ?_;(with_reducible refine (gridhallref3_Named.calls k a0_0 true _ A2.out).mono ?_);rintro e w' ⟨rfl, ⟨nd, rfl⟩⟩;refine ⟨_, rfl, ?_⟩)|((with_reducible refine gate_callee (f:=21) rfl ?_);refine goesL_ (some 12) rfl rfl Try.func21 (by kernel_rfl) rfl #[.int .i64 a0_1, .int .i64 0, .int .i64 a0_2] rfl mt_ ?_;(with_reducible refine (gridhallref3_In.calls a0_1 0 a0_2 true _ A4.out).mono ?_);rintro e w' ⟨rfl, ⟨nd, rfl⟩⟩;refine ⟨_, rfl, ?_⟩)|(go_at_call 21;(with_reducible refine (gridhallref3_In.calls a0_3 1 100000 true _ A7.out).mono ?_);rintro e w' ⟨rfl, ⟨nd, rfl⟩⟩)|(go_at_call 21;(with_reducible refine (gridhallref3_In.calls a0_4 1 100000 true _ A9.out).mono ?_);rintro e w' ⟨rfl, ⟨nd, rfl⟩⟩)|(go_at_call 21;(with_reducible refine (gridhallref3_In.calls a0_5 1 24 true _ A11.out).mono ?_);rintro e w' ⟨rfl, ⟨nd, rfl⟩⟩)|(go_at_call 21;(with_reducible refine (gridhallref3_In.calls a0_6 1 24 true _ A13.out).mono ?_);rintro e w' ⟨rfl, ⟨nd, rfl⟩⟩)|(go_at_call 21;(with_reducible refine (gridhallref3_In.calls a0_7 0 1000000 true _ A15.out).mono ?_);rintro e w' ⟨rfl, ⟨nd, rfl⟩⟩))
         go_ret
         exact ⟨er_, hb1_ HB.out GE189.out⟩
        ·replace c16:=Bool.eq_false_iff.mpr c16
         subst c16;have H1 : (some 4) = some r:=by rw [if_neg (show ¬ (false = true) by decide)] at H;exact H
         clear H;have H:=H1;clear H1;obtain rfl:=Option.some.inj H
         go_enter Try.func114, Try.ntmps114
         go_wp2_with (first|((with_reducible refine gate_dst (N:=1) rfl ?_);refine box_event ?hg (N:=1) ?hd (cs:=#[.string a0_0, .int .i64 a0_1, .int .i64 a0_2, .int .i64 a0_3, .int .i64 a0_4, .int .i64 a0_5, .int .i64 a0_6, .int .i64 a0_7]) (t:=54) ?hr ?_;(case hd=>rfl);(case hg=>rfl);(case hr=>first|(go_simp;done)|(go_simp;rfl));intro gb189 hg w19 hbox hb;have BK189:=k0_ (hbox);have GW189:=k0_ ((by rw [hg];exact (below_size (hb0_ HB.out)) : w.heap.size ≤ gb189));have GE189:=k0_ ((by rw [hg];exact (below_size (hb0_ HB.out)) : w.heap.size ≤ gb189));replace HB:=k0_ (below_step (hb0_ HB.out) hb);clear hb hbox hg;obtain ⟨hcz20_0,hcz20_1,hcz20_2,hcz20_3,hcz20_4,hcz20_5,hcz20_6,hcz20_7⟩:=bc8_ BK189.out;obtain ⟨hfz20_0,hfz20_1,hfz20_2,hfz20_3,hfz20_4,hfz20_5,hfz20_6,hfz20_7⟩:=bf8_ BK189.out)|((with_reducible refine gate_callee (f:=115) rfl ?_);refine goesL_ (some 6) rfl rfl Try.func115 (by kernel_rfl) rfl #[.string a0_0] rfl mt_ ?_;(with_reducible refine (gridhallref3_Named.calls k a0_0 true _ A2.out).mono ?_);rintro e w' ⟨rfl, ⟨nd, rfl⟩⟩;refine ⟨_, rfl, ?_⟩)|((with_reducible refine gate_callee (f:=21) rfl ?_);refine goesL_ (some 12) rfl rfl Try.func21 (by kernel_rfl) rfl #[.int .i64 a0_1, .int .i64 0, .int .i64 a0_2] rfl mt_ ?_;(with_reducible refine (gridhallref3_In.calls a0_1 0 a0_2 true _ A4.out).mono ?_);rintro e w' ⟨rfl, ⟨nd, rfl⟩⟩;refine ⟨_, rfl, ?_⟩)|(go_at_call 21;(with_reducible refine (gridhallref3_In.calls a0_3 1 100000 true _ A7.out).mono ?_);rintro e w' ⟨rfl, ⟨nd, rfl⟩⟩)|(go_at_call 21;(with_reducible refine (gridhallref3_In.calls a0_4 1 100000 true _ A9.out).mono ?_);rintro e w' ⟨rfl, ⟨nd, rfl⟩⟩)|(go_at_call 21;(with_reducible refine (gridhallref3_In.calls a0_5 1 24 true _ A11.out).mono ?_);rintro e w' ⟨rfl, ⟨nd, rfl⟩⟩)|(go_at_call 21;(with_reducible refine (gridhallref3_In.calls a0_6 1 24 true _ A13.out).mono ?_);rintro e w' ⟨rfl, ⟨nd, rfl⟩⟩)|(go_at_call 21;(with_reducible refine (gridhallref3_In.calls a0_7 0 1000000 false _ A15.out).mono ?_);rintro e w' ⟨rfl, ⟨nd, rfl⟩⟩))
         go_ret
         exact ⟨er_, hb1_ HB.out GE189.out⟩
       ·replace c14:=Bool.eq_false_iff.mpr c14
        subst c14;have H1 : (some 4) = some r:=by rw [if_neg (show ¬ (false = true) by decide)] at H;exact H
        clear H;have H:=H1;clear H1;obtain rfl:=Option.some.inj H
        go_enter Try.func114, Try.ntmps114
        go_wp2_with (first|((with_reducible refine gate_dst (N:=1) rfl ?_);refine box_event ?hg (N:=1) ?hd (cs:=#[.string a0_0, .int .i64 a0_1, .int .i64 a0_2, .int .i64 a0_3, .int .i64 a0_4, .int .i64 a0_5, .int .i64 a0_6, .int .i64 a0_7]) (t:=54) ?hr ?_;(case hd=>rfl);(case hg=>rfl);(case hr=>first|(go_simp;done)|(go_simp;rfl));intro gb189 hg w21 hbox hb;have BK189:=k0_ (hbox);have GW189:=k0_ ((by rw [hg];exact (below_size (hb0_ HB.out)) : w.heap.size ≤ gb189));have GE189:=k0_ ((by rw [hg];exact (below_size (hb0_ HB.out)) : w.heap.size ≤ gb189));replace HB:=k0_ (below_step (hb0_ HB.out) hb);clear hb hbox hg;obtain ⟨hcz22_0,hcz22_1,hcz22_2,hcz22_3,hcz22_4,hcz22_5,hcz22_6,hcz22_7⟩:=bc8_ BK189.out;obtain ⟨hfz22_0,hfz22_1,hfz22_2,hfz22_3,hfz22_4,hfz22_5,hfz22_6,hfz22_7⟩:=bf8_ BK189.out)|((with_reducible refine gate_callee (f:=115) rfl ?_);refine goesL_ (some 6) rfl rfl Try.func115 (by kernel_rfl) rfl #[.string a0_0] rfl mt_ ?_;(with_reducible refine (gridhallref3_Named.calls k a0_0 true _ A2.out).mono ?_);rintro e w' ⟨rfl, ⟨nd, rfl⟩⟩;refine ⟨_, rfl, ?_⟩)|((with_reducible refine gate_callee (f:=21) rfl ?_);refine goesL_ (some 12) rfl rfl Try.func21 (by kernel_rfl) rfl #[.int .i64 a0_1, .int .i64 0, .int .i64 a0_2] rfl mt_ ?_;(with_reducible refine (gridhallref3_In.calls a0_1 0 a0_2 true _ A4.out).mono ?_);rintro e w' ⟨rfl, ⟨nd, rfl⟩⟩;refine ⟨_, rfl, ?_⟩)|(go_at_call 21;(with_reducible refine (gridhallref3_In.calls a0_3 1 100000 true _ A7.out).mono ?_);rintro e w' ⟨rfl, ⟨nd, rfl⟩⟩)|(go_at_call 21;(with_reducible refine (gridhallref3_In.calls a0_4 1 100000 true _ A9.out).mono ?_);rintro e w' ⟨rfl, ⟨nd, rfl⟩⟩)|(go_at_call 21;(with_reducible refine (gridhallref3_In.calls a0_5 1 24 true _ A11.out).mono ?_);rintro e w' ⟨rfl, ⟨nd, rfl⟩⟩)|(go_at_call 21;(with_reducible refine (gridhallref3_In.calls a0_6 1 24 false _ A13.out).mono ?_);rintro e w' ⟨rfl, ⟨nd, rfl⟩⟩))
        go_ret
        exact ⟨er_, hb1_ HB.out GE189.out⟩
      ·replace c12:=Bool.eq_false_iff.mpr c12
       subst c12;have H1 : (some 4) = some r:=by rw [if_neg (show ¬ (false = true) by decide)] at H;exact H
       clear H;have H:=H1;clear H1;obtain rfl:=Option.some.inj H
       go_enter Try.func114, Try.ntmps114
       go_wp2_with (first|((with_reducible refine gate_dst (N:=1) rfl ?_);refine box_event ?hg (N:=1) ?hd (cs:=#[.string a0_0, .int .i64 a0_1, .int .i64 a0_2, .int .i64 a0_3, .int .i64 a0_4, .int .i64 a0_5, .int .i64 a0_6, .int .i64 a0_7]) (t:=54) ?hr ?_;(case hd=>rfl);(case hg=>rfl);(case hr=>first|(go_simp;done)|(go_simp;rfl));intro gb189 hg w23 hbox hb;have BK189:=k0_ (hbox);have GW189:=k0_ ((by rw [hg];exact (below_size (hb0_ HB.out)) : w.heap.size ≤ gb189));have GE189:=k0_ ((by rw [hg];exact (below_size (hb0_ HB.out)) : w.heap.size ≤ gb189));replace HB:=k0_ (below_step (hb0_ HB.out) hb);clear hb hbox hg;obtain ⟨hcz24_0,hcz24_1,hcz24_2,hcz24_3,hcz24_4,hcz24_5,hcz24_6,hcz24_7⟩:=bc8_ BK189.out;obtain ⟨hfz24_0,hfz24_1,hfz24_2,hfz24_3,hfz24_4,hfz24_5,hfz24_6,hfz24_7⟩:=bf8_ BK189.out)|((with_reducible refine gate_callee (f:=115) rfl ?_);refine goesL_ (some 6) rfl rfl Try.func115 (by kernel_rfl) rfl #[.string a0_0] rfl mt_ ?_;(with_reducible refine (gridhallref3_Named.calls k a0_0 true _ A2.out).mono ?_);rintro e w' ⟨rfl, ⟨nd, rfl⟩⟩;refine ⟨_, rfl, ?_⟩)|((with_reducible refine gate_callee (f:=21) rfl ?_);refine goesL_ (some 12) rfl rfl Try.func21 (by kernel_rfl) rfl #[.int .i64 a0_1, .int .i64 0, .int .i64 a0_2] rfl mt_ ?_;(with_reducible refine (gridhallref3_In.calls a0_1 0 a0_2 true _ A4.out).mono ?_);rintro e w' ⟨rfl, ⟨nd, rfl⟩⟩;refine ⟨_, rfl, ?_⟩)|(go_at_call 21;(with_reducible refine (gridhallref3_In.calls a0_3 1 100000 true _ A7.out).mono ?_);rintro e w' ⟨rfl, ⟨nd, rfl⟩⟩)|(go_at_call 21;(with_reducible refine (gridhallref3_In.calls a0_4 1 100000 true _ A9.out).mono ?_);rintro e w' ⟨rfl, ⟨nd, rfl⟩⟩)|(go_at_call 21;(with_reducible refine (gridhallref3_In.calls a0_5 1 24 false _ A11.out).mono ?_);rintro e w' ⟨rfl, ⟨nd, rfl⟩⟩))
       go_ret
       exact ⟨er_, hb1_ HB.out GE189.out⟩
     ·replace c10:=Bool.eq_false_iff.mpr c10
      subst c10;have H1 : (some 4) = some r:=by rw [if_neg (show ¬ (false = true) by decide)] at H;exact H
      clear H;have H:=H1;clear H1;obtain rfl:=Option.some.inj H
      go_enter Try.func114, Try.ntmps114
      go_wp2_with (first|((with_reducible refine gate_dst (N:=1) rfl ?_);refine box_event ?hg (N:=1) ?hd (cs:=#[.string a0_0, .int .i64 a0_1, .int .i64 a0_2, .int .i64 a0_3, .int .i64 a0_4, .int .i64 a0_5, .int .i64 a0_6, .int .i64 a0_7]) (t:=54) ?hr ?_;(case hd=>rfl);(case hg=>rfl);(case hr=>first|(go_simp;done)|(go_simp;rfl));intro gb189 hg w25 hbox hb;have BK189:=k0_ (hbox);have GW189:=k0_ ((by rw [hg];exact (below_size (hb0_ HB.out)) : w.heap.size ≤ gb189));have GE189:=k0_ ((by rw [hg];exact (below_size (hb0_ HB.out)) : w.heap.size ≤ gb189));replace HB:=k0_ (below_step (hb0_ HB.out) hb);clear hb hbox hg;obtain ⟨hcz26_0,hcz26_1,hcz26_2,hcz26_3,hcz26_4,hcz26_5,hcz26_6,hcz26_7⟩:=bc8_ BK189.out;obtain ⟨hfz26_0,hfz26_1,hfz26_2,hfz26_3,hfz26_4,hfz26_5,hfz26_6,hfz26_7⟩:=bf8_ BK189.out)|((with_reducible refine gate_callee (f:=115) rfl ?_);refine goesL_ (some 6) rfl rfl Try.func115 (by kernel_rfl) rfl #[.string a0_0] rfl mt_ ?_;(with_reducible refine (gridhallref3_Named.calls k a0_0 true _ A2.out).mono ?_);rintro e w' ⟨rfl, ⟨nd, rfl⟩⟩;refine ⟨_, rfl, ?_⟩)|((with_reducible refine gate_callee (f:=21) rfl ?_);refine goesL_ (some 12) rfl rfl Try.func21 (by kernel_rfl) rfl #[.int .i64 a0_1, .int .i64 0, .int .i64 a0_2] rfl mt_ ?_;(with_reducible refine (gridhallref3_In.calls a0_1 0 a0_2 true _ A4.out).mono ?_);rintro e w' ⟨rfl, ⟨nd, rfl⟩⟩;refine ⟨_, rfl, ?_⟩)|(go_at_call 21;(with_reducible refine (gridhallref3_In.calls a0_3 1 100000 true _ A7.out).mono ?_);rintro e w' ⟨rfl, ⟨nd, rfl⟩⟩)|(go_at_call 21;(with_reducible refine (gridhallref3_In.calls a0_4 1 100000 false _ A9.out).mono ?_);rintro e w' ⟨rfl, ⟨nd, rfl⟩⟩))
      go_ret
      exact ⟨er_, hb1_ HB.out GE189.out⟩
    ·replace c8:=Bool.eq_false_iff.mpr c8
     subst c8;have H1 : (some 4) = some r:=by rw [if_neg (show ¬ (false = true) by decide)] at H;exact H
     clear H;have H:=H1;clear H1;obtain rfl:=Option.some.inj H
     go_enter Try.func114, Try.ntmps114
     go_wp2_with (first|((with_reducible refine gate_dst (N:=1) rfl ?_);refine box_event ?hg (N:=1) ?hd (cs:=#[.string a0_0, .int .i64 a0_1, .int .i64 a0_2, .int .i64 a0_3, .int .i64 a0_4, .int .i64 a0_5, .int .i64 a0_6, .int .i64 a0_7]) (t:=54) ?hr ?_;(case hd=>rfl);(case hg=>rfl);(case hr=>first|(go_simp;done)|(go_simp;rfl));intro gb189 hg w27 hbox hb;have BK189:=k0_ (hbox);have GW189:=k0_ ((by rw [hg];exact (below_size (hb0_ HB.out)) : w.heap.size ≤ gb189));have GE189:=k0_ ((by rw [hg];exact (below_size (hb0_ HB.out)) : w.heap.size ≤ gb189));replace HB:=k0_ (below_step (hb0_ HB.out) hb);clear hb hbox hg;obtain ⟨hcz28_0,hcz28_1,hcz28_2,hcz28_3,hcz28_4,hcz28_5,hcz28_6,hcz28_7⟩:=bc8_ BK189.out;obtain ⟨hfz28_0,hfz28_1,hfz28_2,hfz28_3,hfz28_4,hfz28_5,hfz28_6,hfz28_7⟩:=bf8_ BK189.out)|((with_reducible refine gate_callee (f:=115) rfl ?_);refine goesL_ (some 6) rfl rfl Try.func115 (by kernel_rfl) rfl #[.string a0_0] rfl mt_ ?_;(with_reducible refine (gridhallref3_Named.calls k a0_0 true _ A2.out).mono ?_);rintro e w' ⟨rfl, ⟨nd, rfl⟩⟩;refine ⟨_, rfl, ?_⟩)|((with_reducible refine gate_callee (f:=21) rfl ?_);refine goesL_ (some 12) rfl rfl Try.func21 (by kernel_rfl) rfl #[.int .i64 a0_1, .int .i64 0, .int .i64 a0_2] rfl mt_ ?_;(with_reducible refine (gridhallref3_In.calls a0_1 0 a0_2 true _ A4.out).mono ?_);rintro e w' ⟨rfl, ⟨nd, rfl⟩⟩;refine ⟨_, rfl, ?_⟩)|(go_at_call 21;(with_reducible refine (gridhallref3_In.calls a0_3 1 100000 false _ A7.out).mono ?_);rintro e w' ⟨rfl, ⟨nd, rfl⟩⟩))
     go_ret
     exact ⟨er_, hb1_ HB.out GE189.out⟩
   ·rw [if_neg c6] at H
    have c6b0:=decide_eq_false c6;clear c6;obtain rfl:=Option.some.inj H
    go_enter Try.func114, Try.ntmps114
    go_wp2_with (first|((with_reducible refine gate_dst (N:=1) rfl ?_);refine box_event ?hg (N:=1) ?hd (cs:=#[.string a0_0, .int .i64 a0_1, .int .i64 a0_2, .int .i64 a0_3, .int .i64 a0_4, .int .i64 a0_5, .int .i64 a0_6, .int .i64 a0_7]) (t:=54) ?hr ?_;(case hd=>rfl);(case hg=>rfl);(case hr=>first|(go_simp;done)|(go_simp;rfl));intro gb189 hg w29 hbox hb;have BK189:=k0_ (hbox);have GW189:=k0_ ((by rw [hg];exact (below_size (hb0_ HB.out)) : w.heap.size ≤ gb189));have GE189:=k0_ ((by rw [hg];exact (below_size (hb0_ HB.out)) : w.heap.size ≤ gb189));replace HB:=k0_ (below_step (hb0_ HB.out) hb);clear hb hbox hg;obtain ⟨hcz30_0,hcz30_1,hcz30_2,hcz30_3,hcz30_4,hcz30_5,hcz30_6,hcz30_7⟩:=bc8_ BK189.out;obtain ⟨hfz30_0,hfz30_1,hfz30_2,hfz30_3,hfz30_4,hfz30_5,hfz30_6,hfz30_7⟩:=bf8_ BK189.out)|((with_reducible refine gate_callee (f:=115) rfl ?_);refine goesL_ (some 6) rfl rfl Try.func115 (by kernel_rfl) rfl #[.string a0_0] rfl mt_ ?_;(with_reducible refine (gridhallref3_Named.calls k a0_0 true _ A2.out).mono ?_);rintro e w' ⟨rfl, ⟨nd, rfl⟩⟩;refine ⟨_, rfl, ?_⟩)|((with_reducible refine gate_callee (f:=21) rfl ?_);refine goesL_ (some 12) rfl rfl Try.func21 (by kernel_rfl) rfl #[.int .i64 a0_1, .int .i64 0, .int .i64 a0_2] rfl mt_ ?_;(with_reducible refine (gridhallref3_In.calls a0_1 0 a0_2 true _ A4.out).mono ?_);rintro e w' ⟨rfl, ⟨nd, rfl⟩⟩;refine ⟨_, rfl, ?_⟩))
    go_ret
    exact ⟨er_, hb1_ HB.out GE189.out⟩
  ·replace c5:=Bool.eq_false_iff.mpr c5
   subst c5;have H1 : (some 4) = some r:=by rw [if_neg (show ¬ (false = true) by decide)] at H;exact H
   clear H;have H:=H1;clear H1;obtain rfl:=Option.some.inj H
   go_enter Try.func114, Try.ntmps114
   go_wp2_with (first|((with_reducible refine gate_dst (N:=1) rfl ?_);refine box_event ?hg (N:=1) ?hd (cs:=#[.string a0_0, .int .i64 a0_1, .int .i64 a0_2, .int .i64 a0_3, .int .i64 a0_4, .int .i64 a0_5, .int .i64 a0_6, .int .i64 a0_7]) (t:=54) ?hr ?_;(case hd=>rfl);(case hg=>rfl);(case hr=>first|(go_simp;done)|(go_simp;rfl));intro gb189 hg w31 hbox hb;have BK189:=k0_ (hbox);have GW189:=k0_ ((by rw [hg];exact (below_size (hb0_ HB.out)) : w.heap.size ≤ gb189));have GE189:=k0_ ((by rw [hg];exact (below_size (hb0_ HB.out)) : w.heap.size ≤ gb189));replace HB:=k0_ (below_step (hb0_ HB.out) hb);clear hb hbox hg;obtain ⟨hcz32_0,hcz32_1,hcz32_2,hcz32_3,hcz32_4,hcz32_5,hcz32_6,hcz32_7⟩:=bc8_ BK189.out;obtain ⟨hfz32_0,hfz32_1,hfz32_2,hfz32_3,hfz32_4,hfz32_5,hfz32_6,hfz32_7⟩:=bf8_ BK189.out)|((with_reducible refine gate_callee (f:=115) rfl ?_);refine goesL_ (some 6) rfl rfl Try.func115 (by kernel_rfl) rfl #[.string a0_0] rfl mt_ ?_;(with_reducible refine (gridhallref3_Named.calls k a0_0 true _ A2.out).mono ?_);rintro e w' ⟨rfl, ⟨nd, rfl⟩⟩;refine ⟨_, rfl, ?_⟩)|((with_reducible refine gate_callee (f:=21) rfl ?_);refine goesL_ (some 12) rfl rfl Try.func21 (by kernel_rfl) rfl #[.int .i64 a0_1, .int .i64 0, .int .i64 a0_2] rfl mt_ ?_;(with_reducible refine (gridhallref3_In.calls a0_1 0 a0_2 false _ A4.out).mono ?_);rintro e w' ⟨rfl, ⟨nd, rfl⟩⟩;refine ⟨_, rfl, ?_⟩))
   go_ret
   exact ⟨er_, hb1_ HB.out GE189.out⟩
 ·replace c3:=Bool.eq_false_iff.mpr c3
  subst c3;have H1 : (some 6) = some r:=by rw [if_neg (show ¬ (false = true) by decide)] at H;exact H
  clear H;have H:=H1;clear H1;obtain rfl:=Option.some.inj H
  go_enter Try.func114, Try.ntmps114
  go_wp2_with (first|((with_reducible refine gate_dst (N:=1) rfl ?_);refine box_event ?hg (N:=1) ?hd (cs:=#[.string a0_0, .int .i64 a0_1, .int .i64 a0_2, .int .i64 a0_3, .int .i64 a0_4, .int .i64 a0_5, .int .i64 a0_6, .int .i64 a0_7]) (t:=54) ?hr ?_;(case hd=>rfl);(case hg=>rfl);(case hr=>first|(go_simp;done)|(go_simp;rfl));intro gb189 hg w33 hbox hb;have BK189:=k0_ (hbox);have GW189:=k0_ ((by rw [hg];exact (below_size (hb0_ HB.out)) : w.heap.size ≤ gb189));have GE189:=k0_ ((by rw [hg];exact (below_size (hb0_ HB.out)) : w.heap.size ≤ gb189));replace HB:=k0_ (below_step (hb0_ HB.out) hb);clear hb hbox hg;obtain ⟨hcz34_0,hcz34_1,hcz34_2,hcz34_3,hcz34_4,hcz34_5,hcz34_6,hcz34_7⟩:=bc8_ BK189.out;obtain ⟨hfz34_0,hfz34_1,hfz34_2,hfz34_3,hfz34_4,hfz34_5,hfz34_6,hfz34_7⟩:=bf8_ BK189.out)|((with_reducible refine gate_callee (f:=115) rfl ?_);refine goesL_ (some 6) rfl rfl Try.func115 (by kernel_rfl) rfl #[.string a0_0] rfl mt_ ?_;(with_reducible refine (gridhallref3_Named.calls k a0_0 false _ A2.out).mono ?_);rintro e w' ⟨rfl, ⟨nd, rfl⟩⟩;refine ⟨_, rfl, ?_⟩))
  go_ret
  exact ⟨er_, hb1_ HB.out GE189.out⟩

end Go.Proofs.Ytefkdkppipdceaa.PCommitServes
