/- Contracts of functions that TopStorage reaches, a text of this session's own. -/
import Derived.Test.YtdphghdjljplpaaBox2
import Derived.Lib.SliceRun
import Derived.Test.YtdphghdjljplpaaHTopStoragey0
namespace Go.Proofs.Ytdphghdjljplpaa.PTopStorage
open Go.RowKit Go.Proofs.YtdphghdjljplpaaW.PrintWords Go.Proofs.YtdphghdjljplpaaW.PrintLast Go.Proofs.YtdphghdjljplpaaW.PrintMore
attribute [local go_sem] max2_int min2_int max_two min_two max_three min_three max_four min_four   -- for this text's walks alone
set_option linter.unusedVariables false
set_option linter.unusedSimpArgs false

/-! ### slices_Clone_int_int: function 14 -/
/-- A nil row has no elements. -/
theorem slices_Clone_int_int.none_nil {w : World} {l0 : List Int} (h : Kd.C (Kd.int .i64) w none l0.length l0) : l0 = [] := by
 have h2:=(show ReadsRow _ _ _ _ _ _ from h).2.2
 refine List.eq_nil_of_length_eq_zero (Decidable.byContradiction fun hh=>?_)
 obtain ⟨ad, e, _⟩:=h2 (by omega)
 cases e
def slices_Clone_int_int.f (l0 : List Int) : Option (List Int) := (some (([] : List Int) : List Int)).bind fun y352 => (if y352.length + l0.length < 17592186044416 then (some (y352 ++ l0)) else (none))
set_option maxHeartbeats 8000000 in
set_option maxRecDepth 100000 in
theorem slices_Clone_int_int.calls (A0 : Option Addr) (c0 : Nat) (l0 : List Int) (r : List Int) (w : World) (hr0 : Kd.C (Kd.int .i64) w A0 l0.length l0) (hc0 : l0.length ≤ c0) (h : slices_Clone_int_int.f l0 = some r) :
  Calls Try.prog 14 #[.slice A0 l0.length c0] w fun e w' => ∃ v0_ : Value, e = .returned (v0_) ∧ Kd.R (Kd.int .i64) 3 w' w.heap.size (fun _ => True) v0_ r ∧ Below w.heap.size w w' := by
 have HR0:=k0_ hr0;have HC0:=k0_ hc0;clear hr0 hc0;have HB:=k0_ (Below.refl w.heap.size w);have H : ((some (([] : List Int) : List Int)).bind fun y352=>(if y352.length + l0.length < 17592186044416 then (some (y352 ++ l0)) else (none))) = some r:=h;clear h;obtain ⟨y352, hy352⟩ : ∃ y_ : List Int, y_ = (([] : List Int)):=⟨_, rfl⟩;replace H : (if y352.length + l0.length < 17592186044416 then (some (y352 ++ l0)) else (none)) = some r:=by first|(rw [hy352];with_reducible exact H)|(have H2_:=(Option.bind_some _ _).symm.trans H;rw [hy352];with_reducible exact H2_)|(have H2_:=(Option.bind_some _ _).symm.trans H;with_reducible exact H2_)|with_reducible exact H|(rw [hy352];exact H)|exact H
 have Ny352:=k0_ hy352;clear hy352
 by_cases c2 : y352.length + l0.length < 17592186044416
 ·rw [if_pos c2] at H
  have LMc2:=k0_ c2;clear c2;obtain ⟨y355, hy355⟩ : ∃ y_ : List Int, y_ = (y352 ++ l0):=⟨_, rfl⟩;replace H : (some y355) = some r:=by first|(rw [hy355];with_reducible exact H)|(have H2_:=(Option.bind_some _ _).symm.trans H;rw [hy355];with_reducible exact H2_)|(have H2_:=(Option.bind_some _ _).symm.trans H;with_reducible exact H2_)|with_reducible exact H|(rw [hy355];exact H)|exact H
  have Ny355:=k0_ hy355;clear hy355;obtain rfl:=Option.some.inj H
  cases A0 with
  | none =>
   have hl : l0 = []:=slices_Clone_int_int.none_nil HR0.out;subst hl
   go_enter Try.func14, Try.ntmps14
   have q_:=fun (w : World) (a : Option Addr) (n c n' c' : Nat)=>Lib.run_eql_slice_nil (P:=Try.prog) w 23 3 a n c n' c' Try.underlying23
   go_wp2
   go_ret
   exact ⟨_, rfl, by rw [Ny355.out, Ny352.out];exact Kd.R_nil _ _ _ _ _, HB.out⟩
  | some ad0 =>
   go_enter Try.func14, Try.ntmps14
   have q_:=fun (w : World) (a : Option Addr) (n c n' c' : Nat)=>Lib.run_eql_slice_nil (P:=Try.prog) w 23 3 a n c n' c' Try.underlying23
   go_wp2_with (first|((with_reducible refine gate_dst (N:=5) rfl ?_);refine Kd.R_lit (Kd.int .i64) _ 3 ?hg (N:=5) ?hd (xs:=([] : List Int)) (inner:=[]) (ok:=fun _=>True) (okp:=fun _=>True) ?hr ?hp (fun _ hk=>hk) trivial (Below.refl _ _) (Nat.le_refl _) (by simp) ?_;(case hd=>rfl);(case hg=>rfl);(case hr=>first|(go_simp;done)|(go_simp;rfl));(case hp=>exact (Reps.none _ _));intro v353 w3 ho4 hb hg_ hnew_;clear hg_ hnew_;(first|rw [← Ny352.out] at ho4|(simp only [Int.reduceToNat] at ho4;rw [← Ny352.out] at ho4));have HO354:=k0_ (Kd.R_lower ho4 (below_size (hb0_ HB.out)));replace HB:=k0_ (below_step (hb0_ HB.out) hb);clear hb ho4)|((with_reducible refine gate_builtin (b:=.append) (xs:=#[.tmp 5, .tmp 6]) rfl ?_);at_builtin;refine Kd.R_append_rows (Kd.int .i64) (w0:=w) w.heap.size rfl (.tmp 5) (.tmp 6) 23 3 (.int .i64 0) 8 rfl Try.underlying23 info3 rfl (by decide) (by omega) v353 y352 l0 _ _ _ (fun _=>True) (fun _=>False) rfl rfl ?aO ?aR (fun _ _ h=>h) (fun _ h=>h.elim) ?aF ?aB ?aS ?aL ?_;(case aR=>repeat (first|exact (Kd.C_below HR0.out HB.out)|(with_reducible refine Kd.C_alloc ?_ _)|(with_reducible refine Kd.C_drewN ?_ _)|(with_reducible refine Kd.C_drew ?_)));(case aB=>exact (hb0_ HB.out));(case aF=>exact (fun _ _=>trivial));(case aO=>exact (rq_ HO354.out));(case aS=>exact (below_size (hb0_ HB.out)));(case aL=>have:=LMc2.out;omega);intro v356 w5 ho hb hg hat;rw [← Ny355.out] at ho;replace HB:=k0_ (hb);have HO357:=k0_ (ho);clear HO354;clear ho hb hg hat))
   go_ret
   exact ⟨_, er_, by (with_reducible repeat (first|apply Kd.R_alloc|apply Kd.R_drewN|apply Kd.R_drew));exact HO357.out, hb0_ HB.out⟩
 ·rw [if_neg c2] at H
  exact absurd H (by simp)

/-! ### gridhalltop_bWithin: function 15 -/
def gridhalltop_bWithin.f (a0 : Int) (a1 : Int) (a2 : Int) : Option (Int) := if (wrap64 ((wrap64 (a2 - a1)) + 1)) = 0 then (none) else (some (wrap64 (a1 + (Int.tmod (wrap64 ((Int.tmod a0 (wrap64 ((wrap64 (a2 - a1)) + 1))) + (wrap64 ((wrap64 (a2 - a1)) + 1)))) (wrap64 ((wrap64 (a2 - a1)) + 1))))))
set_option maxHeartbeats 8000000 in
set_option maxRecDepth 100000 in
theorem gridhalltop_bWithin.calls (a0 : Int) (a1 : Int) (a2 : Int) (r : Int) (w : World) (h : gridhalltop_bWithin.f a0 a1 a2 = some r) :
  Calls Try.prog 15 #[.int .i64 a0, .int .i64 a1, .int .i64 a2] w fun e w' => e = .returned (.int .i64 r) ∧ Drawn0 w w' := by
 have H : (if (wrap64 ((wrap64 (a2 - a1)) + 1)) = 0 then (none) else (some (wrap64 (a1 + (Int.tmod (wrap64 ((Int.tmod a0 (wrap64 ((wrap64 (a2 - a1)) + 1))) + (wrap64 ((wrap64 (a2 - a1)) + 1)))) (wrap64 ((wrap64 (a2 - a1)) + 1))))))) = some r:=h;clear h
 by_cases c4 : (wrap64 ((wrap64 (a2 - a1)) + 1)) = 0
 ·rw [if_pos c4] at H
  exact absurd H (by simp)
 rw [if_neg c4] at H;have c4b0:=beq_eq_false_iff_ne.mpr c4;have c4b1:=bne_iff_ne.mpr c4;obtain rfl:=Option.some.inj H
 go_enter Try.func15, Try.ntmps15
 go_wp2
 go_ret
 exact ⟨by first|rfl|(simp;done)|(simp [*];done), by repeat (first|exact Drawn0.refl _|apply Drawn0.step)⟩

end Go.Proofs.Ytdphghdjljplpaa.PTopStorage
