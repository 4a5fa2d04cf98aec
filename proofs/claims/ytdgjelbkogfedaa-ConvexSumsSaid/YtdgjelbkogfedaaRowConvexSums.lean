import Derived.Test.YtdgjelbkogfedaaRows
import Derived.Test.YtdgjelbkogfedaaHConvexSumsy13
import Derived.Test.YtdgjelbkogfedaaBridge
import Derived.WalkKit
import Derived.ProofKit
import Derived.OpenShut
import Derived.ShutString
import Derived.ChangeOld
import Derived.Below
import Derived.SizedLaws
import Derived.Carry
namespace Go.Proofs.Ytdgjelbkogfedaa.RConvexSums
open Go.ChangeShapes Go.WideShapes Go.ChangeAt Go.RowKit Go.Proofs.Ytdgjelbkogfedaa.Bridge Go.Proofs.YtdgjelbkogfedaaW.PrintWords Go.Proofs.Ytdgjelbkogfedaa.PConvexSums
open Go.ChangeMaps (open_string shut_string)
set_option linter.unusedVariables false
def good88 (x : S88) : Prop := ((Lit.int .i64 x.f0).wf = true) ∧ ((Lit.int .i64 x.f1).wf = true)
theorem opn88 : Opn k88 Try.prog 88 good88 :=
  opn_iso (opn_struct Try.underlying88 (by kernel_rfl) (opnF_cons (off':=1) rfl (by kernel_rfl) rfl (opn_int Try.underlying3) (opnF_one rfl (by kernel_rfl) (opn_int Try.underlying3)))) (fun z => ⟨⟨z.1, z.2⟩, rfl⟩)
def Pure : Prop := ∀ (a0_0 : Int) (a0_1 : Int) (l0_2 : List (S88)) (a1_0 : Int) (a1_1 : Int) (l1_2 : List (S88)), ((Lit.int .i64 a0_0).wf = true) → ((Lit.int .i64 a0_1).wf = true) → ((l0_2.length * 16 ≤ 140737488351232 ∧ ∀ y88 ∈ l0_2, good88 y88)) → ((Lit.int .i64 a1_0).wf = true) → ((Lit.int .i64 a1_1).wf = true) → ((l1_2.length * 16 ≤ 140737488351232 ∧ ∀ y88 ∈ l1_2, good88 y88)) → ∃ k, gridhalllaw3_ConvexSums.f k a0_0 a0_1 l0_2 a1_0 a1_1 l1_2 = some true
theorem own : ownKnob Try.prog.godebug = none := by kernel_rfl
theorem laidOut : laidOutB Try.prog = true := by kernel_rfl
set_option maxHeartbeats 2000000 in
set_option maxRecDepth 100000 in
theorem lifted (PU : Pure) (os : Os) (started : os.Started) (H : Type) (enc : TypeId × Value → H) :
    ReturnsInHanded {} Try.checked os 7 .any (Rows.convexSumsSpec.pre6 enc Try.prog Try.f7 Rows.convexSumsRow.domain false) (Rows.convexSumsSpec.post enc Try.prog Try.f7 false true false false):=by
  refine returnsInHanded_of_change_sized (C:=Try.checked) own started (by kernel_rfl) Try.func7
    (ChangeSpec.witness6 (enc:=enc) (C:=Try.checked) false ⟨#[], #[.agg #[.int .i64 0, .int .i64 0, .slice none 0 0], .agg #[.int .i64 0, .int .i64 0, .slice none 0 0]], []⟩ 8 (by kernel_rfl) (by kernel_rfl) (by kernel_rfl) (by kernel_rfl)) ?_
  intro W base args ds gs before hval0 hW hcnd hsz0 _
  have hsz : (DataW.weightsEach Try.prog (Try.f7.params.toList ++ Rows.convexSumsSpec.plain.varTypes Try.prog) (ds ++ gs)).all (· ≤ reachBytes) = true:=hsz0
  have hval : ∀ (j : Nat) t v, Try.f7.params[j]? = some t → args[j]? = some v → Value.okWide Try.prog W .any base t v:=hval0
  have hW':=hW
  obtain ⟨p, q, hA0, hV, rfl, hfz, hnd⟩:=hW
  have hA : DataW.TrodAll enc Try.prog W 0 (fun _ => true) true Try.f7.params.toList args.toList ds p:=hA0
  rw [Try.params7] at hA hval hsz
  obtain ⟨v0, vs0, d0, ds0, p0, q0, hargs, rfl, rfl, h0, r0⟩:=trodAll_cons hA
  obtain ⟨v1, vs1, d1, ds1, p1, q1, rfl, rfl, rfl, h1, r1⟩:=trodAll_cons r0
  obtain ⟨rfl, rfl, rfl⟩:=trodAll_nil r1
  obtain rfl : args = #[v0, v1]:=by cases args; simp_all
  obtain ⟨rfl, rfl⟩:=trodVars_none hV
  have k0:=h0
  have lt0 : ∀ x ∈ p0, x.block < W.heap.size:=by obtain ⟨m, hm⟩:=k0; exact DataW.trod_lt m _ _ _ hm
  obtain ⟨cs0, rfl, _⟩:=okWide_struct Try.underlying82 (hval 0 82 v0 rfl rfl)
  obtain ⟨⟨a0_0, ⟨a0_1, l0_2⟩⟩, K0, ⟨Ga0_0, ⟨Ga0_1, Gl0_2⟩⟩⟩:=opn_arg (opn_struct Try.underlying82 (by kernel_rfl) (opnF_cons (off':=1) rfl (by kernel_rfl) rfl (opn_int Try.underlying3) (opnF_cons (off':=2) rfl (by kernel_rfl) rfl (opn_int Try.underlying3) (opnF_one rfl (by kernel_rfl) (opn_slice (e:=88) (k:=k88) (B:=16) Try.underlying80 (by kernel_rfl) (by kernel_rfl) opn88))))) hsz (j:=0) (t:=82) rfl rfl h0
  obtain ⟨_, _, e0_, rfl, ⟨_, _, rfl, rfl, ⟨A0_2, c0_2, rfl, l0_2_, g0_2⟩⟩⟩:=K0
  obtain rfl : cs0 = #[.int .i64 a0_0, .int .i64 a0_1, .slice A0_2 l0_2.length c0_2]:=by obtain ⟨cs0⟩:=cs0; simpa [Value.cells] using e0_
  have k1:=h1
  have lt1 : ∀ x ∈ p1, x.block < W.heap.size:=by obtain ⟨m, hm⟩:=k1; exact DataW.trod_lt m _ _ _ hm
  obtain ⟨cs1, rfl, _⟩:=okWide_struct Try.underlying82 (hval 1 82 v1 rfl rfl)
  obtain ⟨⟨a1_0, ⟨a1_1, l1_2⟩⟩, K1, ⟨Ga1_0, ⟨Ga1_1, Gl1_2⟩⟩⟩:=opn_arg (opn_struct Try.underlying82 (by kernel_rfl) (opnF_cons (off':=1) rfl (by kernel_rfl) rfl (opn_int Try.underlying3) (opnF_cons (off':=2) rfl (by kernel_rfl) rfl (opn_int Try.underlying3) (opnF_one rfl (by kernel_rfl) (opn_slice (e:=88) (k:=k88) (B:=16) Try.underlying80 (by kernel_rfl) (by kernel_rfl) opn88))))) hsz (j:=1) (t:=82) rfl rfl h1
  obtain ⟨_, _, e1_, rfl, ⟨_, _, rfl, rfl, ⟨A1_2, c1_2, rfl, l1_2_, g1_2⟩⟩⟩:=K1
  obtain rfl : cs1 = #[.int .i64 a1_0, .int .i64 a1_1, .slice A1_2 l1_2.length c1_2]:=by obtain ⟨cs1⟩:=cs1; simpa [Value.cells] using e1_
  clear hA0 hval0 hsz0 hsz
  obtain ⟨k, hk⟩:=PU a0_0 a0_1 l0_2 a1_0 a1_1 l1_2 Ga0_0 Ga0_1 Gl0_2 Ga1_0 Ga1_1 Gl1_2
  refine (gridhalllaw3_ConvexSums.calls (k:=k) (a0_0:=a0_0) (a0_1:=a0_1) (A0_2:=A0_2) (c0_2:=c0_2) (l0_2:=l0_2) (a1_0:=a1_0) (a1_1:=a1_1) (A1_2:=A1_2) (c1_2:=c1_2) (l1_2:=l1_2) (r:=true) (w:=W) (hr0_2:=g0_2) (hc0_2:=l0_2_) (hr1_2:=g1_2) (hc1_2:=l1_2_) (h:=hk)).mono fun e W' ⟨he, bel0⟩ => ?_
  have bel : Below W.heap.size W W':=bel0
  subst he
  exact ⟨_, rfl, _, _, _, [], _, [], hW', trodAll_mk1 (shut_bool Try.underlying4 _),(trodAll_cons_mk (Below.trod laidOut (by kernel_rfl) (of_decide_eq_true (by kernel_rfl)) k0 bel lt0) (trodAll_cons_mk (Below.trod laidOut (by kernel_rfl) (of_decide_eq_true (by kernel_rfl)) k1 bel lt1) trodAll_mk0)), rfl, bel.frame _, fun h => by cases h⟩
theorem over (PU : Pure) : Rows.convexSumsRow.holds Try.pinned (OpenSpec.ofChange Rows.convexSumsSpec) :=
  OpenClaim.holds_of_wide 7 Try.f7 rfl rfl rfl rfl rfl rfl rfl ⟨rfl, rfl, rfl, rfl, rfl⟩ rfl rfl rfl rfl rfl (by kernel_rfl) Try.func7 (by kernel_rfl)
    (of_decide_eq_true (by kernel_rfl)) (by unfold Func.isWrapper; first|(rw [if_pos (by decide +kernel)]; kernel_rfl)|(rw [if_neg (by decide +kernel)]; exact ⟨rfl, rfl⟩))
    (fun os started H enc _ => lifted PU os started H enc)
theorem said (PU : Pure) : Rows.ConvexSumsSaid := over PU
end Go.Proofs.Ytdgjelbkogfedaa.RConvexSums
