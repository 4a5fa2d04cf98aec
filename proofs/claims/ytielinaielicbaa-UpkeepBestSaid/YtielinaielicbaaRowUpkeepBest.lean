import Derived.Test.YtielinaielicbaaRows
import Derived.Test.YtielinaielicbaaHUpkeepBesty11
import Derived.Test.YtielinaielicbaaBridge
import Derived.WalkKit
import Derived.ProofKit
import Derived.OpenShut
import Derived.ShutString
import Derived.ChangeOld
import Derived.Below
import Derived.SizedLaws
import Derived.Carry
namespace Go.Proofs.Ytielinaielicbaa.RUpkeepBest
open Go.ChangeShapes Go.WideShapes Go.ChangeAt Go.RowKit Go.Proofs.Ytielinaielicbaa.Bridge Go.Proofs.YtielinaielicbaaW.PrintWords Go.Proofs.Ytielinaielicbaa.PUpkeepBest
open Go.ChangeMaps (open_string shut_string)
set_option linter.unusedVariables false
def good28 (x : S28) : Prop := (x.f0.size ≤ 140737488351232) ∧ ((Lit.int .i64 x.f1).wf = true) ∧ ((Lit.int .i64 x.f2).wf = true) ∧ ((Lit.int .i64 x.f3).wf = true) ∧ ((Lit.int .i64 x.f4).wf = true)
theorem opn28 : Opn k28 Try.prog 28 good28 :=
  opn_iso (opn_struct Try.underlying28 (by kernel_rfl) (opnF_cons (off':=1) rfl (by kernel_rfl) rfl (opn_string Try.underlying9) (opnF_cons (off':=2) rfl (by kernel_rfl) rfl (opn_int Try.underlying3) (opnF_cons (off':=3) rfl (by kernel_rfl) rfl (opn_int Try.underlying3) (opnF_cons (off':=4) rfl (by kernel_rfl) rfl (opn_int Try.underlying3) (opnF_one rfl (by kernel_rfl) (opn_int Try.underlying3))))))) (fun z => ⟨⟨z.1, z.2.1, z.2.2.1, z.2.2.2.1, z.2.2.2.2⟩, rfl⟩)
def good29 (x : S29) : Prop := ((Lit.int .i64 x.f0).wf = true) ∧ ((Lit.int .i64 x.f1).wf = true)
theorem opn29 : Opn k29 Try.prog 29 good29 :=
  opn_iso (opn_array2 Try.underlying29 (by kernel_rfl) (by kernel_rfl) (opn_int Try.underlying3)) (fun z => ⟨⟨z.1, z.2⟩, rfl⟩)
def Pure : Prop := ∀ (l0_0 : List (S28)) (l0_1 : List (S29)) (a0_2 : Int), ((l0_0.length * 48 ≤ 140737488351232 ∧ ∀ y28 ∈ l0_0, good28 y28)) → ((l0_1.length * 16 ≤ 140737488351232 ∧ ∀ y29 ∈ l0_1, good29 y29)) → ((Lit.int .i64 a0_2).wf = true) → ∃ k, gridhalllaw4_UpkeepBest.f k l0_0 l0_1 a0_2 = some true
theorem own : ownKnob Try.prog.godebug = none := by kernel_rfl
theorem laidOut : laidOutB Try.prog = true := by kernel_rfl
set_option maxHeartbeats 2000000 in
set_option maxRecDepth 100000 in
theorem lifted (PU : Pure) (os : Os) (started : os.Started) (H : Type) (enc : TypeId × Value → H) :
    ReturnsInHanded {} Try.checked os 4 .any (Rows.upkeepBestSpec.pre6 enc Try.prog Try.f4 Rows.upkeepBestRow.domain false) (Rows.upkeepBestSpec.post enc Try.prog Try.f4 false true false false):=by
  refine returnsInHanded_of_change_sized (C:=Try.checked) own started (by kernel_rfl) Try.func4
    (ChangeSpec.witness6 (enc:=enc) (C:=Try.checked) false ⟨#[], #[.agg #[.slice none 0 0, .slice none 0 0, .int .i64 0]], []⟩ 8 (by kernel_rfl) (by kernel_rfl) (by kernel_rfl) (by kernel_rfl)) ?_
  intro W base args ds gs before hval0 hW hcnd hsz0 _
  have hsz : (DataW.weightsEach Try.prog (Try.f4.params.toList ++ Rows.upkeepBestSpec.plain.varTypes Try.prog) (ds ++ gs)).all (· ≤ reachBytes) = true:=hsz0
  have hval : ∀ (j : Nat) t v, Try.f4.params[j]? = some t → args[j]? = some v → Value.okWide Try.prog W .any base t v:=hval0
  have hW':=hW
  obtain ⟨p, q, hA0, hV, rfl, hfz, hnd⟩:=hW
  have hA : DataW.TrodAll enc Try.prog W 0 (fun _ => true) true Try.f4.params.toList args.toList ds p:=hA0
  rw [Try.params4] at hA hval hsz
  obtain ⟨v0, vs0, d0, ds0, p0, q0, hargs, rfl, rfl, h0, r0⟩:=trodAll_cons hA
  obtain ⟨rfl, rfl, rfl⟩:=trodAll_nil r0
  obtain rfl : args = #[v0]:=by cases args; simp_all
  obtain ⟨rfl, rfl⟩:=trodVars_none hV
  have k0:=h0
  have lt0 : ∀ x ∈ p0, x.block < W.heap.size:=by obtain ⟨m, hm⟩:=k0; exact DataW.trod_lt m _ _ _ hm
  obtain ⟨cs0, rfl, _⟩:=okWide_struct Try.underlying25 (hval 0 25 v0 rfl rfl)
  obtain ⟨⟨l0_0, ⟨l0_1, a0_2⟩⟩, K0, ⟨Gl0_0, ⟨Gl0_1, Ga0_2⟩⟩⟩:=opn_arg (opn_struct Try.underlying25 (by kernel_rfl) (opnF_cons (off':=1) rfl (by kernel_rfl) rfl (opn_slice (e:=28) (k:=k28) (B:=48) Try.underlying22 (by kernel_rfl) (by kernel_rfl) opn28) (opnF_cons (off':=2) rfl (by kernel_rfl) rfl (opn_slice (e:=29) (k:=k29) (B:=16) Try.underlying23 (by kernel_rfl) (by kernel_rfl) opn29) (opnF_one rfl (by kernel_rfl) (opn_int Try.underlying3))))) hsz (j:=0) (t:=25) rfl rfl h0
  obtain ⟨_, _, e0_, ⟨A0_0, c0_0, rfl, l0_0_, g0_0⟩,⟨_, _, rfl, ⟨A0_1, c0_1, rfl, l0_1_, g0_1⟩, rfl⟩⟩:=K0
  obtain rfl : cs0 = #[.slice A0_0 l0_0.length c0_0, .slice A0_1 l0_1.length c0_1, .int .i64 a0_2]:=by obtain ⟨cs0⟩:=cs0; simpa [Value.cells] using e0_
  clear hA0 hval0 hsz0 hsz
  obtain ⟨k, hk⟩:=PU l0_0 l0_1 a0_2 Gl0_0 Gl0_1 Ga0_2
  refine (gridhalllaw4_UpkeepBest.calls (k:=k) (A0_0:=A0_0) (c0_0:=c0_0) (l0_0:=l0_0) (A0_1:=A0_1) (c0_1:=c0_1) (l0_1:=l0_1) (a0_2:=a0_2) (r:=true) (w:=W) (hr0_0:=g0_0) (hc0_0:=l0_0_) (hr0_1:=g0_1) (hc0_1:=l0_1_) (h:=hk)).mono fun e W' ⟨he, bel0⟩ => ?_
  have bel : Below W.heap.size W W':=bel0
  subst he
  exact ⟨_, rfl, _, _, _, [], _, [], hW', trodAll_mk1 (shut_bool Try.underlying4 _),(trodAll_cons_mk (Below.trod laidOut (by kernel_rfl) (of_decide_eq_true (by kernel_rfl)) k0 bel lt0) trodAll_mk0), rfl, bel.frame _, fun h => by cases h⟩
theorem over (PU : Pure) : Rows.upkeepBestRow.holds Try.pinned (OpenSpec.ofChange Rows.upkeepBestSpec) :=
  OpenClaim.holds_of_wide 4 Try.f4 rfl rfl rfl rfl rfl rfl rfl ⟨rfl, rfl, rfl, rfl, rfl⟩ rfl rfl rfl rfl rfl (by kernel_rfl) Try.func4 (by kernel_rfl)
    (of_decide_eq_true (by kernel_rfl)) (by unfold Func.isWrapper; first|(rw [if_pos (by decide +kernel)]; kernel_rfl)|(rw [if_neg (by decide +kernel)]; exact ⟨rfl, rfl⟩))
    (fun os started H enc _ => lifted PU os started H enc)
theorem said (PU : Pure) : Rows.UpkeepBestSaid := over PU
end Go.Proofs.Ytielinaielicbaa.RUpkeepBest
