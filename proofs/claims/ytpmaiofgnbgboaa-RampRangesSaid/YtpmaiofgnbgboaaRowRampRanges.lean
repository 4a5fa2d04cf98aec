import Derived.Test.YtpmaiofgnbgboaaRows
import Derived.Test.YtpmaiofgnbgboaaHRampRangesy5
import Derived.Test.YtpmaiofgnbgboaaBridge
import Derived.WalkKit
import Derived.ProofKit
import Derived.OpenShut
import Derived.ShutString
import Derived.ChangeOld
import Derived.Below
import Derived.SizedLaws
import Derived.Carry
import Derived.LaidMore
import Derived.Stop.Joined
namespace Go.Proofs.Ytpmaiofgnbgboaa.RRampRanges
open Go.ChangeShapes Go.WideShapes Go.ChangeAt Go.RowKit Go.Proofs.Ytpmaiofgnbgboaa.Bridge Go.Proofs.YtpmaiofgnbgboaaW.PrintWords Go.Proofs.Ytpmaiofgnbgboaa.PRampRanges
open Go.ChangeMaps (open_string shut_string)
set_option linter.unusedVariables false
def good30 (x : S30) : Prop := ((Lit.int .i64 x.f0).wf = true) ∧ ((Lit.int .i64 x.f1).wf = true)
theorem opn30 : Opn k30 Try.prog 30 good30 :=
  opn_iso (opn_struct Try.underlying30 (by kernel_rfl) (opnF_cons (off':=1) rfl (by kernel_rfl) rfl (opn_int Try.underlying3) (opnF_one rfl (by kernel_rfl) (opn_int Try.underlying3)))) (fun z => ⟨⟨z.1, z.2⟩, rfl⟩)
def Pure : Prop := ∀ (l0 : List (S30)) (a1 : Int) (a2 : Int) (a3 : Int), ((l0.length * 16 ≤ 140737488351232 ∧ ∀ y30 ∈ l0, good30 y30)) → ((Lit.int .i64 a1).wf = true) → ((Lit.int .i64 a2).wf = true) → ((Lit.int .i64 a3).wf = true) → ∃ k, gridhalllaw3_RampRanges.f k l0 a1 a2 a3 = some true
theorem own : ownKnob Try.prog.godebug = none := by kernel_rfl
theorem laidOut : laidOutB Try.prog = true := by kernel_rfl
set_option maxHeartbeats 2000000 in
set_option maxRecDepth 100000 in
theorem lifted (PU : Pure) (os : Os) (started : os.Started) (H : Type) (enc : TypeId × Value → H) :
    ReturnsInHanded {} Try.checked os 4 .any (Rows.rampRangesSpec.pre6 enc Try.prog Try.f4 Rows.rampRangesRow.domain false) (Rows.rampRangesSpec.post enc Try.prog Try.f4 false true false false):=by
  refine returnsInHanded_of_change_sized (C:=Try.checked) own started (by kernel_rfl) Try.func4
    (ChangeSpec.witness6 (enc:=enc) (C:=Try.checked) false ⟨#[], #[.slice none 0 0, .int .i64 0, .int .i64 0, .int .i64 0], []⟩ 8 (by kernel_rfl) (by kernel_rfl) (by kernel_rfl) (by kernel_rfl)) ?_
  intro W base args ds gs before hval0 hW hcnd hsz0 _
  have hsz : (DataW.weightsEach Try.prog (Try.f4.params.toList ++ Rows.rampRangesSpec.plain.varTypes Try.prog) (ds ++ gs)).all (· ≤ reachBytes) = true:=hsz0
  have hval : ∀ (j : Nat) t v, Try.f4.params[j]? = some t → args[j]? = some v → Value.okWide Try.prog W .any base t v:=hval0
  have hW':=hW
  obtain ⟨p, q, hA0, hV, rfl, hfz, hnd⟩:=hW
  have hA : DataW.TrodAll enc Try.prog W 0 (fun _ => true) true Try.f4.params.toList args.toList ds p:=hA0
  rw [Try.params4] at hA hval hsz
  obtain ⟨v0, vs0, d0, ds0, p0, q0, hargs, rfl, rfl, h0, r0⟩:=trodAll_cons hA
  obtain ⟨v1, vs1, d1, ds1, p1, q1, rfl, rfl, rfl, h1, r1⟩:=trodAll_cons r0
  obtain ⟨v2, vs2, d2, ds2, p2, q2, rfl, rfl, rfl, h2, r2⟩:=trodAll_cons r1
  obtain ⟨v3, vs3, d3, ds3, p3, q3, rfl, rfl, rfl, h3, r3⟩:=trodAll_cons r2
  obtain ⟨rfl, rfl, rfl⟩:=trodAll_nil r3
  obtain rfl : args = #[v0, v1, v2, v3]:=by cases args; simp_all
  obtain ⟨rfl, rfl⟩:=trodVars_none hV
  have k0:=h0
  have lt0 : ∀ x ∈ p0, x.block < W.heap.size:=by obtain ⟨m, hm⟩:=k0; exact DataW.trod_lt m _ _ _ hm
  obtain ⟨A0, _, c0, rfl⟩:=okWide_slice Try.underlying25 (hval 0 25 v0 rfl rfl)
  obtain ⟨l0, K0, Gl0⟩:=opn_arg (opn_slice (e:=30) (k:=k30) (B:=16) Try.underlying25 (by kernel_rfl) (by kernel_rfl) opn30) hsz (j:=0) (t:=25) rfl rfl h0
  obtain ⟨_, _, e0_, l0_, g0⟩:=K0
  simp [Value.cells] at e0_
  obtain ⟨rfl, rfl, rfl⟩:=e0_
  have k1:=h1
  have lt1 : ∀ x ∈ p1, x.block < W.heap.size:=by obtain ⟨m, hm⟩:=k1; exact DataW.trod_lt m _ _ _ hm
  obtain ⟨a1, rfl, rfl, rfl, Ga1⟩:=open_int Try.underlying3 (hval 1 3 v1 rfl rfl) h1
  have k2:=h2
  have lt2 : ∀ x ∈ p2, x.block < W.heap.size:=by obtain ⟨m, hm⟩:=k2; exact DataW.trod_lt m _ _ _ hm
  obtain ⟨a2, rfl, rfl, rfl, Ga2⟩:=open_int Try.underlying3 (hval 2 3 v2 rfl rfl) h2
  have k3:=h3
  have lt3 : ∀ x ∈ p3, x.block < W.heap.size:=by obtain ⟨m, hm⟩:=k3; exact DataW.trod_lt m _ _ _ hm
  obtain ⟨a3, rfl, rfl, rfl, Ga3⟩:=open_int Try.underlying3 (hval 3 3 v3 rfl rfl) h3
  clear hA0 hval0 hsz0 hsz
  obtain ⟨k, hk⟩:=PU l0 a1 a2 a3 Gl0 Ga1 Ga2 Ga3
  refine (gridhalllaw3_RampRanges.calls (k:=k) (A0:=A0) (c0:=c0) (l0:=l0) (a1:=a1) (a2:=a2) (a3:=a3) (r:=true) (w:=W) (hr0:=g0) (hc0:=l0_) (h:=hk)).mono fun e W' ⟨he, bel0⟩ => ?_
  have bel : Below W.heap.size W W':=bel0
  subst he
  exact ⟨_, rfl, _, _, _, [], _, [], hW', trodAll_mk1 (shut_bool Try.underlying4 _),(trodAll_cons_mk (Below.trod laidOut (by kernel_rfl) (of_decide_eq_true (by kernel_rfl)) k0 bel lt0) (trodAll_cons_mk (Below.trod laidOut (by kernel_rfl) (of_decide_eq_true (by kernel_rfl)) k1 bel lt1) (trodAll_cons_mk (Below.trod laidOut (by kernel_rfl) (of_decide_eq_true (by kernel_rfl)) k2 bel lt2) (trodAll_cons_mk (Below.trod laidOut (by kernel_rfl) (of_decide_eq_true (by kernel_rfl)) k3 bel lt3) trodAll_mk0)))), rfl, bel.frame _, fun h => by cases h⟩
theorem over (PU : Pure) : Rows.rampRangesRow.holds Try.pinned (OpenSpec.ofChange Rows.rampRangesSpec) :=
  OpenClaim.holds_of_wide 4 Try.f4 rfl rfl rfl rfl rfl rfl rfl ⟨rfl, rfl, rfl, rfl, rfl⟩ rfl rfl rfl rfl rfl (by kernel_rfl) Try.func4 (by kernel_rfl)
    (of_decide_eq_true (by kernel_rfl)) (by unfold Func.isWrapper; first|(rw [if_pos (by decide +kernel)]; kernel_rfl)|(rw [if_neg (by decide +kernel)]; exact ⟨rfl, rfl⟩))
    (fun os started H enc _ => lifted PU os started H enc)
theorem said (PU : Pure) : Rows.RampRangesSaid := over PU
end Go.Proofs.Ytpmaiofgnbgboaa.RRampRanges
