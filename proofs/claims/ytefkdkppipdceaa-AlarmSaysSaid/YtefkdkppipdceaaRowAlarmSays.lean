import Derived.Test.YtefkdkppipdceaaRows
import Derived.Test.YtefkdkppipdceaaHAlarmSaysy12
import Derived.Test.YtefkdkppipdceaaBridge
import Derived.WalkKit
import Derived.ProofKit
import Derived.OpenShut
import Derived.ShutString
import Derived.ChangeOld
import Derived.Below
import Derived.SizedLaws
import Derived.Carry
import Derived.LaidMore
import Derived.Stop.Joined
namespace Go.Proofs.Ytefkdkppipdceaa.RAlarmSays
open Go.ChangeShapes Go.WideShapes Go.ChangeAt Go.RowKit Go.Proofs.Ytefkdkppipdceaa.Bridge Go.Proofs.YtefkdkppipdceaaW.PrintWords Go.Proofs.Ytefkdkppipdceaa.PAlarmSays
open Go.ChangeMaps (open_string shut_string)
set_option linter.unusedVariables false
def good81 (x : S81) : Prop := (x.f0.size ≤ 140737488351232) ∧ (x.f1.size ≤ 140737488351232)
theorem opn81 : Opn k81 Try.prog 81 good81 :=
  opn_iso (opn_struct Try.underlying81 (by kernel_rfl) (opnF_cons (off':=1) rfl (by kernel_rfl) rfl (opn_string Try.underlying9) (opnF_one rfl (by kernel_rfl) (opn_string Try.underlying9)))) (fun z => ⟨⟨z.1, z.2⟩, rfl⟩)
def Pure : Prop := ∀ (l0 : List (S81)) (l1 : List (ByteArray)) (a2 : ByteArray), ((l0.length * 32 ≤ 140737488351232 ∧ ∀ y81 ∈ l0, good81 y81)) → ((l1.length * 16 ≤ 140737488351232 ∧ ∀ y9 ∈ l1, y9.size ≤ 140737488351232)) → (a2.size ≤ 140737488351232) → ∃ k, gridhalllaw4_AlarmSays.f k l0 l1 a2 = some true
theorem own : ownKnob Try.prog.godebug = none := by kernel_rfl
theorem laidOut : laidOutB Try.prog = true := by kernel_rfl
set_option maxHeartbeats 2000000 in
set_option maxRecDepth 100000 in
theorem lifted (PU : Pure) (os : Os) (started : os.Started) (H : Type) (enc : TypeId × Value → H) :
    ReturnsInHanded {} Try.checked os 7 .any (Rows.alarmSaysSpec.pre6 enc Try.prog Try.f7 Rows.alarmSaysRow.domain false) (Rows.alarmSaysSpec.post enc Try.prog Try.f7 false true false false):=by
  refine returnsInHanded_of_change_sized (C:=Try.checked) own started (by kernel_rfl) Try.func7
    (ChangeSpec.witness6 (enc:=enc) (C:=Try.checked) false ⟨#[], #[.slice none 0 0, .slice none 0 0, .string ByteArray.empty], []⟩ 8 (by kernel_rfl) (by kernel_rfl) (by kernel_rfl) (by kernel_rfl)) ?_
  intro W base args ds gs before hval0 hW hcnd hsz0 _
  have hsz : (DataW.weightsEach Try.prog (Try.f7.params.toList ++ Rows.alarmSaysSpec.plain.varTypes Try.prog) (ds ++ gs)).all (· ≤ reachBytes) = true:=hsz0
  have hval : ∀ (j : Nat) t v, Try.f7.params[j]? = some t → args[j]? = some v → Value.okWide Try.prog W .any base t v:=hval0
  have hW':=hW
  obtain ⟨p, q, hA0, hV, rfl, hfz, hnd⟩:=hW
  have hA : DataW.TrodAll enc Try.prog W 0 (fun _ => true) true Try.f7.params.toList args.toList ds p:=hA0
  rw [Try.params7] at hA hval hsz
  obtain ⟨v0, vs0, d0, ds0, p0, q0, hargs, rfl, rfl, h0, r0⟩:=trodAll_cons hA
  obtain ⟨v1, vs1, d1, ds1, p1, q1, rfl, rfl, rfl, h1, r1⟩:=trodAll_cons r0
  obtain ⟨v2, vs2, d2, ds2, p2, q2, rfl, rfl, rfl, h2, r2⟩:=trodAll_cons r1
  obtain ⟨rfl, rfl, rfl⟩:=trodAll_nil r2
  obtain rfl : args = #[v0, v1, v2]:=by cases args; simp_all
  obtain ⟨rfl, rfl⟩:=trodVars_none hV
  have k0:=h0
  have lt0 : ∀ x ∈ p0, x.block < W.heap.size:=by obtain ⟨m, hm⟩:=k0; exact DataW.trod_lt m _ _ _ hm
  obtain ⟨A0, _, c0, rfl⟩:=okWide_slice Try.underlying78 (hval 0 78 v0 rfl rfl)
  obtain ⟨l0, K0, Gl0⟩:=opn_arg (opn_slice (e:=81) (k:=k81) (B:=32) Try.underlying78 (by kernel_rfl) (by kernel_rfl) opn81) hsz (j:=0) (t:=78) rfl rfl h0
  obtain ⟨_, _, e0_, l0_, g0⟩:=K0
  simp [Value.cells] at e0_
  obtain ⟨rfl, rfl, rfl⟩:=e0_
  have k1:=h1
  have lt1 : ∀ x ∈ p1, x.block < W.heap.size:=by obtain ⟨m, hm⟩:=k1; exact DataW.trod_lt m _ _ _ hm
  obtain ⟨A1, _, c1, rfl⟩:=okWide_slice Try.underlying22 (hval 1 22 v1 rfl rfl)
  obtain ⟨l1, K1, Gl1⟩:=opn_arg (opn_slice (e:=9) (k:=Kd.string) (B:=16) Try.underlying22 (by kernel_rfl) (by kernel_rfl) (opn_string Try.underlying9)) hsz (j:=1) (t:=22) rfl rfl h1
  obtain ⟨_, _, e1_, l1_, g1⟩:=K1
  simp [Value.cells] at e1_
  obtain ⟨rfl, rfl, rfl⟩:=e1_
  have k2:=h2
  have lt2 : ∀ x ∈ p2, x.block < W.heap.size:=by obtain ⟨m, hm⟩:=k2; exact DataW.trod_lt m _ _ _ hm
  obtain ⟨_, K2, Ga2⟩:=opn_arg (opn_string Try.underlying9) hsz (j:=2) (t:=9) rfl rfl h2
  obtain ⟨a2, rfl, rfl, rfl, _⟩:=open_string Try.underlying9 (hval 2 9 v2 rfl rfl) h2
  obtain rfl:=Value.string.inj (List.head_eq_of_cons_eq K2)
  clear hA0 hval0 hsz0 hsz
  obtain ⟨k, hk⟩:=PU l0 l1 a2 Gl0 Gl1 Ga2
  refine (gridhalllaw4_AlarmSays.calls (k:=k) (A0:=A0) (c0:=c0) (l0:=l0) (A1:=A1) (c1:=c1) (l1:=l1) (a2:=a2) (r:=true) (w:=W) (hr0:=g0) (hc0:=l0_) (hr1:=g1) (hc1:=l1_) (h:=hk)).mono fun e W' ⟨he, bel0⟩ => ?_
  have bel : Below W.heap.size W W':=bel0
  subst he
  exact ⟨_, rfl, _, _, _, [], _, [], hW', trodAll_mk1 (shut_bool Try.underlying4 _),(trodAll_cons_mk (Below.trod laidOut (by kernel_rfl) (of_decide_eq_true (by kernel_rfl)) k0 bel lt0) (trodAll_cons_mk (Below.trod laidOut (by kernel_rfl) (of_decide_eq_true (by kernel_rfl)) k1 bel lt1) (trodAll_cons_mk (Below.trod laidOut (by kernel_rfl) (of_decide_eq_true (by kernel_rfl)) k2 bel lt2) trodAll_mk0))), rfl, bel.frame _, fun h => by cases h⟩
theorem over (PU : Pure) : Rows.alarmSaysRow.holds Try.pinned (OpenSpec.ofChange Rows.alarmSaysSpec) :=
  OpenClaim.holds_of_wide 7 Try.f7 rfl rfl rfl rfl rfl rfl rfl ⟨rfl, rfl, rfl, rfl, rfl⟩ rfl rfl rfl rfl rfl (by kernel_rfl) Try.func7 (by kernel_rfl)
    (of_decide_eq_true (by kernel_rfl)) (by unfold Func.isWrapper; first|(rw [if_pos (by decide +kernel)]; kernel_rfl)|(rw [if_neg (by decide +kernel)]; exact ⟨rfl, rfl⟩))
    (fun os started H enc _ => lifted PU os started H enc)
theorem said (PU : Pure) : Rows.AlarmSaysSaid := over PU
end Go.Proofs.Ytefkdkppipdceaa.RAlarmSays
