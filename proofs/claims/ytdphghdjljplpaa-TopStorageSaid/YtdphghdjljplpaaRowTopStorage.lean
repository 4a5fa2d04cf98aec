import Derived.Test.YtdphghdjljplpaaRows
import Derived.Test.YtdphghdjljplpaaHTopStoragey16
import Derived.Test.YtdphghdjljplpaaBridge
import Derived.WalkKit
import Derived.ProofKit
import Derived.OpenShut
import Derived.ShutString
import Derived.ChangeOld
import Derived.Below
import Derived.SizedLaws
import Derived.Carry
namespace Go.Proofs.Ytdphghdjljplpaa.RTopStorage
open Go.ChangeShapes Go.WideShapes Go.ChangeAt Go.RowKit Go.Proofs.Ytdphghdjljplpaa.Bridge Go.Proofs.YtdphghdjljplpaaW.PrintWords Go.Proofs.Ytdphghdjljplpaa.PTopStorage
open Go.ChangeMaps (open_string shut_string)
set_option linter.unusedVariables false
def Pure : Prop := ∀ (a0_0 : Int) (a0_1 : Int) (a0_2 : Int) (a0_3 : Int) (a0_4 : Int) (l1 : List (Int)) (a2 : Int), ((Lit.int .i64 a0_0).wf = true) → ((Lit.int .i64 a0_1).wf = true) → ((Lit.int .i64 a0_2).wf = true) → ((Lit.int .i64 a0_3).wf = true) → ((Lit.int .i64 a0_4).wf = true) → ((l1.length * 8 ≤ 140737488351232 ∧ ∀ y3 ∈ l1, (Lit.int .i64 y3).wf = true)) → ((Lit.int .i64 a2).wf = true) → ∃ k, gridhalltop_TopStorage.f k a0_0 a0_1 a0_2 a0_3 a0_4 l1 a2 = some true
theorem own : ownKnob Try.prog.godebug = none := by kernel_rfl
theorem laidOut : laidOutB Try.prog = true := by kernel_rfl
set_option maxHeartbeats 2000000 in
set_option maxRecDepth 100000 in
theorem lifted (PU : Pure) (os : Os) (started : os.Started) (H : Type) (enc : TypeId × Value → H) :
    ReturnsInHanded {} Try.checked os 4 .any (Rows.topStorageSpec.pre6 enc Try.prog Try.f4 Rows.topStorageRow.domain false) (Rows.topStorageSpec.post enc Try.prog Try.f4 false true false false):=by
  refine returnsInHanded_of_change_sized (C:=Try.checked) own started (by kernel_rfl) Try.func4
    (ChangeSpec.witness6 (enc:=enc) (C:=Try.checked) false ⟨#[], #[.agg #[.int .i64 0, .int .i64 0, .int .i64 0, .int .i64 0, .int .i64 0], .slice none 0 0, .int .i64 0], []⟩ 8 (by kernel_rfl) (by kernel_rfl) (by kernel_rfl) (by kernel_rfl)) ?_
  intro W base args ds gs before hval0 hW hcnd hsz0 _
  have hsz : (DataW.weightsEach Try.prog (Try.f4.params.toList ++ Rows.topStorageSpec.plain.varTypes Try.prog) (ds ++ gs)).all (· ≤ reachBytes) = true:=hsz0
  have hval : ∀ (j : Nat) t v, Try.f4.params[j]? = some t → args[j]? = some v → Value.okWide Try.prog W .any base t v:=hval0
  have hW':=hW
  obtain ⟨p, q, hA0, hV, rfl, hfz, hnd⟩:=hW
  have hA : DataW.TrodAll enc Try.prog W 0 (fun _ => true) true Try.f4.params.toList args.toList ds p:=hA0
  rw [Try.params4] at hA hval hsz
  obtain ⟨v0, vs0, d0, ds0, p0, q0, hargs, rfl, rfl, h0, r0⟩:=trodAll_cons hA
  obtain ⟨v1, vs1, d1, ds1, p1, q1, rfl, rfl, rfl, h1, r1⟩:=trodAll_cons r0
  obtain ⟨v2, vs2, d2, ds2, p2, q2, rfl, rfl, rfl, h2, r2⟩:=trodAll_cons r1
  obtain ⟨rfl, rfl, rfl⟩:=trodAll_nil r2
  obtain rfl : args = #[v0, v1, v2]:=by cases args; simp_all
  obtain ⟨rfl, rfl⟩:=trodVars_none hV
  have k0:=h0
  have lt0 : ∀ x ∈ p0, x.block < W.heap.size:=by obtain ⟨m, hm⟩:=k0; exact DataW.trod_lt m _ _ _ hm
  obtain ⟨cs0, rfl, _⟩:=okWide_struct Try.underlying40 (hval 0 40 v0 rfl rfl)
  obtain ⟨⟨a0_0, ⟨a0_1, ⟨a0_2, ⟨a0_3, a0_4⟩⟩⟩⟩, K0, ⟨Ga0_0, ⟨Ga0_1, ⟨Ga0_2, ⟨Ga0_3, Ga0_4⟩⟩⟩⟩⟩:=opn_arg (opn_struct Try.underlying40 (by kernel_rfl) (opnF_cons (off':=1) rfl (by kernel_rfl) rfl (opn_int Try.underlying3) (opnF_cons (off':=2) rfl (by kernel_rfl) rfl (opn_int Try.underlying3) (opnF_cons (off':=3) rfl (by kernel_rfl) rfl (opn_int Try.underlying3) (opnF_cons (off':=4) rfl (by kernel_rfl) rfl (opn_int Try.underlying3) (opnF_one rfl (by kernel_rfl) (opn_int Try.underlying3))))))) hsz (j:=0) (t:=40) rfl rfl h0
  obtain ⟨_, _, e0_, rfl, ⟨_, _, rfl, rfl, ⟨_, _, rfl, rfl, ⟨_, _, rfl, rfl, rfl⟩⟩⟩⟩:=K0
  obtain rfl : cs0 = #[.int .i64 a0_0, .int .i64 a0_1, .int .i64 a0_2, .int .i64 a0_3, .int .i64 a0_4]:=by obtain ⟨cs0⟩:=cs0; simpa [Value.cells] using e0_
  have k1:=h1
  have lt1 : ∀ x ∈ p1, x.block < W.heap.size:=by obtain ⟨m, hm⟩:=k1; exact DataW.trod_lt m _ _ _ hm
  obtain ⟨A1, _, c1, rfl⟩:=okWide_slice Try.underlying23 (hval 1 23 v1 rfl rfl)
  obtain ⟨l1, K1, Gl1⟩:=opn_arg (opn_slice (e:=3) (k:=(Kd.int .i64)) (B:=8) Try.underlying23 (by kernel_rfl) (by kernel_rfl) (opn_int Try.underlying3)) hsz (j:=1) (t:=23) rfl rfl h1
  obtain ⟨_, _, e1_, l1_, g1⟩:=K1
  simp [Value.cells] at e1_
  obtain ⟨rfl, rfl, rfl⟩:=e1_
  have k2:=h2
  have lt2 : ∀ x ∈ p2, x.block < W.heap.size:=by obtain ⟨m, hm⟩:=k2; exact DataW.trod_lt m _ _ _ hm
  obtain ⟨a2, rfl, rfl, rfl, Ga2⟩:=open_int Try.underlying3 (hval 2 3 v2 rfl rfl) h2
  clear hA0 hval0 hsz0 hsz
  obtain ⟨k, hk⟩:=PU a0_0 a0_1 a0_2 a0_3 a0_4 l1 a2 Ga0_0 Ga0_1 Ga0_2 Ga0_3 Ga0_4 Gl1 Ga2
  refine (gridhalltop_TopStorage.calls (k:=k) (a0_0:=a0_0) (a0_1:=a0_1) (a0_2:=a0_2) (a0_3:=a0_3) (a0_4:=a0_4) (A1:=A1) (c1:=c1) (l1:=l1) (a2:=a2) (r:=true) (w:=W) (hr1:=g1) (hc1:=l1_) (h:=hk)).mono fun e W' ⟨he, bel0⟩ => ?_
  have bel : Below W.heap.size W W':=bel0
  subst he
  exact ⟨_, rfl, _, _, _, [], _, [], hW', trodAll_mk1 (shut_bool Try.underlying4 _),(trodAll_cons_mk (Below.trod laidOut (by kernel_rfl) (of_decide_eq_true (by kernel_rfl)) k0 bel lt0) (trodAll_cons_mk (Below.trod laidOut (by kernel_rfl) (of_decide_eq_true (by kernel_rfl)) k1 bel lt1) (trodAll_cons_mk (Below.trod laidOut (by kernel_rfl) (of_decide_eq_true (by kernel_rfl)) k2 bel lt2) trodAll_mk0))), rfl, bel.frame _, fun h => by cases h⟩
theorem over (PU : Pure) : Rows.topStorageRow.holds Try.pinned (OpenSpec.ofChange Rows.topStorageSpec) :=
  OpenClaim.holds_of_wide 4 Try.f4 rfl rfl rfl rfl rfl rfl rfl ⟨rfl, rfl, rfl, rfl, rfl⟩ rfl rfl rfl rfl rfl (by kernel_rfl) Try.func4 (by kernel_rfl)
    (of_decide_eq_true (by kernel_rfl)) (by unfold Func.isWrapper; first|(rw [if_pos (by decide +kernel)]; kernel_rfl)|(rw [if_neg (by decide +kernel)]; exact ⟨rfl, rfl⟩))
    (fun os started H enc _ => lifted PU os started H enc)
theorem said (PU : Pure) : Rows.TopStorageSaid := over PU
end Go.Proofs.Ytdphghdjljplpaa.RTopStorage
