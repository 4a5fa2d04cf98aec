import Derived.Test.YtdgjelbkogfedaaRows
import Derived.Test.YtdgjelbkogfedaaHDualSingley17
import Derived.Test.YtdgjelbkogfedaaBridge
import Derived.WalkKit
import Derived.ProofKit
import Derived.OpenShut
import Derived.ShutString
import Derived.ChangeOld
import Derived.Below
import Derived.SizedLaws
import Derived.Carry
import Derived.LaidMore
import Derived.Stop.Joined
namespace Go.Proofs.Ytdgjelbkogfedaa.RDualSingle
open Go.ChangeShapes Go.WideShapes Go.ChangeAt Go.RowKit Go.Proofs.Ytdgjelbkogfedaa.Bridge Go.Proofs.YtdgjelbkogfedaaW.PrintWords Go.Proofs.Ytdgjelbkogfedaa.PDualSingle
open Go.ChangeMaps (open_string shut_string)
set_option linter.unusedVariables false
def good116 (x : S116) : Prop := ((Lit.int .i64 x.f0).wf = true) ∧ ((Lit.int .i64 x.f1).wf = true)
theorem opn116 : Opn k116 Try.prog 116 good116 :=
  opn_iso (opn_struct Try.underlying116 (by kernel_rfl) (opnF_cons (off':=1) rfl (by kernel_rfl) rfl (opn_int Try.underlying3) (opnF_one rfl (by kernel_rfl) (opn_int Try.underlying3)))) (fun z => ⟨⟨z.1, z.2⟩, rfl⟩)
def Pure : Prop := ∀ (a0_0 : ByteArray) (a0_1 : Int) (a0_2 : Int) (a0_3 : Int) (a0_4 : Int) (a0_5 : Int) (a0_6 : Int) (a0_7 : Int) (a0_8 : ByteArray) (l0_9 : List (S116)) (a0_10 : Bool) (a0_11 : Int) (a0_12 : Int) (l1 : List (Int)), (a0_0.size ≤ 140737488351232) → ((Lit.int .i64 a0_1).wf = true) → ((Lit.int .i64 a0_2).wf = true) → ((Lit.int .i64 a0_3).wf = true) → ((Lit.int .i64 a0_4).wf = true) → ((Lit.int .i64 a0_5).wf = true) → ((Lit.int .i64 a0_6).wf = true) → ((Lit.int .i64 a0_7).wf = true) → (a0_8.size ≤ 140737488351232) → ((l0_9.length * 16 ≤ 140737488351232 ∧ ∀ y116 ∈ l0_9, good116 y116)) → (True) → ((Lit.int .i64 a0_11).wf = true) → ((Lit.int .i64 a0_12).wf = true) → ((l1.length * 8 ≤ 140737488351232 ∧ ∀ y3 ∈ l1, (Lit.int .i64 y3).wf = true)) → ∃ k, gridhalllaw3_DualSingle.f k a0_0 a0_1 a0_2 a0_3 a0_4 a0_5 a0_6 a0_7 a0_8 l0_9 a0_10 a0_11 a0_12 l1 = some true
theorem own : ownKnob Try.prog.godebug = none := by kernel_rfl
theorem laidOut : laidOutB Try.prog = true := by kernel_rfl
set_option maxHeartbeats 2000000 in
set_option maxRecDepth 100000 in
theorem lifted (PU : Pure) (os : Os) (started : os.Started) (H : Type) (enc : TypeId × Value → H) :
    ReturnsInHanded {} Try.checked os 3 .any (Rows.dualSingleSpec.pre6 enc Try.prog Try.f3 Rows.dualSingleRow.domain false) (Rows.dualSingleSpec.post enc Try.prog Try.f3 false true false false):=by
  refine returnsInHanded_of_change_sized (C:=Try.checked) own started (by kernel_rfl) Try.func3
    (ChangeSpec.witness6 (enc:=enc) (C:=Try.checked) false ⟨#[], #[.agg #[.string ByteArray.empty, .int .i64 0, .int .i64 0, .int .i64 0, .int .i64 0, .int .i64 0, .int .i64 0, .int .i64 0, .string ByteArray.empty, .slice none 0 0, .bool false, .int .i64 0, .int .i64 0], .slice none 0 0], []⟩ 8 (by kernel_rfl) (by kernel_rfl) (by kernel_rfl) (by kernel_rfl)) ?_
  intro W base args ds gs before hval0 hW hcnd hsz0 _
  have hsz : (DataW.weightsEach Try.prog (Try.f3.params.toList ++ Rows.dualSingleSpec.plain.varTypes Try.prog) (ds ++ gs)).all (· ≤ reachBytes) = true:=hsz0
  have hval : ∀ (j : Nat) t v, Try.f3.params[j]? = some t → args[j]? = some v → Value.okWide Try.prog W .any base t v:=hval0
  have hW':=hW
  obtain ⟨p, q, hA0, hV, rfl, hfz, hnd⟩:=hW
  have hA : DataW.TrodAll enc Try.prog W 0 (fun _ => true) true Try.f3.params.toList args.toList ds p:=hA0
  rw [Try.params3] at hA hval hsz
  obtain ⟨v0, vs0, d0, ds0, p0, q0, hargs, rfl, rfl, h0, r0⟩:=trodAll_cons hA
  obtain ⟨v1, vs1, d1, ds1, p1, q1, rfl, rfl, rfl, h1, r1⟩:=trodAll_cons r0
  obtain ⟨rfl, rfl, rfl⟩:=trodAll_nil r1
  obtain rfl : args = #[v0, v1]:=by cases args; simp_all
  obtain ⟨rfl, rfl⟩:=trodVars_none hV
  have k0:=h0
  have lt0 : ∀ x ∈ p0, x.block < W.heap.size:=by obtain ⟨m, hm⟩:=k0; exact DataW.trod_lt m _ _ _ hm
  obtain ⟨cs0, rfl, _⟩:=okWide_struct Try.underlying30 (hval 0 30 v0 rfl rfl)
  obtain ⟨⟨⟨a0_0, ⟨a0_1, ⟨a0_2, ⟨a0_3, ⟨a0_4, ⟨a0_5, ⟨a0_6, a0_7⟩⟩⟩⟩⟩⟩⟩,⟨⟨a0_8, l0_9⟩,⟨a0_10, ⟨a0_11, a0_12⟩⟩⟩⟩, K0, ⟨⟨Ga0_0, ⟨Ga0_1, ⟨Ga0_2, ⟨Ga0_3, ⟨Ga0_4, ⟨Ga0_5, ⟨Ga0_6, Ga0_7⟩⟩⟩⟩⟩⟩⟩,⟨⟨Ga0_8, Gl0_9⟩,⟨Ga0_10, ⟨Ga0_11, Ga0_12⟩⟩⟩⟩⟩:=opn_arg (opn_struct Try.underlying30 (by kernel_rfl) (opnF_cons (off':=8) rfl (by kernel_rfl) rfl (opn_struct Try.underlying23 (by kernel_rfl) (opnF_cons (off':=1) rfl (by kernel_rfl) rfl (opn_string Try.underlying9) (opnF_cons (off':=2) rfl (by kernel_rfl) rfl (opn_int Try.underlying3) (opnF_cons (off':=3) rfl (by kernel_rfl) rfl (opn_int Try.underlying3) (opnF_cons (off':=4) rfl (by kernel_rfl) rfl (opn_int Try.underlying3) (opnF_cons (off':=5) rfl (by kernel_rfl) rfl (opn_int Try.underlying3) (opnF_cons (off':=6) rfl (by kernel_rfl) rfl (opn_int Try.underlying3) (opnF_cons (off':=7) rfl (by kernel_rfl) rfl (opn_int Try.underlying3) (opnF_one rfl (by kernel_rfl) (opn_int Try.underlying3)))))))))) (opnF_cons (off':=10) rfl (by kernel_rfl) rfl (opn_struct Try.underlying26 (by kernel_rfl) (opnF_cons (off':=1) rfl (by kernel_rfl) rfl (opn_string Try.underlying9) (opnF_one rfl (by kernel_rfl) (opn_slice (e:=116) (k:=k116) (B:=16) Try.underlying24 (by kernel_rfl) (by kernel_rfl) opn116)))) (opnF_one rfl (by kernel_rfl) (opn_struct Try.underlying28 (by kernel_rfl) (opnF_cons (off':=1) rfl (by kernel_rfl) rfl (opn_bool Try.underlying4) (opnF_cons (off':=2) rfl (by kernel_rfl) rfl (opn_int Try.underlying3) (opnF_one rfl (by kernel_rfl) (opn_int Try.underlying3))))))))) hsz (j:=0) (t:=30) rfl rfl h0
  obtain ⟨_, _, e0_, ⟨_, _, rfl, rfl, ⟨_, _, rfl, rfl, ⟨_, _, rfl, rfl, ⟨_, _, rfl, rfl, ⟨_, _, rfl, rfl, ⟨_, _, rfl, rfl, ⟨_, _, rfl, rfl, rfl⟩⟩⟩⟩⟩⟩⟩,⟨_, _, rfl, ⟨_, _, rfl, rfl, ⟨A0_9, c0_9, rfl, l0_9_, g0_9⟩⟩,⟨_, _, rfl, rfl, ⟨_, _, rfl, rfl, rfl⟩⟩⟩⟩:=K0
  obtain rfl : cs0 = #[.string a0_0, .int .i64 a0_1, .int .i64 a0_2, .int .i64 a0_3, .int .i64 a0_4, .int .i64 a0_5, .int .i64 a0_6, .int .i64 a0_7, .string a0_8, .slice A0_9 l0_9.length c0_9, .bool a0_10, .int .i64 a0_11, .int .i64 a0_12]:=by obtain ⟨cs0⟩:=cs0; simpa [Value.cells] using e0_
  have k1:=h1
  have lt1 : ∀ x ∈ p1, x.block < W.heap.size:=by obtain ⟨m, hm⟩:=k1; exact DataW.trod_lt m _ _ _ hm
  obtain ⟨A1, _, c1, rfl⟩:=okWide_slice Try.underlying31 (hval 1 31 v1 rfl rfl)
  obtain ⟨l1, K1, Gl1⟩:=opn_arg (opn_slice (e:=3) (k:=(Kd.int .i64)) (B:=8) Try.underlying31 (by kernel_rfl) (by kernel_rfl) (opn_int Try.underlying3)) hsz (j:=1) (t:=31) rfl rfl h1
  obtain ⟨_, _, e1_, l1_, g1⟩:=K1
  simp [Value.cells] at e1_
  obtain ⟨rfl, rfl, rfl⟩:=e1_
  clear hA0 hval0 hsz0 hsz
  obtain ⟨k, hk⟩:=PU a0_0 a0_1 a0_2 a0_3 a0_4 a0_5 a0_6 a0_7 a0_8 l0_9 a0_10 a0_11 a0_12 l1 Ga0_0 Ga0_1 Ga0_2 Ga0_3 Ga0_4 Ga0_5 Ga0_6 Ga0_7 Ga0_8 Gl0_9 Ga0_10 Ga0_11 Ga0_12 Gl1
  refine (gridhalllaw3_DualSingle.calls (k:=k) (a0_0:=a0_0) (a0_1:=a0_1) (a0_2:=a0_2) (a0_3:=a0_3) (a0_4:=a0_4) (a0_5:=a0_5) (a0_6:=a0_6) (a0_7:=a0_7) (a0_8:=a0_8) (A0_9:=A0_9) (c0_9:=c0_9) (l0_9:=l0_9) (a0_10:=a0_10) (a0_11:=a0_11) (a0_12:=a0_12) (A1:=A1) (c1:=c1) (l1:=l1) (P1_:=fun k_ => k_ < W.heap.size) (r:=true) (w:=W) (hr0_9:=g0_9) (hc0_9:=l0_9_) (hs1:=Kd.V_mk l1_ (Kd.C_F (by first|exact Kd.heap_int _|exact Kd.heap_bool|exact Kd.heap_string) g1)) (h:=hk)).mono fun e W' ⟨he, bel0⟩ => ?_
  have bel : Below W.heap.size W W':=bel0
  subst he
  exact ⟨_, rfl, _, _, _, [], _, [], hW', trodAll_mk1 (shut_bool Try.underlying4 _),(trodAll_cons_mk (Below.trod laidOut (by kernel_rfl) (of_decide_eq_true (by kernel_rfl)) k0 bel lt0) (trodAll_cons_mk (Below.trod laidOut (by kernel_rfl) (of_decide_eq_true (by kernel_rfl)) k1 bel lt1) trodAll_mk0)), rfl, bel.frame _, fun h => by cases h⟩
theorem over (PU : Pure) : Rows.dualSingleRow.holds Try.pinned (OpenSpec.ofChange Rows.dualSingleSpec) :=
  OpenClaim.holds_of_wide 3 Try.f3 rfl rfl rfl rfl rfl rfl rfl ⟨rfl, rfl, rfl, rfl, rfl⟩ rfl rfl rfl rfl rfl (by kernel_rfl) Try.func3 (by kernel_rfl)
    (of_decide_eq_true (by kernel_rfl)) (by unfold Func.isWrapper; first|(rw [if_pos (by decide +kernel)]; kernel_rfl)|(rw [if_neg (by decide +kernel)]; exact ⟨rfl, rfl⟩))
    (fun os started H enc _ => lifted PU os started H enc)
theorem said (PU : Pure) : Rows.DualSingleSaid := over PU
end Go.Proofs.Ytdgjelbkogfedaa.RDualSingle
