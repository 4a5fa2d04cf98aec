import Derived.Test.YtefkdkppipdceaaRows
import Derived.Test.YtefkdkppipdceaaHCommitServesy20
import Derived.Test.YtefkdkppipdceaaBridge
import Derived.WalkKit
import Derived.ProofKit
import Derived.OpenShut
import Derived.ShutString
import Derived.ChangeOld
import Derived.Below
import Derived.SizedLaws
import Derived.Carry
namespace Go.Proofs.Ytefkdkppipdceaa.RCommitServes
open Go.ChangeShapes Go.WideShapes Go.ChangeAt Go.RowKit Go.Proofs.Ytefkdkppipdceaa.Bridge Go.Proofs.YtefkdkppipdceaaW.PrintWords Go.Proofs.Ytefkdkppipdceaa.PCommitServes
open Go.ChangeMaps (open_string shut_string)
set_option linter.unusedVariables false
def good54 (x : S54) : Prop := (x.f0.size ≤ 140737488351232) ∧ ((Lit.int .i64 x.f1).wf = true) ∧ ((Lit.int .i64 x.f2).wf = true) ∧ ((Lit.int .i64 x.f3).wf = true) ∧ ((Lit.int .i64 x.f4).wf = true) ∧ ((Lit.int .i64 x.f5).wf = true) ∧ ((Lit.int .i64 x.f6).wf = true) ∧ ((Lit.int .i64 x.f7).wf = true)
theorem opn54 : Opn k54 Try.prog 54 good54 :=
  opn_iso (opn_struct Try.underlying54 (by kernel_rfl) (opnF_cons (off':=1) rfl (by kernel_rfl) rfl (opn_string Try.underlying9) (opnF_cons (off':=2) rfl (by kernel_rfl) rfl (opn_int Try.underlying3) (opnF_cons (off':=3) rfl (by kernel_rfl) rfl (opn_int Try.underlying3) (opnF_cons (off':=4) rfl (by kernel_rfl) rfl (opn_int Try.underlying3) (opnF_cons (off':=5) rfl (by kernel_rfl) rfl (opn_int Try.underlying3) (opnF_cons (off':=6) rfl (by kernel_rfl) rfl (opn_int Try.underlying3) (opnF_cons (off':=7) rfl (by kernel_rfl) rfl (opn_int Try.underlying3) (opnF_one rfl (by kernel_rfl) (opn_int Try.underlying3)))))))))) (fun z => ⟨⟨z.1, z.2.1, z.2.2.1, z.2.2.2.1, z.2.2.2.2.1, z.2.2.2.2.2.1, z.2.2.2.2.2.2.1, z.2.2.2.2.2.2.2⟩, rfl⟩)
def good132 (x : S132) : Prop := ((Lit.int .i64 x.f0).wf = true) ∧ ((Lit.int .i64 x.f1).wf = true)
theorem opn132 : Opn k132 Try.prog 132 good132 :=
  opn_iso (opn_struct Try.underlying132 (by kernel_rfl) (opnF_cons (off':=1) rfl (by kernel_rfl) rfl (opn_int Try.underlying3) (opnF_one rfl (by kernel_rfl) (opn_int Try.underlying3)))) (fun z => ⟨⟨z.1, z.2⟩, rfl⟩)
def good57 (x : S57) : Prop := (x.f0.size ≤ 140737488351232) ∧ ((x.f1.length * 16 ≤ 140737488351232 ∧ ∀ y132 ∈ x.f1, good132 y132))
theorem opn57 : Opn k57 Try.prog 57 good57 :=
  opn_iso (opn_struct Try.underlying57 (by kernel_rfl) (opnF_cons (off':=1) rfl (by kernel_rfl) rfl (opn_string Try.underlying9) (opnF_one rfl (by kernel_rfl) (opn_slice (e:=132) (k:=k132) (B:=16) Try.underlying55 (by kernel_rfl) (by kernel_rfl) opn132)))) (fun z => ⟨⟨z.1, z.2⟩, rfl⟩)
def good59 (x : S59) : Prop := (True) ∧ ((Lit.int .i64 x.f1).wf = true) ∧ ((Lit.int .i64 x.f2).wf = true)
theorem opn59 : Opn k59 Try.prog 59 good59 :=
  opn_iso (opn_struct Try.underlying59 (by kernel_rfl) (opnF_cons (off':=1) rfl (by kernel_rfl) rfl (opn_bool Try.underlying4) (opnF_cons (off':=2) rfl (by kernel_rfl) rfl (opn_int Try.underlying3) (opnF_one rfl (by kernel_rfl) (opn_int Try.underlying3))))) (fun z => ⟨⟨z.1, z.2.1, z.2.2⟩, rfl⟩)
def good61 (x : S61) : Prop := (good54 x.f0) ∧ (good57 x.f1) ∧ (good59 x.f2)
theorem opn61 : Opn k61 Try.prog 61 good61 :=
  opn_iso (opn_struct Try.underlying61 (by kernel_rfl) (opnF_cons (off':=8) rfl (by kernel_rfl) rfl opn54 (opnF_cons (off':=10) rfl (by kernel_rfl) rfl opn57 (opnF_one rfl (by kernel_rfl) opn59)))) (fun z => ⟨⟨z.1, z.2.1, z.2.2⟩, rfl⟩)
def Pure : Prop := ∀ (l0 : List (S61)) (l1 : List (Bool)) (a2 : Int), ((l0.length * 136 ≤ 140737488351232 ∧ ∀ y61 ∈ l0, good61 y61)) → ((l1.length * 1 ≤ 140737488351232 ∧ ∀ y4 ∈ l1, True)) → ((Lit.int .i64 a2).wf = true) → ∃ k, gridhalllaw3_CommitServes.f k l0 l1 a2 = some true
theorem own : ownKnob Try.prog.godebug = none := by kernel_rfl
theorem laidOut : laidOutB Try.prog = true := by kernel_rfl
set_option maxHeartbeats 2000000 in
set_option maxRecDepth 100000 in
theorem lifted (PU : Pure) (os : Os) (started : os.Started) (H : Type) (enc : TypeId × Value → H) :
    ReturnsInHanded {} Try.checked os 5 .any (Rows.commitServesSpec.pre6 enc Try.prog Try.f5 Rows.commitServesRow.domain false) (Rows.commitServesSpec.post enc Try.prog Try.f5 false true false false):=by
  refine returnsInHanded_of_change_sized (C:=Try.checked) own started (by kernel_rfl) Try.func5
    (ChangeSpec.witness6 (enc:=enc) (C:=Try.checked) false ⟨#[], #[.slice none 0 0, .slice none 0 0, .int .i64 0], []⟩ 8 (by kernel_rfl) (by kernel_rfl) (by kernel_rfl) (by kernel_rfl)) ?_
  intro W base args ds gs before hval0 hW hcnd hsz0 _
  have hsz : (DataW.weightsEach Try.prog (Try.f5.params.toList ++ Rows.commitServesSpec.plain.varTypes Try.prog) (ds ++ gs)).all (· ≤ reachBytes) = true:=hsz0
  have hval : ∀ (j : Nat) t v, Try.f5.params[j]? = some t → args[j]? = some v → Value.okWide Try.prog W .any base t v:=hval0
  have hW':=hW
  obtain ⟨p, q, hA0, hV, rfl, hfz, hnd⟩:=hW
  have hA : DataW.TrodAll enc Try.prog W 0 (fun _ => true) true Try.f5.params.toList args.toList ds p:=hA0
  rw [Try.params5] at hA hval hsz
  obtain ⟨v0, vs0, d0, ds0, p0, q0, hargs, rfl, rfl, h0, r0⟩:=trodAll_cons hA
  obtain ⟨v1, vs1, d1, ds1, p1, q1, rfl, rfl, rfl, h1, r1⟩:=trodAll_cons r0
  obtain ⟨v2, vs2, d2, ds2, p2, q2, rfl, rfl, rfl, h2, r2⟩:=trodAll_cons r1
  obtain ⟨rfl, rfl, rfl⟩:=trodAll_nil r2
  obtain rfl : args = #[v0, v1, v2]:=by cases args; simp_all
  obtain ⟨rfl, rfl⟩:=trodVars_none hV
  have k0:=h0
  have lt0 : ∀ x ∈ p0, x.block < W.heap.size:=by obtain ⟨m, hm⟩:=k0; exact DataW.trod_lt m _ _ _ hm
  obtain ⟨A0, _, c0, rfl⟩:=okWide_slice Try.underlying48 (hval 0 48 v0 rfl rfl)
  obtain ⟨l0, K0, Gl0⟩:=opn_arg (opn_slice (e:=61) (k:=k61) (B:=136) Try.underlying48 (by kernel_rfl) (by kernel_rfl) opn61) hsz (j:=0) (t:=48) rfl rfl h0
  obtain ⟨_, _, e0_, l0_, g0⟩:=K0
  simp [Value.cells] at e0_
  obtain ⟨rfl, rfl, rfl⟩:=e0_
  have k1:=h1
  have lt1 : ∀ x ∈ p1, x.block < W.heap.size:=by obtain ⟨m, hm⟩:=k1; exact DataW.trod_lt m _ _ _ hm
  obtain ⟨A1, _, c1, rfl⟩:=okWide_slice Try.underlying49 (hval 1 49 v1 rfl rfl)
  obtain ⟨l1, K1, Gl1⟩:=opn_arg (opn_slice (e:=4) (k:=Kd.bool) (B:=1) Try.underlying49 (by kernel_rfl) (by kernel_rfl) (opn_bool Try.underlying4)) hsz (j:=1) (t:=49) rfl rfl h1
  obtain ⟨_, _, e1_, l1_, g1⟩:=K1
  simp [Value.cells] at e1_
  obtain ⟨rfl, rfl, rfl⟩:=e1_
  have k2:=h2
  have lt2 : ∀ x ∈ p2, x.block < W.heap.size:=by obtain ⟨m, hm⟩:=k2; exact DataW.trod_lt m _ _ _ hm
  obtain ⟨a2, rfl, rfl, rfl, Ga2⟩:=open_int Try.underlying3 (hval 2 3 v2 rfl rfl) h2
  clear hA0 hval0 hsz0 hsz
  obtain ⟨k, hk⟩:=PU l0 l1 a2 Gl0 Gl1 Ga2
  refine (gridhalllaw3_CommitServes.calls (k:=k) (A0:=A0) (c0:=c0) (l0:=l0) (A1:=A1) (c1:=c1) (l1:=l1) (a2:=a2) (r:=true) (w:=W) (hr0:=g0) (hc0:=l0_) (hr1:=g1) (hc1:=l1_) (h:=hk)).mono fun e W' ⟨he, bel0⟩ => ?_
  have bel : Below W.heap.size W W':=bel0
  subst he
  exact ⟨_, rfl, _, _, _, [], _, [], hW', trodAll_mk1 (shut_bool Try.underlying4 _),(trodAll_cons_mk (Below.trod laidOut (by kernel_rfl) (of_decide_eq_true (by kernel_rfl)) k0 bel lt0) (trodAll_cons_mk (Below.trod laidOut (by kernel_rfl) (of_decide_eq_true (by kernel_rfl)) k1 bel lt1) (trodAll_cons_mk (Below.trod laidOut (by kernel_rfl) (of_decide_eq_true (by kernel_rfl)) k2 bel lt2) trodAll_mk0))), rfl, bel.frame _, fun h => by cases h⟩
theorem over (PU : Pure) : Rows.commitServesRow.holds Try.pinned (OpenSpec.ofChange Rows.commitServesSpec) :=
  OpenClaim.holds_of_wide 5 Try.f5 rfl rfl rfl rfl rfl rfl rfl ⟨rfl, rfl, rfl, rfl, rfl⟩ rfl rfl rfl rfl rfl (by kernel_rfl) Try.func5 (by kernel_rfl)
    (of_decide_eq_true (by kernel_rfl)) (by unfold Func.isWrapper; first|(rw [if_pos (by decide +kernel)]; kernel_rfl)|(rw [if_neg (by decide +kernel)]; exact ⟨rfl, rfl⟩))
    (fun os started H enc _ => lifted PU os started H enc)
theorem said (PU : Pure) : Rows.CommitServesSaid := over PU
end Go.Proofs.Ytefkdkppipdceaa.RCommitServes
