import Derived.Test.YtdgjelbkogfedaaRows
import Derived.Test.YtdgjelbkogfedaaHAuctionClearsy14
import Derived.Test.YtdgjelbkogfedaaBridge
import Derived.WalkKit
import Derived.ProofKit
import Derived.OpenShut
import Derived.ShutString
import Derived.ChangeOld
import Derived.Below
import Derived.SizedLaws
import Derived.Carry
namespace Go.Proofs.Ytdgjelbkogfedaa.RAuctionClears
open Go.ChangeShapes Go.WideShapes Go.ChangeAt Go.RowKit Go.Proofs.Ytdgjelbkogfedaa.Bridge Go.Proofs.YtdgjelbkogfedaaW.PrintWords Go.Proofs.Ytdgjelbkogfedaa.PAuctionClears
open Go.ChangeMaps (open_string shut_string)
set_option linter.unusedVariables false
def good71 (x : S71) : Prop := (x.f0.size ≤ 140737488351232) ∧ (True) ∧ ((Lit.int .i64 x.f2).wf = true) ∧ ((Lit.int .i64 x.f3).wf = true)
theorem opn71 : Opn k71 Try.prog 71 good71 :=
  opn_iso (opn_struct Try.underlying71 (by kernel_rfl) (opnF_cons (off':=1) rfl (by kernel_rfl) rfl (opn_string Try.underlying9) (opnF_cons (off':=2) rfl (by kernel_rfl) rfl (opn_bool Try.underlying4) (opnF_cons (off':=3) rfl (by kernel_rfl) rfl (opn_int Try.underlying3) (opnF_one rfl (by kernel_rfl) (opn_int Try.underlying3)))))) (fun z => ⟨⟨z.1, z.2.1, z.2.2.1, z.2.2.2⟩, rfl⟩)
def Pure : Prop := ∀ (l0 : List (S71)), ((l0.length * 40 ≤ 140737488351232 ∧ ∀ y71 ∈ l0, good71 y71)) → ∃ k, gridhalllaw3_AuctionClears.f k l0 = some true
theorem own : ownKnob Try.prog.godebug = none := by kernel_rfl
theorem laidOut : laidOutB Try.prog = true := by kernel_rfl
set_option maxHeartbeats 2000000 in
set_option maxRecDepth 100000 in
theorem lifted (PU : Pure) (os : Os) (started : os.Started) (H : Type) (enc : TypeId × Value → H) :
    ReturnsInHanded {} Try.checked os 5 .any (Rows.auctionClearsSpec.pre6 enc Try.prog Try.f5 Rows.auctionClearsRow.domain false) (Rows.auctionClearsSpec.post enc Try.prog Try.f5 false true false false):=by
  refine returnsInHanded_of_change_sized (C:=Try.checked) own started (by kernel_rfl) Try.func5
    (ChangeSpec.witness6 (enc:=enc) (C:=Try.checked) false ⟨#[], #[.slice none 0 0], []⟩ 8 (by kernel_rfl) (by kernel_rfl) (by kernel_rfl) (by kernel_rfl)) ?_
  intro W base args ds gs before hval0 hW hcnd hsz0 _
  have hsz : (DataW.weightsEach Try.prog (Try.f5.params.toList ++ Rows.auctionClearsSpec.plain.varTypes Try.prog) (ds ++ gs)).all (· ≤ reachBytes) = true:=hsz0
  have hval : ∀ (j : Nat) t v, Try.f5.params[j]? = some t → args[j]? = some v → Value.okWide Try.prog W .any base t v:=hval0
  have hW':=hW
  obtain ⟨p, q, hA0, hV, rfl, hfz, hnd⟩:=hW
  have hA : DataW.TrodAll enc Try.prog W 0 (fun _ => true) true Try.f5.params.toList args.toList ds p:=hA0
  rw [Try.params5] at hA hval hsz
  obtain ⟨v0, vs0, d0, ds0, p0, q0, hargs, rfl, rfl, h0, r0⟩:=trodAll_cons hA
  obtain ⟨rfl, rfl, rfl⟩:=trodAll_nil r0
  obtain rfl : args = #[v0]:=by cases args; simp_all
  obtain ⟨rfl, rfl⟩:=trodVars_none hV
  have k0:=h0
  have lt0 : ∀ x ∈ p0, x.block < W.heap.size:=by obtain ⟨m, hm⟩:=k0; exact DataW.trod_lt m _ _ _ hm
  obtain ⟨A0, _, c0, rfl⟩:=okWide_slice Try.underlying69 (hval 0 69 v0 rfl rfl)
  obtain ⟨l0, K0, Gl0⟩:=opn_arg (opn_slice (e:=71) (k:=k71) (B:=40) Try.underlying69 (by kernel_rfl) (by kernel_rfl) opn71) hsz (j:=0) (t:=69) rfl rfl h0
  obtain ⟨_, _, e0_, l0_, g0⟩:=K0
  simp [Value.cells] at e0_
  obtain ⟨rfl, rfl, rfl⟩:=e0_
  clear hA0 hval0 hsz0 hsz
  obtain ⟨k, hk⟩:=PU l0 Gl0
  refine (gridhalllaw3_AuctionClears.calls (k:=k) (A0:=A0) (c0:=c0) (l0:=l0) (r:=true) (w:=W) (hr0:=g0) (hc0:=l0_) (h:=hk)).mono fun e W' ⟨he, bel0⟩ => ?_
  have bel : Below W.heap.size W W':=bel0
  subst he
  exact ⟨_, rfl, _, _, _, [], _, [], hW', trodAll_mk1 (shut_bool Try.underlying4 _),(trodAll_cons_mk (Below.trod laidOut (by kernel_rfl) (of_decide_eq_true (by kernel_rfl)) k0 bel lt0) trodAll_mk0), rfl, bel.frame _, fun h => by cases h⟩
theorem over (PU : Pure) : Rows.auctionClearsRow.holds Try.pinned (OpenSpec.ofChange Rows.auctionClearsSpec) :=
  OpenClaim.holds_of_wide 5 Try.f5 rfl rfl rfl rfl rfl rfl rfl ⟨rfl, rfl, rfl, rfl, rfl⟩ rfl rfl rfl rfl rfl (by kernel_rfl) Try.func5 (by kernel_rfl)
    (of_decide_eq_true (by kernel_rfl)) (by unfold Func.isWrapper; first|(rw [if_pos (by decide +kernel)]; kernel_rfl)|(rw [if_neg (by decide +kernel)]; exact ⟨rfl, rfl⟩))
    (fun os started H enc _ => lifted PU os started H enc)
theorem said (PU : Pure) : Rows.AuctionClearsSaid := over PU
end Go.Proofs.Ytdgjelbkogfedaa.RAuctionClears
