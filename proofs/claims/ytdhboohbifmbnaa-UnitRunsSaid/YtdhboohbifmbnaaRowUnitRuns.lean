/- The row of UnitRuns over the contract of its function, out of one pure statement. -/
import Derived.Test.YtdhboohbifmbnaaRows
import Derived.Test.YtdhboohbifmbnaaHUnitRunsy8
import Derived.Test.YtdhboohbifmbnaaBridge
import Derived.WalkKit
import Derived.ProofKit
import Derived.OpenShut
import Derived.ShutString
import Derived.ChangeOld
import Derived.Below
import Derived.SizedLaws
import Derived.Carry
namespace Go.Proofs.Ytdhboohbifmbnaa.RUnitRuns
open Go.ChangeShapes Go.WideShapes Go.ChangeAt Go.RowKit Go.Proofs.Ytdhboohbifmbnaa.Bridge Go.Proofs.YtdhboohbifmbnaaW.PrintWords Go.Proofs.Ytdhboohbifmbnaa.PUnitRuns
open Go.ChangeMaps (open_string shut_string)
set_option linter.unusedVariables false
/-- THE PURE STATEMENT. -/
def Pure : Prop := ∀ (a0_0 : ByteArray) (a0_1 : Int) (a0_2 : Int) (a0_3 : Int) (a0_4 : Int) (a0_5 : Int) (a0_6 : Int) (a0_7 : Int) (a1_0 : Bool) (a1_1 : Int) (a1_2 : Int) (l2 : List (Int)), (a0_0.size ≤ 140737488351232) → ((Lit.int .i64 a0_1).wf = true) → ((Lit.int .i64 a0_2).wf = true) → ((Lit.int .i64 a0_3).wf = true) → ((Lit.int .i64 a0_4).wf = true) → ((Lit.int .i64 a0_5).wf = true) → ((Lit.int .i64 a0_6).wf = true) → ((Lit.int .i64 a0_7).wf = true) → (True) → ((Lit.int .i64 a1_1).wf = true) → ((Lit.int .i64 a1_2).wf = true) → ((l2.length * 8 ≤ 140737488351232 ∧ ∀ y3 ∈ l2, (Lit.int .i64 y3).wf = true)) → ∃ k, gridhalllaw3_UnitRuns.f k a0_0 a0_1 a0_2 a0_3 a0_4 a0_5 a0_6 a0_7 a1_0 a1_1 a1_2 l2 = some true
theorem own : ownKnob Try.prog.godebug = none := by kernel_rfl
theorem laidOut : laidOutB Try.prog = true := by kernel_rfl
set_option maxHeartbeats 2000000 in
set_option maxRecDepth 100000 in
theorem lifted (PU : Pure) (os : Os) (started : os.Started) (H : Type) (enc : TypeId × Value → H) :
    ReturnsInHanded {} Try.checked os 8 .any (Rows.unitRunsSpec.pre6 enc Try.prog Try.f8 Rows.unitRunsRow.domain false) (Rows.unitRunsSpec.post enc Try.prog Try.f8 false true false false) := by
  refine returnsInHanded_of_change_sized (C := Try.checked) own started (by kernel_rfl) Try.func8
    (ChangeSpec.witness6 (enc := enc) (C := Try.checked) false ⟨#[], #[.agg #[.string ByteArray.empty, .int .i64 0, .int .i64 0, .int .i64 0, .int .i64 0, .int .i64 0, .int .i64 0, .int .i64 0], .agg #[.bool false, .int .i64 0, .int .i64 0], .slice none 0 0], []⟩ 8 (by kernel_rfl) (by kernel_rfl) (by kernel_rfl) (by kernel_rfl)) ?_
  intro W base args ds gs before hval0 hW hcnd hsz0 _
  have hsz : (DataW.weightsEach Try.prog (Try.f8.params.toList ++ Rows.unitRunsSpec.plain.varTypes Try.prog) (ds ++ gs)).all (· ≤ reachBytes) = true := hsz0
  have hval : ∀ (j : Nat) t v, Try.f8.params[j]? = some t → args[j]? = some v → Value.okWide Try.prog W .any base t v := hval0
  have hW' := hW
  obtain ⟨p, q, hA0, hV, rfl, hfz, hnd⟩ := hW
  have hA : DataW.TrodAll enc Try.prog W 0 (fun _ => true) true Try.f8.params.toList args.toList ds p := hA0
  rw [Try.params8] at hA hval hsz
  obtain ⟨v0, vs0, d0, ds0, p0, q0, hargs, rfl, rfl, h0, r0⟩ := trodAll_cons hA
  obtain ⟨v1, vs1, d1, ds1, p1, q1, rfl, rfl, rfl, h1, r1⟩ := trodAll_cons r0
  obtain ⟨v2, vs2, d2, ds2, p2, q2, rfl, rfl, rfl, h2, r2⟩ := trodAll_cons r1
  obtain ⟨rfl, rfl, rfl⟩ := trodAll_nil r2
  obtain rfl : args = #[v0, v1, v2] := by cases args; simp_all
  obtain ⟨rfl, rfl⟩ := trodVars_none hV
  have k0 := h0
  have lt0 : ∀ x ∈ p0, x.block < W.heap.size := by obtain ⟨m, hm⟩ := k0; exact DataW.trod_lt m _ _ _ hm
  obtain ⟨cs0, rfl, _⟩ := okWide_struct Try.underlying45 (hval 0 45 v0 rfl rfl)
  obtain ⟨⟨a0_0, ⟨a0_1, ⟨a0_2, ⟨a0_3, ⟨a0_4, ⟨a0_5, ⟨a0_6, a0_7⟩⟩⟩⟩⟩⟩⟩, K0, ⟨Ga0_0, ⟨Ga0_1, ⟨Ga0_2, ⟨Ga0_3, ⟨Ga0_4, ⟨Ga0_5, ⟨Ga0_6, Ga0_7⟩⟩⟩⟩⟩⟩⟩⟩ := opn_arg (opn_struct Try.underlying45 (by kernel_rfl) (opnF_cons (off' := 1) rfl (by kernel_rfl) rfl (opn_string Try.underlying9) (opnF_cons (off' := 2) rfl (by kernel_rfl) rfl (opn_int Try.underlying3) (opnF_cons (off' := 3) rfl (by kernel_rfl) rfl (opn_int Try.underlying3) (opnF_cons (off' := 4) rfl (by kernel_rfl) rfl (opn_int Try.underlying3) (opnF_cons (off' := 5) rfl (by kernel_rfl) rfl (opn_int Try.underlying3) (opnF_cons (off' := 6) rfl (by kernel_rfl) rfl (opn_int Try.underlying3) (opnF_cons (off' := 7) rfl (by kernel_rfl) rfl (opn_int Try.underlying3) (opnF_one rfl (by kernel_rfl) (opn_int Try.underlying3)))))))))) hsz (j := 0) (t := 45) rfl rfl h0
  obtain ⟨_, _, e0_, rfl, ⟨_, _, rfl, rfl, ⟨_, _, rfl, rfl, ⟨_, _, rfl, rfl, ⟨_, _, rfl, rfl, ⟨_, _, rfl, rfl, ⟨_, _, rfl, rfl, rfl⟩⟩⟩⟩⟩⟩⟩ := K0
  obtain rfl : cs0 = #[.string a0_0, .int .i64 a0_1, .int .i64 a0_2, .int .i64 a0_3, .int .i64 a0_4, .int .i64 a0_5, .int .i64 a0_6, .int .i64 a0_7] := by obtain ⟨cs0⟩ := cs0; simpa [Value.cells] using e0_
  have k1 := h1
  have lt1 : ∀ x ∈ p1, x.block < W.heap.size := by obtain ⟨m, hm⟩ := k1; exact DataW.trod_lt m _ _ _ hm
  obtain ⟨cs1, rfl, _⟩ := okWide_struct Try.underlying47 (hval 1 47 v1 rfl rfl)
  obtain ⟨⟨a1_0, ⟨a1_1, a1_2⟩⟩, K1, ⟨Ga1_0, ⟨Ga1_1, Ga1_2⟩⟩⟩ := opn_arg (opn_struct Try.underlying47 (by kernel_rfl) (opnF_cons (off' := 1) rfl (by kernel_rfl) rfl (opn_bool Try.underlying4) (opnF_cons (off' := 2) rfl (by kernel_rfl) rfl (opn_int Try.underlying3) (opnF_one rfl (by kernel_rfl) (opn_int Try.underlying3))))) hsz (j := 1) (t := 47) rfl rfl h1
  obtain ⟨_, _, e1_, rfl, ⟨_, _, rfl, rfl, rfl⟩⟩ := K1
  obtain rfl : cs1 = #[.bool a1_0, .int .i64 a1_1, .int .i64 a1_2] := by obtain ⟨cs1⟩ := cs1; simpa [Value.cells] using e1_
  have k2 := h2
  have lt2 : ∀ x ∈ p2, x.block < W.heap.size := by obtain ⟨m, hm⟩ := k2; exact DataW.trod_lt m _ _ _ hm
  obtain ⟨A2, _, c2, rfl⟩ := okWide_slice Try.underlying41 (hval 2 41 v2 rfl rfl)
  obtain ⟨l2, K2, Gl2⟩ := opn_arg (opn_slice (e := 3) (k := (Kd.int .i64)) (B := 8) Try.underlying41 (by kernel_rfl) (by kernel_rfl) (opn_int Try.underlying3)) hsz (j := 2) (t := 41) rfl rfl h2
  obtain ⟨_, _, e2_, l2_, g2⟩ := K2
  simp [Value.cells] at e2_
  obtain ⟨rfl, rfl, rfl⟩ := e2_
  clear hA0 hval0 hsz0 hsz
  obtain ⟨k, hk⟩ := PU a0_0 a0_1 a0_2 a0_3 a0_4 a0_5 a0_6 a0_7 a1_0 a1_1 a1_2 l2 Ga0_0 Ga0_1 Ga0_2 Ga0_3 Ga0_4 Ga0_5 Ga0_6 Ga0_7 Ga1_0 Ga1_1 Ga1_2 Gl2
  refine (gridhalllaw3_UnitRuns.calls (k := k) (a0_0 := a0_0) (a0_1 := a0_1) (a0_2 := a0_2) (a0_3 := a0_3) (a0_4 := a0_4) (a0_5 := a0_5) (a0_6 := a0_6) (a0_7 := a0_7) (a1_0 := a1_0) (a1_1 := a1_1) (a1_2 := a1_2) (A2 := A2) (c2 := c2) (l2 := l2) (r := true) (w := W) (hr2 := g2) (hc2 := l2_) (h := hk)).mono fun e W' ⟨he, bel0⟩ => ?_
  have bel : Below W.heap.size W W' := bel0
  subst he
  exact ⟨_, rfl, _, _, _, [], _, [], hW', trodAll_mk1 (shut_bool Try.underlying4 _), (trodAll_cons_mk (Below.trod laidOut (by kernel_rfl) (of_decide_eq_true (by kernel_rfl)) k0 bel lt0) (trodAll_cons_mk (Below.trod laidOut (by kernel_rfl) (of_decide_eq_true (by kernel_rfl)) k1 bel lt1) (trodAll_cons_mk (Below.trod laidOut (by kernel_rfl) (of_decide_eq_true (by kernel_rfl)) k2 bel lt2) trodAll_mk0))), rfl, bel.frame _, fun h => by cases h⟩
theorem over (PU : Pure) : Rows.unitRunsRow.holds Try.pinned (OpenSpec.ofChange Rows.unitRunsSpec) :=
  OpenClaim.holds_of_wide 8 Try.f8 rfl rfl rfl rfl rfl rfl rfl ⟨rfl, rfl, rfl, rfl, rfl⟩ rfl rfl rfl rfl rfl (by kernel_rfl) Try.func8 (by kernel_rfl)
    (of_decide_eq_true (by kernel_rfl)) (by unfold Func.isWrapper; first | (rw [if_pos (by decide +kernel)]; kernel_rfl) | (rw [if_neg (by decide +kernel)]; exact ⟨rfl, rfl⟩))
    (fun os started H enc _ => lifted PU os started H enc)
theorem said (PU : Pure) : Rows.UnitRunsSaid := over PU
end Go.Proofs.Ytdhboohbifmbnaa.RUnitRuns
