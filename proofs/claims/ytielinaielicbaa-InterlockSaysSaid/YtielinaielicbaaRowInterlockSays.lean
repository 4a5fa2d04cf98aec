/- The row of InterlockSays over the contract of its function, out of one pure statement. -/
import Derived.Test.YtielinaielicbaaRows
import Derived.Test.YtielinaielicbaaHInterlockSaysy10
import Derived.Test.YtielinaielicbaaBridge
import Derived.WalkKit
import Derived.ProofKit
import Derived.OpenShut
import Derived.ShutString
import Derived.ChangeOld
import Derived.Below
import Derived.SizedLaws
import Derived.Carry
namespace Go.Proofs.Ytielinaielicbaa.RInterlockSays
open Go.ChangeShapes Go.WideShapes Go.ChangeAt Go.RowKit Go.Proofs.Ytielinaielicbaa.Bridge Go.Proofs.YtielinaielicbaaW.PrintWords Go.Proofs.Ytielinaielicbaa.PInterlockSays
open Go.ChangeMaps (open_string shut_string)
set_option linter.unusedVariables false
/-- The bounds of a value of api.InterlockNode. -/
def good119 (x : S119) : Prop := ((Lit.int .i64 x.f0).wf = true) ∧ (x.f1.size ≤ 140737488351232) ∧ ((Lit.int .i64 x.f2).wf = true) ∧ ((Lit.int .i64 x.f3).wf = true)
theorem opn119 : Opn k119 Try.prog 119 good119 :=
  opn_iso (opn_struct Try.underlying119 (by kernel_rfl) (opnF_cons (off' := 1) rfl (by kernel_rfl) rfl (opn_int Try.underlying3) (opnF_cons (off' := 2) rfl (by kernel_rfl) rfl (opn_string Try.underlying9) (opnF_cons (off' := 3) rfl (by kernel_rfl) rfl (opn_int Try.underlying3) (opnF_one rfl (by kernel_rfl) (opn_int Try.underlying3)))))) (fun z => ⟨⟨z.1, z.2.1, z.2.2.1, z.2.2.2⟩, rfl⟩)
/-- The bounds of a value of api.InterlockRule. -/
def good122 (x : S122) : Prop := (True) ∧ (x.f1.size ≤ 140737488351232) ∧ ((x.f2.length * 40 ≤ 140737488351232 ∧ ∀ y119 ∈ x.f2, good119 y119))
theorem opn122 : Opn k122 Try.prog 122 good122 :=
  opn_iso (opn_struct Try.underlying122 (by kernel_rfl) (opnF_cons (off' := 1) rfl (by kernel_rfl) rfl (opn_bool Try.underlying4) (opnF_cons (off' := 2) rfl (by kernel_rfl) rfl (opn_string Try.underlying9) (opnF_one rfl (by kernel_rfl) (opn_slice (e := 119) (k := k119) (B := 40) Try.underlying120 (by kernel_rfl) (by kernel_rfl) opn119))))) (fun z => ⟨⟨z.1, z.2.1, z.2.2⟩, rfl⟩)
/-- The bounds of a value of api.InterlockState. -/
def good63 (x : S63) : Prop := (x.f0.size ≤ 140737488351232) ∧ (True)
theorem opn63 : Opn k63 Try.prog 63 good63 :=
  opn_iso (opn_struct Try.underlying63 (by kernel_rfl) (opnF_cons (off' := 1) rfl (by kernel_rfl) rfl (opn_string Try.underlying9) (opnF_one rfl (by kernel_rfl) (opn_bool Try.underlying4)))) (fun z => ⟨⟨z.1, z.2⟩, rfl⟩)
/-- THE PURE STATEMENT. -/
def Pure : Prop := ∀ (l0 : List (S122)) (l1 : List (S63)) (a2 : Bool) (a3 : ByteArray), ((l0.length * 48 ≤ 140737488351232 ∧ ∀ y122 ∈ l0, good122 y122)) → ((l1.length * 24 ≤ 140737488351232 ∧ ∀ y63 ∈ l1, good63 y63)) → (True) → (a3.size ≤ 140737488351232) → ∃ k, gridhalllaw4_InterlockSays.f k l0 l1 a2 a3 = some true
theorem own : ownKnob Try.prog.godebug = none := by kernel_rfl
theorem laidOut : laidOutB Try.prog = true := by kernel_rfl
set_option maxHeartbeats 2000000 in
set_option maxRecDepth 100000 in
theorem lifted (PU : Pure) (os : Os) (started : os.Started) (H : Type) (enc : TypeId × Value → H) :
    ReturnsInHanded {} Try.checked os 6 .any (Rows.interlockSaysSpec.pre6 enc Try.prog Try.f6 Rows.interlockSaysRow.domain false) (Rows.interlockSaysSpec.post enc Try.prog Try.f6 false true false false) := by
  refine returnsInHanded_of_change_sized (C := Try.checked) own started (by kernel_rfl) Try.func6
    (ChangeSpec.witness6 (enc := enc) (C := Try.checked) false ⟨#[], #[.slice none 0 0, .slice none 0 0, .bool false, .string ByteArray.empty], []⟩ 8 (by kernel_rfl) (by kernel_rfl) (by kernel_rfl) (by kernel_rfl)) ?_
  intro W base args ds gs before hval0 hW hcnd hsz0 _
  have hsz : (DataW.weightsEach Try.prog (Try.f6.params.toList ++ Rows.interlockSaysSpec.plain.varTypes Try.prog) (ds ++ gs)).all (· ≤ reachBytes) = true := hsz0
  have hval : ∀ (j : Nat) t v, Try.f6.params[j]? = some t → args[j]? = some v → Value.okWide Try.prog W .any base t v := hval0
  have hW' := hW
  obtain ⟨p, q, hA0, hV, rfl, hfz, hnd⟩ := hW
  have hA : DataW.TrodAll enc Try.prog W 0 (fun _ => true) true Try.f6.params.toList args.toList ds p := hA0
  rw [Try.params6] at hA hval hsz
  obtain ⟨v0, vs0, d0, ds0, p0, q0, hargs, rfl, rfl, h0, r0⟩ := trodAll_cons hA
  obtain ⟨v1, vs1, d1, ds1, p1, q1, rfl, rfl, rfl, h1, r1⟩ := trodAll_cons r0
  obtain ⟨v2, vs2, d2, ds2, p2, q2, rfl, rfl, rfl, h2, r2⟩ := trodAll_cons r1
  obtain ⟨v3, vs3, d3, ds3, p3, q3, rfl, rfl, rfl, h3, r3⟩ := trodAll_cons r2
  obtain ⟨rfl, rfl, rfl⟩ := trodAll_nil r3
  obtain rfl : args = #[v0, v1, v2, v3] := by cases args; simp_all
  obtain ⟨rfl, rfl⟩ := trodVars_none hV
  have k0 := h0
  have lt0 : ∀ x ∈ p0, x.block < W.heap.size := by obtain ⟨m, hm⟩ := k0; exact DataW.trod_lt m _ _ _ hm
  obtain ⟨A0, _, c0, rfl⟩ := okWide_slice Try.underlying57 (hval 0 57 v0 rfl rfl)
  obtain ⟨l0, K0, Gl0⟩ := opn_arg (opn_slice (e := 122) (k := k122) (B := 48) Try.underlying57 (by kernel_rfl) (by kernel_rfl) opn122) hsz (j := 0) (t := 57) rfl rfl h0
  obtain ⟨_, _, e0_, l0_, g0⟩ := K0
  simp [Value.cells] at e0_
  obtain ⟨rfl, rfl, rfl⟩ := e0_
  have k1 := h1
  have lt1 : ∀ x ∈ p1, x.block < W.heap.size := by obtain ⟨m, hm⟩ := k1; exact DataW.trod_lt m _ _ _ hm
  obtain ⟨A1, _, c1, rfl⟩ := okWide_slice Try.underlying58 (hval 1 58 v1 rfl rfl)
  obtain ⟨l1, K1, Gl1⟩ := opn_arg (opn_slice (e := 63) (k := k63) (B := 24) Try.underlying58 (by kernel_rfl) (by kernel_rfl) opn63) hsz (j := 1) (t := 58) rfl rfl h1
  obtain ⟨_, _, e1_, l1_, g1⟩ := K1
  simp [Value.cells] at e1_
  obtain ⟨rfl, rfl, rfl⟩ := e1_
  have k2 := h2
  have lt2 : ∀ x ∈ p2, x.block < W.heap.size := by obtain ⟨m, hm⟩ := k2; exact DataW.trod_lt m _ _ _ hm
  obtain ⟨a2, rfl, rfl, rfl⟩ := open_bool Try.underlying4 (hval 2 4 v2 rfl rfl) h2
  have k3 := h3
  have lt3 : ∀ x ∈ p3, x.block < W.heap.size := by obtain ⟨m, hm⟩ := k3; exact DataW.trod_lt m _ _ _ hm
  obtain ⟨_, K3, Ga3⟩ := opn_arg (opn_string Try.underlying9) hsz (j := 3) (t := 9) rfl rfl h3
  obtain ⟨a3, rfl, rfl, rfl, _⟩ := open_string Try.underlying9 (hval 3 9 v3 rfl rfl) h3
  obtain rfl := Value.string.inj (List.head_eq_of_cons_eq K3)
  clear hA0 hval0 hsz0 hsz
  obtain ⟨k, hk⟩ := PU l0 l1 a2 a3 Gl0 Gl1 trivial Ga3
  refine (gridhalllaw4_InterlockSays.calls (k := k) (A0 := A0) (c0 := c0) (l0 := l0) (A1 := A1) (c1 := c1) (l1 := l1) (a2 := a2) (a3 := a3) (r := true) (w := W) (hr0 := g0) (hc0 := l0_) (hr1 := g1) (hc1 := l1_) (h := hk)).mono fun e W' ⟨he, bel0⟩ => ?_
  have bel : Below W.heap.size W W' := bel0
  subst he
  exact ⟨_, rfl, _, _, _, [], _, [], hW', trodAll_mk1 (shut_bool Try.underlying4 _), (trodAll_cons_mk (Below.trod laidOut (by kernel_rfl) (of_decide_eq_true (by kernel_rfl)) k0 bel lt0) (trodAll_cons_mk (Below.trod laidOut (by kernel_rfl) (of_decide_eq_true (by kernel_rfl)) k1 bel lt1) (trodAll_cons_mk (Below.trod laidOut (by kernel_rfl) (of_decide_eq_true (by kernel_rfl)) k2 bel lt2) (trodAll_cons_mk (Below.trod laidOut (by kernel_rfl) (of_decide_eq_true (by kernel_rfl)) k3 bel lt3) trodAll_mk0)))), rfl, bel.frame _, fun h => by cases h⟩
theorem over (PU : Pure) : Rows.interlockSaysRow.holds Try.pinned (OpenSpec.ofChange Rows.interlockSaysSpec) :=
  OpenClaim.holds_of_wide 6 Try.f6 rfl rfl rfl rfl rfl rfl rfl ⟨rfl, rfl, rfl, rfl, rfl⟩ rfl rfl rfl rfl rfl (by kernel_rfl) Try.func6 (by kernel_rfl)
    (of_decide_eq_true (by kernel_rfl)) (by unfold Func.isWrapper; first | (rw [if_pos (by decide +kernel)]; kernel_rfl) | (rw [if_neg (by decide +kernel)]; exact ⟨rfl, rfl⟩))
    (fun os started H enc _ => lifted PU os started H enc)
theorem said (PU : Pure) : Rows.InterlockSaysSaid := over PU
end Go.Proofs.Ytielinaielicbaa.RInterlockSays
