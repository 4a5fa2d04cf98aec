/- The law holds: the example at its head, then its loops. -/
import Derived.Test.YtielinaielicbaaEUpkeepBest
import Derived.Test.YtielinaielicbaaRowUpkeepBest
namespace Go.Proofs.Ytielinaielicbaa.FUpkeepBest
open Go.RowKit Go.Proofs.YtielinaielicbaaW.PrintWords Go.Proofs.YtielinaielicbaaW.PrintMore Go.Proofs.Ytielinaielicbaa.Evs Go.Proofs.Ytielinaielicbaa.PUpkeepBest Go.Proofs.Ytielinaielicbaa.BUpkeepBest Go.Proofs.Ytielinaielicbaa.CUpkeepBest Go.Proofs.Ytielinaielicbaa.DUpkeepBest Go.Proofs.Ytielinaielicbaa.EUpkeepBest
set_option linter.unusedVariables false
set_option linter.unusedSectionVars false
set_option linter.unusedSimpArgs false
theorem Evt.of_mono {α : Type} {g : Nat → Option α} (hm : ∀ k r, g k = some r → g (k + 1) = some r) {K : Nat} {r : α} (h : g K = some r) : Evt g r := by
  refine ⟨K, fun k hk => ?_⟩
  obtain ⟨d, rfl⟩ : ∃ d, k = K + d := ⟨k - K, by omega⟩
  induction d with
  | zero => exact h
  | succ d ih => exact hm _ _ (ih (by omega))
def exJ : List Jb := [(⟨(⟨#[65]⟩ : ByteArray), 1, 0, 1, 3⟩ : Jb), (⟨(⟨#[66]⟩ : ByteArray), 1, 0, 1, 3⟩ : Jb)]
def exA : List Ap := [(⟨0, 1⟩ : Ap)]
theorem ex_ev : Evt (fun k => upkeep_Best.f k exJ exA 2) ([0, 1], 3, 0) := Evt.of_mono (fun k r h => upkeep_Best.mono exJ exA 2 k r h) (K := 60) (by decide +kernel)
theorem eq_ev : Evt (fun k => slices_Equal_int_int.f k [0, 1] [0, 1]) true := Evt.of_mono (fun k r h => slices_Equal_int_int.mono _ _ k r h) (K := 10) (by decide +kernel)
theorem law_f (js : List Jb) (ap : List Ap) (c : Int) (hs : ∀ n, n < js.length → (jb js n).f0.size ≤ 9223372036854775806) : Evt (fun k => gridhalllaw4_UpkeepBest.f k js ap c) true := by
  simp only [gridhalllaw4_UpkeepBest.f]
  refine Evt.bind (f := fun k bt228 => if bt228.2.2 = 0 then (if bt228.2.1 = 3 then ((slices_Equal_int_int.f k bt228.1 [0, 1]).bind fun t236 => gridhalllaw4_UpkeepBest.j0 k (!t236) js ap c) else gridhalllaw4_UpkeepBest.j0 k true js ap c) else gridhalllaw4_UpkeepBest.j0 k true js ap c) ex_ev ?_
  exact Evt.ite_pos rfl (Evt.ite_pos rfl (Evt.bind eq_ev (w_j0 js ap c hs _ rfl)))
theorem pure : Go.Proofs.Ytielinaielicbaa.RUpkeepBest.Pure := by
  intro js ap c hs
  intros
  refine Evt.ex (law_f js ap c (fun n hn => ?_))
  have h := hs.2 (jb js n) (by unfold jb; exact getD_mem hn)
  have h1 := h.1
  omega
theorem UpkeepBest_holds : Rows.UpkeepBestSaid := Go.Proofs.Ytielinaielicbaa.RUpkeepBest.said pure
#print axioms UpkeepBest_holds
end Go.Proofs.Ytielinaielicbaa.FUpkeepBest
