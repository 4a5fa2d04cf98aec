/- UpkeepSays holds: for every task of maintenance and every list of days, Check and Verify return what the reference returns; no condition. -/
import Derived.Test.YtielinaielicbaaBUpkeepSays
import Derived.Test.YtielinaielicbaaRowUpkeepSays
namespace Go.Proofs.Ytielinaielicbaa.FUpkeepSays
open Go.RowKit Go.Proofs.YtielinaielicbaaW.PrintWords Go.Proofs.YtielinaielicbaaW.PrintMore Go.Proofs.Ytielinaielicbaa.Evs Go.Proofs.Ytielinaielicbaa.PUpkeepSays Go.Proofs.Ytielinaielicbaa.BUpkeepSays
set_option linter.unusedVariables false
set_option linter.unusedSimpArgs false
theorem Evt.of_mono {α : Type} {g : Nat → Option α} (hm : ∀ k r, g k = some r → g (k + 1) = some r) {K : Nat} {r : α} (h : g K = some r) : Evt g r := by
  refine ⟨K, fun k hk => ?_⟩
  obtain ⟨d, rfl⟩ : ∃ d, k = K + d := ⟨k - K, by omega⟩
  induction d with
  | zero => exact h
  | succ d ih => exact hm _ _ (ih (by omega))
def exJ : List Jb := [(⟨(⟨#[65]⟩ : ByteArray), 1, 0, 1, 3⟩ : Jb), (⟨(⟨#[66]⟩ : ByteArray), 1, 0, 1, 3⟩ : Jb)]
def exA : List Ap := [(⟨0, 1⟩ : Ap)]
theorem ex_ev : Evt (fun k => upkeep_Verify.f k exJ exA 2 [0, 1]) (3, 0) := Evt.of_mono (fun k r h => upkeep_Verify.mono exJ exA 2 [0, 1] k r h) (K := 40) (by decide +kernel)
theorem pure : Go.Proofs.Ytielinaielicbaa.RUpkeepSays.Pure := by
  intro js ap c l hs _ _ _
  refine Evt.ex (law_f js ap c l (fun n hn => ?_) ex_ev)
  have h := hs.2 (jb js n) (by unfold jb; exact getD_mem hn)
  have h1 := h.1
  omega
theorem UpkeepSays_holds : Rows.UpkeepSaysSaid := Go.Proofs.Ytielinaielicbaa.RUpkeepSays.said pure
#print axioms UpkeepSays_holds
end Go.Proofs.Ytielinaielicbaa.FUpkeepSays
