/- A variable in memory, read as a row of one element. -/
import Derived.Test.YtpmaiofgnbgboaaWWords
namespace Go.Proofs.YtpmaiofgnbgboaaW.PrintWords
open Go.RowKit
theorem Kd.C_box {α : Type} {d : Kd α} {w : World} {g : Nat} {T : TypeId} {cs : List Value} {x : α} (hb : w.heap[g]? = some (.cells cs.toArray T (0, 0))) (hk : d.K w x cs) : Kd.C d w (some ⟨g, 0, none⟩) [x].length [x] := by
  refine ⟨rfl, by simp, fun _ => ⟨_, rfl, fun j p hj => ?_⟩⟩
  have h0 : j = 0 := by
    cases j with
    | zero => rfl
    | succ j => simp at hj
  subst h0
  obtain rfl : x = p := by simpa using hj
  refine ⟨cs, Kd.K_len d hk, hk, fun i u hi => ?_⟩
  have h1 : (Addr.add ⟨g, 0, none⟩ (0 * d.sz + i)) = ⟨g, i, none⟩ := by
    rw [Nat.zero_mul, Nat.zero_add]
    cases i <;> simp [Addr.add]
  rw [h1, blk_cell hb i]
  simpa using hi
end Go.Proofs.YtpmaiofgnbgboaaW.PrintWords
