/- Rounds: a printed function answers from some number of rounds on; small laws on whole numbers, lists and texts. -/
import Derived.Test.YtekpnmeikibioaaWMore
namespace Go.Proofs.Ytekpnmeikibioaa.Evs
open Go.RowKit Go.Proofs.YtekpnmeikibioaaW.PrintWords Go.Proofs.YtekpnmeikibioaaW.PrintMore

/-- From some number of rounds on, g answers r. -/
def Evt {α : Type} (g : Nat → Option α) (r : α) : Prop := ∃ K, ∀ k, K ≤ k → g k = some r

namespace Evt
variable {α β : Type}
theorem pure (r : α) : Evt (fun _ => some r) r := ⟨0, fun _ _ => rfl⟩
theorem of_eq {r s : α} (h : r = s) : Evt (fun _ => some r) s := ⟨0, fun _ _ => by rw [h]⟩
theorem ex {g : Nat → Option α} {r : α} (h : Evt g r) : ∃ k, g k = some r := by
  obtain ⟨K, h⟩ := h
  exact ⟨K, h K (Nat.le_refl _)⟩
theorem succ {g : Nat → Option α} {r : α} (h : Evt (fun k => g (k + 1)) r) : Evt g r := by
  obtain ⟨K, h⟩ := h
  refine ⟨K + 1, fun k hk => ?_⟩
  obtain ⟨m, rfl⟩ : ∃ m, k = m + 1 := ⟨k - 1, by omega⟩
  exact h m (by omega)
theorem bind {g : Nat → Option α} {a : α} {f : Nat → α → Option β} {r : β} (h1 : Evt g a) (h2 : Evt (fun k => f k a) r) : Evt (fun k => (g k).bind fun x => f k x) r := by
  obtain ⟨K, h1⟩ := h1
  obtain ⟨M, h2⟩ := h2
  refine ⟨K + M, fun k hk => ?_⟩
  show (g k).bind (fun x => f k x) = some r
  rw [h1 k (by omega)]
  exact h2 k (by omega)
theorem bindo {g : Option α} {a : α} {f : Nat → α → Option β} {r : β} (h1 : g = some a) (h2 : Evt (fun k => f k a) r) : Evt (fun k => g.bind fun x => f k x) r := by
  subst h1
  exact h2
theorem ite_pos {c : Prop} [Decidable c] {f g : Nat → Option α} {r : α} (hc : c) (h : Evt f r) : Evt (fun k => if c then f k else g k) r := by
  simpa only [if_pos hc] using h
theorem ite_neg {c : Prop} [Decidable c] {f g : Nat → Option α} {r : α} (hc : ¬ c) (h : Evt g r) : Evt (fun k => if c then f k else g k) r := by
  simpa only [if_neg hc] using h
theorem ite {c : Prop} [Decidable c] {f g : Nat → Option α} {r : α} (h1 : c → Evt f r) (h2 : ¬ c → Evt g r) : Evt (fun k => if c then f k else g k) r := by
  by_cases hc : c
  · exact ite_pos hc (h1 hc)
  · exact ite_neg hc (h2 hc)
theorem cast {g : Nat → Option α} {r s : α} (h : Evt g r) (e : r = s) : Evt g s := e ▸ h
theorem ofo {g : Option α} {r : α} (h : g = some r) : Evt (fun _ => g) r := ⟨0, fun _ _ => h⟩
end Evt

/-- Downward: from n + 1 to n. -/
theorem down {P : Nat → Prop} {N : Nat} (h0 : P N) (hs : ∀ n, n < N → P (n + 1) → P n) : ∀ n, n ≤ N → P n := by
  intro n hn
  obtain ⟨d, hd⟩ : ∃ d, N = n + d := ⟨N - n, by omega⟩
  induction d generalizing n with
  | zero =>
    have : n = N := by omega
    subst this
    exact h0
  | succ d ih => exact hs n (by omega) (ih (n + 1) (by omega) (by omega))

theorem wrap64_of {x : Int} (h1 : -9223372036854775808 ≤ x) (h2 : x ≤ 9223372036854775807) : wrap64 x = x := by
  unfold wrap64
  omega
theorem wrap64_nat {n : Nat} (h : n + 1 ≤ 9223372036854775807) : wrap64 ((n : Int) + 1) = ((n + 1 : Nat) : Int) := by
  unfold wrap64
  omega
theorem mn_le {a b : Int} (h : a ≤ b) : mn a b = a := by
  unfold mn
  split <;> omega
theorem mn_ge {a b : Int} (h : b ≤ a) : mn a b = b := by
  unfold mn
  split <;> omega
theorem mx_le {a b : Int} (h : a ≤ b) : mx a b = b := by
  unfold mx
  split <;> omega
theorem mx_ge {a b : Int} (h : b ≤ a) : mx a b = a := by
  unfold mx
  split <;> omega
theorem mn_eq (a b : Int) : mn a b = min a b := by
  unfold mn
  split <;> omega
theorem mx_eq (a b : Int) : mx a b = max a b := by
  unfold mx
  split <;> omega
theorem i64_wf {n : Int} (h : (Lit.int .i64 n).wf = true) : -9223372036854775808 ≤ n ∧ n ≤ 9223372036854775807 := by
  simp [Lit.wf, IntKind.min, IntKind.max, IntKind.bits, IntKind.signed] at h
  omega
theorem getD_drop {α : Type} {l : List α} {z : α} {n : Nat} (h : n < l.length) : l.drop n = l.getD n z :: l.drop (n + 1) := by
  rw [List.drop_eq_getElem_cons h, List.getD_eq_getElem?_getD, List.getElem?_eq_getElem h]
  rfl
theorem getD_mem {α : Type} {l : List α} {z : α} {n : Nat} (h : n < l.length) : l.getD n z ∈ l := by
  rw [List.getD_eq_getElem?_getD, List.getElem?_eq_getElem h]
  exact List.getElem_mem h
theorem getD_take_succ {α : Type} {l : List α} {z : α} {n : Nat} (h : n < l.length) : l.take (n + 1) = l.take n ++ [l.getD n z] := by
  rw [List.take_succ_eq_append_getElem h, List.getD_eq_getElem?_getD, List.getElem?_eq_getElem h]
  rfl
theorem loop_len (s : ByteArray) : ∀ (d i : Nat) (r : List UInt8), s.size - i = d → (ByteArray.toList.loop s i r).length = r.length + d := by
  intro d
  induction d with
  | zero =>
    intro i r h
    unfold ByteArray.toList.loop
    rw [if_neg (by omega)]
    simp
  | succ d ih =>
    intro i r h
    unfold ByteArray.toList.loop
    rw [if_pos (by omega), ih (i + 1) _ (by omega)]
    simp
    omega
theorem toList_nil (s : ByteArray) : s.toList = ([] : List UInt8) ↔ s.size = 0 := by
  have h2 : s.toList.length = s.size := (loop_len s s.size 0 [] (by omega)).trans (by simp)
  rw [← h2, List.length_eq_zero_iff]
end Go.Proofs.Ytekpnmeikibioaa.Evs
