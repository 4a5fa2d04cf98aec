/- What slices.Chunk hands back, and what its iterator gives: the chunks of a slice, one after the other. -/
import Derived.RangeFuncBox
import Derived.RangeFuncLeaves
import Derived.Shelf.Abstract
import Derived.WalkKit
import Derived.OwnWalkIn
import Derived.TacticsInMore
import Derived.LoopNIn
import Derived.LoopIn
import Derived.Sort.QuietIn
import Derived.Test.YtekpnmeikibioaaProg
namespace Go.Proofs.Ytekpnmeikibioaa.Chunk
open Go.RowKit Go.Shelf
attribute [local go_sem] Oper.semAt_some
set_option linter.unusedSimpArgs false
set_option linter.unusedVariables false

theorem Chunk_in (F : Fence) (n : Nat) (h5 : F.fn 56) (hro : F.round = none) (A0 : Option Addr) (len c0 : Nat) (s : Int) (hs : 1 ≤ s) (w : World) :
    CallsIn F n Try.prog 56 #[.slice A0 len c0, .int .i64 s] w fun e w' => e = .returned (.func (.func 66) #[] #[.pointer (some ⟨w.heap.size, 0, none⟩), .pointer (some ⟨w.heap.size + 1, 0, none⟩)]) ∧ w' = (w.alloc (.cells #[.slice A0 len c0] 23)).alloc (.cells #[.int .i64 s] 3) := by
  refine callsIn_of_wp Try.func56 rfl h5 ?_ hro
  simp only [Try.ntmps56, List.size_toArray, List.length_cons, List.length_nil, Nat.reduceAdd, Nat.reduceSub, Array.replicate_succ, Array.replicate_zero, List.push_toArray, List.append_toArray, List.nil_append, List.cons_append]
  gi_wp2
  go_ret
  simp [World.size_alloc]


/-- A round leaves the two boxes as they are. -/
def KpB (Bs Bn : Nat) (W W' : World) : Prop := W'.cell? ⟨Bs, 0, none⟩ = W.cell? ⟨Bs, 0, none⟩ ∧ W'.cell? ⟨Bn, 0, none⟩ = W.cell? ⟨Bn, 0, none⟩
set_option maxRecDepth 100000 in
set_option maxHeartbeats 2000000 in
theorem chunk1_in (n : Nat) (hn : 1 ≤ n) (l Bs Bn : Nat) (ad : Addr) (len cap s : Nat) (hs : 1 ≤ s) (hs2 : s ≤ 24) (hlen : len ≤ 24) (hcap : len ≤ cap) (J Jx : List Nat → World → Prop) (hJ : ∀ s W q, J s W → J s (W.drewN q))
    (hY : ∀ pre x W, J pre W → pre.length < len → YieldAt Fence.wide (n - 1) Try.prog l #[.slice (some (ad.add (x * s))) (min s (len - x * s)) (min s (len - x * s))] W fun e W' =>
      (e = .returned (.bool true) ∧ J (pre ++ [x]) W' ∧ KpB Bs Bn W W') ∨ (e = .returned (.bool false) ∧ Jx (pre ++ [x]) W'))
    (W : World) (hBs : W.cell? ⟨Bs, 0, none⟩ = some (.slice (some ad) len cap)) (hBn : W.cell? ⟨Bn, 0, none⟩ = some (.int .i64 s)) (h0 : J [] W) :
    CallsIn Fence.wide n Try.prog 66 #[.func (.yield l) #[] #[], .pointer (some ⟨Bs, 0, none⟩), .pointer (some ⟨Bn, 0, none⟩)] W fun e W' => (∃ v, e = .returned v) ∧
      ((∃ ys, ys = List.range ((len + s - 1) / s) ∧ J ys W') ∨ (∃ pre, Jx pre W')) := by
  refine callsIn_of_wp Try.func66 rfl trivial ?_ rfl
  simp only [Try.ntmps66, List.size_toArray, List.length_cons, List.length_nil, Nat.reduceAdd, Nat.reduceSub, Array.replicate_succ, Array.replicate_zero, List.push_toArray, List.append_toArray, List.nil_append, List.cons_append]
  gi_wp2
  gi_loopw [4] (fun v wr => ∃ k i : Nat, k * s = i ∧ v = .int .i64 i ∧ i < len + s ∧ J (List.range k) wr ∧ wr.cell? ⟨Bs, 0, none⟩ = some (.slice (some ad) len cap) ∧ wr.cell? ⟨Bn, 0, none⟩ = some (.int .i64 s))
    (fun i _ => len - (intOf i).toNat)
  case atStart => exact ⟨0, 0, by simp, rfl, by omega, h0, hBs, hBn⟩
  case round =>
    obtain ⟨k, i, hi, rfl, hil, hJs, hc1, hc2⟩ := hrel
    have hk1 : (k + 1) * s = i + s := by rw [Nat.succ_mul, hi]
    have hkl : k ≤ i := by rw [← hi]; exact Nat.le_mul_of_pos_right k hs
    by_cases hlt : i < len
    · by_cases hm : s ≤ len - i
      · have e1 : ((i : Int) + (s : Int)).toNat - i = s := by omega
        gi_wp2
        gi_quiet (fail)
        obtain ⟨fn, tmps, assign, body, hy, hR⟩ := hY (List.range k) k (wr.drewN nq) (hJ _ _ _ hJs) (by simp; omega)
        rw [hi, Nat.min_eq_left hm] at hy
        gi_wp2
        refine hR.mono ?_
        rintro e W3 (⟨rfl, hJ3, hk3⟩ | ⟨rfl, hJx3⟩)
        · have hd3 : W3.cell? ⟨Bs, 0, none⟩ = some (.slice (some ad) len cap) := hk3.1.trans hc1
          have hc3 : W3.cell? ⟨Bn, 0, none⟩ = some (.int .i64 s) := hk3.2.trans hc2
          gi_wp2
          go_roundw
          case rel => exact ⟨k + 1, i + s, hk1, by simp, by omega, by rw [List.range_succ]; exact hJ3, hd3, hc3⟩
          case measure => simp [intOf]; omega
        · gi_wp2
          refine bodyPost_ret (results_none rfl _ _ _) rfl ?_
          exact ⟨⟨_, rfl⟩, .inr ⟨_, hJx3⟩⟩
      · gi_wp2
        gi_quiet (fail)
        obtain ⟨fn, tmps, assign, body, hy, hR⟩ := hY (List.range k) k (wr.drewN nq) (hJ _ _ _ hJs) (by simp; omega)
        rw [hi, Nat.min_eq_right (by omega)] at hy
        gi_wp2
        refine hR.mono ?_
        rintro e W3 (⟨rfl, hJ3, hk3⟩ | ⟨rfl, hJx3⟩)
        · have hd3 : W3.cell? ⟨Bs, 0, none⟩ = some (.slice (some ad) len cap) := hk3.1.trans hc1
          have hc3 : W3.cell? ⟨Bn, 0, none⟩ = some (.int .i64 s) := hk3.2.trans hc2
          gi_wp2
          go_roundw
          case rel => exact ⟨k + 1, i + s, hk1, by simp, by omega, by rw [List.range_succ]; exact hJ3, hd3, hc3⟩
          case measure => simp [intOf]; omega
        · gi_wp2
          refine bodyPost_ret (results_none rfl _ _ _) rfl ?_
          exact ⟨⟨_, rfl⟩, .inr ⟨_, hJx3⟩⟩
    · have hkn : k = (len + s - 1) / s := by
        refine ((Nat.div_eq_iff (by omega)).2 ⟨?_, ?_⟩).symm
        · rw [hi]; omega
        · rw [hi]; omega
      gi_wp2
      go_end0
      exact ⟨⟨_, rfl⟩, .inl ⟨_, by rw [hkn], hJs⟩⟩
set_option maxRecDepth 100000 in
set_option maxHeartbeats 2000000 in
theorem chunk1_nil_in (n l Bs Bn : Nat) (cap : Nat) (J : List Nat → World → Prop) (W : World) (hBs : W.cell? ⟨Bs, 0, none⟩ = some (.slice none 0 cap)) (h0 : J [] W) :
    CallsIn Fence.wide n Try.prog 66 #[.func (.yield l) #[] #[], .pointer (some ⟨Bs, 0, none⟩), .pointer (some ⟨Bn, 0, none⟩)] W fun e W' => (∃ v, e = .returned v) ∧ J [] W' := by
  refine callsIn_of_wp Try.func66 rfl trivial ?_ rfl
  simp only [Try.ntmps66, List.size_toArray, List.length_cons, List.length_nil, Nat.reduceAdd, Nat.reduceSub, Array.replicate_succ, Array.replicate_zero, List.push_toArray, List.append_toArray, List.nil_append, List.cons_append]
  gi_wp2
  gi_loopw [4] (fun v wr => v = .int .i64 0 ∧ wr = W) (fun _ _ => 0)
  case atStart => exact ⟨rfl, rfl⟩
  case round =>
    obtain ⟨rfl, rfl⟩ := hrel
    gi_wp2
    go_end0
    exact ⟨⟨_, rfl⟩, h0⟩
theorem kpB_t {Bs Bn : Nat} {A B C : World} (h : KpB Bs Bn A B) (k : KpB Bs Bn B C) : KpB Bs Bn A C := ⟨k.1.trans h.1, k.2.trans h.2⟩
theorem kpB_b {Bs Bn B : Nat} (h1 : Bs < B) (h2 : Bn < B) (W : World) (l : Nat) (o o' : Obj) (hl : B ≤ l) (_ : W.heap[l]? = some o) (_ : o.isCells = false) (_ : o.isWalk = false) : KpB Bs Bn W (W.putObj l o') :=
  ⟨World.cell?_of_block (World.putObj_heap_other (show Bs ≠ l by omega)), World.cell?_of_block (World.putObj_heap_other (show Bn ≠ l by omega))⟩
/-- A chunk, as the iterator hands it over. -/
def chunkV (ad : Addr) (s len k : Nat) : Value := .slice (some (ad.add (k * s))) (min s (len - k * s)) (min s (len - k * s))
/-- The iterator of Chunk gives the chunks' numbers, in their order. -/
theorem chunk_stops (n : Nat) (hn : 1 ≤ n) (Bs Bn : Nat) (A0 : Option Addr) (ad : Addr) (len cap s : Nat) (hA : (A0 = none ∧ len = 0) ∨ A0 = some ad) (hs : 1 ≤ s) (hs2 : s ≤ 24) (hlen : len ≤ 24) (hcap : len ≤ cap) (w : World) (hb1 : Bs < w.heap.size) (hb2 : Bn < w.heap.size)
    (hBs : w.cell? ⟨Bs, 0, none⟩ = some (.slice A0 len cap)) (hBn : w.cell? ⟨Bn, 0, none⟩ = some (.int .i64 s)) :
    SeqStopsK Fence.wide n Try.prog 66 #[.pointer (some ⟨Bs, 0, none⟩), .pointer (some ⟨Bn, 0, none⟩)] (fun k : Nat => #[chunkV ad s len k]) (KpB Bs Bn) (fun ys => ys = List.range ((len + s - 1) / s)) (fun _ => True) len w := fun l J Jx W hW hJ _ hY h0 => by
  have hc1 := (hW.cell (p := ⟨Bs, 0, none⟩) hb1).trans hBs
  have hc2 := (hW.cell (p := ⟨Bn, 0, none⟩) hb2).trans hBn
  rcases hA with ⟨rfl, rfl⟩ | rfl
  · refine (chunk1_nil_in n l Bs Bn cap J W hc1 h0).mono fun e W' h => ⟨h.1, .inl ⟨[], ?_, h.2⟩⟩
    rw [show (0 + s - 1) / s = 0 from Nat.div_eq_of_lt (by omega)]
    rfl
  · refine (chunk1_in n hn l Bs Bn ad len cap s hs hs2 hlen hcap J Jx (fun s' W' q h => hJ s' W' _ none h ⟨rfl, rfl, rfl, Nat.le_refl _, fun _ _ _ => rfl⟩ (fun r e => by cases e)) hY W hc1 hc2 h0).mono ?_
    rintro e W' ⟨h1, h2 | ⟨pre, h2⟩⟩
    · exact ⟨h1, .inl h2⟩
    · exact ⟨h1, .inr ⟨pre, trivial, h2⟩⟩
end Go.Proofs.Ytekpnmeikibioaa.Chunk
