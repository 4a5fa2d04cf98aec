import Derived.Test.YtpmaiofgnbgboaaBox
import Derived.Test.YtpmaiofgnbgboaaWTab
import Derived.Test.YtpmaiofgnbgboaaWLast
namespace Go.Proofs.YtpmaiofgnbgboaaW.PrintLast
open Go.RowKit Go.Proofs.YtpmaiofgnbgboaaW.PrintWords
theorem as_ {p:Prop}(h:p:=by first|(with_reducible assumption)|assumption):p:=h
theorem rs_ {p:Prop}(h:p:=by first|rfl|(simp;done)|(simp [*];done)):p:=h
theorem er_ {p:Prop}(h:p:=by first|rfl|(simp [errW_none, errW_some] <;> rfl)|(simp [*, errW_none, errW_some] <;> rfl)):p:=h
theorem mt_ {p:Prop}(h:p:=by (try simp only [List.map_toArray, List.map_cons, List.map_nil]);first|done|rfl|(simp only [List.length_drop, List.length_take];rfl)):p:=h
theorem bq_ {p q:Prop}(h:p)(k:p→q:=by intro h;(with_reducible repeat (first|refine blk_drewN ?_ _|refine blk_drew ?_|refine blk_alloc ?_ _));exact h):q:=k h
theorem rq_ {p q:Prop}(h:p)(k:p→q:=by intro h;(with_reducible repeat (first|apply Kd.R_alloc|apply Kd.R_drewN|apply Kd.R_drew));exact h):q:=k h
theorem hb0_ {p q:Prop}(h:p)(k:p→q:=by intro h;repeat (first|(with_reducible first|exact h|apply below_alloc|apply pw_below_drewN|apply below_drew1)|exact h)):q:=k h
theorem hb1_ {p q r:Prop}(h:p)(a:r)(k:p→r→q:=by intro h a;repeat (first|(with_reducible first|exact h|apply below_alloc|apply pw_below_drewN|apply below_drew1|refine below_set ?_ a)|exact h)):q:=k h a
theorem hb2_ {p q r s:Prop}(h:p)(a:r)(b:s)(k:p→r→s→q:=by intro h a b;repeat (first|(with_reducible first|exact h|apply below_alloc|apply pw_below_drewN|apply below_drew1|refine below_set ?_ a|refine below_set ?_ b)|exact h)):q:=k h a b
def mbl_ : Nat → Nat → List Bool
 |0, _ => []
 |n + 1, b => (b % 2 == 1) :: mbl_ n (b / 2)
def mb_ (n b : Nat) : Array Bool := (mbl_ n b).toArray
theorem bt_ {w w' : World} {p : Addr} {v : Value} (h : Below w.heap.size w w') (hx : w.cell? p = some v) : w'.cell? p = some v := (h.cell (World.block_lt_of_cell? w _ hx)).trans hx
theorem gi_ {α : Type} {c : Prop} [Decidable c] {x : Option α} {r : α} (h : (if c then x else none) = some r) : c ∧ x = some r := by
  by_cases e : c
  · rw [if_pos e] at h; exact ⟨e, h⟩
  · rw [if_neg e] at h; cases h
section
variable {P : Program} {ops : Array Oper} {Q : Exit → Act → World → Prop} {md : Region.Mode} {S : World → Prop} {ds : List Nat} {T : Bool × List (List Nat × List Nat)} {B : List Nat} {fuel n b : Nat} {a : Act} {w : World} {oi : Oper} {v : Value} {a' : Act}
theorem pu_ (i m : Nat) (hT : rtab md ops = T) (hi : ops[i]? = some oi := by rfl) (hN : oi.dst = some m := by rfl) (hc : anyT T (mb_ n b).toList (mb_ n (b + 2 ^ i)).toList i = true := by kernel_rfl)
    (hy : Yields P ops oi v a:=by (refine Or.inl ⟨by rfl, ?_⟩; intro w'; go_simp; with_reducible rfl)) (ha : a.put (some m) v = a':=by (simp only [Act.put, q1_, q2_, q3_, i64_w, i32_w]; rfl)) (hQ : ∀ c a w, Q (.panic c) (a.put oi.dst v) w → Q (.panic c) a w:=by exact fun _ _ _ h => h)
    (h : wpAnyLast P md ops Q S ds fuel (mb_ n (b + 2 ^ i)) a' w) : wpAnyLast P md ops Q S ds (fuel + 1) (mb_ n b) a w:=pure_ _ hi hN (any_of hT hc) hQ hy ha h
theorem tk_ (i m : Nat) (hT : rtab md ops = T) (hB : waitsOk T.2 B = true) (hS : S w) (hi : ops[i]? = some oi := by rfl) (hN : oi.dst = some m := by rfl) (hc : takeW T B ds (mb_ n b).toList (mb_ n (b + 2 ^ i)).toList i = true := by kernel_rfl)
    (hy : YieldsIf P ops S oi v a:=by (refine Or.inl ⟨by rfl, ?_⟩; intro w' s; (repeat (have:=And.left s; replace s:=And.right s)); go_simp; with_reducible rfl)) (ha : a.put (some m) v = a':=by (simp only [Act.put, q1_, q2_, q3_, i64_w, i32_w]; rfl)) (hQ : ∀ c a w, Q (.panic c) (a.put oi.dst v) w → Q (.panic c) a w:=by exact fun _ _ _ h => h)
    (h : wpAnyLast P md ops Q S ds fuel (mb_ n (b + 2 ^ i)) a' w) : wpAnyLast P md ops Q S ds (fuel + 1) (mb_ n b) a w:=take_ _ hi hN (take_ofW hT hB hc) hQ hy hS ha h
theorem la_ (i : Nat) (N : Option Tmp) (hT : rtab md ops = T) (hi : ops[i]? = some oi := by rfl) (hN : oi.dst = N := by rfl) (hc : (readyT T.2 (mb_ n b).toList == [i] && (mb_ n b).toList.set i true == (mb_ n (b + 2 ^ i)).toList) = true := by kernel_rfl) (hd : i ∈ ds := by decide)
    (h : ∀ K : Act → World → Prop, Shut (∀ a' w', wpAnyLast P md ops Q S ds fuel (mb_ n (b + 2 ^ i)) a' w' → K a' w') → if Region.wanted oi (yielded ops a.tmps) = true then Oper.wp P oi a w K Q else K (a.put N undef) w) :
    wpAnyLast P md ops Q S ds (fuel + 1) (mb_ n b) a w:=last_ _ hi hN (one_of hT hc) hd h
end
theorem bc2_ {w : World} {g : Nat} {t : TypeId} {v0 v1 : Value} (h : w.heap[g]? = some (.cells #[v0, v1] t (0, 0))) : w.cell? ⟨g, 0, none⟩ = some v0 ∧ w.cell? ⟨g, 1, none⟩ = some v1 := ⟨(blk_cell h 0).trans rfl, (blk_cell h 1).trans rfl⟩
theorem bf2_ {w : World} {g : Nat} {t : TypeId} {cs : Array Value} (h : w.heap[g]? = some (.cells cs t (0, 0))) : w.frozen? ⟨g, 0, none⟩ = false ∧ w.frozen? ⟨g, 1, none⟩ = false := ⟨blk_frozen h 0, blk_frozen h 1⟩
end Go.Proofs.YtpmaiofgnbgboaaW.PrintLast
