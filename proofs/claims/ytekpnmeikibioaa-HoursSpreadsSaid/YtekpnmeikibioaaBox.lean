/- A variable in memory, read as a row of one element; the bytes of a string as a row that is read. -/
import Derived.Test.YtekpnmeikibioaaWLast
import Derived.Test.YtekpnmeikibioaaWWords
import Derived.Lib.ConvBytes
import Derived.Laws.AppendOwn
namespace Go.Proofs.YtekpnmeikibioaaW.PrintWords
open Go.RowKit
theorem q1_ {α : Type _} (l : List α) (i : Nat) (a : α) : l.toArray.setIfInBounds i a = (l.set i a).toArray := by simp only [List.setIfInBounds_toArray]
theorem q2_ {α : Type _} (x : α) (l : List α) (a : α) : (x :: l).set 0 a = a :: l := List.set_cons_zero
theorem q3_ {α : Type _} (x : α) (l : List α) (i : Nat) (a : α) : (x :: l).set (i + 1) a = x :: l.set i a := List.set_cons_succ
theorem k0_ {p : Prop} (h : p) : Aside0 p := ⟨h⟩
theorem Kd.C_box {α : Type} {d : Kd α} {w : World} {g : Nat} {T : TypeId} {cs : List Value} {x : α} (hb : w.heap[g]? = some (.cells cs.toArray T (0, 0))) (hk : d.K w x cs) : Kd.C d w (some ⟨g, 0, none⟩) [x].length [x] := by
  refine ⟨rfl, by simp, fun _ => ⟨_, rfl, fun j p hj => ?_⟩⟩
  have h0 : j = 0 := by
    cases j with
    | zero => rfl
    | succ j => simp at hj
  subst h0
  obtain rfl : x = p := by simpa using hj
  refine ⟨cs, Kd.K_len d hk, hk, fun i u hi => ?_⟩
  have h1 : (Addr.add ⟨g, 0, none⟩ (0 * d.sz + i)) = ⟨g, i, none⟩ := by
    rw [Nat.zero_mul, Nat.zero_add]
    cases i <;> simp [Addr.add]
  rw [h1, blk_cell hb i]
  simpa using hi
theorem cell_back {w : World} {b o o' : Nat} {u v : Value} (h : (w.setCell ⟨b, o, none⟩ u).cell? ⟨b, o', none⟩ = some v) (hne : o ≠ o') : w.cell? ⟨b, o', none⟩ = some v := by
  rw [World.cell?_setCell_other _ _ _ _ (by intro e; injection e with _ e; exact hne (by omega))] at h
  exact h
section
variable {P : Program} {ops : Array Oper} {rest : List Oper} {o : Oper} {a : Act} {Q : Exit → Act → World → Prop}
/-- '[]byte(s)': a new row that is only read. -/
theorem bytes_event {W : World} (hgd : o.guard = none) {N : Tmp} (_hd : o.dst = some N) (src dst e : TypeId) (x : Operand) (s : ByteArray) (ho : o.op = .convert src dst x) (hx : a.eval x = .string s)
    {u : TypeDesc} (h1 : P.underlying src = some u) (h2 : P.underlying dst = some (.slice e)) (h3 : P.underlying e = some (.int .u8)) (hs : s.size ≤ 9223372036854775807)
    (h : ∀ A c, (bytesOf s).length ≤ c → ∀ w1, Kd.C (Kd.int .u8) w1 A (bytesOf s).length (bytesOf s) → Below W.heap.size W w1 → wpList P ops Q rest (a.put o.dst (.slice A (bytesOf s).length c)) w1) : wpList P ops Q (o :: rest) a W := by
  have hrun : (execOp a.eval o).run P W = .ok (.value (.slice (some ⟨W.heap.size, 0, none⟩) (bytesOf s).length (grownCap W s.size 0 e))) (Lib.bytesWorld W e s) := by
    have hc := Lib.run_convert_string_bytes W src dst e s h1 h2 h3
    unfold execOp
    rw [bytesOf_length]
    simp [ho, hx, hc]
  refine Kd.event_run hgd hrun (h _ _ ?_ _ ?_ (bytes_below (Below.refl _ _) (Nat.le_refl _) e s))
  · rw [bytesOf_length]; exact grownCap_ge _ _ _ _
  · rw [bytesOf_length]; exact Kd.C_of_reads (d := (0 : Int)) (h1 := fun _ => rfl) (bytes_reads W e s hs)
/-- A call of a function value in a region that draws. -/
theorem goesD_ {ops : Array Oper} {Q : Exit → Act → World → Prop} {oi : Oper} {N : Option Tmp} {a : Act} {w : World} {K : Act → World → Prop} {f : FuncId} {fn : Func} {as : Array Operand} {ts : Array TypeId} {j : Tmp} (hf : P.funcs[f]? = some fn) (hname : (fn.name == "runtime.NumGoroutine") = false) (hb : fn.body.isSome = true) (args0 args caps : Array Value)
    (hw : Region.wanted oi (yielded ops a.tmps) = true) (hN : oi.dst = N) (hop : oi.op = .call { callee := .value (.tmp j), args := as, argTypes := ts }) (hj : a.eval (.tmp j) = .func (.func f) #[] caps) (hargs : as.map a.eval = args0) (hcaps : args0 ++ caps = args)
    (h : Calls P f args w fun e w' => ∃ v, e = .returned v ∧ K (a.put N v) w') : if Region.wanted oi (yielded ops a.tmps) = true then Oper.wp P oi a w K Q else K (a.put N undef) w := by
  refine PrintLast.call_ f args hw hN ?_ h
  have he := PrintLast.enters_ hf hname hb args w
  unfold execOp
  simp [hop, hj, resolve, Deferred.ofValue, invoke, hargs, hcaps, he]
end
section
variable {P : Program} {ops : Array Oper} {Q : Exit → Act → World → Prop} {md : Region.Mode} {S : World → Prop} {ds : List Nat}
/-- Several orders that meet in one act, the world being the same. -/
theorem meet_ {fuel : Nat} {l : Array Bool} {a a' : Act} {w : World} (fuel' : Nat) (l' : Array Bool) (h : Go.Proofs.YtekpnmeikibioaaW.PrintLast.wpAnyLast P md ops Q S ds fuel' l' a' w → Go.Proofs.YtekpnmeikibioaaW.PrintLast.wpAnyLast P md ops Q S ds fuel l a w)
    (hc : Go.Proofs.YtekpnmeikibioaaW.PrintLast.wpAnyLast P md ops Q S ds fuel' l' a' w) : Go.Proofs.YtekpnmeikibioaaW.PrintLast.wpAnyLast P md ops Q S ds fuel l a w := h hc
end
end Go.Proofs.YtekpnmeikibioaaW.PrintWords
