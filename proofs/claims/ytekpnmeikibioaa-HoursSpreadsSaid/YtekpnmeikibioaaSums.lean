/- What hours.Sums answers: the sums of the chunks; walked by hand (a range over a function). -/
import Derived.Test.YtekpnmeikibioaaChunk
import Derived.Test.YtekpnmeikibioaaHHoursSpreadsy1
import Derived.RangeFuncNested
import Derived.Maps.AppendAt
namespace Go.Proofs.Ytekpnmeikibioaa.PHoursSpreads
open Go.RowKit Go.Shelf Go.Proofs.YtekpnmeikibioaaW.PrintWords Go.Proofs.YtekpnmeikibioaaW.PrintLast Go.Proofs.YtekpnmeikibioaaW.PrintMore Go.Proofs.Ytekpnmeikibioaa.Chunk
attribute [local go_sem] Oper.semAt_some
set_option linter.unusedVariables false
set_option linter.unusedSimpArgs false
/-- The sum of j numbers from a on, as the code reckons it. -/
def wsum (f : Nat → Int) (a : Nat) : Nat → Int
  | 0 => 0
  | j + 1 => wrap64 (wsum f a j + f (a + j))
def chk (l : List Int) (s k : Nat) : Int := wsum (fun j => l.getD j 0) (k * s) (min s (l.length - k * s))
def chunkSums (l : List Int) (s : Nat) : List Int := (List.range ((l.length + s - 1) / s)).map (chk l s)
def hours_Sums.f (k : Nat) (l0 : List Int) (a1 : Int) : Option (List Int × Int) := (hours_Check.f k l0).bind fun t138 => (if t138 = 0 then (if a1 < 1 then (some (([] : List Int), 1)) else (if a1 > 24 then (some (([] : List Int), 1)) else (some (chunkSums l0 a1.toNat, 0)))) else (some (([] : List Int), t138)))
theorem hours_Sums.mono : ∀ a0 a1 k, LeO (hours_Sums.f k a0 a1) (hours_Sums.f (k + 1) a0 a1) := by
  intro a0 a1 k
  unfold hours_Sums.f
  repeat' first
      | (with_reducible exact hours_Check.mono _ _)
      | (with_reducible exact LeO.refl _)
      | (with_reducible exact LeO.none _)
      | (with_reducible refine LeO.ite ?_ ?_)
      | (with_reducible refine LeO.bind ?_ (fun _ => ?_))
theorem check_len {k : Nat} {l : List Int} (h : hours_Check.f k l = some 0) : l.length ≤ 24 := by
  unfold hours_Check.f at h
  by_cases c : (l.length : Int) > 24
  · rw [if_pos c] at h
    cases h
  · omega
theorem own_low {W : World} {b b' e size n : Nat} {v : Value} {xs : List Value} (h : W.ownsRow b e size v n xs) (hb : b' ≤ b) : W.ownsRow b' e size v n xs :=
  ⟨h.1, h.2.imp id fun ⟨g, cap, cur, e1, hg, r⟩ => ⟨g, cap, cur, e1, Nat.le_trans hb hg, r⟩⟩
theorem own_new {W : World} {b e size n : Nat} {v : Value} {xs : List Value} (h : W.ownsRow b e size v n xs) {g : Nat} (hg : g < b) : some g ≠ v.ownBlock := by
  rcases h.2 with ⟨rfl, _⟩ | ⟨g', cap, cur, rfl, hb, _⟩
  · simp [Value.ownBlock]
  · simp [Value.ownBlock]
    omega
theorem own_up {W W' : World} {b b' e size n n' : Nat} {v : Value} {xs xs' : List Value} (h : W.ownsRow b e size v n xs) (h' : W'.ownsRow b' e size v n' xs') : W.ownsRow b' e size v n xs := by
  refine ⟨h.1, ?_⟩
  rcases h.2 with k | ⟨g, cap, cur, rfl, _, r⟩
  · exact .inl k
  · rcases h'.2 with ⟨k, _⟩ | ⟨g2, cap2, cur2, k, hb, _⟩
    · cases k
    · cases k
      exact .inr ⟨g, cap, cur, rfl, hb, r⟩
theorem infoI : (Try.prog.info? 3).map (fun i => (i.zero, i.size, i.bytes)) = some (some (.int .i64 0), 1, 8) := by kernel_rfl
set_option maxRecDepth 100000 in
set_option maxHeartbeats 4000000 in
theorem hours_Sums.calls (k : Nat) (A0 : Option Addr) (c0 : Nat) (l0 : List Int) (a1 : Int) (r1 : List Int) (r2 : Int) (w : World) (hr0 : Kd.C (Kd.int .i64) w A0 l0.length l0) (hc0 : l0.length ≤ c0) (h : hours_Sums.f k l0 a1 = some (r1, r2)) :
    Calls Try.prog 30 #[.slice A0 l0.length c0, .int .i64 a1] w fun e w' => ∃ v0_ : Value, e = .returned (.tuple #[v0_, .int .i64 r2]) ∧ Kd.R (Kd.int .i64) 3 w' w.heap.size (fun _ => True) v0_ r1 ∧ Below w.heap.size w w' := by
  refine (callsIn_wide (n := 4)).1 ?_
  obtain ⟨E, hE⟩ : ∃ E, hours_Check.f k l0 = some E := by
    cases q : hours_Check.f k l0 with
    | none => unfold hours_Sums.f at h; rw [q] at h; cases h
    | some E => exact ⟨E, rfl⟩
  unfold hours_Sums.f at h
  rw [hE, Option.bind_some] at h
  refine callsIn_of_wp_marks Try.func30 rfl trivial ?_ rfl
  simp only [Try.ntmps30, List.size_toArray, List.length_cons, List.length_nil, Nat.reduceAdd, Nat.reduceSub, Array.replicate_succ, Array.replicate_zero, List.push_toArray, List.append_toArray, List.nil_append, List.cons_append]
  have early : ∀ (tmps : Array Value) (W : World), tmps.getD 4 undef = .slice none 0 0 → tmps.getD 5 undef = .int .i64 r2 → r1 = [] → Below w.heap.size w W → bodyPostM Fence.wide 4 Try.prog Try.f30 (fun e w' => ∃ v0_ : Value, e = .returned (.tuple #[v0_, .int .i64 r2]) ∧ Kd.R (Kd.int .i64) 3 w' w.heap.size (fun _ => True) v0_ r1 ∧ Below w.heap.size w w') Exit.ret { tmps := tmps, defers := [] } W := by
    intro tmps W e4 e5 er hB
    refine ⟨_, results_tmp2 rfl _ _ _, .slice none 0 0, ?_, ?_, hB⟩
    · rw [e4, e5]
    · rw [er]
      exact Kd.R_nil _ _ _ _ _
  by_cases c1 : E = 0
  · subst c1
    rw [if_pos rfl] at h
    have hlen := check_len hE
    by_cases c2 : a1 < 1
    · rw [if_pos c2] at h
      cases h
      gi_wp2_with (refine ⟨trivial, ?_⟩; gi_at_call 31; refine (callsIn_wide.2 (hours_Check.calls k A0 c0 l0 _ w hr0 hc0 hE)).mono ?_; rintro e w' ⟨rfl, hd⟩)
      exact early _ _ rfl rfl (by first | rfl | trivial) hd.below
    · rw [if_neg c2] at h
      by_cases c3 : a1 > 24
      · rw [if_pos c3] at h
        cases h
        gi_wp2_with (refine ⟨trivial, ?_⟩; gi_at_call 31; refine (callsIn_wide.2 (hours_Check.calls k A0 c0 l0 _ w hr0 hc0 hE)).mono ?_; rintro e w' ⟨rfl, hd⟩)
        exact early _ _ rfl rfl (by first | rfl | trivial) hd.below
      · rw [if_neg c3] at h
        simp only [Option.some.injEq, Prod.mk.injEq] at h
        obtain ⟨rfl, rfl⟩ := h
        obtain ⟨s, rfl⟩ : ∃ s : Nat, a1 = s := ⟨a1.toNat, by omega⟩
        rw [Int.toNat_natCast]
        gi_wp2_with (first | (refine ⟨trivial, ?_⟩; gi_at_call 31; refine (callsIn_wide.2 (hours_Check.calls k A0 c0 l0 _ w hr0 hc0 hE)).mono ?_; rintro e w' ⟨rfl, hd⟩) | (refine ⟨trivial, ?_⟩; gi_at_call 56; refine (Chunk_in Fence.wide _ trivial rfl _ _ _ _ (by omega) _).mono ?_; rintro e w'' ⟨rfl, rfl⟩))
        have bO := Boxed.new w' 23 (.slice none 0 0)
        have bS := Boxed.new (w'.alloc (.cells #[.slice none 0 0] 23)) 23 (.slice A0 l0.length c0)
        have bN := Boxed.new ((w'.alloc (.cells #[.slice none 0 0] 23)).alloc (.cells #[.slice A0 l0.length c0] 23)) 3 (.int .i64 s)
        rw [World.size_alloc, World.size_alloc] at bN
        rw [World.size_alloc] at bS
        have hB1 : Below w.heap.size w (((w'.alloc (.cells #[.slice none 0 0] 23)).alloc (.cells #[.slice A0 l0.length c0] 23)).alloc (.cells #[.int .i64 s] 3)) := ((hd.below.alloc hd.below.size _).alloc (by have := hd.below.size; simp; omega) _).alloc (by have := hd.below.size; simp; omega) _
        have hws := hd.below.size
        obtain ⟨ad, hA⟩ : ∃ ad : Addr, (A0 = none ∧ l0.length = 0) ∨ A0 = some ad := by
          cases A0 with
          | none =>
            refine ⟨⟨0, 0, none⟩, .inl ⟨rfl, ?_⟩⟩
            by_cases q : l0.length = 0
            · exact q
            · obtain ⟨ad, e, _⟩ := Kd.at_int hr0 0 (by omega) (by omega)
              cases e
          | some ad => exact ⟨ad, .inr rfl⟩
        obtain ⟨i0, hi, hz0, hz1, hz2⟩ := info_parts infoI
        refine wpIn_rangeFunc_ownG rfl (by omega) (gf := 66) (lb := #[.pointer (some ⟨w'.heap.size + 1, 0, none⟩), .pointer (some ⟨w'.heap.size + 1 + 1, 0, none⟩)]) rfl trivial (enters_of Try.func66 (by kernel_rfl) rfl)
          (chunk_stops (4 - 1) (by omega) (w'.heap.size + 1) (w'.heap.size + 1 + 1) A0 ad l0.length c0 s hA (by omega) (by omega) hlen hc0 _ (by simp) (by simp) (bS.alloc _).cell bN.cell) kpB_t (kpB_b (by simp) (by simp)) (Below.refl _ _) (fun _ => rfl)
          (fun pre W => (∃ v, Boxed W w'.heap.size 23 v ∧ W.ownsRow (w'.heap.size + 1 + 1 + 1) 3 1 v pre.length (pre.map (fun k => Value.int .i64 (chk l0 s k))) ∧ (v = .slice none 0 0 ↔ pre = [])) ∧ (Boxed W (w'.heap.size + 1) 23 (.slice A0 l0.length c0) ∧ Boxed W (w'.heap.size + 1 + 1) 3 (.int .i64 s)) ∧ Below w.heap.size w W)
          (fun _ _ _ => False)
          (OwnFrom.and (Own.from (holdsRow_own (w'.heap.size + 1 + 1 + 1) w'.heap.size 23 3 1 (fun pre : List Nat => pre.length) (fun pre => pre.map (fun k => Value.int .i64 (chk l0 s k))) (fun pre v => v = .slice none 0 0 ↔ pre = [])) _) (OwnFrom.and (OwnFrom.and (Own.from (boxed_own _ _ (fun _ => .slice A0 l0.length c0)) _) (Own.from (boxed_own _ _ (fun _ => .int .i64 s)) _)) (ownFrom_below (Nat.le_refl _) (by simp; omega))))
          (fun _ _ _ _ _ hs _ _ => hs)
          ⟨⟨_, (bO.alloc _).alloc _, World.ownsRow_nil _ _ _ _, by simp⟩, ⟨bS.alloc _, bN⟩, hB1⟩
          (fun x => { tmps := #[Value.slice A0 l0.length c0, Value.int IntKind.i64 s, undef, undef, Value.slice none 0 0, Value.int IntKind.i64 0, Value.int IntKind.i64 0, Value.pointer (some { block := w'.heap.size, off := 0 }), chunkV ad s l0.length x, undef, undef, undef, Value.slice A0 l0.length c0, Value.int IntKind.i64 0, Value.int IntKind.i64 0, Value.bool false, undef, Value.int IntKind.i64 s, Value.bool (decide ((s : Int) < 1)), Value.bool (decide ((s : Int) < 1)), Value.int IntKind.i64 s, Value.bool (decide (24 < (s : Int))), Value.bool (decide ((s : Int) < 1) || decide (24 < (s : Int))), Value.slice A0 l0.length c0, Value.int IntKind.i64 s, Value.func (Fn.func 66) #[] #[Value.pointer (some { block := w'.heap.size + 1, off := 0 }), Value.pointer (some { block := w'.heap.size + 1 + 1, off := 0 })], chunkV ad s l0.length x, undef, undef, undef, undef, undef, undef, undef, undef, undef, undef, undef, undef, undef, undef, undef], defers := [] }) ?assign ?body ?done ?stop
        case assign =>
          intro l x W K hK
          gi_wp2
          exact hK
        case body =>
          rintro l pre x W ⟨⟨v, hv, hrow, hnil⟩, ⟨hbs, hbn⟩, hB⟩ hlt
          have hc := hv.cell
          obtain ⟨m, hm⟩ : ∃ m, min s (l0.length - x * s) = m := ⟨_, rfl⟩
          obtain ⟨a, ha⟩ : ∃ a, ad.add (x * s) = a := ⟨_, rfl⟩
          unfold chunkV
          rw [hm, ha]
          have hcell : ∀ j, j < m → W.cell? (a.add j) = some (.int .i64 (l0.getD (x * s + j) 0)) := by
            intro j hj
            obtain ⟨ad', e1, e2⟩ := Kd.at_int hr0 ((x * s + j : Nat) : Int) (by omega) (by omega)
            rcases hA with ⟨_, q⟩ | hA
            · omega
            · rw [hA] at e1
              cases e1
              rw [Int.toNat_natCast] at e2
              have e3 := (hB.cell (p := ad.add (x * s + j)) (World.block_lt_of_cell? w _ e2)).trans e2
              rw [← ha, Addr.add_add]
              exact e3
          gi_wp2
          gi_loopw [9, 29] (fun v9 v29 wr => ∃ j : Nat, j ≤ m ∧ v9 = .int .i64 (wsum (fun i => l0.getD i 0) (x * s) j) ∧ v29 = .int .i64 j ∧ wr = W) (fun v9 v29 _ => m - (intOf v29).toNat)
          case atStart => exact ⟨0, by omega, rfl, rfl, rfl⟩
          case round =>
            obtain ⟨j, hj, rfl, rfl, rfl⟩ := hrel
            by_cases hjm : j < m
            · have hcj := hcell j hjm
              gi_wp2
              go_roundw
              case rel => exact ⟨j + 1, hjm, by simp [wsum], by simp, by first | rfl | trivial⟩
              case measure => simp [intOf]; omega
            · obtain rfl : j = m := by omega
              have hmx : 25 ≤ maxLen := by decide
              have hbo : some (w'.heap.size + 1) ≠ v.ownBlock := own_new hrow (by omega)
              have hbo2 : some (w'.heap.size + 1 + 1) ≠ v.ownBlock := own_new hrow (by omega)
              have hbl := hbn.lt
              have hch : chk l0 s x = wsum (fun i => l0.getD i 0) (x * s) j := by unfold chk; rw [hm]
              rw [← hch]
              obtain ⟨sv, hsv⟩ : ∃ sv, chk l0 s x = sv := ⟨_, rfl⟩
              rw [hsv]
              clear hch
              gi_wp2_with (gi_at_builtin; refine wpListIn_append_own _ rfl _ _ 23 rfl (w'.heap.size + 1 + 1 + 1) 3 i0 (.int .i64 0) 1 8 Try.underlying23 hi hz0 hz1 hz2 rfl (by decide) _ _ _ rfl (hrow.alloc _) ⟨wr.heap.size, 0, none⟩ 1 1 [.int .i64 sv] rfl rfl (cell_one_new _ _ _) (by simp [Value.oneCell']) (by omega) (by omega) (by simp; omega) ?_; intro v' w1 hown' hgrow hat; obtain ⟨g', cap', rfl⟩ := ownsRow_succ hown'; obtain ⟨hv1, hv2, hr2, hk2, hb2⟩ := hv.appended (by decide) (own_low hrow (by omega)) hB.size hws (own_low hown' (by omega)) hgrow; have hc1 := hv1.cell; have hf1 := hv1.frozen)
              have hg2 : (wr.alloc (Obj.cells #[Value.int IntKind.i64 sv] 3)).grownBy w1 v.ownBlock := hgrow
              have hbs2 := (((hbs.alloc (Obj.cells #[Value.int IntKind.i64 sv] 3)).kept hg2 hbo).other (show w'.heap.size + 1 ≠ w'.heap.size by omega) (Value.slice (some { block := g', off := 0 }) (pre.length + 1) cap'))
              have hbn2 := (((hbn.alloc (Obj.cells #[Value.int IntKind.i64 sv] 3)).kept hg2 hbo2).other (show w'.heap.size + 1 + 1 ≠ w'.heap.size by omega) (Value.slice (some { block := g', off := 0 }) (pre.length + 1) cap'))
              refine ⟨hk2.from _, ⟨hbs2.cell.trans hbs.cell.symm, hbn2.cell.trans hbn.cell.symm⟩, ⟨⟨_, hv2, ?_, by simp⟩, ⟨hbs2, hbn2⟩, hB.trans hb2⟩⟩
              have hr4 := own_up hr2 hown'
              simpa [hsv] using hr4
        case done =>
          rintro D ys W hD rfl ⟨⟨v, hv, hrow, hnil⟩, _, hB⟩ hK
          have hc := hv.cell
          gi_wp2
          refine ⟨by simp, .inl ⟨_, _, rfl, run_takeDeferred hK, ?_⟩⟩
          have hr5 := ownsRow_putObj hrow (.deferred none) hK rfl
          refine ⟨_, results_tmp2 rfl _ _ _, v, rfl, Kd.R_of_own (own_low (b := w'.heap.size + 1 + 1 + 1) (b' := w.heap.size) ?_ (by omega)) (fun _ _ => trivial), hB.trans (belowK_b (w := w) (Nat.le_refl _) W D _ _ (by simp at hD; omega) hK rfl rfl)⟩
          simpa [chunkSums, encs, Function.comp_def] using hr5
        case stop =>
          rintro D c pre W _ _ h _
          exact h.elim
  · rw [if_neg c1] at h
    cases h
    gi_wp2_with (refine ⟨trivial, ?_⟩; gi_at_call 31; refine (callsIn_wide.2 (hours_Check.calls k A0 c0 l0 _ w hr0 hc0 hE)).mono ?_; rintro e w' ⟨rfl, hd⟩)
    exact early _ _ rfl rfl (by first | rfl | trivial) hd.below
end Go.Proofs.Ytekpnmeikibioaa.PHoursSpreads
