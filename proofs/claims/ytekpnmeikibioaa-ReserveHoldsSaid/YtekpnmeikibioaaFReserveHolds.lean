/- ReserveHolds holds: for all units and powers Possible, Held and Outage return what the definitions say; no condition. -/
import Derived.Test.YtekpnmeikibioaaBReserveHolds
import Derived.Test.YtekpnmeikibioaaRowReserveHolds
namespace Go.Proofs.Ytekpnmeikibioaa.FReserveHolds
open Go.RowKit Go.Proofs.YtekpnmeikibioaaW.PrintWords Go.Proofs.YtekpnmeikibioaaW.PrintMore Go.Proofs.Ytekpnmeikibioaa.Evs Go.Proofs.Ytekpnmeikibioaa.PReserveHolds Go.Proofs.Ytekpnmeikibioaa.BReserveHolds
set_option linter.unusedVariables false
set_option linter.unusedSimpArgs false
def pn (ps : List Int) (n : Nat) : Int := ps.getD n 0
theorem rdp (ps : List Int) (n : Nat) : rd ps (n : Int) = pn ps n := Eq.trans rfl rfl
def heldU (l : List Un) (p : List Int) (n : Nat) : Int := mn (faU l n) (mostU l n - pn p n)
def hs (l : List Un) (p : List Int) : Nat → Int
  | 0 => 0
  | n + 1 => hs l p n + heldU l p n
def roomU (l : List Un) (n : Nat) : Int := mn (faU l n) (mostU l n)
def rs (l : List Un) : Nat → Int
  | 0 => 0
  | n + 1 => rs l n + roomU l n
theorem rs_bd {l : List Un} (h : ValU l) : ∀ n, n ≤ l.length → 0 ≤ rs l n ∧ rs l n ≤ 100000 * (n : Int) := by
  intro n
  induction n with
  | zero => intro _; simp [rs]
  | succ n ih =>
    intro hn
    have h0 := ih (by omega)
    have h1 := mostU_bd h n (by omega)
    have h2 := h.fast n (by omega)
    simp only [rs, roomU, mn]
    split <;> omega
theorem Possible_l0 (l : List Un) (h : ValU l) : ∀ n, n ≤ l.length → Evt (fun k => reserve_Possible.l0 k (rs l n) l (l.length : Int) (n : Int)) (rs l l.length, 0) := by
  have hl := h.len
  refine down ?_ ?_
  · refine Evt.succ ?_
    simp only [reserve_Possible.l0]
    exact Evt.ite_neg (by omega) (Evt.pure _)
  · intro n hn ih
    refine Evt.succ ?_
    simp only [reserve_Possible.l0]
    refine Evt.ite_pos (by omega) (Evt.ite_pos (by omega) (Evt.ite_pos (by omega) ?_))
    simp only [rdU0, rdU1, rdU2, reserve_room.f]
    refine Evt.bind (g := fun k => (offer_Most.f k (nmU l n) (stU l n)).bind fun t142 => some (mn (faU l n) t142)) (Evt.bind (Most_ev _ _ (h.one n hn).2.1) (Evt.pure _)) ?_
    have hb := rs_bd h (n + 1) (by omega)
    have e : rs l n + mn (faU l n) (tot (stU l n) (stU l n).length) = rs l (n + 1) := rfl
    rw [e, wrap64_of (x := rs l (n + 1)) (by omega) (by omega), wrap64_nat (by omega)]
    exact ih
theorem Possible_ev (l : List Un) (hl : l.length * 48 ≤ 140737488351232) : Evt (fun k => reserve_Possible.f k l) (if unErr l = 0 then (rs l l.length, 0) else (0, unErr l)) := by
  simp only [reserve_Possible.f]
  refine Evt.bind (reserve_Check_ev l hl) ?_
  by_cases h : unErr l = 0
  · rw [if_pos h]
    exact Evt.ite_pos h (Possible_l0 l (unErr_ok h).1 0 (by omega))
  · rw [if_neg h]
    exact Evt.ite_neg h (Evt.pure _)
/-- The first power that is not permitted. -/
def powErr (l : List Un) (p : List Int) : Nat → Nat → Int
  | 0, _ => 0
  | d + 1, n => if 0 ≤ pn p n ∧ pn p n ≤ mostU l n then powErr l p d (n + 1) else 4
theorem powErr_ok (l : List Un) (p : List Int) : ∀ d n, n + d = l.length → powErr l p d n = 0 → ∀ m, n ≤ m → m < l.length → 0 ≤ pn p m ∧ pn p m ≤ mostU l m := by
  intro d
  induction d with
  | zero => intro n hn _ m h1 h2; omega
  | succ d ih =>
    intro n hn h m h1 h2
    simp only [powErr] at h
    by_cases c : 0 ≤ pn p n ∧ pn p n ≤ mostU l n
    · rw [if_pos c] at h
      by_cases e : m = n
      · subst e
        exact c
      · exact ih (n + 1) (by omega) h m (by omega) h2
    · rw [if_neg c] at h
      omega
theorem powErr_01 (l : List Un) (p : List Int) : ∀ d n, powErr l p d n = 0 ∨ powErr l p d n = 4 := by
  intro d
  induction d with
  | zero => intro n; exact .inl rfl
  | succ d ih =>
    intro n
    simp only [powErr]
    split
    · exact ih _
    · exact .inr rfl
theorem powers_l0 (l : List Un) (h : ValU l) (p : List Int) (hp : p.length = l.length) : ∀ n, n ≤ l.length → Evt (fun k => reserve_powers.l0 k p l (l.length : Int) (n : Int)) (powErr l p (l.length - n) n) := by
  have hl := h.len
  refine down ?_ ?_
  · refine Evt.succ ?_
    simp only [reserve_powers.l0, Nat.sub_self, powErr]
    exact Evt.ite_neg (by omega) (Evt.pure _)
  · intro n hn ih
    obtain ⟨d, hd⟩ : ∃ d, l.length - n = d + 1 := ⟨l.length - n - 1, by omega⟩
    rw [show l.length - (n + 1) = d by omega] at ih
    rw [hd]
    refine Evt.succ ?_
    simp only [reserve_powers.l0]
    refine Evt.ite_pos (by omega) (Evt.ite_pos (by omega) (Evt.ite_pos (by omega) (Evt.ite_pos (by omega) ?_)))
    simp only [rdU0, rdU1, rdU2, rdp]
    have e1 : ¬ (0 ≤ pn p n ∧ pn p n ≤ mostU l n) → 4 = powErr l p (d + 1) n := fun h => by simp only [powErr]; exact (if_neg h).symm
    have e2 : (0 ≤ pn p n ∧ pn p n ≤ mostU l n) → powErr l p d (n + 1) = powErr l p (d + 1) n := fun h => by simp only [powErr]; exact (if_pos h).symm
    have e3 : tot (stU l n) (stU l n).length = mostU l n := rfl
    refine Evt.ite (fun c => Evt.of_eq (e1 (by omega))) (fun c => Evt.bind (Most_ev _ _ (h.one n hn).2.1) ?_)
    rw [e3, wrap64_nat (by omega)]
    exact Evt.ite (fun c2 => Evt.of_eq (e1 (by omega))) (fun c2 => Evt.cast ih (e2 (by omega)))
/-- The error of units with powers. -/
def allErr (l : List Un) (p : List Int) : Int := if unErr l = 0 then (if p.length = l.length then powErr l p l.length 0 else 3) else unErr l
theorem powers_ev (l : List Un) (p : List Int) (hl : l.length * 48 ≤ 140737488351232) : Evt (fun k => reserve_powers.f k l p) (allErr l p) := by
  simp only [reserve_powers.f]
  refine Evt.bind (reserve_Check_ev l hl) ?_
  unfold allErr
  by_cases h : unErr l = 0
  · rw [if_pos h]
    refine Evt.ite_pos h ?_
    by_cases h2 : p.length = l.length
    · rw [if_pos h2]
      exact Evt.ite_pos (by omega) (powers_l0 l (unErr_ok h).1 p h2 0 (by omega))
    · rw [if_neg h2]
      exact Evt.ite_neg (by omega) (Evt.pure _)
  · rw [if_neg h]
    exact Evt.ite_neg h (Evt.pure _)
/-- Valid powers. -/
structure ValP (l : List Un) (p : List Int) : Prop where
  u : ValU l
  len : p.length = l.length
  rng : ∀ m, m < l.length → 0 ≤ pn p m ∧ pn p m ≤ mostU l m
theorem allErr_ok {l : List Un} {p : List Int} (h : allErr l p = 0) : unErr l = 0 ∧ ValP l p := by
  unfold allErr at h
  by_cases h1 : unErr l = 0
  · rw [if_pos h1] at h
    by_cases h2 : p.length = l.length
    · rw [if_pos h2] at h
      exact ⟨h1, (unErr_ok h1).1, h2, fun m hm => powErr_ok l p l.length 0 (by omega) h m (by omega) hm⟩
    · rw [if_neg h2] at h
      omega
  · rw [if_neg h1] at h
    exact absurd h h1
theorem heldU_bd {l : List Un} {p : List Int} (h : ValP l p) (n : Nat) (hn : n < l.length) : 0 ≤ heldU l p n ∧ heldU l p n ≤ 100000 := by
  have h1 := mostU_bd h.u n hn
  have h2 := h.u.fast n hn
  have h3 := h.rng n hn
  unfold heldU mn
  split <;> omega
theorem hs_bd {l : List Un} {p : List Int} (h : ValP l p) : ∀ n, n ≤ l.length → 0 ≤ hs l p n ∧ hs l p n ≤ 100000 * (n : Int) := by
  intro n
  induction n with
  | zero => intro _; simp [hs]
  | succ n ih =>
    intro hn
    have h0 := ih (by omega)
    have h1 := heldU_bd h n (by omega)
    simp only [hs]
    omega
theorem Held_l0 (l : List Un) (p : List Int) (h : ValP l p) : ∀ n, n ≤ l.length → Evt (fun k => reserve_Held.l0 k p (hs l p n) l (l.length : Int) (n : Int)) (hs l p l.length, 0) := by
  have hl := h.u.len
  have hp := h.len
  refine down ?_ ?_
  · refine Evt.succ ?_
    simp only [reserve_Held.l0]
    exact Evt.ite_neg (by omega) (Evt.pure _)
  · intro n hn ih
    refine Evt.succ ?_
    simp only [reserve_Held.l0]
    refine Evt.ite_pos (by omega) (Evt.ite_pos (by omega) (Evt.ite_pos (by omega) ?_))
    simp only [rdU0, rdU1, rdU2, rdp]
    refine Evt.bind (Most_ev _ _ (h.u.one n hn).2.1) (Evt.ite_pos (by omega) ?_)
    have e3 : tot (stU l n) (stU l n).length = mostU l n := rfl
    have h1 := mostU_bd h.u n hn
    have h3 := h.rng n hn
    have hb := hs_bd h (n + 1) (by omega)
    have e4 : hs l p n + mn (faU l n) (mostU l n - pn p n) = hs l p (n + 1) := rfl
    rw [e3, wrap64_of (x := mostU l n - pn p n) (by omega) (by omega), e4, wrap64_of (x := hs l p (n + 1)) (by omega) (by omega), wrap64_nat (by omega)]
    exact ih
def heldR (l : List Un) (p : List Int) : Int × Int := if allErr l p = 0 then (hs l p l.length, 0) else (0, allErr l p)
theorem Held_ev (l : List Un) (p : List Int) (hl : l.length * 48 ≤ 140737488351232) : Evt (fun k => reserve_Held.f k l p) (heldR l p) := by
  simp only [reserve_Held.f]
  refine Evt.bind (powers_ev l p hl) ?_
  unfold heldR
  by_cases h : allErr l p = 0
  · rw [if_pos h]
    exact Evt.ite_pos h (Held_l0 l p (allErr_ok h).2 0 (by omega))
  · rw [if_neg h]
    exact Evt.ite_neg h (Evt.pure _)
/-- The greatest lack from unit n on. -/
def outR (l : List Un) (p : List Int) (H : Int) : Nat → Nat → Int → Int → Int × Int
  | 0, _, w, a => (w, a)
  | d + 1, n, w, a => if pn p n - (H - heldU l p n) > w then outR l p H d (n + 1) (pn p n - (H - heldU l p n)) (n : Int) else outR l p H d (n + 1) w a
theorem Outage_l0 (l : List Un) (p : List Int) (h : ValP l p) (H : Int) (hH : 0 ≤ H ∧ H ≤ 1000000) : ∀ n, n ≤ l.length → ∀ w a : Int, Evt (fun k => reserve_Outage.l0 k p H w a l (l.length : Int) (n : Int)) ((outR l p H (l.length - n) n w a).1, (outR l p H (l.length - n) n w a).2, 0) := by
  have hl := h.u.len
  have hp := h.len
  refine down ?_ ?_
  · intro w a
    refine Evt.succ ?_
    simp only [reserve_Outage.l0, Nat.sub_self, outR]
    exact Evt.ite_neg (by omega) (Evt.pure _)
  · intro n hn ih w a
    obtain ⟨d, hd⟩ : ∃ d, l.length - n = d + 1 := ⟨l.length - n - 1, by omega⟩
    rw [show l.length - (n + 1) = d by omega] at ih
    rw [hd]
    refine Evt.succ ?_
    simp only [reserve_Outage.l0]
    refine Evt.ite_pos (by omega) (Evt.ite_pos (by omega) (Evt.ite_pos (by omega) ?_))
    simp only [rdU0, rdU1, rdU2, rdp]
    refine Evt.bind (Most_ev _ _ (h.u.one n hn).2.1) (Evt.ite_pos (by omega) ?_)
    have e3 : tot (stU l n) (stU l n).length = mostU l n := rfl
    have h1 := mostU_bd h.u n hn
    have h3 := h.rng n hn
    have hb := heldU_bd h n hn
    have e4 : mn (faU l n) (mostU l n - pn p n) = heldU l p n := rfl
    rw [e3, wrap64_of (x := mostU l n - pn p n) (by omega) (by omega), e4, wrap64_of (x := H - heldU l p n) (by omega) (by omega), wrap64_of (x := pn p n - (H - heldU l p n)) (by omega) (by omega), wrap64_nat (by omega)]
    have o1 : (pn p n - (H - heldU l p n) > w) → outR l p H (d + 1) n w a = outR l p H d (n + 1) (pn p n - (H - heldU l p n)) (n : Int) := fun c => by simp only [outR]; exact if_pos c
    have o2 : ¬ (pn p n - (H - heldU l p n) > w) → outR l p H (d + 1) n w a = outR l p H d (n + 1) w a := fun c => by simp only [outR]; exact if_neg c
    refine Evt.ite (fun c => ?_) (fun c => ?_)
    · rw [o1 c]
      exact ih _ _
    · rw [o2 c]
      exact ih _ _
def outageR (l : List Un) (p : List Int) : Int × Int × Int := if allErr l p = 0 then ((outR l p (hs l p l.length) l.length 0 0 (-1)).1, (outR l p (hs l p l.length) l.length 0 0 (-1)).2, 0) else (0, 0, allErr l p)
theorem Outage_ev (l : List Un) (p : List Int) (hl : l.length * 48 ≤ 140737488351232) : Evt (fun k => reserve_Outage.f k l p) (outageR l p) := by
  simp only [reserve_Outage.f]
  refine Evt.bind (Held_ev l p hl) ?_
  unfold outageR heldR
  by_cases h : allErr l p = 0
  · have hv := (allErr_ok h).2
    have hb := hs_bd hv l.length (Nat.le_refl _)
    have := hv.u.len
    simp only [if_pos h]
    exact Evt.ite_pos trivial (Outage_l0 l p hv _ (by omega) 0 (by omega) 0 (-1))
  · simp only [if_neg h]
    exact Evt.pure _
/-- What the others hold: units before n, but i. -/
def oth (l : List Un) (p : List Int) (i : Nat) : Nat → Int
  | 0 => 0
  | n + 1 => if n = i then oth l p i n else oth l p i n + heldU l p n
theorem oth_eq (l : List Un) (p : List Int) (i : Nat) : ∀ n, oth l p i n = if i < n then hs l p n - heldU l p i else hs l p n := by
  intro n
  induction n with
  | zero => simp [oth, hs]
  | succ n ih =>
    simp only [oth, hs]
    by_cases e : n = i
    · subst e
      rw [if_pos rfl, if_pos (by omega), ih, if_neg (by omega)]
      omega
    · rw [if_neg e, ih]
      by_cases c : i < n
      · rw [if_pos c, if_pos (by omega)]
        omega
      · rw [if_neg c, if_neg (by omega)]
theorem oth_bd {l : List Un} {p : List Int} (h : ValP l p) (i : Nat) : ∀ n, n ≤ l.length → 0 ≤ oth l p i n ∧ oth l p i n ≤ 100000 * (n : Int) := by
  intro n
  induction n with
  | zero => intro _; simp [oth]
  | succ n ih =>
    intro hn
    have h0 := ih (by omega)
    have h1 := heldU_bd h n (by omega)
    simp only [oth]
    split <;> omega
section
variable (l : List Un) (p : List Int) (h : ValP l p) (x9 x10 x11 x12 x13 : Int)
include h
theorem law_l3 (i : Nat) (hi : i < l.length) (s w a : Int) (r : Bool)
    (hr : Evt (fun k => if (pn p i - (hs l p l.length - heldU l p i)) > w then gridhalllaw3_ReserveHolds.l2 k l p x9 x10 x11 x12 x13 s (pn p i - (hs l p l.length - heldU l p i)) (i : Int) l (l.length : Int) ((i + 1 : Nat) : Int) else gridhalllaw3_ReserveHolds.l2 k l p x9 x10 x11 x12 x13 s w a l (l.length : Int) ((i + 1 : Nat) : Int)) r) :
    ∀ n, n ≤ l.length → Evt (fun k => gridhalllaw3_ReserveHolds.l3 k l p x9 x10 x11 x12 x13 s w a (i : Int) (oth l p i n) l (l.length : Int) (i : Int) l (l.length : Int) (n : Int)) r := by
  have hl := h.u.len
  have hp := h.len
  have hi3 := h.rng i hi
  have hi1 := mostU_bd h.u i hi
  refine down ?_ ?_
  · refine Evt.succ ?_
    simp only [gridhalllaw3_ReserveHolds.l3, rdp]
    have hb := oth_bd h i l.length (Nat.le_refl _)
    have e : oth l p i l.length = hs l p l.length - heldU l p i := by rw [oth_eq, if_pos hi]
    rw [wrap64_of (x := pn p i - oth l p i l.length) (by omega) (by omega), wrap64_nat (n := i) (by omega), e]
    exact Evt.ite_neg (by omega) (Evt.ite_pos (by omega) (Evt.ite_pos (by omega) hr))
  · intro n hn ih
    refine Evt.succ ?_
    simp only [gridhalllaw3_ReserveHolds.l3]
    refine Evt.ite_pos (by omega) (Evt.ite_pos (by omega) (Evt.ite_pos (by omega) ?_))
    simp only [rdU0, rdU1, rdU2, rdp]
    rw [wrap64_nat (n := n) (by omega)]
    simp only [oth] at ih
    by_cases e : n = i
    · rw [if_pos e] at ih
      exact Evt.ite_pos (by omega) ih
    · rw [if_neg e] at ih
      refine Evt.ite_neg (by omega) (Evt.bind (All_ev _ _ (h.u.one n hn).2.1) (Evt.ite_pos (by omega) ?_))
      have e3 : tot (stU l n) (stU l n).length = mostU l n := rfl
      have h1 := mostU_bd h.u n hn
      have h3 := h.rng n hn
      have hb := heldU_bd h n hn
      have hb2 := oth_bd h i n (by omega)
      have e4 : mn (faU l n) (mostU l n - pn p n) = heldU l p n := rfl
      rw [e3, wrap64_of (x := mostU l n - pn p n) (by omega) (by omega), e4, wrap64_of (x := oth l p i n + heldU l p n) (by omega) (by omega)]
      exact ih
theorem law_l2 (h10 : x10 = 0) (h13 : x13 = 0) (h9 : x9 = hs l p l.length) : ∀ n, n ≤ l.length → ∀ w a : Int, (x11, x12) = outR l p (hs l p l.length) (l.length - n) n w a →
    Evt (fun k => gridhalllaw3_ReserveHolds.l2 k l p x9 x10 x11 x12 x13 (hs l p n) w a l (l.length : Int) (n : Int)) true := by
  have hl := h.u.len
  have hp := h.len
  refine down ?_ ?_
  · intro w a hr
    rw [Nat.sub_self] at hr
    simp only [outR, Prod.mk.injEq] at hr
    refine Evt.succ ?_
    simp only [gridhalllaw3_ReserveHolds.l2]
    exact Evt.ite_neg (by omega) (Evt.ite_pos h10 (Evt.ite_pos h13 (Evt.ite_pos h9 (Evt.ite_pos hr.1 (Evt.of_eq (by simp [hr.2]))))))
  · intro n hn ih w a hr
    obtain ⟨d, hd⟩ : ∃ d, l.length - n = d + 1 := ⟨l.length - n - 1, by omega⟩
    rw [show l.length - (n + 1) = d by omega] at ih
    rw [hd] at hr
    refine Evt.succ ?_
    simp only [gridhalllaw3_ReserveHolds.l2]
    refine Evt.ite_pos (by omega) (Evt.ite_pos (by omega) (Evt.ite_pos (by omega) ?_))
    simp only [rdU0, rdU1, rdU2, rdp]
    refine Evt.bind (All_ev _ _ (h.u.one n hn).2.1) (Evt.ite_pos (by omega) ?_)
    have e3 : tot (stU l n) (stU l n).length = mostU l n := rfl
    have h1 := mostU_bd h.u n hn
    have h3 := h.rng n hn
    have hb := hs_bd h (n + 1) (by omega)
    have e4 : hs l p n + mn (faU l n) (mostU l n - pn p n) = hs l p (n + 1) := rfl
    rw [e3, wrap64_of (x := mostU l n - pn p n) (by omega) (by omega), e4, wrap64_of (x := hs l p (n + 1)) (by omega) (by omega)]
    have o1 : (pn p n - (hs l p l.length - heldU l p n) > w) → outR l p (hs l p l.length) (d + 1) n w a = outR l p (hs l p l.length) d (n + 1) (pn p n - (hs l p l.length - heldU l p n)) (n : Int) := fun c => by simp only [outR]; exact if_pos c
    have o2 : ¬ (pn p n - (hs l p l.length - heldU l p n) > w) → outR l p (hs l p l.length) (d + 1) n w a = outR l p (hs l p l.length) d (n + 1) w a := fun c => by simp only [outR]; exact if_neg c
    refine law_l3 l p h x9 x10 x11 x12 x13 n hn (hs l p (n + 1)) w a true ?_ 0 (by omega)
    refine Evt.ite (fun c => ih _ _ ?_) (fun c => ih _ _ ?_)
    · rw [hr, o1 c]
    · rw [hr, o2 c]
end
theorem law_l1_bad (l : List Un) (p : List Int) (x9 x10 x11 x12 x13 e : Int) (he : e ≠ 0) (hx : x10 = e ∧ x13 = e ∧ x9 = 0 ∧ x11 = 0 ∧ x12 = 0) (x18 : Int) : Evt (fun k => gridhalllaw3_ReserveHolds.l1 k l p x9 x10 x11 x12 x13 e x18) true := by
  obtain ⟨rfl, rfl, rfl, rfl, rfl⟩ := hx
  refine Evt.succ ?_
  simp only [gridhalllaw3_ReserveHolds.l1]
  refine Evt.ite_neg he (Evt.succ ?_)
  simp only [gridhalllaw3_ReserveHolds.j5]
  exact Evt.ite_neg (by simp) (Evt.ite_neg he (Evt.ite_pos trivial (Evt.ite_pos trivial (Evt.ite_pos trivial (Evt.ite_pos trivial (Evt.of_eq rfl))))))
theorem law_l1 (l : List Un) (hu : ValU l) (p : List Int) (hp : p.length = l.length) (x9 x10 x11 x12 x13 : Int)
    (hok : powErr l p l.length 0 = 0 → Evt (fun k => gridhalllaw3_ReserveHolds.l2 k l p x9 x10 x11 x12 x13 0 0 (-1) l (l.length : Int) 0) true) (hbad : powErr l p l.length 0 = 4 → x10 = 4 ∧ x13 = 4 ∧ x9 = 0 ∧ x11 = 0 ∧ x12 = 0) :
    ∀ n, n ≤ l.length → powErr l p (l.length - n) n = powErr l p l.length 0 → Evt (fun k => gridhalllaw3_ReserveHolds.l1 k l p x9 x10 x11 x12 x13 0 (n : Int)) true := by
  have hl := hu.len
  refine down ?_ ?_
  · intro he
    rw [Nat.sub_self] at he
    refine Evt.succ ?_
    simp only [gridhalllaw3_ReserveHolds.l1]
    refine Evt.ite_pos trivial (Evt.succ ?_)
    simp only [gridhalllaw3_ReserveHolds.j5]
    exact Evt.ite_neg (by simp) (Evt.ite_pos trivial (hok he.symm))
  · intro n hn ih he
    obtain ⟨d, hd⟩ : ∃ d, l.length - n = d + 1 := ⟨l.length - n - 1, by omega⟩
    rw [show l.length - (n + 1) = d by omega] at ih
    rw [hd] at he
    refine Evt.succ ?_
    simp only [gridhalllaw3_ReserveHolds.l1]
    refine Evt.ite_pos trivial (Evt.succ ?_)
    simp only [gridhalllaw3_ReserveHolds.j5]
    refine Evt.ite_pos (by simp; omega) (Evt.ite_pos (by omega) (Evt.ite_pos (by omega) (Evt.ite_pos (by omega) ?_)))
    simp only [rdU0, rdU1, rdU2, rdp]
    refine Evt.bind (All_ev _ _ (hu.one n hn).2.1) ?_
    simp only [in_eq, Option.bind_some]
    have e3 : tot (stU l n) (stU l n).length = mostU l n := rfl
    rw [e3, wrap64_nat (by omega)]
    have e1 : ¬ (0 ≤ pn p n ∧ pn p n ≤ mostU l n) → powErr l p (d + 1) n = 4 := fun h => by simp only [powErr]; exact if_neg h
    have e2 : (0 ≤ pn p n ∧ pn p n ≤ mostU l n) → powErr l p (d + 1) n = powErr l p d (n + 1) := fun h => by simp only [powErr]; exact if_pos h
    refine Evt.ite (fun c => ih ?_) (fun c => ?_)
    · rw [← he, e2 (of_decide_eq_true c)]
    · have c : ¬ (0 ≤ pn p n ∧ pn p n ≤ mostU l n) := fun hh => c (decide_eq_true hh)
      exact law_l1_bad l p _ _ _ _ _ 4 (by omega) (hbad (by rw [← he, e1 c])) _
theorem law_l0 (l : List Un) (h : ValU l) (p : List Int) (x7 x9 x10 x11 x12 x13 : Int)
    (hr : Evt (fun k => if (p.length : Int) = (l.length : Int) then gridhalllaw3_ReserveHolds.j3 k l p x7 x9 x10 x11 x12 x13 0 (rs l l.length) else gridhalllaw3_ReserveHolds.j3 k l p x7 x9 x10 x11 x12 x13 3 (rs l l.length)) true) :
    ∀ n, n ≤ l.length → Evt (fun k => gridhalllaw3_ReserveHolds.l0 k l p x7 x9 x10 x11 x12 x13 0 (rs l n) l (l.length : Int) (n : Int)) true := by
  have hl := h.len
  refine down ?_ ?_
  · refine Evt.succ ?_
    simp only [gridhalllaw3_ReserveHolds.l0]
    exact Evt.ite_neg (by omega) hr
  · intro n hn ih
    refine Evt.succ ?_
    simp only [gridhalllaw3_ReserveHolds.l0]
    refine Evt.ite_pos (by omega) (Evt.ite_pos (by omega) (Evt.ite_pos (by omega) ?_))
    simp only [rdU0, rdU1, rdU2]
    refine Evt.bind (All_ev _ _ (h.one n hn).2.1) ?_
    have hb := rs_bd h (n + 1) (by omega)
    have e : rs l n + mn (faU l n) (tot (stU l n) (stU l n).length) = rs l (n + 1) := rfl
    rw [e, wrap64_of (x := rs l (n + 1)) (by omega) (by omega), wrap64_nat (by omega)]
    exact ih
theorem j0 (l : List Un) (p : List Int) (hl : l.length * 48 ≤ 140737488351232) (b : Bool) (hb : b = false) : Evt (fun k => gridhalllaw3_ReserveHolds.j0 k l p b) true := by
  subst hb
  refine Evt.succ ?_
  simp only [gridhalllaw3_ReserveHolds.j0]
  refine Evt.ite_neg (by simp) (Evt.bind (Possible_ev l hl) (Evt.bind (Held_ev l p hl) (Evt.bind (Outage_ev l p hl) (Evt.bind (gridhalllaw3_unitsError_ev l hl) (Evt.bind (reserve_Check_ev l hl) (Evt.ite_pos rfl ?_))))))
  refine Evt.succ ?_
  simp only [gridhalllaw3_ReserveHolds.j1]
  have bad : ∀ e : Int, e ≠ 0 → allErr l p = e → Evt (fun k => gridhalllaw3_ReserveHolds.l1 k l p (heldR l p).1 (heldR l p).2 (outageR l p).1 (outageR l p).2.1 (outageR l p).2.2 e 0) true := by
    intro e he h
    have g1 : heldR l p = (0, e) := by unfold heldR; rw [if_neg (by omega), h]
    have g2 : outageR l p = (0, 0, e) := by unfold outageR; rw [if_neg (by omega), h]
    rw [g1, g2]
    exact law_l1_bad l p _ _ _ _ _ e he ⟨rfl, rfl, rfl, rfl, rfl⟩ 0
  by_cases h : unErr l = 0
  · have hv := (unErr_ok h).1
    simp only [h, if_true]
    refine Evt.ite_neg (by simp) ?_
    refine law_l0 l hv p _ _ _ _ _ _ ?_ 0 (by omega)
    by_cases h2 : p.length = l.length
    · refine Evt.ite_pos (by omega) (Evt.succ ?_)
      simp only [gridhalllaw3_ReserveHolds.j3]
      refine Evt.ite_pos trivial ?_
      have ha : allErr l p = powErr l p l.length 0 := by unfold allErr; rw [if_pos h, if_pos h2]
      refine law_l1 l hv p h2 _ _ _ _ _ (fun e => ?_) (fun e => ?_) 0 (by omega) rfl
      · have e : allErr l p = 0 := by rw [ha, e]
        have hp := (allErr_ok e).2
        have g1 : heldR l p = (hs l p l.length, 0) := by unfold heldR; rw [if_pos e]
        have g2 : outageR l p = ((outR l p (hs l p l.length) l.length 0 0 (-1)).1, (outR l p (hs l p l.length) l.length 0 0 (-1)).2, 0) := by unfold outageR; rw [if_pos e]
        rw [g1, g2]
        exact law_l2 l p hp _ _ _ _ _ rfl rfl rfl 0 (by omega) 0 (-1) rfl
      · have e : allErr l p = 4 := by rw [ha, e]
        have g1 : heldR l p = (0, 4) := by unfold heldR; rw [if_neg (by omega), e]
        have g2 : outageR l p = (0, 0, 4) := by unfold outageR; rw [if_neg (by omega), e]
        rw [g1, g2]
        exact ⟨rfl, rfl, rfl, rfl, rfl⟩
    · refine Evt.ite_neg (by omega) (Evt.succ ?_)
      simp only [gridhalllaw3_ReserveHolds.j3]
      refine Evt.ite_pos trivial (bad 3 (by omega) ?_)
      unfold allErr
      rw [if_pos h, if_neg h2]
  · simp only [h, if_false]
    refine Evt.ite_neg (by simp) (Evt.succ ?_)
    simp only [gridhalllaw3_ReserveHolds.j3]
    refine Evt.ite_pos trivial (bad _ h ?_)
    unfold allErr
    rw [if_neg h]
theorem pure : Go.Proofs.Ytekpnmeikibioaa.RReserveHolds.Pure := by
  intro l p hl _
  refine Evt.ex ?_
  simp only [gridhalllaw3_ReserveHolds.f, gridhalllaw3_two.f, Option.bind_some]
  refine Evt.bind (Held_ev _ _ (by decide)) ?_
  have e : heldR [(⟨⟨⟨#[65]⟩, [⟨10, 5⟩, ⟨10, 8⟩]⟩, 5⟩ : Un)] [18] = (2, 0) := by decide +kernel
  rw [e]
  exact Evt.ite_pos rfl (j0 l p hl.1 _ rfl)
theorem ReserveHolds_holds : Rows.ReserveHoldsSaid := Go.Proofs.Ytekpnmeikibioaa.RReserveHolds.said pure
#print axioms ReserveHolds_holds
end Go.Proofs.Ytekpnmeikibioaa.FReserveHolds
