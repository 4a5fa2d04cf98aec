/- Plain laws for InterlockSays. -/
import Derived.Test.YtielinaielicbaaDInterlockSays
namespace Go.Proofs.Ytielinaielicbaa.GInterlockSays
open Go.RowKit Go.Proofs.YtielinaielicbaaW.PrintWords Go.Proofs.YtielinaielicbaaW.PrintMore Go.Proofs.Ytielinaielicbaa.Evs Go.Proofs.Ytielinaielicbaa.PInterlockSays Go.Proofs.Ytielinaielicbaa.NInterlockSays Go.Proofs.Ytielinaielicbaa.BInterlockSays Go.Proofs.Ytielinaielicbaa.CInterlockSays Go.Proofs.Ytielinaielicbaa.DInterlockSays
set_option linter.unusedVariables false
set_option linter.unusedSimpArgs false
/-! what a condition says -/
def At (st : List S63) (s : ByteArray) (q : Nat) : Prop := q < st.length ∧ nm st q = s.toList
def okV (l : List S119) (st : List S63) (V : Nat → Bool) (j : Nat) : Prop :=
  ((nd l j).f0 = 0 → V j = true) ∧ ((nd l j).f0 = 1 → V j = false) ∧
  ((nd l j).f0 = 2 → (∀ q, At st (nd l j).f1 q → V j = !(sx st q).f1) ∧ ((∀ q, ¬ At st (nd l j).f1 q) → V j = false)) ∧
  ((nd l j).f0 = 3 → (∀ q, At st (nd l j).f1 q → V j = (sx st q).f1) ∧ ((∀ q, ¬ At st (nd l j).f1 q) → V j = false)) ∧
  ((nd l j).f0 = 4 → V j = !(V (nd l j).f2.toNat)) ∧
  ((nd l j).f0 = 5 → V j = (V (nd l j).f2.toNat && V (nd l j).f3.toNat)) ∧
  ((nd l j).f0 = 6 → V j = (V (nd l j).f2.toNat || V (nd l j).f3.toNat))
theorem At.uniq {st : List S63} (h : once st) {s : ByteArray} {q q' : Nat} (a : At st s q) (b : At st s q') : q = q' := by
  rcases Nat.lt_trichotomy q q' with c | c | c
  · exact absurd (a.2.trans b.2.symm) (h q q' c b.1)
  · exact c
  · exact absurd (b.2.trans a.2.symm) (h q' q c a.1)
def lk (f : Bool → Bool) : Option Bool → Bool
  | some b => f b
  | none => false
open Classical in
theorem val_ex {l : List S119} {st : List S63} (h1 : once st) : ∀ n, n ≤ l.length → (∀ j, j < n → okNode l j) → ∃ V : Nat → Bool, ∀ j, j < n → okV l st V j := by
  intro n
  induction n with
  | zero => exact fun _ _ => ⟨fun _ => false, fun j h => by omega⟩
  | succ n ih =>
    intro hn ok
    obtain ⟨V, hV⟩ := ih (by omega) (fun j h => ok j (by omega))
    have okn := ok n (by omega)
    let look : Option Bool := if h : ∃ q, At st (nd l n).f1 q then some (sx st (Classical.choose h)).f1 else none
    have l1 : ∀ q, At st (nd l n).f1 q → look = some (sx st q).f1 := by
      intro q hq
      have h : ∃ q, At st (nd l n).f1 q := ⟨q, hq⟩
      have e : Classical.choose h = q := At.uniq h1 (Classical.choose_spec h) hq
      show (if h : ∃ q, At st (nd l n).f1 q then some (sx st (Classical.choose h)).f1 else none) = _
      rw [dif_pos h, e]
    have l0 : (∀ q, ¬ At st (nd l n).f1 q) → look = none := by
      intro h
      show (if h : ∃ q, At st (nd l n).f1 q then some (sx st (Classical.choose h)).f1 else none) = _
      exact dif_neg (fun ⟨q, hq⟩ => h q hq)
    let v : Bool := if (nd l n).f0 = 0 then true else if (nd l n).f0 = 2 then lk (fun b => !b) look else if (nd l n).f0 = 3 then lk (fun b => b) look else if (nd l n).f0 = 4 then !(V (nd l n).f2.toNat) else if (nd l n).f0 = 5 then (V (nd l n).f2.toNat && V (nd l n).f3.toNat) else if (nd l n).f0 = 6 then (V (nd l n).f2.toNat || V (nd l n).f3.toNat) else false
    refine ⟨fun i => if i = n then v else V i, fun j hj => ?_⟩
    by_cases c : j = n
    · subst c
      have e : (fun i => if i = j then v else V i) j = v := if_pos rfl
      have lt2 : (nd l j).f0 = 4 ∨ (nd l j).f0 = 5 ∨ (nd l j).f0 = 6 → (fun i => if i = j then v else V i) (nd l j).f2.toNat = V (nd l j).f2.toNat := fun h => if_neg (by have := okn.2.1 h; omega)
      have lt3 : (nd l j).f0 = 5 ∨ (nd l j).f0 = 6 → (fun i => if i = j then v else V i) (nd l j).f3.toNat = V (nd l j).f3.toNat := fun h => if_neg (by have := okn.2.2 h; omega)
      refine ⟨fun k => ?_, fun k => ?_, fun k => ⟨fun q hq => ?_, fun hq => ?_⟩, fun k => ⟨fun q hq => ?_, fun hq => ?_⟩, fun k => ?_, fun k => ?_, fun k => ?_⟩ <;> rw [e]
      · exact if_pos k
      · show (if (nd l j).f0 = 0 then true else _) = false
        rw [if_neg (by omega), if_neg (by omega), if_neg (by omega), if_neg (by omega), if_neg (by omega), if_neg (by omega)]
      · show (if (nd l j).f0 = 0 then true else _) = _
        rw [if_neg (by omega), if_pos k, l1 q hq]; rfl
      · show (if (nd l j).f0 = 0 then true else _) = _
        rw [if_neg (by omega), if_pos k, l0 hq]; rfl
      · show (if (nd l j).f0 = 0 then true else _) = _
        rw [if_neg (by omega), if_neg (by omega), if_pos k, l1 q hq]; rfl
      · show (if (nd l j).f0 = 0 then true else _) = _
        rw [if_neg (by omega), if_neg (by omega), if_pos k, l0 hq]; rfl
      · rw [lt2 (by omega)]
        show (if (nd l j).f0 = 0 then true else _) = _
        rw [if_neg (by omega), if_neg (by omega), if_neg (by omega), if_pos k]
      · rw [lt2 (by omega), lt3 (by omega)]
        show (if (nd l j).f0 = 0 then true else _) = _
        rw [if_neg (by omega), if_neg (by omega), if_neg (by omega), if_neg (by omega), if_pos k]
      · rw [lt2 (by omega), lt3 (by omega)]
        show (if (nd l j).f0 = 0 then true else _) = _
        rw [if_neg (by omega), if_neg (by omega), if_neg (by omega), if_neg (by omega), if_neg (by omega), if_pos k]
    · have okj := ok j (by omega)
      have hj' := hV j (by omega)
      have e : (fun i => if i = n then v else V i) j = V j := if_neg c
      have e2 : (nd l j).f0 = 4 ∨ (nd l j).f0 = 5 ∨ (nd l j).f0 = 6 → (fun i => if i = n then v else V i) (nd l j).f2.toNat = V (nd l j).f2.toNat := fun h => if_neg (by have := okj.2.1 h; omega)
      have e3 : (nd l j).f0 = 5 ∨ (nd l j).f0 = 6 → (fun i => if i = n then v else V i) (nd l j).f3.toNat = V (nd l j).f3.toNat := fun h => if_neg (by have := okj.2.2 h; omega)
      refine ⟨fun k => by rw [e]; exact hj'.1 k, fun k => by rw [e]; exact hj'.2.1 k, fun k => by rw [e]; exact hj'.2.2.1 k, fun k => by rw [e]; exact hj'.2.2.2.1 k, fun k => by rw [e, e2 (by omega)]; exact hj'.2.2.2.2.1 k, fun k => by rw [e, e2 (by omega), e3 (by omega)]; exact hj'.2.2.2.2.2.1 k, fun k => by rw [e, e2 (by omega), e3 (by omega)]; exact hj'.2.2.2.2.2.2 k⟩
/-! the reference's evaluation -/
abbrev HL (k : Nat) (l : List S119) (st : List S63) (a b : Bool) (q : Nat) (x : S119) := gridhallref4_Holds.l0 k l st a b st (st.length : Int) (q : Int) x.f0 x.f1 x.f2 x.f3
def FIN (k : Nat) (l : List S119) (st : List S63) (a b : Bool) (x : S119) : Option Bool :=
  if x.f0 = 0 then (some true) else (if x.f0 = 2 then (if a = true then (some (!b)) else (some false)) else (if x.f0 = 3 then (if a = true then (some b) else (some false)) else (if x.f0 = 4 then ((gridhallref4_Holds.f k l x.f2 st).bind fun t266 => (some (!t266))) else (if x.f0 = 5 then ((gridhallref4_Holds.f k l x.f2 st).bind fun t267 => (if t267 = true then ((gridhallref4_Holds.f k l x.f3 st).bind fun t268 => (some t268)) else (some false))) else (if x.f0 = 6 then ((gridhallref4_Holds.f k l x.f2 st).bind fun t269 => (if t269 = true then (some true) else ((gridhallref4_Holds.f k l x.f3 st).bind fun t270 => (some t270)))) else (some false))))))
theorem hl_none {l : List S119} {st : List S63} (hl : st.length ≤ 32) (a b : Bool) (x : S119) {r : Bool} (F : Evt (fun k => FIN k l st a b x) r) : ∀ q, q ≤ st.length → (∀ m, q ≤ m → ¬ At st x.f1 m) → Evt (fun k => HL k l st a b q x) r := by
  refine down (P := fun q => (∀ m, q ≤ m → ¬ At st x.f1 m) → Evt (fun k => HL k l st a b q x) r) ?_ ?_
  · intro _
    refine Evt.succ ?_
    simp only [HL, gridhallref4_Holds.l0]
    exact Evt.ite_neg (by omega) F
  · intro q hq ih h
    refine Evt.succ ?_
    simp only [HL, gridhallref4_Holds.l0, rd_sx]
    refine Evt.ite_pos (by omega) (Evt.ite_pos (by omega) (Evt.ite_pos (by omega) (Evt.ite_neg (fun e => h q (by omega) ⟨hq, e⟩) ?_)))
    rw [wrap64_nat (n := q) (by omega)]
    exact ih (fun m hm => h m (by omega))
theorem hl_some {l : List S119} {st : List S63} (hl : st.length ≤ 32) (h1 : once st) (x : S119) {m : Nat} (hm : At st x.f1 m) {r : Bool} (F : Evt (fun k => FIN k l st true (sx st m).f1 x) r) (a b : Bool) : ∀ d q, m - q = d → q ≤ m → Evt (fun k => HL k l st a b q x) r := by
  intro d
  induction d with
  | zero =>
    intro q hd hq
    have : q = m := by omega
    subst this
    refine Evt.succ ?_
    simp only [HL, gridhallref4_Holds.l0, rd_sx]
    have := hm.1
    refine Evt.ite_pos (by omega) (Evt.ite_pos (by omega) (Evt.ite_pos (by omega) (Evt.ite_pos hm.2 ?_)))
    rw [wrap64_nat (n := q) (by omega)]
    exact hl_none hl _ _ x F (q + 1) (by omega) (fun m' h h2 => by have := At.uniq h1 hm h2; omega)
  | succ d ih =>
    intro q hd hq
    refine Evt.succ ?_
    simp only [HL, gridhallref4_Holds.l0, rd_sx]
    have := hm.1
    refine Evt.ite_pos (by omega) (Evt.ite_pos (by omega) (Evt.ite_pos (by omega) (Evt.ite_neg (fun e => by have := At.uniq h1 hm ⟨by omega, e⟩; omega) ?_)))
    rw [wrap64_nat (n := q) (by omega)]
    exact ih (q + 1) (by omega) (by omega)
theorem ref_holds {l : List S119} {st : List S63} (hl : st.length ≤ 32) (h1 : once st) {V : Nat → Bool} (ok : ∀ j, j < l.length → okNode l j) (hV : ∀ j, j < l.length → okV l st V j) : ∀ n j, j < n → j < l.length → Evt (fun k => gridhallref4_Holds.f k l (j : Int) st) (V j) := by
  intro n
  induction n with
  | zero => intro j h; omega
  | succ n ih =>
    intro j hj hl2
    have o := ok j hl2
    have o1 := o.1
    have v := hV j hl2
    have fin : ∀ a b, ((nd l j).f0 = 2 → (if a = true then !b else false) = V j) → ((nd l j).f0 = 3 → (if a = true then b else false) = V j) → Evt (fun k => FIN k l st a b (nd l j)) (V j) := by
      intro a b c2 c3
      unfold FIN
      refine Evt.ite (fun k => Evt.of_eq (v.1 k).symm) (fun k0 => Evt.ite (fun k => ?_) (fun k2 => Evt.ite (fun k => ?_) (fun k3 => Evt.ite (fun k => ?_) (fun k4 => Evt.ite (fun k => ?_) (fun k5 => Evt.ite (fun k => ?_) (fun k6 => Evt.of_eq (v.2.1 (by omega)).symm))))))
      · rw [← c2 k]
        cases a with
        | true => exact Evt.ite_pos rfl (Evt.of_eq (by simp))
        | false => exact Evt.ite_neg (by simp) (Evt.of_eq (by simp))
      · rw [← c3 k]
        cases a with
        | true => exact Evt.ite_pos rfl (Evt.of_eq (by simp))
        | false => exact Evt.ite_neg (by simp) (Evt.of_eq (by simp))
      · have b2 := o.2.1 (by omega)
        have A := ih (nd l j).f2.toNat (by omega) (by omega)
        rw [Int.toNat_of_nonneg b2.1] at A
        rw [v.2.2.2.2.1 k]
        exact Evt.bind A (Evt.pure _)
      · have b2 := o.2.1 (by omega)
        have b3 := o.2.2 (by omega)
        have A := ih (nd l j).f2.toNat (by omega) (by omega)
        have B := ih (nd l j).f3.toNat (by omega) (by omega)
        rw [Int.toNat_of_nonneg b2.1] at A
        rw [Int.toNat_of_nonneg b3.1] at B
        rw [v.2.2.2.2.2.1 k]
        refine Evt.bind A ?_
        cases V (nd l j).f2.toNat with
        | true => exact Evt.ite_pos rfl (Evt.bind B (Evt.of_eq (by simp)))
        | false => exact Evt.ite_neg (by simp) (Evt.of_eq (by simp))
      · have b2 := o.2.1 (by omega)
        have b3 := o.2.2 (by omega)
        have A := ih (nd l j).f2.toNat (by omega) (by omega)
        have B := ih (nd l j).f3.toNat (by omega) (by omega)
        rw [Int.toNat_of_nonneg b2.1] at A
        rw [Int.toNat_of_nonneg b3.1] at B
        rw [v.2.2.2.2.2.2 k]
        refine Evt.bind A ?_
        cases V (nd l j).f2.toNat with
        | true => exact Evt.ite_pos rfl (Evt.of_eq (by simp))
        | false => exact Evt.ite_neg (by simp) (Evt.bind B (Evt.of_eq (by simp)))
    refine Evt.succ ?_
    simp only [gridhallref4_Holds.f, rd_nd]
    refine Evt.ite_pos (by omega) (Evt.ite_pos (by omega) ?_)
    by_cases c : ∃ m, At st (nd l j).f1 m
    · obtain ⟨m, hm⟩ := c
      exact hl_some hl h1 (nd l j) hm (fin true _ (fun k => by rw [if_pos rfl]; exact ((v.2.2.1 k).1 m hm).symm) (fun k => by rw [if_pos rfl]; exact ((v.2.2.2.1 k).1 m hm).symm)) false false m 0 (by omega) (by omega)
    · have c' : ∀ q, ¬ At st (nd l j).f1 q := fun q hq => c ⟨q, hq⟩
      exact hl_none hl false false (nd l j) (fin false false (fun k => by rw [if_neg (by simp)]; exact ((v.2.2.1 k).2 c').symm) (fun k => by rw [if_neg (by simp)]; exact ((v.2.2.2.1 k).2 c').symm)) 0 (by omega) (fun m _ => c' m)
/-! the code's -/
theorem rdOf_nat (bs : List Bool) (n : Nat) : rdOf false bs (n : Int) = bs.getD n false := by simp [rdOf]
theorem code_holds {l : List S119} {st : List S63} (h40 : l.length ≤ 40) (h0 : 0 < l.length) (hl : st.length ≤ 32) (h1 : once st) {V : Nat → Bool} (ok : ∀ j, j < l.length → okNode l j) (hV : ∀ j, j < l.length → okV l st V j) : ∀ d n bs, l.length - n = d → n ≤ l.length → bs.length = l.length → (∀ j, j < n → bs.getD j false = V j) → (∀ j, n ≤ j → bs.getD j false = false) → Evt (fun k => interlock_holds.l0 k l st bs l (l.length : Int) (n : Int)) (V (l.length - 1)) := by
  intro d
  induction d with
  | zero =>
    intro n bs hd hn hb hv hz
    refine Evt.succ ?_
    simp only [interlock_holds.l0]
    rw [wsub1 (n := l.length) (by omega) (by omega), rdOf_nat]
    exact Evt.ite_neg (by omega) (Evt.ite_pos (by omega) (Evt.ite_pos (by omega) (Evt.of_eq (hv _ (by omega)))))
  | succ d ih =>
    intro n bs hd hn hb hv hz
    have hn' : n < l.length := by omega
    have o := ok n hn'
    have v := hV n hn'
    have go : ∀ b, b = V n → Evt (fun k => interlock_holds.l0 k l st (bs.set n b) l (l.length : Int) ((n + 1 : Nat) : Int)) (V (l.length - 1)) := by
      intro b hbv
      refine ih (n + 1) _ (by omega) (by omega) (by rw [List.length_set]; exact hb) (fun j hj => ?_) (fun j hj => by
        rw [List.getD_eq_getElem?_getD, List.getElem?_set, if_neg (by omega), ← List.getD_eq_getElem?_getD]
        exact hz j (by omega))
      rw [List.getD_eq_getElem?_getD, List.getElem?_set]
      by_cases c : n = j
      · subst c
        rw [if_pos rfl, if_pos (by omega)]
        exact hbv
      · rw [if_neg c, ← List.getD_eq_getElem?_getD]
        exact hv j (by omega)
    have r2 : (nd l n).f0 = 4 ∨ (nd l n).f0 = 5 ∨ (nd l n).f0 = 6 → (0 ≤ (nd l n).f2 ∧ (nd l n).f2 < (bs.length : Int)) ∧ rdOf false bs (nd l n).f2 = V (nd l n).f2.toNat := fun k => by
      have b2 := o.2.1 k
      refine ⟨by omega, ?_⟩
      have := rdOf_nat bs (nd l n).f2.toNat
      rw [Int.toNat_of_nonneg b2.1] at this
      rw [this]
      exact hv _ (by omega)
    have r3 : (nd l n).f0 = 5 ∨ (nd l n).f0 = 6 → (0 ≤ (nd l n).f3 ∧ (nd l n).f3 < (bs.length : Int)) ∧ rdOf false bs (nd l n).f3 = V (nd l n).f3.toNat := fun k => by
      have b3 := o.2.2 k
      refine ⟨by omega, ?_⟩
      have := rdOf_nat bs (nd l n).f3.toNat
      rw [Int.toNat_of_nonneg b3.1] at this
      rw [this]
      exact hv _ (by omega)
    have j2 : ∀ t : Int, ((nd l n).f0 = 2 ∨ (nd l n).f0 = 3 → (∃ m : Nat, t = m ∧ At st (nd l n).f1 m) ∨ (t = -1 ∧ ∀ q, ¬ At st (nd l n).f1 q)) → Evt (fun k => interlock_holds.j2 k l st bs (n : Int) t l (l.length : Int) (n : Int) (nd l n).f0 (nd l n).f1 (nd l n).f2 (nd l n).f3) (V (l.length - 1)) := by
      intro t ht
      refine Evt.succ ?_
      simp only [interlock_holds.j2]
      rw [wrap64_nat (n := n) (by omega), Int.toNat_natCast]
      refine Evt.ite (fun k => Evt.ite_pos (by omega) (Evt.ite_pos (by omega) (go _ (v.1 k).symm))) (fun k0 => Evt.ite (fun k => ?_) (fun k2 => Evt.ite (fun k => ?_) (fun k3 => Evt.ite (fun k => ?_) (fun k4 => Evt.ite (fun k => ?_) (fun k5 => Evt.ite (fun k => ?_) (fun k6 => ?_))))))
      · rcases ht (Or.inl k) with ⟨m, rfl, hm⟩ | ⟨rfl, hm⟩
        · have := hm.1
          rw [rd_sx]
          exact Evt.ite_pos (by omega) (Evt.ite_pos (by omega) (Evt.ite_pos (by omega) (Evt.ite_pos (by omega) (Evt.ite_pos (by omega) (go _ ((v.2.2.1 k).1 m hm).symm)))))
        · exact Evt.ite_neg (by omega) (Evt.ite_pos (by omega) (Evt.ite_pos (by omega) (go _ ((v.2.2.1 k).2 hm).symm)))
      · rcases ht (Or.inr k) with ⟨m, rfl, hm⟩ | ⟨rfl, hm⟩
        · have := hm.1
          rw [rd_sx]
          exact Evt.ite_pos (by omega) (Evt.ite_pos (by omega) (Evt.ite_pos (by omega) (Evt.ite_pos (by omega) (Evt.ite_pos (by omega) (go _ ((v.2.2.2.1 k).1 m hm).symm)))))
        · exact Evt.ite_neg (by omega) (Evt.ite_pos (by omega) (Evt.ite_pos (by omega) (go _ ((v.2.2.2.1 k).2 hm).symm)))
      · obtain ⟨b, e⟩ := r2 (by omega)
        rw [e]
        exact Evt.ite_pos b.1 (Evt.ite_pos b.2 (Evt.ite_pos (by omega) (Evt.ite_pos (by omega) (go _ (v.2.2.2.2.1 k).symm))))
      · obtain ⟨b, e⟩ := r2 (by omega)
        obtain ⟨b', e'⟩ := r3 (by omega)
        rw [e, e']
        have w := v.2.2.2.2.2.1 k
        refine Evt.ite_pos b.1 (Evt.ite_pos b.2 ?_)
        cases hA : V (nd l n).f2.toNat with
        | true =>
          rw [hA] at w
          exact Evt.ite_pos rfl (Evt.ite_pos b'.1 (Evt.ite_pos b'.2 (Evt.ite_pos (by omega) (Evt.ite_pos (by omega) (go _ (by rw [w]; simp))))))
        | false =>
          rw [hA] at w
          exact Evt.ite_neg (by simp) (Evt.ite_pos (by omega) (Evt.ite_pos (by omega) (go _ (by rw [w]; simp))))
      · obtain ⟨b, e⟩ := r2 (by omega)
        obtain ⟨b', e'⟩ := r3 (by omega)
        rw [e, e']
        have w := v.2.2.2.2.2.2 k
        refine Evt.ite_pos b.1 (Evt.ite_pos b.2 ?_)
        cases hA : V (nd l n).f2.toNat with
        | true =>
          rw [hA] at w
          exact Evt.ite_pos rfl (Evt.ite_pos (by omega) (Evt.ite_pos (by omega) (go _ (by rw [w]; simp))))
        | false =>
          rw [hA] at w
          exact Evt.ite_neg (by simp) (Evt.ite_pos b'.1 (Evt.ite_pos b'.2 (Evt.ite_pos (by omega) (Evt.ite_pos (by omega) (go _ (by rw [w]; simp))))))
      · clear ht r2 r3
        have k1 : (nd l n).f0 = 1 := by have := o.1; omega
        refine ih (n + 1) bs (by omega) (by omega) hb (fun j hj => ?_) (fun j hj => hz j (by omega))
        by_cases c : j = n
        · subst c
          rw [v.2.1 k1]
          exact hz j (Nat.le_refl _)
        · exact hv j (by omega)
    refine Evt.succ ?_
    simp only [interlock_holds.l0, rd_nd]
    refine Evt.ite_pos (by omega) (Evt.ite_pos (by omega) (Evt.ite_pos (by omega) ?_))
    have j1 : ∀ b : Bool, (b = true ↔ (nd l n).f0 = 2 ∨ (nd l n).f0 = 3) → Evt (fun k => interlock_holds.j1 k l st bs (n : Int) (-1) l (l.length : Int) (n : Int) b (nd l n).f0 (nd l n).f1 (nd l n).f2 (nd l n).f3) (V (l.length - 1)) := by
      intro b hbb
      refine Evt.succ ?_
      simp only [interlock_holds.j1]
      refine Evt.ite (fun h => ?_) (fun h => j2 _ (fun x => absurd (hbb.2 x) h))
      rcases find_ev st (nd l n).f1 hl with ⟨m, a, c, F⟩ | ⟨a, F⟩
      · exact Evt.bind F (j2 _ (fun _ => Or.inl ⟨m, rfl, a, c⟩))
      · exact Evt.bind F (j2 _ (fun _ => Or.inr ⟨rfl, fun q hq => a q hq.1 hq.2⟩))
    refine Evt.ite (fun k => j1 true ⟨fun _ => Or.inl k, fun _ => rfl⟩) (fun k => j1 _ ⟨fun x => Or.inr (eq_of_beq x), fun x => ?_⟩)
    have : (nd l n).f0 = 3 := by omega
    rw [this]
    rfl
end Go.Proofs.Ytielinaielicbaa.GInterlockSays
