/- LedgerSettles holds: for all names and sums Settle moves exactly the sums, in fewer entries than accounts; no condition. -/
import Derived.Test.YtpmaiofgnbgboaaBLedgerSettles
import Derived.Test.YtpmaiofgnbgboaaRowLedgerSettles
namespace Go.Proofs.Ytpmaiofgnbgboaa.FLedgerSettles
open Go.RowKit Go.Proofs.YtpmaiofgnbgboaaW.PrintWords Go.Proofs.YtpmaiofgnbgboaaW.PrintMore Go.Proofs.Ytpmaiofgnbgboaa.Evs Go.Proofs.Ytpmaiofgnbgboaa.PLedgerSettles Go.Proofs.Ytpmaiofgnbgboaa.BLedgerSettles
set_option linter.unusedVariables false
set_option linter.unusedSimpArgs false
theorem fst_zero (f : Nat → Int) (p : Int → Bool) (N i : Nat) (hi : i ≤ N) (h : ∀ j, j < i → p (f j) = false) : fst f p (N - i) i = fst f p N 0 := by
  have := fst_skip f p i (N - i) 0 (fun j _ b => h j (by omega))
  rw [show i + (N - i) = N by omega, Nat.zero_add] at this
  exact this.symm
theorem run_nil (l : List ByteArray) (f : Nat → Int) (h : fI f l.length = l.length ∨ fK f l.length = l.length) : ∀ m, run l m f = [] := by
  intro m
  cases m with
  | zero => rfl
  | succ m => simp only [run]; exact if_pos h
/-! what Settle answers -/
section
variable (l : List ByteArray) (hl : l.length ≤ 64) (f : Nat → Int) (hf : ∀ j, j < l.length → inR (f j)) (acc : List En)
include hl
theorem S_l2 (k0 : Int) (R : List En × Int) : ∀ n, n ≤ l.length → Evt (fun q => ledger_Settle.j3 q l (tab f l.length) acc ((fst f neg (l.length - n) n : Nat) : Int) k0) R → Evt (fun q => ledger_Settle.l2 q l (tab f l.length) acc (n : Int) k0) R := by
  refine down ?_ ?_
  · intro h
    rw [Nat.sub_self] at h
    refine Evt.succ ?_
    simp only [ledger_Settle.l2, tab_len]
    exact Evt.ite_neg (by omega) h
  · intro n hn ih h
    obtain ⟨d, hd⟩ : ∃ d, l.length - n = d + 1 := ⟨l.length - n - 1, by omega⟩
    rw [show l.length - (n + 1) = d by omega] at ih
    rw [hd] at h
    simp only [fst] at h
    refine Evt.succ ?_
    simp only [ledger_Settle.l2, tab_len]
    refine Evt.ite_pos (by omega) (Evt.ite_pos (by omega) ?_)
    rw [tab_get f hn, wrap64_nat (by omega)]
    refine Evt.ite (fun c => ih ?_) (fun c => ?_)
    · rw [if_neg (by unfold neg; simp; omega)] at h
      exact h
    · rw [if_pos (by unfold neg; simp; omega)] at h
      exact h
include hf
theorem S_l3 (I K : Nat) (hI : I ≤ l.length) (R : List En × Int) (hacc : acc.length ≤ 100) (hfin : I = l.length ∨ K = l.length → R = (acc, 0))
    (hgo : I < l.length → K < l.length → Evt (fun q => ledger_Settle.l1 q l (((tab f l.length).set (I : Int).toNat (f I + mn (-(f I)) (f K))).set (K : Int).toNat (f K - mn (-(f I)) (f K))) (acc ++ [(⟨at_ l I, at_ l K, mn (-(f I)) (f K)⟩ : En)]) (I : Int) (K : Int)) R) :
    ∀ n, n ≤ l.length → fst f pos (l.length - n) n = K → Evt (fun q => ledger_Settle.l3 q l (tab f l.length) acc (I : Int) (n : Int)) R := by
  refine down ?_ ?_
  · intro h
    rw [Nat.sub_self] at h
    simp only [fst] at h
    have hR := hfin (.inr h.symm)
    subst hR
    refine Evt.succ ?_
    simp only [ledger_Settle.l3, tab_len]
    exact Evt.ite_neg (by omega) (Evt.ite (fun _ => Evt.pure _) (fun _ => Evt.ite_pos trivial (Evt.pure _)))
  · intro n hn ih h
    obtain ⟨d, hd⟩ : ∃ d, l.length - n = d + 1 := ⟨l.length - n - 1, by omega⟩
    rw [show l.length - (n + 1) = d by omega] at ih
    rw [hd] at h
    simp only [fst] at h
    refine Evt.succ ?_
    simp only [ledger_Settle.l3, tab_len]
    refine Evt.ite_pos (by omega) (Evt.ite_pos (by omega) ?_)
    rw [tab_get f hn, wrap64_nat (n := n) (by omega)]
    refine Evt.ite (fun c => ih ?_) (fun c => ?_)
    · rw [if_neg (by unfold pos; simp; omega)] at h
      exact h
    · rw [if_pos (by unfold pos; simp; omega)] at h
      subst h
      refine Evt.ite (fun c2 => ?_) (fun c2 => Evt.ite_neg (by omega) (Evt.ite_pos (by omega) (Evt.ite_pos (by omega) (Evt.ite_pos (by omega) (Evt.ite_pos (by omega) (Evt.ite_pos (by omega) ?_))))))
      · rw [hfin (.inl (by omega))]
        exact Evt.pure _
      · have hIl : I < l.length := by omega
        have a := hf I hIl
        have b := hf n hn
        unfold inR at a b
        rw [tab_get f hIl, rdN, rdN, wrap64_of (x := -(f I)) (by omega) (by omega)]
        have m : -1000000000000 ≤ mn (-(f I)) (f n) ∧ mn (-(f I)) (f n) ≤ 1000000000000 := by
          unfold mn
          split <;> omega
        rw [wrap64_of (x := f I + mn (-(f I)) (f n)) (by omega) (by omega), wrap64_of (x := f n - mn (-(f I)) (f n)) (by omega) (by omega)]
        exact hgo hIl hn
end
theorem S_l1 (l : List ByteArray) (hl : l.length ≤ 64) : ∀ (m : Nat) (f : Nat → Int) (acc : List En) (i k : Nat), (∀ j, j < l.length → inR (f j)) → nz f l.length ≤ m → acc.length + m ≤ 100 → i ≤ l.length → k ≤ l.length → (∀ j, j < i → 0 ≤ f j) → (∀ j, j < k → f j ≤ 0) →
    Evt (fun q => ledger_Settle.l1 q l (tab f l.length) acc (i : Int) (k : Int)) (acc ++ run l m f, 0) := by
  intro m
  induction m with
  | zero =>
    intro f acc i k hf hz ha hi hk h1 h2
    have e1 := fst_zero f neg l.length i hi (fun j hj => by have := h1 j hj; unfold neg; simp; omega)
    have e2 := fst_zero f pos l.length k hk (fun j hj => by have := h2 j hj; unfold pos; simp; omega)
    have c : fI f l.length = l.length ∨ fK f l.length = l.length := by
      apply Decidable.byContradiction
      intro c
      have a := fI_le f l.length
      have b := fK_le f l.length
      have := nx_lt (f := f) (N := l.length) (by omega) (by omega)
      have := nz_nn (nx f l.length) l.length
      omega
    rw [run_nil l f c, List.append_nil]
    refine Evt.succ ?_
    simp only [ledger_Settle.l1]
    refine S_l2 l hl f acc _ _ i hi (Evt.succ ?_)
    simp only [ledger_Settle.j3]
    rw [e1]
    refine S_l3 l hl f hf acc (fI f l.length) (fK f l.length) (fI_le f l.length) _ (by omega) (fun _ => rfl) (fun a b => by omega) k hk e2
  | succ m ih =>
    intro f acc i k hf hz ha hi hk h1 h2
    have e1 := fst_zero f neg l.length i hi (fun j hj => by have := h1 j hj; unfold neg; simp; omega)
    have e2 := fst_zero f pos l.length k hk (fun j hj => by have := h2 j hj; unfold pos; simp; omega)
    refine Evt.succ ?_
    simp only [ledger_Settle.l1]
    refine S_l2 l hl f acc _ _ i hi (Evt.succ ?_)
    simp only [ledger_Settle.j3]
    rw [e1]
    refine S_l3 l hl f hf acc (fI f l.length) (fK f l.length) (fI_le f l.length) _ (by omega) (fun c => by rw [run_nil l f c, List.append_nil]) (fun a b => ?_) k hk e2
    have h3 := nx_lt a b
    have h4 := ih (nx f l.length) (acc ++ [(⟨at_ l (fI f l.length), at_ l (fK f l.length), mv f l.length⟩ : En)]) (fI f l.length) (fK f l.length) (nx_in a b hf) (by omega) (by simp; omega) (by omega) (by omega) (nx_neg a b) (nx_pos a b)
    have e3 : acc ++ run l (m + 1) f = acc ++ [(⟨at_ l (fI f l.length), at_ l (fK f l.length), mv f l.length⟩ : En)] ++ run l m (nx f l.length) := by
      simp only [run]
      rw [if_neg (by omega), List.append_assoc]
      rfl
    rw [e3]
    have e4 := nx_tab (f := f) (N := l.length)
    rw [← e4] at h4
    exact h4
def settleR (l : List ByteArray) (ps : List Int) : List En × Int := if errR l ps = 0 then (run l 64 (pn ps), 0) else ([], errR l ps)
theorem Clone_eq (ps : List Int) (h : ps.length ≤ 64) : slices_Clone_int_int.f ps = some ps := by
  unfold slices_Clone_int_int.f
  simp only [Option.bind_some, List.nil_append, List.length_nil]
  exact if_pos (by omega)
theorem S_l0 (l : List ByteArray) (hl : l.length ≤ 64) (ps : List Int) (hp : l.length = ps.length) (Z : Int) (R : List En × Int) (hR : Z = 0 → Evt (fun q => ledger_Settle.l1 q l ps [] 0 0) R) : ∀ n, n ≤ l.length → ∀ s : Int, -1000000000000 * (n : Int) ≤ s → s ≤ 1000000000000 * (n : Int) → chk l ps (l.length - n) n s = Z →
    Evt (fun q => ledger_Settle.l0 q l ps s l (l.length : Int) (n : Int)) (if Z = 0 then R else ([], Z)) := by
  refine down ?_ ?_
  · intro s b1 b2 h
    rw [Nat.sub_self] at h
    simp only [chk] at h
    refine Evt.succ ?_
    simp only [ledger_Settle.l0]
    refine Evt.ite_neg (by omega) (Evt.ite (fun c => ?_) (fun c => ?_))
    · rw [if_pos c] at h
      rw [if_pos h.symm]
      exact Evt.bindo (Clone_eq ps (by omega)) (hR h.symm)
    · rw [if_neg c] at h
      subst h
      exact Evt.of_eq (if_neg (by omega)).symm
  · intro n hn ih s b1 b2 h
    obtain ⟨d, hd⟩ : ∃ d, l.length - n = d + 1 := ⟨l.length - n - 1, by omega⟩
    rw [show l.length - (n + 1) = d by omega] at ih
    rw [hd] at h
    simp only [chk] at h
    refine Evt.succ ?_
    simp only [ledger_Settle.l0]
    refine Evt.ite_pos (by omega) (Evt.ite_pos (by omega) (Evt.ite_pos (by omega) ?_))
    rw [rdN, show ((n : Int)).toNat = n by omega, rdp]
    refine Evt.bind (named_ev _) (Evt.ite (fun c1 => Evt.ite_pos (by omega) (Evt.bind (Contains_ev l hl n hn) (Evt.ite (fun c2 => ?_) (fun c2 => Evt.ite_pos (by omega) ?_)))) (fun c1 => ?_))
    · rw [if_pos c1, if_pos c2] at h
      subst h
      exact Evt.of_eq (if_neg (by omega)).symm
    · rw [if_pos c1, if_neg c2] at h
      refine Evt.ite (fun c3 => ?_) (fun c3 => Evt.ite (fun c4 => ?_) (fun c4 => ?_))
      · rw [if_neg (by unfold inR; omega)] at h
        subst h
        exact Evt.of_eq (if_neg (by omega)).symm
      · rw [if_neg (by unfold inR; omega)] at h
        subst h
        exact Evt.of_eq (if_neg (by omega)).symm
      · rw [if_pos (by unfold inR; omega)] at h
        rw [wrap64_of (x := s + pn ps n) (by omega) (by omega), wrap64_nat (by omega)]
        exact ih (s + pn ps n) (by omega) (by omega) h
    · rw [if_neg c1] at h
      subst h
      exact Evt.of_eq (if_neg (by omega)).symm
theorem ok_of {l : List ByteArray} {ps : List Int} (h : errR l ps = 0) : l.length ≤ 64 ∧ l.length = ps.length ∧ (∀ j, j < l.length → inR (pn ps j)) ∧ sm (pn ps) l.length = 0 := by
  unfold errR at h
  by_cases h1 : l.length > 64
  · rw [if_pos h1] at h
    omega
  · rw [if_neg h1] at h
    by_cases h2 : l.length = ps.length
    · rw [if_pos h2] at h
      obtain ⟨a, b⟩ := chk_ok l ps l.length 0 h
      rw [Nat.zero_add] at b
      exact ⟨by omega, h2, fun j hj => a j (by omega) (by omega), b⟩
    · rw [if_neg h2] at h
      omega
theorem Settle_ev (l : List ByteArray) (ps : List Int) : Evt (fun q => ledger_Settle.f q l ps) (settleR l ps) := by
  simp only [ledger_Settle.f]
  by_cases h1 : l.length > 64
  · have e : errR l ps = 2 := by unfold errR; exact if_pos h1
    refine Evt.ite_pos (by omega) (Evt.of_eq ?_)
    unfold settleR
    rw [e]
    rfl
  · refine Evt.ite_neg (by omega) ?_
    by_cases h2 : l.length = ps.length
    · have e : errR l ps = chk l ps l.length 0 0 := by unfold errR; rw [if_neg h1, if_pos h2]
      refine Evt.ite_pos (by omega) ?_
      have := S_l0 l (by omega) ps h2 (chk l ps l.length 0 0) (run l 64 (pn ps), 0) (fun h => ?_) 0 (by omega) 0 (by omega) (by omega) rfl
      · unfold settleR
        rw [e]
        exact this
      · obtain ⟨a, b, c, d⟩ := ok_of (e.trans h)
        have e2 : ps = tab (pn ps) l.length := by rw [h2]; exact (tab_pn ps).symm
        have hz := nz_le (pn ps) l.length
        have := S_l1 l a 64 (pn ps) [] 0 0 c (by omega) (by simp) (by omega) (by omega) (fun j hj => by omega) (fun j hj => by omega)
        rw [← e2, List.nil_append] at this
        exact this
    · have e : errR l ps = 3 := by unfold errR; rw [if_neg h1, if_neg h2]
      refine Evt.ite_neg (by omega) (Evt.of_eq ?_)
      unfold settleR
      rw [e]
      rfl
/-! the law -/
theorem L_l5 (l : List ByteArray) (hl : l.length ≤ 64) (E : List En) (f : Nat → Int) (hf : ∀ j, j < l.length → f j = 0) (hlen : E.length = 0 ∨ E.length < l.length) : ∀ n, n ≤ l.length → Evt (fun q => gridhalllaw3_LedgerSettles.l5 q l E 0 (tab f l.length) (l.length : Int) (n : Int)) true := by
  refine down ?_ ?_
  · refine Evt.succ ?_
    simp only [gridhalllaw3_LedgerSettles.l5]
    refine Evt.ite_neg (by omega) (Evt.ite_pos trivial (Evt.ite (fun _ => Evt.pure _) (fun c => Evt.of_eq (decide_eq_true (by omega)))))
  · intro n hn ih
    refine Evt.succ ?_
    simp only [gridhalllaw3_LedgerSettles.l5, tab_len]
    rw [tab_get f hn, wrap64_nat (by omega)]
    exact Evt.ite_pos (by omega) (Evt.ite_pos (by omega) (Evt.ite_pos (by omega) (Evt.ite_pos (hf n hn) ih)))
section
variable (l : List ByteArray) (hl : l.length ≤ 64) (E : List En) (f : Nat → Int) (hf : ∀ j, j < l.length → inR (f j)) (c : Nat) (a b : ByteArray) (x : Int)
include hl
theorem L_l3 (k0 : Int) (R : Bool) : ∀ n, n ≤ l.length → Evt (fun q => gridhalllaw3_LedgerSettles.j9 q l E 0 (tab f l.length) ((fst f neg (l.length - n) n : Nat) : Int) k0 E (E.length : Int) (c : Int) a b x) R → Evt (fun q => gridhalllaw3_LedgerSettles.l3 q l E 0 (tab f l.length) (n : Int) k0 E (E.length : Int) (c : Int) a b x) R := by
  refine down ?_ ?_
  · intro h
    rw [Nat.sub_self] at h
    refine Evt.succ ?_
    simp only [gridhalllaw3_LedgerSettles.l3, tab_len]
    exact Evt.ite_neg (by omega) h
  · intro n hn ih h
    obtain ⟨d, hd⟩ : ∃ d, l.length - n = d + 1 := ⟨l.length - n - 1, by omega⟩
    rw [show l.length - (n + 1) = d by omega] at ih
    rw [hd] at h
    simp only [fst] at h
    refine Evt.succ ?_
    simp only [gridhalllaw3_LedgerSettles.l3, tab_len]
    refine Evt.ite_pos (by omega) (Evt.ite_pos (by omega) ?_)
    rw [tab_get f hn, wrap64_nat (by omega)]
    refine Evt.ite (fun c => ih ?_) (fun c => ?_)
    · rw [if_neg (by unfold neg; simp; omega)] at h
      exact h
    · rw [if_pos (by unfold neg; simp; omega)] at h
      exact h
include hf
theorem L_l4 (hE : E.length ≤ 64) (hc : c < E.length) (I K : Nat) (hI : I < l.length) (hK : K < l.length) (R : Bool) (ha : a = at_ l I) (hb : b = at_ l K) (hx : x = mn (-(f I)) (f K))
    (hgo : Evt (fun q => gridhalllaw3_LedgerSettles.l2 q l E 0 (((tab f l.length).set (I : Int).toNat (f I + mn (-(f I)) (f K))).set (K : Int).toNat (f K - mn (-(f I)) (f K))) E (E.length : Int) ((c + 1 : Nat) : Int)) R) :
    ∀ n, n ≤ l.length → fst f pos (l.length - n) n = K → Evt (fun q => gridhalllaw3_LedgerSettles.l4 q l E 0 (tab f l.length) (I : Int) (n : Int) E (E.length : Int) (c : Int) a b x) R := by
  refine down ?_ ?_
  · intro h
    rw [Nat.sub_self] at h
    simp only [fst] at h
    omega
  · intro n hn ih h
    obtain ⟨d, hd⟩ : ∃ d, l.length - n = d + 1 := ⟨l.length - n - 1, by omega⟩
    rw [show l.length - (n + 1) = d by omega] at ih
    rw [hd] at h
    simp only [fst] at h
    refine Evt.succ ?_
    simp only [gridhalllaw3_LedgerSettles.l4, tab_len]
    refine Evt.ite_pos (by omega) (Evt.ite_pos (by omega) ?_)
    rw [tab_get f hn, wrap64_nat (n := n) (by omega), wrap64_nat (n := c) (by omega)]
    refine Evt.ite (fun c => ih ?_) (fun c => ?_)
    · rw [if_neg (by unfold pos; simp; omega)] at h
      exact h
    · rw [if_pos (by unfold pos; simp; omega)] at h
      subst h
      refine Evt.ite_neg (by omega) (Evt.ite_neg (by omega) (Evt.ite_pos (by omega) (Evt.ite_pos (by omega) (Evt.ite_pos (by omega) (Evt.ite_pos (by omega) ?_)))))
      have u := hf I hI
      have v := hf n hn
      unfold inR at u v
      rw [tab_get f hI, rdN, rdN, wrap64_of (x := -(f I)) (by omega) (by omega), ha, hb, hx]
      have m : -1000000000000 ≤ mn (-(f I)) (f n) ∧ mn (-(f I)) (f n) ≤ 1000000000000 := by
        unfold mn
        split <;> omega
      rw [wrap64_of (x := f I + mn (-(f I)) (f n)) (by omega) (by omega), wrap64_of (x := f n - mn (-(f I)) (f n)) (by omega) (by omega)]
      exact Evt.ite_neg (by simp) hgo
end
theorem L_l2 (l : List ByteArray) (hl : l.length ≤ 64) (E : List En) (hE : E.length ≤ 64) (hlen : E.length = 0 ∨ E.length < l.length) : ∀ (m : Nat) (f : Nat → Int) (c : Nat), c ≤ E.length → E.drop c = run l m f → (∀ j, j < l.length → inR (f j)) → sm f l.length = 0 → nz f l.length ≤ m →
    Evt (fun q => gridhalllaw3_LedgerSettles.l2 q l E 0 (tab f l.length) E (E.length : Int) (c : Int)) true := by
  intro m
  have stop : ∀ (m : Nat) (f : Nat → Int) (c : Nat), c ≤ E.length → E.drop c = run l m f → sm f l.length = 0 → (fI f l.length = l.length ∨ fK f l.length = l.length) → Evt (fun q => gridhalllaw3_LedgerSettles.l2 q l E 0 (tab f l.length) E (E.length : Int) (c : Int)) true := by
    intro m f c hc hd hs h
    rw [run_nil l f h] at hd
    have hc2 : E.length ≤ c := List.drop_eq_nil_iff.1 hd
    refine Evt.succ ?_
    simp only [gridhalllaw3_LedgerSettles.l2, tab_len]
    exact Evt.ite_neg (by omega) (L_l5 l hl E f (all_zero hs h) hlen 0 (by omega))
  induction m with
  | zero =>
    intro f c hc hd hf hs hz
    refine stop 0 f c hc hd hs ?_
    apply Decidable.byContradiction
    intro c
    have a := fI_le f l.length
    have b := fK_le f l.length
    have := nx_lt (f := f) (N := l.length) (by omega) (by omega)
    have := nz_nn (nx f l.length) l.length
    omega
  | succ m ih =>
    intro f c hc hd hf hs hz
    by_cases h : fI f l.length = l.length ∨ fK f l.length = l.length
    · exact stop (m + 1) f c hc hd hs h
    · have a := fI_le f l.length
      have b := fK_le f l.length
      have hI : fI f l.length < l.length := by omega
      have hK : fK f l.length < l.length := by omega
      simp only [run] at hd
      rw [if_neg h] at hd
      have hc2 : c < E.length := by
        apply Decidable.byContradiction
        intro hh
        rw [List.drop_eq_nil_iff.2 (by omega)] at hd
        cases hd
      rw [getD_drop (z := zEn) hc2] at hd
      injection hd with he hd
      have h3 := nx_lt hI hK
      have hn := ih (nx f l.length) (c + 1) (by omega) hd (nx_in hI hK hf) (by rw [nx_sum hI hK]; exact hs) (by omega)
      rw [← nx_tab] at hn
      have he2 : rd_T67 E (c : Int) = ⟨at_ l (fI f l.length), at_ l (fK f l.length), mv f l.length⟩ := Eq.trans rfl he
      refine Evt.succ ?_
      simp only [gridhalllaw3_LedgerSettles.l2]
      refine Evt.ite_pos (by omega) (Evt.ite_pos (by omega) (Evt.ite_pos (by omega) ?_))
      rw [he2]
      refine L_l3 l hl E f c _ _ _ 0 true 0 (by omega) (Evt.succ ?_)
      simp only [gridhalllaw3_LedgerSettles.j9]
      exact L_l4 l hl E f hf c _ _ _ hE hc2 (fI f l.length) (fK f l.length) hI hK true rfl rfl rfl hn 0 (by omega) rfl
section
variable (l : List ByteArray) (ps : List Int) (E : List En) (e : Int)
theorem L_stop (w : Int) (hw : w ≠ 0) (s n : Int) (h : Evt (fun q => gridhalllaw3_LedgerSettles.j6 q l ps E e w) true) : Evt (fun q => gridhalllaw3_LedgerSettles.l0 q l ps E e w s n) true := by
  have h3 : ∀ b : Bool, b = false → Evt (fun q => gridhalllaw3_LedgerSettles.j3 q l ps E e w s n b) true := by
    intro b hb
    subst hb
    refine Evt.succ ?_
    simp only [gridhalllaw3_LedgerSettles.j3]
    refine Evt.ite_neg (by simp) (Evt.ite_neg hw (Evt.succ ?_))
    simp only [gridhalllaw3_LedgerSettles.j5]
    exact Evt.ite_neg (by simp) h
  refine Evt.succ ?_
  simp only [gridhalllaw3_LedgerSettles.l0]
  exact Evt.ite (fun _ => h3 _ (by simpa using hw)) (fun _ => h3 _ rfl)
variable (hl : l.length ≤ 64) (hp : l.length = ps.length)
include hl hp
theorem L_l0 (Z : Int) (hfin : Evt (fun q => gridhalllaw3_LedgerSettles.j6 q l ps E e Z) true) : ∀ n, n ≤ l.length → ∀ s : Int, -1000000000000 * (n : Int) ≤ s → s ≤ 1000000000000 * (n : Int) → chk l ps (l.length - n) n s = Z → Evt (fun q => gridhalllaw3_LedgerSettles.l0 q l ps E e 0 s (n : Int)) true := by
  refine down ?_ ?_
  · intro s b1 b2 h
    rw [Nat.sub_self] at h
    simp only [chk] at h
    refine Evt.succ ?_
    simp only [gridhalllaw3_LedgerSettles.l0]
    refine Evt.ite_neg (by omega) (Evt.succ ?_)
    simp only [gridhalllaw3_LedgerSettles.j3]
    refine Evt.ite_neg (by simp) (Evt.ite_pos trivial (Evt.succ ?_))
    simp only [gridhalllaw3_LedgerSettles.j5]
    by_cases c : s = 0
    · rw [if_pos c] at h
      subst h
      exact Evt.ite_neg (by simp [c]) hfin
    · rw [if_neg c] at h
      subst h
      exact Evt.ite_pos (by simp [c]) hfin
  · intro n hn ih s b1 b2 h
    obtain ⟨d, hd⟩ : ∃ d, l.length - n = d + 1 := ⟨l.length - n - 1, by omega⟩
    rw [show l.length - (n + 1) = d by omega] at ih
    rw [hd] at h
    simp only [chk] at h
    have ht := take_len l (i := n) (by omega)
    have loop : ∀ m, m ≤ n → Evt (fun q => gridhalllaw3_LedgerSettles.l1 q l ps E e 0 s (n : Int) (ag l n m) (l.take n) (n : Int) (m : Int)) true := by
      refine down ?_ ?_
      · refine Evt.succ ?_
        simp only [gridhalllaw3_LedgerSettles.l1]
        refine Evt.ite_neg (by omega) (Evt.ite_pos (by omega) (Evt.ite_pos (by omega) ?_))
        rw [rdN, rdp, wrap64_nat (n := n) (by omega)]
        refine Evt.bind (ref_Named_ev _) (Evt.ite (fun c1 => Evt.ite (fun c2 => ?_) (fun c2 => Evt.ite_pos (by omega) ?_)) (fun c1 => ?_))
        · rw [if_pos c1, if_pos c2] at h
          subst h
          exact L_stop l ps E e 7 (by omega) _ _ hfin
        · rw [if_pos c1, if_neg c2] at h
          simp only [in_eq, Option.bind_some]
          by_cases c3 : inR (pn ps n)
          · rw [if_pos c3] at h
            have c4 : -1000000000000 ≤ pn ps n ∧ pn ps n ≤ 1000000000000 := c3
            refine Evt.ite_pos (decide_eq_true c3) ?_
            rw [wrap64_of (x := s + pn ps n) (by omega) (by omega)]
            exact ih (s + pn ps n) (by omega) (by omega) h
          · rw [if_neg c3] at h
            subst h
            exact Evt.ite_neg (fun hh => c3 (of_decide_eq_true hh)) (L_stop l ps E e 4 (by omega) _ _ hfin)
        · rw [if_neg c1] at h
          subst h
          exact L_stop l ps E e 6 (by omega) _ _ hfin
      · intro m hm ihm
        refine Evt.succ ?_
        simp only [gridhalllaw3_LedgerSettles.l1]
        refine Evt.ite_pos (by omega) (Evt.ite_pos (by omega) (Evt.ite_pos (by omega) ?_))
        rw [rdN, rdN, at_take l hm, wrap64_nat (n := m) (by omega)]
        simp only [ag] at ihm
        refine Evt.ite (fun c => ?_) (fun c => Evt.ite_pos (by omega) (Evt.ite_pos (by omega) ?_))
        · rw [if_pos c] at ihm
          exact ihm
        · rw [if_neg c] at ihm
          exact ihm
    refine Evt.succ ?_
    simp only [gridhalllaw3_LedgerSettles.l0]
    refine Evt.ite_pos (by omega) (Evt.succ ?_)
    simp only [gridhalllaw3_LedgerSettles.j3]
    refine Evt.ite_pos (by simp) (Evt.ite_pos (by omega) (Evt.ite_pos (by omega) ?_))
    rw [show ((n : Int)).toNat = n by omega, ht]
    exact loop 0 (by omega)
end
theorem j0_ev (l : List ByteArray) (ps : List Int) (b : Bool) (hb : b = false) : Evt (fun q => gridhalllaw3_LedgerSettles.j0 q l ps b) true := by
  subst hb
  refine Evt.succ ?_
  simp only [gridhalllaw3_LedgerSettles.j0]
  refine Evt.ite_neg (by simp) (Evt.bind (Settle_ev l ps) ?_)
  have bad : ∀ w : Int, w ≠ 0 → errR l ps = w → Evt (fun q => gridhalllaw3_LedgerSettles.j6 q l ps (settleR l ps).1 (settleR l ps).2 w) true := by
    intro w hw he
    have e : settleR l ps = ([], w) := by
      unfold settleR
      rw [he]
      exact if_neg hw
    rw [e]
    refine Evt.succ ?_
    simp only [gridhalllaw3_LedgerSettles.j6]
    exact Evt.ite_neg hw (Evt.ite_pos trivial (Evt.of_eq rfl))
  by_cases h1 : l.length > 64
  · refine Evt.ite_pos (by omega) (Evt.succ ?_)
    simp only [gridhalllaw3_LedgerSettles.j1]
    exact L_stop l ps _ _ 2 (by omega) _ _ (bad 2 (by omega) (by unfold errR; exact if_pos h1))
  · refine Evt.ite_neg (by omega) ?_
    by_cases h2 : l.length = ps.length
    · refine Evt.ite_pos (by omega) (Evt.succ ?_)
      simp only [gridhalllaw3_LedgerSettles.j1]
      have e : errR l ps = chk l ps l.length 0 0 := by unfold errR; rw [if_neg h1, if_pos h2]
      refine L_l0 l ps _ _ (by omega) h2 (errR l ps) ?_ 0 (by omega) 0 (by omega) (by omega) e.symm
      by_cases h3 : errR l ps = 0
      · obtain ⟨a, b, c, d⟩ := ok_of h3
        have e1 : settleR l ps = (run l 64 (pn ps), 0) := by unfold settleR; exact if_pos h3
        rw [e1, h3]
        refine Evt.succ ?_
        simp only [gridhalllaw3_LedgerSettles.j6, Option.bind_some, List.nil_append, List.length_nil]
        refine Evt.ite_pos trivial (Evt.ite_pos (by omega) ?_)
        have e2 : ps = tab (pn ps) l.length := by rw [b]; exact (tab_pn ps).symm
        have hz := nz_le (pn ps) l.length
        have hlen := run_len l 64 (pn ps) d
        have := L_l2 l a (run l 64 (pn ps)) (run_short l 64 (pn ps)) (by omega) 64 (pn ps) 0 (by omega) rfl c d (by omega)
        rw [← e2] at this
        exact this
      · exact bad _ h3 rfl
    · refine Evt.ite_neg (by omega) (Evt.succ ?_)
      simp only [gridhalllaw3_LedgerSettles.j1]
      exact L_stop l ps _ _ 3 (by omega) _ _ (bad 3 (by omega) (by unfold errR; rw [if_neg h1, if_neg h2]))
theorem pure : Go.Proofs.Ytpmaiofgnbgboaa.RLedgerSettles.Pure := by
  intro l ps _ _
  refine Evt.ex ?_
  simp only [gridhalllaw3_LedgerSettles.f]
  refine Evt.bind (Settle_ev _ _) ?_
  have e1 : (settleR [(⟨#[65]⟩ : ByteArray), ⟨#[66]⟩, ⟨#[67]⟩] [-5, 3, 2]).2 = 0 := by decide +kernel
  have e2 : (settleR [(⟨#[65]⟩ : ByteArray), ⟨#[66]⟩, ⟨#[67]⟩] [-5, 3, 2]).1.length = 2 := by decide +kernel
  exact Evt.ite_pos e1 (j0_ev l ps _ (by rw [e2]; rfl))
theorem LedgerSettles_holds : Rows.LedgerSettlesSaid := Go.Proofs.Ytpmaiofgnbgboaa.RLedgerSettles.said pure
#print axioms LedgerSettles_holds
end Go.Proofs.Ytpmaiofgnbgboaa.FLedgerSettles
