import Derived.Test.YtefkdkppipdceaaBAlarmSays
import Derived.Test.YtefkdkppipdceaaHAlarmSaysy4
import Derived.Test.YtefkdkppipdceaaHAlarmSaysy10
namespace Go.Proofs.Ytefkdkppipdceaa.CAlarmSays
open Go.RowKit Go.Proofs.YtefkdkppipdceaaW.PrintWords Go.Proofs.YtefkdkppipdceaaW.PrintMore Go.Proofs.Ytefkdkppipdceaa.Evs Go.Proofs.Ytefkdkppipdceaa.PAlarmSays Go.Proofs.Ytefkdkppipdceaa.BAlarmSays
set_option linter.unusedVariables false
set_option linter.unusedSectionVars false
set_option linter.unusedSimpArgs false
def edge (c : List Ca) (l : List ByteArray) (i k : Nat) : Prop := ∃ t, t < c.length ∧ (ca c t).f0.toList = (nm l i).toList ∧ pos l (ca c t).f1 l.length 0 = (k : Int)
theorem pos_lt {l : List ByteArray} {s : ByteArray} {k : Nat} (h : pos l s l.length 0 = (k : Int)) : k < l.length ∧ s.toList = (nm l k).toList := by
  rcases pos_spec l s l.length 0 with ⟨h1, _⟩|⟨m, _, h2, h3, h4⟩
  · omega
  · obtain rfl : m = k:=by omega
    exact ⟨by omega, h4⟩
theorem pos_nm {l : List ByteArray} (hd : Dist l) {s : ByteArray} {k : Nat} (hk : k < l.length) (h : s.toList = (nm l k).toList) : pos l s l.length 0 = (k : Int) := by
  rcases pos_spec l s l.length 0 with ⟨_, h2⟩|⟨m, _, h2, h3, h4⟩
  · exact absurd h (h2 k (Nat.zero_le _) (by omega))
  · obtain rfl : m = k:=hd m k (by omega) hk (h4.symm.trans h)
    exact h3
theorem edge_lt {c : List Ca} {l : List ByteArray} {i k : Nat} (h : edge c l i k) : k < l.length := by
  obtain ⟨t, _, _, h3⟩:=h
  exact (pos_lt h3).1
def Ex (c : List Ca) (l : List ByteArray) (i k : Nat) : Prop := ∃ j, Path (edge c l) j i k
theorem ex_bound {c : List Ca} {l : List ByteArray} {i k : Nat} : Ex c l i k ↔ ∃ j, j ≤ l.length ∧ Path (edge c l) j i k := by
  constructor
  · rintro ⟨j, h⟩
    obtain ⟨j', h1, h2⟩:=path_bound (ls:=List.range l.length) (fun a b e => List.mem_range.2 (edge_lt e)) h
    exact ⟨j', by simpa using h1, h2⟩
  · rintro ⟨j, _, h⟩
    exact ⟨j, h⟩
theorem explained_ev {c : List Ca} {l : List ByteArray} (hc : c.length ≤ 1000) (hl : l.length ≤ 1000) (hd : Dist l) {b : ByteArray} {kb : Nat} (hkb : kb < l.length) (hb : b.toList = (nm l kb).toList) :
    ∀ (d : Nat), d ≤ 1000 → ∀ (a : ByteArray) (i : Nat), i < l.length → a.toList = (nm l i).toList → ∃ v, Evt (fun k => gridhallref4_Explained.f k c l a b (d : Int)) v ∧ (v = true ↔ ∃ j, j ≤ d ∧ Path (edge c l) j i kb):=by
  intro d
  induction d with
 |zero =>
    intro _ a i hi ha
    by_cases e : a.toList = b.toList
    · have ik : i = kb:=hd i kb hi hkb (ha.symm.trans (e.trans hb))
      refine ⟨true, Evt.succ ?_, fun _ => ⟨0, Nat.le_refl _, ik⟩, fun _ => rfl⟩
      simp only [gridhallref4_Explained.f]
      exact Evt.ite_pos e (Evt.pure _)
    · refine ⟨false, Evt.succ ?_, fun h => (by cases h), ?_⟩
      · simp only [gridhallref4_Explained.f]
        exact Evt.ite_neg e (Evt.ite_pos (by omega) (Evt.pure _))
      · rintro ⟨j, hj, h⟩
        obtain rfl : j = 0:=by omega
        have ik : i = kb:=h
        subst ik
        exact absurd (ha.trans hb.symm) e
 |succ d ih =>
    intro hd1 a i hi ha
    by_cases e : a.toList = b.toList
    · have ik : i = kb:=hd i kb hi hkb (ha.symm.trans (e.trans hb))
      refine ⟨true, Evt.succ ?_, fun _ => ⟨0, by omega, ik⟩, fun _ => rfl⟩
      simp only [gridhallref4_Explained.f]
      exact Evt.ite_pos e (Evt.pure _)
    · have loop : ∀ n, n ≤ c.length → ∃ v, Evt (fun k => gridhallref4_Explained.l0 k c l a b ((d + 1 : Nat) : Int) c (c.length : Int) (n : Int)) v ∧ (v = true ↔ ∃ t, n ≤ t ∧ t < c.length ∧ (ca c t).f0.toList = a.toList ∧ ∃ k : Nat, pos l (ca c t).f1 l.length 0 = (k : Int) ∧ ∃ j, j ≤ d ∧ Path (edge c l) j k kb):=by
        refine down ?_ ?_
        · refine ⟨false, Evt.succ ?_, fun h => (by cases h), ?_⟩
          · simp only [gridhallref4_Explained.l0]
            exact Evt.ite_neg (by omega) (Evt.pure _)
          · rintro ⟨t, h1, h2, _⟩
            omega
        · intro n hn ⟨v, H, hv⟩
          have skip : ¬ ((ca c n).f0.toList = a.toList ∧ ∃ k : Nat, pos l (ca c n).f1 l.length 0 = (k : Int) ∧ ∃ j, j ≤ d ∧ Path (edge c l) j k kb) → (v = true ↔ ∃ t, n ≤ t ∧ t < c.length ∧ (ca c t).f0.toList = a.toList ∧ ∃ k : Nat, pos l (ca c t).f1 l.length 0 = (k : Int) ∧ ∃ j, j ≤ d ∧ Path (edge c l) j k kb):=by
            intro hno
            rw [hv]
            constructor
            · rintro ⟨t, h1, h2⟩
              exact ⟨t, by omega, h2⟩
            · rintro ⟨t, h1, h2, h3⟩
              by_cases g : t = n
              · subst g
                exact absurd h3 hno
              · exact ⟨t, by omega, h2, h3⟩
          have top : ∀ r, Evt (fun k => if (ca c n).f0.toList = a.toList then ((gridhallref4_Index.f k l (ca c n).f1).bind fun t233 => (if t233 ≥ 0 then ((gridhallref4_Explained.f k c l (ca c n).f1 b (d : Int)).bind fun t234 => (if t234 = true then (some true) else (gridhallref4_Explained.l0 k c l a b ((d + 1 : Nat) : Int) c (c.length : Int) ((n + 1 : Nat) : Int)))) else (gridhallref4_Explained.l0 k c l a b ((d + 1 : Nat) : Int) c (c.length : Int) ((n + 1 : Nat) : Int)))) else (gridhallref4_Explained.l0 k c l a b ((d + 1 : Nat) : Int) c (c.length : Int) ((n + 1 : Nat) : Int))) r → Evt (fun k => gridhallref4_Explained.l0 k c l a b ((d + 1 : Nat) : Int) c (c.length : Int) (n : Int)) r:=by
            intro r hr
            refine Evt.succ ?_
            simp only [gridhallref4_Explained.l0, rca]
            rw [wrap64_nat (by omega), show wrap64 (((d + 1 : Nat) : Int) - 1) = (d : Int) from (by rw [wrap64_of (by omega) (by omega)]; omega)]
            exact Evt.ite_pos (by omega) (Evt.ite_pos (by omega) (Evt.ite_pos (by omega) hr))
          by_cases h1 : (ca c n).f0.toList = a.toList
          · rcases pos_spec l (ca c n).f1 l.length 0 with ⟨p1, p2⟩|⟨k, _, p2, p3, p4⟩
            · refine ⟨v, top v (Evt.ite_pos h1 (Evt.bind (rix_ev l hl _) (Evt.ite_neg (by omega) H))), skip ?_⟩
              rintro ⟨_, k, h2, _⟩
              omega
            · obtain ⟨w, W, hw⟩:=ih (by omega) (ca c n).f1 k (by omega) p4
              by_cases g : w = true
              · refine ⟨true, top true (Evt.ite_pos h1 (Evt.bind (rix_ev l hl _) (Evt.ite_pos (by omega) (Evt.bind W (Evt.ite_pos g (Evt.pure _)))))), fun _ => ⟨n, Nat.le_refl _, hn, h1, k, p3, hw.1 g⟩, fun _ => rfl⟩
              · refine ⟨v, top v (Evt.ite_pos h1 (Evt.bind (rix_ev l hl _) (Evt.ite_pos (by omega) (Evt.bind W (Evt.ite_neg g H))))), skip ?_⟩
                rintro ⟨_, k', h2, h3⟩
                obtain rfl : k' = k:=by omega
                exact g (hw.2 h3)
          · refine ⟨v, top v (Evt.ite_neg h1 H), skip (fun h => h1 h.1)⟩
      obtain ⟨v, H, hv⟩:=loop 0 (Nat.zero_le _)
      refine ⟨v, Evt.succ ?_, ?_⟩
      · simp only [gridhallref4_Explained.f]
        exact Evt.ite_neg e (Evt.ite_neg (by omega) H)
      · rw [hv]
        constructor
        · rintro ⟨t, _, h2, h3, k, h4, j, h5, h6⟩
          exact ⟨j + 1, by omega, k, ⟨t, h2, h3.trans ha, h4⟩, h6⟩
        · rintro ⟨j, hj, h⟩
          cases j with
         |zero =>
            have ik : i = kb:=h
            subst ik
            exact absurd (ha.trans hb.symm) e
         |succ j =>
            obtain ⟨k, ⟨t, h2, h3, h4⟩, h6⟩:=h
            exact ⟨t, Nat.zero_le _, h2, h3.trans ha.symm, k, h4, j, by omega, h6⟩
theorem ex_ev {c : List Ca} {l : List ByteArray} (hc : c.length ≤ 1000) (hl : l.length ≤ 1000) (hd : Dist l) {a b : ByteArray} {i k : Nat} (hi : i < l.length) (ha : a.toList = (nm l i).toList) (hk : k < l.length) (hb : b.toList = (nm l k).toList) :
    ∃ v, Evt (fun x => gridhallref4_Explained.f x c l a b (l.length : Int)) v ∧ (v = true ↔ Ex c l i k):=by
  obtain ⟨v, h1, h2⟩:=explained_ev hc hl hd hk hb l.length hl a i hi ha
  exact ⟨v, h1, h2.trans ex_bound.symm⟩
def Cz (c : List Ca) (l : List ByteArray) (i : Nat) : Prop := ∀ k, k < l.length → Ex c l i k → Ex c l k i ∧ ¬ tl (nm l k) (nm l i) = true
theorem cause_ev {c : List Ca} {l : List ByteArray} (hc : c.length ≤ 1000) (hl : l.length ≤ 1000) (hd : Dist l) {a : ByteArray} {i : Nat} (hi : i < l.length) (ha : a.toList = (nm l i).toList) : ∃ v, Evt (fun k => gridhallref4_Cause.f k c l a) v ∧ (v = true ↔ Cz c l i) := by
  have loop : ∀ n, n ≤ l.length → ∃ v, Evt (fun k => gridhallref4_Cause.l0 k c l a l (l.length : Int) (n : Int)) v ∧ (v = true ↔ ∀ k, n ≤ k → k < l.length → Ex c l i k → Ex c l k i ∧ ¬ tl (nm l k) (nm l i) = true):=by
    refine down ?_ ?_
    · refine ⟨true, Evt.succ ?_, fun _ k h1 h2 => by omega, fun _ => rfl⟩
      simp only [gridhallref4_Cause.l0]
      exact Evt.ite_neg (by omega) (Evt.pure _)
    · intro n hn ⟨v, H, hv⟩
      obtain ⟨w, W, hw⟩:=ex_ev hc hl hd hi ha hn (b:=nm l n) rfl
      obtain ⟨u, U, hu⟩:=ex_ev hc hl hd hn (a:=nm l n) rfl hi ha
      have top : ∀ r, Evt (fun k => if w = true then ((gridhallref4_Explained.f k c l (nm l n) a (l.length : Int)).bind fun t237 => (if t237 = true then (if (Op.bytesLess (nm l n).toList a.toList) = true then (some false) else (gridhallref4_Cause.l0 k c l a l (l.length : Int) ((n + 1 : Nat) : Int))) else (some false))) else (gridhallref4_Cause.l0 k c l a l (l.length : Int) ((n + 1 : Nat) : Int))) r → Evt (fun k => gridhallref4_Cause.l0 k c l a l (l.length : Int) (n : Int)) r:=by
        intro r hr
        refine Evt.succ ?_
        simp only [gridhallref4_Cause.l0, rnm]
        rw [wrap64_nat (by omega)]
        exact Evt.ite_pos (by omega) (Evt.ite_pos (by omega) (Evt.ite_pos (by omega) (Evt.bind W hr)))
      have no : (Ex c l i n ∧ ¬ (Ex c l n i ∧ ¬ tl (nm l n) (nm l i) = true)) → (false = true ↔ ∀ k, n ≤ k → k < l.length → Ex c l i k → Ex c l k i ∧ ¬ tl (nm l k) (nm l i) = true):=fun h => ⟨fun g => (by cases g), fun g => absurd (g n (Nat.le_refl _) hn h.1) h.2⟩
      have yes : (Ex c l i n → Ex c l n i ∧ ¬ tl (nm l n) (nm l i) = true) → (v = true ↔ ∀ k, n ≤ k → k < l.length → Ex c l i k → Ex c l k i ∧ ¬ tl (nm l k) (nm l i) = true):=by
        intro h
        rw [hv]
        constructor
        · intro g k h1 h2
          by_cases e : k = n
          · subst e; exact h
          · exact g k (by omega) h2
        · intro g k h1 h2
          exact g k (by omega) h2
      have et : (Op.bytesLess (nm l n).toList a.toList = true) ↔ tl (nm l n) (nm l i) = true:=by unfold tl; rw [ha]
      by_cases g1 : w = true
      · by_cases g2 : u = true
        · by_cases g3 : Op.bytesLess (nm l n).toList a.toList = true
          · exact ⟨false, top _ (Evt.ite_pos g1 (Evt.bind U (Evt.ite_pos g2 (Evt.ite_pos g3 (Evt.pure _))))), no ⟨hw.1 g1, fun h => h.2 (et.1 g3)⟩⟩
          · exact ⟨v, top _ (Evt.ite_pos g1 (Evt.bind U (Evt.ite_pos g2 (Evt.ite_neg g3 H)))), yes (fun _ => ⟨hu.1 g2, fun h => g3 (et.2 h)⟩)⟩
        · exact ⟨false, top _ (Evt.ite_pos g1 (Evt.bind U (Evt.ite_neg g2 (Evt.pure _)))), no ⟨hw.1 g1, fun h => g2 (hu.2 h.1)⟩⟩
      · exact ⟨v, top _ (Evt.ite_neg g1 H), yes (fun h => absurd (hw.2 h) g1)⟩
  obtain ⟨v, H, hv⟩:=loop 0 (Nat.zero_le _)
  refine ⟨v, ?_, hv.trans ⟨fun g k h => g k (Nat.zero_le _) h, fun g k _ h => g k h⟩⟩
  simp only [gridhallref4_Cause.f]
  exact H
def mg (M : List (List Bool)) (i k : Nat) : Bool := (M.getD i []).getD k false
theorem rmg (M : List (List Bool)) (i k : Nat) : rdOf false (rd_L4 M (i : Int)) (k : Int) = mg M i k := Eq.trans rfl rfl
theorem rrow (M : List (List Bool)) (i : Nat) : rd_L4 M (i : Int) = M.getD i [] := Eq.trans rfl rfl
def mset (M : List (List Bool)) (i k : Nat) (v : Bool) : List (List Bool) := M.set i ((M.getD i []).set k v)
structure Sz (M : List (List Bool)) (n : Nat) : Prop where
  len : M.length = n
  row : ∀ i, i < n → (M.getD i []).length = n
theorem getD_set {α : Type} (l : List α) (i j : Nat) (v z : α) (hi : i < l.length) : (l.set i v).getD j z = if j = i then v else l.getD j z := by
  rw [List.getD_eq_getElem?_getD, List.getD_eq_getElem?_getD, List.getElem?_set]
  by_cases e : j = i
  · subst e
    rw [if_pos rfl, if_pos rfl, if_pos hi]
    rfl
  · rw [if_neg (fun h => e h.symm), if_neg e]
theorem mset_sz {M : List (List Bool)} {n i k : Nat} {v : Bool} (h : Sz M n) (hi : i < n) : Sz (mset M i k v) n := by
  refine ⟨by unfold mset; rw [List.length_set]; exact h.len, fun j hj => ?_⟩
  unfold mset
  rw [getD_set _ _ _ _ _ (by rw [h.len]; exact hi)]
  by_cases e : j = i
  · rw [if_pos e, List.length_set]; exact h.row i hi
  · rw [if_neg e]; exact h.row j hj
theorem mg_mset {M : List (List Bool)} {n i k : Nat} {v : Bool} (h : Sz M n) (hi : i < n) (hk : k < n) (a b : Nat) : mg (mset M i k v) a b = if a = i ∧ b = k then v else mg M a b := by
  unfold mg mset
  rw [getD_set _ _ _ _ _ (by rw [h.len]; exact hi)]
  by_cases e : a = i
  · subst e
    rw [if_pos rfl, getD_set _ _ _ _ _ (by rw [h.row a hi]; exact hk)]
    by_cases e2 : b = k
    · rw [if_pos e2, if_pos ⟨rfl, e2⟩]
    · rw [if_neg e2, if_neg (fun g => e2 g.2)]
  · rw [if_neg e, if_neg (fun g => e g.1)]
def idrow (n i : Nat) : List Bool := (List.replicate n false).set i true
theorem mg_idrow (n i k : Nat) (hi : i < n) : (idrow n i).getD k false = true ↔ i = k := by
  unfold idrow
  rw [getD_set _ _ _ _ _ (by simpa using hi)]
  by_cases e : k = i
  · rw [if_pos e]; exact ⟨fun _ => e.symm, fun _ => rfl⟩
  · rw [if_neg e, List.getD_eq_getElem?_getD, List.getElem?_replicate]
    constructor
    · intro h
      split at h <;> simp at h
    · intro h; exact absurd h.symm e
section
variable {c : List Ca} {l : List ByteArray} (hc : c.length ≤ 1000) (hl : l.length ≤ 1000) (hd : Dist l)
theorem reach_l0 (hl : l.length ≤ 1000) : ∀ n, n ≤ l.length → ∀ M : List (List Bool), M.length = l.length → (∀ i, i < n → M.getD i [] = idrow l.length i) →
    ∃ M0, Sz M0 l.length ∧ (∀ i k, i < l.length → (mg M0 i k = true ↔ i = k)) ∧ ∀ r, Evt (fun x => alarm_reach.l1 x l M0 c (c.length : Int) ((0 : Nat) : Int)) r → Evt (fun x => alarm_reach.l0 x c l M (l.length : Int) (n : Int)) r:=by
  refine down ?_ ?_
  · intro M h1 h2
    refine ⟨M, ⟨h1, fun i hi => by rw [h2 i hi]; simp [idrow]⟩, fun i k hi => ?_, fun r H => Evt.succ ?_⟩
    · unfold mg
      rw [h2 i hi]
      exact mg_idrow _ _ _ hi
    · simp only [alarm_reach.l0]
      exact Evt.ite_neg (by omega) H
  · intro n hn ih M h1 h2
    have g1 : (M.set n (List.replicate l.length false)).getD n [] = List.replicate l.length false:=by
      rw [getD_set _ _ _ _ _ (by omega), if_pos rfl]
    obtain ⟨M0, a1, a2, a3⟩:=ih ((M.set n (List.replicate l.length false)).set n ((List.replicate l.length false).set n true)) (by simp [h1]) (fun i hi => by
      rw [getD_set _ _ _ _ _ (by simp; omega)]
      by_cases e : i = n
      · rw [if_pos e, e]; rfl
      · rw [if_neg e, getD_set _ _ _ _ _ (by omega), if_neg e]
        exact h2 i (by omega))
    refine ⟨M0, a1, a2, fun r H => Evt.succ ?_⟩
    simp only [alarm_reach.l0]
    have e1 : ((l.length : Int)).toNat = l.length:=by omega
    have e2 : ((n : Int)).toNat = n:=by omega
    rw [e1, e2, wrap64_nat (by omega)]
    refine Evt.ite_pos (by omega) (Evt.ite_pos (by omega) (Evt.ite_pos (by omega) (Evt.ite_pos (by omega) (Evt.ite_pos (by omega) (Evt.bindo rfl ?_)))))
    rw [rrow, g1]
    exact Evt.ite_pos (by simp; omega) (a3 r H)
def R1 (c : List Ca) (l : List ByteArray) (n : Nat) (i k : Nat) : Prop := i = k ∨ ∃ t, t < n ∧ pos l (ca c t).f0 l.length 0 = (i : Int) ∧ pos l (ca c t).f1 l.length 0 = (k : Int)
theorem reach_l1 (hl : l.length ≤ 1000) (hc : c.length ≤ 1000) : ∀ n, n ≤ c.length → ∀ M : List (List Bool), Sz M l.length → (∀ i k, i < l.length → (mg M i k = true ↔ R1 c l n i k)) →
    ∃ M0, Sz M0 l.length ∧ (∀ i k, i < l.length → (mg M0 i k = true ↔ R1 c l c.length i k)) ∧ ∀ r, Evt (fun x => alarm_reach.l2 x l M0 (l.length : Int) ((0 : Nat) : Int)) r → Evt (fun x => alarm_reach.l1 x l M c (c.length : Int) (n : Int)) r:=by
  refine down ?_ ?_
  · intro M h1 h2
    refine ⟨M, h1, h2, fun r H => Evt.succ ?_⟩
    simp only [alarm_reach.l1]
    exact Evt.ite_neg (by omega) H
  · intro n hn ih M h1 h2
    have top : ∀ r, Evt (fun x => if pos l (ca c n).f0 l.length 0 ≥ 0 then (if pos l (ca c n).f1 l.length 0 ≥ 0 then (if 0 ≤ pos l (ca c n).f0 l.length 0 then (if pos l (ca c n).f0 l.length 0 < (M.length : Int) then (if 0 ≤ pos l (ca c n).f1 l.length 0 then (if pos l (ca c n).f1 l.length 0 < ((rd_L4 M (pos l (ca c n).f0 l.length 0)).length : Int) then (alarm_reach.l1 x l (M.set (pos l (ca c n).f0 l.length 0).toNat ((rd_L4 M (pos l (ca c n).f0 l.length 0)).set (pos l (ca c n).f1 l.length 0).toNat true)) c (c.length : Int) ((n + 1 : Nat) : Int)) else none) else none) else none) else none) else (alarm_reach.l1 x l M c (c.length : Int) ((n + 1 : Nat) : Int))) else (alarm_reach.l1 x l M c (c.length : Int) ((n + 1 : Nat) : Int))) r → Evt (fun x => alarm_reach.l1 x l M c (c.length : Int) (n : Int)) r:=by
      intro r hr
      refine Evt.succ ?_
      simp only [alarm_reach.l1, rca]
      rw [wrap64_nat (by omega)]
      exact Evt.ite_pos (by omega) (Evt.ite_pos (by omega) (Evt.ite_pos (by omega) (Evt.bind (idx_ev l hl _) (Evt.bind (idx_ev l hl _) hr))))
    have skip : ¬ (∃ i k : Nat, pos l (ca c n).f0 l.length 0 = (i : Int) ∧ pos l (ca c n).f1 l.length 0 = (k : Int)) → ∃ M0, Sz M0 l.length ∧ (∀ i k, i < l.length → (mg M0 i k = true ↔ R1 c l c.length i k)) ∧ ∀ r, Evt (fun x => alarm_reach.l2 x l M0 (l.length : Int) ((0 : Nat) : Int)) r → Evt (fun x => alarm_reach.l1 x l M c (c.length : Int) ((n + 1 : Nat) : Int)) r:=by
      intro hno
      refine ih M h1 (fun i k hi => (h2 i k hi).trans ?_)
      constructor
      · rintro (e|⟨t, g1, g2⟩)
        · exact Or.inl e
        · exact Or.inr ⟨t, by omega, g2⟩
      · rintro (e|⟨t, g1, g2, g3⟩)
        · exact Or.inl e
        · by_cases e : t = n
          · subst e; exact absurd ⟨i, k, g2, g3⟩ hno
          · exact Or.inr ⟨t, by omega, g2, g3⟩
    rcases pos_spec l (ca c n).f0 l.length 0 with ⟨p1, _⟩|⟨i, _, i2, i3, i4⟩
    · obtain ⟨M0, a1, a2, a3⟩:=skip (by rintro ⟨i, k, a, b⟩; omega)
      exact ⟨M0, a1, a2, fun r H => top r (Evt.ite_neg (by omega) (a3 r H))⟩
    · rcases pos_spec l (ca c n).f1 l.length 0 with ⟨p1, _⟩|⟨k, _, k2, k3, k4⟩
      · obtain ⟨M0, a1, a2, a3⟩:=skip (by rintro ⟨i, k, a, b⟩; omega)
        exact ⟨M0, a1, a2, fun r H => top r (Evt.ite_pos (by omega) (Evt.ite_neg (by omega) (a3 r H)))⟩
      · have hM:=h1.len
        have hr:=h1.row i (by omega)
        obtain ⟨M0, a1, a2, a3⟩:=ih (mset M i k true) (mset_sz h1 (by omega)) (fun a b ha => by
          rw [mg_mset h1 (by omega) (by omega)]
          by_cases e : a = i ∧ b = k
          · rw [if_pos e]
            exact ⟨fun _ => Or.inr ⟨n, by omega, by rw [e.1]; exact i3, by rw [e.2]; exact k3⟩, fun _ => rfl⟩
          · rw [if_neg e, h2 a b ha]
            constructor
            · rintro (g|⟨t, g1, g2⟩)
              · exact Or.inl g
              · exact Or.inr ⟨t, by omega, g2⟩
            · rintro (g|⟨t, g1, g2, g3⟩)
              · exact Or.inl g
              · by_cases et : t = n
                · subst et
                  exact absurd ⟨by omega, by omega⟩ e
                · exact Or.inr ⟨t, by omega, g2, g3⟩)
        refine ⟨M0, a1, a2, fun r H => top r ?_⟩
        rw [i3, k3, rrow, hr, show ((i : Int)).toNat = i by omega, show ((k : Int)).toNat = k by omega]
        exact Evt.ite_pos (by omega) (Evt.ite_pos (by omega) (Evt.ite_pos (by omega) (Evt.ite_pos (by omega) (Evt.ite_pos (by omega) (Evt.ite_pos (by omega) (a3 r H))))))
structure Grow (n : Nat) (S : Nat → Nat → Prop) (M M' : List (List Bool)) : Prop where
  sz : Sz M' n
  mono : ∀ a b, mg M a b = true → mg M' a b = true
  sound : ∀ a b, a < n → b < n → mg M' a b = true → S a b
theorem reach_l4 (hl : l.length ≤ 1000) {S : Nat → Nat → Prop} (hS : ∀ a b d, a < l.length → b < l.length → d < l.length → S a b → S b d → S a d) (m i : Nat) (hm : m < l.length) (hi : i < l.length) :
    ∀ n, n ≤ l.length → ∀ M : List (List Bool), Sz M l.length → (∀ a b, a < l.length → b < l.length → mg M a b = true → S a b) →
      ∃ M', Grow l.length S M M' ∧ (∀ k, n ≤ k → k < l.length → mg M i m = true → mg M m k = true → mg M' i k = true) ∧
        ∀ r, Evt (fun x => alarm_reach.l3 x l M' (m : Int) (l.length : Int) (m : Int) (l.length : Int) ((i + 1 : Nat) : Int)) r → Evt (fun x => alarm_reach.l4 x l M (m : Int) (i : Int) (l.length : Int) (m : Int) (l.length : Int) (i : Int) (l.length : Int) (n : Int)) r:=by
  refine down (P:=fun n => ∀ M : List (List Bool), Sz M l.length → (∀ a b, a < l.length → b < l.length → mg M a b = true → S a b) →
      ∃ M', Grow l.length S M M' ∧ (∀ k, n ≤ k → k < l.length → mg M i m = true → mg M m k = true → mg M' i k = true) ∧
        ∀ r, Evt (fun x => alarm_reach.l3 x l M' (m : Int) (l.length : Int) (m : Int) (l.length : Int) ((i + 1 : Nat) : Int)) r → Evt (fun x => alarm_reach.l4 x l M (m : Int) (i : Int) (l.length : Int) (m : Int) (l.length : Int) (i : Int) (l.length : Int) (n : Int)) r) ?_ ?_
  · intro M h1 h2
    refine ⟨M, ⟨h1, fun a b h => h, h2⟩, fun k a b => by omega, fun r hr => Evt.succ ?_⟩
    simp only [alarm_reach.l4]
    rw [wrap64_nat (n:=i) (by omega)]
    exact Evt.ite_neg (by omega) hr
  · intro n hn ih M h1 h2
    have hM:=h1.len
    have hr:=h1.row i hi
    have hr2:=h1.row m hm
    have step : ∀ v : Bool, (v = true → S i n) → (mg M i n = true → v = true) → (mg M i m = true → mg M m n = true → v = true) →
        ∃ M', Grow l.length S M M' ∧ (∀ k, n ≤ k → k < l.length → mg M i m = true → mg M m k = true → mg M' i k = true) ∧
          ∀ r, Evt (fun x => alarm_reach.l3 x l M' (m : Int) (l.length : Int) (m : Int) (l.length : Int) ((i + 1 : Nat) : Int)) r → Evt (fun x => alarm_reach.l4 x l (mset M i n v) (m : Int) (i : Int) (l.length : Int) (m : Int) (l.length : Int) (i : Int) (l.length : Int) ((n + 1 : Nat) : Int)) r:=by
      intro v v1 v2 v3
      have mono : ∀ a b, mg M a b = true → mg (mset M i n v) a b = true:=by
        intro a b h
        rw [mg_mset h1 hi hn]
        by_cases e : a = i ∧ b = n
        · rw [if_pos e]; exact v2 (by rw [← e.1, ← e.2]; exact h)
        · rw [if_neg e]; exact h
      obtain ⟨M', g1, g2, g3⟩:=ih (mset M i n v) (mset_sz h1 hi) (fun a b ha hb h => by
        rw [mg_mset h1 hi hn] at h
        by_cases e : a = i ∧ b = n
        · rw [if_pos e] at h; rw [e.1, e.2]; exact v1 h
        · rw [if_neg e] at h; exact h2 a b ha hb h)
      refine ⟨M', ⟨g1.sz, fun a b h => g1.mono a b (mono a b h), g1.sound⟩, fun k k1 k2 q1 q2 => ?_, g3⟩
      by_cases e : k = n
      · subst e
        refine g1.mono i k ?_
        rw [mg_mset h1 hi hn, if_pos ⟨rfl, rfl⟩]
        exact v3 q1 q2
      · exact g2 k (by omega) k2 (mono _ _ q1) (mono _ _ q2)
    have top : ∀ (v : Bool) r, v = (if mg M i n = true then true else if mg M i m = true then mg M m n else false) → Evt (fun x => alarm_reach.l4 x l (mset M i n v) (m : Int) (i : Int) (l.length : Int) (m : Int) (l.length : Int) (i : Int) (l.length : Int) ((n + 1 : Nat) : Int)) r → Evt (fun x => alarm_reach.l4 x l M (m : Int) (i : Int) (l.length : Int) (m : Int) (l.length : Int) (i : Int) (l.length : Int) (n : Int)) r:=by
      intro v r hv H
      refine Evt.succ ?_
      simp only [alarm_reach.l4, rmg]
      rw [rrow, rrow, hr, hr2, hM, wrap64_nat (n:=n) (by omega), show ((i : Int)).toNat = i by omega, show ((n : Int)).toNat = n by omega]
      refine Evt.ite_pos (by omega) (Evt.ite_pos (by omega) (Evt.ite_pos (by omega) (Evt.ite_pos (by omega) (Evt.ite_pos (by omega) ?_))))
      by_cases q1 : mg M i n = true
      · rw [if_pos q1] at hv
        subst hv
        exact Evt.ite_pos q1 H
      · rw [if_neg q1] at hv
        refine Evt.ite_neg q1 (Evt.ite_pos (by omega) (Evt.ite_pos (by omega) ?_))
        by_cases q2 : mg M i m = true
        · rw [if_pos q2] at hv
          subst hv
          exact Evt.ite_pos q2 (Evt.ite_pos (by omega) (Evt.ite_pos (by omega) H))
        · rw [if_neg q2] at hv
          subst hv
          exact Evt.ite_neg q2 H
    obtain ⟨M', g1, g2, g3⟩:=step (if mg M i n = true then true else if mg M i m = true then mg M m n else false) (fun h => by
      by_cases q1 : mg M i n = true
      · exact h2 i n hi hn q1
      · rw [if_neg q1] at h
        by_cases q2 : mg M i m = true
        · rw [if_pos q2] at h
          exact hS i m n hi hm hn (h2 i m hi hm q2) (h2 m n hm hn h)
        · rw [if_neg q2] at h; cases h) (fun h => if_pos h) (fun a b => by
      by_cases q1 : mg M i n = true
      · exact if_pos q1
      · rw [if_neg q1, if_pos a]; exact b)
    exact ⟨M', g1, g2, fun r hr => top _ r rfl (g3 r hr)⟩
theorem reach_l3 (hl : l.length ≤ 1000) {S : Nat → Nat → Prop} (hS : ∀ a b d, a < l.length → b < l.length → d < l.length → S a b → S b d → S a d) (m : Nat) (hm : m < l.length) :
    ∀ n, n ≤ l.length → ∀ M : List (List Bool), Sz M l.length → (∀ a b, a < l.length → b < l.length → mg M a b = true → S a b) →
      ∃ M', Grow l.length S M M' ∧ (∀ i k, n ≤ i → i < l.length → k < l.length → mg M i m = true → mg M m k = true → mg M' i k = true) ∧
        ∀ r, Evt (fun x => alarm_reach.l2 x l M' (l.length : Int) ((m + 1 : Nat) : Int)) r → Evt (fun x => alarm_reach.l3 x l M (m : Int) (l.length : Int) (m : Int) (l.length : Int) (n : Int)) r:=by
  refine down ?_ ?_
  · intro M h1 h2
    refine ⟨M, ⟨h1, fun a b h => h, h2⟩, fun i k a b => by omega, fun r hr => Evt.succ ?_⟩
    simp only [alarm_reach.l3]
    rw [wrap64_nat (by omega)]
    exact Evt.ite_neg (by omega) hr
  · intro n hn ih M h1 h2
    obtain ⟨M1, a1, a2, a3⟩:=reach_l4 hl hS m n hm hn 0 (Nat.zero_le _) M h1 h2
    obtain ⟨M2, b1, b2, b3⟩:=ih M1 a1.sz a1.sound
    refine ⟨M2, ⟨b1.sz, fun a b h => b1.mono a b (a1.mono a b h), b1.sound⟩, fun i k i1 i2 k2 q1 q2 => ?_, fun r hr => Evt.succ ?_⟩
    · by_cases e : i = n
      · subst e
        exact b1.mono i k (a2 k (Nat.zero_le _) k2 q1 q2)
      · exact b2 i k (by omega) i2 k2 (a1.mono _ _ q1) (a1.mono _ _ q2)
    · simp only [alarm_reach.l3]
      exact Evt.ite_pos (by omega) (a3 r (b3 r hr))
theorem reach_l2 (hl : l.length ≤ 1000) {S : Nat → Nat → Prop} (hS : ∀ a b d, a < l.length → b < l.length → d < l.length → S a b → S b d → S a d) (ρ : Nat → Nat → Prop) :
    ∀ n, n ≤ l.length → ∀ M : List (List Bool), Sz M l.length → (∀ a b, a < l.length → b < l.length → mg M a b = true → S a b) → (∀ a b, a < l.length → b < l.length → PI ρ n a b → mg M a b = true) →
      ∃ M', Sz M' l.length ∧ (∀ a b, a < l.length → b < l.length → mg M' a b = true → S a b) ∧ (∀ a b, a < l.length → b < l.length → PI ρ l.length a b → mg M' a b = true) ∧ Evt (fun x => alarm_reach.l2 x l M (l.length : Int) (n : Int)) M':=by
  refine down ?_ ?_
  · intro M h1 h2 h3
    refine ⟨M, h1, h2, h3, Evt.succ ?_⟩
    simp only [alarm_reach.l2]
    exact Evt.ite_neg (by omega) (Evt.pure _)
  · intro n hn ih M h1 h2 h3
    obtain ⟨M1, a1, a2, a3⟩:=reach_l3 hl hS n hn 0 (Nat.zero_le _) M h1 h2
    obtain ⟨M', b1, b2, b3, b4⟩:=ih M1 a1.sz a1.sound (fun a b ha hb h => by
      rcases h with h|⟨g1, g2⟩
      · exact a1.mono a b (h3 a b ha hb h)
      · exact a2 a b (Nat.zero_le _) ha hb (h3 a n ha hn g1) (h3 n b hn hb g2))
    refine ⟨M', b1, b2, b3, Evt.succ ?_⟩
    simp only [alarm_reach.l2]
    exact Evt.ite_pos (by omega) (a3 _ b4)
theorem PI_of {r : Nat → Nat → Prop} {i k : Nat} (h : r i k) : ∀ m, PI r m i k := by
  intro m
  induction m with
 |zero => exact h
 |succ m ih => exact Or.inl ih
theorem reach_ev (hl : l.length ≤ 1000) (hc : c.length ≤ 1000) (hd : Dist l) : ∃ M, Sz M l.length ∧ (∀ i k, i < l.length → k < l.length → (mg M i k = true ↔ Ex c l i k)) ∧ Evt (fun x => alarm_reach.f x c l) M := by
  have edge1 : ∀ i k, i < l.length → R1 c l c.length i k → i = k ∨ edge c l i k:=by
    rintro i k hi (e|⟨t, h1, h2, h3⟩)
    · exact Or.inl e
    · exact Or.inr ⟨t, h1, (pos_lt h2).2, h3⟩
  have edge2 : ∀ i k, i < l.length → edge c l i k → R1 c l c.length i k:=by
    rintro i k hi ⟨t, h1, h2, h3⟩
    exact Or.inr ⟨t, h1, pos_nm hd hi h2, h3⟩
  have S1 : ∀ i k, i < l.length → R1 c l c.length i k → Ex c l i k:=by
    intro i k hi h
    rcases edge1 i k hi h with e|e
    · exact ⟨0, e⟩
    · exact ⟨1, k, e, rfl⟩
  have S2 : ∀ a b d, Ex c l a b → Ex c l b d → Ex c l a d:=fun a b d ⟨i, h1⟩ ⟨j, h2⟩ => ⟨i + j, path_add i j a b d h1 h2⟩
  have C1 : ∀ j i k, i < l.length → Path (edge c l) j i k → PI (R1 c l c.length) l.length i k:=by
    intro j
    induction j with
   |zero => intro i k _ h; exact PI_of (Or.inl h) _
   |succ j ih =>
      rintro i k hi ⟨b, h1, h2⟩
      exact PI_trans l.length i b k (edge_lt h1) (PI_of (edge2 i b hi h1) _) (ih b k (edge_lt h1) h2)
  have final : ∀ M, Sz M l.length → (∀ i k, i < l.length → (mg M i k = true ↔ R1 c l c.length i k)) → ∃ M', Sz M' l.length ∧ (∀ i k, i < l.length → k < l.length → (mg M' i k = true ↔ Ex c l i k)) ∧ Evt (fun x => alarm_reach.l2 x l M (l.length : Int) ((0 : Nat) : Int)) M':=by
    intro M h1 h2
    obtain ⟨M', b1, b2, b3, b4⟩:=reach_l2 (S:=Ex c l) hl (fun a b d _ _ _ => S2 a b d) (R1 c l c.length) 0 (Nat.zero_le _) M h1 (fun a b ha _ h => S1 a b ha ((h2 a b ha).1 h)) (fun a b ha _ h => (h2 a b ha).2 h)
    refine ⟨M', b1, fun i k hi hk => ⟨b2 i k hi hk, ?_⟩, b4⟩
    rintro ⟨j, h⟩
    exact b3 i k hi hk (C1 j i k hi h)
  obtain ⟨M0, a1, a2, a3⟩:=reach_l0 (c:=c) hl 0 (Nat.zero_le _) (List.replicate l.length []) (by simp) (fun i hi => by omega)
  obtain ⟨M1, b1, b2, b3⟩:=reach_l1 (l:=l) (c:=c) hl hc 0 (Nat.zero_le _) M0 a1 (fun i k hi => (a2 i k hi).trans ⟨fun e => Or.inl e, fun h => by rcases h with e|⟨t, h1, _⟩; exact e; omega⟩)
  obtain ⟨M2, c1, c2, c3⟩:=final M1 b1 b2
  refine ⟨M2, c1, c2, ?_⟩
  simp only [alarm_reach.f]
  rw [show ((l.length : Int)).toNat = l.length by omega]
  exact Evt.ite_pos (by omega) (Evt.ite_pos (by omega) (a3 _ (b3 _ c3)))
end
end Go.Proofs.Ytefkdkppipdceaa.CAlarmSays
