import Derived.Test.YtefkdkppipdceaaMCommitServes
import Derived.Test.YtefkdkppipdceaaHCommitServesy20
namespace Go.Proofs.Ytefkdkppipdceaa.QCommitServes
open Go.RowKit Go.Proofs.YtefkdkppipdceaaW.PrintWords Go.Proofs.YtefkdkppipdceaaW.PrintMore Go.Proofs.Ytefkdkppipdceaa.Evs Go.Proofs.Ytefkdkppipdceaa.PCommitServes Go.Proofs.Ytefkdkppipdceaa.BCommitServes Go.Proofs.Ytefkdkppipdceaa.CCommitServes Go.Proofs.Ytefkdkppipdceaa.DCommitServes Go.Proofs.Ytefkdkppipdceaa.GCommitServes Go.Proofs.Ytefkdkppipdceaa.KCommitServes Go.Proofs.Ytefkdkppipdceaa.LCommitServes Go.Proofs.Ytefkdkppipdceaa.MCommitServes Go.Proofs.Ytefkdkppipdceaa.OCommitServes Go.Proofs.Ytefkdkppipdceaa.UCommitServes
set_option linter.unusedVariables false
set_option linter.unusedSectionVars false
set_option linter.unusedSimpArgs false
theorem Evt.of_mono {α : Type} {g : Nat → Option α} (hm : ∀ k r, g k = some r → g (k + 1) = some r) {K : Nat} {r : α} (h : g K = some r) : Evt g r := by
  refine ⟨K, fun k hk => ?_⟩
  obtain ⟨d, rfl⟩ : ∃ d, k = K + d:=⟨k - K, by omega⟩
  clear hk
  induction d with
 |zero => exact h
 |succ d ih => exact hm _ _ ih
theorem SameInts_l0 (x : List Int) (hl : x.length ≤ 140737488351232) : ∀ n, n ≤ x.length → Evt (fun k => gridhallref3_SameInts.l0 k x x (x.length : Int) (n : Int)) true := by
  refine down ?_ ?_
  · refine Evt.succ ?_
    simp only [gridhallref3_SameInts.l0]
    exact Evt.ite_neg (by omega) (Evt.pure _)
  · intro n hn ih
    refine Evt.succ ?_
    simp only [gridhallref3_SameInts.l0]
    rw [wrap64_nat (n:=n) (by omega)]
    first
     |exact Evt.ite_pos (by omega) (Evt.ite_pos (by omega) (Evt.ite_pos (by omega) (Evt.ite_pos (by omega) (Evt.ite_pos (by simp) ih))))
     |exact Evt.ite_pos (by omega) (Evt.ite_pos (by omega) (Evt.ite_pos (by omega) (Evt.ite_pos (by omega) ih)))
theorem SameInts_ev (x : List Int) (hl : x.length ≤ 140737488351232) : Evt (fun k => gridhallref3_SameInts.f k x x) true := by
  simp only [gridhallref3_SameInts.f]
  first
   |exact Evt.ite_pos (by simp) (SameInts_l0 x hl 0 (by omega))
   |exact SameInts_l0 x hl 0 (by omega)
theorem law_l1 {l : List Cm} (h : Coms l) {on : Nat → Bool} {g : Nat → Int} (hg : Rng l on g) (onL : List Bool) (hon : onL.length = l.length) (ho : ∀ i, onL.getD i false = on i) (D : Int) (hs : sm g l.length = D) (c : Int) (hc : c = sm (cC l g) l.length) :
    ∀ n, n ≤ l.length → Evt (fun k => gridhalllaw3_CommitServes.l1 k onL D (tab (x9C on g) l.length) c (sm g n) (sm (cC l g) n) l (l.length : Int) (n : Int)) true:=by
  have hl:=h.len
  refine down ?_ ?_
  · refine Evt.succ ?_
    simp only [gridhalllaw3_CommitServes.l1]
    exact Evt.ite_neg (by omega) (Evt.ite_pos hs (Evt.of_eq (by rw [hc]; simp)))
  · intro n hn ih
    obtain ⟨hv, h1, h2, h3, h4⟩:=h.one n hn
    have b1:=cC_bd h g n (by omega)
    have b2:=cC_bd h g (n + 1) (by omega)
    have s1:=Rng.smbd h hg n (by omega)
    have s2:=Rng.smbd h hg (n + 1) (by omega)
    have gb:=Rng.bd h hg n hn
    have ho1 : rdOf false onL (n : Int) = on n:=by rw [← ho n]; simp [rdOf]
    have eg : mx (x9C on g n) 0 = g n:=by
      unfold x9C
      cases c : on n with
     |false =>
        have:=hg.off n hn c
        simp [this, mx]
     |true => simp; exact mx_ge gb.1
    have e1 : sm (cC l g) n + cst (stC l n) (g n) (stC l n).length = sm (cC l g) (n + 1):=rfl
    have e2 : sm g n + g n = sm g (n + 1):=rfl
    have rc:=refCost_ev (ga l n).f1.f0 (stC l n) hv (g n)
    refine Evt.succ ?_
    simp only [gridhalllaw3_CommitServes.l1, rdC, tab_len, in_eq, Option.bind_some]
    rw [ho1, tab_get (x9C on g) hn, eg, wrap64_nat (n:=n) (by omega), e2, wrap64_of (x:=sm g (n + 1)) (by omega) (by omega)]
    refine Evt.ite_pos (by omega) (Evt.ite_pos (by omega) (Evt.ite_pos (by omega) (Evt.ite_pos (by omega) (Evt.ite_pos (by omega) ?_))))
    have fin : Evt (fun k => gridhalllaw3_CommitServes.l1 k onL D (tab (x9C on g) l.length) c (sm g (n + 1)) (wrap64 (sm (cC l g) n + cst (stC l n) (g n) (stC l n).length)) l (l.length : Int) ((n + 1 : Nat) : Int)) true:=by
      rw [e1, wrap64_of (x:=sm (cC l g) (n + 1)) (by omega) (by omega)]
      exact ih
    cases co : on n with
   |false =>
      have ex : x9C on g n = -1:=by unfold x9C; rw [co]; simp
      rw [ex]
      exact Evt.ite_neg (by simp) (Evt.ite_neg (by simp) (Evt.bind rc fin))
   |true =>
      have ex : x9C on g n = g n:=by unfold x9C; rw [co]; simp
      obtain ⟨r1, r2⟩:=hg.rng n hn co
      rw [ex]
      have ne : ¬ g n = -1:=by omega
      exact Evt.ite_neg (by simp [ne]) (Evt.ite_pos (by simp) (Evt.ite_pos (decide_eq_true ⟨r1, r2⟩) (Evt.bind rc fin)))
theorem law_l0 {l : List Cm} (h : Coms l) (on : Nat → Bool) (onL : List Bool) (hon : onL.length = l.length) (ho : ∀ i, onL.getD i false = on i) (D : Int) (hD : 0 ≤ D ∧ D ≤ 1000000)
    (out : List Int × Int × Int) (hout : (out = ([], 0, 8) ∧ (D < sm (leO l on) l.length ∨ sm (moO l on) l.length < D)) ∨ ∃ m g, Thr l on m g ∧ sm g l.length = D ∧ out = (tab (x9C on g) l.length, sm (cC l g) l.length, 0)) :
    ∀ n, n ≤ l.length → Evt (fun k => gridhalllaw3_CommitServes.l0 k l onL D out.1 out.2.1 out.2.2 (tab (fun i => if i < n then (if on i = true then 1 else 0) else 0) l.length) (l.length : Int) (n : Int)) true:=by
  have hl:=h.len
  refine down ?_ ?_
  · obtain ⟨o, o1, o2⟩:=Cheapest_ev h hD (on:=on)
    refine Evt.succ ?_
    simp only [gridhalllaw3_CommitServes.l0]
    have e : tab (fun i => if i < l.length then (if on i = true then (1 : Int) else 0) else 0) l.length = selL l on:=tab_congr (fun i hi => if_pos hi)
    rw [e]
    refine Evt.ite_neg (by omega) (Evt.bind o2 ?_)
    rcases o1 with ⟨t1, m, g, g1, g2, g3⟩|⟨t1, t2⟩
    · refine Evt.ite_pos t1 ?_
      rcases hout with ⟨_, bad⟩|⟨m', g', q1, q2, rfl⟩
      · have a1:=low_le g1.toRng
        have a2:=high_le g1.toRng
        omega
      · have ce:=cost_eq h g1 q1 (by omega)
        refine Evt.ite_pos rfl (Evt.ite_pos (by rw [g3, ce]) (Evt.succ ?_))
        simp only [gridhalllaw3_CommitServes.j4, tab_len]
        have:=law_l1 h q1.toRng onL hon ho D q2 o.1 (by rw [g3, ce]) 0 (by omega)
        first
         |exact Evt.ite_neg (by simp) this
         |exact this
    · refine Evt.ite_neg (by rw [t1]; simp) ?_
      rcases hout with ⟨rfl, bad⟩|⟨m', g', q1, q2, rfl⟩
      · first
         |exact Evt.ite_pos rfl (Evt.ite_pos rfl (Evt.of_eq rfl))
         |exact Evt.ite_pos (by simp) (Evt.ite_pos (by simp) (Evt.of_eq (by simp)))
      · have a1:=low_le q1.toRng
        have a2:=high_le q1.toRng
        omega
  · intro n hn ih
    have ho1 : rdOf false onL (n : Int) = on n:=by rw [← ho n]; simp [rdOf]
    refine Evt.succ ?_
    simp only [gridhalllaw3_CommitServes.l0, tab_len]
    rw [ho1, wrap64_nat (n:=n) (by omega)]
    refine Evt.ite_pos (by omega) (Evt.ite_pos (by omega) (Evt.ite_pos (by omega) ?_))
    have e3 : tab (fun i => if i < n + 1 then (if on i = true then (1 : Int) else 0) else 0) l.length = if on n = true then tab (fun j => if j = n then 1 else if j < n then (if on j = true then 1 else 0) else 0) l.length else tab (fun i => if i < n then (if on i = true then 1 else 0) else 0) l.length:=by
      by_cases c : on n = true
      · rw [if_pos c]
        refine tab_congr (fun i hi => ?_)
        by_cases e : i = n
        · subst e
          rw [if_pos (by omega), if_pos c, if_pos rfl]
        · rw [if_neg e]
          by_cases e2 : i < n
          · rw [if_pos (by omega), if_pos e2]
          · rw [if_neg (by omega), if_neg e2]
      · rw [if_neg c]
        refine tab_congr (fun i hi => ?_)
        by_cases e : i = n
        · subst e
          rw [if_pos (by omega), if_neg c, if_neg (by omega)]
        · by_cases e2 : i < n
          · rw [if_pos (by omega), if_pos e2]
          · rw [if_neg (by omega), if_neg e2]
    rw [e3] at ih
    by_cases c : on n = true
    · rw [if_pos c] at ih
      refine Evt.ite_pos c (Evt.ite_pos (by omega) ?_)
      rw [tab_set]
      exact ih
    · rw [if_neg c] at ih
      exact Evt.ite_neg c ih
theorem Serve_ev (l : List Cm) (onL : List Bool) (D : Int) : ∃ out : List Int × Int × Int, Evt (fun k => commit_Serve.f k l onL D) out ∧
    (comsErr l D ≠ 0 → out = ([], 0, comsErr l D)) ∧ (comsErr l D = 0 → onL.length ≠ l.length → out = ([], 0, 3)) ∧
    (comsErr l D = 0 → onL.length = l.length → (out = ([], 0, 8) ∧ (D < sm (leO l (fun i => onL.getD i false)) l.length ∨ sm (moO l (fun i => onL.getD i false)) l.length < D)) ∨ ∃ m g, Thr l (fun i => onL.getD i false) m g ∧ sm g l.length = D ∧ out = (tab (x9C (fun i => onL.getD i false) g) l.length, sm (cC l g) l.length, 0)):=by
  simp only [commit_Serve.f]
  have ck:=dual_CheckAll_ev D l
  by_cases c : comsErr l D = 0
  · obtain ⟨h, hD⟩:=comsErr_ok c
    by_cases c2 : onL.length = l.length
    · obtain ⟨o, o1, o2⟩:=serve_ev h onL c2 (fun i => onL.getD i false) (fun _ => rfl) D hD
      rcases o2 with ⟨rfl, bad⟩|⟨m, g, g1, g2, rfl⟩
      · refine ⟨([], 0, 8), Evt.bind ck (Evt.ite_pos c (Evt.ite_pos (by omega) (Evt.bind o1 ?_))), fun z => absurd c z, fun _ z => absurd c2 z, fun _ _ => Or.inl ⟨rfl, bad⟩⟩
        first
         |exact Evt.ite_neg (by simp) (Evt.pure _)
         |exact Evt.pure _
      · refine ⟨_, Evt.bind ck (Evt.ite_pos c (Evt.ite_pos (by omega) (Evt.bind o1 (Evt.ite_pos rfl (Evt.pure _))))), fun z => absurd c z, fun _ z => absurd c2 z, fun _ _ => Or.inr ⟨m, g, g1, g2, rfl⟩⟩
    · exact ⟨([], 0, 3), Evt.bind ck (Evt.ite_pos c (Evt.ite_neg (by omega) (Evt.pure _))), fun z => absurd c z, fun _ _ => rfl, fun _ z => absurd z c2⟩
  · exact ⟨([], 0, comsErr l D), Evt.bind ck (Evt.ite_neg c (Evt.pure _)), fun _ => rfl, fun z => absurd z c, fun z => absurd z c⟩
theorem law_j0 (l : List Cm) (onL : List Bool) (D : Int) (b : Bool) (hb : b = false) : Evt (fun k => gridhalllaw3_CommitServes.j0 k l onL D b) true := by
  subst hb
  obtain ⟨out, o1, o2, o3, o4⟩:=Serve_ev l onL D
  have ce:=gridhallref3_CommitsError_ev D l
  refine Evt.succ ?_
  simp only [gridhalllaw3_CommitServes.j0]
  refine Evt.ite_neg (by simp) (Evt.bind o1 (Evt.bind ce ?_))
  have j2 : ∀ c, c ≠ 0 → out = ([], 0, c) → Evt (fun k => gridhalllaw3_CommitServes.j2 k l onL D out.1 out.2.1 out.2.2 c) true:=by
    intro c hc e
    subst e
    refine Evt.succ ?_
    simp only [gridhalllaw3_CommitServes.j2]
    refine Evt.ite_neg hc ?_
    first
     |exact Evt.ite_pos rfl (Evt.ite_pos rfl (Evt.of_eq rfl))
     |exact Evt.ite_pos (by simp) (Evt.ite_pos (by simp) (Evt.of_eq (by simp)))
  by_cases c : comsErr l D = 0
  · obtain ⟨h, hD⟩:=comsErr_ok c
    have hl:=h.len
    refine Evt.ite_pos c (Evt.succ ?_)
    simp only [gridhalllaw3_CommitServes.j1]
    by_cases c2 : onL.length = l.length
    · refine Evt.ite_neg (by simp [c2]) (Evt.succ ?_)
      simp only [gridhalllaw3_CommitServes.j2]
      refine Evt.ite_pos c (Evt.ite (fun _ => Evt.pure _) (fun _ => Evt.ite_pos (by omega) (Evt.ite_pos (by omega) (Evt.bindo rfl ?_))))
      have:=law_l0 h (fun i => onL.getD i false) onL c2 (fun _ => rfl) D hD out (o4 c c2) 0 (by omega)
      rw [Int.toNat_natCast, List.length_replicate, tab_zero]
      have e : tab (fun i => if i < 0 then (if onL.getD i false = true then (1 : Int) else 0) else 0) l.length = tab (fun _ => 0) l.length:=tab_congr (fun i hi => if_neg (by omega))
      rw [e] at this
      exact this
    · exact Evt.ite_pos (by simp; omega) (j2 3 (by omega) (o3 c c2))
  · refine Evt.ite_neg c (Evt.succ ?_)
    simp only [gridhalllaw3_CommitServes.j1]
    first
     |exact Evt.ite_neg (by simp) (j2 _ c (o2 c))
     |exact j2 _ c (o2 c)
def aloneC : List Cm := [⟨⟨⟨#[65]⟩, 0, 20, 20, 20, 1, 1, 9⟩, ⟨⟨#[65]⟩, [⟨10, 5⟩, ⟨10, 8⟩]⟩, ⟨false, 5, 0⟩⟩]
theorem alone_ev : Evt (fun k => commit_Serve.f k aloneC [true] 12) ([12], 66, 0) := Evt.of_mono (fun k r h => commit_Serve.mono aloneC [true] 12 k r h) (K := 60) (by decide +kernel)
theorem law_f (l : List Cm) (onL : List Bool) (D : Int) : Evt (fun k => gridhalllaw3_CommitServes.f k l onL D) true := by
  simp only [gridhalllaw3_CommitServes.f, gridhalllaw3_alone.f, gridhalllaw3_two.f, Option.bind_some]
  refine Evt.bind (f:=fun k bt285 => if bt285.2.2 = 0 then (if bt285.2.1 = 66 then ((gridhallref3_SameInts.f k bt285.1 (([12] : List Int))).bind fun t293 => (gridhalllaw3_CommitServes.j0 k l onL D (!t293))) else (gridhalllaw3_CommitServes.j0 k l onL D true)) else (gridhalllaw3_CommitServes.j0 k l onL D true)) alone_ev ?_
  refine Evt.ite_pos rfl (Evt.ite_pos rfl (Evt.bind (SameInts_ev _ (by simp)) (law_j0 l onL D _ (by simp))))
end Go.Proofs.Ytefkdkppipdceaa.QCommitServes
