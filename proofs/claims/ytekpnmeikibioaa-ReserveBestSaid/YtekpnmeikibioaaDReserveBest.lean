import Derived.Test.YtekpnmeikibioaaCReserveBest
import Derived.Test.YtekpnmeikibioaaHReserveBesty16
namespace Go.Proofs.Ytekpnmeikibioaa.DReserveBest
open Go.RowKit Go.Proofs.YtekpnmeikibioaaW.PrintWords Go.Proofs.YtekpnmeikibioaaW.PrintMore Go.Proofs.Ytekpnmeikibioaa.Evs Go.Proofs.Ytekpnmeikibioaa.PReserveBest Go.Proofs.Ytekpnmeikibioaa.BReserveBest Go.Proofs.Ytekpnmeikibioaa.CReserveBest Go.Proofs.Ytekpnmeikibioaa.ZReserveBest Go.Proofs.Ytekpnmeikibioaa.XReserveBest
set_option linter.unusedVariables false
set_option linter.unusedSectionVars false
set_option linter.unusedSimpArgs false
def knU (u : List Un) (i : Nat) : Int := mostU u i - mn (faU u i) (mostU u i)
theorem rdPt (s : List Sg) (n : Nat) : rd_T82 s (n : Int) = s.getD n z82 := Eq.trans rfl rfl
theorem tab_pn (f : Nat → Int) {n i : Nat} (h : i < n) : pn (tab f n) i = f i := (rdp (tab f n) i).symm.trans (tab_get f h)
theorem most_last (u : List Un) {i : Nat} (hi : i < u.length) : lastT (ofs u) i = mostU u i := by unfold lastT mostU; rw [stO_ofs u hi]
def ltg (p q : Sg) : Bool := decide (p.f2 < q.f2 ∨ (p.f2 = q.f2 ∧ p.f0 < q.f0))
theorem Wltg : Weak ltg := ⟨fun x => by simp [ltg], fun {x y z} h1 h2 => by simp only [ltg, decide_eq_true_eq] at *; omega, fun {x y z} h1 h2 => by simp only [ltg, decide_eq_false_iff_not] at *; omega⟩
def cmpv (a b : Int) : Int := if a < b then -1 else if a > b then 1 else 0
theorem Compare_eq (a b : Int) : cmp_Compare_int.f a b = some (cmpv a b) := by
  simp only [cmp_Compare_int.f, cmp_isNaN_int.f, Option.bind_some, bne_self_eq_false, cmpv]
  by_cases c1 : a < b
  · simp [c1]
  · by_cases c2 : a > b
    · simp [c1, c2]
    · simp [c1, c2]
theorem Or_ev (x y : Int) : Evt (fun k => cmp_Or_int.f k [x, y]) (if x = 0 then y else x) := by
  have r0 : rd [x, y] 0 = x:=rfl
  have r1 : rd [x, y] 1 = y:=rfl
  have e1 : wrap64 (0 + 1) = 1:=by unfold wrap64; omega
  have e2 : wrap64 (1 + 1) = 2:=by unfold wrap64; omega
  have len : (([x, y] : List Int).length : Int) = 2:=rfl
  simp only [cmp_Or_int.f]
  rw [len]
  have l2 : Evt (fun k => cmp_Or_int.l0 k 0 [x, y] 2 2) 0:=by
    refine Evt.succ ?_
    simp only [cmp_Or_int.l0]
    exact Evt.ite_neg (by omega) (Evt.pure _)
  have l1 : Evt (fun k => cmp_Or_int.l0 k 0 [x, y] 2 1) y:=by
    refine Evt.succ ?_
    simp only [cmp_Or_int.l0]
    rw [r1, e2, len]
    refine Evt.ite_pos (by omega) (Evt.ite_pos (by omega) (Evt.ite_pos (by omega) (Evt.ite (fun c => ?_) (fun c => Evt.pure _))))
    rw [c] at l2 ⊢
    exact l2
  refine Evt.succ ?_
  simp only [cmp_Or_int.l0]
  rw [r0, e1, len]
  refine Evt.ite_pos (by omega) (Evt.ite_pos (by omega) (Evt.ite_pos (by omega) (Evt.ite (fun c => ?_) (fun c => ?_))))
  · exact Evt.cast l1 (if_pos c).symm
  · exact Evt.cast (Evt.pure _) (if_neg c).symm
theorem cmpg (p q : Sg) : ∃ c : Int, Evt (fun k => reserve_parts_1.f k p.f0 p.f1 p.f2 q.f0 q.f1 q.f2) c ∧ (c < 0 ↔ ltg p q = true) := by
  refine ⟨if cmpv p.f2 q.f2 = 0 then cmpv p.f0 q.f0 else cmpv p.f2 q.f2, ?_, ?_⟩
  · simp only [reserve_parts_1.f]
    exact Evt.bindo (Compare_eq _ _) (Evt.bindo (Compare_eq _ _) (Evt.bind (Or_ev _ _) (Evt.pure _)))
  · simp only [ltg, decide_eq_true_eq, cmpv]
    repeat' split
    all_goals omega
section
variable {u : List Un} (h : ValU u)
include h
theorem knU_bd (i : Nat) (hi : i < u.length) : 0 ≤ knU u i ∧ knU u i ≤ mostU u i ∧ mostU u i ≤ 100000 := by
  have:=h.fast i hi
  have:=mostU_bd h i hi
  unfold knU mn
  split <;> omega
theorem sgN_len (l : List Of) (lo hi : Nat → Int) (i : Nat) : ∀ n, (sgN l lo hi i n).length ≤ n := by
  intro n
  induction n with
 |zero => simp [sgN]
 |succ n ih =>
    simp only [sgN, List.length_append]
    split <;> simp <;> omega
theorem SH_len (lo hi : Nat → Int) : ∀ n, n ≤ u.length → (SH (ofs u) lo hi n).length ≤ 12 * n := by
  intro n
  induction n with
 |zero => intro _; simp [SH]
 |succ n ih =>
    intro hn
    have:=ih (by omega)
    have hv:=(h.one n (by omega)).2.1
    have h1:=sgN_len h (ofs u) lo hi n (stO (ofs u) n).length
    rw [stO_ofs u (by omega)] at h1
    have h2:=hv.len
    simp only [SH, List.length_append]
    rw [stO_ofs u (by omega)]
    omega
theorem Most_ev' (i : Nat) (hi : i < u.length) : Evt (fun k => offer_Most.f k (nmU u i) (stU u i)) (mostU u i) := Most_ev _ _ (h.one i hi).2.1
theorem room_ev (i : Nat) (hi : i < u.length) : Evt (fun k => reserve_room.f k (nmU u i) (stU u i) (faU u i)) (mn (faU u i) (mostU u i)) := by
  simp only [reserve_room.f]
  exact Evt.bind (Most_ev' h i hi) (Evt.pure _)
theorem pt_l1 (x4 x5 : List Sg) (h4 : x4.length ≤ 200) (h5 : x5.length ≤ 200) (i : Nat) (hi : i < u.length) (r : List Sg × List Sg)
    (H : Evt (fun k => reserve_parts.l0 k (x4 ++ sgN (ofs u) (fun _ => 0) (knU u) i (stU u i).length) (x5 ++ sgN (ofs u) (knU u) (lastT (ofs u)) i (stU u i).length) u (u.length : Int) ((i + 1 : Nat) : Int)) r) :
    ∀ n, n ≤ (stU u i).length → Evt (fun k => reserve_parts.l1 k (x4 ++ sgN (ofs u) (fun _ => 0) (knU u) i n) (x5 ++ sgN (ofs u) (knU u) (lastT (ofs u)) i n) (i : Int) (mx (knU u i - tot (stU u i) n) 0) u (u.length : Int) (i : Int) (stU u i) ((stU u i).length : Int) (n : Int)) r:=by
  have hv:=(h.one i hi).2.1
  have hl:=h.len
  have hvl:=hv.len
  have kb:=knU_bd h i hi
  refine down ?_ ?_
  · refine Evt.succ ?_
    simp only [reserve_parts.l1]
    rw [wrap64_nat (n:=i) (by omega)]
    exact Evt.ite_neg (by omega) H
  · intro n hn ih
    obtain ⟨w1, w2, _⟩:=hv.rng n hn
    have tb:=hv.bd n (by omega)
    have tb1:=hv.bd (n + 1) (by omega)
    have tm : tot (stU u i) (n + 1) ≤ mostU u i:=tot_le hv (a:=n + 1) (b:=(stU u i).length) (by omega) (Nat.le_refl _)
    have e : tot (stU u i) (n + 1) = tot (stU u i) n + pw (stU u i) n:=rfl
    have l4:=sgN_len h (ofs u) (fun _ => 0) (knU u) i n
    have l5:=sgN_len h (ofs u) (knU u) (lastT (ofs u)) i n
    obtain ⟨R, hR⟩ : ∃ R, R = mx (knU u i - tot (stU u i) n) 0:=⟨_, rfl⟩
    have Rb : 0 ≤ R ∧ R ≤ 100000:=by rw [hR]; unfold mx; split <;> omega
    obtain ⟨m, hm⟩ : ∃ m, m = mn R (pw (stU u i) n):=⟨_, rfl⟩
    have mb : 0 ≤ m ∧ m ≤ pw (stU u i) n ∧ m ≤ R:=by rw [hm]; unfold mn; split <;> omega
    have eR : R - m = mx (knU u i - tot (stU u i) (n + 1)) 0:=by
      rw [hm, hR, e]
      unfold mn mx
      repeat' split
      all_goals omega
    have sO:=stO_ofs u hi
    have seg1 : sgN (ofs u) (fun _ => 0) (knU u) i (n + 1) = sgN (ofs u) (fun _ => 0) (knU u) i n ++ (if m > 0 then [⟨(i : Int), m, pr (stU u i) n⟩] else []):=by
      simp only [sgN]
      have f1 : fr (ofs u) (fun _ => 0) i n = tot (stU u i) n:=by unfold fr; rw [sO]; exact mx_ge tb.1
      have f2 : tu (ofs u) (knU u) i n = mn (tot (stU u i) (n + 1)) (knU u i):=by unfold tu; rw [sO]
      have cc : (fr (ofs u) (fun _ => 0) i n < tu (ofs u) (knU u) i n ↔ m > 0) ∧ (m > 0 → tu (ofs u) (knU u) i n - fr (ofs u) (fun _ => 0) i n = m):=by
        rw [f1, f2, hm, hR, e]
        unfold mn mx
        constructor
        · repeat' split
          all_goals omega
        · repeat' split
          all_goals omega
      rw [sO]
      by_cases c : m > 0
      · rw [if_pos c, if_pos (cc.1.2 c), cc.2 c]
      · rw [if_neg c, if_neg (fun z => c (cc.1.1 z))]
    have seg2 : sgN (ofs u) (knU u) (lastT (ofs u)) i (n + 1) = sgN (ofs u) (knU u) (lastT (ofs u)) i n ++ (if m < pw (stU u i) n then [⟨(i : Int), pw (stU u i) n - m, pr (stU u i) n⟩] else []):=by
      simp only [sgN]
      have f1 : fr (ofs u) (knU u) i n = mx (tot (stU u i) n) (knU u i):=by unfold fr; rw [sO]
      have f2 : tu (ofs u) (lastT (ofs u)) i n = tot (stU u i) (n + 1):=by unfold tu; rw [sO, most_last u hi]; exact mn_le tm
      have cc : (fr (ofs u) (knU u) i n < tu (ofs u) (lastT (ofs u)) i n ↔ m < pw (stU u i) n) ∧ (m < pw (stU u i) n → tu (ofs u) (lastT (ofs u)) i n - fr (ofs u) (knU u) i n = pw (stU u i) n - m):=by
        rw [f1, f2, hm, hR, e]
        unfold mn mx
        constructor
        · repeat' split
          all_goals omega
        · repeat' split
          all_goals omega
      rw [sO]
      by_cases c : m < pw (stU u i) n
      · rw [if_pos c, if_pos (cc.1.2 c), cc.2 c]
      · rw [if_neg c, if_neg (fun z => c (cc.1.1 z))]
    rw [seg1, seg2, ← eR] at ih
    rw [← hR]
    refine Evt.succ ?_
    simp only [reserve_parts.l1, rd0, rd1, List.length_append]
    rw [← hm, wrap64_nat (n:=n) (by omega), wrap64_of (x:=R - m) (by omega) (by omega), wrap64_of (x:=pw (stU u i) n - m) (by omega) (by omega)]
    refine Evt.ite_pos (by omega) (Evt.ite_pos (by omega) (Evt.ite_pos (by omega) ?_))
    by_cases c1 : m > 0
    · rw [if_pos c1] at ih
      refine Evt.ite_pos c1 (Evt.ite_pos (by omega) (Evt.bindo rfl ?_))
      by_cases c2 : m < pw (stU u i) n
      · rw [if_pos c2] at ih
        refine Evt.ite_pos c2 (Evt.ite_pos (by omega) ?_)
        rw [List.append_assoc, List.append_assoc]
        exact ih
      · rw [if_neg c2, List.append_nil] at ih
        refine Evt.ite_neg c2 ?_
        rw [List.append_assoc]
        exact ih
    · rw [if_neg c1, List.append_nil] at ih
      refine Evt.ite_neg c1 ?_
      by_cases c2 : m < pw (stU u i) n
      · rw [if_pos c2] at ih
        refine Evt.ite_pos c2 (Evt.ite_pos (by omega) ?_)
        rw [List.append_assoc]
        exact ih
      · rw [if_neg c2, List.append_nil] at ih
        exact Evt.ite_neg c2 ih
theorem parts_ev : ∃ sb sa : List Sg, Evt (fun k => reserve_parts.f k u) (sb, sa) ∧ (SH (ofs u) (fun _ => 0) (knU u) u.length).Perm sb ∧ (SH (ofs u) (knU u) (lastT (ofs u)) u.length).Perm sa ∧
    (∀ i j, i ≤ j → j < sb.length → pc sb i ≤ pc sb j) ∧ (∀ i j, i ≤ j → j < sa.length → pc sa i ≤ pc sa j):=by
  have hl:=h.len
  have L1:=SH_len h (fun _ => 0) (knU u) u.length (Nat.le_refl _)
  have L2:=SH_len h (knU u) (lastT (ofs u)) u.length (Nat.le_refl _)
  obtain ⟨sb, b1, b2, b3⟩:=sorts Wltg cmpg (SH (ofs u) (fun _ => 0) (knU u) u.length) (by omega)
  obtain ⟨sa, a1, a2, a3⟩:=sorts Wltg cmpg (SH (ofs u) (knU u) (lastT (ofs u)) u.length) (by omega)
  have loop : ∀ n, n ≤ u.length → Evt (fun k => reserve_parts.l0 k (SH (ofs u) (fun _ => 0) (knU u) n) (SH (ofs u) (knU u) (lastT (ofs u)) n) u (u.length : Int) (n : Int)) (sb, sa):=by
    refine down ?_ ?_
    · refine Evt.succ ?_
      simp only [reserve_parts.l0]
      exact Evt.ite_neg (by omega) (Evt.bind b3 (Evt.bind a3 (Evt.pure _)))
    · intro n hn ih
      have kb:=knU_bd h n hn
      simp only [SH] at ih
      rw [stO_ofs u hn] at ih
      refine Evt.succ ?_
      simp only [reserve_parts.l0, rdU0, rdU1, rdU2]
      refine Evt.ite_pos (by omega) (Evt.ite_pos (by omega) (Evt.ite_pos (by omega) (Evt.bind (Most_ev' h n hn) (Evt.bind (room_ev h n hn) ?_))))
      have e : mostU u n - mn (faU u n) (mostU u n) = knU u n:=rfl
      rw [e, wrap64_of (x:=knU u n) (by omega) (by omega)]
      have l4:=SH_len h (fun _ => 0) (knU u) n (by omega)
      have l5:=SH_len h (knU u) (lastT (ofs u)) n (by omega)
      have:=pt_l1 h (SH (ofs u) (fun _ => 0) (knU u) n) (SH (ofs u) (knU u) (lastT (ofs u)) n) (by omega) (by omega) n hn _ ih 0 (by omega)
      simp only [sgN, List.append_nil, tot, Int.sub_zero] at this
      rw [mx_ge kb.1] at this
      exact this
  have srt : ∀ s : List Sg, Srt ltg s → ∀ i j, i ≤ j → j < s.length → pc s i ≤ pc s j:=by
    intro s hs i j hij hj
    by_cases c : i = j
    · subst c; exact Int.le_refl _
    · have:=List.pairwise_iff_getElem.1 hs i j (by omega) hj (by omega)
      unfold pc
      rw [List.getD_eq_getElem?_getD, List.getD_eq_getElem?_getD, List.getElem?_eq_getElem hj, List.getElem?_eq_getElem (by omega : i < s.length)]
      simp only [Option.getD_some]
      simp only [ltg, decide_eq_false_iff_not] at this
      omega
  refine ⟨sb, sa, ?_, St.perm Wltg b2, St.perm Wltg a2, srt sb b1, srt sa a1⟩
  simp only [reserve_parts.f]
  exact loop 0 (by omega)
end
theorem total_ev (s : List Sg) (hs : ∀ j, j < s.length → 0 < wt s j) (hb : sm (wt s) s.length ≤ 2000000) (hl : s.length ≤ 1000) : Evt (fun k => reserve_total.f k s) (sm (wt s) s.length) := by
  have nn : ∀ n, n ≤ s.length → 0 ≤ sm (wt s) n ∧ sm (wt s) n ≤ 2000000:=fun n hn => by
    have a:=sm_mono (f:=wt s) (N:=s.length) (fun i hi => by have:=hs i hi; omega) (a:=0) (b:=n) (by omega) hn
    have b:=sm_mono (f:=wt s) (N:=s.length) (fun i hi => by have:=hs i hi; omega) (a:=n) (b:=s.length) hn (Nat.le_refl _)
    simp only [sm] at a
    omega
  have loop : ∀ n, n ≤ s.length → Evt (fun k => reserve_total.l0 k (sm (wt s) n) s (s.length : Int) (n : Int)) (sm (wt s) s.length):=by
    refine down ?_ ?_
    · refine Evt.succ ?_
      simp only [reserve_total.l0]
      exact Evt.ite_neg (by omega) (Evt.pure _)
    · intro n hn ih
      have b:=nn (n + 1) (by omega)
      refine Evt.succ ?_
      simp only [reserve_total.l0, rdPt]
      have e : sm (wt s) n + (s.getD n z82).f1 = sm (wt s) (n + 1):=rfl
      rw [e, wrap64_of (x:=sm (wt s) (n + 1)) (by omega) (by omega), wrap64_nat (n:=n) (by omega)]
      exact Evt.ite_pos (by omega) (Evt.ite_pos (by omega) (Evt.ite_pos (by omega) ih))
  simp only [reserve_total.f]
  exact loop 0 (by omega)
def tk (s : List Sg) (R : Int) (j : Nat) : Int := mn (wt s j) (mx (R - sm (wt s) j) 0)
theorem taken_ev (s : List Sg) (hs : ∀ j, j < s.length → 0 < wt s j) (hb : sm (wt s) s.length ≤ 2000000) (hl : s.length ≤ 1000) (R : Int) (hR : 0 ≤ R ∧ R ≤ 2000000) : Evt (fun k => reserve_taken.f k s R) (tab (tk s R) s.length) := by
  have nn : ∀ n, n ≤ s.length → 0 ≤ sm (wt s) n ∧ sm (wt s) n ≤ 2000000:=fun n hn => by
    have a:=sm_mono (f:=wt s) (N:=s.length) (fun i hi => by have:=hs i hi; omega) (a:=0) (b:=n) (by omega) hn
    have b:=sm_mono (f:=wt s) (N:=s.length) (fun i hi => by have:=hs i hi; omega) (a:=n) (b:=s.length) hn (Nat.le_refl _)
    simp only [sm] at a
    omega
  have loop : ∀ n, n ≤ s.length → Evt (fun k => reserve_taken.l0 k (mx (R - sm (wt s) n) 0) (tab (fun j => if j < n then tk s R j else 0) s.length) s (s.length : Int) (n : Int)) (tab (tk s R) s.length):=by
    refine down ?_ ?_
    · refine Evt.succ ?_
      simp only [reserve_taken.l0]
      rw [tab_congr (g:=tk s R) (fun i hi => if_pos hi)]
      exact Evt.ite_neg (by omega) (Evt.pure _)
    · intro n hn ih
      have b0:=nn n (by omega)
      have b1:=nn (n + 1) (by omega)
      have w0:=hs n hn
      have es : sm (wt s) (n + 1) = sm (wt s) n + wt s n:=rfl
      refine Evt.succ ?_
      simp only [reserve_taken.l0, rdPt, tab_len]
      have e : mn (s.getD n z82).f1 (mx (R - sm (wt s) n) 0) = tk s R n:=rfl
      rw [e, tab_set, wrap64_nat (n:=n) (by omega)]
      have e3 : tab (fun j => if j = n then tk s R n else if j < n then tk s R j else 0) s.length = tab (fun i => if i < n + 1 then tk s R i else 0) s.length:=tab_congr (fun i hi => by
        by_cases e : i = n
        · subst e
          rw [if_pos rfl, if_pos (by omega)]
        · rw [if_neg e]
          by_cases e2 : i < n
          · rw [if_pos e2, if_pos (by omega)]
          · rw [if_neg e2, if_neg (by omega)])
      rw [e3]
      refine Evt.ite_pos (by omega) (Evt.ite_pos (by omega) (Evt.ite_pos (by omega) (Evt.ite_pos (by omega) (Evt.bindo rfl ?_))))
      rw [tab_get _ hn, if_pos (by omega)]
      have e4 : mx (R - sm (wt s) n) 0 - tk s R n = mx (R - sm (wt s) (n + 1)) 0:=by
        unfold tk
        rw [es]
        unfold mn mx
        repeat' split
        all_goals omega
      rw [e4, wrap64_of (x:=mx (R - sm (wt s) (n + 1)) 0) (by unfold mx; split <;> omega) (by unfold mx; split <;> omega)]
      exact ih
  simp only [reserve_taken.f]
  refine Evt.ite_pos (by omega) (Evt.ite_pos (by omega) ?_)
  have:=loop 0 (by omega)
  rw [Int.toNat_natCast, tab_zero]
  simp only [sm, Int.sub_zero] at this
  rw [mx_ge hR.1, tab_congr (g:=fun _ => 0) (fun i hi => if_neg (by omega))] at this
  exact this
theorem tk_Tk (s : List Sg) (hs : ∀ j, j < s.length → 0 < wt s j) (R : Int) (hR : 0 ≤ R) : Tk s (tk s R) := by
  refine ⟨fun j hj => ?_, fun j i hj hij hb => ?_⟩
  · have:=hs j hj
    unfold tk mn mx
    repeat' split
    all_goals omega
  · have a:=sm_mono (f:=wt s) (N:=s.length) (fun i hi => by have:=hs i hi; omega) (a:=i + 1) (b:=j) (by omega) (by omega)
    have es : sm (wt s) (i + 1) = sm (wt s) i + wt s i:=rfl
    have w0:=hs i (by omega)
    revert hb
    unfold tk mn mx
    repeat' split
    all_goals omega
theorem tk_sm (s : List Sg) (hs : ∀ j, j < s.length → 0 < wt s j) (R : Int) (hR : 0 ≤ R) : ∀ n, n ≤ s.length → sm (tk s R) n = mn R (sm (wt s) n) := by
  intro n
  induction n with
 |zero => intro _; simp only [sm]; exact (mn_ge hR).symm
 |succ n ih =>
    intro hn
    have w0:=hs n (by omega)
    simp only [sm]
    rw [ih (by omega)]
    unfold tk mn mx
    repeat' split
    all_goals omega
def up1 (f : Nat → Int) (i : Nat) (v : Int) (j : Nat) : Int := if j = i then v else f j
structure BS (sb sa : List Sg) (lost S D : Int) (b a : Nat → Int) (M i k : Int) : Prop where
  tb : Tk sb b
  ta : Tk sa a
  sum : sm b sb.length + sm a sa.length = D
  most : sm a sa.length + M = S
  m0 : 0 ≤ M
  z : ∀ j, j < sb.length → i < (j : Int) → b j = 0
  f : ∀ j, j < sa.length → (j : Int) < k → a j = wt sa j
  ib : -1 ≤ i ∧ i < (sb.length : Int)
  kb : 0 ≤ k ∧ k ≤ (sa.length : Int)
  ex : sm a sa.length = lost ∨ ∀ j, j < sa.length → 0 < a j → ∀ i, i < sb.length → b i < wt sb i → pc sa j ≤ pc sb i
structure BF (sb sa : List Sg) (lost S D : Int) (b a : Nat → Int) : Prop where
  tb : Tk sb b
  ta : Tk sa a
  sum : sm b sb.length + sm a sa.length = D
  most : sm a sa.length ≤ S
  ex : sm a sa.length = lost ∨ ∀ j, j < sa.length → 0 < a j → ∀ i, i < sb.length → b i < wt sb i → pc sa j ≤ pc sb i
  ni : sm a sa.length = S ∨ ∀ j, j < sa.length → a j < wt sa j → ∀ i, i < sb.length → 0 < b i → pc sb i ≤ pc sa j
section
variable {sb sa : List Sg} {lost S D : Int} (wb : ∀ j, j < sb.length → 0 < wt sb j ∧ wt sb j ≤ 2000000) (wa : ∀ j, j < sa.length → 0 < wt sa j ∧ wt sa j ≤ 2000000) (lb : sb.length ≤ 1000) (la : sa.length ≤ 1000)
  (ob : ∀ i j, i ≤ j → j < sb.length → pc sb i ≤ pc sb j) (oa : ∀ i j, i ≤ j → j < sa.length → pc sa i ≤ pc sa j) (hS : S ≤ 2000000)
include wb wa lb la ob oa hS
omit wb wa lb la ob oa hS in
theorem BS.move {b a : Nat → Int} {M : Int} {i k : Nat} (h : BS sb sa lost S D b a M (i : Int) (k : Int)) (ob : ∀ i j, i ≤ j → j < sb.length → pc sb i ≤ pc sb j) (oa : ∀ i j, i ≤ j → j < sa.length → pc sa i ≤ pc sa j) (hk : k < sa.length) (hb : b i ≠ 0) (ha : a k ≠ wt sa k) (hp : ¬ pc sa k ≥ pc sb i) (n : Int)
    (hn : 0 < n ∧ n ≤ b i ∧ n ≤ wt sa k - a k ∧ n ≤ M) : BS sb sa lost S D (up1 b i (b i - n)) (up1 a k (a k + n)) (M - n) (i : Int) (k : Int):=by
  have hi : i < sb.length:=by have:=h.ib; omega
  have rb:=h.tb.rng i hi
  have ra:=h.ta.rng k hk
  have s1 : sm (up1 b i (b i - n)) sb.length = sm b sb.length - n:=by
    have:=sm_upd (f:=b) i (b i - n) sb.length
    rw [if_pos hi] at this
    have e : sm (up1 b i (b i - n)) sb.length = sm (fun j => if j = i then b i - n else b j) sb.length:=rfl
    rw [e, this]
    omega
  have s2 : sm (up1 a k (a k + n)) sa.length = sm a sa.length + n:=by
    have:=sm_upd (f:=a) k (a k + n) sa.length
    rw [if_pos hk] at this
    have e : sm (up1 a k (a k + n)) sa.length = sm (fun j => if j = k then a k + n else a j) sa.length:=rfl
    rw [e, this]
    omega
  have past : ∀ j, j < sa.length → k < j → a j = 0:=fun j hj hkj => by
    have r:=h.ta.rng j hj
    apply Decidable.byContradiction
    intro c
    exact ha (h.ta.pf j k hj hkj (by omega))
  have before : ∀ j, j < i → b j = wt sb j:=fun j hj => h.tb.pf i j hi hj (by omega)
  refine ⟨⟨fun j hj => ?_, fun j i' hj hij hpos => ?_⟩,⟨fun j hj => ?_, fun j i' hj hij hpos => ?_⟩, by rw [s1, s2]; have:=h.sum; omega, by rw [s2]; have:=h.most; omega, by omega, fun j hj hij => ?_, fun j hj hjk => ?_, h.ib, h.kb, .inr (fun j hj hpos i' hi' hlt => ?_)⟩
  · unfold up1
    by_cases e : j = i
    · subst e; rw [if_pos rfl]; omega
    · rw [if_neg e]; exact h.tb.rng j hj
  · unfold up1 at hpos ⊢
    have ji : j ≤ i:=by
      apply Decidable.byContradiction
      intro c
      rw [if_neg (by omega), h.z j hj (by omega)] at hpos
      omega
    rw [if_neg (by omega)]
    exact before i' (by omega)
  · unfold up1
    by_cases e : j = k
    · subst e; rw [if_pos rfl]; omega
    · rw [if_neg e]; exact h.ta.rng j hj
  · unfold up1 at hpos ⊢
    have jk : j ≤ k:=by
      apply Decidable.byContradiction
      intro c
      rw [if_neg (by omega), past j hj (by omega)] at hpos
      omega
    rw [if_neg (by omega)]
    exact h.f i' (by omega) (by omega)
  · unfold up1
    rw [if_neg (by omega)]
    exact h.z j hj hij
  · unfold up1
    rw [if_neg (by omega)]
    exact h.f j hj hjk
  · unfold up1 at hpos hlt
    have jk : j ≤ k:=by
      apply Decidable.byContradiction
      intro c
      rw [if_neg (by omega), past j hj (by omega)] at hpos
      omega
    have ii : i ≤ i':=by
      apply Decidable.byContradiction
      intro c
      rw [if_neg (by omega), before i' (by omega)] at hlt
      omega
    have p1:=oa j k jk hk
    have p2:=ob i i' ii hi'
    omega
theorem better_ev : ∀ (X : Nat) (b a : Nat → Int) (M i k : Int), (i + 1) + ((sa.length : Int) - k) = (X : Int) → BS sb sa lost S D b a M i k →
    ∃ b' a', BF sb sa lost S D b' a' ∧ Evt (fun r => reserve_better.l0 r sb sa (tab b sb.length) (tab a sa.length) M i k) (tab b' sb.length, tab a' sa.length):=by
  intro X
  induction X using Nat.strongRecOn with
 |_ X ih =>
  have stuck : ∀ (b a : Nat → Int) (M i k : Int),(i + 1) + ((sa.length : Int) - k) = (X : Int) → BS sb sa lost S D b a M i k → (M = 0 ∨ i < 0 ∨ (sa.length : Int) ≤ k ∨ b i.toNat = 0 ∨ a k.toNat = wt sa k.toNat) →
      ∃ b' a', BF sb sa lost S D b' a' ∧ Evt (fun r => reserve_better.l0 r sb sa (tab b sb.length) (tab a sa.length) M i k) (tab b' sb.length, tab a' sa.length):=by
    intro b a M i k hX h hst
    have ib:=h.ib
    have kb:=h.kb
    have m0:=h.m0
    have stop : ∀ x27 : Bool, x27 = false → Evt (fun r => reserve_better.j1 r sb sa (tab b sb.length) (tab a sa.length) M i k x27) (tab b sb.length, tab a sa.length):=by
      intro x27 hx
      refine Evt.succ ?_
      simp only [reserve_better.j1]
      exact Evt.ite_neg (by rw [hx]; decide) (Evt.pure _)
    by_cases c1 : i < 0
    · refine ⟨b, a, ⟨h.tb, h.ta, h.sum, by have:=h.most; omega, h.ex, .inr (fun j hj _ i' hi' hb => by rw [h.z i' hi' (by omega)] at hb; omega)⟩, Evt.succ ?_⟩
      simp only [reserve_better.l0]
      exact Evt.ite_neg (by omega) (stop _ rfl)
    · by_cases c2 : (sa.length : Int) ≤ k
      · refine ⟨b, a, ⟨h.tb, h.ta, h.sum, by have:=h.most; omega, h.ex, .inr (fun j hj hlt i' hi' hb => by rw [h.f j hj (by omega)] at hlt; omega)⟩, Evt.succ ?_⟩
        simp only [reserve_better.l0]
        exact Evt.ite_pos (by omega) (Evt.ite_neg (by omega) (stop _ rfl))
      · by_cases c3 : M > 0
        · obtain ⟨ni, hni⟩ : ∃ ni : Nat, i = (ni : Int):=⟨i.toNat, by omega⟩
          obtain ⟨nk, hnk⟩ : ∃ nk : Nat, k = (nk : Int):=⟨k.toNat, by omega⟩
          subst hni
          subst hnk
          have hi : ni < sb.length:=by omega
          have hk : nk < sa.length:=by omega
          have go : ∀ r, Evt (fun r => if (rd (tab b sb.length) (ni : Int)) = 0 then (reserve_better.l0 r sb sa (tab b sb.length) (tab a sa.length) M (wrap64 ((ni : Int) - 1)) (nk : Int)) else (if 0 ≤ (nk : Int) then (if (nk : Int) < ((tab a sa.length).length : Int) then (if (nk : Int) < (sa.length : Int) then (if (rd (tab a sa.length) (nk : Int)) = ((rd_T82 sa (nk : Int)).f1) then (reserve_better.l0 r sb sa (tab b sb.length) (tab a sa.length) M (ni : Int) (wrap64 ((nk : Int) + 1))) else none) else none) else none) else none)) r → (b ni = 0 ∨ a nk = wt sa nk) →
              Evt (fun r => reserve_better.l0 r sb sa (tab b sb.length) (tab a sa.length) M (ni : Int) (nk : Int)) r:=by
            intro r H hz
            refine Evt.succ ?_
            simp only [reserve_better.l0]
            refine Evt.ite_pos (by omega) (Evt.ite_pos (by omega) (Evt.succ ?_))
            simp only [reserve_better.j1]
            refine Evt.ite_pos (decide_eq_true c3) (Evt.ite_pos (by omega) (Evt.ite_pos (by rw [tab_len]; omega) ?_))
            by_cases d : b ni = 0
            · have d' : rd (tab b sb.length) (ni : Int) = 0:=by rw [tab_get b hi]; exact d
              refine Evt.ite_pos d' ?_
              simp only [if_pos d'] at H
              exact H
            · have d' : ¬ rd (tab b sb.length) (ni : Int) = 0:=by rw [tab_get b hi]; exact d
              have e' : rd (tab a sa.length) (nk : Int) = ((rd_T82 sa (nk : Int)).f1):=by
                rw [tab_get a hk]
                exact hz.resolve_left d
              have l1 : (nk : Int) < ((tab a sa.length).length : Int):=by rw [tab_len]; omega
              refine Evt.ite_neg d' (Evt.ite_pos (by omega) (Evt.ite_pos l1 (Evt.ite_pos (by omega) (Evt.ite_pos e' ?_))))
              simp only [if_neg d', if_pos (show 0 ≤ (nk : Int) by omega), if_pos l1, if_pos (show (nk : Int) < (sa.length : Int) by omega), if_pos e'] at H
              exact H
          have hz : b ni = 0 ∨ a nk = wt sa nk:=by
            rcases hst with e|e|e|e|e
            · omega
            · omega
            · omega
            · rw [Int.toNat_natCast] at e; exact .inl e
            · rw [Int.toNat_natCast] at e; exact .inr e
          by_cases d : b ni = 0
          · obtain ⟨b', a', g1, g2⟩:=ih (X - 1) (by omega) b a M ((ni : Int) - 1) (nk : Int) (by omega) ⟨h.tb, h.ta, h.sum, h.most, h.m0, fun j hj hij => by
              by_cases e : j = ni
              · subst e; exact d
              · exact h.z j hj (by omega), h.f, by omega, h.kb, h.ex⟩
            refine ⟨b', a', g1, go _ ?_ hz⟩
            refine Evt.ite_pos (by rw [tab_get b hi]; exact d) ?_
            rw [wrap64_of (x:=(ni : Int) - 1) (by omega) (by omega)]
            exact g2
          · have ha:=hz.resolve_left d
            obtain ⟨b', a', g1, g2⟩:=ih (X - 1) (by omega) b a M (ni : Int) ((nk : Int) + 1) (by omega) ⟨h.tb, h.ta, h.sum, h.most, h.m0, h.z, fun j hj hjk => by
              by_cases e : j = nk
              · subst e; exact ha
              · exact h.f j hj (by omega), h.ib, by omega, h.ex⟩
            refine ⟨b', a', g1, go _ ?_ hz⟩
            have l1 : (nk : Int) < ((tab a sa.length).length : Int):=by rw [tab_len]; omega
            have e' : rd (tab a sa.length) (nk : Int) = ((rd_T82 sa (nk : Int)).f1):=by rw [tab_get a hk]; exact ha
            refine Evt.ite_neg (by rw [tab_get b hi]; exact d) (Evt.ite_pos (by omega) (Evt.ite_pos l1 (Evt.ite_pos (by omega) (Evt.ite_pos e' ?_))))
            rw [wrap64_of (x:=(nk : Int) + 1) (by omega) (by omega)]
            exact g2
        · refine ⟨b, a, ⟨h.tb, h.ta, h.sum, by have:=h.most; omega, h.ex, .inl (by have:=h.most; omega)⟩, Evt.succ ?_⟩
          simp only [reserve_better.l0]
          exact Evt.ite_pos (by omega) (Evt.ite_pos (by omega) (stop _ (decide_eq_false c3)))
  intro b a M i k hX h
  by_cases hst : M = 0 ∨ i < 0 ∨ (sa.length : Int) ≤ k ∨ b i.toNat = 0 ∨ a k.toNat = wt sa k.toNat
  · exact stuck b a M i k hX h hst
  · have ib:=h.ib
    have kb:=h.kb
    have m0:=h.m0
    obtain ⟨ni, hni⟩ : ∃ ni : Nat, i = (ni : Int):=⟨i.toNat, by omega⟩
    obtain ⟨nk, hnk⟩ : ∃ nk : Nat, k = (nk : Int):=⟨k.toNat, by omega⟩
    subst hni
    subst hnk
    rw [Int.toNat_natCast, Int.toNat_natCast] at hst
    have hi : ni < sb.length:=by omega
    have hk : nk < sa.length:=by omega
    have hb : b ni ≠ 0:=fun e => hst (.inr (.inr (.inr (.inl e))))
    have ha : a nk ≠ wt sa nk:=fun e => hst (.inr (.inr (.inr (.inr e))))
    have rb:=h.tb.rng ni hi
    have ra:=h.ta.rng nk hk
    have w1:=wb ni hi
    have w2:=wa nk hk
    have top : ∀ r, Evt (fun r => if pc sa nk ≥ pc sb ni then some (tab b sb.length, tab a sa.length) else (reserve_better.l0 r sb sa (tab (up1 b ni (b ni - mn (mn (b ni) (wt sa nk - a nk)) M)) sb.length) (tab (up1 a nk (a nk + mn (mn (b ni) (wt sa nk - a nk)) M)) sa.length) (M - mn (mn (b ni) (wt sa nk - a nk)) M) (ni : Int) (nk : Int))) r →
        Evt (fun r => reserve_better.l0 r sb sa (tab b sb.length) (tab a sa.length) M (ni : Int) (nk : Int)) r:=by
      intro r H
      refine Evt.succ ?_
      simp only [reserve_better.l0]
      refine Evt.ite_pos (by omega) (Evt.ite_pos (by omega) (Evt.succ ?_))
      simp only [reserve_better.j1, tab_len, rdPt]
      have mb : 0 ≤ mn (mn (b ni) (wt sa nk - a nk)) M ∧ mn (mn (b ni) (wt sa nk - a nk)) M ≤ b ni ∧ mn (mn (b ni) (wt sa nk - a nk)) M ≤ wt sa nk - a nk ∧ mn (mn (b ni) (wt sa nk - a nk)) M ≤ M:=by
        unfold mn
        repeat' split
        all_goals omega
      have Ms : M ≤ 2000000:=by
        have:=h.most
        have:=sm_nonneg (f:=a) sa.length (fun i hi => (h.ta.rng i hi).1)
        omega
      have e1 : (sa.getD nk z82).f1 = wt sa nk:=rfl
      rw [tab_get b hi, tab_get a hk, e1, wrap64_of (x:=wt sa nk - a nk) (by omega) (by omega)]
      generalize hg : mn (mn (b ni) (wt sa nk - a nk)) M = g at *
      rw [wrap64_of (x:=b ni - g) (by omega) (by omega), wrap64_of (x:=a nk + g) (by omega) (by omega), wrap64_of (x:=M - g) (by omega) (by omega), tab_set, tab_set]
      refine Evt.ite_pos (decide_eq_true (by omega)) (Evt.ite_pos (by omega) (Evt.ite_pos (by omega) (Evt.ite_neg hb (Evt.ite_pos (by omega) (Evt.ite_pos (by omega) (Evt.ite_pos (by omega) (Evt.ite_neg ha (Evt.ite_pos (by omega) ?_))))))))
      exact H
    by_cases c : pc sa nk ≥ pc sb ni
    · refine ⟨b, a, ⟨h.tb, h.ta, h.sum, by have:=h.most; omega, h.ex, .inr (fun j hj hlt i' hi' hpos => ?_)⟩, top _ (Evt.ite_pos c (Evt.pure _))⟩
      have j1 : nk ≤ j:=by
        apply Decidable.byContradiction
        intro cc
        rw [h.f j hj (by omega)] at hlt
        omega
      have j2 : i' ≤ ni:=by
        apply Decidable.byContradiction
        intro cc
        rw [h.z i' hi' (by omega)] at hpos
        omega
      have:=oa nk j j1 hj
      have:=ob i' ni j2 hi
      omega
    · have hn : 0 < mn (mn (b ni) (wt sa nk - a nk)) M ∧ mn (mn (b ni) (wt sa nk - a nk)) M ≤ b ni ∧ mn (mn (b ni) (wt sa nk - a nk)) M ≤ wt sa nk - a nk ∧ mn (mn (b ni) (wt sa nk - a nk)) M ≤ M:=by
        unfold mn
        repeat' split
        all_goals omega
      obtain ⟨b', a', g1, g2⟩:=stuck _ _ _ (ni : Int) (nk : Int) hX (h.move ob oa hk hb ha c _ hn) (by
        rw [Int.toNat_natCast, Int.toNat_natCast]
        unfold up1
        rw [if_pos rfl, if_pos rfl]
        unfold mn
        repeat' split
        all_goals omega)
      exact ⟨b', a', g1, top _ (Evt.ite_neg c g2)⟩
end
def roomU (l : List Un) (n : Nat) : Int := mn (faU l n) (mostU l n)
def rs (l : List Un) : Nat → Int
 |0 => 0
 |n + 1 => rs l n + roomU l n
theorem rs_bd {l : List Un} (h : ValU l) : ∀ n, n ≤ l.length → 0 ≤ rs l n ∧ rs l n ≤ 100000 * (n : Int) := by
  intro n
  induction n with
 |zero => intro _; simp [rs]
 |succ n ih =>
    intro hn
    have h0:=ih (by omega)
    have h1:=mostU_bd h n (by omega)
    have h2:=h.fast n (by omega)
    simp only [rs, roomU, mn]
    split <;> omega
theorem Possible_l0 (l : List Un) (h : ValU l) : ∀ n, n ≤ l.length → Evt (fun k => reserve_Possible.l0 k (rs l n) l (l.length : Int) (n : Int)) (rs l l.length, 0) := by
  have hl:=h.len
  refine down ?_ ?_
  · refine Evt.succ ?_
    simp only [reserve_Possible.l0]
    exact Evt.ite_neg (by omega) (Evt.pure _)
  · intro n hn ih
    refine Evt.succ ?_
    simp only [reserve_Possible.l0]
    refine Evt.ite_pos (by omega) (Evt.ite_pos (by omega) (Evt.ite_pos (by omega) ?_))
    simp only [rdU0, rdU1, rdU2, reserve_room.f]
    refine Evt.bind (g:=fun k => (offer_Most.f k (nmU l n) (stU l n)).bind fun t142 => some (mn (faU l n) t142)) (Evt.bind (Most_ev _ _ (h.one n hn).2.1) (Evt.pure _)) ?_
    have hb:=rs_bd h (n + 1) (by omega)
    have e : rs l n + mn (faU l n) (tot (stU l n) (stU l n).length) = rs l (n + 1):=rfl
    rw [e, wrap64_of (x:=rs l (n + 1)) (by omega) (by omega), wrap64_nat (by omega)]
    exact ih
theorem Possible_ev (l : List Un) (hl : l.length * 48 ≤ 140737488351232) : Evt (fun k => reserve_Possible.f k l) (if unErr l = 0 then (rs l l.length, 0) else (0, unErr l)) := by
  simp only [reserve_Possible.f]
  refine Evt.bind (reserve_Check_ev l hl) ?_
  by_cases h : unErr l = 0
  · rw [if_pos h]
    exact Evt.ite_pos h (Possible_l0 l (unErr_ok h).1 0 (by omega))
  · rw [if_neg h]
    exact Evt.ite_neg h (Evt.pure _)
theorem rs_sm (u : List Un) : ∀ n, rs u n = sm (roomU u) n := by
  intro n
  induction n with
 |zero => rfl
 |succ n ih => simp only [rs, sm]; rw [ih]
structure Feas (u : List Un) (D need : Int) (q : Nat → Int) : Prop where
  rng : ∀ i, i < u.length → 0 ≤ q i ∧ q i ≤ mostU u i
  sum : sm q u.length = D
  held : need ≤ sm (fun i => mn (faU u i) (mostU u i - q i)) u.length
section
variable {u : List Un} (h : ValU u) (hv : Vals (ofs u))
include h
theorem held_eq (q : Nat → Int) (hq : ∀ i, i < u.length → 0 ≤ q i ∧ q i ≤ mostU u i) : sm (fun i => mn (faU u i) (mostU u i - q i)) u.length = rs u u.length - sm (fun i => mx 0 (q i - knU u i)) u.length := by
  have e : sm (fun i => mn (faU u i) (mostU u i - q i) + mx 0 (q i - knU u i)) u.length = sm (roomU u) u.length:=sm_congr _ (fun i hi => by
    have:=hq i hi
    have:=h.fast i hi
    show mn (faU u i) (mostU u i - q i) + mx 0 (q i - knU u i) = roomU u i
    unfold knU roomU mn mx
    repeat' split
    all_goals omega)
  rw [sm_add] at e
  rw [rs_sm]
  omega
theorem kn_sum : sm (knU u) u.length + rs u u.length = sm (mostU u) u.length := by
  rw [rs_sm, ← sm_add]
  exact sm_congr _ (fun i hi => by unfold knU roomU; omega)
theorem mo_bd : ∀ n, n ≤ u.length → 0 ≤ sm (mostU u) n ∧ sm (mostU u) n ≤ 100000 * (n : Int) := by
  intro n
  induction n with
 |zero => intro _; simp [sm]
 |succ n ih =>
    intro hn
    have:=ih (by omega)
    have:=mostU_bd h n (by omega)
    simp only [sm]
    omega
theorem bs_l2 (f : Nat → Int) (hf : ∀ i, i < u.length → 0 ≤ f i ∧ f i ≤ mostU u i) : ∀ n, n ≤ u.length → Evt (fun k => reserve_Best.l2 k (tab f u.length) (sm (cQ (ofs u) f) n) u (u.length : Int) (n : Int)) (tab f u.length, sm (cQ (ofs u) f) u.length, 0) := by
  have hl:=h.len
  have bd : ∀ n, n ≤ u.length → -1200000000000 * (n : Int) ≤ sm (cQ (ofs u) f) n ∧ sm (cQ (ofs u) f) n ≤ 1200000000000 * (n : Int):=by
    intro n
    induction n with
   |zero => intro _; simp [sm]
   |succ n ih =>
      intro hn
      have i1:=ih (by omega)
      have hv:=(h.one n (by omega)).2.1
      have i2:=cst_bd hv (f n) _ (Nat.le_refl _)
      have hvl:=hv.len
      have e : cQ (ofs u) f n = cst (stU u n) (f n) (stU u n).length:=by unfold cQ cstO; rw [stO_ofs u (by omega)]
      simp only [sm]
      rw [e]
      omega
  refine down ?_ ?_
  · refine Evt.succ ?_
    simp only [reserve_Best.l2]
    exact Evt.ite_neg (by omega) (Evt.pure _)
  · intro n hn ih
    have fb:=hf n hn
    have ok:=(h.one n hn).2.2
    have a2:=bd (n + 1) (by omega)
    have c1:=Cost_ev (nmU u n) (stU u n) (f n)
    have cr : costR (nmU u n) (stU u n) (f n) = (cst (stU u n) (f n) (stU u n).length, 0):=by
      unfold costR
      rw [if_pos ok, if_pos (show 0 ≤ f n ∧ f n ≤ tot (stU u n) (stU u n).length from fb)]
    rw [cr] at c1
    refine Evt.succ ?_
    simp only [reserve_Best.l2, rdU0, rdU1, tab_len]
    rw [tab_get f hn, wrap64_nat (n:=n) (by omega)]
    refine Evt.ite_pos (by omega) (Evt.ite_pos (by omega) (Evt.ite_pos (by omega) (Evt.ite_pos (by omega) (Evt.bind c1 ?_))))
    have e : sm (cQ (ofs u) f) n + cst (stU u n) (f n) (stU u n).length = sm (cQ (ofs u) f) (n + 1):=by
      simp only [sm]
      unfold cQ cstO
      rw [stO_ofs u hn]
    simp only []
    rw [e, wrap64_of (by omega) (by omega)]
    exact ih
theorem bs_l1 (b : List Int) (a : Nat → Int) (sa : List Sg) (la : sa.length ≤ 1000) (hu : ∀ j, j < sa.length → ∃ i, i < u.length ∧ un sa j = (i : Int)) (ha : ∀ j, j < sa.length → 0 ≤ a j) (g : Nat → Int) (hg : ∀ i, i < u.length → 0 ≤ g i ∧ g i + bu sa a sa.length i ≤ 2000000) (r : List Int × Int × Int)
    (H : Evt (fun k => reserve_Best.l2 k (tab (fun i => g i + bu sa a sa.length i) u.length) 0 u (u.length : Int) 0) r) :
    ∀ n, n ≤ sa.length → Evt (fun k => reserve_Best.l1 k u (tab a sa.length) (tab (fun i => g i + bu sa a n i) u.length) sa (sa.length : Int) (n : Int)) r:=by
  have nn : ∀ n, n ≤ sa.length → ∀ i, 0 ≤ bu sa a n i ∧ bu sa a n i ≤ bu sa a sa.length i:=fun n hn i => by
    have f0 : ∀ j, j < sa.length → 0 ≤ (if un sa j = (i : Int) then a j else 0):=fun j hj => by split; exact ha j hj; omega
    have x:=sm_mono (f:=fun j => if un sa j = (i : Int) then a j else 0) (N:=sa.length) f0 (a:=0) (b:=n) (by omega) hn
    have y:=sm_mono (f:=fun j => if un sa j = (i : Int) then a j else 0) (N:=sa.length) f0 (a:=n) (b:=sa.length) hn (Nat.le_refl _)
    exact ⟨x, y⟩
  refine down ?_ ?_
  · refine Evt.succ ?_
    simp only [reserve_Best.l1]
    exact Evt.ite_neg (by omega) H
  · intro n hn ih
    obtain ⟨i, hi, ei⟩:=hu n hn
    have n1:=nn (n + 1) (by omega) i
    have n0:=nn n (by omega) i
    have gi:=hg i hi
    have e1 : bu sa a (n + 1) i = bu sa a n i + a n:=by
      show bu sa a n i + (if un sa n = (i : Int) then a n else 0) = _
      rw [if_pos ei]
    have an:=ha n hn
    refine Evt.succ ?_
    simp only [reserve_Best.l1, rdPt, tab_len]
    have e0 : (sa.getD n z82).f0 = (i : Int):=ei
    rw [e0, tab_get _ hi, tab_get _ hn, wrap64_of (x:=g i + bu sa a n i + a n) (by omega) (by omega), wrap64_nat (n:=n) (by omega), tab_set]
    have e3 : tab (fun j => if j = i then g i + bu sa a n i + a n else g j + bu sa a n j) u.length = tab (fun i => g i + bu sa a (n + 1) i) u.length:=tab_congr (fun j hj => by
      by_cases c : j = i
      · subst c
        rw [if_pos rfl, e1]
        omega
      · rw [if_neg c]
        have : bu sa a (n + 1) j = bu sa a n j:=by
          show bu sa a n j + (if un sa n = (j : Int) then a n else 0) = _
          rw [if_neg (by omega)]
          omega
        rw [this])
    rw [e3]
    exact Evt.ite_pos (by omega) (Evt.ite_pos (by omega) (Evt.ite_pos (by omega) (Evt.ite_pos (by omega) (Evt.ite_pos (by omega) (Evt.ite_pos (by omega) ih)))))
theorem bs_l0 (a b : Nat → Int) (sa sb : List Sg) (lb : sb.length ≤ 1000) (hu : ∀ j, j < sb.length → ∃ i, i < u.length ∧ un sb j = (i : Int)) (hb : ∀ j, j < sb.length → 0 ≤ b j) (hg : ∀ i, i < u.length → bu sb b sb.length i ≤ 2000000) (r : List Int × Int × Int)
    (H : Evt (fun k => reserve_Best.l1 k u (tab a sa.length) (tab (bu sb b sb.length) u.length) sa (sa.length : Int) 0) r) :
    ∀ n, n ≤ sb.length → Evt (fun k => reserve_Best.l0 k u sa (tab b sb.length) (tab a sa.length) (tab (bu sb b n) u.length) sb (sb.length : Int) (n : Int)) r:=by
  have nn : ∀ n, n ≤ sb.length → ∀ i, 0 ≤ bu sb b n i ∧ bu sb b n i ≤ bu sb b sb.length i:=fun n hn i => by
    have f0 : ∀ j, j < sb.length → 0 ≤ (if un sb j = (i : Int) then b j else 0):=fun j hj => by split; exact hb j hj; omega
    have x:=sm_mono (f:=fun j => if un sb j = (i : Int) then b j else 0) (N:=sb.length) f0 (a:=0) (b:=n) (by omega) hn
    have y:=sm_mono (f:=fun j => if un sb j = (i : Int) then b j else 0) (N:=sb.length) f0 (a:=n) (b:=sb.length) hn (Nat.le_refl _)
    exact ⟨x, y⟩
  refine down ?_ ?_
  · refine Evt.succ ?_
    simp only [reserve_Best.l0]
    exact Evt.ite_neg (by omega) H
  · intro n hn ih
    obtain ⟨i, hi, ei⟩:=hu n hn
    have n1:=nn (n + 1) (by omega) i
    have n0:=nn n (by omega) i
    have gi:=hg i hi
    have e1 : bu sb b (n + 1) i = bu sb b n i + b n:=by
      show bu sb b n i + (if un sb n = (i : Int) then b n else 0) = _
      rw [if_pos ei]
    have an:=hb n hn
    refine Evt.succ ?_
    simp only [reserve_Best.l0, rdPt, tab_len]
    have e0 : (sb.getD n z82).f0 = (i : Int):=ei
    rw [e0, tab_get _ hi, tab_get _ hn, wrap64_of (x:=bu sb b n i + b n) (by omega) (by omega), wrap64_nat (n:=n) (by omega), tab_set]
    have e3 : tab (fun j => if j = i then bu sb b n i + b n else bu sb b n j) u.length = tab (bu sb b (n + 1)) u.length:=tab_congr (fun j hj => by
      by_cases c : j = i
      · subst c
        rw [if_pos rfl, e1]
      · rw [if_neg c]
        have : bu sb b (n + 1) j = bu sb b n j:=by
          show bu sb b n j + (if un sb n = (j : Int) then b n else 0) = _
          rw [if_neg (by omega)]
          omega
        rw [this])
    rw [e3]
    exact Evt.ite_pos (by omega) (Evt.ite_pos (by omega) (Evt.ite_pos (by omega) (Evt.ite_pos (by omega) (Evt.ite_pos (by omega) (Evt.ite_pos (by omega) ih)))))
include hv in
theorem bs_main (D need : Int) (hD : 0 ≤ D ∧ D ≤ 1000000) (hN : 0 ≤ need ∧ need ≤ 1000000) : ∃ out : List Int × Int × Int, Evt (fun k => reserve_Best.j0 k u D need (rs u u.length) false) out ∧
    ((out = ([], 0, 8) ∧ ∀ q, ¬ Feas u D need q) ∨ ∃ f, Feas u D need f ∧ (∀ q, Feas u D need q → sm (cQ (ofs u) f) u.length ≤ sm (cQ (ofs u) q) u.length) ∧ out = (tab f u.length, sm (cQ (ofs u) f) u.length, 0)):=by
  have hl:=h.len
  have ol:=ofs_len u
  obtain ⟨sb, sa, p1, pb, pa, ob, oa⟩:=parts_ev h
  rw [← ol] at pb pa
  have kb : ∀ i, i < (ofs u).length → 0 ≤ knU u i ∧ knU u i ≤ lastT (ofs u) i:=fun i hi => by
    rw [ol] at hi
    have:=knU_bd h i hi
    rw [most_last u hi]
    omega
  have bB : Bx (ofs u) (fun _ => 0) (knU u):=⟨fun i hi => Int.le_refl _, fun i hi => (kb i hi).1, fun i hi => (kb i hi).2⟩
  have bA : Bx (ofs u) (knU u) (lastT (ofs u)):=⟨fun i hi => (kb i hi).1, fun i hi => (kb i hi).2, fun i hi => Int.le_refl _⟩
  have z0 : ∀ n, sm (fun _ => (0 : Int)) n = 0:=fun n => by
    induction n with
   |zero => rfl
   |succ n ih => simp only [sm]; omega
  have wtot : ∀ s : List Sg, sm (wt s) s.length = wsum allS s:=fun s => by
    rw [wsum_sm]
    rfl
  have tb : sm (wt sb) sb.length = sm (knU u) u.length:=by
    have e:=SH_all hv bB _ (Nat.le_refl _)
    rw [wtot, ← wsum_perm allS pb, e, z0, ol]
    omega
  have lastsum : sm (lastT (ofs u)) u.length = sm (mostU u) u.length:=sm_congr _ (fun i hi => most_last u hi)
  have ks:=kn_sum h
  have ta : sm (wt sa) sa.length = rs u u.length:=by
    have e:=SH_all hv bA _ (Nat.le_refl _)
    rw [wtot, ← wsum_perm allS pa, e, ol, lastsum]
    omega
  have mb:=mo_bd h u.length (Nat.le_refl _)
  have rb:=rs_bd h u.length (Nat.le_refl _)
  have kb0 : 0 ≤ sm (knU u) u.length:=sm_nonneg _ (fun i hi => (knU_bd h i hi).1)
  have lb : sb.length ≤ 1000:=by
    have:=SH_len h (fun _ => 0) (knU u) u.length (Nat.le_refl _)
    have:=pb.length_eq
    rw [ol] at this
    omega
  have la : sa.length ≤ 1000:=by
    have:=SH_len h (knU u) (lastT (ofs u)) u.length (Nat.le_refl _)
    have:=pa.length_eq
    rw [ol] at this
    omega
  have ub:=perm_unit pb
  have ua:=perm_unit pa
  rw [ol] at ub ua
  have wle : ∀ s : List Sg, (∀ j, j < s.length → 0 < wt s j) → ∀ j, j < s.length → wt s j ≤ sm (wt s) s.length:=by
    intro s hs j hj
    have x:=sm_mono (f:=wt s) (N:=s.length) (fun i hi => by have:=hs i hi; omega) (a:=0) (b:=j) (by omega) (by omega)
    have y:=sm_mono (f:=wt s) (N:=s.length) (fun i hi => by have:=hs i hi; omega) (a:=j + 1) (b:=s.length) (by omega) (Nat.le_refl _)
    simp only [sm] at x y
    omega
  obtain ⟨lost, hlost⟩ : ∃ x, x = mx 0 (D - sm (knU u) u.length):=⟨_, rfl⟩
  have lostb : 0 ≤ lost ∧ lost ≤ 1000000 ∧ D - sm (knU u) u.length ≤ lost ∧ (lost = 0 ∨ lost = D - sm (knU u) u.length):=by rw [hlost]; unfold mx; split <;> omega
  have head : ∀ r, (∀ x67 : Bool, (x67 = true ↔ need > rs u u.length ∨ lost > rs u u.length - need) → Evt (fun k => reserve_Best.j1 k u D need (rs u u.length) sb sa lost x67) r) → Evt (fun k => reserve_Best.j0 k u D need (rs u u.length) false) r:=by
    intro r H
    refine Evt.succ ?_
    simp only [reserve_Best.j0]
    refine Evt.ite_neg (by decide) (Evt.bind p1 (Evt.bind (total_ev sb (fun j hj => (ub j hj).1) (by rw [tb]; omega) lb) ?_))
    simp only []
    rw [tb, wrap64_of (x:=D - sm (knU u) u.length) (by omega) (by omega), ← hlost, wrap64_of (x:=rs u u.length - need) (by omega) (by omega)]
    exact Evt.ite (fun c => H true ⟨fun _ => .inl c, fun _ => rfl⟩) (fun c => H _ ⟨fun c2 => .inr (of_decide_eq_true c2), fun c2 => decide_eq_true (c2.resolve_left c)⟩)
  by_cases bad : need > rs u u.length ∨ lost > rs u u.length - need
  · refine ⟨([], 0, 8), head _ (fun x67 hx => Evt.succ ?_), .inl ⟨rfl, fun q hq => ?_⟩⟩
    · simp only [reserve_Best.j1]
      exact Evt.ite_pos (hx.2 bad) (Evt.pure _)
    · have e:=held_eq h q hq.rng
      have hh:=hq.held
      rw [e] at hh
      have y0 : 0 ≤ sm (fun i => mx 0 (q i - knU u i)) u.length:=sm_nonneg _ (fun i hi => by show 0 ≤ mx 0 (q i - knU u i); unfold mx; split <;> omega)
      have y1 : sm q u.length ≤ sm (fun i => mx 0 (q i - knU u i) + knU u i) u.length:=sm_le _ (fun i hi => by show q i ≤ mx 0 (q i - knU u i) + knU u i; unfold mx; split <;> omega)
      rw [sm_add, hq.sum] at y1
      omega
  · have xb : D - lost = mn D (sm (knU u) u.length):=by rw [hlost]; unfold mx mn; split <;> split <;> omega
    have mnb : 0 ≤ D - lost ∧ D - lost ≤ sm (knU u) u.length:=by omega
    have t1:=taken_ev sb (fun j hj => (ub j hj).1) (by rw [tb]; omega) lb (D - lost) (by omega)
    have t2:=taken_ev sa (fun j hj => (ua j hj).1) (by rw [ta]; omega) la lost (by omega)
    have k1:=tk_sm sb (fun j hj => (ub j hj).1) (D - lost) mnb.1 _ (Nat.le_refl _)
    have k2:=tk_sm sa (fun j hj => (ua j hj).1) lost lostb.1 _ (Nat.le_refl _)
    rw [tb, mn_le mnb.2] at k1
    rw [ta, mn_le (by omega)] at k2
    obtain ⟨b, a, g, ev⟩:=better_ev (S:=rs u u.length - need) (D:=D) (lost:=lost) (fun j hj => ⟨(ub j hj).1, by have:=wle sb (fun j hj => (ub j hj).1) j hj; omega⟩) (fun j hj => ⟨(ua j hj).1, by have:=wle sa (fun j hj => (ua j hj).1) j hj; omega⟩) lb la ob oa (by omega)
      (sb.length + sa.length) (tk sb (D - lost)) (tk sa lost) (rs u u.length - need - lost) ((sb.length : Int) - 1) 0 (by omega)
      ⟨tk_Tk sb (fun j hj => (ub j hj).1) _ mnb.1, tk_Tk sa (fun j hj => (ua j hj).1) _ lostb.1, by rw [k1, k2]; omega, by rw [k2]; omega, by omega, fun j hj hij => by omega, fun j hj hjk => by omega, by omega, by omega, .inl k2⟩
    have two : Two (ofs u) (knU u) sb sa b a:=⟨hv, kb, pb, pa, ob, oa, g.tb, g.ta⟩
    have iB:=two.inB
    have iA:=two.inA
    rw [ol] at iB iA
    obtain ⟨f, hf⟩ : ∃ f : Nat → Int, f = fun i => bu sb b sb.length i + bu sa a sa.length i:=⟨_, rfl⟩
    have frng : ∀ i, i < u.length → 0 ≤ f i ∧ f i ≤ mostU u i:=fun i hi => by
      have x:=iB i hi
      have y:=iA i hi
      rw [most_last u hi] at y
      rw [hf]
      show 0 ≤ bu sb b sb.length i + bu sa a sa.length i ∧ bu sb b sb.length i + bu sa a sa.length i ≤ mostU u i
      omega
    have fsum : sm f u.length = D:=by
      rw [hf, sm_add, sm_bu sb b u.length (fun j hj => (ub j hj).2) _ (Nat.le_refl _), sm_bu sa a u.length (fun j hj => (ua j hj).2) _ (Nat.le_refl _)]
      exact g.sum
    have feas : Feas u D need f:=by
      refine ⟨frng, fsum, ?_⟩
      rw [held_eq h f frng]
      have : sm (fun i => mx 0 (f i - knU u i)) u.length ≤ sm (bu sa a sa.length) u.length:=sm_le _ (fun i hi => by
        have x:=iB i hi
        have y:=iA i hi
        rw [hf]
        show mx 0 (bu sb b sb.length i + bu sa a sa.length i - knU u i) ≤ bu sa a sa.length i
        unfold mx
        split <;> omega)
      rw [sm_bu sa a u.length (fun j hj => (ua j hj).2) _ (Nat.le_refl _)] at this
      have:=g.most
      omega
    refine ⟨(tab f u.length, sm (cQ (ofs u) f) u.length, 0), head _ (fun x67 hx => Evt.succ ?_), .inr ⟨f, feas, fun q hq => ?_, rfl⟩⟩
    · simp only [reserve_Best.j1]
      rw [wrap64_of (x:=D - lost) (by omega) (by omega), wrap64_of (x:=rs u u.length - need) (by omega) (by omega), wrap64_of (x:=rs u u.length - need - lost) (by omega) (by omega)]
      have bt : Evt (fun k => reserve_better.f k sb sa (tab (tk sb (D - lost)) sb.length) (tab (tk sa lost) sa.length) (rs u u.length - need - lost)) (tab b sb.length, tab a sa.length):=by
        simp only [reserve_better.f]
        rw [wrap64_of (x:=(sb.length : Int) - 1) (by omega) (by omega)]
        exact ev
      refine Evt.ite_neg (fun c => bad (hx.1 c)) (Evt.bind t1 (Evt.bind t2 (Evt.bind bt (Evt.ite_pos (by omega) (Evt.ite_pos (by omega) ?_)))))
      rw [Int.toNat_natCast, tab_zero]
      have l2:=bs_l2 h f frng 0 (by omega)
      have l1:=bs_l1 h [] a sa la (fun j hj => (ua j hj).2) (fun j hj => (g.ta.rng j hj).1) (bu sb b sb.length) (fun i hi => by
        have x:=iB i hi
        have y:=frng i hi
        have z:=knU_bd h i hi
        rw [hf] at y
        have y2 : bu sb b sb.length i + bu sa a sa.length i ≤ mostU u i:=y.2
        omega) _ (by
        have e : (fun i => bu sb b sb.length i + bu sa a sa.length i) = f:=hf.symm
        rw [e]
        exact l2) 0 (by omega)
      have e1 : tab (fun i => bu sb b sb.length i + bu sa a 0 i) u.length = tab (bu sb b sb.length) u.length:=tab_congr (fun i hi => by show _ + 0 = _; omega)
      rw [e1] at l1
      have l0:=bs_l0 h a b sa sb lb (fun j hj => (ub j hj).2) (fun j hj => (g.tb.rng j hj).1) (fun i hi => by have x:=iB i hi; have z:=knU_bd h i hi; omega) _ l1 0 (by omega)
      have e0 : tab (bu sb b 0) u.length = tab (fun _ => 0) u.length:=tab_congr (fun i hi => rfl)
      rw [e0] at l0
      exact l0
    · have bst:=two.best lost (rs u u.length - need) D g.sum (.inr lostb.1) (by rw [ol]; exact hlost) g.ex g.ni q (fun i hi => by rw [ol] at hi; rw [most_last u hi]; exact hq.rng i hi) (by rw [ol]; exact hq.sum) (by
        rw [ol]
        have e:=held_eq h q hq.rng
        have hh:=hq.held
        rw [e] at hh
        omega) g.most
      rw [ol] at bst
      rw [hf]
      exact bst
end
end Go.Proofs.Ytekpnmeikibioaa.DReserveBest
