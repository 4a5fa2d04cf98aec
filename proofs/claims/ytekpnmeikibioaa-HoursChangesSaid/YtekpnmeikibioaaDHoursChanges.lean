import Derived.Test.YtekpnmeikibioaaCHoursChanges
import Derived.Test.YtekpnmeikibioaaHHoursChangesy10
namespace Go.Proofs.Ytekpnmeikibioaa.DHoursChanges
open Go.RowKit Go.Proofs.YtekpnmeikibioaaW.PrintWords Go.Proofs.YtekpnmeikibioaaW.PrintMore Go.Proofs.Ytekpnmeikibioaa.Evs Go.Proofs.Ytekpnmeikibioaa.PHoursChanges Go.Proofs.Ytekpnmeikibioaa.BHoursChanges Go.Proofs.Ytekpnmeikibioaa.CHoursChanges Go.Proofs.Ytekpnmeikibioaa.ZHoursChanges Go.Proofs.Ytekpnmeikibioaa.XHoursChanges
set_option linter.unusedVariables false
set_option linter.unusedSectionVars false
set_option linter.unusedSimpArgs false
def loH (p : List Int) (M : Int) (i : Nat) : Int := mx 0 (pn p i - M)
def hiH (l : List Of) (p : List Int) (M : Int) (i : Nat) : Int := mn (lastT l i) (pn p i + M)
theorem rdG (s : List Sg) (n : Nat) : rd_T99 s (n : Int) = s.getD n z99 := Eq.trans rfl rfl
theorem tab_pn (f : Nat → Int) {n i : Nat} (h : i < n) : pn (tab f n) i = f i := (rdp (tab f n) i).symm.trans (tab_get f h)
def plStep (l : List Of) (p : List Int) (D M : Int) : Nat → Nat → Int
 |0, _ => if (0 ≤ D ∧ D ≤ 1000000) ∧ 0 ≤ M ∧ M ≤ 100000 then 0 else 1
 |d + 1, n => if 0 ≤ pn p n ∧ pn p n ≤ lastT l n then plStep l p D M d (n + 1) else 4
def chErr (l : List Of) (p : List Int) (D M : Int) : Int := if offsErr l = 0 then (if p.length = l.length then plStep l p D M l.length 0 else 3) else offsErr l
structure Pl (l : List Of) (p : List Int) (D M : Int) : Prop where
  v : Vals l
  len : p.length = l.length
  rng : ∀ i, i < l.length → 0 ≤ pn p i ∧ pn p i ≤ lastT l i
  hD : 0 ≤ D ∧ D ≤ 1000000
  hM : 0 ≤ M ∧ M ≤ 100000
theorem plStep_ok (l : List Of) (p : List Int) (D M : Int) : ∀ d n, n + d = l.length → plStep l p D M d n = 0 → ((0 ≤ D ∧ D ≤ 1000000) ∧ 0 ≤ M ∧ M ≤ 100000) ∧ ∀ i, n ≤ i → i < l.length → 0 ≤ pn p i ∧ pn p i ≤ lastT l i := by
  intro d
  induction d with
 |zero =>
    intro n hn h
    simp only [plStep] at h
    by_cases c : (0 ≤ D ∧ D ≤ 1000000) ∧ 0 ≤ M ∧ M ≤ 100000
    · exact ⟨c, fun i h1 h2 => by omega⟩
    · rw [if_neg c] at h
      omega
 |succ d ih =>
    intro n hn h
    simp only [plStep] at h
    by_cases c : 0 ≤ pn p n ∧ pn p n ≤ lastT l n
    · rw [if_pos c] at h
      obtain ⟨g1, g2⟩:=ih (n + 1) (by omega) h
      refine ⟨g1, fun i h1 h2 => ?_⟩
      by_cases e : i = n
      · subst e
        exact c
      · exact g2 i (by omega) h2
    · rw [if_neg c] at h
      omega
theorem chErr_ok {l : List Of} {p : List Int} {D M : Int} (h : chErr l p D M = 0) : Pl l p D M := by
  unfold chErr at h
  by_cases c : offsErr l = 0
  · rw [if_pos c] at h
    by_cases c2 : p.length = l.length
    · rw [if_pos c2] at h
      obtain ⟨g1, g2⟩:=plStep_ok l p D M l.length 0 (by omega) h
      exact ⟨offsErr_val c, c2, fun i hi => g2 i (by omega) hi, g1.1, g1.2⟩
    · rw [if_neg c2] at h
      omega
  · rw [if_neg c] at h
    exact absurd h c
section
variable {l : List Of} {p : List Int} {D M : Int} (h : Pl l p D M)
include h
theorem Pl.bx : Bx l (loH p M) (hiH l p M) := by
  refine ⟨fun i hi => ?_, fun i hi => ?_, fun i hi => ?_⟩
  · unfold loH mx
    split <;> omega
  · have:=h.rng i hi
    have:=h.hM
    unfold loH hiH mx mn
    repeat' split
    all_goals omega
  · unfold hiH mn
    split <;> omega
theorem Pl.bd (i : Nat) (hi : i < l.length) : 0 ≤ loH p M i ∧ loH p M i ≤ hiH l p M i ∧ hiH l p M i ≤ lastT l i ∧ lastT l i ≤ 100000 ∧ loH p M i ≤ pn p i ∧ pn p i ≤ hiH l p M i := by
  have b:=h.bx
  have:=h.rng i hi
  have:=h.hM
  refine ⟨b.h0 i hi, b.h1 i hi, b.h2 i hi, (lastT_bd h.v i hi).2, ?_, ?_⟩
  · unfold loH mx
    split <;> omega
  · unfold hiH mn
    split <;> omega
theorem cQ_bd (f : Nat → Int) : ∀ n, n ≤ l.length → -1200000000000 * (n : Int) ≤ sm (cQ l f) n ∧ sm (cQ l f) n ≤ 1200000000000 * (n : Int) := by
  intro n
  induction n with
 |zero => intro _; simp [sm]
 |succ n ih =>
    intro hn
    have i1:=ih (by omega)
    have i2:=cstO_bd h.v n (by omega) (f n)
    simp only [sm]
    unfold cQ at i1 ⊢
    omega
theorem loH_bd : ∀ n, n ≤ l.length → 0 ≤ sm (loH p M) n ∧ sm (loH p M) n ≤ 100000 * (n : Int) := by
  intro n
  induction n with
 |zero => intro _; simp [sm]
 |succ n ih =>
    intro hn
    have i1:=ih (by omega)
    have i2:=h.bd n (by omega)
    simp only [sm]
    omega
theorem ch_l4 (f : Nat → Int) (hf : InB l (loH p M) (hiH l p M) f) : ∀ n, n ≤ l.length →
    Evt (fun k => hours_Change.l4 k p (tab f l.length) l (l.length : Int) (n : Int) (tab (fun i => if i < n then f i - pn p i else 0) l.length) (sm (cQ l f) n - sm (cQ l (pn p)) n)) (tab (fun i => f i - pn p i) l.length, sm (cQ l f) l.length - sm (cQ l (pn p)) l.length, 0):=by
  have hl:=h.v.len
  refine down ?_ ?_
  · refine Evt.succ ?_
    simp only [hours_Change.l4]
    rw [tab_congr (g:=fun i => f i - pn p i) (fun i hi => if_pos hi)]
    exact Evt.ite_neg (by omega) (Evt.pure _)
  · intro n hn ih
    have fb:=hf n hn
    have nb:=h.bd n hn
    have ok:=(h.v.one n hn).2.2.1
    have a1:=cQ_bd h f n (by omega)
    have a2:=cQ_bd h f (n + 1) (by omega)
    have a3:=cQ_bd h (pn p) n (by omega)
    have a4:=cQ_bd h (pn p) (n + 1) (by omega)
    have hp:=h.len
    have cr : ∀ x, 0 ≤ x → x ≤ lastT l n → costR (nmO l n) (stO l n) x = (cstO l n x, 0):=by
      intro x x0 x1
      unfold costR
      rw [if_pos ok, if_pos ⟨x0, x1⟩]
      rfl
    have c1:=Cost_ev (nmO l n) (stO l n) (pn p n)
    rw [cr _ (by omega) (by omega)] at c1
    have c2:=Cost_ev (nmO l n) (stO l n) (f n)
    rw [cr _ (by omega) (by omega)] at c2
    refine Evt.succ ?_
    simp only [hours_Change.l4, rdO0, rdO1, rdp, tab_len]
    rw [tab_pn f hn, wrap64_nat (n:=n) (by omega)]
    refine Evt.ite_pos (by omega) (Evt.ite_pos (by omega) (Evt.ite_pos (by omega) (Evt.ite_pos (by omega) (Evt.bind c1 (Evt.ite_pos (by omega) (Evt.bind c2 (Evt.ite_pos (by omega) ?_)))))))
    simp only []
    have e1 : sm (cQ l f) n - sm (cQ l (pn p)) n + cstO l n (f n) = sm (cQ l f) (n + 1) - sm (cQ l (pn p)) n:=by
      simp only [sm]
      unfold cQ
      omega
    have e2 : sm (cQ l f) (n + 1) - sm (cQ l (pn p)) n - cstO l n (pn p n) = sm (cQ l f) (n + 1) - sm (cQ l (pn p)) (n + 1):=by
      simp only [sm]
      unfold cQ
      omega
    rw [tab_set, wrap64_of (x:=f n - pn p n) (by omega) (by omega), wrap64_of (x:=sm (cQ l f) n - sm (cQ l (pn p)) n + cstO l n (f n)) (by omega) (by omega), e1, wrap64_of (x:=sm (cQ l f) (n + 1) - sm (cQ l (pn p)) n - cstO l n (pn p n)) (by omega) (by omega), e2]
    have e3 : tab (fun j => if j = n then f n - pn p n else if j < n then f j - pn p j else 0) l.length = tab (fun i => if i < n + 1 then f i - pn p i else 0) l.length:=tab_congr (fun i hi => by
      by_cases e : i = n
      · subst e
        rw [if_pos rfl, if_pos (by omega)]
      · rw [if_neg e]
        by_cases e2 : i < n
        · rw [if_pos e2, if_pos (by omega)]
        · rw [if_neg e2, if_neg (by omega)])
    rw [e3]
    exact ih
theorem ch_l3 (s : List Sg) (hs : ∀ x ∈ s, 0 < x.f1 ∧ ∃ j, j < l.length ∧ x.f0 = (j : Int)) (hlen : s.length ≤ 1000) (r : List Int × Int × Int) :
    ∀ d n (g : Nat → Int) (R : Int), n + d = s.length → 0 ≤ R → R ≤ 1000000 → (∀ i, i < l.length → 0 ≤ g i ∧ g i + R ≤ 2000000) →
      Evt (fun k => if fillR (s.drop n) R > 0 then some (([] : List Int), 0, 8) else (hours_Change.l4 k p (tab (fillG (s.drop n) g R) l.length) l (l.length : Int) 0 (tab (fun _ => 0) l.length) 0)) r →
      Evt (fun k => hours_Change.l3 k l p (tab g l.length) R s (s.length : Int) (n : Int)) r:=by
  have hl:=h.v.len
  intro d
  induction d with
 |zero =>
    intro n g R hn h0 h1 hg H
    obtain rfl : n = s.length:=by omega
    rw [List.drop_length] at H
    refine Evt.succ ?_
    simp only [hours_Change.l3]
    refine Evt.ite_neg (by omega) ?_
    refine Evt.ite (fun c => ?_) (fun c => ?_)
    · have : fillR [] R > 0:=c
      simp only [if_pos this] at H
      exact H
    · have : ¬ fillR [] R > 0:=c
      simp only [if_neg this] at H
      refine Evt.ite_pos (by omega) (Evt.ite_pos (by omega) ?_)
      rw [Int.toNat_natCast, tab_zero]
      exact H
 |succ d ih =>
    intro n g R hn h0 h1 hg H
    have hn' : n < s.length:=by omega
    obtain ⟨x, ex⟩ : ∃ x, x = s[n]:=⟨_, rfl⟩
    have em : x ∈ s:=by rw [ex]; exact List.getElem_mem hn'
    have eg : s.getD n z99 = x:=by rw [ex]; simp [List.getD_eq_getElem?_getD, hn']
    have ed : s.drop n = x :: s.drop (n + 1):=by rw [ex]; exact List.drop_eq_getElem_cons hn'
    obtain ⟨x1, j, j1, j3⟩:=hs x em
    have gj:=hg j j1
    have bm : 0 ≤ mn x.f1 R ∧ mn x.f1 R ≤ R:=by
      unfold mn
      split <;> omega
    rw [ed] at H
    simp only [fillR, fillG] at H
    have ej : x.f0.toNat = j:=by omega
    have add : ∀ i, addS g x R i = if i = j then g j + mn x.f1 R else g i:=fun i => by unfold addS; rw [ej]
    have:=ih (n + 1) (addS g x R) (R - mn x.f1 R) (by omega) (by omega) (by omega) (fun i hi => by
      rw [add i]
      have:=hg i hi
      split
      · omega
      · omega) H
    refine Evt.succ ?_
    simp only [hours_Change.l3, rdG, tab_len]
    rw [eg, j3, tab_get g j1, wrap64_nat (n:=n) (by omega), wrap64_of (x:=R - mn x.f1 R) (by omega) (by omega), wrap64_of (x:=g j + mn x.f1 R) (by omega) (by omega), tab_set]
    have et : tab (fun i => if i = j then g j + mn x.f1 R else g i) l.length = tab (addS g x R) l.length:=tab_congr (fun i _ => (add i).symm)
    rw [et]
    exact Evt.ite_pos (by omega) (Evt.ite_pos (by omega) (Evt.ite_pos (by omega) (Evt.ite_pos (by omega) (Evt.ite_pos (by omega) this))))
theorem sgN_len (lo hi : Nat → Int) (i : Nat) : ∀ n, (sgN l lo hi i n).length ≤ n := by
  intro n
  induction n with
 |zero => simp [sgN]
 |succ n ih =>
    simp only [sgN, List.length_append]
    split <;> simp <;> omega
theorem SH_len (lo hi : Nat → Int) : ∀ n, n ≤ l.length → (SH l lo hi n).length ≤ 12 * n := by
  intro n
  induction n with
 |zero => intro _; simp [SH]
 |succ n ih =>
    intro hn
    have:=ih (by omega)
    have hv:=(h.v.one n (by omega)).2.1
    have h1:=sgN_len h lo hi n (stO l n).length
    have h2:=hv.len
    simp only [SH, List.length_append]
    omega
theorem ch_l2 (x14 : List Int) (x15 : Int) (acc : List Sg) (ha : acc.length ≤ 200) (r : List Int × Int × Int) (i : Nat) (hi : i < l.length)
    (H : Evt (fun k => hours_Change.l1 k l p M (acc ++ sgN l (loH p M) (hiH l p M) i (stO l i).length) x14 x15 l (l.length : Int) ((i + 1 : Nat) : Int)) r) :
    ∀ n, n ≤ (stO l i).length → Evt (fun k => hours_Change.l2 k l p M (acc ++ sgN l (loH p M) (hiH l p M) i n) x14 x15 (i : Int) (loH p M i) (hiH l p M i) (tot (stO l i) n) l (l.length : Int) (i : Int) (stO l i) ((stO l i).length : Int) (n : Int)) r:=by
  have hv:=(h.v.one i hi).2.1
  have hl:=h.v.len
  have hvl:=hv.len
  have nb:=h.bd i hi
  refine down ?_ ?_
  · refine Evt.succ ?_
    simp only [hours_Change.l2]
    rw [wrap64_nat (n:=i) (by omega)]
    exact Evt.ite_neg (by omega) H
  · intro n hn ih
    obtain ⟨w1, w2, _⟩:=hv.rng n hn
    have tb:=hv.bd n (by omega)
    have tb1:=hv.bd (n + 1) (by omega)
    have sl_:=sgN_len h (loH p M) (hiH l p M) i n
    have e : tot (stO l i) n + pw (stO l i) n = tot (stO l i) (n + 1):=rfl
    have ef : mx (tot (stO l i) n) (loH p M i) = fr l (loH p M) i n:=rfl
    have et : mn (tot (stO l i) (n + 1)) (hiH l p M i) = tu l (hiH l p M) i n:=rfl
    have b1 : 0 ≤ fr l (loH p M) i n ∧ fr l (loH p M) i n ≤ 200000 ∧ 0 ≤ tu l (hiH l p M) i n ∧ tu l (hiH l p M) i n ≤ 200000:=by
      unfold fr tu mn mx
      repeat' split
      all_goals omega
    refine Evt.succ ?_
    simp only [hours_Change.l2, rd0, rd1, List.length_append]
    rw [wrap64_nat (n:=n) (by omega), wrap64_of (x:=tot (stO l i) n + pw (stO l i) n) (by omega) (by omega), e, ef, et, wrap64_of (x:=tu l (hiH l p M) i n - fr l (loH p M) i n) (by omega) (by omega)]
    refine Evt.ite_pos (by omega) (Evt.ite_pos (by omega) (Evt.ite_pos (by omega) ?_))
    simp only [sgN] at ih
    by_cases c : fr l (loH p M) i n < tu l (hiH l p M) i n
    · rw [if_pos c, ← List.append_assoc] at ih
      exact Evt.ite_pos c (Evt.ite_pos (by omega) ih)
    · rw [if_neg c, List.append_nil] at ih
      exact Evt.ite_neg c ih
theorem ch_l1 (r : List Int × Int × Int)
    (H : Evt (fun k => if D - sm (loH p M) l.length < 0 then some (([] : List Int), 0, 8) else ((slices_SortStableFunc_of_Change_1.f k (SH l (loH p M) (hiH l p M) l.length)).bind fun t208 => (hours_Change.l3 k l p (tab (loH p M) l.length) (D - sm (loH p M) l.length) t208 ((SH l (loH p M) (hiH l p M) l.length).length : Int) 0))) r) :
    ∀ n, n ≤ l.length → Evt (fun k => hours_Change.l1 k l p M (SH l (loH p M) (hiH l p M) n) (tab (fun i => if i < n then loH p M i else 0) l.length) (D - sm (loH p M) n) l (l.length : Int) (n : Int)) r:=by
  have hl:=h.v.len
  have hD:=h.hD
  have hM:=h.hM
  refine down ?_ ?_
  · refine Evt.succ ?_
    simp only [hours_Change.l1]
    rw [tab_congr (g:=loH p M) (fun i hi => if_pos hi)]
    exact Evt.ite_neg (by omega) H
  · intro n hn ih
    have nb:=h.bd n hn
    have hv:=(h.v.one n hn).2.1
    have sb:=loH_bd h n (by omega)
    have sb1:=loH_bd h (n + 1) (by omega)
    have hp:=h.len
    have pr_:=h.rng n hn
    refine Evt.succ ?_
    simp only [hours_Change.l1, rdO0, rdO1, rdp, tab_len]
    have e0 : mx 0 (pn p n - M) = loH p M n:=rfl
    have e1 : mn (tot (stO l n) (stO l n).length) (pn p n + M) = hiH l p M n:=rfl
    have e2 : D - sm (loH p M) n - loH p M n = D - sm (loH p M) (n + 1):=by simp only [sm]; omega
    rw [wrap64_of (x:=pn p n - M) (by omega) (by omega), e0, wrap64_of (x:=pn p n + M) (by omega) (by omega), wrap64_of (x:=D - sm (loH p M) n - loH p M n) (by omega) (by omega), e2, tab_set]
    have e3 : tab (fun j => if j = n then loH p M n else if j < n then loH p M j else 0) l.length = tab (fun i => if i < n + 1 then loH p M i else 0) l.length:=tab_congr (fun i hi => by
      by_cases e : i = n
      · subst e
        rw [if_pos rfl, if_pos (by omega)]
      · rw [if_neg e]
        by_cases e2 : i < n
        · rw [if_pos e2, if_pos (by omega)]
        · rw [if_neg e2, if_neg (by omega)])
    rw [e3]
    simp only [SH] at ih
    refine Evt.ite_pos (by omega) (Evt.ite_pos (by omega) (Evt.ite_pos (by omega) (Evt.ite_pos (by omega) (Evt.bind (Most_ev (nmO l n) (stO l n) hv) (Evt.ite_pos (by omega) ?_)))))
    rw [e1]
    have:=ch_l2 h _ _ (SH l (loH p M) (hiH l p M) n) (by have:=SH_len h (loH p M) (hiH l p M) n (by omega); omega) r n hn ih 0 (by omega)
    simp only [sgN, List.append_nil, tot] at this
    exact this
end
def ltH (p q : Sg) : Bool := decide (p.f2 < q.f2)
theorem WltH : Weak ltH := ⟨fun x => by simp [ltH], fun {x y z} h1 h2 => by simp only [ltH, decide_eq_true_eq] at *; omega, fun {x y z} h1 h2 => by simp only [ltH, decide_eq_false_iff_not] at *; omega⟩
def cmpv (a b : Int) : Int := if a < b then -1 else if a > b then 1 else 0
theorem Compare_eq (a b : Int) : cmp_Compare_int.f a b = some (cmpv a b) := by
  simp only [cmp_Compare_int.f, cmp_isNaN_int.f, Option.bind_some, bne_self_eq_false, cmpv]
  by_cases c1 : a < b
  · simp [c1]
  · by_cases c2 : a > b
    · simp [c1, c2]
    · simp [c1, c2]
theorem cmpH (p q : Sg) : ∃ c : Int, Evt (fun _ => hours_Change_1.f p.f0 p.f1 p.f2 q.f0 q.f1 q.f2) c ∧ (c < 0 ↔ ltH p q = true) := by
  refine ⟨cmpv p.f2 q.f2, ?_, ?_⟩
  · simp only [hours_Change_1.f]
    exact Evt.bindo (Compare_eq _ _) (Evt.pure _)
  · simp only [ltH, decide_eq_true_eq, cmpv]
    repeat' split
    all_goals omega
section
variable {l : List Of} {p : List Int} {D M : Int} (h : Pl l p D M)
include h
theorem ch_main : ∃ out : List Int × Int × Int, Evt (fun k => hours_Change.l1 k l p M [] (tab (fun _ => 0) l.length) D l (l.length : Int) 0) out ∧
    ((out = ([], 0, 8) ∧ (D < sm (loH p M) l.length ∨ sm (hiH l p M) l.length < D)) ∨
     ∃ f, InB l (loH p M) (hiH l p M) f ∧ sm f l.length = D ∧ (∀ g, InB l (loH p M) (hiH l p M) g → sm g l.length = D → sm (cQ l f) l.length ≤ sm (cQ l g) l.length) ∧
       out = (tab (fun i => f i - pn p i) l.length, sm (cQ l f) l.length - sm (cQ l (pn p)) l.length, 0)):=by
  have hl:=h.v.len
  have hD:=h.hD
  have b:=h.bx
  have sb:=loH_bd h l.length (Nat.le_refl _)
  have top : ∀ r, Evt (fun k => if D - sm (loH p M) l.length < 0 then some (([] : List Int), 0, 8) else ((slices_SortStableFunc_of_Change_1.f k (SH l (loH p M) (hiH l p M) l.length)).bind fun t208 => (hours_Change.l3 k l p (tab (loH p M) l.length) (D - sm (loH p M) l.length) t208 ((SH l (loH p M) (hiH l p M) l.length).length : Int) 0))) r → Evt (fun k => hours_Change.l1 k l p M [] (tab (fun _ => 0) l.length) D l (l.length : Int) 0) r:=by
    intro r H
    have:=ch_l1 h r H 0 (by omega)
    have e : tab (fun i => if i < 0 then loH p M i else 0) l.length = tab (fun _ => 0) l.length:=tab_congr (fun i hi => if_neg (by omega))
    rw [e] at this
    simp only [SH, sm, Int.sub_zero] at this
    exact this
  by_cases c0 : D - sm (loH p M) l.length < 0
  · exact ⟨_, top _ (Evt.ite_pos c0 (Evt.pure _)), Or.inl ⟨rfl, Or.inl (by omega)⟩⟩
  · have sl_:=SH_len h (loH p M) (hiH l p M) l.length (Nat.le_refl _)
    obtain ⟨s, s1, s2, s3⟩:=sorts WltH cmpH (SH l (loH p M) (hiH l p M) l.length) (by omega)
    have pm:=St.perm WltH s2
    have slen:=pm.length_eq
    have mem : ∀ x ∈ s, 0 < x.f1 ∧ ∃ j, j < l.length ∧ x.f0 = (j : Int):=fun x hx => SH_mem l _ _ _ x (pm.mem_iff.2 hx)
    have pw_ : s.Pairwise (fun x y => x.f2 ≤ y.f2):=List.Pairwise.imp (fun {x y} hxy => by simp only [ltH, decide_eq_false_iff_not] at hxy; omega) s1
    obtain ⟨f1, f2, f3, f4⟩:=fill_best h.v b s pm pw_ (D - sm (loH p M) l.length) (by omega)
    have run : ∀ r, Evt (fun k => if fillR s (D - sm (loH p M) l.length) > 0 then some (([] : List Int), 0, 8) else (hours_Change.l4 k p (tab (fillG s (loH p M) (D - sm (loH p M) l.length)) l.length) l (l.length : Int) 0 (tab (fun _ => 0) l.length) 0)) r → Evt (fun k => hours_Change.l1 k l p M [] (tab (fun _ => 0) l.length) D l (l.length : Int) 0) r:=by
      intro r H
      refine top r (Evt.ite_neg c0 (Evt.bind s3 ?_))
      have:=ch_l3 h s mem (by omega) r s.length 0 (loH p M) (D - sm (loH p M) l.length) (by omega) (by omega) (by omega) (fun i hi => by have:=h.bd i hi; omega) H
      rw [slen]
      exact this
    by_cases c1 : fillR s (D - sm (loH p M) l.length) > 0
    · refine ⟨_, run _ (Evt.ite_pos c1 (Evt.pure _)), Or.inl ⟨rfl, Or.inr ?_⟩⟩
      rw [f1] at c1
      revert c1
      unfold mx
      split <;> omega
    · have z : fillR s (D - sm (loH p M) l.length) = 0:=by
        have : 0 ≤ fillR s (D - sm (loH p M) l.length):=by rw [f1]; unfold mx; split <;> omega
        omega
      have l4:=ch_l4 h _ f3 0 (by omega)
      have e : tab (fun i => if i < 0 then fillG s (loH p M) (D - sm (loH p M) l.length) i - pn p i else 0) l.length = tab (fun _ => 0) l.length:=tab_congr (fun i hi => if_neg (by omega))
      rw [e] at l4
      rw [z] at f2
      refine ⟨_, run _ (Evt.ite_neg c1 l4), Or.inr ⟨_, f3, by omega, fun g hg hs => f4 z g hg (by omega), rfl⟩⟩
end
theorem ch_j1 (l : List Of) (p : List Int) (D M : Int) (hl : l.length ≤ 10) (b : Bool) (r : List Int × Int × Int)
    (H : if b = true then r = ([], 0, 1) else Evt (fun k => hours_Change.l1 k l p M [] (tab (fun _ => 0) l.length) D l (l.length : Int) 0) r) : Evt (fun k => hours_Change.j1 k l p D M b) r:=by
  refine Evt.succ ?_
  simp only [hours_Change.j1]
  by_cases c : b = true
  · rw [if_pos c] at H
    rw [H]
    exact Evt.ite_pos c (Evt.pure _)
  · rw [if_neg c] at H
    refine Evt.ite_neg c (Evt.ite_pos (by omega) (Evt.ite_pos (by omega) ?_))
    rw [Int.toNat_natCast, tab_zero]
    exact H
theorem ch_l0 (l : List Of) (hv : Vals l) (p : List Int) (hp : p.length = l.length) (D M : Int) (r : List Int × Int × Int) :
    ∀ n, n ≤ l.length → (∀ e, e = plStep l p D M (l.length - n) n → (e = 0 → Evt (fun k => hours_Change.l1 k l p M [] (tab (fun _ => 0) l.length) D l (l.length : Int) 0) r) ∧ (e ≠ 0 → r = ([], 0, e))) →
      Evt (fun k => hours_Change.l0 k l p D M l (l.length : Int) (n : Int)) r:=by
  have hl:=hv.len
  refine down ?_ ?_
  · intro H
    have bad : ¬ ((0 ≤ D ∧ D ≤ 1000000) ∧ 0 ≤ M ∧ M ≤ 100000) → r = ([], 0, 1):=by
      intro c
      refine (H 1 ?_).2 (by decide)
      rw [Nat.sub_self]
      simp only [plStep]
      rw [if_neg c]
    refine Evt.succ ?_
    simp only [hours_Change.l0]
    refine Evt.ite_neg (by omega) ?_
    refine Evt.ite (fun c => ch_j1 l p D M hl true r (by rw [if_pos rfl]; exact bad (by omega))) (fun c1 => Evt.ite (fun c => ch_j1 l p D M hl true r (by rw [if_pos rfl]; exact bad (by omega))) (fun c2 => Evt.ite (fun c => ch_j1 l p D M hl true r (by rw [if_pos rfl]; exact bad (by omega))) (fun c3 => ?_)))
    refine ch_j1 l p D M hl _ r ?_
    by_cases c4 : M > 100000
    · rw [if_pos (decide_eq_true c4)]
      exact bad (by omega)
    · rw [if_neg (by simp [c4])]
      refine (H 0 ?_).1 rfl
      rw [Nat.sub_self]
      simp only [plStep]
      rw [if_pos (by omega)]
  · intro n hn ih H
    obtain ⟨d, hd⟩ : ∃ d, l.length - n = d + 1:=⟨l.length - n - 1, by omega⟩
    rw [show l.length - (n + 1) = d by omega] at ih
    rw [hd] at H
    simp only [plStep] at H
    have hvn:=(hv.one n hn).2.1
    refine Evt.succ ?_
    simp only [hours_Change.l0, rdO0, rdO1, rdp]
    rw [wrap64_nat (n:=n) (by omega)]
    refine Evt.ite_pos (by omega) (Evt.ite_pos (by omega) (Evt.ite_pos (by omega) (Evt.ite_pos (by omega) ?_)))
    have bad : ¬ (0 ≤ pn p n ∧ pn p n ≤ lastT l n) → r = ([], 0, 4):=fun c => (H 4 (if_neg c).symm).2 (by decide)
    refine Evt.ite (fun c => Evt.of_eq (bad (by omega)).symm) (fun c1 => Evt.bind (Most_ev (nmO l n) (stO l n) hvn) ?_)
    refine Evt.ite (fun c => Evt.of_eq (bad (by unfold lastT; omega)).symm) (fun c2 => ih (fun e he => H e ?_))
    rw [if_pos (by unfold lastT; omega)]
    exact he
theorem Change_ev (l : List Of) (p : List Int) (D M : Int) : ∃ out : List Int × Int × Int, Evt (fun k => hours_Change.f k l p D M) out ∧
    (chErr l p D M ≠ 0 → out = ([], 0, chErr l p D M)) ∧
    (chErr l p D M = 0 → (out = ([], 0, 8) ∧ (D < sm (loH p M) l.length ∨ sm (hiH l p M) l.length < D)) ∨
     ∃ f, InB l (loH p M) (hiH l p M) f ∧ sm f l.length = D ∧ (∀ g, InB l (loH p M) (hiH l p M) g → sm g l.length = D → sm (cQ l f) l.length ≤ sm (cQ l g) l.length) ∧
       out = (tab (fun i => f i - pn p i) l.length, sm (cQ l f) l.length - sm (cQ l (pn p)) l.length, 0)):=by
  simp only [hours_Change.f]
  by_cases c : offsErr l = 0
  · have hv:=offsErr_val c
    by_cases c2 : p.length = l.length
    · have ce : chErr l p D M = plStep l p D M l.length 0:=by unfold chErr; rw [if_pos c, if_pos c2]
      by_cases c3 : chErr l p D M = 0
      · obtain ⟨out, o1, o2⟩:=ch_main (chErr_ok c3)
        refine ⟨out, Evt.bind (offer_CheckAll_ev l) (Evt.ite_pos c (Evt.ite_pos (by omega) (ch_l0 l hv p c2 D M out 0 (by omega) (fun e he => ⟨fun _ => o1, fun hne => absurd (he.trans (by rw [Nat.sub_zero, ← ce, c3])) hne⟩)))), fun h => absurd c3 h, fun _ => o2⟩
      · refine ⟨([], 0, chErr l p D M), Evt.bind (offer_CheckAll_ev l) (Evt.ite_pos c (Evt.ite_pos (by omega) (ch_l0 l hv p c2 D M _ 0 (by omega) (fun e he => ⟨fun hz => absurd (by rw [ce, ← hz, he, Nat.sub_zero]) c3, fun _ => by rw [he, Nat.sub_zero, ← ce]⟩)))), fun _ => rfl, fun h => absurd h c3⟩
    · have ce : chErr l p D M = 3:=by unfold chErr; rw [if_pos c, if_neg c2]
      rw [ce]
      exact ⟨([], 0, 3), Evt.bind (offer_CheckAll_ev l) (Evt.ite_pos c (Evt.ite_neg (by omega) (Evt.pure _))), fun _ => rfl, fun h => by omega⟩
  · have ce : chErr l p D M = offsErr l:=by unfold chErr; rw [if_neg c]
    rw [ce]
    exact ⟨([], 0, offsErr l), Evt.bind (offer_CheckAll_ev l) (Evt.ite_neg c (Evt.pure _)), fun _ => rfl, fun h => absurd h c⟩
end Go.Proofs.Ytekpnmeikibioaa.DHoursChanges
