import Derived.Test.YtefkdkppipdceaaCAlarmSays
import Derived.Test.YtefkdkppipdceaaHAlarmSaysy5
import Derived.Test.YtefkdkppipdceaaHAlarmSaysy6
import Derived.Test.YtefkdkppipdceaaHAlarmSaysy7
namespace Go.Proofs.Ytefkdkppipdceaa.DAlarmSays
open Go.RowKit Go.Proofs.YtefkdkppipdceaaW.PrintWords Go.Proofs.YtefkdkppipdceaaW.PrintMore Go.Proofs.Ytefkdkppipdceaa.Evs Go.Proofs.Ytefkdkppipdceaa.PAlarmSays Go.Proofs.Ytefkdkppipdceaa.BAlarmSays Go.Proofs.Ytefkdkppipdceaa.CAlarmSays
set_option linter.unusedVariables false
set_option linter.unusedSectionVars false
set_option linter.unusedSimpArgs false
theorem less_ev (a b : ByteArray) : cmp_Less_string.f a b = some (tl a b) := by
  simp [cmp_Less_string.f, cmp_isNaN_string.f, tl]
theorem srd (x : List ByteArray) (n : Nat) : rdOf ByteArray.empty x (n : Int) = x.getD n ByteArray.empty := by simp [rdOf]
theorem sadd1 {m : Nat} (h : m + 1 ≤ 4 * 140737488351232) : wrap64 ((m : Int) + 1) = ((m + 1 : Nat) : Int) := by
  rw [wrap64_of (by omega) (by omega)]
  omega
theorem ssub1 {m : Nat} (h : 1 ≤ m) (h2 : m ≤ 4 * 140737488351232) : wrap64 ((m : Int) - 1) = ((m - 1 : Nat) : Int) := by
  rw [wrap64_of (by omega) (by omega)]
  omega
theorem ins_in {a b i : Nat} (A : List ByteArray) (hA : A.length = a) : ∀ s (P Q R : List ByteArray) (e : ByteArray) (j : Nat), P.length = s → j = a + P.length → i = a + P.length + Q.length → (A ++ (P ++ e :: (Q ++ R))).length ≤ 140737488351232 → Srt tl (P ++ Q) → (∀ q ∈ Q, tl e q = true) →
    ∃ M, Srt tl M ∧ St tl (P ++ e :: Q) M ∧ ∀ r, Evt (fun k => slices_insertionSortOrdered_string.l0 k (A ++ (M ++ R)) (a : Int) (b : Int) ((i + 1 : Nat) : Int)) r → Evt (fun k => slices_insertionSortOrdered_string.l1 k (A ++ (P ++ e :: (Q ++ R))) (a : Int) (b : Int) (i : Int) (j : Int)) r:=by
  intro s
  induction s with
 |zero =>
    intro P Q R e j hs hj hi hL hS hQ
    obtain rfl:=List.eq_nil_of_length_eq_zero hs
    have ln : (A ++ ([] ++ e :: (Q ++ R))).length = A.length + (Q.length + R.length + 1):=by simp
    simp only [List.length_nil, Nat.add_zero] at hj hi
    refine ⟨e :: Q, ?_, St.refl _, fun r H => Evt.succ ?_⟩
    · exact Srt.app (a:=[e]) (Srt.one e) (by simpa using hS) (fun x hx y hy => by simp at hx; subst hx; exact tl_weak.asym (hQ y hy))
    · simp only [slices_insertionSortOrdered_string.l1]
      rw [sadd1 (m:=i) (by omega)]
      exact Evt.ite_neg (by omega) H
 |succ s ih =>
    intro P Q R e j hs hj hi hL hS hQ
    obtain ⟨P, p, rfl⟩ : ∃ P' p, P = P' ++ [p]:=⟨P.dropLast, P.getLast (fun h => by rw [h] at hs; simp at hs),(List.dropLast_concat_getLast _).symm⟩
    simp only [List.length_append, List.length_cons, List.length_nil] at hs hj hi
    have e1 : A ++ (P ++ [p] ++ e :: (Q ++ R)) = (A ++ P) ++ p :: ([] ++ e :: (Q ++ R)):=by simp
    have ln : (A ++ (P ++ [p] ++ e :: (Q ++ R))).length = A.length + (P.length + 1 + (Q.length + R.length + 1)):=by simp; omega
    have g1 : (A ++ (P ++ [p] ++ e :: (Q ++ R))).getD j ByteArray.empty = e:=getD_at (A:=A ++ P ++ [p]) (C:=Q ++ R) (by simp) (by simp; omega)
    have g2 : (A ++ (P ++ [p] ++ e :: (Q ++ R))).getD (j - 1) ByteArray.empty = p:=getD_at (A:=A ++ P) e1 (by simp; omega)
    have sw:=set_two' (A ++ P) p e [] (Q ++ R) (i:=j - 1) (j:=j) (by simp; omega) (by simp; omega)
    have hcc:=less_ev e p
    have go : ∀ r, (if tl e p = true then Evt (fun k => slices_insertionSortOrdered_string.l1 k (A ++ (P ++ e :: ((p :: Q) ++ R))) (a : Int) (b : Int) (i : Int) ((j - 1 : Nat) : Int)) r else Evt (fun k => slices_insertionSortOrdered_string.l0 k (A ++ (P ++ [p] ++ e :: (Q ++ R))) (a : Int) (b : Int) ((i + 1 : Nat) : Int)) r) →
        Evt (fun k => slices_insertionSortOrdered_string.l1 k (A ++ (P ++ [p] ++ e :: (Q ++ R))) (a : Int) (b : Int) (i : Int) (j : Int)) r:=by
      intro r H
      refine Evt.succ ?_
      simp only [slices_insertionSortOrdered_string.l1]
      rw [ssub1 (m:=j) (by omega) (by omega), srd _ j, srd _ (j - 1), g1, g2, Int.toNat_natCast, Int.toNat_natCast, sadd1 (m:=i) (by omega)]
      refine Evt.ite_pos (by omega) (Evt.ite_pos (by omega) (Evt.ite_pos (by omega) (Evt.ite_pos (by omega) (Evt.ite_pos (by omega) (Evt.bindo hcc ?_)))))
      refine Evt.ite (fun h => ?_) (fun h => ?_)
      · rw [if_pos h] at H
        have e2 : ((A ++ (P ++ [p] ++ e :: (Q ++ R))).set j p).set (j - 1) e = A ++ (P ++ e :: ((p :: Q) ++ R)):=by rw [e1, sw]; simp
        rw [← e2] at H
        exact H
      · rw [if_neg h] at H
        exact H
    by_cases h : tl e p = true
    · obtain ⟨M, hM, hSt, H⟩:=ih P (p :: Q) R e (j - 1) (by omega) (by omega) (by simp; omega) (by simp at hL ⊢; omega) (by simpa using hS) (fun q hq => by
        rcases List.mem_cons.1 hq with rfl|hq
        · exact h
        · exact hQ q hq)
      refine ⟨M, hM, ?_, fun r hr => go r (by rw [if_pos h]; exact H r hr)⟩
      refine St.trans ?_ hSt
      have:=St.mid P Q (St.comm tl_weak (a:=[p]) (b:=[e]) (fun x hx y hy => by simp at hx hy; subst hx hy; exact h))
      simpa using this
    · have h' : tl e p = false:=by simpa using h
      refine ⟨P ++ [p] ++ e :: Q, ?_, St.refl _, fun r hr => go r (by rw [if_neg h]; simpa using hr)⟩
      refine Srt.app hS.left (Srt.app (a:=[e]) (Srt.one e) hS.right (fun x hx y hy => by simp at hx; subst hx; exact tl_weak.asym (hQ y hy))) (fun x hx y hy => ?_)
      rcases List.mem_cons.1 hy with rfl|hy
      · exact tl_weak.tl h' (Srt.le_last tl_weak hS.left x hx)
      · exact hS.cross x hx y hy
theorem ins_out {a b : Nat} (A B : List ByteArray) (hA : A.length = a) : ∀ (T M : List ByteArray) (i : Nat), i = a + M.length → b = i + T.length → (A ++ (M ++ (T ++ B))).length ≤ 140737488351232 → Srt tl M → ∃ N, Srt tl N ∧ St tl (M ++ T) N ∧ Evt (fun k => slices_insertionSortOrdered_string.l0 k (A ++ (M ++ (T ++ B))) (a : Int) (b : Int) (i : Int)) (A ++ (N ++ B)) := by
  intro T
  induction T with
 |nil =>
    intro M i hi hb hL hM
    refine ⟨M, hM, by rw [List.append_nil]; exact St.refl _, Evt.succ ?_⟩
    simp only [slices_insertionSortOrdered_string.l0, List.nil_append]
    simp only [List.length_nil] at hb
    exact Evt.ite_neg (by omega) (Evt.pure _)
 |cons e T ih =>
    intro M i hi hb hL hM
    simp only [List.length_cons] at hb
    obtain ⟨M1, s1, t1, H⟩:=ins_in (a:=a) (b:=b) (i:=i) A hA M.length M [] (T ++ B) e i rfl hi (by simp; omega) (by simpa using hL) (by simpa using hM) (fun q hq => by simp at hq)
    have l1:=St.length tl_weak t1
    simp only [List.length_append, List.length_cons, List.length_nil] at l1
    obtain ⟨N, sN, tN, HN⟩:=ih M1 (i + 1) (by omega) (by omega) (by simp at hL ⊢; omega) s1
    refine ⟨N, sN, ?_, Evt.succ ?_⟩
    · have:=(t1.app (St.refl T)).trans tN
      simpa using this
    · simp only [slices_insertionSortOrdered_string.l0]
      have:=H _ HN
      simp only [List.nil_append] at this
      exact Evt.ite_pos (by omega) this
theorem ins_f (A M B : List ByteArray) {a b : Nat} (hA : A.length = a) (hb : b = a + M.length) (hL : (A ++ (M ++ B)).length ≤ 140737488351232) : ∃ N, Srt tl N ∧ St tl M N ∧ Evt (fun k => slices_insertionSortOrdered_string.f k (A ++ (M ++ B)) (a : Int) (b : Int)) (A ++ (N ++ B)) := by
  have ln : (A ++ (M ++ B)).length = A.length + (M.length + B.length):=by simp
  simp only [slices_insertionSortOrdered_string.f]
  rw [sadd1 (m:=a) (by omega)]
  cases M with
 |nil =>
    refine ⟨[], Srt.nil, St.refl _, Evt.succ ?_⟩
    simp only [slices_insertionSortOrdered_string.l0]
    simp only [List.length_nil] at hb
    exact Evt.ite_neg (by omega) (Evt.pure _)
 |cons e M =>
    simp only [List.length_cons] at hb
    obtain ⟨N, s, t, H⟩:=ins_out (a:=a) (b:=b) A B hA M [e] (a + 1) (by simp) (by omega) (by simpa using hL) (Srt.one e)
    exact ⟨N, s, by simpa using t, by simpa using H⟩
theorem bits_ev (a : Int) : ∃ v, Evt (fun k => bits_Len.f k a) v := by
  have j0 : ∀ x y : Int, ∃ v, bits_Len64.j0 1 x y = some v:=by
    intro x y
    rw [bits_Len64.j0]
    by_cases h1 : x ≥ 65536
    · by_cases h2 : x / 65536 ≥ 256
      · rw [if_pos h1, if_pos h2, if_pos (by omega), if_pos (by omega)]; exact ⟨_, rfl⟩
      · rw [if_pos h1, if_neg h2, if_pos (by omega), if_pos (by omega)]; exact ⟨_, rfl⟩
    · by_cases h2 : x ≥ 256
      · rw [if_neg h1, if_pos h2, if_pos (by omega), if_pos (by omega)]; exact ⟨_, rfl⟩
      · rw [if_neg h1, if_neg h2, if_pos (by omega), if_pos (by omega)]; exact ⟨_, rfl⟩
  have j1 : ∀ x y : Int, ∃ v, ∀ k, bits_Len64.j0 (k + 1) x y = some v:=by
    intro x y
    obtain ⟨v, hv⟩:=j0 x y
    exact ⟨v, fun k => hv⟩
  have j : ∀ x y : Int, ∃ v, Evt (fun k => bits_Len64.j0 k x y) v:=by
    intro x y
    obtain ⟨v, h⟩:=j1 x y
    exact ⟨v, Evt.succ ⟨0, fun k _ => h k⟩⟩
  by_cases h : a ≥ 4294967296
  · obtain ⟨v, H⟩:=j (a / 4294967296) 32
    refine ⟨v, ?_⟩
    simp only [bits_Len.f, bits_Len64.f]
    exact Evt.bind (Evt.ite_pos h H) (Evt.pure _)
  · obtain ⟨v, H⟩:=j a 0
    refine ⟨v, ?_⟩
    simp only [bits_Len.f, bits_Len64.f]
    exact Evt.bind (Evt.ite_neg h H) (Evt.pure _)
theorem sort_ev (l : List ByteArray) (hl : l.length ≤ 12) : ∃ N, Srt tl N ∧ St tl l N ∧ Evt (fun k => slices_Sort_string_string.f k l) N := by
  obtain ⟨N, s1, s2, H⟩:=ins_f [] l [] (a:=0) (b:=l.length) rfl (by omega) (by simp; omega)
  simp only [List.nil_append, List.append_nil] at H
  obtain ⟨v, V⟩:=bits_ev (IntKind.u64.wrap ((l.length : Int)))
  refine ⟨N, s1, s2, ?_⟩
  simp only [slices_Sort_string_string.f]
  refine Evt.bind V (Evt.bind (a:=N) (Evt.succ ?_) (Evt.pure _))
  simp only [slices_pdqsortOrdered_string.f]
  refine Evt.succ ?_
  simp only [slices_pdqsortOrdered_string.l0]
  refine Evt.ite_pos (by rw [wrap64_of (by omega) (by omega)]; omega) (Evt.bind H (Evt.pure _))
theorem rs_l2 (s : ByteArray) (l : List ByteArray) (n : Nat) (P : List ByteArray) (r : List ByteArray) : ∀ d (Q R : List ByteArray) (y : ByteArray), Q.length = d → (P ++ (Q ++ y :: R)).length ≤ 1000 → n ≤ 1000 →
    Evt (fun k => gridhallref4_Sorted.l0 k (P ++ s :: (Q ++ R)) l (l.length : Int) ((n + 1 : Nat) : Int)) r →
    Evt (fun k => gridhallref4_Sorted.l2 k (P ++ (Q ++ y :: R)) s (P.length : Int) ((P.length + Q.length : Nat) : Int) l (l.length : Int) (n : Int)) r:=by
  intro d
  induction d with
 |zero =>
    intro Q R y hQ hL hn H
    obtain rfl:=List.eq_nil_of_length_eq_zero hQ
    have ln : (P ++ ([] ++ y :: R)).length = P.length + (R.length + 1):=by simp
    refine Evt.succ ?_
    simp only [gridhallref4_Sorted.l2]
    have e : (P ++ ([] ++ y :: R)).set P.length s = P ++ s :: ([] ++ R):=by simp
    rw [wrap64_nat (n:=n) (by omega), Int.toNat_natCast P.length, e]
    exact Evt.ite_neg (by simp) (Evt.ite_pos (by omega) (Evt.ite_pos (by omega) H))
 |succ d ih =>
    intro Q R y hQ hL hn H
    obtain ⟨Q, q, rfl⟩ : ∃ Q' q, Q = Q' ++ [q]:=⟨Q.dropLast, Q.getLast (fun h => by rw [h] at hQ; simp at hQ),(List.dropLast_concat_getLast _).symm⟩
    simp only [List.length_append, List.length_cons, List.length_nil] at hQ
    have ln : (P ++ (Q ++ [q] ++ y :: R)).length = P.length + (Q.length + 1 + (R.length + 1)):=by simp; omega
    have g1 : (P ++ (Q ++ [q] ++ y :: R)).getD (P.length + Q.length) ByteArray.empty = q:=getD_at (A:=P ++ Q) (C:=y :: R) (by simp) (by simp)
    have e : (P ++ (Q ++ [q] ++ y :: R)).set (P.length + (Q.length + 1)) q = P ++ (Q ++ q :: (q :: R)):=by
      have e1 : P ++ (Q ++ [q] ++ y :: R) = (P ++ Q ++ [q]) ++ y :: R:=by simp
      rw [e1, show P.length + (Q.length + 1) = (P ++ Q ++ [q]).length by simp [Nat.add_assoc], set_mid]
      simp
    have IH:=ih Q (q :: R) q (by omega) (by simp at hL ⊢; omega) hn (by simpa using H)
    refine Evt.succ ?_
    simp only [gridhallref4_Sorted.l2, List.length_append, List.length_cons, List.length_nil]
    rw [show wrap64 (((P.length + (Q.length + (0 + 1)) : Nat) : Int) - 1) = ((P.length + Q.length : Nat) : Int) from by rw [wrap64_of (by omega) (by omega)]; omega, srd, Int.toNat_natCast, g1]
    rw [show P.length + (Q.length + (0 + 1)) = P.length + (Q.length + 1) by omega, e]
    exact Evt.ite_pos (by omega) (Evt.ite_pos (by omega) (Evt.ite_pos (by simp; omega) (Evt.ite_pos (by omega) (Evt.ite_pos (by simp; omega) IH))))
theorem rs_l1 (s : ByteArray) (l : List ByteArray) (n : Nat) (M : List ByteArray) (hM : Srt tl M) (hL : M.length ≤ 500) : ∀ d (P Q : List ByteArray), P.length = d → M = P ++ Q → (∀ q ∈ Q, tl s q = true) →
    ∃ P' Q', M = P' ++ Q' ∧ (∀ q ∈ Q', tl s q = true) ∧ (∀ p ∈ P', tl s p = false) ∧ ∀ r, Evt (fun k => gridhallref4_Sorted.j2 k M s (P'.length : Int) l (l.length : Int) (n : Int)) r → Evt (fun k => gridhallref4_Sorted.l1 k M s (P.length : Int) l (l.length : Int) (n : Int)) r:=by
  intro d
  induction d with
 |zero =>
    intro P Q hP hM' hQ
    obtain rfl:=List.eq_nil_of_length_eq_zero hP
    refine ⟨[], Q, hM', hQ, fun p hp => (by cases hp), fun r H => Evt.succ ?_⟩
    simp only [gridhallref4_Sorted.l1]
    exact Evt.ite_neg (by simp) H
 |succ d ih =>
    intro P Q hP hM' hQ
    obtain ⟨P, p, rfl⟩ : ∃ P' p, P = P' ++ [p]:=⟨P.dropLast, P.getLast (fun h => by rw [h] at hP; simp at hP),(List.dropLast_concat_getLast _).symm⟩
    simp only [List.length_append, List.length_cons, List.length_nil] at hP
    have ln : M.length = P.length + (1 + Q.length):=by rw [hM']; simp; omega
    have g1 : M.getD P.length ByteArray.empty = p:=by rw [hM']; exact getD_at (A:=P) (C:=Q) (by simp) rfl
    have top : ∀ r, Evt (fun k => if (Op.bytesLess s.toList p.toList) = true then gridhallref4_Sorted.l1 k M s (P.length : Int) l (l.length : Int) (n : Int) else gridhallref4_Sorted.j2 k M s ((P.length + 1 : Nat) : Int) l (l.length : Int) (n : Int)) r → Evt (fun k => gridhallref4_Sorted.l1 k M s ((P ++ [p]).length : Int) l (l.length : Int) (n : Int)) r:=by
      intro r H
      refine Evt.succ ?_
      simp only [gridhallref4_Sorted.l1, List.length_append, List.length_cons, List.length_nil]
      rw [show wrap64 (((P.length + (0 + 1) : Nat) : Int) - 1) = (P.length : Int) from by rw [wrap64_of (by omega) (by omega)]; omega, srd, g1]
      exact Evt.ite_pos (by omega) (Evt.ite_pos (by omega) (Evt.ite_pos (by omega) (by simpa using H)))
    by_cases h : tl s p = true
    · obtain ⟨P', Q', a1, a2, a3, a4⟩:=ih P (p :: Q) (by omega) (by rw [hM']; simp) (fun q hq => by
        rcases List.mem_cons.1 hq with rfl|hq
        · exact h
        · exact hQ q hq)
      exact ⟨P', Q', a1, a2, a3, fun r H => top r (Evt.ite_pos h (a4 r H))⟩
    · refine ⟨P ++ [p], Q, hM', hQ, fun x hx => ?_, fun r H => top r (Evt.ite_neg h (by simpa using H))⟩
      have hp : tl s p = false:=by simpa using h
      have S : Srt tl (P ++ [p]):=by rw [hM'] at hM; exact hM.left
      exact tl_weak.tl hp (Srt.le_last tl_weak S x hx)
theorem rs_l0 (l : List ByteArray) (hl : l.length ≤ 400) : ∀ n, n ≤ l.length → ∀ M : List ByteArray, Srt tl M → St tl (l.take n) M → ∃ N, Srt tl N ∧ St tl l N ∧ Evt (fun k => gridhallref4_Sorted.l0 k M l (l.length : Int) (n : Int)) N := by
  refine down ?_ ?_
  · intro M h1 h2
    rw [List.take_length] at h2
    refine ⟨M, h1, h2, Evt.succ ?_⟩
    simp only [gridhallref4_Sorted.l0]
    exact Evt.ite_neg (by omega) (Evt.pure _)
  · intro n hn ih M h1 h2
    have ln:=St.length tl_weak h2
    rw [List.length_take] at ln
    obtain ⟨P, Q, a1, a2, a3, a4⟩:=rs_l1 (nm l n) l n M h1 (by omega) M.length M [] rfl (by simp) (fun q hq => by cases hq)
    have lm : M.length = P.length + Q.length:=by rw [a1]; simp
    have S : Srt tl (P ++ nm l n :: Q):=by
      rw [a1] at h1
      refine Srt.app h1.left (Srt.app (a:=[nm l n]) (Srt.one _) h1.right (fun x hx y hy => by simp at hx; subst hx; exact tl_weak.asym (a2 y hy))) (fun x hx y hy => ?_)
      rcases List.mem_cons.1 hy with rfl|hy
      · exact a3 x hx
      · exact h1.cross x hx y hy
    have T : St tl (l.take (n + 1)) (P ++ nm l n :: Q):=by
      have e : l.take (n + 1) = l.take n ++ [nm l n]:=getD_take_succ hn
      rw [e]
      have c1:=h2.app (St.refl (lt:=tl) [nm l n])
      rw [a1] at c1
      have c2:=(St.comm tl_weak (a:=Q) (b:=[nm l n]) (fun x hx y hy => by simp at hy; subst hy; exact a2 x hx)).mid P []
      refine c1.trans ?_
      simpa using c2
    obtain ⟨N, b1, b2, b3⟩:=ih _ S T
    refine ⟨N, b1, b2, Evt.succ ?_⟩
    simp only [gridhallref4_Sorted.l0, rnm]
    refine Evt.ite_pos (by omega) (Evt.ite_pos (by omega) (Evt.ite_pos (by omega) (a4 _ (Evt.succ ?_))))
    simp only [gridhallref4_Sorted.j2]
    refine Evt.ite_pos (by omega) (Evt.bindo rfl ?_)
    have L:=rs_l2 (nm l n) l n P N Q.length Q [] (⟨#[]⟩ : ByteArray) rfl (by simp; omega) (by omega) (by simpa using b3)
    have e1 : M ++ [(⟨#[]⟩ : ByteArray)] = P ++ (Q ++ [(⟨#[]⟩ : ByteArray)]):=by rw [a1]; simp
    rw [e1, show wrap64 (((P ++ (Q ++ [(⟨#[]⟩ : ByteArray)])).length : Int) - 1) = ((P.length + Q.length : Nat) : Int) from by
      rw [wrap64_of (by simp; omega) (by simp; omega)]
      simp
      omega]
    exact L
theorem sorted_ev (l : List ByteArray) (hl : l.length ≤ 400) : ∃ N, Srt tl N ∧ St tl l N ∧ Evt (fun k => gridhallref4_Sorted.f k l) N := by
  simp only [gridhallref4_Sorted.f]
  exact rs_l0 l hl 0 (Nat.zero_le _) [] Srt.nil (by rw [List.take_zero]; exact St.refl _)
end Go.Proofs.Ytefkdkppipdceaa.DAlarmSays
