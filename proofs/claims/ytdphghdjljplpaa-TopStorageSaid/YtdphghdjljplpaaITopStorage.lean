import Derived.Test.YtdphghdjljplpaaGTopStorage
namespace Go.Proofs.Ytdphghdjljplpaa.ITopStorage
open Go.RowKit Go.Proofs.YtdphghdjljplpaaW.PrintWords Go.Proofs.YtdphghdjljplpaaW.PrintMore Go.Proofs.Ytdphghdjljplpaa.Evs Go.Proofs.Ytdphghdjljplpaa.PTopStorage Go.Proofs.Ytdphghdjljplpaa.CTopStorage Go.Proofs.Ytdphghdjljplpaa.ZTopStorage Go.Proofs.Ytdphghdjljplpaa.XTopStorage Go.Proofs.Ytdphghdjljplpaa.ETopStorage Go.Proofs.Ytdphghdjljplpaa.GTopStorage
set_option linter.unusedVariables false
set_option linter.unusedSectionVars false
set_option linter.unusedSimpArgs false
structure Same (f g : Cx) : Prop where
  lo : g.f0 = f.f0
  hi : hiF g = hiF f
  val : ∀ k, f.f0 ≤ k → k ≤ hiF f → val g k = val f k
theorem same_step {f g f' g' : Cx} {c d cap p : Int} (s : Same f g) (h : Stp f f' c d cap p) (h' : Stp g g' c d cap p) : Same f' g' := by
  have e1:=s.lo
  have e2:=s.hi
  have l0 : g'.f0 = f'.f0:=by rw [h'.lo, h.lo, e1]
  have h0 : hiF g' = hiF f':=by rw [h'.hi, h.hi, e2]
  refine ⟨l0, h0, fun k k1 k2 => ?_⟩
  obtain ⟨b, b1, b2, b3, b4, b5⟩:=h.some k k1 k2
  obtain ⟨b', q1, q2, q3, q4, q5⟩:=h'.some k (by omega) (by omega)
  have u1:=h.le k b' k1 k2 (by omega) (by omega) q3 q4
  have u2:=h'.le k b (by omega) (by omega) (by omega) (by omega) b3 b4
  have v1:=s.val b b1 b2
  have v2:=s.val b' (by omega) (by omega)
  omega
theorem vals_same {c d cap b : Int} {l l' : List Int} {fs gs : List Cx} {n m : Nat} (h : Vals c d cap l b fs n) (h' : Vals c d cap l' b gs m) (he : ∀ i, i < n → l'.getD i 0 = l.getD i 0) : ∀ i, i ≤ n → i ≤ m → Same (fs.getD i zFn) (gs.getD i zFn) := by
  intro i
  induction i with
 |zero => intro _ _; rw [h.at0, h'.at0]; exact ⟨rfl, rfl, fun _ _ _ => rfl⟩
 |succ i ih =>
    intro h1 h2
    have:=h'.st i (by omega)
    rw [he i (by omega)] at this
    exact same_step (ih (by omega) (by omega)) (h.st i (by omega)) this
theorem stay {c d cap b : Int} (hc : 0 ≤ c) (hd : 0 ≤ d) (hb : 0 ≤ b ∧ b ≤ cap) {l : List Int} {fs : List Cx} {n : Nat} (h : Vals c d cap l b fs n) : ∀ i, i ≤ n → (fs.getD i zFn).f0 ≤ b ∧ b ≤ hiF (fs.getD i zFn) ∧ val (fs.getD i zFn) b ≤ 0 := by
  intro i
  induction i with
 |zero => intro _; rw [h.at0]; refine ⟨Int.le_refl _, by simp [hiF, xs], by simp [val, fv]⟩
 |succ i ih =>
    intro hi
    obtain ⟨i1, i2, i3⟩:=ih (by omega)
    have st:=h.st i (by omega)
    have m1 : (fs.getD (i + 1) zFn).f0 ≤ b:=by rw [st.lo]; unfold mx; split <;> omega
    have m2 : b ≤ hiF (fs.getD (i + 1) zFn):=by rw [st.hi]; unfold mn; split <;> omega
    have:=st.le b b m1 m2 i1 i2 (by omega) (by omega)
    rw [Int.sub_self, Int.mul_zero] at this
    exact ⟨m1, m2, by omega⟩
theorem top_less {c d cap bg en m : Int} (hA : Args c d cap bg en) (l : List Int) {fs gs : List Cx} (h : Vals c d cap l bg fs l.length) (h' : Vals c d cap (l ++ [m]) bg gs (l ++ [m]).length) {k k' : Int} (E : EndC (fs.getD l.length zFn) en k) (E' : EndC (gs.getD (l ++ [m]).length zFn) en k') : val (gs.getD (l ++ [m]).length zFn) k' ≤ val (fs.getD l.length zFn) k := by
  have hc:=hA.hc
  have hd:=hA.hd
  have e : (l ++ [m]).length = l.length + 1:=by simp
  rw [e] at h' E' ⊢
  have s:=vals_same h h' (fun i hi => by rw [List.getD_eq_getElem?_getD, List.getElem?_append_left hi, ← List.getD_eq_getElem?_getD]) l.length (Nat.le_refl _) (by omega)
  have st:=h'.st l.length (by omega)
  have L:=h.lv l.length (Nat.le_refl _)
  have q1:=E.d1
  have q2:=E.d2
  have L1:=L.lo
  have L2:=L.hi
  have s1:=s.lo
  have s2:=s.hi
  have m1 : (gs.getD (l.length + 1) zFn).f0 ≤ k:=by rw [st.lo]; unfold mx; split <;> omega
  have m2 : k ≤ hiF (gs.getD (l.length + 1) zFn):=by rw [st.hi]; unfold mn; split <;> omega
  have u1:=E'.le k m1 m2 E.r1
  have u2:=st.le k k m1 m2 (by omega) (by omega) (by omega) (by omega)
  rw [Int.sub_self, Int.mul_zero] at u2
  have u3:=s.val k q1 q2
  omega
theorem clone_int (l : List Int) (hl : l.length < 17592186044416) : slices_Clone_int_int.f l = some l := by
  simp only [slices_Clone_int_int.f, Option.bind_some, List.length_nil, List.nil_append]
  rw [if_pos (by omega)]
theorem within_ev (x : Int) : ∃ y, gridhalltop_bWithin.f x (-1000) 1000 = some y := by
  unfold gridhalltop_bWithin.f
  have e : wrap64 (wrap64 (1000 - -1000) + 1) = 2001:=by
    rw [wrap64_of (x:=1000 - -1000) (by omega) (by omega), wrap64_of (by omega) (by omega)]
    rfl
  rw [e, if_neg (by omega)]
  exact ⟨_, rfl⟩
theorem best_ok {c d cap bg en : Int} {l : List Int} {e1 e2 : Int} {R : List Int × Int × Int} (h : ((e1 ≠ 0 ∧ ¬ Args c d cap bg en ∧ R = ([], 0, e1)) ∨ (e1 = 0 ∧ Args c d cap bg en ∧
      ((e2 ≠ 0 ∧ ¬ (l.length ≤ 24 ∧ ∀ m, m < l.length → okPr (l.getD m 0)) ∧ R = ([], 0, e2)) ∨ (e2 = 0 ∧ l.length ≤ 24 ∧ (∀ m, m < l.length → okPr (l.getD m 0)) ∧ ∃ V : List Cx × Int, Evt (fun k => storage_values.f k c d cap bg en l) V ∧
        ((V.2 ≠ 0 ∧ V.1 = [] ∧ ¬ (c ≤ 12 ∧ d ≤ 12 ∧ cap ≤ 12) ∧ R = ([], 0, V.2)) ∨ (V.2 = 0 ∧ Vals c d cap l bg V.1 l.length ∧
          ((R.2.2 ≠ 0 ∧ R.1 = [] ∧ R.2.1 = 0 ∧ (c ≤ 12 ∧ d ≤ 12 ∧ cap ≤ 12 → R.2.2 = 8 ∧ hiF (V.1.getD l.length zFn) < en)) ∨
          (R.2.2 = 0 ∧ R.1.length = l.length ∧ ∃ k, EndC (V.1.getD l.length zFn) en k ∧ R.2.1 = val (V.1.getD l.length zFn) k ∧ Ch V.1 c d l R.1 l.length k))))))))) (z : R.2.2 = 0) :
    Args c d cap bg en ∧ ∃ fs, Vals c d cap l bg fs l.length ∧ ∃ k, EndC (fs.getD l.length zFn) en k ∧ R.2.1 = val (fs.getD l.length zFn) k:=by
  rcases h with ⟨h1, _, h2⟩|⟨_, hA, h⟩
  · rw [h2] at z
    exact absurd z h1
  · rcases h with ⟨h1, _, h2⟩|⟨_, _, _, V, _, h⟩
    · rw [h2] at z
      exact absurd z h1
    · rcases h with ⟨h1, _, _, h2⟩|⟨_, hv, h⟩
      · rw [h2] at z
        exact absurd z h1
      · rcases h with ⟨h1, _⟩|⟨_, _, k, k1, k2, _⟩
        · exact absurd z h1
        · exact ⟨hA, V.1, hv, k, k1, k2⟩
theorem top_j0 (c d cap bg en : Int) (l : List Int) (x : Int) (hl : l.length < 17592186044416) : Evt (fun k => gridhalltop_TopStorage.j0 k l x false c d cap bg en) true := by
  refine Evt.succ ?_
  simp only [gridhalltop_TopStorage.j0]
  refine Evt.ite_neg (by simp) (Evt.ite (fun _ => Evt.pure _) fun hbe => ?_)
  obtain ⟨m, hm⟩:=within_ev x
  obtain ⟨_, _, R, _, _, r1, r2⟩:=Best_ev c d cap bg en l
  obtain ⟨_, _, R', _, _, q1, q2⟩:=Best_ev c d cap bg en (l ++ [m])
  refine Evt.bind r1 (Evt.bindo (clone_int l hl) (Evt.bindo hm (Evt.ite_pos hl (Evt.bind q1 (Evt.ite (fun z => ?_) fun _ => Evt.pure _)))))
  obtain ⟨hA, fs, hv, k, E, ek⟩:=best_ok r2 z
  have s:=stay hA.hc.1 hA.hd.1 hA.hbg hv l.length (Nat.le_refl _)
  have u:=E.le bg s.1 s.2.1 (by omega)
  refine Evt.ite_pos (by omega) (Evt.ite (fun z' => Evt.of_eq ?_) fun _ => Evt.pure _)
  obtain ⟨_, gs, hv', k', E', ek'⟩:=best_ok q2 z'
  have:=top_less hA l hv hv' E E'
  rw [ek, ek']
  exact decide_eq_true this
theorem law_f (c d cap bg en : Int) (l : List Int) (x : Int) (hl : l.length < 17592186044416) : Evt (fun k => gridhalltop_TopStorage.f k c d cap bg en l x) true := by
  simp only [gridhalltop_TopStorage.f]
  refine Evt.bind (best_up _ _ _ _ _ _ _ 60 open_k) (Evt.ite_pos (by simp) ?_)
  show Evt (fun k => gridhalltop_TopStorage.j0 k l x ((-30 : Int) != -30) c d cap bg en) true
  rw [show ((-30 : Int) != -30) = false from rfl]
  exact top_j0 c d cap bg en l x hl
end Go.Proofs.Ytdphghdjljplpaa.ITopStorage
