import Derived.Test.YtdgjelbkogfedaaBDualSingle
import Derived.Test.YtdgjelbkogfedaaHDualSingley17
namespace Go.Proofs.Ytdgjelbkogfedaa.CDualSingle
open Go.RowKit Go.Proofs.YtdgjelbkogfedaaW.PrintWords Go.Proofs.YtdgjelbkogfedaaW.PrintMore Go.Proofs.Ytdgjelbkogfedaa.Evs Go.Proofs.Ytdgjelbkogfedaa.PDualSingle Go.Proofs.Ytdgjelbkogfedaa.BDualSingle
set_option linter.unusedVariables false
set_option linter.unusedSectionVars false
set_option linter.unusedSimpArgs false
structure Cu where
  s : ByteArray
  a : Int
  b : Int
  c : Int
  d : Int
  e : Int
  f : Int
  g : Int
  z : ByteArray
  l : List St
  o : Bool
  t : Int
  q : Int
def stX (x : Cu) : Int := stErr x.s x.a x.b x.c x.d x.e x.f x.g x.o x.t x.q
def comErr (x : Cu) : Int := if stX x = 0 then (if offErr x.z x.l = 0 then (if tot x.l x.l.length = x.b ∧ x.z.toList = x.s.toList then (if x.c < x.b ∨ x.d < x.b then 1 else 0) else 3) else offErr x.z x.l) else stX x
theorem dCheck_ev (x : Cu) : Evt (fun k => dual_Check.f k x.s x.a x.b x.c x.d x.e x.f x.g x.z x.l x.o x.t x.q) (comErr x) := by
  simp only [dual_Check.f]
  refine Evt.bind (CheckState_ev _ _ _ _ _ _ _ _ _ _ _) ?_
  unfold comErr stX
  by_cases h : stErr x.s x.a x.b x.c x.d x.e x.f x.g x.o x.t x.q = 0
  · rw [if_pos h]
    refine Evt.ite_pos h (Evt.bind (Check_ev _ _) ?_)
    by_cases h2 : offErr x.z x.l = 0
    · rw [if_pos h2]
      obtain ⟨_, hv⟩:=offErr_val h2
      refine Evt.ite_pos h2 (Evt.bind (Most_ev _ _ hv) ?_)
      by_cases h3 : tot x.l x.l.length = x.b
      · refine Evt.ite_pos h3 (Evt.succ ?_)
        simp only [dual_Check.j0]
        by_cases h4 : x.z.toList = x.s.toList
        · refine Evt.cast ?_ (if_pos ⟨h3, h4⟩).symm
          refine Evt.ite_neg (by simp [h4]) (Evt.ite (fun c => Evt.of_eq (if_pos (Or.inl c)).symm) (fun c => Evt.ite (fun c2 => Evt.of_eq (if_pos (Or.inr c2)).symm) (fun c2 => Evt.of_eq (if_neg (fun z => z.elim c c2)).symm)))
        · refine Evt.cast ?_ (if_neg (fun z => h4 z.2)).symm
          exact Evt.ite_pos (by simp [h4]) (Evt.pure _)
      · refine Evt.cast ?_ (if_neg (fun z => h3 z.1)).symm
        refine Evt.ite_neg h3 (Evt.succ ?_)
        simp only [dual_Check.j0]
        first
         |exact Evt.ite_pos (by simp) (Evt.pure _)
         |exact Evt.pure _
    · rw [if_neg h2]
      exact Evt.ite_neg h2 (Evt.pure _)
  · rw [if_neg h]
    exact Evt.ite_neg h (Evt.pure _)
theorem CommitError_ev (x : Cu) : Evt (fun k => gridhallref3_CommitError.f k x.s x.a x.b x.c x.d x.e x.f x.g x.z x.l x.o x.t x.q) (comErr x) := by
  simp only [gridhallref3_CommitError.f]
  refine Evt.bind (StateError_ev _ _ _ _ _ _ _ _ _ _ _) ?_
  unfold comErr stX
  by_cases h : stErr x.s x.a x.b x.c x.d x.e x.f x.g x.o x.t x.q = 0
  · rw [if_pos h]
    refine Evt.ite_pos h (Evt.bind (OfferError_ev _ _) ?_)
    by_cases h2 : offErr x.z x.l = 0
    · rw [if_pos h2]
      obtain ⟨_, hv⟩:=offErr_val h2
      refine Evt.ite_pos h2 (Evt.bind (All_ev _ _ hv) ?_)
      by_cases h3 : tot x.l x.l.length = x.b
      · refine Evt.ite_pos h3 (Evt.succ ?_)
        simp only [gridhallref3_CommitError.j0]
        by_cases h4 : x.z.toList = x.s.toList
        · refine Evt.cast ?_ (if_pos ⟨h3, h4⟩).symm
          have e : mn x.c x.d < x.b ↔ (x.c < x.b ∨ x.d < x.b):=by unfold mn; split <;> omega
          refine Evt.ite_neg (by simp [h4]) (Evt.ite (fun c => Evt.of_eq (if_pos (e.1 c)).symm) (fun c => Evt.of_eq (if_neg (fun z => c (e.2 z))).symm))
        · refine Evt.cast ?_ (if_neg (fun z => h4 z.2)).symm
          exact Evt.ite_pos (by simp; exact fun z => h4 z.symm) (Evt.pure _)
      · refine Evt.cast ?_ (if_neg (fun z => h3 z.1)).symm
        refine Evt.ite_neg h3 (Evt.succ ?_)
        simp only [gridhallref3_CommitError.j0]
        first
         |exact Evt.ite_pos (by simp) (Evt.pure _)
         |exact Evt.pure _
    · rw [if_neg h2]
      exact Evt.ite_neg h2 (Evt.pure _)
  · rw [if_neg h]
    exact Evt.ite_neg h (Evt.pure _)
def stOk (x : Cu) (o : Bool) (t q : Int) : Prop := (1 ≤ t ∧ t ≤ 200000) ∧ (o = true → x.a ≤ q ∧ q ≤ x.b) ∧ (o = false → q = 0)
structure CuGood (x : Cu) : Prop where
  rule : ruleErr x.s x.a x.b x.c x.d x.e x.f x.g = 0
  err : comErr x = 0
  rg : (0 ≤ x.a ∧ x.a ≤ x.b) ∧ x.b ≤ 100000 ∧ (1 ≤ x.e ∧ x.e ≤ 24) ∧ (1 ≤ x.f ∧ x.f ≤ 24) ∧ (0 ≤ x.g ∧ x.g ≤ 1000000)
  cd : x.b ≤ x.c ∧ x.b ≤ x.d
  off : offErr x.z x.l = 0
  val : Val x.l
  all : tot x.l x.l.length = x.b
  st : stOk x x.o x.t x.q
theorem good_of {x : Cu} (h : comErr x = 0) : CuGood x := by
  have h0:=h
  unfold comErr stX at h
  by_cases h1 : stErr x.s x.a x.b x.c x.d x.e x.f x.g x.o x.t x.q = 0
  · rw [if_pos h1] at h
    by_cases h2 : offErr x.z x.l = 0
    · rw [if_pos h2] at h
      by_cases h3 : tot x.l x.l.length = x.b ∧ x.z.toList = x.s.toList
      · rw [if_pos h3] at h
        by_cases h4 : x.c < x.b ∨ x.d < x.b
        · rw [if_pos h4] at h
          omega
        · obtain ⟨k1, ⟨r1, r2, r3, r4, r5, r6, r7⟩,⟨s1, s2⟩, s3⟩:=stErr_ok _ _ _ _ _ _ _ _ _ _ _ h1
          refine ⟨k1, h0, ⟨r1, r2, r5, r6, r7⟩,⟨by omega, by omega⟩, h2, (offErr_val h2).2, h3.1, s1, s2, fun e => ?_⟩
          rcases s3 with s3|s3
          · rw [e] at s3
            cases s3
          · exact s3
      · rw [if_neg h3] at h
        omega
    · rw [if_neg h2] at h
      exact absurd h h2
  · rw [if_neg h1] at h
    exact absurd h h1
theorem stErr_of {x : Cu} (h : CuGood x) {o : Bool} {t q : Int} (k : stOk x o t q) : stErr x.s x.a x.b x.c x.d x.e x.f x.g o t q = 0 := by
  unfold stErr
  rw [if_pos h.rule, if_pos ⟨k.1, k.2.1⟩, if_pos]
  cases o with
 |true => exact Or.inl rfl
 |false => exact Or.inr (k.2.2 rfl)
def can (x : Cu) (o : Bool) (t : Int) (n : Bool) : Prop := (o = true → n = false → x.e ≤ t) ∧ (o = false → n = true → x.f ≤ t)
def nt (o : Bool) (t : Int) (n : Bool) : Int := if o = n then mn (t + 1) 200000 else 1
def cs (x : Cu) (o n : Bool) : Int := if o = false ∧ n = true then x.g else 0
def ct (x : Cu) (o : Bool) (t : Int) : Int := mn t (if o = true then x.e else x.f)
def nst (x : Cu) (o : Bool) (t : Int) (n : Bool) : Int := ct x n (nt o t n)
theorem can_ct (x : Cu) (o : Bool) (t : Int) (n : Bool) : can x o (ct x o t) n ↔ can x o t n := by
  unfold can ct mn
  cases o <;> cases n <;> simp <;> split <;> omega
theorem nst_ct {x : Cu} (h : CuGood x) (o : Bool) (t : Int) (n : Bool) : nst x o (ct x o t) n = nst x o t n := by
  obtain ⟨_, _, r5, r6, _⟩:=h.rg
  unfold nst ct nt mn
  cases o <;> cases n <;> simp <;> (repeat' split) <;> omega
theorem stOk_ct {x : Cu} (h : CuGood x) {o : Bool} {t q : Int} (k : stOk x o t q) : stOk x o (ct x o t) q := by
  obtain ⟨_, _, r5, r6, _⟩:=h.rg
  obtain ⟨k1, k2⟩:=k
  refine ⟨?_, k2⟩
  unfold ct mn
  cases o <;> simp <;> split <;> omega
def pn (n : Bool) (p : Int) : Int := if n = true then p else -1
def pz (n : Bool) (p : Int) : Int := if n = true then p else 0
theorem stOk_nt {x : Cu} (h : CuGood x) {o : Bool} {t q : Int} (k : stOk x o t q) (n : Bool) {p : Int} (hp : x.a ≤ p ∧ p ≤ x.b) : stOk x n (nt o t n) (pz n p) := by
  obtain ⟨⟨k1, k2⟩, _⟩:=k
  refine ⟨?_, fun e => ?_, fun e => ?_⟩
  · unfold nt mn
    split
    · split <;> omega
    · omega
  · unfold pz
    rw [if_pos e]
    exact hp
  · unfold pz
    rw [if_neg (by rw [e]; simp)]
theorem mov_ok {x : Cu} (h : CuGood x) {o : Bool} {t q : Int} (k : stOk x o t q) (n : Bool) {p : Int} (hp : x.a ≤ p ∧ p ≤ x.b) (c : can x o t n) :
    movR x.a x.b x.c x.d x.e x.f x.g o t q (pn n p) = (n, nt o t n, pz n p, cs x o n, 0):=by
  obtain ⟨r1, _⟩:=h.rg
  obtain ⟨c1, c2⟩:=h.cd
  obtain ⟨k1, k2, k3⟩:=k
  obtain ⟨g1, g2⟩:=c
  unfold movR pn pz nt cs
  cases o with
 |true =>
    have k2:=k2 rfl
    cases n with
   |true =>
      simp only [if_true, true_and]
      rw [if_neg (by omega), if_neg (by omega), if_pos (by omega)]
      simp
   |false =>
      have g1:=g1 rfl rfl
      simp
      omega
 |false =>
    cases n with
   |true =>
      have g2:=g2 rfl rfl
      simp only [if_true]
      rw [if_neg (by omega), if_neg (by simp), if_neg (by omega), if_neg (by omega)]
      simp
   |false => simp
theorem mov_no {x : Cu} (h : CuGood x) {o : Bool} {t q : Int} (k : stOk x o t q) (n : Bool) {p : Int} (hp : x.a ≤ p ∧ p ≤ x.b) (c : ¬ can x o t n) :
    ¬ (movR x.a x.b x.c x.d x.e x.f x.g o t q (pn n p)).2.2.2.2 = 0:=by
  obtain ⟨r1, _⟩:=h.rg
  unfold movR pn
  unfold can at c
  cases o with
 |true =>
    cases n with
   |true => exact absurd ⟨fun _ h => absurd h (by simp), fun h => absurd h (by simp)⟩ c
   |false =>
      have : t < x.e:=by
        by_cases g : x.e ≤ t
        · exact absurd ⟨fun _ _ => g, fun h => absurd h (by simp)⟩ c
        · omega
      simp [this]
 |false =>
    cases n with
   |true =>
      have : t < x.f:=by
        by_cases g : x.f ≤ t
        · exact absurd ⟨fun h => absurd h (by simp), fun _ _ => g⟩ c
        · omega
      simp only [if_true]
      rw [if_neg (by omega), if_neg (by simp), if_neg (by omega), if_pos this]
      simp
   |false => exact absurd ⟨fun h => absurd h (by simp), fun _ h => absurd h (by simp)⟩ c
theorem next_ev {x : Cu} (h : CuGood x) {o : Bool} {t q : Int} (k : stOk x o t q) (p : Int) : Evt (fun k => unit_Next.f k x.s x.a x.b x.c x.d x.e x.f x.g o t q p) (movR x.a x.b x.c x.d x.e x.f x.g o t q p) := by
  have:=Next_ev (s:=x.s) (a:=x.a) (b:=x.b) (c:=x.c) (d:=x.d) (e:=x.e) (f:=x.f) (g:=x.g) (o:=o) (t:=t) (q:=q) p
  rw [if_pos (stErr_of h k)] at this
  exact this
def Wp (x : Cu) (p : Int) : Int := mx (supL x.l p x.l.length) x.a
def Gp (x : Cu) (p : Int) : Int := p * Wp x p - cst x.l (Wp x p) x.l.length
theorem Wp_bd {x : Cu} (h : CuGood x) (p : Int) : x.a ≤ Wp x p ∧ Wp x p ≤ x.b := by
  have s:=sup_bd h.val p x.l.length (Nat.le_refl _)
  have a:=h.all
  have r:=h.rg.1
  unfold Wp mx
  split <;> omega
theorem Gp_bd {x : Cu} (h : CuGood x) {p : Int} (hp : -2000000 ≤ p ∧ p ≤ 2000000) : -2000000000000 ≤ Gp x p ∧ Gp x p ≤ 2000000000000 := by
  have w:=Wp_bd h p
  have r:=h.rg
  have c:=cst_bd h.val (Wp x p) x.l.length (Nat.le_refl _)
  have m:=mul_bd (a:=Wp x p) (A:=100000) (b:=p) (B:=2000000) (by omega) (by omega) hp.1 hp.2
  have l:=h.val.len
  unfold Gp
  omega
theorem earn_ev {x : Cu} (h : CuGood x) {p : Int} (hp : -2000000 ≤ p ∧ p ≤ 2000000) : Evt (fun k => dual_earn.f k x.s x.a x.b x.c x.d x.e x.f x.g x.z x.l x.o x.t x.q p) (Wp x p, Gp x p) := by
  have w:=Wp_bd h p
  have r:=h.rg
  have c:=cst_bd h.val (Wp x p) x.l.length (Nat.le_refl _)
  have m:=mul_bd (a:=Wp x p) (A:=100000) (b:=p) (B:=2000000) (by omega) (by omega) hp.1 hp.2
  have l:=h.val.len
  have S:=Supply_ev x.z x.l p
  unfold supR at S
  rw [if_pos h.off, if_pos hp] at S
  have C:=Cost_ev x.z x.l (Wp x p)
  unfold costR at C
  rw [if_pos h.off, if_pos (by rw [h.all]; omega)] at C
  simp only [dual_earn.f]
  refine Evt.bind S (Evt.bind C (Evt.of_eq ?_))
  show (Wp x p, wrap64 (wrap64 (p * Wp x p) - cst x.l (Wp x p) x.l.length)) = _
  rw [wrap64_of (x:=p * Wp x p) (by omega) (by omega), wrap64_of (by omega) (by omega)]
  rfl
abbrev Cell := S103
abbrev zCell : Cell := z103
theorem rdcell (l : List Cell) (n : Nat) : rd_T103 l (n : Int) = l.getD n zCell := rfl
def Bet (c c' : Cell) : Prop := c'.f0.f0 = c.f0.f0 ∧ c'.f0.f1 = c.f0.f1 ∧ c.f1 ≤ c'.f1
theorem Bet.refl (c : Cell) : Bet c c := ⟨rfl, rfl, Int.le_refl _⟩
theorem Bet.trans {a b c : Cell} (h : Bet a b) (k : Bet b c) : Bet a c := ⟨k.1.trans h.1, k.2.1.trans h.2.1, Int.le_trans h.2.2 k.2.2⟩
def Put (l : List Cell) (c : Cell) (r : List Cell) : Prop := (∀ y ∈ r, y ∈ l ∨ y = c) ∧ (∀ y ∈ l, ∃ y' ∈ r, Bet y y') ∧ (∃ y ∈ r, Bet c y) ∧ r.length ≤ l.length + 1
theorem cell_mem {l : List Cell} {n : Nat} (h : n < l.length) : l.getD n zCell ∈ l := getD_mem h
theorem put_hit (l : List Cell) (c : Cell) (n : Nat) (hn : n < l.length) (h1 : (l.getD n zCell).f0.f0 = c.f0.f0) (h2 : (l.getD n zCell).f0.f1 = c.f0.f1) (h3 : (l.getD n zCell).f1 ≤ c.f1) : Put l c (l.set n c) := by
  refine ⟨fun y hy => ?_, fun y hy => ?_, ⟨c, ?_, Bet.refl c⟩, by simp⟩
  · rcases List.mem_or_eq_of_mem_set hy with h|h
    · exact Or.inl h
    · exact Or.inr h
  · obtain ⟨j, hj, rfl⟩:=List.getElem_of_mem hy
    by_cases e : n = j
    · subst e
      refine ⟨c, ?_, ?_⟩
      · exact List.mem_of_getElem? (by rw [List.getElem?_set_self hn])
      · rw [List.getD_eq_getElem?_getD, List.getElem?_eq_getElem hn] at h1 h2 h3
        exact ⟨h1.symm, h2.symm, h3⟩
    · exact ⟨l[j], List.mem_of_getElem? (i:=j) (by rw [List.getElem?_set_ne e, List.getElem?_eq_getElem hj]), Bet.refl _⟩
  · exact List.mem_of_getElem? (i:=n) (by rw [List.getElem?_set_self hn])
theorem put_l0 (l : List Cell) (c : Cell) (hl : l.length ≤ 1000000) : ∀ n, n ≤ l.length → ∃ r, Evt (fun k => dual_put.l0 k l (l.length : Int) (n : Int) c.f0.f0 c.f0.f1 c.f0.f2 c.f1 c.f2) r ∧ Put l c r := by
  refine down ?_ ?_
  · refine ⟨l ++ [c], Evt.succ ?_, fun y hy => ?_, fun y hy => ⟨y, by simp [hy], Bet.refl y⟩,⟨c, by simp, Bet.refl c⟩, by simp⟩
    · simp only [dual_put.l0]
      exact Evt.ite_neg (by omega) (Evt.ite_pos (by omega) (Evt.pure _))
    · simpa using hy
  · intro n hn ih
    obtain ⟨r, e1, e2⟩:=ih
    have w : wrap64 ((n : Int) + 1) = ((n + 1 : Nat) : Int):=wrap64_nat (by omega)
    have go : Evt (fun k => dual_put.j1 k l (n : Int) (l.length : Int) (n : Int) false c.f0.f0 c.f0.f1 c.f0.f2 c.f1 c.f2 (l.getD n zCell).f0.f0 (l.getD n zCell).f0.f1 (l.getD n zCell).f0.f2 (l.getD n zCell).f1 (l.getD n zCell).f2) r:=by
      refine Evt.succ ?_
      simp only [dual_put.j1, w]
      exact Evt.ite_neg (by simp) e1
    by_cases c1 : (l.getD n zCell).f0.f0 = c.f0.f0
    · by_cases c2 : (l.getD n zCell).f0.f1 = c.f0.f1
      · have b : ((l.getD n zCell).f0.f1 == c.f0.f1) = true:=by rw [c2]; simp
        by_cases c3 : c.f1 > (l.getD n zCell).f1
        · refine ⟨l.set n c, Evt.succ ?_, put_hit l c n hn c1 c2 (by omega)⟩
          simp only [dual_put.l0, rdcell]
          refine Evt.ite_pos (by omega) (Evt.ite_pos (by omega) (Evt.ite_pos (by omega) (Evt.ite_pos (by rw [c1]; simp) (Evt.succ ?_))))
          simp only [dual_put.j1, Int.toNat_natCast]
          exact Evt.ite_pos b (Evt.ite_pos c3 (Evt.ite_pos (by omega) (Evt.ite_pos (by omega) (Evt.pure _))))
        · refine ⟨l, Evt.succ ?_, fun y hy => Or.inl hy, fun y hy => ⟨y, hy, Bet.refl y⟩,⟨_, cell_mem hn, c1, c2, by omega⟩, by omega⟩
          simp only [dual_put.l0, rdcell]
          refine Evt.ite_pos (by omega) (Evt.ite_pos (by omega) (Evt.ite_pos (by omega) (Evt.ite_pos (by rw [c1]; simp) (Evt.succ ?_))))
          simp only [dual_put.j1, Int.toNat_natCast]
          exact Evt.ite_pos b (Evt.ite_neg c3 (Evt.pure _))
      · refine ⟨r, Evt.succ ?_, e2⟩
        have b : ((l.getD n zCell).f0.f1 == c.f0.f1) = false:=by simpa using c2
        simp only [dual_put.l0, rdcell, b]
        exact Evt.ite_pos (by omega) (Evt.ite_pos (by omega) (Evt.ite_pos (by omega) (Evt.ite_pos (by rw [c1]; simp) go)))
    · refine ⟨r, Evt.succ ?_, e2⟩
      simp only [dual_put.l0, rdcell]
      exact Evt.ite_pos (by omega) (Evt.ite_pos (by omega) (Evt.ite_pos (by omega) (Evt.ite_neg (by simpa using c1) go)))
theorem put_ev (l : List Cell) (hl : l.length ≤ 1000000) (o : Bool) (t q v j : Int) : ∃ r, Evt (fun k => dual_put.f k l o t q v j) r ∧ Put l ⟨⟨o, t, q⟩, v, j⟩ r := by
  simp only [dual_put.f]
  exact put_l0 l ⟨⟨o, t, q⟩, v, j⟩ hl 0 (by omega)
theorem cut_ev (x : Cu) (o : Bool) (t q : Int) : dual_cut.f x.s x.a x.b x.c x.d x.e x.f x.g x.z x.l x.o x.t x.q o t q = some (o, ct x o t, q) := by
  unfold dual_cut.f ct
  cases o with
 |true => rw [if_pos rfl, if_pos rfl]
 |false => rw [if_neg (by simp), if_neg (by simp)]
structure Ach (x : Cu) (p : Cell) (j : Int) (E : Int) (c : Cell) : Prop where
  back : c.f2 = j
  can : can x p.f0.f0 p.f0.f1 c.f0.f0
  st : c.f0.f1 = nst x p.f0.f0 p.f0.f1 c.f0.f0
  val : c.f1 = p.f1 + (if c.f0.f0 = true then E else 0) - cs x p.f0.f0 c.f0.f0
  ok : stOk x c.f0.f0 c.f0.f1 c.f0.f2
def Cmp (x : Cu) (p : Cell) (E : Int) (R : List Cell) : Prop := ∀ n, can x p.f0.f0 p.f0.f1 n → ∃ c ∈ R, c.f0.f0 = n ∧ c.f0.f1 = nst x p.f0.f0 p.f0.f1 n ∧ p.f1 + (if n = true then E else 0) - cs x p.f0.f0 n ≤ c.f1
theorem Cmp.bet {x : Cu} {p : Cell} {E : Int} {R R' : List Cell} (h : Cmp x p E R) (k : ∀ y ∈ R, ∃ y' ∈ R', Bet y y') : Cmp x p E R' := by
  intro n hn
  obtain ⟨c, c1, c2, c3, c4⟩:=h n hn
  obtain ⟨y, y1, y2, y3, y4⟩:=k c c1
  exact ⟨y, y1, y2.trans c2, y3.trans c3, Int.le_trans c4 y4⟩
theorem one_sw {x : Cu} (h : CuGood x) {p : Cell} (hp : stOk x p.f0.f0 p.f0.f1 p.f0.f2) (n : Bool) {w : Int} (hw : x.a ≤ w ∧ w ≤ x.b) (j v : Int) (N : List Cell) (hN : N.length ≤ 1000000) :
    (can x p.f0.f0 p.f0.f1 n → ∃ r, Put N ⟨⟨n, nst x p.f0.f0 p.f0.f1 n, pz n w⟩, v, j⟩ r ∧
      Evt (fun k => unit_Next.f k x.s x.a x.b x.c x.d x.e x.f x.g p.f0.f0 p.f0.f1 p.f0.f2 (pn n w)) (n, nt p.f0.f0 p.f0.f1 n, pz n w, cs x p.f0.f0 n, 0) ∧
      Evt (fun k => dual_put.f k N n (nst x p.f0.f0 p.f0.f1 n) (pz n w) v j) r ∧ stOk x n (nst x p.f0.f0 p.f0.f1 n) (pz n w)) ∧
    (¬ can x p.f0.f0 p.f0.f1 n → ∃ m, ¬ m.2.2.2.2 = 0 ∧ Evt (fun k => unit_Next.f k x.s x.a x.b x.c x.d x.e x.f x.g p.f0.f0 p.f0.f1 p.f0.f2 (pn n w)) m):=by
  refine ⟨fun c => ?_, fun c => ⟨_, mov_no h hp n hw c, next_ev h hp _⟩⟩
  obtain ⟨r, r1, r2⟩:=put_ev N hN n (nst x p.f0.f0 p.f0.f1 n) (pz n w) v j
  refine ⟨r, r2, ?_, r1, stOk_ct h (stOk_nt h hp n hw)⟩
  have:=next_ev h hp (pn n w)
  rw [mov_ok h hp n hw c] at this
  exact this
abbrev rdr (l : List (List Cell)) (n : Nat) : List Cell := l.getD n []
theorem rdrow (l : List (List Cell)) (n : Nat) : rd_L5 l (n : Int) = rdr l n := rfl
structure Link (x : Cu) (E : Int) (Q R : List Cell) : Prop where
  ach : ∀ c ∈ R, ∃ j : Nat, j < Q.length ∧ Ach x (Q.getD j zCell) j E c
  cmp : ∀ j, j < Q.length → Cmp x (Q.getD j zCell) E R
  len : R.length ≤ 2 * Q.length
structure RowOk (x : Cu) (m : Nat) (R : List Cell) : Prop where
  pos : 0 < R.length
  len : R.length ≤ 2 ^ m
  ok : ∀ c ∈ R, stOk x c.f0.f0 c.f0.f1 c.f0.f2 ∧ -(2100000000000 * (m : Int)) ≤ c.f1 ∧ c.f1 ≤ 2100000000000 * (m : Int)
theorem Link.row {x : Cu} (h : CuGood x) {E : Int} (hE : -2000000000000 ≤ E ∧ E ≤ 2000000000000) {Q R : List Cell} (k : Link x E Q R) {m : Nat} (q : RowOk x m Q) : RowOk x (m + 1) R := by
  obtain ⟨_, _, _, _, g1, g2⟩:=h.rg
  refine ⟨?_, ?_, fun c hc => ?_⟩
  · obtain ⟨c, hc, _⟩:=k.cmp 0 q.pos (Q.getD 0 zCell).f0.f0 ⟨fun e f => by (rw [e] at f; cases f), fun e f => by (rw [e] at f; cases f)⟩
    exact List.length_pos_of_mem hc
  · have:=k.len
    have:=q.len
    rw [Nat.pow_succ]
    omega
  · obtain ⟨j, hj, a⟩:=k.ach c hc
    have b:=(q.ok _ (cell_mem hj)).2
    refine ⟨a.ok, ?_⟩
    have e:=a.val
    have e1 : -2000000000000 ≤ (if c.f0.f0 = true then E else 0) ∧ (if c.f0.f0 = true then E else 0) ≤ 2000000000000:=by split <;> omega
    have e2 : 0 ≤ cs x (Q.getD j zCell).f0.f0 c.f0.f0 ∧ cs x (Q.getD j zCell).f0.f0 c.f0.f0 ≤ 1000000:=by
      unfold cs
      split <;> omega
    omega
section
variable {x : Cu} (h : CuGood x)
include h
structure Half (x : Cu) (E : Int) (Q : List Cell) (j : Nat) (N : List Cell) : Prop where
  ach : ∀ c ∈ N, ∃ i : Nat, i < j ∧ Ach x (Q.getD i zCell) i E c
  cmp : ∀ i, i < j → Cmp x (Q.getD i zCell) E N
  len : N.length ≤ 2 * j
theorem Single_l2 (P : List Int) (rows : List (List Cell)) (w E : Int) (hw : x.a ≤ w ∧ w ≤ x.b) (hE : -2000000000000 ≤ E ∧ E ≤ 2000000000000) (i : Nat) (Q : List Cell) {m : Nat} (hm : m ≤ 8) (q : RowOk x m Q)
    (hr : rows.length ≤ 100) (hi : i ≤ 100) :
    ∀ j, j ≤ Q.length → ∀ N, Half x E Q j N → ∃ R, Link x E Q R ∧ ∀ r : List Int × Int × Int, Evt (fun k => dual_Single.l1 k P (rows ++ [R]) P (P.length : Int) ((i + 1 : Nat) : Int) x.s x.a x.b x.c x.d x.e x.f x.g x.z x.l x.o x.t x.q) r → Evt (fun k => dual_Single.l2 k P rows w E N P (P.length : Int) (i : Int) Q (Q.length : Int) (j : Int) x.s x.a x.b x.c x.d x.e x.f x.g x.z x.l x.o x.t x.q) r:=by
  have hQ : Q.length ≤ 256:=Nat.le_trans q.len (Nat.le_trans (Nat.pow_le_pow_right (by omega) hm) (by decide))
  obtain ⟨_, _, _, _, g1, g2⟩:=h.rg
  refine down ?_ ?_
  · intro N k
    refine ⟨N, ⟨k.ach, k.cmp, k.len⟩, fun r H => Evt.succ ?_⟩
    simp only [dual_Single.l2, wrap64_nat (n:=i) (by omega)]
    exact Evt.ite_neg (by omega) (Evt.ite_pos (by omega) H)
  · intro j hj ih N k
    have hN:=k.len
    obtain ⟨hp, hb⟩:=q.ok _ (cell_mem hj)
    have hb : -30000000000000 ≤ (Q.getD j zCell).f1 ∧ (Q.getD j zCell).f1 ≤ 30000000000000:=by omega
    have cs0 : 0 ≤ cs x (Q.getD j zCell).f0.f0 true ∧ cs x (Q.getD j zCell).f0.f0 true ≤ 1000000:=by
      unfold cs
      split <;> omega
    have e0 : Unit → wrap64 (wrap64 ((Q.getD j zCell).f1 + E) - cs x (Q.getD j zCell).f0.f0 true) = (Q.getD j zCell).f1 + E - cs x (Q.getD j zCell).f0.f0 true:=fun _ => by
      rw [wrap64_of (x:=(Q.getD j zCell).f1 + E) (by omega) (by omega), wrap64_of (by omega) (by omega)]
    have csf : cs x (Q.getD j zCell).f0.f0 false = 0:=by
      unfold cs
      rw [if_neg (by simp)]
    have second : ∀ M : List Cell, M.length ≤ 2 * j + 1 → (∀ c ∈ M, ∃ i : Nat, i < j + 1 ∧ Ach x (Q.getD i zCell) i E c) → (∀ i, i < j → Cmp x (Q.getD i zCell) E M) →
        (can x (Q.getD j zCell).f0.f0 (Q.getD j zCell).f0.f1 false → ∃ c ∈ M, c.f0.f0 = false ∧ c.f0.f1 = nst x (Q.getD j zCell).f0.f0 (Q.getD j zCell).f0.f1 false ∧ (Q.getD j zCell).f1 ≤ c.f1) →
        ∃ R, Link x E Q R ∧ ∀ r : List Int × Int × Int, Evt (fun k => dual_Single.l1 k P (rows ++ [R]) P (P.length : Int) ((i + 1 : Nat) : Int) x.s x.a x.b x.c x.d x.e x.f x.g x.z x.l x.o x.t x.q) r → Evt (fun k => dual_Single.j3 k P rows w E M (j : Int) P (P.length : Int) (i : Int) Q (Q.length : Int) (j : Int) x.s x.a x.b x.c x.d x.e x.f x.g x.z x.l x.o x.t x.q (Q.getD j zCell).f0.f0 (Q.getD j zCell).f0.f1 (Q.getD j zCell).f0.f2 (Q.getD j zCell).f1 (Q.getD j zCell).f2) r:=by
      intro M hM a1 a2 a3
      obtain ⟨s1, s2⟩:=one_sw h hp true hw (j : Int) ((Q.getD j zCell).f1 + E - cs x (Q.getD j zCell).f0.f0 true) M (by omega)
      by_cases c : can x (Q.getD j zCell).f0.f0 (Q.getD j zCell).f0.f1 true
      · obtain ⟨R, p1, p2, p3, p4⟩:=s1 c
        have st : ∀ (R' : List Cell) (r : List Int × Int × Int),(Evt (fun k => dual_Single.l1 k P (rows ++ [R']) P (P.length : Int) ((i + 1 : Nat) : Int) x.s x.a x.b x.c x.d x.e x.f x.g x.z x.l x.o x.t x.q) r → Evt (fun k => dual_Single.l2 k P rows w E R P (P.length : Int) (i : Int) Q (Q.length : Int) ((j + 1 : Nat) : Int) x.s x.a x.b x.c x.d x.e x.f x.g x.z x.l x.o x.t x.q) r) → Evt (fun k => dual_Single.l1 k P (rows ++ [R']) P (P.length : Int) ((i + 1 : Nat) : Int) x.s x.a x.b x.c x.d x.e x.f x.g x.z x.l x.o x.t x.q) r → Evt (fun k => dual_Single.j3 k P rows w E M (j : Int) P (P.length : Int) (i : Int) Q (Q.length : Int) (j : Int) x.s x.a x.b x.c x.d x.e x.f x.g x.z x.l x.o x.t x.q (Q.getD j zCell).f0.f0 (Q.getD j zCell).f0.f1 (Q.getD j zCell).f0.f2 (Q.getD j zCell).f1 (Q.getD j zCell).f2) r:=by
          intro R' r H1 H2
          refine Evt.succ ?_
          simp only [dual_Single.j3, cut_ev, Option.bind_some, wrap64_nat (n:=j) (by omega)]
          refine Evt.bind p2 (Evt.ite_pos rfl ?_)
          simp only [e0 ()]
          exact Evt.bind p3 (H1 H2)
        refine (fun ⟨R', u1, u2⟩ => ⟨R', u1, fun r H => st R' r (u2 r) H⟩) (ih R ⟨fun y hy => ?_, fun i hi => ?_, by have:=p1.2.2.2; omega⟩)
        · rcases p1.1 y hy with y1|rfl
          · exact a1 y y1
          · exact ⟨j, by omega, rfl, c, rfl, by simp, p4⟩
        · by_cases ei : i = j
          · subst ei
            intro n hn
            cases n with
           |true =>
              obtain ⟨y, y1, y2, y3, y4⟩:=p1.2.2.1
              exact ⟨y, y1, y2, y3, by rw [if_pos rfl]; exact y4⟩
           |false =>
              obtain ⟨y, y1, y2, y3, y4⟩:=a3 hn
              obtain ⟨y', z1, z2, z3, z4⟩:=p1.2.1 y y1
              exact ⟨y', z1, z2.trans y2, z3.trans y3, by rw [csf, if_neg (by simp)]; omega⟩
          · exact (a2 i (by omega)).bet p1.2.1
      · obtain ⟨R, p1, p2⟩:=s2 c
        have st : ∀ (R' : List Cell) (r : List Int × Int × Int),(Evt (fun k => dual_Single.l1 k P (rows ++ [R']) P (P.length : Int) ((i + 1 : Nat) : Int) x.s x.a x.b x.c x.d x.e x.f x.g x.z x.l x.o x.t x.q) r → Evt (fun k => dual_Single.l2 k P rows w E M P (P.length : Int) (i : Int) Q (Q.length : Int) ((j + 1 : Nat) : Int) x.s x.a x.b x.c x.d x.e x.f x.g x.z x.l x.o x.t x.q) r) → Evt (fun k => dual_Single.l1 k P (rows ++ [R']) P (P.length : Int) ((i + 1 : Nat) : Int) x.s x.a x.b x.c x.d x.e x.f x.g x.z x.l x.o x.t x.q) r → Evt (fun k => dual_Single.j3 k P rows w E M (j : Int) P (P.length : Int) (i : Int) Q (Q.length : Int) (j : Int) x.s x.a x.b x.c x.d x.e x.f x.g x.z x.l x.o x.t x.q (Q.getD j zCell).f0.f0 (Q.getD j zCell).f0.f1 (Q.getD j zCell).f0.f2 (Q.getD j zCell).f1 (Q.getD j zCell).f2) r:=by
          intro R' r H1 H2
          refine Evt.succ ?_
          simp only [dual_Single.j3, cut_ev, Option.bind_some, wrap64_nat (n:=j) (by omega)]
          exact Evt.bind p2 (Evt.ite_neg p1 (H1 H2))
        refine (fun ⟨R', u1, u2⟩ => ⟨R', u1, fun r H => st R' r (u2 r) H⟩) (ih M ⟨a1, fun i hi => ?_, by omega⟩)
        by_cases ei : i = j
        · subst ei
          intro n hn
          cases n with
         |true => exact absurd hn c
         |false =>
            obtain ⟨y, y1, y2, y3, y4⟩:=a3 hn
            exact ⟨y, y1, y2, y3, by rw [csf, if_neg (by simp)]; omega⟩
        · exact a2 i (by omega)
    obtain ⟨s1, s2⟩:=one_sw h hp false hw (j : Int) (Q.getD j zCell).f1 N (by omega)
    by_cases c : can x (Q.getD j zCell).f0.f0 (Q.getD j zCell).f0.f1 false
    · obtain ⟨R, p1, p2, p3, p4⟩:=s1 c
      refine (fun ⟨R', u1, u2⟩ => ⟨R', u1, fun r H => by
        refine Evt.succ ?_
        simp only [dual_Single.l2, cut_ev, Option.bind_some, rdcell]
        exact Evt.ite_pos (by omega) (Evt.ite_pos (by omega) (Evt.ite_pos (by omega) (Evt.bind p2 (Evt.ite_pos rfl (Evt.bind p3 (u2 r H))))))⟩) (second R (by have:=p1.2.2.2; omega) (fun y hy => ?_) (fun i hi => (k.cmp i hi).bet p1.2.1) fun _ => ?_)
      · rcases p1.1 y hy with y1|rfl
        · obtain ⟨i, i1, i2⟩:=k.ach y y1
          exact ⟨i, by omega, i2⟩
        · refine ⟨j, by omega, rfl, c, rfl, ?_, p4⟩
          show (Q.getD j zCell).f1 = (Q.getD j zCell).f1 + (if false = true then E else 0) - cs x (Q.getD j zCell).f0.f0 false
          rw [csf, if_neg (by simp)]
          omega
      · obtain ⟨y, y1, y2, y3, y4⟩:=p1.2.2.1
        exact ⟨y, y1, y2, y3, y4⟩
    · obtain ⟨R, p1, p2⟩:=s2 c
      refine (fun ⟨R', u1, u2⟩ => ⟨R', u1, fun r H => by
        refine Evt.succ ?_
        simp only [dual_Single.l2, cut_ev, Option.bind_some, rdcell]
        exact Evt.ite_pos (by omega) (Evt.ite_pos (by omega) (Evt.ite_pos (by omega) (Evt.bind p2 (Evt.ite_neg p1 (u2 r H)))))⟩) (second N (by omega) (fun y hy => ?_) k.cmp fun hc => absurd hc c)
      obtain ⟨i, i1, i2⟩:=k.ach y hy
      exact ⟨i, by omega, i2⟩
structure Rws (x : Cu) (P : List Int) (i : Nat) (rows : List (List Cell)) : Prop where
  len : rows.length = i + 1
  zero : rdr rows 0 = [⟨⟨x.o, ct x x.o x.t, x.q⟩, 0, 0⟩]
  link : ∀ m, m < i → Link x (Gp x (P.getD m 0)) (rdr rows m) (rdr rows (m + 1))
theorem Rws.ok {P : List Int} (hP : ∀ m, m < P.length → -2000000 ≤ P.getD m 0 ∧ P.getD m 0 ≤ 2000000) {i : Nat} (hi : i ≤ P.length) {rows : List (List Cell)} (k : Rws x P i rows) : ∀ m, m ≤ i → RowOk x m (rdr rows m) := by
  intro m
  induction m with
 |zero =>
    intro _
    rw [k.zero]
    refine ⟨by simp, by simp, fun c hc => ?_⟩
    simp at hc
    subst hc
    exact ⟨stOk_ct h h.st, by simp, by simp⟩
 |succ m ih => exact fun hm => (k.link m (by omega)).row h (Gp_bd h (hP m (by omega))) (ih (by omega))
omit h in
theorem row_app (rows : List (List Cell)) (R : List Cell) (n : Nat) (hn : n ≤ rows.length) : rdr (rows ++ [R]) n = if n = rows.length then R else rdr rows n := by
  unfold rdr
  rw [List.getD_eq_getElem?_getD]
  by_cases c : n = rows.length
  · rw [if_pos c, List.getElem?_append_right (by omega), c, Nat.sub_self]
    rfl
  · rw [if_neg c, List.getElem?_append_left (by omega), ← List.getD_eq_getElem?_getD]
theorem Single_l1 {P : List Int} (hn : P.length ≤ 8) (hP : ∀ m, m < P.length → -2000000 ≤ P.getD m 0 ∧ P.getD m 0 ≤ 2000000) :
    ∀ i, i ≤ P.length → ∀ rows, Rws x P i rows → ∃ rows', Rws x P P.length rows' ∧ ∀ r : List Int × Int × Int, Evt (fun k => dual_Single.l3 k P rows' (rdr rows' P.length) 0 (rdr rows' P.length) ((rdr rows' P.length).length : Int) 0 x.s x.a x.b x.c x.d x.e x.f x.g x.z x.l x.o x.t x.q) r → Evt (fun k => dual_Single.l1 k P rows P (P.length : Int) (i : Int) x.s x.a x.b x.c x.d x.e x.f x.g x.z x.l x.o x.t x.q) r:=by
  refine down ?_ ?_
  · intro rows k
    have w : wrap64 ((rows.length : Int) - 1) = (P.length : Int):=by rw [k.len]; exact (wrap64_of (by omega) (by omega)).trans (by omega)
    have kl:=k.len
    refine ⟨rows, k, fun r H => Evt.succ ?_⟩
    simp only [dual_Single.l1, w, rdrow]
    exact Evt.ite_neg (by omega) (Evt.ite_pos (by omega) (Evt.ite_pos (by omega) H))
  · intro i hi ih rows k
    have w : wrap64 ((rows.length : Int) - 1) = (i : Int):=by rw [k.len]; exact (wrap64_of (by omega) (by omega)).trans (by omega)
    have kl:=k.len
    obtain ⟨R, hR, H2⟩:=Single_l2 h P rows _ _ (Wp_bd h (P.getD i 0)) (Gp_bd h (hP i hi)) i (rdr rows i) (m:=i) (by omega) (Rws.ok h hP (by omega) k i (Nat.le_refl _)) (by omega) (by omega) 0 (by omega) [] ⟨fun c hc => by simp at hc, fun j hj => by omega, by simp⟩
    obtain ⟨rows', k', H'⟩:=ih (rows ++ [R]) ⟨by simp [kl], by
      rw [row_app _ _ _ (by omega), if_neg (by omega)]
      exact k.zero, fun m hm => by
      by_cases e : m = i
      · subst e
        rw [row_app _ _ _ (by omega), row_app _ _ _ (by omega), if_neg (by omega), if_pos (by omega)]
        exact hR
      · rw [row_app _ _ _ (by omega), row_app _ _ _ (by omega), if_neg (by omega), if_neg (by omega)]
        exact k.link m (by omega)⟩
    refine ⟨rows', k', fun r H => Evt.succ ?_⟩
    simp only [dual_Single.l1, w, rdrow]
    exact Evt.ite_pos (by omega) (Evt.ite_pos (by omega) (Evt.ite_pos (by omega) (Evt.bind (earn_ev h (hP i hi)) (Evt.ite_pos (by omega) (Evt.ite_pos (by omega) (H2 r (H' r H)))))))
theorem Single_rows {P : List Int} (hn : P.length ≤ 8) (hP : ∀ m, m < P.length → -2000000 ≤ P.getD m 0 ∧ P.getD m 0 ≤ 2000000) :
    ∃ rows, Rws x P P.length rows ∧ ∀ r : List Int × Int × Int, Evt (fun k => dual_Single.l3 k P rows (rdr rows P.length) 0 (rdr rows P.length) ((rdr rows P.length).length : Int) 0 x.s x.a x.b x.c x.d x.e x.f x.g x.z x.l x.o x.t x.q) r → Evt (fun k => dual_Single.l1 k P [[⟨⟨x.o, ct x x.o x.t, x.q⟩, 0, 0⟩]] P (P.length : Int) 0 x.s x.a x.b x.c x.d x.e x.f x.g x.z x.l x.o x.t x.q) r :=
  Single_l1 h hn hP 0 (by omega) _ ⟨rfl, rfl, fun m hm => by omega⟩
end
def endS (x : Cu) : Bool → Int → List Bool → Bool × Int
 |o, t, [] => (o, t)
 |o, t, n :: bs => endS x n (nst x o t n) bs
def okp (x : Cu) : Bool → Int → List Bool → Prop
 |_, _, [] => True
 |o, t, n :: bs => can x o t n ∧ okp x n (nst x o t n) bs
def gn (x : Cu) (E : Int) (o n : Bool) : Int := (if n = true then E else 0) - cs x o n
def vl1 (x : Cu) (E : Nat → Int) : Nat → Bool → List Bool → Int
 |_, _, [] => 0
 |i, o, n :: bs => gn x (E i) o n + vl1 x E (i + 1) n bs
theorem endS_snoc (x : Cu) (n : Bool) : ∀ (bs : List Bool) (o : Bool) (t : Int), endS x o t (bs ++ [n]) = (n, nst x (endS x o t bs).1 (endS x o t bs).2 n) := by
  intro bs
  induction bs with
 |nil => intro o t; rfl
 |cons b bs ih => intro o t; exact ih b _
theorem okp_snoc (x : Cu) (n : Bool) : ∀ (bs : List Bool) (o : Bool) (t : Int), okp x o t (bs ++ [n]) ↔ okp x o t bs ∧ can x (endS x o t bs).1 (endS x o t bs).2 n := by
  intro bs
  induction bs with
 |nil => intro o t; simp [okp, endS]
 |cons b bs ih =>
    intro o t
    show can x o t b ∧ okp x b _ (bs ++ [n]) ↔ (can x o t b ∧ okp x b _ bs) ∧ _
    rw [ih, and_assoc]
    rfl
theorem vl1_snoc (x : Cu) (E : Nat → Int) (n : Bool) : ∀ (bs : List Bool) (i : Nat) (o : Bool) (t : Int), vl1 x E i o (bs ++ [n]) = vl1 x E i o bs + gn x (E (i + bs.length)) (endS x o t bs).1 n := by
  intro bs
  induction bs with
 |nil => intro i o t; simp [vl1, endS]
 |cons b bs ih =>
    intro i o t
    show gn x (E i) o b + vl1 x E (i + 1) b (bs ++ [n]) = gn x (E i) o b + vl1 x E (i + 1) b bs + _
    rw [ih (i + 1) b (nst x o t b), List.length_cons, show i + 1 + bs.length = i + (bs.length + 1) by omega, Int.add_assoc]
    rfl
theorem app_last (bs : List Bool) (n : Bool) {m : Nat} (h : bs.length = m) : (bs ++ [n]).getD m false = n := by
  rw [List.getD_eq_getElem?_getD, List.getElem?_append_right (by omega), h, Nat.sub_self]
  rfl
theorem app_init (bs : List Bool) (n : Bool) {m : Nat} (h : m < bs.length) : (bs ++ [n]).getD m false = bs.getD m false := by
  rw [List.getD_eq_getElem?_getD, List.getElem?_append_left h, ← List.getD_eq_getElem?_getD]
def Eg (x : Cu) (P : List Int) (i : Nat) : Int := Gp x (P.getD i 0)
section
variable {x : Cu} (h : CuGood x) {P : List Int} (hn : P.length ≤ 8) (hP : ∀ m, m < P.length → -2000000 ≤ P.getD m 0 ∧ P.getD m 0 ≤ 2000000)
theorem upper {rows : List (List Cell)} (k : Rws x P P.length rows) : ∀ (bs : List Bool) (i : Nat), i + bs.length = P.length → ∀ c ∈ rdr rows i, okp x c.f0.f0 c.f0.f1 bs → ∃ c' ∈ rdr rows P.length, c.f1 + vl1 x (Eg x P) i c.f0.f0 bs ≤ c'.f1 := by
  intro bs
  induction bs with
 |nil =>
    intro i hi c hc _
    have : i = P.length:=by simpa using hi
    subst this
    exact ⟨c, hc, by simp [vl1]⟩
 |cons b bs ih =>
    intro i hi c hc ho
    rw [List.length_cons] at hi
    obtain ⟨j, hj, rfl⟩:=List.getElem_of_mem hc
    have L:=k.link i (by omega)
    have ec : (rdr rows i).getD j zCell = (rdr rows i)[j]:=by
      rw [List.getD_eq_getElem?_getD, List.getElem?_eq_getElem hj]
      rfl
    have C:=L.cmp j hj
    rw [ec] at C
    obtain ⟨y, y1, y2, y3, y4⟩:=C b ho.1
    have o2:=ho.2
    rw [← y3, ← y2] at o2
    obtain ⟨c', c1, c2⟩:=ih (i + 1) (by omega) y y1 o2
    refine ⟨c', c1, ?_⟩
    rw [y2] at c2
    show _ + (gn x (Gp x (P.getD i 0)) _ b + vl1 x (Eg x P) (i + 1) b bs) ≤ _
    unfold gn
    omega
include h hn hP
theorem Single_l4 {rows : List (List Cell)} (k : Rws x P P.length rows) (T : Int) : ∀ i, i ≤ P.length → ∀ j, j < (rdr rows i).length → ∀ out : List Int, out.length = P.length →
    ∃ (bs : List Bool) (out' : List Int), bs.length = i ∧ okp x x.o (ct x x.o x.t) bs ∧ endS x x.o (ct x x.o x.t) bs = (((rdr rows i).getD j zCell).f0.f0, ((rdr rows i).getD j zCell).f0.f1) ∧ ((rdr rows i).getD j zCell).f1 = vl1 x (Eg x P) 0 x.o bs ∧
      Evt (fun q => dual_Single.l4 q P rows (j : Int) T out (i : Int) x.s x.a x.b x.c x.d x.e x.f x.g x.z x.l x.o x.t x.q) (out', T, 0) ∧ out'.length = P.length ∧ (∀ m, m < i → out'.getD m 0 = pn (bs.getD m false) (Wp x (P.getD m 0))) ∧ (∀ m, i ≤ m → out'.getD m 0 = out.getD m 0):=by
  intro i
  induction i with
 |zero =>
    intro _ j hj out ho
    have z:=k.zero
    rw [z] at hj
    have : j = 0:=by simpa using hj
    subst this
    refine ⟨[], out, rfl, trivial, ?_, ?_, Evt.succ ?_, ho, fun m hm => by omega, fun m _ => rfl⟩
    · rw [z]
      rfl
    · rw [z]
      rfl
    · simp only [dual_Single.l4]
      exact Evt.ite_neg (by omega) (Evt.pure _)
 |succ i ih =>
    intro hi j hj out ho
    have L:=k.link i (by omega)
    obtain ⟨j', hj', A⟩:=L.ach _ (cell_mem hj)
    have w : wrap64 (((i + 1 : Nat) : Int) - 1) = (i : Int):=(wrap64_of (by omega) (by omega)).trans (by omega)
    have kl:=k.len
    have hb:=A.back
    obtain ⟨bs, out', b1, b2, b3, b4, b5, b6, b7, b8⟩:=ih (by omega) j' hj' (out.set i (pn ((rdr rows (i + 1)).getD j zCell).f0.f0 (Wp x (P.getD i 0)))) (by simp [ho])
    refine ⟨bs ++ [((rdr rows (i + 1)).getD j zCell).f0.f0], out', by simp [b1], ?_, ?_, ?_, Evt.succ ?_, b6, fun m hm => ?_, fun m hm => ?_⟩
    · rw [okp_snoc, b3]
      exact ⟨b2, A.can⟩
    · rw [endS_snoc, b3]
      exact Prod.ext rfl A.st.symm
    · rw [vl1_snoc x _ _ bs 0 x.o (ct x x.o x.t), b3, ← b4, b1, Nat.zero_add]
      have:=A.val
      unfold gn Eg
      dsimp only
      omega
    · simp only [dual_Single.l4, w, rdrow, rdcell, Option.bind_some, Int.toNat_natCast]
      refine Evt.ite_pos (by omega) (Evt.ite_pos (by omega) (Evt.ite_pos (by omega) (Evt.ite_pos (by omega) (Evt.ite_pos (by omega) (Evt.ite_pos (by omega) (Evt.ite_pos (by omega) ?_))))))
      rw [← hb] at b5
      refine Evt.ite (fun c => ?_) fun c => ?_
      · refine Evt.ite_pos (by omega) (Evt.bind (earn_ev h (hP i (by omega))) ?_)
        rw [List.set_set]
        unfold pn at b5
        rw [if_pos c] at b5
        exact b5
      · unfold pn at b5
        rw [if_neg c] at b5
        exact b5
    · by_cases e : m = i
      · subst e
        rw [b8 m (Nat.le_refl _), app_last bs _ b1, List.getD_eq_getElem?_getD, List.getElem?_set_self (by omega)]
        rfl
      · rw [b7 m (by omega), app_init bs _ (by omega)]
    · rw [b8 m (by omega), List.getD_eq_getElem?_getD, List.getElem?_set_ne (by omega), ← List.getD_eq_getElem?_getD]
def Ans (x : Cu) (P out : List Int) (T : Int) : Prop := out.length = P.length ∧ (∃ bs : List Bool, bs.length = P.length ∧ okp x x.o (ct x x.o x.t) bs ∧ T = vl1 x (Eg x P) 0 x.o bs ∧ ∀ m, m < P.length → out.getD m 0 = pn (bs.getD m false) (Wp x (P.getD m 0))) ∧
  ∀ bs : List Bool, bs.length = P.length → okp x x.o (ct x x.o x.t) bs → vl1 x (Eg x P) 0 x.o bs ≤ T
theorem Single_l3 {rows : List (List Cell)} (k : Rws x P P.length rows) : ∀ i, i ≤ (rdr rows P.length).length → ∀ b, b < (rdr rows P.length).length → (∀ j, j < i → ((rdr rows P.length).getD j zCell).f1 ≤ ((rdr rows P.length).getD b zCell).f1) →
    ∃ (out : List Int) (T : Int), Evt (fun q => dual_Single.l3 q P rows (rdr rows P.length) (b : Int) (rdr rows P.length) ((rdr rows P.length).length : Int) (i : Int) x.s x.a x.b x.c x.d x.e x.f x.g x.z x.l x.o x.t x.q) (out, T, 0) ∧ Ans x P out T:=by
  have q:=Rws.ok h hP (Nat.le_refl _) k P.length (Nat.le_refl _)
  have ql : (rdr rows P.length).length ≤ 256:=Nat.le_trans q.len (Nat.le_trans (Nat.pow_le_pow_right (by omega) hn) (by decide))
  refine down ?_ ?_
  · intro b hb hB
    obtain ⟨bs, out, b1, b2, b3, b4, b5, b6, b7, b8⟩:=Single_l4 h hn hP k ((rdr rows P.length).getD b zCell).f1 P.length (Nat.le_refl _) b hb (List.replicate P.length 0) (by simp)
    refine ⟨out, ((rdr rows P.length).getD b zCell).f1, Evt.succ ?_, b6, ⟨bs, b1, b2, b4, b7⟩, fun bs' h1 h2 => ?_⟩
    · simp only [dual_Single.l3, rdcell, Int.toNat_natCast]
      exact Evt.ite_neg (by omega) (Evt.ite_pos (by omega) (Evt.ite_pos (by omega) (Evt.ite_pos (by omega) (Evt.ite_pos (by omega) b5))))
    · obtain ⟨c', c1, c2⟩:=upper k bs' 0 (by omega) ⟨⟨x.o, ct x x.o x.t, x.q⟩, 0, 0⟩ (by rw [k.zero]; simp) h2
      obtain ⟨j, hj, rfl⟩:=List.getElem_of_mem c1
      have:=hB j hj
      rw [List.getD_eq_getElem?_getD, List.getElem?_eq_getElem hj] at this
      have c2 : 0 + vl1 x (Eg x P) 0 x.o bs' ≤ _:=c2
      simp only [Option.getD_some] at this
      omega
  · intro i hi ih b hb hB
    have w : wrap64 ((i : Int) + 1) = ((i + 1 : Nat) : Int):=wrap64_nat (by omega)
    by_cases c : ((rdr rows P.length).getD i zCell).f1 > ((rdr rows P.length).getD b zCell).f1
    · obtain ⟨out, T, e1, e2⟩:=ih i hi fun j hj => by
        by_cases e : j = i
        · subst e
          exact Int.le_refl _
        · have:=hB j (by omega)
          omega
      refine ⟨out, T, Evt.succ ?_, e2⟩
      simp only [dual_Single.l3, rdcell, w]
      exact Evt.ite_pos (by omega) (Evt.ite_pos (by omega) (Evt.ite_pos (by omega) (Evt.ite_pos (by omega) (Evt.ite_pos (by omega) (Evt.ite_pos c e1)))))
    · obtain ⟨out, T, e1, e2⟩:=ih b hb fun j hj => by
        by_cases e : j = i
        · subst e
          omega
        · exact hB j (by omega)
      refine ⟨out, T, Evt.succ ?_, e2⟩
      simp only [dual_Single.l3, rdcell, w]
      exact Evt.ite_pos (by omega) (Evt.ite_pos (by omega) (Evt.ite_pos (by omega) (Evt.ite_pos (by omega) (Evt.ite_pos (by omega) (Evt.ite_neg c e1)))))
end
section
variable {x : Cu} (h : CuGood x) {P : List Int} (hn : P.length ≤ 8)
include h hn
theorem Single_l0 : ∀ i, i ≤ P.length → (∀ m, m < i → -2000000 ≤ P.getD m 0 ∧ P.getD m 0 ≤ 2000000) →
    ∃ (out : List Int) (T e : Int), Evt (fun q => dual_Single.l0 q P P (P.length : Int) (i : Int) x.s x.a x.b x.c x.d x.e x.f x.g x.z x.l x.o x.t x.q) (out, T, e) ∧
      ((∀ m, m < P.length → -2000000 ≤ P.getD m 0 ∧ P.getD m 0 ≤ 2000000) → e = 0 ∧ Ans x P out T) ∧
      (¬ (∀ m, m < P.length → -2000000 ≤ P.getD m 0 ∧ P.getD m 0 ≤ 2000000) → out = [] ∧ T = 0 ∧ e = 4):=by
  refine down ?_ ?_
  · intro hP
    have H : ∀ rows, Rws x P P.length rows → ∃ R : List Int × Int × Int, Evt (fun k => dual_Single.l3 k P rows (rdr rows P.length) 0 (rdr rows P.length) ((rdr rows P.length).length : Int) 0 x.s x.a x.b x.c x.d x.e x.f x.g x.z x.l x.o x.t x.q) R ∧ R.2.2 = 0 ∧ Ans x P R.1 R.2.1:=by
      intro rows k
      have q:=Rws.ok h hP (Nat.le_refl _) k P.length (Nat.le_refl _)
      obtain ⟨out, T, e1, e2⟩:=Single_l3 h hn hP k 0 (by omega) 0 q.pos (fun j hj => by omega)
      exact ⟨(out, T, 0), e1, rfl, e2⟩
    obtain ⟨rows, hrows, kr⟩ : ∃ rows, Rws x P P.length rows ∧ ∀ r : List Int × Int × Int, Evt (fun k => dual_Single.l3 k P rows (rdr rows P.length) 0 (rdr rows P.length) ((rdr rows P.length).length : Int) 0 x.s x.a x.b x.c x.d x.e x.f x.g x.z x.l x.o x.t x.q) r → Evt (fun k => dual_Single.l1 k P [[⟨⟨x.o, ct x x.o x.t, x.q⟩, 0, 0⟩]] P (P.length : Int) 0 x.s x.a x.b x.c x.d x.e x.f x.g x.z x.l x.o x.t x.q) r:=Single_rows h hn hP
    obtain ⟨⟨out, T, e⟩, e1, e2, e3⟩:=H rows hrows
    refine ⟨out, T, e, Evt.succ ?_, fun _ => ⟨e2, e3⟩, fun c => absurd hP c⟩
    simp only [dual_Single.l0, cut_ev, Option.bind_some]
    exact Evt.ite_neg (by omega) (kr _ e1)
  · intro i hi ih hP
    have w : wrap64 ((i : Int) + 1) = ((i + 1 : Nat) : Int):=wrap64_nat (by omega)
    by_cases c : -2000000 ≤ P.getD i 0 ∧ P.getD i 0 ≤ 2000000
    · obtain ⟨out, T, e, e1, e2⟩:=ih fun m hm => by
        by_cases q : m = i
        · subst q; exact c
        · exact hP m (by omega)
      refine ⟨out, T, e, Evt.succ ?_, e2⟩
      simp only [dual_Single.l0, w]
      exact Evt.ite_pos (by omega) (Evt.ite_pos (by omega) (Evt.ite_pos (by omega) (Evt.ite_neg (show ¬ P.getD i 0 < _ by omega) (Evt.ite_neg (show ¬ P.getD i 0 > _ by omega) e1))))
    · refine ⟨[], 0, 4, Evt.succ ?_, fun g => absurd (g i hi) c, fun _ => ⟨rfl, rfl, rfl⟩⟩
      simp only [dual_Single.l0, w]
      refine Evt.ite_pos (by omega) (Evt.ite_pos (by omega) (Evt.ite_pos (by omega) (Evt.ite (fun _ => Evt.pure _) fun c1 => Evt.ite_pos ?_ (Evt.pure _))))
      show P.getD i 0 > _
      have c1 : ¬ P.getD i 0 < _:=c1
      omega
theorem Single_ev : ∃ (out : List Int) (T e : Int), Evt (fun q => dual_Single.f q x.s x.a x.b x.c x.d x.e x.f x.g x.z x.l x.o x.t x.q P) (out, T, e) ∧
      ((∀ m, m < P.length → -2000000 ≤ P.getD m 0 ∧ P.getD m 0 ≤ 2000000) → e = 0 ∧ Ans x P out T) ∧
      (¬ (∀ m, m < P.length → -2000000 ≤ P.getD m 0 ∧ P.getD m 0 ≤ 2000000) → out = [] ∧ T = 0 ∧ e = 4):=by
  obtain ⟨out, T, e, e1, e2⟩:=Single_l0 h hn 0 (by omega) (fun m hm => by omega)
  refine ⟨out, T, e, ?_, e2⟩
  have c:=dCheck_ev x
  rw [h.err] at c
  simp only [dual_Single.f]
  exact Evt.bind c (Evt.ite_pos rfl (Evt.ite_neg (by omega) e1))
end
end Go.Proofs.Ytdgjelbkogfedaa.CDualSingle
