import Derived.Test.YtdgjelbkogfedaaCDualSingle
import Derived.Test.YtdgjelbkogfedaaHDualSingley17
namespace Go.Proofs.Ytdgjelbkogfedaa.DDualSingle
open Go.RowKit Go.Proofs.YtdgjelbkogfedaaW.PrintWords Go.Proofs.YtdgjelbkogfedaaW.PrintMore Go.Proofs.Ytdgjelbkogfedaa.Evs Go.Proofs.Ytdgjelbkogfedaa.PDualSingle Go.Proofs.Ytdgjelbkogfedaa.BDualSingle Go.Proofs.Ytdgjelbkogfedaa.CDualSingle
set_option linter.unusedVariables false
set_option linter.unusedSectionVars false
set_option linter.unusedSimpArgs false
theorem Evt.of_mono {α : Type} {g : Nat → Option α} (hm : ∀ k r, g k = some r → g (k + 1) = some r) {K : Nat} {r : α} (h : g K = some r) : Evt g r := by
  refine ⟨K, fun k hk => ?_⟩
  obtain ⟨d, rfl⟩ : ∃ d, k = K + d:=⟨k - K, by omega⟩
  clear hk
  induction d with
 |zero => exact h
 |succ d ih => exact hm _ _ ih
theorem SameInts_l0 (x : List Int) (hl : x.length ≤ 140737488351232) : ∀ n, n ≤ x.length → Evt (fun k => gridhallref3_SameInts.l0 k x x (x.length : Int) (n : Int)) true := by
  refine down ?_ ?_
  · refine Evt.succ ?_
    simp only [gridhallref3_SameInts.l0]
    exact Evt.ite_neg (by omega) (Evt.pure _)
  · intro n hn ih
    refine Evt.succ ?_
    simp only [gridhallref3_SameInts.l0]
    rw [wrap64_nat (n:=n) (by omega)]
    first
     |exact Evt.ite_pos (by omega) (Evt.ite_pos (by omega) (Evt.ite_pos (by omega) (Evt.ite_pos (by omega) (Evt.ite_pos (by simp) ih))))
     |exact Evt.ite_pos (by omega) (Evt.ite_pos (by omega) (Evt.ite_pos (by omega) (Evt.ite_pos (by omega) ih)))
theorem SameInts_ev (x : List Int) (hl : x.length ≤ 140737488351232) : Evt (fun k => gridhallref3_SameInts.f k x x) true := by
  simp only [gridhallref3_SameInts.f]
  first
   |exact Evt.ite_pos (by simp) (SameInts_l0 x hl 0 (by omega))
   |exact SameInts_l0 x hl 0 (by omega)
theorem bit_all : ∀ b : Fin 64, ∀ t : Fin 6, Go.bits .and .i64 (shr .i64 (b.1 : Int) (t.1 : Int)) 1 = if b.1.testBit t.1 = true then 1 else 0 := by decide +kernel
theorem bit_at (b t : Nat) (hb : b < 64) (ht : t < 6) : Go.bits .and .i64 (shr .i64 (b : Int) (t : Int)) 1 = if b.testBit t = true then 1 else 0 := bit_all ⟨b, hb⟩ ⟨t, ht⟩
theorem shl_all : ∀ n : Fin 7, shl .i64 1 (n.1 : Int) = ((2 ^ n.1 : Nat) : Int) := by decide +kernel
theorem shl_at (n : Nat) (hn : n ≤ 6) : shl .i64 1 (n : Int) = ((2 ^ n : Nat) : Int) := shl_all ⟨n, by omega⟩
theorem alone_ev : Evt (fun k => dual_Single.f k (⟨#[65]⟩ : ByteArray) 0 20 20 20 1 1 9 (⟨#[65]⟩ : ByteArray) [⟨10, 5⟩, ⟨10, 8⟩] false 5 0 [0]) ([-1], 0, 0) := Evt.of_mono (fun k r h => dual_Single.mono _ _ _ _ _ _ _ _ _ _ _ _ _ _ k r h) (K := 60) (by decide +kernel)
def csum (x : Cu) : Bool → List Bool → Int
 |_, [] => 0
 |o, n :: bs => cs x o n + csum x n bs
def gsum (E : Nat → Int) : Nat → List Bool → Int
 |_, [] => 0
 |i, n :: bs => (if n = true then E i else 0) + gsum E (i + 1) bs
theorem vl1_eq (x : Cu) (E : Nat → Int) : ∀ (bs : List Bool) (i : Nat) (o : Bool), vl1 x E i o bs = gsum E i bs - csum x o bs := by
  intro bs
  induction bs with
 |nil => intro i o; rfl
 |cons b bs ih =>
    intro i o
    show gn x (E i) o b + vl1 x E (i + 1) b bs = (if b = true then E i else 0) + gsum E (i + 1) bs - (cs x o b + csum x b bs)
    rw [ih]
    unfold gn
    omega
def ints (bs : List Bool) : List Int := bs.map fun n => if n = true then 1 else 0
theorem ints_len (bs : List Bool) : (ints bs).length = bs.length := by simp [ints]
def bl (b : Nat) : Nat → Nat → List Bool
 |_, 0 => []
 |t, c + 1 => b.testBit t :: bl b (t + 1) c
theorem bl_len (b : Nat) : ∀ c t, (bl b t c).length = c := by
  intro c
  induction c with
 |zero => intro t; rfl
 |succ c ih => intro t; simp [bl, ih]
theorem bl_half (b : Nat) : ∀ c t, bl b (t + 1) c = bl (b / 2) t c := by
  intro c
  induction c with
 |zero => intro t; rfl
 |succ c ih =>
    intro t
    simp only [bl]
    rw [ih, Nat.testBit_succ]
theorem bl_all : ∀ bs : List Bool, ∃ b, b < 2 ^ bs.length ∧ bl b 0 bs.length = bs := by
  intro bs
  induction bs with
 |nil => exact ⟨0, by simp, rfl⟩
 |cons n bs ih =>
    obtain ⟨b, h1, h2⟩:=ih
    refine ⟨2 * b + (if n = true then 1 else 0), ?_, ?_⟩
    · rw [List.length_cons, Nat.pow_succ]
      split <;> omega
    · rw [List.length_cons]
      simp only [bl]
      rw [bl_half, show (2 * b + (if n = true then 1 else 0)) / 2 = b by split <;> omega, h2, Nat.testBit_zero]
      congr 1
      cases n <;> simp
section
variable {x : Cu} (h : CuGood x)
include h
theorem csum_bd : ∀ (bs : List Bool) (o : Bool), 0 ≤ csum x o bs ∧ csum x o bs ≤ 1000000 * (bs.length : Int) := by
  obtain ⟨_, _, _, _, g1, g2⟩:=h.rg
  intro bs
  induction bs with
 |nil => intro o; simp [csum]
 |cons b bs ih =>
    intro o
    have:=ih b
    have c : 0 ≤ cs x o b ∧ cs x o b ≤ 1000000:=by
      unfold cs
      split <;> omega
    simp only [csum, List.length_cons]
    omega
theorem moved_ev {o : Bool} {t q : Int} (k : stOk x o t q) (n : Bool) : Evt (fun k => gridhallref3_Moved.f k x.s x.a x.b x.c x.d x.e x.f x.g o t q (pn n x.a)) (movR x.a x.b x.c x.d x.e x.f x.g o t q (pn n x.a)) := by
  have r:=h.rg
  refine Moved_ev (s:=x.s) (a:=x.a) (b:=x.b) (c:=x.c) (d:=x.d) (e:=x.e) (f:=x.f) (g:=x.g) (o:=o) (t:=t) (q:=q) _ ?_ (stErr_of h k)
  unfold pn
  split <;> omega
def patR (x : Cu) (bs : List Bool) : List Int := ints bs ++ [csum x x.o bs]
theorem Pat_l1 (n : Nat) (hn : n ≤ 6) (out : List (List Int)) (b : Nat) (hb : b < 64) (ho : out.length ≤ 1000) (N : Int) (r : List (List Int)) : ∀ c t, t + c = n → ∀ (o : Bool) (T q : Int), stOk x o T q → ∀ (row : List Int) (cost : Int), row.length = t → 0 ≤ cost → cost ≤ 1000000 * (t : Int) →
    (okp x o (ct x o T) (bl b t c) → Evt (fun k => gridhallref3_Patterns.l0 k (n : Int) (out ++ [row ++ ints (bl b t c) ++ [cost + csum x o (bl b t c)]]) N ((b + 1 : Nat) : Int) x.s x.a x.b x.c x.d x.e x.f x.g x.z x.l x.o x.t x.q) r) →
    (¬ okp x o (ct x o T) (bl b t c) → Evt (fun k => gridhallref3_Patterns.l0 k (n : Int) out N ((b + 1 : Nat) : Int) x.s x.a x.b x.c x.d x.e x.f x.g x.z x.l x.o x.t x.q) r) →
    Evt (fun k => gridhallref3_Patterns.l1 k (n : Int) out (b : Int) cost true row N (b : Int) (n : Int) (t : Int) x.s x.a x.b x.c x.d x.e x.f x.g x.z x.l x.o x.t x.q o T q) r:=by
  intro c
  have wb : Unit → wrap64 ((b : Int) + 1) = ((b + 1 : Nat) : Int):=fun _ => wrap64_nat (by omega)
  induction c with
 |zero =>
    intro t ht o T q hs row cost hr h1 h2 H1 _
    have H1:=H1 trivial
    simp only [bl, ints, csum, List.map_nil, List.append_nil, Int.add_zero] at H1
    refine Evt.succ ?_
    simp only [gridhallref3_Patterns.l1, wb ()]
    exact Evt.ite_neg (by omega) (Evt.ite_pos (by simp) (Evt.ite_pos (by omega) (Evt.ite_pos (by omega) H1)))
 |succ c ih =>
    intro t ht o T q hs row cost hr h1 h2 H1 H2
    obtain ⟨_, _, _, _, g1, g2⟩:=h.rg
    have wt : Unit → wrap64 ((t : Int) + 1) = ((t + 1 : Nat) : Int):=fun _ => wrap64_nat (by omega)
    have cb : ∀ n, 0 ≤ cs x o n ∧ cs x o n ≤ 1000000:=by
      intro n
      unfold cs
      split <;> omega
    have M:=moved_ev h hs (b.testBit t)
    have ar : x.a ≤ x.a ∧ x.a ≤ x.b:=⟨Int.le_refl _, h.rg.1.2⟩
    have key : (∀ m : Bool × Int × Int × Int × Int, Evt (fun k => gridhallref3_Moved.f k x.s x.a x.b x.c x.d x.e x.f x.g o T q (pn (b.testBit t) x.a)) m → (m.2.2.2.2 = 0 → Evt (fun k => gridhallref3_Patterns.l1 k (n : Int) out (b : Int) (wrap64 (cost + m.2.2.2.1)) (m.2.2.2.2 == 0) (row ++ [if b.testBit t = true then 1 else 0]) N (b : Int) (n : Int) ((t + 1 : Nat) : Int) x.s x.a x.b x.c x.d x.e x.f x.g x.z x.l x.o x.t x.q m.1 m.2.1 m.2.2.1) r) → (¬ m.2.2.2.2 = 0 → Evt (fun k => gridhallref3_Patterns.l0 k (n : Int) out N ((b + 1 : Nat) : Int) x.s x.a x.b x.c x.d x.e x.f x.g x.z x.l x.o x.t x.q) r) →
        Evt (fun k => gridhallref3_Patterns.l1 k (n : Int) out (b : Int) cost true row N (b : Int) (n : Int) (t : Int) x.s x.a x.b x.c x.d x.e x.f x.g x.z x.l x.o x.t x.q o T q) r):=by
      intro m e1 e2 e3
      refine Evt.succ ?_
      simp only [gridhallref3_Patterns.l1, wb (), wt (), bit_at b t hb (by omega)]
      refine Evt.ite_pos (by omega) (Evt.ite_pos (by omega) ?_)
      by_cases q : b.testBit t = true
      · simp only [q, if_true] at e1 e2 ⊢
        unfold pn at e1
        rw [if_pos rfl] at e1
        exact Evt.bind e1 (Evt.ite_pos (by omega) (Evt.ite e2 e3))
      · simp only [if_neg q] at e2 ⊢
        unfold pn at e1
        rw [if_neg q] at e1
        exact Evt.ite_neg (by simp) (Evt.bind e1 (Evt.ite_pos (by simp) (Evt.ite_pos (by omega) (Evt.ite e2 e3))))
    by_cases cc : can x o T (b.testBit t)
    · refine key _ M (fun _ => ?_) (fun z => absurd (by rw [mov_ok h hs _ ar cc]) z)
      rw [mov_ok h hs _ ar cc]
      have cbn:=cb (b.testBit t)
      have w : Unit → wrap64 (cost + cs x o (b.testBit t)) = cost + cs x o (b.testBit t):=fun _ => wrap64_of (by omega) (by omega)
      simp only [w ()]
      have oc : okp x o (ct x o T) (bl b t (c + 1)) ↔ okp x (b.testBit t) (ct x (b.testBit t) (nt o T (b.testBit t))) (bl b (t + 1) c):=by
        simp only [bl, okp]
        rw [nst_ct h]
        exact ⟨fun z => z.2, fun z => ⟨(can_ct x o T _).2 cc, z⟩⟩
      refine ih (t + 1) (by omega) _ _ _ (stOk_nt h hs _ ar) _ _ (by simp [hr]) (by omega) (by omega) (fun z => ?_) fun z => H2 fun z' => z (oc.1 z')
      have:=H1 (oc.2 z)
      simp only [bl, csum, ints, List.map_cons] at this ⊢
      rw [List.append_assoc row, List.singleton_append, Int.add_assoc]
      exact this
    · refine key _ M (fun z => absurd z (mov_no h hs _ ar cc)) fun _ => H2 fun z => cc ((can_ct x o T _).1 ?_)
      simp only [bl, okp] at z
      exact z.1
theorem Pat_l0 (n : Nat) (hn : n ≤ 6) (N : Nat) (hN : N = 2 ^ n) (h64 : N ≤ 64) : ∀ b, b ≤ N → ∀ out : List (List Int), out.length ≤ b → (∀ row ∈ out, ∃ bs : List Bool, bs.length = n ∧ okp x x.o (ct x x.o x.t) bs ∧ row = patR x bs) → (∀ b', b' < b → okp x x.o (ct x x.o x.t) (bl b' 0 n) → patR x (bl b' 0 n) ∈ out) →
    ∃ R : List (List Int), Evt (fun k => gridhallref3_Patterns.l0 k (n : Int) out (N : Int) (b : Int) x.s x.a x.b x.c x.d x.e x.f x.g x.z x.l x.o x.t x.q) R ∧ R.length ≤ 64 ∧ (∀ row ∈ R, ∃ bs : List Bool, bs.length = n ∧ okp x x.o (ct x x.o x.t) bs ∧ row = patR x bs) ∧ (∀ bs : List Bool, bs.length = n → okp x x.o (ct x x.o x.t) bs → patR x bs ∈ R):=by
  refine down ?_ ?_
  · intro out ho h1 h2
    refine ⟨out, Evt.succ ?_, by omega, h1, fun bs hb hk => ?_⟩
    · simp only [gridhallref3_Patterns.l0]
      exact Evt.ite_neg (by omega) (Evt.pure _)
    · obtain ⟨b, b1, b2⟩:=bl_all bs
      rw [hb] at b1 b2
      rw [← hN] at b1
      have:=h2 b b1 (by rw [b2]; exact hk)
      rw [b2] at this
      exact this
  · intro b hb ih out ho h1 h2
    by_cases c : okp x x.o (ct x x.o x.t) (bl b 0 n)
    · obtain ⟨R, e1, e2, e3, e4⟩:=ih (out ++ [patR x (bl b 0 n)]) (by simp; omega) (fun row hr => by
        rcases List.mem_append.1 hr with z|z
        · exact h1 row z
        · simp at z
          exact ⟨_, bl_len b n 0, c, z⟩) fun b' hb' hk => by
        by_cases e : b' = b
        · subst e
          simp
        · exact List.mem_append.2 (Or.inl (h2 b' (by omega) hk))
      refine ⟨R, Evt.succ ?_, e2, e3, e4⟩
      simp only [gridhallref3_Patterns.l0]
      refine Evt.ite_pos (by omega) (Pat_l1 h n hn out b (by omega) (by omega) _ R n 0 (by omega) x.o x.t x.q h.st [] 0 rfl (by omega) (by omega) (fun _ => ?_) fun z => absurd c z)
      rw [List.nil_append, Int.zero_add]
      exact e1
    · obtain ⟨R, e1, e2, e3, e4⟩:=ih out (by omega) h1 fun b' hb' hk => by
        by_cases e : b' = b
        · subst e
          exact absurd hk c
        · exact h2 b' (by omega) hk
      refine ⟨R, Evt.succ ?_, e2, e3, e4⟩
      simp only [gridhallref3_Patterns.l0]
      exact Evt.ite_pos (by omega) (Pat_l1 h n hn out b (by omega) (by omega) _ R n 0 (by omega) x.o x.t x.q h.st [] 0 rfl (by omega) (by omega) (fun z => absurd z c) fun _ => e1)
theorem Patterns_ev (n : Nat) (hn : n ≤ 6) : ∃ R : List (List Int), Evt (fun k => gridhallref3_Patterns.f k x.s x.a x.b x.c x.d x.e x.f x.g x.z x.l x.o x.t x.q (n : Int)) R ∧ R.length ≤ 64 ∧ (∀ row ∈ R, ∃ bs : List Bool, bs.length = n ∧ okp x x.o (ct x x.o x.t) bs ∧ row = patR x bs) ∧ (∀ bs : List Bool, bs.length = n → okp x x.o (ct x x.o x.t) bs → patR x bs ∈ R) := by
  obtain ⟨R, e1, e2⟩:=Pat_l0 h n hn (2 ^ n) rfl (Nat.pow_le_pow_right (by omega) hn) 0 (Nat.zero_le _) [] (by simp) (fun row hr => by simp at hr) (fun b' hb' => by omega)
  refine ⟨R, ?_, e2⟩
  simp only [gridhallref3_Patterns.f, shl_at n hn]
  exact Evt.ite_pos (by omega) e1
end
def ern (x : Cu) (p y : Int) : Int := p * y - cst x.l y x.l.length
theorem sup_LM {l : List St} (h : Val l) (p : Int) : ∀ n, n ≤ l.length → supL l p n ≤ supM l p n := by
  intro n
  induction n with
 |zero => intro _; exact Int.le_refl _
 |succ n ih =>
    intro hn
    have ih:=ih (by omega)
    have r:=(h.rng n (by omega)).1
    simp only [supL, supM]
    split <;> split <;> omega
theorem ern_le {x : Cu} (h : CuGood x) (p : Int) {y : Int} (h1 : x.a ≤ y) (h2 : y ≤ x.b) : ern x p y ≤ Gp x p := by
  have w:=Wp_bd h p
  have r:=h.rg.1.1
  have s1:=sup_bd h.val p x.l.length (Nat.le_refl _)
  have s2:=sup_LM h.val p x.l.length (Nat.le_refl _)
  have:=sub_grad h.val (m:=p) (f:=Wp x p) (x:=y) (lo:=x.a) r w.1 h1 (by rw [h.all]; exact h2) (by rw [h.all]; exact w.2) (by unfold Wp mx; split <;> omega) (by unfold Wp mx; split <;> split <;> omega)
  unfold ern Gp
  rw [Int.mul_sub] at this
  omega
theorem ern_bd {x : Cu} (h : CuGood x) {p y : Int} (hp : -2000000 ≤ p ∧ p ≤ 2000000) (h1 : 0 ≤ y) (h2 : y ≤ x.b) : -3000000000000 ≤ ern x p y ∧ ern x p y ≤ 3000000000000 ∧ -3000000000000 ≤ p * y ∧ p * y ≤ 3000000000000 := by
  have r:=h.rg
  have c:=cst_bd h.val y x.l.length (Nat.le_refl _)
  have m:=mul_bd (a:=y) (A:=100000) (b:=p) (B:=2000000) (by omega) (by omega) hp.1 hp.2
  have l:=h.val.len
  unfold ern
  omega
theorem Gp_at {x : Cu} (h : CuGood x) (p : Int) : Gp x p = ern x p x.a ∨ ∃ A, A < x.l.length ∧ x.a < tot x.l (A + 1) ∧ Gp x p = ern x p (tot x.l (A + 1)) := by
  obtain ⟨A, hA, _, _, e⟩:=supL_at h.val p x.l.length (Nat.le_refl _)
  unfold Gp
  by_cases c : Wp x p = x.a
  · left
    rw [c]
    rfl
  · right
    have w : Wp x p = tot x.l A:=by
      rw [← e]
      revert c
      unfold Wp mx
      split <;> omega
    have w1:=(Wp_bd h p).1
    have w0:=h.rg.1.1
    cases A with
   |zero =>
      have : tot x.l 0 = 0:=rfl
      omega
   |succ A =>
      refine ⟨A, hA, by omega, ?_⟩
      rw [w]
      rfl
section
variable {x : Cu} (h : CuGood x) {P : List Int} (hn : P.length ≤ 6) (hP : ∀ m, m < P.length → -2000000 ≤ P.getD m 0 ∧ P.getD m 0 ≤ 2000000) {out : List Int} {T : Int} {r : Bool}
include h
theorem law_l3 (row : List Int) (sum p : Int) (hp : -2000000 ≤ p ∧ p ≤ 2000000) (best : Int) (some : Bool) (pats : List (List Int)) (N i t : Int) (H : Evt (fun k => gridhalllaw3_DualSingle.l2 k P out T 0 best some row (wrap64 (sum + Gp x p)) pats N i P (P.length : Int) (wrap64 (t + 1)) x.s x.a x.b x.c x.d x.e x.f x.g x.z x.l x.o x.t x.q) r) :
    ∀ k, k ≤ x.l.length → ∀ v, v ≤ Gp x p → -3000000000000 ≤ v → (v = Gp x p ∨ ∃ A, k ≤ A ∧ A < x.l.length ∧ x.a < tot x.l (A + 1) ∧ Gp x p = ern x p (tot x.l (A + 1))) →
    Evt (fun q => gridhalllaw3_DualSingle.l3 q P out T 0 best some row sum p v pats N i P (P.length : Int) t (x.l.length : Int) (k : Int) x.s x.a x.b x.c x.d x.e x.f x.g x.z x.l x.o x.t x.q) r:=by
  have hl:=h.val.len
  refine down ?_ ?_
  · intro v h1 _ h2
    rcases h2 with rfl|⟨A, a1, a2, _⟩
    · refine Evt.succ ?_
      simp only [gridhalllaw3_DualSingle.l3]
      exact Evt.ite_neg (by omega) H
    · omega
  · intro k hk ih v h1 h0 h2
    have wk : Unit → wrap64 ((k : Int) + 1) = ((k + 1 : Nat) : Int):=fun _ => wrap64_nat (by omega)
    have hb:=h.val.bd (k + 1) (by omega)
    have B:=Before_ev x.z x.l (k + 1) (by omega) (h.val.pre.mono (by omega)) (by omega)
    have tb : tot x.l (k + 1) ≤ x.b:=by
      rw [← h.all]
      exact tot_le h.val (by omega) (Nat.le_refl _)
    have eb:=ern_bd h hp hb.1 tb
    refine Evt.succ ?_
    simp only [gridhalllaw3_DualSingle.l3, wk ()]
    refine Evt.ite_pos (by omega) (Evt.bind B (Evt.ite (fun c => Evt.bind (refCost_ev x.z x.l h.val _) ?_) fun c => ?_))
    · have w2 : Unit → wrap64 (p * tot x.l (k + 1)) = p * tot x.l (k + 1):=fun _ => wrap64_of (by omega) (by omega)
      have w3 : Unit → wrap64 (p * tot x.l (k + 1) - cst x.l (tot x.l (k + 1)) x.l.length) = ern x p (tot x.l (k + 1)):=fun _ => wrap64_of (by unfold ern at eb; omega) (by unfold ern at eb; omega)
      simp only [w2 (), w3 ()]
      have le:=ern_le h p (y:=tot x.l (k + 1)) (by omega) tb
      refine ih _ (by unfold mx; split <;> omega) (by unfold mx; split <;> omega) ?_
      rcases h2 with rfl|⟨A, a1, a2, a3, a4⟩
      · left
        unfold mx
        split <;> omega
      · by_cases e : A = k
        · subst e
          left
          rw [a4] at h1 ⊢
          unfold mx
          split <;> omega
        · exact Or.inr ⟨A, by omega, a2, a3, a4⟩
    · refine ih _ h1 h0 ?_
      rcases h2 with rfl|⟨A, a1, a2, a3, a4⟩
      · exact Or.inl rfl
      · by_cases e : A = k
        · subst e
          omega
        · exact Or.inr ⟨A, by omega, a2, a3, a4⟩
omit h in
theorem ints_at (bs : List Bool) (tl : List Int) {t : Nat} (ht : t < bs.length) : (ints bs ++ tl).getD t 0 = if bs.getD t false = true then 1 else 0 := by
  rw [List.getD_eq_getElem?_getD, List.getElem?_append_left (by rw [ints_len]; exact ht), List.getD_eq_getElem?_getD]
  simp only [ints, List.getElem?_map, List.getElem?_eq_getElem ht]
  rfl
omit h in
theorem pat_end (x : Cu) (bs : List Bool) {n : Nat} (hb : bs.length = n) : (patR x bs).getD n 0 = csum x x.o bs := by
  unfold patR
  rw [List.getD_eq_getElem?_getD, List.getElem?_append_right (by rw [ints_len]; omega), ints_len, hb, Nat.sub_self]
  rfl
include hn hP in
theorem law_l2 (bs : List Bool) (hb : bs.length = P.length) (best : Int) (some : Bool) (pats : List (List Int)) (N i : Int) (V : Int) (H : Evt (fun k => if some = true then (if V > best then gridhalllaw3_DualSingle.l1 k P out T 0 V true pats N (wrap64 (i + 1)) x.s x.a x.b x.c x.d x.e x.f x.g x.z x.l x.o x.t x.q else gridhalllaw3_DualSingle.l1 k P out T 0 best some pats N (wrap64 (i + 1)) x.s x.a x.b x.c x.d x.e x.f x.g x.z x.l x.o x.t x.q) else gridhalllaw3_DualSingle.l1 k P out T 0 V true pats N (wrap64 (i + 1)) x.s x.a x.b x.c x.d x.e x.f x.g x.z x.l x.o x.t x.q) r) :
    ∀ t, t ≤ P.length → ∀ sum, sum + gsum (Eg x P) t (bs.drop t) = V → -7000000 - 2000000000000 * (t : Int) ≤ sum → sum ≤ 7000000 + 2000000000000 * (t : Int) →
    Evt (fun k => gridhalllaw3_DualSingle.l2 k P out T 0 best some (patR x bs) sum pats N i P (P.length : Int) (t : Int) x.s x.a x.b x.c x.d x.e x.f x.g x.z x.l x.o x.t x.q) r:=by
  refine down ?_ ?_
  · intro sum e _ _
    rw [← hb, List.drop_length] at e
    have e : sum = V:=by simpa [gsum] using e
    subst e
    refine Evt.succ ?_
    simp only [gridhalllaw3_DualSingle.l2]
    exact Evt.ite_neg (by omega) H
  · intro t ht ih sum e s1 s2
    have wt : Unit → wrap64 ((t : Int) + 1) = ((t + 1 : Nat) : Int):=fun _ => wrap64_nat (by omega)
    have g:=Gp_bd h (hP t ht)
    have el : (patR x bs).length = P.length + 1:=by
      unfold patR
      rw [List.length_append, ints_len, hb]
      rfl
    have ea : rd (patR x bs) (t : Int) = if bs.getD t false = true then 1 else 0:=by
      show (patR x bs).getD t 0 = _
      unfold patR
      exact ints_at bs _ (by omega)
    rw [getD_drop (l:=bs) (z:=false) (by omega)] at e
    simp only [gsum] at e
    have ep : rd P (t : Int) = P.getD t 0:=rfl
    refine Evt.succ ?_
    simp only [gridhalllaw3_DualSingle.l2, ea]
    refine Evt.ite_pos (by omega) (Evt.ite_pos (by omega) (Evt.ite_pos (by omega) (Evt.ite_pos (by omega) ?_)))
    by_cases c : bs.getD t false = true
    · simp only [c, if_true] at e ⊢
      have ab:=h.rg.1
      have eb:=ern_bd h (hP t ht) ab.1 ab.2
      have w2 : Unit → wrap64 (P.getD t 0 * x.a) = P.getD t 0 * x.a:=fun _ => wrap64_of (by omega) (by omega)
      have w3 : Unit → wrap64 (P.getD t 0 * x.a - cst x.l x.a x.l.length) = ern x (P.getD t 0) x.a:=fun _ => wrap64_of (by unfold ern at eb; omega) (by unfold ern at eb; omega)
      have w4 : Unit → wrap64 (sum + Gp x (P.getD t 0)) = sum + Gp x (P.getD t 0):=fun _ => wrap64_of (by omega) (by omega)
      refine Evt.bind (refCost_ev x.z x.l h.val _) ?_
      simp only [ep, w2 (), w3 ()]
      refine law_l3 h _ sum _ (hP t ht) best some pats N i (t : Int) ?_ 0 (by omega) _ (ern_le h _ (Int.le_refl _) ab.2) eb.1 ?_
      · rw [w4 (), wt ()]
        refine ih _ ?_ (by omega) (by omega)
        unfold Eg at e
        unfold Eg
        omega
      · rcases Gp_at h (P.getD t 0) with z|⟨A, a1, a2, a3⟩
        · exact Or.inl z.symm
        · exact Or.inr ⟨A, by omega, a1, a2, a3⟩
    · simp only [c, if_false] at e ⊢
      rw [wt ()]
      refine Evt.ite_neg (by simp) (ih _ ?_ (by omega) (by omega))
      simp at e
      exact e
end
theorem ints_inj : ∀ {a b : List Bool}, ints a = ints b → a = b := by
  intro a
  induction a with
 |nil =>
    intro b h
    cases b with
   |nil => rfl
   |cons y b => simp [ints] at h
 |cons x a ih =>
    intro b h
    cases b with
   |nil => simp [ints] at h
   |cons y b =>
      simp only [ints, List.map_cons, List.cons.injEq] at h
      rw [ih h.2]
      congr 1
      have:=h.1
      cases x <;> cases y <;> simp at this ⊢
theorem patR_inj (x : Cu) {a b : List Bool} (hl : a.length = b.length) (h : patR x a = patR x b) : a = b := by
  unfold patR at h
  exact ints_inj (List.append_inj_left h (by rw [ints_len, ints_len, hl]))
section
variable {x : Cu} (h : CuGood x) {P : List Int} (hn : P.length ≤ 6) (hP : ∀ m, m < P.length → -2000000 ≤ P.getD m 0 ∧ P.getD m 0 ≤ 2000000) {out : List Int} {T : Int}
include h
theorem Run_l0 (bs : List Bool) (hb : bs.length = out.length) (hm : out.length ≤ 24) (ho : ∀ m, m < out.length → out.getD m 0 = pn (bs.getD m false) (Wp x (P.getD m 0))) : ∀ c t, t + c = out.length → ∀ (sts : List S28) (cost : Int) (o : Bool) (S q : Int), stOk x o S q → okp x o (ct x o S) (bs.drop t) → sts.length = t → 0 ≤ cost → cost ≤ 1000000 * (t : Int) →
    ∃ sts' : List S28, Evt (fun k => unit_Run.l0 k sts cost out (out.length : Int) (t : Int) x.s x.a x.b x.c x.d x.e x.f x.g o S q) (sts', cost + csum x o (bs.drop t), 0):=by
  intro c
  induction c with
 |zero =>
    intro t ht sts cost o S q hs hk hl h1 h2
    have : t = bs.length:=by omega
    subst this
    rw [List.drop_length]
    refine ⟨sts, Evt.succ ?_⟩
    simp only [unit_Run.l0, csum, Int.add_zero]
    exact Evt.ite_neg (by omega) (Evt.pure _)
 |succ c ih =>
    intro t ht sts cost o S q hs hk hl h1 h2
    have wt : Unit → wrap64 ((t : Int) + 1) = ((t + 1 : Nat) : Int):=fun _ => wrap64_nat (by omega)
    rw [getD_drop (l:=bs) (z:=false) (by omega)] at hk ⊢
    obtain ⟨k1, k2⟩:=hk
    have k1:=(can_ct x o S _).1 k1
    rw [nst_ct h] at k2
    have wb:=Wp_bd h (P.getD t 0)
    have N:=next_ev h hs (out.getD t 0)
    rw [ho t (by omega), mov_ok h hs _ wb k1] at N
    rw [← ho t (by omega)] at N
    obtain ⟨_, _, _, _, g1, g2⟩:=h.rg
    have cb : 0 ≤ cs x o (bs.getD t false) ∧ cs x o (bs.getD t false) ≤ 1000000:=by
      unfold cs
      split <;> omega
    have w : Unit → wrap64 (cost + cs x o (bs.getD t false)) = cost + cs x o (bs.getD t false):=fun _ => wrap64_of (by omega) (by omega)
    obtain ⟨sts', e⟩:=ih (t + 1) (by omega) (sts ++ [⟨bs.getD t false, nt o S (bs.getD t false), pz (bs.getD t false) (Wp x (P.getD t 0))⟩]) (cost + cs x o (bs.getD t false)) _ _ _ (stOk_nt h hs _ wb) k2 (by simp [hl]) (by omega) (by omega)
    refine ⟨sts', Evt.succ ?_⟩
    have er : rd out (t : Int) = out.getD t 0:=rfl
    simp only [unit_Run.l0, wt (), er]
    refine Evt.ite_pos (by omega) (Evt.ite_pos (by omega) (Evt.ite_pos (by omega) (Evt.bind N (Evt.ite_pos rfl (Evt.ite_pos (by omega) ?_)))))
    simp only [w ()]
    simp only [csum]
    rw [← Int.add_assoc]
    exact e
theorem Run_ev (bs : List Bool) (hb : bs.length = out.length) (hm : out.length ≤ 24) (ho : ∀ m, m < out.length → out.getD m 0 = pn (bs.getD m false) (Wp x (P.getD m 0))) (hk : okp x x.o (ct x x.o x.t) bs) :
    ∃ sts : List S28, Evt (fun k => unit_Run.f k x.s x.a x.b x.c x.d x.e x.f x.g x.o x.t x.q out) (sts, csum x x.o bs, 0):=by
  obtain ⟨sts, e⟩:=Run_l0 h bs hb hm ho out.length 0 (by omega) [] 0 x.o x.t x.q h.st hk rfl (by omega) (by omega)
  refine ⟨sts, ?_⟩
  have C:=CheckState_ev (s:=x.s) (a:=x.a) (b:=x.b) (c:=x.c) (d:=x.d) (e:=x.e) (f:=x.f) (g:=x.g) (o:=x.o) (t:=x.t) (q:=x.q)
  rw [stErr_of h h.st] at C
  rw [List.drop_zero, Int.zero_add] at e
  simp only [unit_Run.f]
  exact Evt.bind C (Evt.ite_pos rfl (Evt.ite_neg (by omega) e))
include hn hP
theorem law_l4 (bs : List Bool) (hb : bs.length = P.length) (hl : out.length = P.length) (ho : ∀ m, m < P.length → out.getD m 0 = pn (bs.getD m false) (Wp x (P.getD m 0))) : ∀ t, t ≤ out.length → ∀ sum, sum + gsum (Eg x P) t (bs.drop t) = T → -7000000 - 2000000000000 * (t : Int) ≤ sum → sum ≤ 7000000 + 2000000000000 * (t : Int) →
    Evt (fun k => gridhalllaw3_DualSingle.l4 k P T 0 sum out (out.length : Int) (t : Int) x.s x.a x.b x.c x.d x.e x.f x.g x.z x.l x.o x.t x.q) true:=by
  refine down ?_ ?_
  · intro sum e _ _
    rw [show out.length = bs.length by omega, List.drop_length] at e
    have e : sum = T:=by simpa [gsum] using e
    subst e
    refine Evt.succ ?_
    simp only [gridhalllaw3_DualSingle.l4]
    exact Evt.ite_neg (by omega) (Evt.ite_pos (by simp) (Evt.of_eq (by simp)))
  · intro t ht ih sum e s1 s2
    have wt : Unit → wrap64 ((t : Int) + 1) = ((t + 1 : Nat) : Int):=fun _ => wrap64_nat (by omega)
    have g:=Gp_bd h (hP t (by omega))
    have ab:=h.rg.1
    have wb:=Wp_bd h (P.getD t 0)
    have eb:=ern_bd h (hP t (by omega)) (y:=Wp x (P.getD t 0)) (by omega) wb.2
    rw [getD_drop (l:=bs) (z:=false) (by omega)] at e
    simp only [gsum] at e
    have er : rd out (t : Int) = out.getD t 0:=rfl
    have ep : rd P (t : Int) = P.getD t 0:=rfl
    have eo:=ho t (by omega)
    refine Evt.succ ?_
    simp only [gridhalllaw3_DualSingle.l4, er, ep, wt (), eo]
    refine Evt.ite_pos (by omega) (Evt.ite_pos (by omega) (Evt.ite_pos (by omega) ?_))
    by_cases c : bs.getD t false = true
    · rw [if_pos c] at e
      unfold pn
      simp only [if_pos c]
      have w2 : Unit → wrap64 (P.getD t 0 * Wp x (P.getD t 0)) = P.getD t 0 * Wp x (P.getD t 0):=fun _ => wrap64_of (by omega) (by omega)
      have w3 : Unit → wrap64 (P.getD t 0 * Wp x (P.getD t 0) - cst x.l (Wp x (P.getD t 0)) x.l.length) = Gp x (P.getD t 0):=fun _ => wrap64_of (by unfold Gp at g; omega) (by unfold Gp at g; omega)
      have w4 : Unit → wrap64 (sum + Gp x (P.getD t 0)) = sum + Gp x (P.getD t 0):=fun _ => wrap64_of (by omega) (by omega)
      refine Evt.ite_pos (by omega) (Evt.ite_pos (by omega) (Evt.bind (refCost_ev x.z x.l h.val _) ?_))
      simp only [w2 (), w3 (), w4 ()]
      refine ih _ ?_ (by omega) (by omega)
      unfold Eg at e
      unfold Eg
      omega
    · rw [if_neg c] at e
      unfold pn
      simp only [if_neg c]
      exact Evt.ite_neg (by omega) (ih _ (by omega) (by omega) (by omega))
theorem law_j6 (A : Ans x P out T) : Evt (fun k => gridhalllaw3_DualSingle.j6 k P out T ((out.length : Int) != (P.length : Int)) x.s x.a x.b x.c x.d x.e x.f x.g x.z x.l x.o x.t x.q) true := by
  obtain ⟨hl, ⟨bs, hb, hk, hT, ho⟩, _⟩:=A
  obtain ⟨sts, R⟩:=Run_ev h (P:=P) (out:=out) bs (by omega) (by omega) (fun m hm => ho m (by omega)) hk
  have cb:=csum_bd h bs x.o
  have w : Unit → wrap64 (-csum x x.o bs) = -csum x x.o bs:=fun _ => wrap64_of (by omega) (by omega)
  rw [hl]
  refine Evt.succ ?_
  simp only [gridhalllaw3_DualSingle.j6]
  refine Evt.ite_neg (by simp) (Evt.bind R ?_)
  simp only [w ()]
  refine law_l4 h hn hP bs hb hl ho 0 (by omega) _ ?_ (by omega) (by omega)
  rw [hT, vl1_eq, List.drop_zero]
  omega
theorem law_l1 (A : Ans x P out T) (R : List (List Int)) (hR : R.length ≤ 64) (h1 : ∀ row ∈ R, ∃ bs : List Bool, bs.length = P.length ∧ okp x x.o (ct x x.o x.t) bs ∧ row = patR x bs) (h2 : ∀ bs : List Bool, bs.length = P.length → okp x x.o (ct x x.o x.t) bs → patR x bs ∈ R) :
    ∀ i, i ≤ R.length → ∀ (best : Int) (some : Bool),(0 < i → some = true) → (some = true → best ≤ T ∧ ∀ j, j < i → ∀ bs : List Bool, R.getD j [] = patR x bs → bs.length = P.length → vl1 x (Eg x P) 0 x.o bs ≤ best) →
    Evt (fun k => gridhalllaw3_DualSingle.l1 k P out T 0 best some R (R.length : Int) (i : Int) x.s x.a x.b x.c x.d x.e x.f x.g x.z x.l x.o x.t x.q) true:=by
  refine down ?_ ?_
  · intro best some s1 s2
    have A':=A
    obtain ⟨hl, ⟨bs, hb, hk, hT, ho⟩, _⟩:=A'
    have m:=h2 bs hb hk
    have p:=List.length_pos_of_mem m
    obtain ⟨b1, b2⟩:=s2 (s1 p)
    obtain ⟨j, hj, e⟩:=List.getElem_of_mem m
    have:=b2 j hj bs (by rw [List.getD_eq_getElem?_getD, List.getElem?_eq_getElem hj, e]; rfl) hb
    have e : best = T:=by omega
    subst e
    refine Evt.succ ?_
    simp only [gridhalllaw3_DualSingle.l1]
    exact Evt.ite_neg (by omega) (Evt.ite_pos (by simp) (Evt.ite_pos (by simp) (law_j6 h hn hP A)))
  · intro i hi ih best some s1 s2
    have wi : Unit → wrap64 ((i : Int) + 1) = ((i + 1 : Nat) : Int):=fun _ => wrap64_nat (by omega)
    obtain ⟨bs, hb, hk, e⟩:=h1 _ (getD_mem (z:=[]) hi)
    have cb:=csum_bd h bs x.o
    have w : Unit → wrap64 (-csum x x.o bs) = -csum x x.o bs:=fun _ => wrap64_of (by omega) (by omega)
    have el : (patR x bs).length = P.length + 1:=by
      unfold patR
      rw [List.length_append, ints_len, hb]
      rfl
    have ee : rd (patR x bs) (P.length : Int) = csum x x.o bs:=pat_end x bs hb
    have er : rd_L6 R (i : Int) = patR x bs:=e
    have up:=A.2.2 bs hb hk
    have same : ∀ bs' : List Bool, R.getD i [] = patR x bs' → bs'.length = P.length → bs' = bs:=by
      intro bs' e' hb'
      rw [e] at e'
      exact (patR_inj x (hb'.trans hb.symm) e'.symm)
    refine Evt.succ ?_
    simp only [gridhalllaw3_DualSingle.l1, er, ee, w ()]
    refine Evt.ite_pos (by omega) (Evt.ite_pos (by omega) (Evt.ite_pos (by omega) (Evt.ite_pos (by omega) (Evt.ite_pos (by omega) ?_))))
    refine law_l2 h hn hP bs hb best some R (R.length : Int) (i : Int) (vl1 x (Eg x P) 0 x.o bs) ?_ 0 (by omega) _ ?_ (by omega) (by omega)
    · rw [wi ()]
      refine Evt.ite (fun c => Evt.ite (fun c2 => ?_) fun c2 => ?_) fun c => ?_
      · refine ih _ true (fun _ => rfl) fun _ => ⟨up, fun j hj bs' e' hb' => ?_⟩
        by_cases q : j = i
        · subst q
          rw [same bs' e' hb']
          exact Int.le_refl _
        · have:=(s2 c).2 j (by omega) bs' e' hb'
          omega
      · refine ih _ some (fun _ => c) fun _ => ⟨(s2 c).1, fun j hj bs' e' hb' => ?_⟩
        by_cases q : j = i
        · subst q
          rw [same bs' e' hb']
          omega
        · exact (s2 c).2 j (by omega) bs' e' hb'
      · have i0 : i = 0:=by
          by_cases q : i = 0
          · exact q
          · exact absurd (s1 (by omega)) c
        refine ih _ true (fun _ => rfl) fun _ => ⟨up, fun j hj bs' e' hb' => ?_⟩
        have : j = i:=by omega
        subst this
        rw [same bs' e' hb']
        exact Int.le_refl _
    · rw [List.drop_zero, vl1_eq]
      omega
end
section
variable {x : Cu} {P : List Int} (hn : P.length ≤ 6) {out : List Int} {T e : Int}
include hn
theorem law_l0 (h : CuGood x)
    (S1 : (∀ m, m < P.length → -2000000 ≤ P.getD m 0 ∧ P.getD m 0 ≤ 2000000) → e = 0 ∧ Ans x P out T)
    (S2 : ¬ (∀ m, m < P.length → -2000000 ≤ P.getD m 0 ∧ P.getD m 0 ≤ 2000000) → out = [] ∧ T = 0 ∧ e = 4) :
    ∀ i, i ≤ P.length → ∀ w : Int, (w = 0 ∧ (∀ m, m < i → -2000000 ≤ P.getD m 0 ∧ P.getD m 0 ≤ 2000000) ∨ w = 4 ∧ ¬ (∀ m, m < P.length → -2000000 ≤ P.getD m 0 ∧ P.getD m 0 ≤ 2000000)) →
    Evt (fun k => gridhalllaw3_DualSingle.l0 k P out T e w P (P.length : Int) (i : Int) x.s x.a x.b x.c x.d x.e x.f x.g x.z x.l x.o x.t x.q) true:=by
  refine down ?_ ?_
  · intro w hw
    rcases hw with ⟨rfl, hw⟩|⟨rfl, hw⟩
    · obtain ⟨rfl, A⟩:=S1 hw
      obtain ⟨R, r1, r2, r3, r4⟩:=Patterns_ev h P.length hn
      refine Evt.succ ?_
      simp only [gridhalllaw3_DualSingle.l0]
      exact Evt.ite_neg (by omega) (Evt.ite_pos (by simp) (Evt.bind r1 (law_l1 h hn hw A R r2 r3 r4 0 (by omega) 0 false (fun z => by omega) (fun z => by cases z))))
    · obtain ⟨rfl, rfl, rfl⟩:=S2 hw
      refine Evt.succ ?_
      simp only [gridhalllaw3_DualSingle.l0]
      exact Evt.ite_neg (by omega) (Evt.ite_neg (by omega) (Evt.ite_pos (by simp) (Evt.ite_pos (by simp) (Evt.of_eq (by simp)))))
  · intro i hi ih w hw
    have wi : Unit → wrap64 ((i : Int) + 1) = ((i + 1 : Nat) : Int):=fun _ => wrap64_nat (by omega)
    have ep : rd P (i : Int) = P.getD i 0:=rfl
    refine Evt.succ ?_
    simp only [gridhalllaw3_DualSingle.l0, in_eq, Option.bind_some, decide_eq_true_eq, ep, wi ()]
    refine Evt.ite_pos (by omega) (Evt.ite_pos (by omega) (Evt.ite_pos (by omega) (Evt.ite (fun c => Evt.ite (fun c2 => ?_) fun c2 => ?_) fun c => ?_)))
    · subst c
      rcases hw with ⟨_, hw⟩|⟨z, _⟩
      · refine ih 0 (Or.inl ⟨rfl, fun m hm => ?_⟩)
        by_cases q : m = i
        · subst q
          exact c2
        · exact hw m (by omega)
      · omega
    · exact ih 4 (Or.inr ⟨rfl, fun z => c2 (z i hi)⟩)
    · rcases hw with ⟨z, _⟩|z
      · exact absurd z c
      · exact ih w (Or.inr z)
theorem law_bad (c : ¬ comErr x = 0) : ∀ i, i ≤ P.length → Evt (fun k => gridhalllaw3_DualSingle.l0 k P [] 0 (comErr x) (comErr x) P (P.length : Int) (i : Int) x.s x.a x.b x.c x.d x.e x.f x.g x.z x.l x.o x.t x.q) true := by
  refine down ?_ ?_
  · refine Evt.succ ?_
    simp only [gridhalllaw3_DualSingle.l0]
    exact Evt.ite_neg (by omega) (Evt.ite_neg c (Evt.ite_pos (by simp) (Evt.ite_pos (by simp) (Evt.of_eq (by simp)))))
  · intro i hi ih
    have wi : Unit → wrap64 ((i : Int) + 1) = ((i + 1 : Nat) : Int):=fun _ => wrap64_nat (by omega)
    refine Evt.succ ?_
    simp only [gridhalllaw3_DualSingle.l0, wi ()]
    exact Evt.ite_pos (by omega) (Evt.ite_pos (by omega) (Evt.ite_pos (by omega) (Evt.ite_neg c ih)))
theorem law_j1 : Evt (fun k => gridhalllaw3_DualSingle.j1 k P x.s x.a x.b x.c x.d x.e x.f x.g x.z x.l x.o x.t x.q) true := by
  have C:=dCheck_ev x
  have D:=CommitError_ev x
  by_cases c : comErr x = 0
  · have h:=good_of c
    obtain ⟨out, T, e, e1, e2, e3⟩:=Single_ev h (P:=P) (by omega)
    rw [c] at C D
    refine Evt.succ ?_
    simp only [gridhalllaw3_DualSingle.j1]
    refine Evt.bind e1 (Evt.bind D (Evt.bind C (Evt.ite_pos rfl ?_)))
    exact law_l0 hn h e2 e3 0 (by omega) 0 (Or.inl ⟨rfl, fun m hm => by omega⟩)
  · have S : Evt (fun q => dual_Single.f q x.s x.a x.b x.c x.d x.e x.f x.g x.z x.l x.o x.t x.q P) (([] : List Int), 0, comErr x):=by
      simp only [dual_Single.f]
      exact Evt.bind C (Evt.ite_neg c (Evt.pure _))
    refine Evt.succ ?_
    simp only [gridhalllaw3_DualSingle.j1]
    refine Evt.bind S (Evt.bind D (Evt.bind C (Evt.ite_pos rfl ?_)))
    exact law_bad hn c 0 (by omega)
end
theorem law_f (x : Cu) (P : List Int) : Evt (fun k => gridhalllaw3_DualSingle.f k x.s x.a x.b x.c x.d x.e x.f x.g x.z x.l x.o x.t x.q P) true := by
  simp only [gridhalllaw3_DualSingle.f, gridhalllaw3_alone.f, gridhalllaw3_two.f, Option.bind_some]
  refine Evt.bind alone_ev (Evt.ite_pos rfl (Evt.ite_pos rfl (Evt.bind (SameInts_ev _ (by simp)) (Evt.succ ?_))))
  simp only [gridhalllaw3_DualSingle.j0]
  refine Evt.ite_neg (by simp) (Evt.ite (fun c => Evt.ite_pos (by omega) ?_) fun c => ?_)
  · exact law_j1 (P:=P.take 6) (by rw [List.length_take]; omega)
  · exact law_j1 (by omega)
end Go.Proofs.Ytdgjelbkogfedaa.DDualSingle
