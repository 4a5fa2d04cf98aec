import Derived.Test.YtdphghdjljplpaaETopStorage
namespace Go.Proofs.Ytdphghdjljplpaa.GTopStorage
open Go.RowKit Go.Proofs.YtdphghdjljplpaaW.PrintWords Go.Proofs.YtdphghdjljplpaaW.PrintMore Go.Proofs.Ytdphghdjljplpaa.Evs Go.Proofs.Ytdphghdjljplpaa.PTopStorage Go.Proofs.Ytdphghdjljplpaa.CTopStorage Go.Proofs.Ytdphghdjljplpaa.ZTopStorage Go.Proofs.Ytdphghdjljplpaa.XTopStorage Go.Proofs.Ytdphghdjljplpaa.ETopStorage
set_option linter.unusedVariables false
set_option linter.unusedSectionVars false
set_option linter.unusedSimpArgs false
abbrev Cx := S83
abbrev zFn : S83 := z83
theorem xs_pos {r : List Pc} (a : Int) (pos : ∀ m, m < r.length → 1 ≤ ln r m) : ∀ n : Nat, n ≤ r.length → a + n ≤ xs a r n := by
  intro n
  induction n with
 |zero => intro _; simp [xs]
 |succ n ih =>
    intro hn
    have:=ih (by omega)
    have:=pos n (by omega)
    simp only [xs]
    omega
theorem us_xs {r : List Pc} (a : Int) (pos : ∀ m, m < r.length → 1 ≤ ln r m) (n : Nat) (hn : n ≤ r.length) : xs a r n ≤ a + ((us r).length : Int) := by
  have h1:=us_len (a:=a) (fun m hm => by have:=pos m hm; omega) n hn
  have e : us r = us (r.take n) ++ us (r.drop n):=by rw [← us_app, List.take_append_drop]
  rw [e, List.length_append]
  omega
theorem us_many {r : List Pc} (pos : ∀ m, m < r.length → 1 ≤ ln r m) : r.length ≤ (us r).length := by
  have h1:=xs_pos 0 pos r.length (Nat.le_refl _)
  have h2:=us_xs 0 pos r.length (Nat.le_refl _)
  omega
theorem sl_us {r : List Pc} (pos : ∀ m, m < r.length → 1 ≤ ln r m) (m : Nat) (hm : m < r.length) : sl r m ∈ us r := by
  have:=pos m hm
  refine List.mem_flatMap.2 ⟨r[m], List.getElem_mem hm, ?_⟩
  rw [getD_lnsl r m hm]
  exact List.mem_replicate.2 ⟨by show (ln r m).toNat ≠ 0; omega, rfl⟩
theorem cv_made {a v : Int} {r : List Pc} (g : PGood r) (len : r.length ≤ 64) (hs : ∀ s ∈ us r, -10000000 ≤ s ∧ s ≤ 10000000) (ha : -1000000 ≤ a) (hN : a + ((us r).length : Int) ≤ 1000000) (hv : -100000000000000 ≤ v ∧ v ≤ 100000000000000) : Cv a v r := by
  have hsl : ∀ m, m < r.length → -10000000 ≤ sl r m ∧ sl r m ≤ 10000000:=fun m hm => hs _ (sl_us g.pos m hm)
  have hy : ∀ n, n ≤ r.length → v - 10000000 * (xs a r n - a) ≤ ys v r n ∧ ys v r n ≤ v + 10000000 * (xs a r n - a):=by
    intro n
    induction n with
   |zero => intro _; simp [xs, ys]
   |succ n ih =>
      intro hn
      have i1:=ih (by omega)
      have i2:=g.pos n (by omega)
      have i3:=mulb (a:=ln r n) (A:=ln r n) (B:=10000000) (by omega) (Int.le_refl _) (hsl n (by omega)).1 (hsl n (by omega)).2
      simp only [xs, ys]
      omega
  refine ⟨len, fun n hn => ?_, fun n hn => ?_, g.inc⟩
  · have h1:=xs_pos a g.pos n hn
    have h2:=us_xs a g.pos n hn
    have h3:=hy n hn
    refine ⟨by omega, ?_⟩
    unfold okY
    omega
  · have h1:=ln_us (fun m hm => by have:=g.pos m hm; omega) n hn
    have h2:=g.pos n hn
    have h3:=hsl n hn
    unfold okP
    omega
def hiF (f : Cx) : Int := xs f.f0 f.f2 f.f2.length
def val (f : Cx) (k : Int) : Int := fv f.f0 f.f1 f.f2 k f.f2.length
abbrev CvF (f : Cx) : Prop := Cv f.f0 f.f1 f.f2
def Sl (f : Cx) : Prop := ∀ z ∈ us f.f2, -1000000 ≤ z ∧ z ≤ 1000000
theorem F_val (f : Cx) {k : Int} (h : f.f0 ≤ k) : F f.f0 f.f1 f.f2 (k - f.f0).toNat = val f k := by
  unfold F val
  rw [show f.f0 + ((k - f.f0).toNat : Int) = k by omega]
theorem hi_us {f : Cx} (h : CvF f) : hiF f = f.f0 + ((us f.f2).length : Int) := by
  have:=us_length h
  unfold hiF
  omega
theorem val_low {f : Cx} (h : CvF f) : val f f.f0 = f.f1 := by
  have:=F_zero h
  unfold F at this
  unfold val
  rwa [show f.f0 + ((0 : Nat) : Int) = f.f0 by omega] at this
def trl (c d p : Int) : List Pc := if c + d > 0 then [(⟨c + d, p⟩ : Pc)] else []
structure Pr (c d p : Int) : Prop where
  c : 0 ≤ c ∧ c ≤ 100000
  d : 0 ≤ d ∧ d ≤ 100000
  p : -1000000 ≤ p ∧ p ≤ 1000000
theorem Pr.dp {c d p : Int} (h : Pr c d p) : -100000000000 ≤ -d * p ∧ -d * p ≤ 100000000000 := by
  have:=mulb (a:=d) (A:=100000) (b:=p) (B:=1000000) h.d.1 h.d.2 h.p.1 h.p.2
  rw [Int.neg_mul]
  omega
theorem tr_cv {c d p : Int} (h : Pr c d p) : Cv (-d) (-d * p) (trl c d p) := by
  obtain ⟨h1, h2, h3⟩:=h
  have hdp:=Pr.dp ⟨h1, h2, h3⟩
  unfold trl
  split
  · have m:=mulb (a:=c + d) (A:=200000) (b:=p) (B:=1000000) (by omega) (by omega) h3.1 h3.2
    refine ⟨by simp, fun n hn => ?_, fun n hn => ?_, fun n h1 h2 => ?_⟩
    · simp at hn
      unfold PreC okY
      have : n = 0 ∨ n = 1:=by omega
      rcases this with rfl|rfl <;> simp [xs, ys, ln, sl] <;> omega
    · simp at hn
      subst hn
      unfold okP
      simp [ln, sl]
      omega
    · simp at h2
      omega
  · refine ⟨by simp, fun n hn => ?_, fun n hn => ?_, fun n h1 h2 => ?_⟩
    · simp at hn
      subst hn
      unfold PreC okY
      simp [xs, ys]
      omega
    · simp at hn
    · simp at h2
theorem tr_us {c d p : Int} : ∀ s ∈ us (trl c d p), s = p := by
  intro s hs
  unfold trl at hs
  split at hs
  · rw [us_cons, us_nil, List.append_nil] at hs
    exact (List.mem_replicate.1 hs).2
  · rw [us_nil] at hs
    cases hs
theorem tr_end {c d p : Int} (h : Pr c d p) : xs (-d) (trl c d p) (trl c d p).length = c := by
  obtain ⟨h1, h2, h3⟩:=h
  unfold trl
  split
  · simp [xs, ln]
    omega
  · simp [xs]
    omega
theorem sm_const {l : List Int} {p : Int} (h : ∀ s ∈ l, s = p) : ∀ k, k ≤ l.length → sm l k = p * (k : Int) := by
  unfold sm
  induction l with
 |nil => intro k hk; simp at hk; subst hk; simp
 |cons x l ih =>
    intro k hk
    cases k with
   |zero => simp
   |succ k =>
      rw [List.take_succ_cons, List.sum_cons, ih (fun s hs => h s (by simp [hs])) k (by simp at hk; omega), h x (by simp)]
      rw [show ((k + 1 : Nat) : Int) = (k : Int) + 1 by omega, Int.mul_add]
      omega
theorem tr_F {c d p : Int} (h : Pr c d p) (j : Nat) (hj : (j : Int) ≤ c + d) : F (-d) (-d * p) (trl c d p) j = p * ((j : Int) - d) := by
  have hc:=tr_cv h
  have hl:=us_length hc
  rw [tr_end h] at hl
  rw [F_us hc j (by omega), sm_const tr_us j (by omega), Int.mul_sub, Int.neg_mul, Int.mul_comm d p]
  omega
theorem tr_val {c d p x : Int} (h : Pr c d p) (h1 : -d ≤ x) (h2 : x ≤ c) : fv (-d) (-d * p) (trl c d p) x (trl c d p).length = p * x := by
  have:=tr_F h (x + d).toNat (by omega)
  unfold F at this
  rw [show -d + ((x + d).toNat : Int) = x by omega, show ((x + d).toNat : Int) - d = x by omega] at this
  exact this
structure Stp (f g : Cx) (c d cap p : Int) : Prop where
  lo : g.f0 = mx 0 (f.f0 - d)
  hi : hiF g = mn cap (hiF f + c)
  le : ∀ k b, g.f0 ≤ k → k ≤ hiF g → f.f0 ≤ b → b ≤ hiF f → -d ≤ k - b → k - b ≤ c → val g k ≤ val f b + p * (k - b)
  some : ∀ k, g.f0 ≤ k → k ≤ hiF g → ∃ b, f.f0 ≤ b ∧ b ≤ hiF f ∧ -d ≤ k - b ∧ k - b ≤ c ∧ val g k = val f b + p * (k - b)
structure Lv (f : Cx) (cap : Int) : Prop where
  cv : CvF f
  sl : Sl f
  lo : 0 ≤ f.f0
  ne : f.f0 ≤ hiF f
  hi : hiF f ≤ cap
def VB (f : Cx) (B : Int) : Prop := ∀ k, f.f0 ≤ k → k ≤ hiF f → -B ≤ val f k ∧ val f k ≤ B
theorem rdf (l : List Cx) (n : Nat) : rd_T83 l (n : Int) = l.getD n zFn := rfl
theorem rdi (l : List Int) (n : Nat) : rd l (n : Int) = l.getD n 0 := rfl
theorem wn (n : Nat) (h : n ≤ 1000) : wrap64 ((n : Int) + 1) = ((n + 1 : Nat) : Int) := wrap64_nat (by omega)
theorem restr_step {g : Cx} (h : CvF g) (x y : Int) : ∃ R : Int × Int × List Pc × Int, Evt (fun k => convexpl_Restrict.f k g.f0 g.f1 g.f2 x y) R ∧
    ((R.2.2.2 = 8 ∧ mx x g.f0 > mn y (hiF g)) ∨ ∃ q : Cx, R = (q.f0, q.f1, q.f2, 0) ∧ CvF q ∧ q.f0 = mx x g.f0 ∧ hiF q = mn y (hiF g) ∧ q.f0 ≤ hiF q ∧ (∀ k, q.f0 ≤ k → k ≤ hiF q → val q k = val g k) ∧ (∀ p ∈ q.f2, p.f1 ∈ us g.f2)):=by
  obtain ⟨R, r1, r2⟩:=Restrict_ev h x y
  refine ⟨R, r1, ?_⟩
  by_cases c : mx x g.f0 > mn y (hiF g)
  · have c' : mx x g.f0 > mn y (xs g.f0 g.f2 g.f2.length):=c
    rw [if_pos c'] at r2
    exact Or.inl ⟨r2, c⟩
  · have c' : ¬ mx x g.f0 > mn y (xs g.f0 g.f2 g.f2.length):=c
    rw [if_neg c'] at r2
    obtain ⟨r, e, s1, s2, s3⟩:=r2
    refine Or.inr ⟨⟨mx x g.f0, fv g.f0 g.f1 g.f2 (mx x g.f0) g.f2.length, r⟩, e, s2, rfl, s3, ?_, fun k k1 k2 => ?_, fun p hp => ?_⟩
    · show mx x g.f0 ≤ xs (mx x g.f0) r r.length
      rw [s3]
      omega
    · exact Sub.val h s1 s2 k1 k2
    · obtain ⟨m, hm, e⟩:=List.getElem_of_mem hp
      obtain ⟨_, j, hj, _, _, e2⟩:=s1.pc m hm
      rw [getD_lnsl r m hm] at e
      rw [← e]
      show sl r m ∈ _
      rw [e2]
      exact sl_us (fun m hm => (h.rng m hm).1) j hj
structure ArgR (f : Cx) (lo hi k : Int) : Prop where
  d1 : f.f0 ≤ k
  d2 : k ≤ hiF f
  r1 : lo ≤ k
  r2 : k ≤ hi
  le : ∀ j, f.f0 ≤ j → j ≤ hiF f → lo ≤ j → j ≤ hi → val f k ≤ val f j
  lt : ∀ j, f.f0 ≤ j → lo ≤ j → j < k → val f k < val f j
theorem arg_of {f : Cx} (h : CvF f) {n : Nat} (hn : n ≤ f.f2.length) (h1 : ∀ m, m < n → sl f.f2 m < 0) (h2 : n = f.f2.length ∨ 0 ≤ sl f.f2 n) : ArgR f f.f0 (hiF f) (xs f.f0 f.f2 n) ∧ val f (xs f.f0 f.f2 n) = ys f.f1 f.f2 n := by
  have b1:=xs_mono h (i:=0) (j:=n) (by omega) hn
  have b2:=xs_mono h (i:=n) (j:=f.f2.length) hn (Nat.le_refl _)
  have e0 : xs f.f0 f.f2 0 = f.f0:=rfl
  have hN:=us_length h
  obtain ⟨P, hP⟩ : ∃ P : Nat, xs f.f0 f.f2 n = f.f0 + P:=⟨(xs f.f0 f.f2 n - f.f0).toNat, by omega⟩
  have c1 : ∀ c i : Nat, i + (c + 1) = P → F f.f0 f.f1 f.f2 P < F f.f0 f.f1 f.f2 i:=by
    intro c
    induction c with
   |zero =>
      intro i hi
      obtain ⟨m, m1, m2, m3⟩:=piece_of h (f.f0 + i) (by omega) n hn (by omega)
      have:=F_succ h i m (by omega) m2 m3
      have:=h1 m m1
      rw [show P = i + 1 by omega]
      omega
   |succ c ih =>
      intro i hi
      obtain ⟨m, m1, m2, m3⟩:=piece_of h (f.f0 + i) (by omega) n hn (by omega)
      have:=F_succ h i m (by omega) m2 m3
      have:=h1 m m1
      have:=ih (i + 1) (by omega)
      omega
  have c2 : ∀ c : Nat, P + c ≤ (us f.f2).length → F f.f0 f.f1 f.f2 P ≤ F f.f0 f.f1 f.f2 (P + c):=by
    intro c
    induction c with
   |zero => intro _; exact Int.le_refl _
   |succ c ih =>
      intro hc
      have:=ih (by omega)
      obtain ⟨m, m1, m2, m3⟩:=piece_of h (f.f0 + ((P + c : Nat) : Int)) (by omega) f.f2.length (Nat.le_refl _) (by omega)
      have hs:=F_succ h (P + c) m m1 m2 m3
      have hm : n ≤ m:=by
        by_cases q : n ≤ m
        · exact q
        · have:=xs_mono h (i:=m + 1) (j:=n) (by omega) hn
          omega
      have : 0 ≤ sl f.f2 m:=by
        rcases h2 with h2|h2
        · omega
        · by_cases q : n = m
          · rw [← q]; exact h2
          · have:=sl_mono h (i:=n) (j:=m) (by omega) m1
            omega
      rw [show P + (c + 1) = P + c + 1 by omega]
      omega
  have hh:=hi_us h
  refine ⟨⟨by omega, b2, by omega, b2, fun j j1 j2 _ _ => ?_, fun j j1 _ j2 => ?_⟩, ?_⟩
  · rw [← F_val f (show f.f0 ≤ xs f.f0 f.f2 n by omega), ← F_val f j1, hP, show (f.f0 + (P : Int) - f.f0).toNat = P by omega]
    by_cases q : j < f.f0 + P
    · have:=c1 (P - (j - f.f0).toNat - 1) (j - f.f0).toNat (by omega)
      omega
    · have:=c2 ((j - f.f0).toNat - P) (by omega)
      rw [show P + ((j - f.f0).toNat - P) = (j - f.f0).toNat by omega] at this
      exact this
  · rw [← F_val f (show f.f0 ≤ xs f.f0 f.f2 n by omega), ← F_val f j1, hP, show (f.f0 + (P : Int) - f.f0).toNat = P by omega]
    exact c1 (P - (j - f.f0).toNat - 1) (j - f.f0).toNat (by omega)
  · have:=fv_xs h n hn f.f2.length (Nat.le_refl _)
    rw [Nat.min_eq_right hn] at this
    exact this
theorem Least_l0 {f : Cx} (h : CvF f) : ∀ n, n ≤ f.f2.length → (∀ m, m < n → sl f.f2 m < 0) → ∃ k, ArgR f f.f0 (hiF f) k ∧ Evt (fun q => convexpl_Least.l0 q (xs f.f0 f.f2 n) (ys f.f1 f.f2 n) f.f2 (f.f2.length : Int) (n : Int)) (k, val f k, 0) := by
  refine down ?_ ?_
  · intro h1
    obtain ⟨a1, a2⟩:=arg_of h (Nat.le_refl _) h1 (Or.inl rfl)
    refine ⟨_, a1, Evt.succ ?_⟩
    simp only [convexpl_Least.l0]
    exact Evt.ite_neg (by omega) (Evt.of_eq (by rw [a2]))
  · intro n hn ih h1
    by_cases c : 0 ≤ sl f.f2 n
    · obtain ⟨a1, a2⟩:=arg_of h (by omega) h1 (Or.inr c)
      refine ⟨_, a1, Evt.succ ?_⟩
      simp only [convexpl_Least.l0, rdc1]
      exact Evt.ite_pos (by omega) (Evt.ite_pos (by omega) (Evt.ite_pos (by omega) (Evt.ite_pos (by omega) (Evt.of_eq (by rw [a2])))))
    · obtain ⟨k, k1, k2⟩:=ih (fun m hm => by
        by_cases e : m = n
        · subst e; omega
        · exact h1 m (by omega))
      refine ⟨k, k1, Evt.succ ?_⟩
      have p0:=h.pre n (by omega)
      have p1:=h.pre (n + 1) (by omega)
      have hr:=h.rng n hn
      have pb:=prod_bd hr
      obtain ⟨p1a, p1b⟩:=p1
      unfold okY at p1b
      have hl:=h.len
      simp only [convexpl_Least.l0, rdc1, rdc0]
      have ex : xs f.f0 f.f2 (n + 1) = xs f.f0 f.f2 n + ln f.f2 n:=rfl
      have ey : ys f.f1 f.f2 (n + 1) = ys f.f1 f.f2 n + ln f.f2 n * sl f.f2 n:=rfl
      rw [wrap64_of (x:=ln f.f2 n * sl f.f2 n) (by omega) (by omega), ← ey, ← ex, wrap64_of (x:=xs f.f0 f.f2 (n + 1)) (by omega) (by omega), wrap64_of (x:=ys f.f1 f.f2 (n + 1)) (by omega) (by omega), wrap64_nat (n:=n) (by omega)]
      exact Evt.ite_pos (by omega) (Evt.ite_pos (by omega) (Evt.ite_pos (by omega) (Evt.ite_neg (by omega) k2)))
theorem Least_ev {f : Cx} (h : CvF f) : ∃ k, ArgR f f.f0 (hiF f) k ∧ Evt (fun q => convexpl_Least.f q f.f0 f.f1 f.f2) (k, val f k, 0) := by
  obtain ⟨k, k1, k2⟩:=Least_l0 h 0 (by omega) (fun m hm => by omega)
  refine ⟨k, k1, ?_⟩
  have:=CCheck_ev f.f0 f.f1 f.f2
  rw [Cv_err h] at this
  simp only [convexpl_Least.f]
  exact Evt.bind this (Evt.ite_pos rfl k2)
theorem trade_ev {c d p : Int} (cap bg en : Int) (h : Pr c d p) : storage_trade.f c d cap bg en p = some (-d, -d * p, trl c d p) := by
  have:=h.dp
  obtain ⟨h1, h2, h3⟩:=h
  unfold storage_trade.f trl
  rw [wrap64_of (x:=c + d) (by omega) (by omega), wrap64_of (x:=-d) (by omega) (by omega), wrap64_of (x:=-d * p) (by omega) (by omega)]
  split <;> rfl
structure Tiny (f : Cx) (c d : Int) : Prop where
  c : c ≤ 12
  d : d ≤ 12
  hi : hiF f ≤ 12
  val : -1000000000000 ≤ f.f1 ∧ f.f1 ≤ 1000000000000
theorem conv_step {f : Cx} {cap : Int} (L : Lv f cap) (hcap : cap ≤ 100000) {c d p : Int} (hp : Pr c d p) :
    ∃ C : Int × Int × List Pc × Int, Evt (fun k => convexpl_Convolve.f k f.f0 f.f1 f.f2 (-d) (-d * p) (trl c d p)) C ∧
      ((C.2.2.2 = 2 ∧ ¬ Tiny f c d) ∨ ∃ g : Cx, C = (g.f0, g.f1, g.f2, 0) ∧ CvF g ∧ Sl g ∧ g.f0 = f.f0 - d ∧ hiF g = hiF f + c ∧
        (∀ k b, f.f0 ≤ b → b ≤ hiF f → -d ≤ k - b → k - b ≤ c → val g k ≤ val f b + p * (k - b)) ∧
        (∀ k, g.f0 ≤ k → k ≤ hiF g → ∃ b, f.f0 ≤ b ∧ b ≤ hiF f ∧ -d ≤ k - b ∧ k - b ≤ c ∧ val g k = val f b + p * (k - b))):=by
  have h:=L.cv
  have Llo:=L.lo
  have Lhi:=L.hi
  have Lne:=L.ne
  have hh:=hi_us h
  have hs:=tr_cv hp
  have he:=tr_end hp
  have hdp:=hp.dp
  obtain ⟨pc, pd, pp⟩:=id hp
  obtain ⟨r, W, c1, c2, c3, c4, c5, c6⟩:=Convolve_ev h hs (N:=(us f.f2).length) (N':=(c + d).toNat) hh (by rw [he]; omega)
  refine ⟨_, c1, ?_⟩
  have hlen:=c5.length_eq
  rw [List.length_append] at hlen
  have hsl:=us_length hs
  rw [he] at hsl
  have hbd : ∀ s ∈ us r, -1000000 ≤ s ∧ s ≤ 1000000:=by
    intro s hs
    rcases List.mem_append.1 (c5.mem_iff.1 hs) with h1|h1
    · exact L.sl s h1
    · rw [tr_us s h1]
      exact pp
  have small : Tiny f c d → cvErr (f.f0 + -d) (f.f1 + -d * p) r = 0:=by
    rintro ⟨t1, t2, t3, t4⟩
    have l1:=us_many c3.pos
    exact Cv_err (cv_made c3 (by omega) (fun s hs => by have:=hbd s hs; omega) (by omega) (by omega) (by omega))
  unfold madeQ
  by_cases e : cvErr (f.f0 + -d) (f.f1 + -d * p) r = 0
  · rw [if_pos e]
    obtain ⟨g1, g2⟩:=c6 e
    have hF : hiF (⟨f.f0 + -d, f.f1 + -d * p, r⟩ : Cx) = hiF f + c:=by
      show xs (f.f0 + -d) r r.length = _
      omega
    have fv' : ∀ k : Nat, F (f.f0 + -d) (f.f1 + -d * p) r k = val (⟨f.f0 + -d, f.f1 + -d * p, r⟩ : Cx) (f.f0 + -d + k):=fun k => rfl
    refine Or.inr ⟨⟨f.f0 + -d, f.f1 + -d * p, r⟩, rfl, cvErr_ok e, hbd, by show f.f0 + -d = _; omega, hF, fun k b b1 b2 b3 b4 => ?_, fun k k1 k2 => ?_⟩
    · have:=c2.le (b - f.f0).toNat (k - b + d).toNat (by omega) (by omega)
      rw [← g2 _ (by omega), fv', F_val f b1, tr_F hp _ (by omega)] at this
      rw [show f.f0 + -d + (((b - f.f0).toNat + (k - b + d).toNat : Nat) : Int) = k by omega, show ((k - b + d).toNat : Int) - d = k - b by omega] at this
      exact this
    · have k1' : f.f0 + -d ≤ k:=k1
      rw [hF] at k2
      obtain ⟨i, j, e1, e2, e3, e4⟩:=c2.some (k - (f.f0 + -d)).toNat (by omega)
      rw [← g2 _ (by omega), fv', tr_F hp _ (by omega)] at e4
      rw [show f.f0 + -d + ((k - (f.f0 + -d)).toNat : Int) = k by omega] at e4
      refine ⟨f.f0 + i, by omega, by omega, by omega, by omega, ?_⟩
      rw [e4, show k - (f.f0 + (i : Int)) = (j : Int) - d by omega]
      rfl
  · rw [if_neg e]
    exact Or.inl ⟨rfl, fun t => e (small t)⟩
theorem val_bd {f g : Cx} {c d cap p B : Int} (s : Stp f g c d cap p) (hp : Pr c d p) (hc : c ≤ 12) (hd : d ≤ 12) (hB : VB f B) : VB g (B + 12000000) := by
  intro k k1 k2
  obtain ⟨b, b1, b2, b3, b4, e⟩:=s.some k k1 k2
  have:=hB b b1 b2
  have m : -12000000 ≤ p * (k - b) ∧ p * (k - b) ≤ 12000000:=by
    have hpp:=hp.p
    rcases Int.le_total 0 (k - b) with q|q
    · have:=mulb (a:=k - b) (A:=12) (b:=p) (B:=1000000) q (by omega) hpp.1 hpp.2
      have e:=Int.mul_comm p (k - b)
      omega
    · have:=mulb (a:=b - k) (A:=12) (b:=p) (B:=1000000) (by omega) (by omega) hpp.1 hpp.2
      have e : p * (k - b) = -((b - k) * p):=by
        rw [Int.mul_comm, ← Int.neg_mul]
        congr 1
        omega
      omega
  omega
section
variable {c d cap bg en : Int} (hc : 0 ≤ c ∧ c ≤ 100000) (hd : 0 ≤ d ∧ d ≤ 100000) (hcap : 0 ≤ cap ∧ cap ≤ 100000) (l : List Int) (hl : l.length ≤ 25) (hx : ∀ n, n < l.length → -1000000 ≤ l.getD n 0 ∧ l.getD n 0 ≤ 1000000)
include hc hd hcap hl hx
theorem vstep (n : Nat) (hn : n < l.length) (out : List Cx) (ho : out.length = n + 1) (f : Cx) (ef : out.getD n zFn = f) (h : Lv f cap) :
    (∃ e, e ≠ 0 ∧ Evt (fun k => storage_values.l0 k out l (l.length : Int) (n : Int) c d cap bg en) ([], e) ∧ ¬ Tiny f c d) ∨
    (∃ g, Lv g cap ∧ Stp f g c d cap (l.getD n 0) ∧ (∀ r, Evt (fun k => storage_values.l0 k (out ++ [g]) l (l.length : Int) ((n + 1 : Nat) : Int) c d cap bg en) r → Evt (fun k => storage_values.l0 k out l (l.length : Int) (n : Int) c d cap bg en) r)):=by
  have hp : Pr c d (l.getD n 0):=⟨hc, hd, hx n hn⟩
  have Llo:=h.lo
  have Lhi:=h.hi
  have Lne:=h.ne
  have wl : wrap64 ((out.length : Int) - 1) = (n : Int):=by rw [wrap64_of (by omega) (by omega)]; omega
  obtain ⟨C, c1, c2⟩:=conv_step h hcap.2 hp
  have start : ∀ r, Evt (fun k => if C.2.2.2 = 0 then ((convexpl_Restrict.f k C.1 C.2.1 C.2.2.1 0 cap).bind fun b => (if b.2.2.2 = 0 then (if out.length < 3518437208883 then (storage_values.l0 k (out ++ [(⟨b.1, b.2.1, b.2.2.1⟩ : Cx)]) l (l.length : Int) (wrap64 ((n : Int) + 1)) c d cap bg en) else none) else some ([], b.2.2.2))) else some ([], C.2.2.2)) r → Evt (fun k => storage_values.l0 k out l (l.length : Int) (n : Int) c d cap bg en) r:=by
    intro r hr
    refine Evt.succ ?_
    simp only [storage_values.l0, wl, rdf, rdi, ef, trade_ev cap bg en hp, Option.bind_some]
    exact Evt.ite_pos (by omega) (Evt.ite_pos (by omega) (Evt.ite_pos (by omega) (Evt.ite_pos (by omega) (Evt.ite_pos (by omega) (Evt.bind c1 hr)))))
  rcases c2 with ⟨c2, c3⟩|⟨g, rfl, g1, gs, g2, g3, g4, g5⟩
  · exact Or.inl ⟨C.2.2.2, by omega, start _ (Evt.ite_neg (by omega) (Evt.pure _)), c3⟩
  · obtain ⟨R, r1, r2⟩:=restr_step g1 0 cap
    rcases r2 with ⟨r2, r3⟩|⟨q, rfl, q1, q2, q3, q4, q5, q6⟩
    · exfalso
      unfold mx mn at r3
      split at r3 <;> split at r3 <;> omega
    · refine Or.inr ⟨q, ⟨q1, ?_, ?_, q4, ?_⟩,⟨by rw [q2, g2], by rw [q3, g3], fun k b k1 k2 b1 b2 b3 b4 => ?_, fun k k1 k2 => ?_⟩, fun r hr => start r (Evt.ite_pos rfl (Evt.bind r1 (Evt.ite_pos rfl (Evt.ite_pos (by omega) ?_))))⟩
      · intro z hz
        obtain ⟨s, hs, e⟩:=List.mem_flatMap.1 hz
        rw [(List.mem_replicate.1 e).2]
        exact gs _ (q6 s hs)
      · rw [q2]; unfold mx; split <;> omega
      · rw [q3]; unfold mn; split <;> omega
      · rw [q5 k k1 k2]
        exact g4 k b b1 b2 b3 b4
      · rw [q5 k k1 k2]
        refine g5 k ?_ ?_
        · have : g.f0 ≤ q.f0:=by rw [q2]; unfold mx; split <;> omega
          omega
        · have : hiF q ≤ hiF g:=by rw [q3]; unfold mn; split <;> omega
          omega
      · rw [wrap64_nat (n:=n) (by omega)]
        exact hr
structure Vals (c d cap : Int) (l : List Int) (b : Int) (fs : List Cx) (n : Nat) : Prop where
  len : fs.length = n + 1
  lv : ∀ i, i ≤ n → Lv (fs.getD i zFn) cap
  at0 : fs.getD 0 zFn = ⟨b, 0, []⟩
  st : ∀ i, i < n → Stp (fs.getD i zFn) (fs.getD (i + 1) zFn) c d cap (l.getD i 0)
omit hl in
theorem Vals.vb {b : Int} {fs : List Cx} {n : Nat} (h : Vals c d cap l b fs n) (hn : n ≤ l.length) (h1 : c ≤ 12) (h2 : d ≤ 12) : ∀ i, i ≤ n → VB (fs.getD i zFn) (12000000 * (i : Int)) := by
  intro i
  induction i with
 |zero =>
    intro _ k k1 k2
    rw [h.at0]
    simp [val, fv]
 |succ i ih =>
    intro hi
    have:=val_bd (h.st i (by omega)) ⟨hc, hd, hx i (by omega)⟩ h1 h2 (ih (by omega))
    rwa [show (12000000 : Int) * ((i + 1 : Nat) : Int) = 12000000 * (i : Int) + 12000000 by omega]
theorem values_l0 (b : Int) : ∀ e n (out : List Cx), n + e = l.length → Vals c d cap l b out n →
    ∃ R : List Cx × Int, Evt (fun k => storage_values.l0 k out l (l.length : Int) (n : Int) c d cap bg en) R ∧ ((R.2 ≠ 0 ∧ R.1 = [] ∧ ¬ (c ≤ 12 ∧ d ≤ 12 ∧ cap ≤ 12)) ∨ (R.2 = 0 ∧ Vals c d cap l b R.1 l.length ∧ ∀ i, i ≤ n → R.1.getD i zFn = out.getD i zFn)):=by
  intro e
  induction e with
 |zero =>
    intro n out hn hv
    obtain rfl : n = l.length:=by omega
    refine ⟨(out, 0), Evt.succ ?_, Or.inr ⟨rfl, hv, fun i _ => rfl⟩⟩
    simp only [storage_values.l0]
    exact Evt.ite_neg (by omega) (Evt.pure _)
 |succ e ih =>
    intro n out hn hv
    have L:=hv.lv n (Nat.le_refl _)
    rcases vstep (bg:=bg) (en:=en) hc hd hcap l hl hx n (by omega) out hv.len _ rfl L with ⟨e, e1, e2, e3⟩|⟨g, g1, g2, g3⟩
    · refine ⟨([], e), e2, Or.inl ⟨e1, rfl, fun ⟨t1, t2, t3⟩ => e3 ⟨t1, t2, by have:=L.hi; omega, ?_⟩⟩⟩
      have:=hv.vb hc hd hcap l hx (by omega) t1 t2 n (Nat.le_refl _) _ (Int.le_refl _) L.ne
      rw [val_low L.cv] at this
      omega
    · have gl : ∀ i, i ≤ n → (out ++ [g]).getD i zFn = out.getD i zFn:=fun i hi => by
        rw [List.getD_eq_getElem?_getD, List.getElem?_append_left (by have:=hv.len; omega), ← List.getD_eq_getElem?_getD]
      have gr : (out ++ [g]).getD (n + 1) zFn = g:=by
        rw [List.getD_eq_getElem?_getD, List.getElem?_append_right (by have:=hv.len; omega)]
        simp [hv.len]
      obtain ⟨R, r1, r2⟩:=ih (n + 1) (out ++ [g]) (by omega) ⟨by simp [hv.len], fun i hi => by
          by_cases ei : i = n + 1
          · subst ei; rw [gr]; exact g1
          · rw [gl i (by omega)]; exact hv.lv i (by omega), by rw [gl 0 (by omega)]; exact hv.at0, fun i hi => by
          by_cases ei : i = n
          · subst ei
            rw [gl i (Nat.le_refl _), gr]
            exact g2
          · rw [gl i (by omega), gl (i + 1) (by omega)]
            exact hv.st i (by omega)⟩
      refine ⟨R, g3 R r1, ?_⟩
      rcases r2 with r2|⟨r2, r3, r4⟩
      · exact Or.inl r2
      · exact Or.inr ⟨r2, r3, fun i hi => by rw [r4 i (by omega), gl i hi]⟩
theorem values_ev (hb : 0 ≤ bg ∧ bg ≤ cap) : ∃ R : List Cx × Int, Evt (fun k => storage_values.f k c d cap bg en l) R ∧ ((R.2 ≠ 0 ∧ R.1 = [] ∧ ¬ (c ≤ 12 ∧ d ≤ 12 ∧ cap ≤ 12)) ∨ (R.2 = 0 ∧ Vals c d cap l bg R.1 l.length)) := by
  have hc0 : CvF (⟨bg, 0, []⟩ : Cx):=by
    refine ⟨by simp, fun n hn => ?_, fun n hn => ?_, fun n h1 h2 => ?_⟩
    · simp at hn
      subst hn
      unfold PreC okY
      simp [xs, ys]
      omega
    · simp at hn
    · simp at h2
  have e0 : hiF (⟨bg, 0, []⟩ : Cx) = bg:=by simp [hiF, xs]
  obtain ⟨R, r1, r2⟩:=values_l0 (bg:=bg) (en:=en) hc hd hcap l hl hx bg l.length 0 [⟨bg, 0, []⟩] (by omega) ⟨rfl, fun i hi => by
    obtain rfl : i = 0:=by omega
    exact ⟨hc0, fun z hz => by simp [us] at hz, hb.1, by rw [List.getD_cons_zero, e0]; exact Int.le_refl _, by rw [List.getD_cons_zero, e0]; exact hb.2⟩, rfl, fun i hi => by omega⟩
  refine ⟨R, r1, ?_⟩
  rcases r2 with r2|⟨r2, r3, _⟩
  · exact Or.inl r2
  · exact Or.inr ⟨r2, r3⟩
end
theorem moved_cv {a v : Int} {l : List Pc} (h : Cv a v l) (d : Int) (hd : ∀ n, n ≤ l.length → -1000000 ≤ xs a l n + d ∧ xs a l n + d ≤ 1000000) : Cv (a + d) (v + 0) l := by
  refine ⟨h.len, fun n hn => ?_, h.rng, h.srt⟩
  obtain ⟨p1, p2⟩:=h.pre n hn
  refine ⟨by rw [moved_xs]; exact hd n hn, ?_⟩
  rw [Int.add_zero]
  exact p2
structure BestC (f : Cx) (c d p L x : Int) : Prop where
  d1 : f.f0 ≤ L - x
  d2 : L - x ≤ hiF f
  r1 : -d ≤ x
  r2 : x ≤ c
  le : ∀ y, f.f0 ≤ L - y → L - y ≤ hiF f → -d ≤ y → y ≤ c → val f (L - x) + p * x ≤ val f (L - y) + p * y
  lt : ∀ y, f.f0 ≤ L - y → L - y ≤ hiF f → -d ≤ y → y < x → val f (L - x) + p * x < val f (L - y) + p * y
section
variable {c d cap bg en : Int} (hc : 0 ≤ c ∧ c ≤ 100000) (hd : 0 ≤ d ∧ d ≤ 100000) (hcap : 0 ≤ cap ∧ cap ≤ 100000)
include hc hd hcap
theorem back {f : Cx} (h : Lv f cap) {p L : Int} (hpp : -1000000 ≤ p ∧ p ≤ 1000000) (hL : 0 ≤ L ∧ L ≤ cap) (hin : ∃ b, f.f0 ≤ b ∧ b ≤ hiF f ∧ -d ≤ L - b ∧ L - b ≤ c) :
    ∃ (T M A : Int × Int × List Pc × Int), Evt (fun k => convexpl_Turn.f k f.f0 f.f1 f.f2) T ∧ T.2.2.2 = 0 ∧ Evt (fun k => convexpl_Move.f k T.1 T.2.1 T.2.2.1 L 0) M ∧ M.2.2.2 = 0 ∧
      Evt (fun k => convexpl_Add.f k M.1 M.2.1 M.2.2.1 (-d) (-d * p) (trl c d p)) A ∧
      ((A.2.2.2 ≠ 0 ∧ ¬ (c ≤ 12 ∧ d ≤ 12 ∧ cap ≤ 12 ∧ VB f 1000000000000)) ∨ (A.2.2.2 = 0 ∧ ∃ x, BestC f c d p L x ∧ ∃ v, Evt (fun k => convexpl_Least.f k A.1 A.2.1 A.2.2.1) (x, v, 0))):=by
  have hp : Pr c d p:=⟨hc, hd, hpp⟩
  have hcv:=h.cv
  have Llo:=h.lo
  have Lhi:=h.hi
  have Lne:=h.ne
  have hxs : ∀ n, n ≤ f.f2.length → f.f0 ≤ xs f.f0 f.f2 n ∧ xs f.f0 f.f2 n ≤ hiF f:=fun n hn => ⟨xs_mono hcv (i:=0) (j:=n) (by omega) hn, xs_mono hcv (i:=n) (j:=f.f2.length) hn (Nat.le_refl _)⟩
  obtain ⟨r, t1, t2, t3⟩:=Turn_ev hcv
  have tc:=turned_cv hcv t1 t2
  have tx:=turned_xs (a:=f.f0) (v:=f.f1) t1 t2
  have mx' : ∀ n, n ≤ r.length → -1000000 ≤ xs (-(hiF f)) r n + L ∧ xs (-(hiF f)) r n + L ≤ 1000000:=by
    intro n hn
    have e:=(tx n (by omega)).1
    have b:=hxs (f.f2.length - n) (by omega)
    unfold hiF at b Lhi Lne ⊢
    rw [e]
    omega
  have mc:=moved_cv tc L mx'
  have m1:=Move_ev tc L 0
  unfold moveR at m1
  rw [if_pos ⟨by omega, by unfold okY; omega⟩, if_pos (Cv_err mc)] at m1
  have hM : xs (-(xs f.f0 f.f2 f.f2.length) + L) r r.length = L - f.f0:=by
    rw [moved_xs, t1, (tx f.f2.length (Nat.le_refl _)).1, Nat.sub_self]
    simp only [xs]
    omega
  have vM : ∀ y, f.f0 ≤ L - y → L - y ≤ hiF f → fv (-(xs f.f0 f.f2 f.f2.length) + L) (ys f.f1 f.f2 f.f2.length + 0) r y r.length = val f (L - y):=by
    intro y y1 y2
    have e1:=turned_val hcv t1 t2 y1 y2
    have e2:=moved_fv (a:=-(xs f.f0 f.f2 f.f2.length)) (v:=ys f.f1 f.f2 f.f2.length) (l:=r) (-(L - y)) L 0 r.length
    rw [show -(L - y) + L = y by omega] at e2
    rw [e2, e1]
    unfold val
    omega
  have hhi : hiF f = xs f.f0 f.f2 f.f2.length:=rfl
  have A:=Add_ev mc (tr_cv hp) (lo:=mx (L - hiF f) (-d)) (hi:=mn (L - f.f0) c) (by rw [show -(xs f.f0 f.f2 f.f2.length) + L = L - hiF f by rw [hhi]; omega]) (by rw [hM, tr_end hp])
  have ne : ¬ mx (L - hiF f) (-d) > mn (L - f.f0) c:=by
    obtain ⟨b, b1, b2, b3, b4⟩:=hin
    unfold mx mn
    split <;> split <;> omega
  rw [if_neg ne] at A
  obtain ⟨s, a1, a2, a3, a4, a5⟩:=A
  refine ⟨_, _, _, t3, rfl, m1, rfl, a1, ?_⟩
  have lo1 : L - hiF f ≤ mx (L - hiF f) (-d) ∧ -d ≤ mx (L - hiF f) (-d):=by unfold mx; split <;> omega
  have hi1 : mn (L - f.f0) c ≤ L - f.f0 ∧ mn (L - f.f0) c ≤ c:=by unfold mn; split <;> omega
  unfold madeQ
  by_cases e : cvErr (mx (L - hiF f) (-d)) (fv (-(xs f.f0 f.f2 f.f2.length) + L) (ys f.f1 f.f2 f.f2.length + 0) r (mx (L - hiF f) (-d)) r.length + fv (-d) (-d * p) (trl c d p) (mx (L - hiF f) (-d)) (trl c d p).length) s = 0
  · rw [if_pos e]
    obtain ⟨g1, g2⟩:=a5 e
    refine Or.inr ⟨rfl, ?_⟩
    obtain ⟨A, hA⟩ : ∃ A : Cx, A = ⟨mx (L - hiF f) (-d), fv (-(xs f.f0 f.f2 f.f2.length) + L) (ys f.f1 f.f2 f.f2.length + 0) r (mx (L - hiF f) (-d)) r.length + fv (-d) (-d * p) (trl c d p) (mx (L - hiF f) (-d)) (trl c d p).length, s⟩:=⟨_, rfl⟩
    have Ac : CvF A:=by rw [hA]; exact cvErr_ok e
    have A0 : A.f0 = mx (L - hiF f) (-d):=by rw [hA]
    have Ah : hiF A = mn (L - f.f0) c:=by rw [hA]; exact g1
    have Av : ∀ y, A.f0 ≤ y → y ≤ hiF A → val A y = val f (L - y) + p * y:=by
      intro y y1 y2
      rw [A0] at y1
      rw [Ah] at y2
      have:=g2 (y - mx (L - hiF f) (-d)).toNat (mx (L - hiF f) (-d) - (L - hiF f)).toNat (mx (L - hiF f) (-d) - -d).toNat (by omega) (by rw [hhi] at lo1 ⊢; omega) (by omega)
      unfold F at this
      rw [show mx (L - hiF f) (-d) + ((y - mx (L - hiF f) (-d)).toNat : Int) = y by omega,
        show -(xs f.f0 f.f2 f.f2.length) + L + (((mx (L - hiF f) (-d) - (L - hiF f)).toNat + (y - mx (L - hiF f) (-d)).toNat : Nat) : Int) = y by rw [hhi] at lo1 y1 ⊢; omega,
        show (-d : Int) + (((mx (L - hiF f) (-d) - -d).toNat + (y - mx (L - hiF f) (-d)).toNat : Nat) : Int) = y by omega, vM y (by omega) (by omega), tr_val (x:=y) hp (by omega) (by omega)] at this
      rw [← this, hA]
      rfl
    obtain ⟨x, x1, x2⟩:=Least_ev Ac
    have d1:=x1.d1
    have d2:=x1.d2
    refine ⟨x, ⟨by omega, by omega, by omega, by omega, fun y y1 y2 y3 y4 => ?_, fun y y1 y2 y3 y4 => ?_⟩, _, by rw [hA] at x2; exact x2⟩
    · have i1 : A.f0 ≤ y:=by rw [A0]; unfold mx; split <;> omega
      have i2 : y ≤ hiF A:=by rw [Ah]; unfold mn; split <;> omega
      rw [← Av x d1 d2, ← Av y i1 i2]
      exact x1.le y i1 i2 i1 i2
    · have i1 : A.f0 ≤ y:=by rw [A0]; unfold mx; split <;> omega
      rw [← Av x d1 d2, ← Av y i1 (by omega)]
      exact x1.lt y i1 i1 y4
  · rw [if_neg e]
    refine Or.inl ⟨by simp, fun ⟨s1, s2, s3, s4⟩ => e (Cv_err ?_)⟩
    have l1:=us_many a2.pos
    obtain ⟨b, b1, b2, b3, b4⟩:=hin
    have q1 : f.f0 ≤ L - mx (L - hiF f) (-d):=by unfold mx; split <;> omega
    have q2:=s4 (L - mx (L - hiF f) (-d)) q1 (by omega)
    have lc : mx (L - hiF f) (-d) ≤ c:=by unfold mx; split <;> omega
    rw [vM _ q1 (by omega), tr_val hp (by omega) lc]
    have q3 : -12000000 ≤ p * mx (L - hiF f) (-d) ∧ p * mx (L - hiF f) (-d) ≤ 12000000:=by
      have e1:=Int.mul_comm p (mx (L - hiF f) (-d))
      rcases Int.le_total 0 (mx (L - hiF f) (-d)) with q|q
      · have:=mulb (a:=mx (L - hiF f) (-d)) (A:=12) (b:=p) (B:=1000000) q (by omega) hpp.1 hpp.2
        omega
      · have:=mulb (a:=-mx (L - hiF f) (-d)) (A:=12) (b:=p) (B:=1000000) (by omega) (by omega) hpp.1 hpp.2
        rw [Int.neg_mul] at this
        omega
    refine cv_made a2 (by omega) (fun z hz => ?_) (by omega) (by omega) (by omega)
    obtain ⟨x, x1, y, y1, rfl⟩:=a4 z hz
    have ry : y.f1 = p:=by
      unfold trl at y1
      split at y1
      · simp at y1
        rw [y1]
      · cases y1
    have rx : -1000000 ≤ x.f1 ∧ x.f1 ≤ 1000000:=by
      obtain ⟨m, hm, em⟩:=List.getElem_of_mem x1
      have:=(t2 m (by omega)).2
      rw [getD_lnsl r m hm] at em
      have hs:=h.sl _ (sl_us (fun m hm => (hcv.rng m hm).1) (f.f2.length - 1 - m) (by omega))
      rw [← em]
      show -1000000 ≤ sl r m ∧ sl r m ≤ 1000000
      omega
    omega
end
theorem getD_set (o : List Int) (i j : Nat) (v : Int) : (o.set i v).getD j 0 = if j = i ∧ i < o.length then v else o.getD j 0 := by
  rw [List.getD_eq_getElem?_getD, List.getElem?_set]
  by_cases e : i = j
  · subst e
    by_cases q : i < o.length
    · simp [q]
    · simp [q]
  · have : ¬ (j = i):=fun h => e h.symm
    simp [e, this, List.getD_eq_getElem?_getD]
def Ch (fs : List Cx) (c d : Int) (l : List Int) (o : List Int) : Nat → Int → Prop
 |0, _ => True
 |i + 1, L => BestC (fs.getD i zFn) c d (l.getD i 0) L (o.getD i 0) ∧ Ch fs c d l o i (L - o.getD i 0)
structure Args (c d cap bg en : Int) : Prop where
  hc : 0 ≤ c ∧ c ≤ 100000
  hd : 0 ≤ d ∧ d ≤ 100000
  hcap : 0 ≤ cap ∧ cap ≤ 100000
  hbg : 0 ≤ bg ∧ bg ≤ cap
  hen : 0 ≤ en ∧ en ≤ cap
def okPr (p : Int) : Prop := -1000000 ≤ p ∧ p ≤ 1000000
theorem Check_ev (c d cap bg en : Int) : ∃ e, storage_Check.f c d cap bg en = some e ∧ (e = 0 ∨ e = 4) ∧ (e = 0 ↔ Args c d cap bg en) := by
  by_cases h : Args c d cap bg en
  · obtain ⟨⟨h1, h2⟩,⟨h3, h4⟩,⟨h5, h6⟩,⟨h7, h8⟩, h9, h10⟩:=id h
    refine ⟨0, ?_, Or.inl rfl, fun _ => h, fun _ => rfl⟩
    unfold storage_Check.f
    rw [if_neg (by omega), if_neg (by omega), if_neg (by omega), if_neg (by omega), if_neg (by omega), if_neg (by omega), if_neg (by omega), if_neg (by omega), if_neg (by omega), if_neg (by omega)]
  · refine ⟨4, ?_, Or.inr rfl, fun e => by omega, fun q => absurd q h⟩
    unfold storage_Check.f
    repeat' split
    all_goals first|rfl|(exfalso; exact h ⟨by omega, by omega, by omega, by omega, by omega⟩)
theorem prices_l0 (l : List Int) (hl : l.length ≤ 24) : ∀ n, n ≤ l.length → (∀ m, m < n → okPr (l.getD m 0)) → ∃ e, Evt (fun k => storage_checkPrices.l0 k l (l.length : Int) (n : Int)) e ∧ (e = 0 ∨ e = 4) ∧ (e = 0 ↔ ∀ m, m < l.length → okPr (l.getD m 0)) := by
  refine down ?_ ?_
  · intro h
    refine ⟨0, Evt.succ ?_, Or.inl rfl, fun _ => h, fun _ => rfl⟩
    simp only [storage_checkPrices.l0]
    exact Evt.ite_neg (by omega) (Evt.pure _)
  · intro n hn ih h
    by_cases c : okPr (l.getD n 0)
    · obtain ⟨e, e1, e2⟩:=ih (fun m hm => by
        by_cases q : m = n
        · subst q; exact c
        · exact h m (by omega))
      refine ⟨e, Evt.succ ?_, e2⟩
      unfold okPr at c
      simp only [storage_checkPrices.l0, rdi, wn n (by omega)]
      exact Evt.ite_pos (by omega) (Evt.ite_pos (by omega) (Evt.ite_pos (by omega) (Evt.ite_neg (by omega) (Evt.ite_neg (by omega) e1))))
    · refine ⟨4, Evt.succ ?_, Or.inr rfl, fun e => by omega, fun q => absurd (q n hn) c⟩
      unfold okPr at c
      simp only [storage_checkPrices.l0, rdi]
      refine Evt.ite_pos (by omega) (Evt.ite_pos (by omega) (Evt.ite_pos (by omega) (Evt.ite (fun _ => Evt.pure _) fun _ => Evt.ite_pos ?_ (Evt.pure _))))
      omega
theorem prices_ev (l : List Int) : ∃ e, Evt (fun k => storage_checkPrices.f k l) e ∧ ((e = 2 ∧ 24 < l.length) ∨ (l.length ≤ 24 ∧ (e = 0 ∨ e = 4) ∧ (e = 0 ↔ ∀ m, m < l.length → okPr (l.getD m 0)))) := by
  simp only [storage_checkPrices.f]
  by_cases c : (l.length : Int) > 24
  · exact ⟨2, Evt.ite_pos c (Evt.pure _), Or.inl ⟨rfl, by omega⟩⟩
  · obtain ⟨e, e1, e2⟩:=prices_l0 l (by omega) 0 (by omega) (fun m hm => by omega)
    exact ⟨e, Evt.ite_neg c e1, Or.inr ⟨by omega, e2⟩⟩
structure EndC (f : Cx) (en k : Int) : Prop where
  d1 : f.f0 ≤ k
  d2 : k ≤ hiF f
  r1 : en ≤ k
  le : ∀ j, f.f0 ≤ j → j ≤ hiF f → en ≤ j → val f k ≤ val f j
  lt : ∀ j, f.f0 ≤ j → en ≤ j → j < k → val f k < val f j
section
variable {c d cap bg en : Int} (hA : Args c d cap bg en) (l : List Int) (hl : l.length ≤ 24) (hx : ∀ n, n < l.length → okPr (l.getD n 0)) (fs : List Cx) (hv : Vals c d cap l bg fs l.length)
include hA hl hx hv
theorem Best_l0 (cost : Int) : ∀ i, i ≤ l.length → ∀ (out : List Int) (L : Int), out.length = l.length → (fs.getD i zFn).f0 ≤ L → L ≤ hiF (fs.getD i zFn) →
    ∃ R : List Int × Int × Int, Evt (fun k => storage_Best.l0 k l fs L cost out ((i : Int) - 1) c d cap bg en) R ∧ ((R.2.2 ≠ 0 ∧ R.1 = [] ∧ R.2.1 = 0 ∧ ¬ (c ≤ 12 ∧ d ≤ 12 ∧ cap ≤ 12)) ∨
      (R.2.2 = 0 ∧ R.2.1 = cost ∧ R.1.length = l.length ∧ Ch fs c d l R.1 i L ∧ ∀ j, i ≤ j → R.1.getD j 0 = out.getD j 0)):=by
  intro i
  induction i with
 |zero =>
    intro _ out L ho _ _
    refine ⟨(out, cost, 0), Evt.succ ?_, Or.inr ⟨rfl, rfl, ho, trivial, fun j _ => rfl⟩⟩
    simp only [storage_Best.l0]
    exact Evt.ite_neg (by omega) (Evt.pure _)
 |succ i ih =>
    intro hi out L ho h1 h2
    have Lf:=hv.lv i (by omega)
    have Lg:=hv.lv (i + 1) hi
    have lo0:=Lg.lo
    have hi0:=Lg.hi
    have capb:=hA.hcap
    have cb:=hA.hc
    have db:=hA.hd
    have lfl:=hv.len
    obtain ⟨b, b1, b2, b3, b4, _⟩:=(hv.st i (by omega)).some L h1 h2
    have wi : wrap64 (((i + 1 : Nat) : Int) - 1 - 1) = (i : Int) - 1:=by rw [wrap64_of (by omega) (by omega)]; omega
    have ei : ((i + 1 : Nat) : Int) - 1 = (i : Int):=by omega
    have hp : Pr c d (l.getD i 0):=⟨hA.hc, hA.hd, hx i (by omega)⟩
    obtain ⟨T, M, A, t1, t2, m1, m2, a1, a2⟩:=back hA.hc hA.hd hA.hcap Lf (hx i (by omega)) (L:=L) ⟨by omega, by omega⟩ ⟨b, b1, b2, b3, b4⟩
    have start : ∀ r, Evt (fun k => if A.2.2.2 = 0 then ((convexpl_Least.f k A.1 A.2.1 A.2.2.1).bind fun b => (if (i : Int) < (out.length : Int) then (storage_Best.l0 k l fs (wrap64 (L - b.1)) cost (out.set i b.1) ((i : Int) - 1) c d cap bg en) else none)) else some ([], 0, A.2.2.2)) r → Evt (fun k => storage_Best.l0 k l fs L cost out (((i + 1 : Nat) : Int) - 1) c d cap bg en) r:=by
      intro r hr
      refine Evt.succ ?_
      rw [ei] at wi ⊢
      simp only [storage_Best.l0, rdf, rdi, wi, trade_ev cap bg en hp, Option.bind_some, Int.toNat_natCast]
      exact Evt.ite_pos (by omega) (Evt.ite_pos (by omega) (Evt.ite_pos (by omega) (Evt.bind t1 (Evt.ite_pos t2 (Evt.bind m1 (Evt.ite_pos m2 (Evt.ite_pos (by omega) (Evt.bind a1 hr))))))))
    rcases a2 with ⟨a2, a3⟩|⟨a2, x, x1, v, x2⟩
    · refine ⟨([], 0, A.2.2.2), start _ (Evt.ite_neg a2 (Evt.pure _)), Or.inl ⟨a2, rfl, rfl, fun ⟨s1, s2, s3⟩ => a3 ⟨s1, s2, s3, fun k k1 k2 => ?_⟩⟩⟩
      have:=hv.vb hA.hc hA.hd hA.hcap l hx (Nat.le_refl _) s1 s2 i (by omega) k k1 k2
      omega
    · have q1:=x1.d1
      have q2:=x1.d2
      have q3:=x1.r1
      have q4:=x1.r2
      obtain ⟨R, r1, r2⟩:=ih (by omega) (out.set i x) (L - x) (by rw [List.length_set]; exact ho) q1 q2
      refine ⟨R, start R (Evt.ite_pos a2 (Evt.bind x2 (Evt.ite_pos (by omega) ?_))), ?_⟩
      · rw [wrap64_of (x:=L - x) (by omega) (by omega)]
        exact r1
      · rcases r2 with r2|⟨r2, r3, r4, r5, r6⟩
        · exact Or.inl r2
        · have hxi : R.1.getD i 0 = x:=by rw [r6 i (Nat.le_refl _), getD_set, if_pos ⟨rfl, by omega⟩]
          refine Or.inr ⟨r2, r3, r4, ⟨by rw [hxi]; exact x1, by rw [hxi]; exact r5⟩, fun j hj => ?_⟩
          rw [r6 j (by omega), getD_set, if_neg (by omega)]
theorem Best_end : ∃ R : List Int × Int × Int, Evt (fun k => (convexpl_Restrict.f k (fs.getD l.length zFn).f0 (fs.getD l.length zFn).f1 (fs.getD l.length zFn).f2 en cap).bind fun b => (if b.2.2.2 = 0 then ((convexpl_Least.f k b.1 b.2.1 b.2.2.1).bind fun b' => (storage_Best.l0 k l fs b'.1 b'.2.1 (List.replicate l.length 0) ((l.length : Int) - 1) c d cap bg en)) else some ([], 0, b.2.2.2))) R ∧
    ((R.2.2 ≠ 0 ∧ R.1 = [] ∧ R.2.1 = 0 ∧ (c ≤ 12 ∧ d ≤ 12 ∧ cap ≤ 12 → R.2.2 = 8 ∧ hiF (fs.getD l.length zFn) < en)) ∨
      (R.2.2 = 0 ∧ R.1.length = l.length ∧ ∃ k, EndC (fs.getD l.length zFn) en k ∧ R.2.1 = val (fs.getD l.length zFn) k ∧ Ch fs c d l R.1 l.length k)):=by
  have L:=hv.lv l.length (Nat.le_refl _)
  have lo0:=L.lo
  have hi0:=L.hi
  have ne0:=L.ne
  have enb:=hA.hen
  obtain ⟨R, r1, r2⟩:=restr_step L.cv en cap
  rcases r2 with ⟨r2, r3⟩|⟨q, rfl, q1, q2, q3, q4, q5, q6⟩
  · refine ⟨([], 0, R.2.2.2), Evt.bind r1 (Evt.ite_neg (by omega) (Evt.pure _)), Or.inl ⟨by show R.2.2.2 ≠ 0; omega, rfl, rfl, fun _ => ⟨r2, ?_⟩⟩⟩
    unfold mx mn at r3
    split at r3 <;> split at r3 <;> omega
  · obtain ⟨k, k1, k2⟩:=Least_ev q1
    have m1 : en ≤ q.f0 ∧ (fs.getD l.length zFn).f0 ≤ q.f0:=by rw [q2]; unfold mx; split <;> omega
    have m2 : hiF q = hiF (fs.getD l.length zFn):=by rw [q3]; unfold mn; split <;> omega
    have d1:=k1.d1
    have d2:=k1.d2
    have E : EndC (fs.getD l.length zFn) en k:=by
      refine ⟨by omega, by omega, by omega, fun j j1 j2 j3 => ?_, fun j j1 j2 j3 => ?_⟩
      · have i1 : q.f0 ≤ j:=by rw [q2]; unfold mx; split <;> omega
        rw [← q5 k d1 d2, ← q5 j i1 (by omega)]
        exact k1.le j i1 (by omega) i1 (by omega)
      · have i1 : q.f0 ≤ j:=by rw [q2]; unfold mx; split <;> omega
        rw [← q5 k d1 d2, ← q5 j i1 (by omega)]
        exact k1.lt j i1 i1 j3
    obtain ⟨B, b1, b2⟩:=Best_l0 hA l hl hx fs hv (val q k) l.length (Nat.le_refl _) (List.replicate l.length 0) k (by simp) E.d1 E.d2
    refine ⟨B, Evt.bind r1 (Evt.ite_pos rfl (Evt.bind k2 b1)), ?_⟩
    rcases b2 with ⟨b2, b3, b4, b5⟩|⟨b2, b3, b4, b5, _⟩
    · exact Or.inl ⟨b2, b3, b4, fun h => absurd h b5⟩
    · exact Or.inr ⟨b2, b4, k, E, by rw [b3, q5 k d1 d2], b5⟩
end
theorem Best_ev (c d cap bg en : Int) (l : List Int) : ∃ (e1 e2 : Int) (R : List Int × Int × Int), storage_Check.f c d cap bg en = some e1 ∧ Evt (fun k => storage_checkPrices.f k l) e2 ∧ Evt (fun k => storage_Best.f k c d cap bg en l) R ∧
    ((e1 ≠ 0 ∧ ¬ Args c d cap bg en ∧ R = ([], 0, e1)) ∨ (e1 = 0 ∧ Args c d cap bg en ∧
      ((e2 ≠ 0 ∧ ¬ (l.length ≤ 24 ∧ ∀ m, m < l.length → okPr (l.getD m 0)) ∧ R = ([], 0, e2)) ∨ (e2 = 0 ∧ l.length ≤ 24 ∧ (∀ m, m < l.length → okPr (l.getD m 0)) ∧ ∃ V : List Cx × Int, Evt (fun k => storage_values.f k c d cap bg en l) V ∧
        ((V.2 ≠ 0 ∧ V.1 = [] ∧ ¬ (c ≤ 12 ∧ d ≤ 12 ∧ cap ≤ 12) ∧ R = ([], 0, V.2)) ∨ (V.2 = 0 ∧ Vals c d cap l bg V.1 l.length ∧
          ((R.2.2 ≠ 0 ∧ R.1 = [] ∧ R.2.1 = 0 ∧ (c ≤ 12 ∧ d ≤ 12 ∧ cap ≤ 12 → R.2.2 = 8 ∧ hiF (V.1.getD l.length zFn) < en)) ∨
          (R.2.2 = 0 ∧ R.1.length = l.length ∧ ∃ k, EndC (V.1.getD l.length zFn) en k ∧ R.2.1 = val (V.1.getD l.length zFn) k ∧ Ch V.1 c d l R.1 l.length k)))))))):=by
  obtain ⟨e1, c1, c2, c3⟩:=Check_ev c d cap bg en
  obtain ⟨e2, p1, p2⟩:=prices_ev l
  by_cases z : e1 = 0
  · have hA:=c3.1 z
    by_cases z2 : e2 = 0
    · have hl : l.length ≤ 24:=by
        rcases p2 with ⟨q, _⟩|⟨q, _⟩ <;> omega
      have hx : ∀ m, m < l.length → okPr (l.getD m 0):=by
        rcases p2 with ⟨q, _⟩|⟨_, _, q⟩
        · omega
        · exact q.1 z2
      obtain ⟨V, v1, v2⟩:=values_ev (bg:=bg) (en:=en) hA.hc hA.hd hA.hcap l (by omega) hx hA.hbg
      rcases v2 with ⟨v2, v3, v4⟩|⟨v2, v3⟩
      · refine ⟨e1, e2, ([], 0, V.2), c1, p1, ?_, Or.inr ⟨z, hA, Or.inr ⟨z2, hl, hx, V, v1, Or.inl ⟨v2, v3, v4, rfl⟩⟩⟩⟩
        simp only [storage_Best.f]
        exact Evt.bindo c1 (Evt.ite_pos z (Evt.bind p1 (Evt.ite_pos z2 (Evt.bind v1 (Evt.ite_neg v2 (Evt.pure _))))))
      · obtain ⟨R, r1, r2⟩:=Best_end hA l hl hx V.1 v3
        refine ⟨e1, e2, R, c1, p1, ?_, Or.inr ⟨z, hA, Or.inr ⟨z2, hl, hx, V, v1, Or.inr ⟨v2, v3, r2⟩⟩⟩⟩
        have lv:=v3.len
        have wl : wrap64 ((V.1.length : Int) - 1) = (l.length : Int):=by rw [wrap64_of (by omega) (by omega)]; omega
        have wl2 : wrap64 ((l.length : Int) - 1) = (l.length : Int) - 1:=by rw [wrap64_of (by omega) (by omega)]
        simp only [storage_Best.f, wl, wl2, rdf, Int.toNat_natCast]
        refine Evt.bindo c1 (Evt.ite_pos z (Evt.bind p1 (Evt.ite_pos z2 (Evt.bind v1 (Evt.ite_pos v2 (Evt.ite_pos (by omega) (Evt.ite_pos (by omega) ?_)))))))
        have : ∀ {A B : Prop} [Decidable A] [Decidable B] {x : Option (List Int × Int × Int)}, A → B → (if A then (if B then x else none) else none) = x:=by
          intro A B _ _ x a b
          rw [if_pos a, if_pos b]
        simp only [this (show 0 ≤ (l.length : Int) by omega) (show l.length ≤ 35184372088832 by omega), wl, rdf]
        exact r1
    · refine ⟨e1, e2, ([], 0, e2), c1, p1, ?_, Or.inr ⟨z, hA, Or.inl ⟨z2, ?_, rfl⟩⟩⟩
      · simp only [storage_Best.f]
        exact Evt.bindo c1 (Evt.ite_pos z (Evt.bind p1 (Evt.ite_neg z2 (Evt.pure _))))
      · rintro ⟨q1, q2⟩
        rcases p2 with ⟨_, q⟩|⟨_, _, q⟩
        · omega
        · exact z2 (q.2 q2)
  · refine ⟨e1, e2, ([], 0, e1), c1, p1, ?_, Or.inl ⟨z, fun h => z (c3.2 h), rfl⟩⟩
    simp only [storage_Best.f]
    exact Evt.bindo c1 (Evt.ite_neg z (Evt.pure _))
theorem best_up (c d cap bg en : Int) (l : List Int) (r : List Int × Int × Int) (K : Nat) (h : storage_Best.f K c d cap bg en l = some r) : Evt (fun k => storage_Best.f k c d cap bg en l) r := by
  refine ⟨K, fun k hk => ?_⟩
  obtain ⟨e, rfl⟩ : ∃ e, k = K + e:=⟨k - K, by omega⟩
  clear hk
  induction e with
 |zero => exact h
 |succ e ih => exact storage_Best.mono c d cap bg en l (K + e) r ih
theorem open_k : storage_Best.f 60 10 10 10 0 0 [2, 5] = some ([10, -10], -30, 0) := by decide +kernel
end Go.Proofs.Ytdphghdjljplpaa.GTopStorage
