import Derived.Test.YtdgjelbkogfedaaERampNearest
namespace Go.Proofs.Ytdgjelbkogfedaa.GRampNearest
open Go.RowKit Go.Proofs.YtdgjelbkogfedaaW.PrintWords Go.Proofs.YtdgjelbkogfedaaW.PrintMore Go.Proofs.Ytdgjelbkogfedaa.Evs Go.Proofs.Ytdgjelbkogfedaa.PRampNearest Go.Proofs.Ytdgjelbkogfedaa.CRampNearest Go.Proofs.Ytdgjelbkogfedaa.ZRampNearest Go.Proofs.Ytdgjelbkogfedaa.XRampNearest Go.Proofs.Ytdgjelbkogfedaa.ERampNearest
set_option linter.unusedVariables false
set_option linter.unusedSectionVars false
set_option linter.unusedSimpArgs false
theorem xs_pos {r : List Pc} (a : Int) (pos : ∀ m, m < r.length → 1 ≤ ln r m) : ∀ n : Nat, n ≤ r.length → a + n ≤ xs a r n := by
  intro n
  induction n with
 |zero => intro _; simp [xs]
 |succ n ih =>
    intro hn
    have:=ih (by omega)
    have:=pos n (by omega)
    simp only [xs]
    omega
theorem us_xs {r : List Pc} (a : Int) (pos : ∀ m, m < r.length → 1 ≤ ln r m) (n : Nat) (hn : n ≤ r.length) : xs a r n ≤ a + ((us r).length : Int) := by
  have h1:=us_len (a:=a) (fun m hm => by have:=pos m hm; omega) n hn
  have e : us r = us (r.take n) ++ us (r.drop n):=by rw [← us_app, List.take_append_drop]
  rw [e, List.length_append]
  omega
theorem us_many {r : List Pc} (pos : ∀ m, m < r.length → 1 ≤ ln r m) : r.length ≤ (us r).length := by
  have h1:=xs_pos 0 pos r.length (Nat.le_refl _)
  have h2:=us_xs 0 pos r.length (Nat.le_refl _)
  omega
theorem sl_us {r : List Pc} (pos : ∀ m, m < r.length → 1 ≤ ln r m) (m : Nat) (hm : m < r.length) : sl r m ∈ us r := by
  have:=pos m hm
  refine List.mem_flatMap.2 ⟨r[m], List.getElem_mem hm, ?_⟩
  rw [getD_lnsl r m hm]
  exact List.mem_replicate.2 ⟨by show (ln r m).toNat ≠ 0; omega, rfl⟩
theorem cv_made {a v : Int} {r : List Pc} (g : PGood r) (len : r.length ≤ 64) (hs : ∀ s ∈ us r, -1000 ≤ s ∧ s ≤ 1000) (ha : -1000000 ≤ a) (hN : a + ((us r).length : Int) ≤ 1000000) (hv : -1000000000 ≤ v ∧ v ≤ 1000000000) : Cv a v r := by
  have hsl : ∀ m, m < r.length → -1000 ≤ sl r m ∧ sl r m ≤ 1000:=fun m hm => hs _ (sl_us g.pos m hm)
  have hy : ∀ n, n ≤ r.length → v - 1000 * (xs a r n - a) ≤ ys v r n ∧ ys v r n ≤ v + 1000 * (xs a r n - a):=by
    intro n
    induction n with
   |zero => intro _; simp [xs, ys]
   |succ n ih =>
      intro hn
      have i1:=ih (by omega)
      have i2:=g.pos n (by omega)
      have i3:=mulb (a:=ln r n) (A:=ln r n) (B:=1000) (by omega) (Int.le_refl _) (hsl n (by omega)).1 (hsl n (by omega)).2
      simp only [xs, ys]
      omega
  refine ⟨len, fun n hn => ?_, fun n hn => ?_, g.inc⟩
  · have h1:=xs_pos a g.pos n hn
    have h2:=us_xs a g.pos n hn
    have h3:=hy n hn
    refine ⟨by omega, ?_⟩
    unfold okY
    omega
  · have h1:=ln_us (fun m hm => by have:=g.pos m hm; omega) n hn
    have h2:=g.pos n hn
    have h3:=hsl n hn
    unfold okP
    omega
theorem us_bd {a v : Int} {l : List Pc} (h : Cv a v l) {B : Int} (hb : ∀ i : Nat, i ≤ (us l).length → 0 ≤ F a v l i ∧ F a v l i ≤ B) : ∀ s ∈ us l, -B ≤ s ∧ s ≤ B := by
  intro s hs
  obtain ⟨i, hi, e⟩:=List.getElem_of_mem hs
  have h1:=hb i (by omega)
  have h2:=hb (i + 1) (by omega)
  rw [F_us h i (by omega)] at h1
  rw [F_us h (i + 1) (by omega), sm_snoc _ _ hi, e] at h2
  omega
def hiF (f : S82) : Int := xs f.f0 f.f2 f.f2.length
def val (f : S82) (k : Int) : Int := fv f.f0 f.f1 f.f2 k f.f2.length
abbrev CvF (f : S82) : Prop := Cv f.f0 f.f1 f.f2
structure Sm (f : S82) (B : Int) : Prop where
  lo : 0 ≤ f.f0
  hi : hiF f ≤ 40
  val : ∀ k, f.f0 ≤ k → k ≤ hiF f → 0 ≤ val f k ∧ val f k ≤ B
def dist (k t : Int) : Int := mx (k - t) (t - k)
def spl (u d : Int) : List Pc := if u > -d then [(⟨u - -d, 0⟩ : Pc)] else []
theorem steps_ev {u d : Int} (hu : 0 ≤ u ∧ u ≤ 100000) (hd : 0 ≤ d ∧ d ≤ 100000) : ramp_steps.f (wrap64 (-d)) u = some (-d, 0, spl u d) := by
  rw [wrap64_of (x:=-d) (by omega) (by omega)]
  unfold ramp_steps.f spl
  rw [wrap64_of (x:=u - -d) (by omega) (by omega)]
  split <;> rfl
theorem spl_cv {u d : Int} (hu : 0 ≤ u ∧ u ≤ 100000) (hd : 0 ≤ d ∧ d ≤ 100000) : Cv (-d) 0 (spl u d) := by
  unfold spl
  split
  · refine ⟨by simp, fun n hn => ?_, fun n hn => ?_, fun n h1 h2 => ?_⟩
    · simp at hn
      unfold PreC okY
      have : n = 0 ∨ n = 1:=by omega
      rcases this with rfl|rfl <;> simp [xs, ys, ln, sl] <;> omega
    · simp at hn
      subst hn
      unfold okP
      simp [ln, sl]
      omega
    · simp at h2
      omega
  · refine ⟨by simp, fun n hn => ?_, fun n hn => ?_, fun n h1 h2 => ?_⟩
    · simp at hn
      subst hn
      unfold PreC okY
      simp [xs, ys]
      omega
    · simp at hn
    · simp at h2
theorem spl_us {u d : Int} : ∀ s ∈ us (spl u d), s = 0 := by
  intro s hs
  unfold spl at hs
  split at hs
  · rw [us_cons, us_nil, List.append_nil] at hs
    exact (List.mem_replicate.1 hs).2
  · rw [us_nil] at hs
    cases hs
theorem spl_end {u d : Int} (hu : 0 ≤ u ∧ u ≤ 100000) (hd : 0 ≤ d ∧ d ≤ 100000) : xs (-d) (spl u d) (spl u d).length = u := by
  unfold spl
  split
  · simp [xs, ln]
    omega
  · simp [xs]
    omega
theorem sm_zero_all {l : List Int} (h : ∀ s ∈ l, s = 0) (k : Nat) : sm l k = 0 := by
  unfold sm
  induction l generalizing k with
 |nil => simp
 |cons x l ih =>
    cases k with
   |zero => simp
   |succ k =>
      rw [List.take_succ_cons, List.sum_cons, ih (fun s hs => h s (by simp [hs])), h x (by simp)]
      rfl
theorem spl_F {u d : Int} (hu : 0 ≤ u ∧ u ≤ 100000) (hd : 0 ≤ d ∧ d ≤ 100000) (j : Nat) (hj : (j : Int) ≤ u + d) : F (-d) 0 (spl u d) j = 0 := by
  have h:=us_length (spl_cv hu hd)
  rw [spl_end hu hd] at h
  rw [F_us (spl_cv hu hd) j (by omega), sm_zero_all spl_us]
  rfl
theorem F_val (f : S82) {k : Int} (h : f.f0 ≤ k) : F f.f0 f.f1 f.f2 (k - f.f0).toNat = val f k := by
  unfold F val
  rw [show f.f0 + ((k - f.f0).toNat : Int) = k by omega]
theorem hi_us {f : S82} (h : CvF f) : hiF f = f.f0 + ((us f.f2).length : Int) := by
  have:=us_length h
  unfold hiF
  omega
theorem Sm.us {f : S82} (h : CvF f) {B : Int} (s : Sm f B) : ∀ z ∈ us f.f2, -B ≤ z ∧ z ≤ B := by
  have hh:=hi_us h
  refine us_bd h (fun i hi => ?_)
  have:=s.val (f.f0 + i) (by omega) (by omega)
  exact this
theorem conv_step {f : S82} (h : CvF f) {u d : Int} (hu : 0 ≤ u ∧ u ≤ 100000) (hd : 0 ≤ d ∧ d ≤ 100000) :
    ∃ C : Int × Int × List Pc × Int, Evt (fun k => convexpl_Convolve.f k f.f0 f.f1 f.f2 (-d) 0 (spl u d)) C ∧
      ((C.2.2.2 = 2 ∧ ∀ B, Sm f B → B ≤ 960 → False) ∨ ∃ g : S82, C = (g.f0, g.f1, g.f2, 0) ∧ CvF g ∧ g.f0 = f.f0 - d ∧ hiF g = hiF f + u ∧
        (∀ B, Sm f B → B ≤ 960 → ∀ s ∈ us g.f2, -B ≤ s ∧ s ≤ B) ∧
        (∀ k b, f.f0 ≤ b → b ≤ hiF f → -d ≤ k - b → k - b ≤ u → val g k ≤ val f b) ∧
        (∀ k, g.f0 ≤ k → k ≤ hiF g → ∃ b, f.f0 ≤ b ∧ b ≤ hiF f ∧ -d ≤ k - b ∧ k - b ≤ u ∧ val g k = val f b)):=by
  have hh:=hi_us h
  have hs:=spl_cv hu hd
  have he:=spl_end hu hd
  obtain ⟨r, W, c1, c2, c3, c4, c5, c6⟩:=Convolve_ev h hs (N:=(us f.f2).length) (N':=(u + d).toNat) hh (by rw [he]; omega)
  refine ⟨_, c1, ?_⟩
  have hlen:=c5.length_eq
  rw [List.length_append] at hlen
  have hsl:=us_length hs
  rw [he] at hsl
  have hbd : ∀ B, Sm f B → ∀ s ∈ us r, -B ≤ s ∧ s ≤ B:=by
    intro B hB s hs
    have h0:=hB.val f.f0 (Int.le_refl _) (by omega)
    rcases List.mem_append.1 (c5.mem_iff.1 hs) with h1|h1
    · exact hB.us h s h1
    · rw [spl_us s h1]
      omega
  have small : ∀ B, Sm f B → B ≤ 960 → cvErr (f.f0 + -d) (f.f1 + 0) r = 0:=by
    intro B hB hB2
    have h0:=hB.val f.f0 (Int.le_refl _) (by omega)
    have e0 : val f f.f0 = f.f1:=by
      have:=F_zero h
      unfold F at this
      unfold val
      rwa [show f.f0 + ((0 : Nat) : Int) = f.f0 by omega] at this
    have l1:=us_many (fun m hm => (h.rng m hm).1)
    have l2 : (spl u d).length ≤ 1:=by unfold spl; split <;> simp
    have:=hB.lo
    have:=hB.hi
    exact Cv_err (cv_made c3 (by omega) (fun s hs => by have:=hbd B hB s hs; omega) (by omega) (by omega) (by omega))
  unfold madeQ
  by_cases e : cvErr (f.f0 + -d) (f.f1 + 0) r = 0
  · rw [if_pos e]
    obtain ⟨g1, g2⟩:=c6 e
    have hF : hiF (⟨f.f0 + -d, f.f1 + 0, r⟩ : S82) = hiF f + u:=by
      show xs (f.f0 + -d) r r.length = _
      omega
    have fv' : ∀ k : Nat, F (f.f0 + -d) (f.f1 + 0) r k = val (⟨f.f0 + -d, f.f1 + 0, r⟩ : S82) (f.f0 + -d + k):=fun k => rfl
    refine Or.inr ⟨⟨f.f0 + -d, f.f1 + 0, r⟩, rfl, cvErr_ok e, by show f.f0 + -d = _; omega, hF, fun B hB hB2 => hbd B hB, fun k b b1 b2 b3 b4 => ?_, fun k k1 k2 => ?_⟩
    · have:=c2.le (b - f.f0).toNat (k - b + d).toNat (by omega) (by omega)
      rw [← g2 _ (by omega), fv', F_val f b1, spl_F hu hd _ (by omega)] at this
      rw [show f.f0 + -d + (((b - f.f0).toNat + (k - b + d).toNat : Nat) : Int) = k by omega] at this
      omega
    · have k1' : f.f0 + -d ≤ k:=k1
      rw [hF] at k2
      obtain ⟨i, j, e1, e2, e3, e4⟩:=c2.some (k - (f.f0 + -d)).toNat (by omega)
      rw [← g2 _ (by omega), fv', spl_F hu hd _ (by omega)] at e4
      rw [show f.f0 + -d + ((k - (f.f0 + -d)).toNat : Int) = k by omega] at e4
      refine ⟨f.f0 + i, by omega, by omega, by omega, by omega, ?_⟩
      rw [e4, Int.add_zero]
      rfl
  · rw [if_neg e]
    exact Or.inl ⟨rfl, fun B hB hB2 => e (small B hB hB2)⟩
theorem restr_step {g : S82} (h : CvF g) (x y : Int) : ∃ R : Int × Int × List Pc × Int, Evt (fun k => convexpl_Restrict.f k g.f0 g.f1 g.f2 x y) R ∧
    ((R.2.2.2 = 8 ∧ mx x g.f0 > mn y (hiF g)) ∨ ∃ q : S82, R = (q.f0, q.f1, q.f2, 0) ∧ CvF q ∧ q.f0 = mx x g.f0 ∧ hiF q = mn y (hiF g) ∧ q.f0 ≤ hiF q ∧ (∀ k, q.f0 ≤ k → k ≤ hiF q → val q k = val g k) ∧ (∀ p ∈ q.f2, p.f1 ∈ us g.f2)):=by
  obtain ⟨R, r1, r2⟩:=Restrict_ev h x y
  refine ⟨R, r1, ?_⟩
  by_cases c : mx x g.f0 > mn y (hiF g)
  · have c' : mx x g.f0 > mn y (xs g.f0 g.f2 g.f2.length):=c
    rw [if_pos c'] at r2
    exact Or.inl ⟨r2, c⟩
  · have c' : ¬ mx x g.f0 > mn y (xs g.f0 g.f2 g.f2.length):=c
    rw [if_neg c'] at r2
    obtain ⟨r, e, s1, s2, s3⟩:=r2
    refine Or.inr ⟨⟨mx x g.f0, fv g.f0 g.f1 g.f2 (mx x g.f0) g.f2.length, r⟩, e, s2, rfl, s3, ?_, fun k k1 k2 => ?_, fun p hp => ?_⟩
    · show mx x g.f0 ≤ xs (mx x g.f0) r r.length
      rw [s3]
      omega
    · exact Sub.val h s1 s2 k1 k2
    · obtain ⟨m, hm, e⟩:=List.getElem_of_mem hp
      obtain ⟨_, j, hj, _, _, e2⟩:=s1.pc m hm
      rw [getD_lnsl r m hm] at e
      rw [← e]
      show sl r m ∈ _
      rw [e2]
      exact sl_us (fun m hm => (h.rng m hm).1) j hj
def awl (t : Int) : List Pc := [(⟨t + 100000, -1⟩ : Pc), (⟨200000 - t, 1⟩ : Pc)]
theorem away_ev {t : Int} (ht : 0 ≤ t ∧ t ≤ 100000) : ramp_away.f t = some (-100000, t + 100000, awl t) := by
  unfold ramp_away.f awl
  rw [wrap64_of (x:=t + 100000) (by omega) (by omega), wrap64_of (x:=200000 - t) (by omega) (by omega)]
theorem away_cv {t : Int} (ht : 0 ≤ t ∧ t ≤ 100000) : Cv (-100000) (t + 100000) (awl t) := by
  unfold awl
  refine ⟨by simp, fun n hn => ?_, fun n hn => ?_, fun n h1 h2 => ?_⟩
  · simp at hn
    unfold PreC okY
    have : n = 0 ∨ n = 1 ∨ n = 2:=by omega
    rcases this with rfl|rfl|rfl <;> simp [xs, ys, ln, sl] <;> omega
  · simp at hn
    unfold okP
    have : n = 0 ∨ n = 1:=by omega
    rcases this with rfl|rfl <;> simp [ln, sl] <;> omega
  · simp at h2
    have : n = 1:=by omega
    subst this
    simp [sl]
theorem away_hi {t : Int} : xs (-100000) (awl t) (awl t).length = 200000 := by
  unfold awl
  simp [xs, ln]
  omega
theorem away_val {t k : Int} (ht : 0 ≤ t ∧ t ≤ 100000) (h1 : -100000 ≤ k) (h2 : k ≤ 200000) : fv (-100000) (t + 100000) (awl t) k (awl t).length = dist k t := by
  unfold awl dist
  simp only [List.length_cons, List.length_nil, fv, cl, xs, ln, sl, List.getD_cons_zero, List.getD_cons_succ]
  unfold mx mn
  simp only [Int.mul_one]
  split <;> split <;> split <;> omega
theorem add_step {q : S82} (h : CvF q) {t : Int} (ht : 0 ≤ t ∧ t ≤ 100000) : ∃ A : Int × Int × List Pc × Int, Evt (fun k => convexpl_Add.f k q.f0 q.f1 q.f2 (-100000) (t + 100000) (awl t)) A ∧
    ((A.2.2.2 ≠ 0 ∧ ∀ B, Sm q B → B ≤ 960 → (∀ p ∈ q.f2, -B ≤ p.f1 ∧ p.f1 ≤ B) → q.f0 ≤ hiF q → t ≤ 40 → False) ∨ ∃ g : S82, A = (g.f0, g.f1, g.f2, 0) ∧ CvF g ∧ g.f0 = mx q.f0 (-100000) ∧ hiF g = mn (hiF q) 200000 ∧ (∀ k, g.f0 ≤ k → k ≤ hiF g → val g k = val q k + dist k t)):=by
  have A:=Add_ev h (away_cv ht) (lo:=mx q.f0 (-100000)) (hi:=mn (hiF q) 200000) rfl (by rw [away_hi]; rfl)
  by_cases c : mx q.f0 (-100000) > mn (hiF q) 200000
  · rw [if_pos c] at A
    refine ⟨_, A, Or.inl ⟨by simp, fun B hB _ _ hq _ => ?_⟩⟩
    have:=hB.lo
    have:=hB.hi
    unfold mx mn at c
    split at c <;> split at c <;> omega
  · rw [if_neg c] at A
    obtain ⟨r, a1, a2, a3, a4, a5⟩:=A
    refine ⟨_, a1, ?_⟩
    unfold madeQ
    by_cases e : cvErr (mx q.f0 (-100000)) (fv q.f0 q.f1 q.f2 (mx q.f0 (-100000)) q.f2.length + fv (-100000) (t + 100000) (awl t) (mx q.f0 (-100000)) (awl t).length) r = 0
    · rw [if_pos e]
      obtain ⟨g1, g2⟩:=a5 e
      refine Or.inr ⟨⟨_, _, r⟩, rfl, cvErr_ok e, rfl, g1, fun k k1 k2 => ?_⟩
      have k1' : mx q.f0 (-100000) ≤ k:=k1
      have k2' : k ≤ mn (hiF q) 200000:=by rw [← g1]; exact k2
      have m1 : q.f0 ≤ mx q.f0 (-100000) ∧ -100000 ≤ mx q.f0 (-100000):=by unfold mx; split <;> omega
      have m2 : mn (hiF q) 200000 ≤ 200000:=by unfold mn; split <;> omega
      have:=g2 (k - mx q.f0 (-100000)).toNat (mx q.f0 (-100000) - q.f0).toNat (mx q.f0 (-100000) - -100000).toNat (by omega) (by omega) (by omega)
      unfold F at this
      rw [show mx q.f0 (-100000) + ((k - mx q.f0 (-100000)).toNat : Int) = k by omega, show q.f0 + (((mx q.f0 (-100000) - q.f0).toNat + (k - mx q.f0 (-100000)).toNat : Nat) : Int) = k by omega, show (-100000 : Int) + (((mx q.f0 (-100000) - -100000).toNat + (k - mx q.f0 (-100000)).toNat : Nat) : Int) = k by omega, away_val (k:=k) ht (by omega) (by omega)] at this
      exact this
    · rw [if_neg e]
      refine Or.inl ⟨by simp, fun B hB hB2 hp hq ht2 => e (Cv_err ?_)⟩
      have b1:=hB.lo
      have b2:=hB.hi
      have m1 : mx q.f0 (-100000) = q.f0:=by unfold mx; split <;> omega
      have m2 : mn (hiF q) 200000 = hiF q:=by unfold mn; split <;> omega
      rw [m1, m2] at a3
      rw [m1, away_val ht (by omega) (by omega)]
      have b3:=hB.val q.f0 (Int.le_refl _) hq
      have b4 : 0 ≤ dist q.f0 t ∧ dist q.f0 t ≤ 100:=by unfold dist mx; split <;> omega
      have l1:=us_many a2.pos
      have b5 : 0 ≤ fv q.f0 q.f1 q.f2 q.f0 q.f2.length ∧ fv q.f0 q.f1 q.f2 q.f0 q.f2.length ≤ B:=b3
      refine cv_made a2 (by omega) (fun s hs => ?_) (by omega) (by omega) (by omega)
      obtain ⟨x, x1, y, y1, rfl⟩:=a4 s hs
      have:=hp x x1
      unfold awl at y1
      simp at y1
      rcases y1 with rfl|rfl <;> simp <;> omega
def okR (x : S97) : Prop := 0 ≤ x.f0 ∧ x.f0 ≤ x.f1 ∧ x.f1 ≤ 100000
structure Stepd (f g : S82) (x : S97) (u d t : Int) : Prop where
  lo : g.f0 = mx x.f0 (f.f0 - d)
  hi : hiF g = mn x.f1 (hiF f + u)
  ne : g.f0 ≤ hiF g
  le : ∀ k b, g.f0 ≤ k → k ≤ hiF g → f.f0 ≤ b → b ≤ hiF f → -d ≤ k - b → k - b ≤ u → val g k ≤ val f b + dist k t
  some : ∀ k, g.f0 ≤ k → k ≤ hiF g → ∃ b, f.f0 ≤ b ∧ b ≤ hiF f ∧ -d ≤ k - b ∧ k - b ≤ u ∧ val g k = val f b + dist k t
abbrev zFn : S82 := z82
theorem rdf (l : List S82) (n : Nat) : rd_T82 l (n : Int) = l.getD n zFn := rfl
theorem rdx (l : List S97) (n : Nat) : rd_T97 l (n : Int) = l.getD n z97 := rfl
theorem rdi (l : List Int) (n : Nat) : rd l (n : Int) = l.getD n 0 := rfl
section
variable {u d : Int} (hu : 0 ≤ u ∧ u ≤ 100000) (hd : 0 ≤ d ∧ d ≤ 100000) (tg : List Int) (l : List S97) (hl : l.length ≤ 24) (hx : ∀ n, n < l.length → okR (l.getD n z97)) (htl : tg.length = l.length) (ht : ∀ n, n < l.length → 0 ≤ tg.getD n 0 ∧ tg.getD n 0 ≤ 100000)
include hu hd hl hx htl ht
theorem vstep (n : Nat) (hn : n < l.length) (out : List S82) (ho : out.length = n + 1) (f : S82) (ef : out.getD n zFn = f) (h : CvF f) :
    (∃ e, e ≠ 0 ∧ Evt (fun k => ramp_values.l0 k u d tg out l (l.length : Int) (n : Int)) ([], e) ∧ ∀ B, Sm f B → B ≤ 920 → (l.getD n z97).f1 ≤ 40 → tg.getD n 0 ≤ 40 → e = 8 ∧ mx (l.getD n z97).f0 (f.f0 - d) > mn (l.getD n z97).f1 (hiF f + u)) ∨
    (∃ g, CvF g ∧ (∀ r, Evt (fun k => ramp_values.l0 k u d tg (out ++ [g]) l (l.length : Int) ((n + 1 : Nat) : Int)) r → Evt (fun k => ramp_values.l0 k u d tg out l (l.length : Int) (n : Int)) r) ∧ ∀ B, Sm f B → B ≤ 920 → (l.getD n z97).f1 ≤ 40 → tg.getD n 0 ≤ 40 → Stepd f g (l.getD n z97) u d (tg.getD n 0) ∧ Sm g (B + 40)):=by
  obtain ⟨x1, x2, x3⟩:=hx n hn
  have ht':=ht n hn
  obtain ⟨C, c1, c2⟩:=conv_step h hu hd
  have start : ∀ r, Evt (fun k => if C.2.2.2 = 0 then ((convexpl_Restrict.f k C.1 C.2.1 C.2.2.1 (l.getD n z97).f0 (l.getD n z97).f1).bind fun b => ramp_values.j1 k u d tg out (n : Int) b.2.2.2 l (l.length : Int) (n : Int) b.1 b.2.1 b.2.2.1) else ramp_values.j1 k u d tg out (n : Int) C.2.2.2 l (l.length : Int) (n : Int) C.1 C.2.1 C.2.2.1) r → Evt (fun k => ramp_values.l0 k u d tg out l (l.length : Int) (n : Int)) r:=by
    intro r hr
    refine Evt.succ ?_
    simp only [ramp_values.l0, rdf, rdx, ef, steps_ev hu hd, Option.bind_some]
    exact Evt.ite_pos (by omega) (Evt.ite_pos (by omega) (Evt.ite_pos (by omega) (Evt.ite_pos (by omega) (Evt.bind c1 hr))))
  have fail : ∀ e a v r, e ≠ 0 → Evt (fun k => ramp_values.j1 k u d tg out (n : Int) e l (l.length : Int) (n : Int) a v r) ([], e):=by
    intro e a v r he
    refine Evt.succ ?_
    simp only [ramp_values.j1]
    exact Evt.ite_neg he (Evt.pure _)
  rcases c2 with ⟨c2, c3⟩|⟨g, rfl, g1, g2, g3, g4, g5, g6⟩
  · refine Or.inl ⟨C.2.2.2, by omega, start _ (Evt.ite_neg (by omega) (fail _ _ _ _ (by omega))), fun B hB hB2 _ _ => (c3 B hB (by omega)).elim⟩
  · obtain ⟨R, r1, r2⟩:=restr_step g1 (l.getD n z97).f0 (l.getD n z97).f1
    rcases r2 with ⟨r2, r3⟩|⟨q, rfl, q1, q2, q3, q4, q5, q6⟩
    · refine Or.inl ⟨R.2.2.2, by omega, start _ (Evt.ite_pos rfl (Evt.bind r1 (fail _ _ _ _ (by omega)))), fun B hB hB2 _ _ => ⟨r2, by rw [← g2, ← g3]; exact r3⟩⟩
    · obtain ⟨A, a1, a2⟩:=add_step q1 ht'
      have mid : ∀ r, Evt (fun k => if A.2.2.2 = 0 then (if out.length < 3518437208883 then ramp_values.l0 k u d tg (out ++ [(⟨A.1, A.2.1, A.2.2.1⟩ : S82)]) l (l.length : Int) (wrap64 ((n : Int) + 1)) else none) else some ([], A.2.2.2)) r → Evt (fun k => ramp_values.l0 k u d tg out l (l.length : Int) (n : Int)) r:=by
        intro r hr
        refine start _ (Evt.ite_pos rfl (Evt.bind r1 (Evt.succ ?_)))
        simp only [ramp_values.j1, rdi, away_ev ht', Option.bind_some]
        exact Evt.ite_pos trivial (Evt.ite_pos (by omega) (Evt.ite_pos (by omega) (Evt.bind a1 hr)))
      have qsm : ∀ B, Sm f B → B ≤ 920 → (l.getD n z97).f1 ≤ 40 → Sm q B:=by
        intro B hB hB2 hx4
        refine ⟨by rw [q2]; unfold mx; split <;> omega, by rw [q3]; unfold mn; split <;> omega, fun k k1 k2 => ?_⟩
        rw [q5 k k1 k2]
        have m1 : g.f0 ≤ q.f0:=by rw [q2]; unfold mx; split <;> omega
        have m2 : hiF q ≤ hiF g:=by rw [q3]; unfold mn; split <;> omega
        obtain ⟨b, b1, b2, b3, b4, b5⟩:=g6 k (by omega) (by omega)
        rw [b5]
        exact hB.val b b1 b2
      rcases a2 with ⟨a2, a3⟩|⟨p, rfl, p1, p2, p3, p4⟩
      · refine Or.inl ⟨A.2.2.2, a2, mid _ (Evt.ite_neg a2 (Evt.pure _)), fun B hB hB2 hx4 ht4 => ?_⟩
        exact (a3 B (qsm B hB hB2 hx4) (by omega) (fun z hz => g4 B hB (by omega) _ (q6 z hz)) q4 ht4).elim
      · refine Or.inr ⟨p, p1, fun r hr => mid r (Evt.ite_pos rfl (Evt.ite_pos (by omega) ?_)), fun B hB hB2 hx4 ht4 => ?_⟩
        · rw [wrap64_nat (n:=n) (by omega)]
          exact hr
        · have s:=qsm B hB hB2 hx4
          have b1:=s.lo
          have b2:=s.hi
          have e1 : p.f0 = q.f0:=by rw [p2]; unfold mx; split <;> omega
          have e2 : hiF p = hiF q:=by rw [p3]; unfold mn; split <;> omega
          have m1 : g.f0 ≤ q.f0:=by rw [q2]; unfold mx; split <;> omega
          have m2 : hiF q ≤ hiF g:=by rw [q3]; unfold mn; split <;> omega
          have pv : ∀ k, p.f0 ≤ k → k ≤ hiF p → val p k = val g k + dist k (tg.getD n 0):=by
            intro k k1 k2
            rw [p4 k k1 k2, q5 k (by omega) (by omega)]
          refine ⟨⟨by rw [e1, q2, g2], by rw [e2, q3, g3], by omega, fun k b k1 k2 b1 b2 b3 b4 => ?_, fun k k1 k2 => ?_⟩,⟨by omega, by omega, fun k k1 k2 => ?_⟩⟩
          · rw [pv k k1 k2]
            have:=g5 k b b1 b2 b3 b4
            omega
          · obtain ⟨b, b1, b2, b3, b4, b5⟩:=g6 k (by omega) (by omega)
            exact ⟨b, b1, b2, b3, b4, by rw [pv k k1 k2, b5]⟩
          · rw [p4 k k1 k2]
            have:=s.val k (by omega) (by omega)
            have : 0 ≤ dist k (tg.getD n 0) ∧ dist k (tg.getD n 0) ≤ 40:=by unfold dist mx; split <;> omega
            omega
theorem values_l0 : ∀ c n (out : List S82), n + c = l.length → out.length = n + 1 → (∀ i, i ≤ n → CvF (out.getD i zFn)) →
    ∃ R : List S82 × Int, Evt (fun k => ramp_values.l0 k u d tg out l (l.length : Int) (n : Int)) R ∧ (R.2 = 0 → R.1.length = l.length + 1 ∧ ∀ i, i ≤ l.length → CvF (R.1.getD i zFn)) ∧ (R.2 ≠ 0 → R.1 = []):=by
  intro c
  induction c with
 |zero =>
    intro n out hn ho hc
    refine ⟨(out, 0), Evt.succ ?_, fun _ => ⟨by show out.length = _; omega, fun i hi => hc i (by omega)⟩, fun h => absurd rfl h⟩
    simp only [ramp_values.l0]
    exact Evt.ite_neg (by omega) (Evt.pure _)
 |succ c ih =>
    intro n out hn ho hc
    rcases vstep hu hd tg l hl hx htl ht n (by omega) out ho _ rfl (hc n (Nat.le_refl _)) with ⟨e, e1, e2, _⟩|⟨g, g1, g2, _⟩
    · exact ⟨([], e), e2, fun h => absurd h e1, fun _ => rfl⟩
    · obtain ⟨R, r1, r2, r3⟩:=ih (n + 1) (out ++ [g]) (by omega) (by simp; omega) (fun i hi => by
        rw [List.getD_eq_getElem?_getD]
        by_cases ei : i = n + 1
        · rw [List.getElem?_append_right (by omega)]
          simp [ei, ho]
          exact g1
        · rw [List.getElem?_append_left (by omega), ← List.getD_eq_getElem?_getD]
          exact hc i (by omega))
      exact ⟨R, g2 R r1, r2, r3⟩
theorem values_sm (hs : ∀ n, n < l.length → (l.getD n z97).f1 ≤ 40 ∧ tg.getD n 0 ≤ 40) : ∀ c n (out : List S82), n + c = l.length → out.length = n + 1 → (∀ i, i ≤ n → CvF (out.getD i zFn) ∧ Sm (out.getD i zFn) (40 * (i : Int))) → (∀ i, i < n → Stepd (out.getD i zFn) (out.getD (i + 1) zFn) (l.getD i z97) u d (tg.getD i 0)) →
    (∃ fs : List S82, Evt (fun k => ramp_values.l0 k u d tg out l (l.length : Int) (n : Int)) (fs, 0) ∧ fs.length = l.length + 1 ∧ (∀ i, i ≤ l.length → CvF (fs.getD i zFn) ∧ Sm (fs.getD i zFn) (40 * (i : Int))) ∧ (∀ i, i < l.length → Stepd (fs.getD i zFn) (fs.getD (i + 1) zFn) (l.getD i z97) u d (tg.getD i 0)) ∧ (∀ i, i ≤ n → fs.getD i zFn = out.getD i zFn)) ∨
    (∃ (fs : List S82) (m : Nat), Evt (fun k => ramp_values.l0 k u d tg out l (l.length : Int) (n : Int)) ([], 8) ∧ m < l.length ∧ n ≤ m ∧ (∀ i, i ≤ m → CvF (fs.getD i zFn) ∧ Sm (fs.getD i zFn) (40 * (i : Int))) ∧ (∀ i, i < m → Stepd (fs.getD i zFn) (fs.getD (i + 1) zFn) (l.getD i z97) u d (tg.getD i 0)) ∧ (∀ i, i ≤ n → fs.getD i zFn = out.getD i zFn) ∧
      mx (l.getD m z97).f0 ((fs.getD m zFn).f0 - d) > mn (l.getD m z97).f1 (hiF (fs.getD m zFn) + u)):=by
  intro c
  induction c with
 |zero =>
    intro n out hn ho hc hst
    obtain rfl : n = l.length:=by omega
    refine Or.inl ⟨out, Evt.succ ?_, ho, hc, hst, fun i _ => rfl⟩
    simp only [ramp_values.l0]
    exact Evt.ite_neg (by omega) (Evt.pure _)
 |succ c ih =>
    intro n out hn ho hc hst
    have hsn:=hs n (by omega)
    have hcn:=hc n (Nat.le_refl _)
    rcases vstep hu hd tg l hl hx htl ht n (by omega) out ho _ rfl hcn.1 with ⟨e, e1, e2, e3⟩|⟨g, g1, g2, g3⟩
    · obtain ⟨rfl, e4⟩:=e3 _ hcn.2 (by omega) hsn.1 hsn.2
      exact Or.inr ⟨out, n, e2, by omega, Nat.le_refl _, hc, hst, fun i _ => rfl, e4⟩
    · obtain ⟨s1, s2⟩:=g3 _ hcn.2 (by omega) hsn.1 hsn.2
      have gl : ∀ i, i ≤ n → (out ++ [g]).getD i zFn = out.getD i zFn:=fun i hi => by
        rw [List.getD_eq_getElem?_getD, List.getElem?_append_left (by omega), ← List.getD_eq_getElem?_getD]
      have gr : (out ++ [g]).getD (n + 1) zFn = g:=by
        rw [List.getD_eq_getElem?_getD, List.getElem?_append_right (by omega)]
        simp [ho]
      have:=ih (n + 1) (out ++ [g]) (by omega) (by simp; omega) (fun i hi => by
          by_cases ei : i = n + 1
          · subst ei
            rw [gr]
            exact ⟨g1, by rw [show (40 : Int) * ((n + 1 : Nat) : Int) = 40 * (n : Int) + 40 by omega]; exact s2⟩
          · rw [gl i (by omega)]
            exact hc i (by omega))
        (fun i hi => by
          by_cases ei : i = n
          · subst ei
            rw [gl i (Nat.le_refl _), gr]
            exact s1
          · rw [gl i (by omega), gl (i + 1) (by omega)]
            exact hst i (by omega))
      rcases this with ⟨fs, f1, f2, f3, f4, f5⟩|⟨fs, m, f1, f2, f3, f4, f5, f6, f7⟩
      · exact Or.inl ⟨fs, g2 _ f1, f2, f3, f4, fun i hi => by rw [f5 i (by omega), gl i hi]⟩
      · exact Or.inr ⟨fs, m, g2 _ f1, f2, by omega, f4, f5, fun i hi => by rw [f6 i (by omega), gl i hi], f7⟩
end
structure ArgR (f : S82) (lo hi k : Int) : Prop where
  d1 : f.f0 ≤ k
  d2 : k ≤ hiF f
  r1 : lo ≤ k
  r2 : k ≤ hi
  le : ∀ j, f.f0 ≤ j → j ≤ hiF f → lo ≤ j → j ≤ hi → val f k ≤ val f j
  lt : ∀ j, f.f0 ≤ j → lo ≤ j → j < k → val f k < val f j
theorem arg_of {f : S82} (h : CvF f) {n : Nat} (hn : n ≤ f.f2.length) (h1 : ∀ m, m < n → sl f.f2 m < 0) (h2 : n = f.f2.length ∨ 0 ≤ sl f.f2 n) : ArgR f f.f0 (hiF f) (xs f.f0 f.f2 n) ∧ val f (xs f.f0 f.f2 n) = ys f.f1 f.f2 n := by
  have b1:=xs_mono h (i:=0) (j:=n) (by omega) hn
  have b2:=xs_mono h (i:=n) (j:=f.f2.length) hn (Nat.le_refl _)
  have e0 : xs f.f0 f.f2 0 = f.f0:=rfl
  have hN:=us_length h
  obtain ⟨P, hP⟩ : ∃ P : Nat, xs f.f0 f.f2 n = f.f0 + P:=⟨(xs f.f0 f.f2 n - f.f0).toNat, by omega⟩
  have c1 : ∀ c i : Nat, i + (c + 1) = P → F f.f0 f.f1 f.f2 P < F f.f0 f.f1 f.f2 i:=by
    intro c
    induction c with
   |zero =>
      intro i hi
      obtain ⟨m, m1, m2, m3⟩:=piece_of h (f.f0 + i) (by omega) n hn (by omega)
      have:=F_succ h i m (by omega) m2 m3
      have:=h1 m m1
      rw [show P = i + 1 by omega]
      omega
   |succ c ih =>
      intro i hi
      obtain ⟨m, m1, m2, m3⟩:=piece_of h (f.f0 + i) (by omega) n hn (by omega)
      have:=F_succ h i m (by omega) m2 m3
      have:=h1 m m1
      have:=ih (i + 1) (by omega)
      omega
  have c2 : ∀ c : Nat, P + c ≤ (us f.f2).length → F f.f0 f.f1 f.f2 P ≤ F f.f0 f.f1 f.f2 (P + c):=by
    intro c
    induction c with
   |zero => intro _; exact Int.le_refl _
   |succ c ih =>
      intro hc
      have:=ih (by omega)
      obtain ⟨m, m1, m2, m3⟩:=piece_of h (f.f0 + ((P + c : Nat) : Int)) (by omega) f.f2.length (Nat.le_refl _) (by omega)
      have hs:=F_succ h (P + c) m m1 m2 m3
      have hm : n ≤ m:=by
        by_cases q : n ≤ m
        · exact q
        · have:=xs_mono h (i:=m + 1) (j:=n) (by omega) hn
          omega
      have : 0 ≤ sl f.f2 m:=by
        rcases h2 with h2|h2
        · omega
        · by_cases q : n = m
          · rw [← q]; exact h2
          · have:=sl_mono h (i:=n) (j:=m) (by omega) m1
            omega
      rw [show P + (c + 1) = P + c + 1 by omega]
      omega
  have hh:=hi_us h
  refine ⟨⟨by omega, b2, by omega, b2, fun j j1 j2 _ _ => ?_, fun j j1 _ j2 => ?_⟩, ?_⟩
  · rw [← F_val f (show f.f0 ≤ xs f.f0 f.f2 n by omega), ← F_val f j1, hP, show (f.f0 + (P : Int) - f.f0).toNat = P by omega]
    by_cases q : j < f.f0 + P
    · have:=c1 (P - (j - f.f0).toNat - 1) (j - f.f0).toNat (by omega)
      omega
    · have:=c2 ((j - f.f0).toNat - P) (by omega)
      rw [show P + ((j - f.f0).toNat - P) = (j - f.f0).toNat by omega] at this
      exact this
  · rw [← F_val f (show f.f0 ≤ xs f.f0 f.f2 n by omega), ← F_val f j1, hP, show (f.f0 + (P : Int) - f.f0).toNat = P by omega]
    exact c1 (P - (j - f.f0).toNat - 1) (j - f.f0).toNat (by omega)
  · have:=fv_xs h n hn f.f2.length (Nat.le_refl _)
    rw [Nat.min_eq_right hn] at this
    exact this
theorem Least_l0 {f : S82} (h : CvF f) : ∀ n, n ≤ f.f2.length → (∀ m, m < n → sl f.f2 m < 0) → ∃ k, ArgR f f.f0 (hiF f) k ∧ Evt (fun q => convexpl_Least.l0 q (xs f.f0 f.f2 n) (ys f.f1 f.f2 n) f.f2 (f.f2.length : Int) (n : Int)) (k, val f k, 0) := by
  refine down ?_ ?_
  · intro h1
    obtain ⟨a1, a2⟩:=arg_of h (Nat.le_refl _) h1 (Or.inl rfl)
    refine ⟨_, a1, Evt.succ ?_⟩
    simp only [convexpl_Least.l0]
    exact Evt.ite_neg (by omega) (Evt.of_eq (by rw [a2]))
  · intro n hn ih h1
    by_cases c : 0 ≤ sl f.f2 n
    · obtain ⟨a1, a2⟩:=arg_of h (by omega) h1 (Or.inr c)
      refine ⟨_, a1, Evt.succ ?_⟩
      simp only [convexpl_Least.l0, rdc1]
      exact Evt.ite_pos (by omega) (Evt.ite_pos (by omega) (Evt.ite_pos (by omega) (Evt.ite_pos (by omega) (Evt.of_eq (by rw [a2])))))
    · obtain ⟨k, k1, k2⟩:=ih (fun m hm => by
        by_cases e : m = n
        · subst e; omega
        · exact h1 m (by omega))
      refine ⟨k, k1, Evt.succ ?_⟩
      have p0:=h.pre n (by omega)
      have p1:=h.pre (n + 1) (by omega)
      have hr:=h.rng n hn
      have pb:=prod_bd hr
      obtain ⟨p1a, p1b⟩:=p1
      unfold okY at p1b
      have hl:=h.len
      simp only [convexpl_Least.l0, rdc1, rdc0]
      have ex : xs f.f0 f.f2 (n + 1) = xs f.f0 f.f2 n + ln f.f2 n:=rfl
      have ey : ys f.f1 f.f2 (n + 1) = ys f.f1 f.f2 n + ln f.f2 n * sl f.f2 n:=rfl
      rw [wrap64_of (x:=ln f.f2 n * sl f.f2 n) (by omega) (by omega), ← ey, ← ex, wrap64_of (x:=xs f.f0 f.f2 (n + 1)) (by omega) (by omega), wrap64_of (x:=ys f.f1 f.f2 (n + 1)) (by omega) (by omega), wrap64_nat (n:=n) (by omega)]
      exact Evt.ite_pos (by omega) (Evt.ite_pos (by omega) (Evt.ite_pos (by omega) (Evt.ite_neg (by omega) k2)))
theorem Least_ev {f : S82} (h : CvF f) : ∃ k, ArgR f f.f0 (hiF f) k ∧ Evt (fun q => convexpl_Least.f q f.f0 f.f1 f.f2) (k, val f k, 0) := by
  obtain ⟨k, k1, k2⟩:=Least_l0 h 0 (by omega) (fun m hm => by omega)
  refine ⟨k, k1, ?_⟩
  have:=CCheck_ev f.f0 f.f1 f.f2
  rw [Cv_err h] at this
  simp only [convexpl_Least.f]
  exact Evt.bind this (Evt.ite_pos rfl k2)
section
variable {u d : Int} (hu : 0 ≤ u ∧ u ≤ 100000) (hd : 0 ≤ d ∧ d ≤ 100000) (l : List S97) (hl : l.length ≤ 24) (fs : List S82) (hf : fs.length = l.length + 1) (hc : ∀ i, i ≤ l.length → CvF (fs.getD i zFn)) (tg : List Int)
structure Chain (u d : Int) (fs : List S82) (n : Nat) (out : List Int) (i : Nat) : Prop where
  len : out.length = n
  bd : ∀ j, i ≤ j → j < n → -1000000 ≤ out.getD j 0 ∧ out.getD j 0 ≤ 1000000
  last : ∀ m, n = m + 1 → i ≤ m → ArgR (fs.getD n zFn) (fs.getD n zFn).f0 (hiF (fs.getD n zFn)) (out.getD m 0)
  arg : ∀ j, i ≤ j → j + 1 < n → ArgR (fs.getD (j + 1) zFn) (out.getD (j + 1) 0 - u) (out.getD (j + 1) 0 + d) (out.getD j 0)
theorem getD_set (o : List Int) (i j : Nat) (v : Int) : (o.set i v).getD j 0 = if j = i ∧ i < o.length then v else o.getD j 0 := by
  rw [List.getD_eq_getElem?_getD, List.getElem?_set]
  by_cases e : i = j
  · subst e
    by_cases q : i < o.length
    · simp [q]
    · simp [q]
  · have : ¬ (j = i):=fun h => e h.symm
    simp [e, this, List.getD_eq_getElem?_getD]
include hu hd hl hf hc
theorem near_l1 : ∀ i, i ≤ l.length → ∀ (out : List Int) (sum : Int), Chain u d fs l.length out i → (∀ m, l.length = m + 1 → i ≤ m → sum = val (fs.getD l.length zFn) (out.getD m 0)) → (l.length = i → sum = 0) →
    ∃ R : List Int × Int × Int, Evt (fun k => ramp_Nearest.l1 k l u d fs out sum (i : Int)) R ∧ ((∀ j, j < l.length → Stepd (fs.getD j zFn) (fs.getD (j + 1) zFn) (l.getD j z97) u d (tg.getD j 0)) →
      R.2.2 = 0 ∧ Chain u d fs l.length R.1 0 ∧ (∀ m, l.length = m + 1 → R.2.1 = val (fs.getD l.length zFn) (R.1.getD m 0)) ∧ (l.length = 0 → R.2.1 = 0)):=by
  intro i
  induction i with
 |zero =>
    intro _ out sum hch hs hs0
    refine ⟨(out, sum, 0), Evt.succ ?_, fun _ => ⟨rfl, hch, fun m hm => hs m hm (by omega), fun h => hs0 h⟩⟩
    simp only [ramp_Nearest.l1]
    exact Evt.ite_neg (by omega) (Evt.pure _)
 |succ i ih =>
    intro hi out sum hch hs hs0
    have hcl:=hch.len
    have hci:=hc (i + 1) hi
    have ci1:=hci.pre 0 (by omega)
    have ci2:=hci.pre _ (Nat.le_refl _)
    have wi : wrap64 (((i + 1 : Nat) : Int) - 1) = (i : Int):=by rw [wrap64_of (by omega) (by omega)]; omega
    have bdk : ∀ k, (fs.getD (i + 1) zFn).f0 ≤ k → k ≤ hiF (fs.getD (i + 1) zFn) → -1000000 ≤ k ∧ k ≤ 1000000:=by
      intro k k1 k2
      have e1:=ci1.1
      have e2:=ci2.1
      unfold hiF at k2
      simp only [xs] at e1
      omega
    by_cases c : i + 1 = l.length
    · obtain ⟨k, k1, k2⟩:=Least_ev hci
      have bk:=bdk k k1.d1 k1.d2
      obtain ⟨R, r1, r2⟩:=ih (by omega) (out.set i k) (val (fs.getD (i + 1) zFn) k) ⟨by rw [List.length_set]; exact hcl, fun j j1 j2 => by
          have : j = i:=by omega
          rw [getD_set, if_pos ⟨this, by omega⟩]
          exact bk,
        fun m hm _ => by
          have : m = i:=by omega
          rw [getD_set, if_pos ⟨this, by omega⟩, ← c]
          exact k1,
        fun j j1 j2 => by omega⟩ (fun m hm _ => by
          have : m = i:=by omega
          rw [getD_set, if_pos ⟨this, by omega⟩, ← c]) (fun h => by omega)
      refine ⟨R, Evt.succ ?_, r2⟩
      simp only [ramp_Nearest.l1, rdf, wi]
      refine Evt.ite_pos (by omega) (Evt.ite_pos (by omega) (Evt.ite_pos (by omega) (Evt.ite_pos (by omega) (Evt.bind k2 (Evt.ite_pos (by omega) (Evt.ite_pos (by omega) ?_))))))
      exact r1
    · have bo:=hch.bd (i + 1) (Nat.le_refl _) (by omega)
      obtain ⟨R, r1, r2⟩:=restr_step hci (out.getD (i + 1) 0 - u) (out.getD (i + 1) 0 + d)
      have start : ∀ r, Evt (fun k => if R.2.2.2 = 0 then ((convexpl_Least.f k R.1 R.2.1 R.2.2.1).bind fun b => if 0 ≤ (i : Int) then (if (i : Int) < (out.length : Int) then ramp_Nearest.l1 k l u d fs (out.set i b.1) sum (i : Int) else none) else none) else some ([], 0, R.2.2.2)) r → Evt (fun k => ramp_Nearest.l1 k l u d fs out sum ((i + 1 : Nat) : Int)) r:=by
        intro r hr
        refine Evt.succ ?_
        simp only [ramp_Nearest.l1, rdf, rdi, wi]
        rw [wrap64_of (x:=out.getD (i + 1) 0 - u) (by omega) (by omega), wrap64_of (x:=out.getD (i + 1) 0 + d) (by omega) (by omega)]
        exact Evt.ite_pos (by omega) (Evt.ite_pos (by omega) (Evt.ite_pos (by omega) (Evt.ite_neg (by omega) (Evt.ite_pos (by omega) (Evt.bind r1 hr)))))
      rcases r2 with ⟨r2, r3⟩|⟨q, rfl, q1, q2, q3, q4, q5, q6⟩
      · refine ⟨([], 0, R.2.2.2), start _ (Evt.ite_neg (by omega) (Evt.pure _)), fun hst => ?_⟩
        exfalso
        have hS:=hst (i + 1) (by omega)
        have hin : (fs.getD (i + 1 + 1) zFn).f0 ≤ out.getD (i + 1) 0 ∧ out.getD (i + 1) 0 ≤ hiF (fs.getD (i + 1 + 1) zFn):=by
          by_cases e : i + 1 + 1 = l.length
          · have:=hch.last (i + 1) e.symm (Nat.le_refl _)
            rw [← e] at this
            exact ⟨this.d1, this.d2⟩
          · have:=hch.arg (i + 1) (Nat.le_refl _) (by omega)
            exact ⟨this.d1, this.d2⟩
        obtain ⟨b, b1, b2, b3, b4, _⟩:=hS.some _ hin.1 hin.2
        unfold mx mn at r3
        split at r3 <;> split at r3 <;> omega
      · obtain ⟨k, k1, k2⟩:=Least_ev q1
        have m1 : out.getD (i + 1) 0 - u ≤ q.f0 ∧ (fs.getD (i + 1) zFn).f0 ≤ q.f0:=by rw [q2]; unfold mx; split <;> omega
        have m2 : hiF q ≤ out.getD (i + 1) 0 + d ∧ hiF q ≤ hiF (fs.getD (i + 1) zFn):=by rw [q3]; unfold mn; split <;> omega
        have d1:=k1.d1
        have d2:=k1.d2
        have bk:=bdk k (by omega) (by omega)
        have A : ArgR (fs.getD (i + 1) zFn) (out.getD (i + 1) 0 - u) (out.getD (i + 1) 0 + d) k:=by
          refine ⟨by omega, by omega, by omega, by omega, fun j j1 j2 j3 j4 => ?_, fun j j1 j2 j3 => ?_⟩
          · have i1 : q.f0 ≤ j:=by rw [q2]; unfold mx; split <;> omega
            have i2 : j ≤ hiF q:=by rw [q3]; unfold mn; split <;> omega
            rw [← q5 k d1 d2, ← q5 j i1 i2]
            exact k1.le j i1 i2 i1 i2
          · have i1 : q.f0 ≤ j:=by rw [q2]; unfold mx; split <;> omega
            rw [← q5 k d1 d2, ← q5 j i1 (by omega)]
            exact k1.lt j i1 i1 j3
        have keep : ∀ j, j ≠ i → (out.set i k).getD j 0 = out.getD j 0:=fun j hj => by rw [getD_set, if_neg (fun h => hj h.1)]
        have here : (out.set i k).getD i 0 = k:=by rw [getD_set, if_pos ⟨rfl, by omega⟩]
        obtain ⟨R, r1', r2'⟩:=ih (by omega) (out.set i k) sum ⟨by rw [List.length_set]; exact hcl, fun j j1 j2 => by
            by_cases e : j = i
            · subst e; rw [here]; exact bk
            · rw [keep j e]; exact hch.bd j (by omega) j2,
          fun m hm _ => by rw [keep m (by omega)]; exact hch.last m hm (by omega),
          fun j j1 j2 => by
            by_cases e : j = i
            · subst e; rw [here, keep _ (by omega)]; exact A
            · rw [keep j e, keep (j + 1) (by omega)]; exact hch.arg j (by omega) j2⟩ (fun m hm _ => by rw [keep m (by omega)]; exact hs m hm (by omega)) (fun h => by omega)
        refine ⟨R, start _ (Evt.ite_pos rfl (Evt.bind k2 (Evt.ite_pos (by omega) (Evt.ite_pos (by omega) ?_)))), r2'⟩
        exact r1'
end
end Go.Proofs.Ytdgjelbkogfedaa.GRampNearest
