/- Arguments that read as data are values of the print's kinds: whole numbers, bools, strings, slices and structs of them, each with its bounds. -/
import Derived.Test.YtekpnmeikibioaaWWords
import Derived.ProofKit
import Derived.SizedLaws
import Derived.ChangeSame
import Derived.OpenShut
namespace Go.Proofs.Ytekpnmeikibioaa.Bridge
open Go.ChangeShapes Go.WideShapes Go.RowKit Go.Proofs.YtekpnmeikibioaaW.PrintWords

/-- What reads as data at a type is of the kind, and good. -/
def Opn {α : Type} (k : Kd α) (P : Program) (t : TypeId) (g : α → Prop) : Prop :=
  ∀ (H : Type) (enc : TypeId × Value → H) (w : World) (base : Nat) (spare : Nat → Bool) (held : Bool) (fuel : Nat) (cs : List Value) (x : DataW H × List MemPlace),
    DataW.trod enc P w base spare held fuel t cs = some x → (∀ n ∈ x.1.weights P t, n ≤ reachBytes) → ∃ y, k.K w y cs ∧ g y

theorem opn_int {P : Program} {t : TypeId} {kd : IntKind} (ht : P.underlying t = some (.int kd)) : Opn (Kd.int kd) P t (fun n => (Lit.int kd n).wf = true) := by
  intro H enc w base spare held fuel cs x h _
  obtain ⟨n, rfl, _, hw⟩ := DataW.trod_int ht h
  exact ⟨n, rfl, hw⟩
theorem opn_bool {P : Program} {t : TypeId} (ht : P.underlying t = some .bool) : Opn Kd.bool P t (fun _ => True) := by
  intro H enc w base spare held fuel cs x h _
  obtain ⟨b, rfl, _⟩ := DataW.trod_bool ht h
  exact ⟨b, rfl, trivial⟩
theorem opn_string {P : Program} {t : TypeId} (ht : P.underlying t = some .string) : Opn Kd.string P t (fun s => s.size ≤ 140737488351232) := by
  intro H enc w base spare held fuel cs x h hw
  obtain ⟨s, rfl, rfl, _⟩ := DataW.trod_string ht h
  refine ⟨s, rfl, ?_⟩
  have := hw s.data.toList.length (by simp [DataW.weights])
  simpa [reachBytes] using this

theorem list_of {α : Type} (R : Nat → α → Prop) : ∀ (n : Nat), (∀ i, i < n → ∃ y, R i y) → ∃ ys : List α, ys.length = n ∧ ∀ i y, ys[i]? = some y → R i y
  | 0, _ => ⟨[], rfl, fun i y h => by simp at h⟩
  | n + 1, h => by
    obtain ⟨ys, hl, hr⟩ := list_of R n (fun i hi => h i (by omega))
    obtain ⟨y, hy⟩ := h n (by omega)
    refine ⟨ys ++ [y], by simp [hl], fun i z hz => ?_⟩
    rcases Nat.lt_or_ge i ys.length with hi | hi
    · rw [List.getElem?_append_left hi] at hz
      exact hr i z hz
    · rw [List.getElem?_append_right hi] at hz
      obtain ⟨h1, h2⟩ := List.getElem?_eq_some_iff.1 hz
      have : i = n := by simp at h1; omega
      subst this
      simp at h2
      subst h2
      exact hy

theorem weightsAll_mem {H : Type} {P : Program} {e : TypeId} : ∀ {ds : List (DataW H)} {d : DataW H}, d ∈ ds → ∀ n ∈ d.weights P e, n ∈ DataW.weightsAll P e ds
  | d0 :: ds, d, hd, n, hn => by
    simp only [DataW.weightsAll, List.mem_append]
    rcases List.mem_cons.1 hd with rfl | hd
    · exact .inl hn
    · exact .inr (weightsAll_mem hd n hn)
  | [], _, hd, _, _ => by simp at hd

theorem add_add (a : Addr) (i j : Nat) : (a.add i).add j = a.add (i + j) := by
  unfold Addr.add
  by_cases hi : i = 0 <;> by_cases hj : j = 0 <;> simp [hi, hj, Nat.add_assoc]

theorem opn_slice {α : Type} {k : Kd α} {P : Program} {t e : TypeId} {B : Nat} {g : α → Prop} (ht : P.underlying t = some (.slice e)) (hc : P.cellsOf e = k.sz) (hB : P.bytesOf e = B) (hk : Opn k P e g) :
    Opn (Kd.slice e k) P t (fun xs => xs.length * B ≤ 140737488351232 ∧ ∀ x ∈ xs, g x) := by
  intro H enc w base spare held fuel cs x h hw
  rcases DataW.trod_slice ht h with ⟨rfl, rfl⟩ | ⟨a, len, cap, elems, rest, n, _, rfl, rfl, _, hl, hm, hlen, hel, _⟩
  · exact ⟨[], ⟨none, 0, rfl, Nat.le_refl _, Kd.C_nil k w⟩, by simp, by simp⟩
  · have hwt : (elems.length + rest.length) * B ≤ reachBytes := by
      have := hw ((elems.length + rest.length) * B) (by simp [DataW.weights, ht, hB])
      exact this
    have hwe : ∀ y ∈ elems, ∀ m ∈ y.1.weights P e, m ≤ reachBytes := by
      intro y hy m hm'
      refine hw m ?_
      simp only [DataW.weights, ht]
      refine List.mem_cons_of_mem _ (List.mem_append_left _ (weightsAll_mem (List.mem_map_of_mem hy) m hm'))
    obtain ⟨ys, hyl, hyr⟩ := list_of (fun i y => g y ∧ ∃ c, c.length = k.sz ∧ k.K w y c ∧ ∀ j u, c[j]? = some u → w.cell? (a.add (i * k.sz + j)) = some u) len (by
      intro i hi
      have hE := hel i hi
      have hi' : i < elems.length := by omega
      rw [List.getElem?_eq_getElem hi'] at hE
      obtain ⟨c, hcc, hcd⟩ := Option.bind_eq_some_iff.1 hE
      obtain ⟨y, hK, hg⟩ := hk H enc w base spare held n c _ hcd (hwe _ (List.getElem_mem hi'))
      obtain ⟨_, hcl, hcell⟩ := World.cells?_some hcc
      refine ⟨y, hg, c, by rw [hcl, hc], hK, fun j u hu => ?_⟩
      have hj : j < c.length := (List.getElem?_eq_some_iff.1 hu).1
      have := hcell j (by omega)
      rw [add_add, hu, hc] at this
      exact this)
    subst hyl
    refine ⟨ys, ⟨some a, cap, rfl, hl, rfl, by unfold maxLen at hm; omega, fun _ => ⟨a, rfl, fun j p hj => (hyr j p hj).2⟩⟩, ?_, ?_⟩
    · have : ys.length * B ≤ (elems.length + rest.length) * B := Nat.mul_le_mul_right _ (by omega)
      have h2 : reachBytes = 140737488351232 := rfl
      show ys.length * B ≤ 140737488351232
      omega
    · intro x hx
      obtain ⟨i, hi⟩ := List.getElem?_of_mem hx
      exact (hyr i x hi).1

/-- What reads as data at a struct's fields, from a cell on. -/
def OpnF {α : Type} (k : Kd α) (P : Program) (fs : List Field) (off : Nat) (g : α → Prop) : Prop :=
  ∀ (H : Type) (enc : TypeId × Value → H) (w : World) (base : Nat) (spare : Nat → Bool) (held : Bool) (n : Nat) (cs : List Value) (xs : List (DataW H × List MemPlace)),
    off + k.sz = cs.length → (∀ (i : Nat) (f : Field), fs[i]? = some f → DataW.trod enc P w base spare held n f.type ((cs.drop f.offset).take (P.cellsOf f.type)) = xs[i]?) → xs.length = fs.length →
    (∀ (i : Nat) (f : Field) (x : DataW H × List MemPlace), fs[i]? = some f → xs[i]? = some x → ∀ m ∈ x.1.weights P f.type, m ≤ reachBytes) → ∃ y, k.K w y (cs.drop off) ∧ g y

theorem opnF_one {α : Type} {k : Kd α} {P : Program} {f : Field} {off : Nat} {g : α → Prop} (ho : f.offset = off) (hc : P.cellsOf f.type = k.sz) (hk : Opn k P f.type g) : OpnF k P [f] off g := by
  intro H enc w base spare held n cs xs hl hx hlen hw
  match xs, hlen with
  | [x], _ =>
    have h := hx 0 f rfl
    rw [ho, hc, List.take_of_length_le (by rw [List.length_drop]; omega)] at h
    exact hk H enc w base spare held n _ x h (hw 0 f x rfl rfl)

theorem opnF_cons {α β : Type} {a : Kd α} {b : Kd β} {P : Program} {f : Field} {fs : List Field} {off off' : Nat} {g1 : α → Prop} {g2 : β → Prop} (ho : f.offset = off) (hc : P.cellsOf f.type = a.sz) (hoff : off' = off + a.sz)
    (hk : Opn a P f.type g1) (hr : OpnF b P fs off' g2) : OpnF (Kd.pair a b) P (f :: fs) off (fun y => g1 y.1 ∧ g2 y.2) := by
  intro H enc w base spare held n cs xs hl hx hlen hw
  match xs, hlen with
  | x :: xs, hlen =>
    have hl' : off + (a.sz + b.sz) = cs.length := hl
    have h := hx 0 f rfl
    rw [ho, hc] at h
    obtain ⟨y, hK, hg⟩ := hk H enc w base spare held n _ x h (hw 0 f x rfl rfl)
    obtain ⟨z, hK2, hg2⟩ := hr H enc w base spare held n cs xs (by omega) (fun i f' hf => by simpa using hx (i + 1) f' (by simpa using hf)) (by simpa using hlen) (fun i f' x' hf hx' => hw (i + 1) f' x' (by simpa using hf) (by simpa using hx'))
    refine ⟨(y, z), ⟨(cs.drop off).take a.sz, cs.drop off', ?_, hK, hK2⟩, hg, hg2⟩
    rw [hoff, ← List.drop_drop, List.take_append_drop]

theorem opn_struct {α : Type} {k : Kd α} {P : Program} {t : TypeId} {fs : Array Field} {g : α → Prop} (ht : P.underlying t = some (.struct fs)) (hc : P.cellsOf t = k.sz) (hk : OpnF k P fs.toList 0 g) : Opn k P t g := by
  intro H enc w base spare held fuel cs x h hw
  obtain ⟨xs, n, _, rfl, hl, hlen, hf⟩ := DataW.trod_struct ht h
  have := hk H enc w base spare held n cs xs (by omega) (fun i f hfi => hf i f (by simpa using hfi)) (by simpa using hlen) (by
    intro i f x hfi hxi m hm
    refine hw m ?_
    simp only [DataW.weights, ht]
    refine DataW.weights_mem_each (j := i) (t := f.type) (d := x.1) ?_ ?_ m hm
    · rw [List.getElem?_map, hfi]
      rfl
    · rw [List.getElem?_map, hxi]
      rfl)
  simpa using this

/-- An array of two. -/
theorem opn_array2 {α : Type} {k : Kd α} {P : Program} {t e : TypeId} {g : α → Prop} (ht : P.underlying t = some (.array 2 e)) (hc : P.cellsOf e = k.sz) (hs : P.cellsOf t = k.sz + k.sz) (hk : Opn k P e g) : Opn (Kd.pair k k) P t (fun y => g y.1 ∧ g y.2) := by
  intro H enc w base spare held fuel cs x h hw
  obtain ⟨xs, m, _, rfl, hl, hlen, hf⟩ := DataW.trod_array ht h
  match xs, hlen with
  | [a, b], _ =>
    have hw' : ∀ y ∈ [a, b], ∀ n ∈ y.1.weights P e, n ≤ reachBytes := by
      intro y hy n hn
      refine hw n ?_
      simp only [DataW.weights, ht]
      exact weightsAll_mem (List.mem_map_of_mem hy) n hn
    have h0 := hf 0 (by omega)
    have h1 := hf 1 (by omega)
    rw [hc] at h0 h1
    obtain ⟨y, hK, hg⟩ := hk H enc w base spare held m _ a h0 (hw' a (by simp))
    obtain ⟨z, hK2, hg2⟩ := hk H enc w base spare held m _ b h1 (hw' b (by simp))
    rw [Nat.zero_mul, List.drop_zero] at hK
    rw [Nat.one_mul, List.take_of_length_le (by rw [List.length_drop]; omega)] at hK2
    exact ⟨(y, z), ⟨cs.take k.sz, cs.drop k.sz, (List.take_append_drop _ _).symm, hK, hK2⟩, hg, hg2⟩

theorem opn_iso {α β : Type} {k : Kd α} {P : Program} {t : TypeId} {g : α → Prop} {f : β → α} (hk : Opn k P t g) (hf : ∀ z, ∃ y, f y = z) : Opn (Kd.iso k f) P t (fun y => g (f y)) := by
  intro H enc w base spare held fuel cs x h hw
  obtain ⟨z, hK, hg⟩ := hk H enc w base spare held fuel cs x h hw
  obtain ⟨y, rfl⟩ := hf z
  exact ⟨y, hK, hg⟩

theorem opn_imp {α : Type} {k : Kd α} {P : Program} {t : TypeId} {g g' : α → Prop} (hk : Opn k P t g) (h : ∀ y, g y → g' y) : Opn k P t g' := by
  intro H enc w base spare held fuel cs x hx hw
  obtain ⟨y, hK, hg⟩ := hk H enc w base spare held fuel cs x hx hw
  exact ⟨y, hK, h y hg⟩

/-- An argument of a row, opened by its kind. -/
theorem opn_arg {α : Type} {k : Kd α} {P : Program} {t : TypeId} {g : α → Prop} (hk : Opn k P t g) {H : Type} {enc : TypeId × Value → H} {W : World} {base : Nat} {spare : Nat → Bool} {held : Bool} {v : Value} {d : DataW H} {ps : List MemPlace} {ts : List TypeId} {ds : List (DataW H)} {j : Nat}
    (hsz : (DataW.weightsEach P ts ds).all (· ≤ reachBytes) = true) (ht : ts[j]? = some t) (hd : ds[j]? = some d) (h : DataW.Trod enc P W base spare held t v d ps) : ∃ y, k.K W y v.cells.toList ∧ g y := by
  obtain ⟨fuel, hf⟩ := h
  refine hk H enc W base spare held fuel _ _ hf (fun n hn => ?_)
  have := List.all_eq_true.1 hsz _ (DataW.weights_mem_each ht hd n hn)
  simpa using this
theorem agg_of {cs : Array Value} {l : List Value} (h : cs.toList = l) : Value.agg cs = Value.agg l.toArray := by
  subst h
  simp
end Go.Proofs.Ytekpnmeikibioaa.Bridge
