import Derived.Test.YtdphghdjljplpaaDoorWWords
import Derived.ProofKit
import Derived.SizedLaws
import Derived.ChangeSame
import Derived.OpenShut
namespace Go.Proofs.YtdphghdjljplpaaDoor.Bridge
open Go.ChangeShapes Go.WideShapes Go.RowKit Go.Proofs.YtdphghdjljplpaaDoorW.PrintWords
def Opn {α : Type} (k : Kd α) (P : Program) (t : TypeId) (g : α → Prop) : Prop :=
  ∀ (H : Type) (enc : TypeId × Value → H) (w : World) (base : Nat) (spare : Nat → Bool) (held : Bool) (fuel : Nat) (cs : List Value) (x : DataW H × List MemPlace),
    DataW.trod enc P w base spare held fuel t cs = some x → (∀ n ∈ x.1.weights P t, n ≤ reachBytes) → ∃ y, k.K w y cs ∧ g y
theorem opn_int {P : Program} {t : TypeId} {kd : IntKind} (ht : P.underlying t = some (.int kd)) : Opn (Kd.int kd) P t (fun n => (Lit.int kd n).wf = true) := by
  intro H enc w base spare held fuel cs x h _
  obtain ⟨n, rfl, _, hw⟩:=DataW.trod_int ht h
  exact ⟨n, rfl, hw⟩
theorem opn_string {P : Program} {t : TypeId} (ht : P.underlying t = some .string) : Opn Kd.string P t (fun s => s.size ≤ 140737488351232) := by
  intro H enc w base spare held fuel cs x h hw
  obtain ⟨s, rfl, rfl, _⟩:=DataW.trod_string ht h
  refine ⟨s, rfl, ?_⟩
  have:=hw s.data.toList.length (by simp [DataW.weights])
  simpa [reachBytes] using this
def OpnF {α : Type} (k : Kd α) (P : Program) (fs : List Field) (off : Nat) (g : α → Prop) : Prop :=
  ∀ (H : Type) (enc : TypeId × Value → H) (w : World) (base : Nat) (spare : Nat → Bool) (held : Bool) (n : Nat) (cs : List Value) (xs : List (DataW H × List MemPlace)),
    off + k.sz = cs.length → (∀ (i : Nat) (f : Field), fs[i]? = some f → DataW.trod enc P w base spare held n f.type ((cs.drop f.offset).take (P.cellsOf f.type)) = xs[i]?) → xs.length = fs.length →
    (∀ (i : Nat) (f : Field) (x : DataW H × List MemPlace), fs[i]? = some f → xs[i]? = some x → ∀ m ∈ x.1.weights P f.type, m ≤ reachBytes) → ∃ y, k.K w y (cs.drop off) ∧ g y
theorem opnF_one {α : Type} {k : Kd α} {P : Program} {f : Field} {off : Nat} {g : α → Prop} (ho : f.offset = off) (hc : P.cellsOf f.type = k.sz) (hk : Opn k P f.type g) : OpnF k P [f] off g := by
  intro H enc w base spare held n cs xs hl hx hlen hw
  match xs, hlen with
 |[x], _ =>
    have h:=hx 0 f rfl
    rw [ho, hc, List.take_of_length_le (by rw [List.length_drop]; omega)] at h
    exact hk H enc w base spare held n _ x h (hw 0 f x rfl rfl)
theorem opnF_cons {α β : Type} {a : Kd α} {b : Kd β} {P : Program} {f : Field} {fs : List Field} {off off' : Nat} {g1 : α → Prop} {g2 : β → Prop} (ho : f.offset = off) (hc : P.cellsOf f.type = a.sz) (hoff : off' = off + a.sz)
    (hk : Opn a P f.type g1) (hr : OpnF b P fs off' g2) : OpnF (Kd.pair a b) P (f :: fs) off (fun y => g1 y.1 ∧ g2 y.2):=by
  intro H enc w base spare held n cs xs hl hx hlen hw
  match xs, hlen with
 |x :: xs, hlen =>
    have hl' : off + (a.sz + b.sz) = cs.length:=hl
    have h:=hx 0 f rfl
    rw [ho, hc] at h
    obtain ⟨y, hK, hg⟩:=hk H enc w base spare held n _ x h (hw 0 f x rfl rfl)
    obtain ⟨z, hK2, hg2⟩:=hr H enc w base spare held n cs xs (by omega) (fun i f' hf => by simpa using hx (i + 1) f' (by simpa using hf)) (by simpa using hlen) (fun i f' x' hf hx' => hw (i + 1) f' x' (by simpa using hf) (by simpa using hx'))
    refine ⟨(y, z), ⟨(cs.drop off).take a.sz, cs.drop off', ?_, hK, hK2⟩, hg, hg2⟩
    rw [hoff, ← List.drop_drop, List.take_append_drop]
theorem opn_struct {α : Type} {k : Kd α} {P : Program} {t : TypeId} {fs : Array Field} {g : α → Prop} (ht : P.underlying t = some (.struct fs)) (hc : P.cellsOf t = k.sz) (hk : OpnF k P fs.toList 0 g) : Opn k P t g := by
  intro H enc w base spare held fuel cs x h hw
  obtain ⟨xs, n, _, rfl, hl, hlen, hf⟩:=DataW.trod_struct ht h
  have:=hk H enc w base spare held n cs xs (by omega) (fun i f hfi => hf i f (by simpa using hfi)) (by simpa using hlen) (by
    intro i f x hfi hxi m hm
    refine hw m ?_
    simp only [DataW.weights, ht]
    refine DataW.weights_mem_each (j:=i) (t:=f.type) (d:=x.1) ?_ ?_ m hm
    · rw [List.getElem?_map, hfi]
      rfl
    · rw [List.getElem?_map, hxi]
      rfl)
  simpa using this
theorem opn_arg {α : Type} {k : Kd α} {P : Program} {t : TypeId} {g : α → Prop} (hk : Opn k P t g) {H : Type} {enc : TypeId × Value → H} {W : World} {base : Nat} {spare : Nat → Bool} {held : Bool} {v : Value} {d : DataW H} {ps : List MemPlace} {ts : List TypeId} {ds : List (DataW H)} {j : Nat}
    (hsz : (DataW.weightsEach P ts ds).all (· ≤ reachBytes) = true) (ht : ts[j]? = some t) (hd : ds[j]? = some d) (h : DataW.Trod enc P W base spare held t v d ps) : ∃ y, k.K W y v.cells.toList ∧ g y:=by
  obtain ⟨fuel, hf⟩:=h
  refine hk H enc W base spare held fuel _ _ hf (fun n hn => ?_)
  have:=List.all_eq_true.1 hsz _ (DataW.weights_mem_each ht hd n hn)
  simpa using this
end Go.Proofs.YtdphghdjljplpaaDoor.Bridge
