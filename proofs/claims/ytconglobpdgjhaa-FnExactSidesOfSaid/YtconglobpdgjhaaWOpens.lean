/- A value that is read by the form's own reading is of its kind (words of this session's): numbers, texts, bools, slices of whatever kind, structs field by field. -/
import Derived.Test.YtconglobpdgjhaaWWords
import Derived.Deep.Slices
import Derived.ChangeArms
import Derived.DataReads
namespace Go.Proofs.YtconglobpdgjhaaW.Opens
open Go.RowKit Go.Proofs.YtconglobpdgjhaaW.PrintWords Go.ChangeShapes Go.WideShapes
set_option linter.unusedVariables false

/-- Whatever is read at type t is of the kind K, and G holds of it. -/
def Opens {α : Type} (P : Program) (W : World) (K : Kd α) (G : α → Prop) (t : TypeId) : Prop :=
  ∀ (H : Type) (enc : TypeId × Value → H) (spare : Nat → Bool) (held : Bool) (fuel : Nat) (cs : List Value) (x : DataW H × List MemPlace),
    DataW.trod enc P W 0 spare held fuel t cs = some x → ∃ a, K.K W a cs ∧ G a

section
variable {P : Program} {W : World} {t : TypeId}

theorem Opens.int {k : IntKind} (ht : P.underlying t = some (.int k)) : Opens P W (Kd.int k) (fun n => (Lit.int k n).wf = true) t := by
  intro H enc spare held fuel cs x h
  obtain ⟨n, rfl, _, hw⟩ := DataW.trod_int ht h
  exact ⟨n, rfl, hw⟩

theorem Opens.bool (ht : P.underlying t = some .bool) : Opens P W Kd.bool (fun _ => True) t := by
  intro H enc spare held fuel cs x h
  obtain ⟨b, rfl, _⟩ := DataW.trod_bool ht h
  exact ⟨b, rfl, trivial⟩

theorem Opens.string (ht : P.underlying t = some .string) : Opens P W Kd.string (fun s => s.size ≤ maxLen) t := by
  intro H enc spare held fuel cs x h
  obtain ⟨s, rfl, _, hs⟩ := DataW.trod_string ht h
  exact ⟨s, rfl, hs⟩

theorem Opens.imp {α : Type} {K : Kd α} {G G' : α → Prop} (h : Opens P W K G t) (hg : ∀ a, G a → G' a) : Opens P W K G' t := by
  intro H enc spare held fuel cs x hx
  obtain ⟨a, h1, h2⟩ := h H enc spare held fuel cs x hx
  exact ⟨a, h1, hg a h2⟩

theorem Opens.slice {α : Type} {K : Kd α} {G : α → Prop} {e e' : TypeId} (ht : P.underlying t = some (.slice e)) (hc : P.cellsOf e = K.sz) (he : Opens P W K G e) :
    Opens P W (Kd.slice e' K) (fun l => l.length ≤ maxLen ∧ ∀ a ∈ l, G a) t := by
  classical
  intro H enc spare held fuel cs x h
  rcases Deep.open_slice ht h with ⟨rfl, _⟩ | ⟨a, len, cap, m, n, D, Pl, rfl, hb, hl, hm, hmm, _, hel⟩
  · exact ⟨[], ⟨none, 0, rfl, Nat.le_refl _, rfl, Nat.zero_le _, fun h0 => absurd h0 (Nat.lt_irrefl _)⟩, Nat.zero_le _, fun a ha => by cases ha⟩
  have hlm : len ≤ m := by rw [hmm]; split <;> omega
  have each : ∀ i : Fin len, ∃ y : α, G y ∧ ∃ cs', cs'.length = K.sz ∧ K.K W y cs' ∧ ∀ j u, cs'[j]? = some u → W.cell? (a.add (i.val * K.sz + j)) = some u := by
    intro i
    obtain ⟨cs', h1, h2⟩ := hel i.val (by omega)
    obtain ⟨y, hK, hG⟩ := he H enc spare held n cs' _ h2
    obtain ⟨_, hlen, hcell⟩ := World.cells?_some h1
    refine ⟨y, hG, cs', by rw [hlen, hc], hK, fun j u hj => ?_⟩
    have hj' : j < cs'.length := (List.getElem?_eq_some_iff.1 hj).1
    have := hcell j (by omega)
    rw [hj, Deep.add_add, hc] at this
    exact this
  let f : Fin len → α := fun i => Classical.choose (each i)
  have hf : ∀ i, G (f i) ∧ ∃ cs', cs'.length = K.sz ∧ K.K W (f i) cs' ∧ ∀ j u, cs'[j]? = some u → W.cell? (a.add (i.val * K.sz + j)) = some u := fun i => Classical.choose_spec (each i)
  have hlen : (List.ofFn f).length = len := List.length_ofFn
  have hml : maxLen ≤ 9223372036854775807 := by decide
  refine ⟨List.ofFn f, ⟨some a, cap, by rw [hlen], by rw [hlen]; exact hl, rfl, by rw [hlen]; omega, fun _ => ⟨a, rfl, fun j p hj => ?_⟩⟩, by rw [hlen]; omega, fun p hp => ?_⟩
  · have hj' : j < len := by have := (List.getElem?_eq_some_iff.1 hj).1; omega
    have : p = f ⟨j, hj'⟩ := by
      rw [List.getElem?_ofFn, dif_pos hj'] at hj
      exact (Option.some.inj hj).symm
    subst this
    exact (hf ⟨j, hj'⟩).2
  · obtain ⟨i, rfl⟩ := (List.mem_ofFn).1 hp
    exact (hf i).1

/-- Field i of a struct that is read. -/
theorem open_field {α : Type} {K : Kd α} {G : α → Prop} {fs : Array Field} (ht : P.underlying t = some (.struct fs)) {H : Type} {enc : TypeId × Value → H} {spare : Nat → Bool} {held : Bool} {fuel : Nat} {cs : List Value} {x : DataW H × List MemPlace}
    (h : DataW.trod enc P W 0 spare held fuel t cs = some x) (i : Nat) (f : Field) (hf : fs[i]? = some f) {o n : Nat} (ho : f.offset = o) (hn : P.cellsOf f.type = n) (hO : Opens P W K G f.type) :
    ∃ a, K.K W a ((cs.drop o).take n) ∧ G a := by
  subst ho hn
  obtain ⟨xs, n, _, _, _, hl, he⟩ := DataW.trod_struct ht h
  have hi := he i f hf
  have : i < xs.length := by rw [hl]; exact (Array.getElem?_eq_some_iff.1 hf).1
  rw [List.getElem?_eq_getElem this] at hi
  exact hO H enc spare held _ _ _ hi

/-- How many cells a struct that is read has. -/
theorem open_len {fs : Array Field} (ht : P.underlying t = some (.struct fs)) {H : Type} {enc : TypeId × Value → H} {spare : Nat → Bool} {held : Bool} {fuel : Nat} {cs : List Value} {x : DataW H × List MemPlace}
    (h : DataW.trod enc P W 0 spare held fuel t cs = some x) : cs.length = P.cellsOf t := by
  obtain ⟨_, _, _, _, hc, _⟩ := DataW.trod_struct ht h
  exact hc

theorem three_cells {cs : List Value} (h : cs.length = 3) : ∃ a b c, cs = [a, b, c] := by
  match cs, h with
  | [a, b, c], _ => exact ⟨a, b, c, rfl⟩
theorem two_cells {cs : List Value} (h : cs.length = 2) : ∃ a b, cs = [a, b] := by
  match cs, h with
  | [a, b], _ => exact ⟨a, b, rfl⟩
theorem arr_of {cs : Array Value} {l : List Value} (h : cs.toList = l) : cs = l.toArray := by
  cases cs; simpa using h
end
end Go.Proofs.YtconglobpdgjhaaW.Opens
