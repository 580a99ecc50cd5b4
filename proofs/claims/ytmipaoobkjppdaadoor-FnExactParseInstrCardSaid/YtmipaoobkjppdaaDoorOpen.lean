/- From the reading of an argument (DataW.trod) to the print's own facts on its cells (Kd.K), kind by kind: whole numbers, bools, strings, slices, structs. -/
import Derived.Deep.Slices
import Derived.ChangeSame
import Derived.WideShapes
import Derived.ChangeArms
import Derived.Test.YtmipaoobkjppdaaDoorWWords
set_option linter.unusedVariables false
namespace Go.Proofs.YtmipaoobkjppdaaDoor.Bridge
open Go.ChangeShapes Go.WideShapes Go.Deep Go.RowKit Go.Proofs.YtmipaoobkjppdaaDoorW.PrintWords

/-- Whatever reads as a value of type t is a value of the kind d, and good. -/
def Op (P : Program) (t : TypeId) {α : Type} (d : Kd α) (G : α → Prop) : Prop :=
  ∀ (H : Type) (enc : TypeId × Value → H) (w : World) (base : Nat) (spare : Nat → Bool) (held : Bool) (fuel : Nat) (cs : List Value) (x : DataW H × List MemPlace),
    DataW.trod enc P w base spare held fuel t cs = some x → ∃ y : α, d.K w y cs ∧ G y

theorem op_int {P : Program} {t : TypeId} {k : IntKind} (ht : P.underlying t = some (.int k)) : Op P t (Kd.int k) (fun n => (Lit.int k n).wf = true) := by
  intro H enc w base spare held fuel cs x h
  obtain ⟨n, rfl, _, hw⟩ := DataW.trod_int ht h
  exact ⟨n, rfl, hw⟩
theorem op_string {P : Program} {t : TypeId} (ht : P.underlying t = some .string) : Op P t Kd.string (fun s => s.size ≤ maxLen) := by
  intro H enc w base spare held fuel cs x h
  obtain ⟨s, rfl, _, hs⟩ := DataW.trod_string ht h
  exact ⟨s, rfl, hs⟩

theorem list_of {α : Type} {p : Nat → α → Prop} : ∀ {n : Nat}, (∀ i, i < n → ∃ y, p i y) → ∃ xs : List α, xs.length = n ∧ ∀ i y, xs[i]? = some y → p i y
  | 0, _ => ⟨[], rfl, fun i y h => by simp at h⟩
  | n + 1, h => by
    obtain ⟨xs, hl, hx⟩ := list_of (n := n) (fun i hi => h i (by omega))
    obtain ⟨y, hy⟩ := h n (by omega)
    refine ⟨xs ++ [y], by simp [hl], fun i z hz => ?_⟩
    rcases Nat.lt_or_ge i xs.length with hi | hi
    · rw [List.getElem?_append_left hi] at hz
      exact hx i z hz
    · have hi' : i = n := by
        have := (List.getElem?_eq_some_iff.1 hz).1
        simp at this
        omega
      subst hi'
      rw [List.getElem?_append_right hi] at hz
      have : y = z := by simpa [hl] using hz
      subst this
      exact hy

theorem op_slice {P : Program} {t e : TypeId} {α : Type} {d : Kd α} {G : α → Prop} (ht : P.underlying t = some (.slice e)) (ho : Op P e d G) (hc : P.cellsOf e = d.sz) :
    Op P t (Kd.slice e d) (fun xs => xs.length ≤ maxLen ∧ ∀ y ∈ xs, G y) := by
  intro H enc w base spare held fuel cs x h
  rcases open_slice ht h with ⟨rfl, _⟩ | ⟨a, len, cap, m, n, D, Pl, rfl, hb, hl, hm, hmm, rfl, hx⟩
  · exact ⟨[], ⟨none, 0, rfl, Nat.le_refl _, rfl, by simp, fun h => absurd h (by simp)⟩, by simp, by simp⟩
  · have hlm : len ≤ m := by rw [hmm]; split <;> omega
    have hx' : ∀ i, i < len → ∃ y : α, G y ∧ ∃ cs', cs'.length = d.sz ∧ d.K w y cs' ∧ ∀ j u, cs'[j]? = some u → w.cell? (a.add (i * d.sz + j)) = some u := by
      intro i hi
      obtain ⟨cs', h1, h2⟩ := hx i (by omega)
      obtain ⟨y, hk, hg⟩ := ho H enc w base spare held n cs' _ h2
      obtain ⟨_, hlen, hat⟩ := World.cells?_some h1
      refine ⟨y, hg, cs', d.K_len hk, hk, fun j u hu => ?_⟩
      have hj : j < cs'.length := (List.getElem?_eq_some_iff.1 hu).1
      have h3 := hat j (by omega)
      rw [Go.Deep.add_add, hc] at h3
      exact h3.trans hu
    obtain ⟨xs, hxl, hxs⟩ := list_of hx'
    refine ⟨xs, ⟨some a, cap, by rw [hxl], by omega, rfl, by simp only [maxLen] at hm; omega, fun _ => ⟨a, rfl, fun j p hj => ?_⟩⟩, by omega, fun y hy => ?_⟩
    · obtain ⟨_, cs', h1, h2, h3⟩ := hxs j p hj
      exact ⟨cs', h1, h2, h3⟩
    · obtain ⟨i, hi⟩ := List.mem_iff_getElem?.1 hy
      exact (hxs i y hi).1

/-- The fields of a struct from a place on. -/
def OpF (P : Program) (fs : List Field) (off : Nat) {α : Type} (d : Kd α) (G : α → Prop) : Prop :=
  ∀ (H : Type) (enc : TypeId × Value → H) (w : World) (base : Nat) (spare : Nat → Bool) (held : Bool) (n : Nat) (cs : List Value) (xs : List (DataW H × List MemPlace)), cs.length = off + d.sz → xs.length = fs.length →
    (∀ (i : Nat) (f : Field), fs[i]? = some f → DataW.trod enc P w base spare held n f.type ((cs.drop f.offset).take (P.cellsOf f.type)) = xs[i]?) → ∃ y : α, d.K w y (cs.drop off) ∧ G y

theorem opf_one {P : Program} {f : Field} {off : Nat} {α : Type} {d : Kd α} {G : α → Prop} (ho : f.offset = off) (hc : P.cellsOf f.type = d.sz) (h : Op P f.type d G) : OpF P [f] off d G := by
  intro H enc w base spare held n cs xs hl hx hf
  match xs, hx with
  | [x], _ =>
    have h1 := hf 0 f rfl
    rw [ho, hc, List.take_of_length_le (by rw [List.length_drop]; omega)] at h1
    exact h H enc w base spare held n _ _ h1
theorem opf_cons {P : Program} {f : Field} {fs : List Field} {off : Nat} {α β : Type} {a : Kd α} {b : Kd β} {Ga : α → Prop} {Gb : β → Prop} (ho : f.offset = off) (hc : P.cellsOf f.type = a.sz) (h : Op P f.type a Ga) (hs : OpF P fs (off + a.sz) b Gb) :
    OpF P (f :: fs) off (Kd.pair a b) (fun z => Ga z.1 ∧ Gb z.2) := by
  intro H enc w base spare held n cs xs hl hx hf
  match xs, hx with
  | x :: xs, hx =>
    have h1 := hf 0 f rfl
    rw [ho, hc] at h1
    obtain ⟨y, hk, hg⟩ := h H enc w base spare held n _ _ h1
    obtain ⟨z, hk2, hg2⟩ := hs H enc w base spare held n cs xs (by rw [hl]; show off + (a.sz + b.sz) = _; omega) (by simpa using hx) (fun i g hi => by have := hf (i + 1) g (by simpa using hi); simpa using this)
    refine ⟨(y, z), ⟨(cs.drop off).take a.sz, cs.drop (off + a.sz), ?_, hk, hk2⟩, hg, hg2⟩
    rw [← List.drop_drop, List.take_append_drop]
theorem op_struct {P : Program} {t : TypeId} {fs : Array Field} {α β : Type} {d : Kd α} {G : α → Prop} {f : β → α} {g : α → β} (ht : P.underlying t = some (.struct fs)) (hF : OpF P fs.toList 0 d G) (hc : P.cellsOf t = d.sz) (hg : ∀ x, f (g x) = x) :
    Op P t (Kd.iso d f) (fun y => G (f y)) := by
  intro H enc w base spare held fuel cs x h
  obtain ⟨xs, n, _, _, hl, hxl, hf⟩ := DataW.trod_struct ht h
  obtain ⟨y, hk, hg'⟩ := hF H enc w base spare held n cs xs (by omega) (by simpa using hxl) (fun i f0 hi => hf i f0 (by simpa using hi))
  refine ⟨g y, ?_, ?_⟩
  · show d.K w (f (g y)) cs
    rw [hg]
    exact hk
  · show G (f (g y))
    rw [hg]
    exact hg'
end Go.Proofs.YtmipaoobkjppdaaDoor.Bridge
