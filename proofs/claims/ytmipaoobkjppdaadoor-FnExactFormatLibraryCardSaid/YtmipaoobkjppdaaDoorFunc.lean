/- What slices.IndexFunc answers, over any predicate that may lack an answer. -/
import Derived.Test.YtmipaoobkjppdaaDoorWWords
import Derived.Shelf.Abstract
set_option linter.unusedVariables false
namespace Go.Proofs.YtmipaoobkjppdaaDoor.Func
open Go.RowKit Go.Proofs.YtmipaoobkjppdaaDoorW.PrintWords

def idxO {α : Type} (q : α → Option Bool) : List α → Int → Option Int
  | [], _ => some (-1)
  | x :: xs, i => (q x).bind fun b => if b = true then some i else idxO q xs (i + 1)
theorem idxO_mono {α : Type} {q q' : α → Option Bool} (h : ∀ x, LeO (q x) (q' x)) : ∀ (l : List α) (i : Int), LeO (idxO q l i) (idxO q' l i)
  | [], _ => LeO.refl _
  | x :: xs, i => by
    unfold idxO
    exact LeO.bind (h x) fun b => LeO.ite (LeO.refl _) (idxO_mono h xs (i + 1))
theorem idxO_step {α : Type} (q : α → Option Bool) (l : List α) (z : α) (i : Nat) (h : i < l.length) : idxO q (l.drop i) (i : Int) = (q (l.getD i z)).bind fun b => if b = true then some (i : Int) else idxO q (l.drop (i + 1)) ((i + 1 : Nat) : Int) := by
  rw [List.drop_eq_getElem_cons h, List.getD_eq_getElem?_getD, List.getElem?_eq_getElem h]
  rfl
/-- Over a predicate that always answers. -/
theorem idxO_any {α : Type} (p : α → Bool) : ∀ (l : List α) (i : Int), 0 ≤ i → ∃ r, idxO (fun x => some (p x)) l i = some r ∧ decide (r ≥ 0) = l.any p
  | [], i, _ => ⟨-1, rfl, rfl⟩
  | x :: xs, i, h => by
    unfold idxO
    obtain ⟨r, r1, r2⟩ := idxO_any p xs (i + 1) (by omega)
    simp only [Option.bind_some, List.any_cons]
    by_cases c : p x = true
    · rw [if_pos c, c]
      exact ⟨i, rfl, by simpa using h⟩
    · rw [if_neg c, Bool.eq_false_iff.2 c, Bool.false_or]
      exact ⟨r, r1, r2⟩
theorem idxO_congr {α : Type} {q q' : α → Option Bool} : ∀ (l : List α) (i : Int), (∀ x ∈ l, q x = q' x) → idxO q l i = idxO q' l i
  | [], _, _ => rfl
  | x :: xs, i, h => by
    unfold idxO
    rw [h x (List.mem_cons_self ..), idxO_congr xs (i + 1) (fun y hy => h y (List.mem_cons_of_mem _ hy))]
end Go.Proofs.YtmipaoobkjppdaaDoor.Func
