/- What slices.EqualFunc answers, over any relation that may lack an answer. -/
import Derived.Test.YtbepcmocadakhaaFunc
set_option linter.unusedVariables false
namespace Go.Proofs.Ytbepcmocadakhaa.Func
open Go.RowKit Go.Proofs.YtbepcmocadakhaaW.PrintWords

/-- What slices.EqualFunc answers for slices of one length. -/
def eqO {α : Type} (q : α → α → Option Bool) : List α → List α → Option Bool
  | x :: xs, y :: ys => (q x y).bind fun b => if b = true then eqO q xs ys else some false
  | [], _ => some true
  | _ :: _, [] => some true
theorem eqO_mono {α : Type} {q q' : α → α → Option Bool} (h : ∀ x y, LeO (q x y) (q' x y)) : ∀ (l m : List α), LeO (eqO q l m) (eqO q' l m)
  | x :: xs, y :: ys => by
    unfold eqO
    exact LeO.bind (h x y) fun b => LeO.ite (eqO_mono h xs ys) (LeO.refl _)
  | [], _ => LeO.refl _
  | _ :: _, [] => LeO.refl _
theorem eqO_step {α : Type} (q : α → α → Option Bool) (l m : List α) (z : α) (i : Nat) (h : i < l.length) (h' : i < m.length) : eqO q (l.drop i) (m.drop i) = (q (l.getD i z) (m.getD i z)).bind fun b => if b = true then eqO q (l.drop (i + 1)) (m.drop (i + 1)) else some false := by
  rw [List.drop_eq_getElem_cons h, List.drop_eq_getElem_cons h', List.getD_eq_getElem?_getD, List.getElem?_eq_getElem h, List.getD_eq_getElem?_getD, List.getElem?_eq_getElem h']
  rfl
theorem eqO_end {α : Type} (q : α → α → Option Bool) (l m : List α) : eqO q (l.drop l.length) m = some true := by
  rw [List.drop_length]
  rfl
/-- Over a predicate that asks whether two are the same. -/
theorem eqO_eq {α : Type} (q : α → α → Option Bool) : ∀ (l m : List α) (b : List α → List α → Bool), (∀ l m, b l m = true ↔ l = m) → l.length = m.length → (∀ x ∈ l, ∀ y ∈ m, ∃ c : Bool, q x y = some c ∧ (c = true ↔ x = y)) → eqO q l m = some (b l m)
  | x :: xs, y :: ys, b, hb, hl, h => by
    obtain ⟨c, h1, h2⟩ := h x (List.mem_cons_self ..) y (List.mem_cons_self ..)
    have ih := eqO_eq q xs ys b hb (by simpa using hl) (fun u hu v hv => h u (List.mem_cons_of_mem _ hu) v (List.mem_cons_of_mem _ hv))
    unfold eqO
    rw [h1]
    simp only [Option.bind_some]
    by_cases e : c = true
    · rw [if_pos e, ih]
      congr 1
      apply Bool.eq_iff_iff.2
      rw [hb, hb, h2.1 e]
      simp
    · rw [if_neg e]
      congr 1
      symm
      apply Bool.eq_false_iff.2
      intro g
      have := (hb _ _).1 g
      simp only [List.cons.injEq] at this
      exact e (h2.2 this.1)
  | [], [], b, hb, _, _ => by
    unfold eqO
    rw [(hb [] []).2 rfl]
  | [], _ :: _, _, _, hl, _ => by simp at hl
  | _ :: _, [], _, _, hl, _ => by simp at hl
end Go.Proofs.Ytbepcmocadakhaa.Func
