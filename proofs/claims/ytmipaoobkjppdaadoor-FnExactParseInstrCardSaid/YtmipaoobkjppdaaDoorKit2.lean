/- More of the loops that the laws share: copying and comparing by a function that has rounds of its own; what is left of a size; texts as lists of bytes. -/
import Derived.Test.YtmipaoobkjppdaaDoorKit
import Derived.Laws.Strings
set_option linter.unusedVariables false
namespace Go.Proofs.YtmipaoobkjppdaaDoor.Kit
open Go.RowKit Go.Proofs.YtmipaoobkjppdaaDoorW.PrintWords Go.Proofs.YtmipaoobkjppdaaDoorW.PrintLast

theorem bytes_inj {a b : ByteArray} : a.toList = b.toList ↔ a = b := by
  rw [Go.ByteArray.toList_eq, Go.ByteArray.toList_eq]
  constructor
  · intro h
    cases a with | mk a => cases b with | mk b =>
    have : a = b := Array.toList_inj.1 h
    rw [this]
  · intro h
    rw [h]

section
variable {α β : Type} (g : Nat → α → Option β) (gg : α → β) (da : α) (L : Nat → List α → List β → Int → Option (List β))
theorem copyG_loop (hL : ∀ k x0 x3 i, L (k + 1) x0 x3 i = if i < (x0.length : Int) then (if 0 ≤ i then ((g k (x0.getD i.toNat da)).bind fun y => (if i < (x3.length : Int) then L k x0 (x3.set (i : Int).toNat y) (wrap64 (i + 1)) else none)) else none) else some x3)
    (K : Nat) (l : List α) (hg : ∀ x ∈ l, ∀ k, K < k → g k x = some (gg x)) (hb : l.length < 4611686018427387904) (d : Nat) : ∀ (k i : Nat) (x3 : List β), i ≤ l.length → l.length - i = d → d + K < k → x3.length = l.length → L k l x3 (i : Int) = some (x3.take i ++ (l.drop i).map gg) := by
  induction d with
  | zero =>
    intro k i x3 h0 h1 h2 h3
    obtain ⟨k, rfl⟩ : ∃ m, k = m + 1 := ⟨k - 1, by omega⟩
    rw [hL, if_neg (by omega)]
    have hi : i = l.length := by omega
    subst hi
    rw [List.drop_length, List.map_nil, List.append_nil, List.take_of_length_le (by omega)]
  | succ d ih =>
    intro k i x3 h0 h1 h2 h3
    obtain ⟨k, rfl⟩ : ∃ m, k = m + 1 := ⟨k - 1, by omega⟩
    have hi : i < l.length := by omega
    have e : l.getD i da = l[i] := by rw [List.getD_eq_getElem?_getD, List.getElem?_eq_getElem hi]; rfl
    rw [hL, if_pos (by omega), if_pos (by omega), Int.toNat_natCast, e, hg l[i] (List.getElem_mem hi) k (by omega)]
    simp only [Option.bind_some]
    rw [if_pos (by omega), wrap_succ i (by omega), ih k (i + 1) _ (by omega) (by omega) (by omega) (by simpa using h3)]
    rw [take_set _ _ _ (by omega), drop_get l i hi, List.map_cons, List.append_assoc]
    rfl
theorem copyG_spec (hL : ∀ k x0 x3 i, L (k + 1) x0 x3 i = if i < (x0.length : Int) then (if 0 ≤ i then ((g k (x0.getD i.toNat da)).bind fun y => (if i < (x3.length : Int) then L k x0 (x3.set (i : Int).toNat y) (wrap64 (i + 1)) else none)) else none) else some x3)
    {f : Nat → List α → Option (List β)} {B : Nat} {z : β} (hf : ∀ k l, f k l = if 0 ≤ (l.length : Int) then (if ((l.length : Int) : Int).toNat ≤ B then L k l (List.replicate ((l.length : Int) : Int).toNat z) 0 else none) else none)
    (K : Nat) (l : List α) (hg : ∀ x ∈ l, ∀ k, K < k → g k x = some (gg x)) (hB : l.length ≤ B) (hb : l.length < 4611686018427387904) (k : Nat) (hk : l.length + K < k) : f k l = some (l.map gg) := by
  have h := copyG_loop g gg da L hL K l hg hb l.length k 0 (List.replicate l.length z) (by omega) (by omega) hk (by simp)
  rw [hf, if_pos (by omega), if_pos (by simpa using hB), Int.toNat_natCast]
  simpa using h
end

section
variable {α : Type} [DecidableEq α] (e : Nat → α → α → Option Bool) (da : α) (L : Nat → List α → List α → Int → Option Bool)
theorem eqG_loop (hL : ∀ k x0 x1 i, L (k + 1) x0 x1 i = if i < (x0.length : Int) then (if 0 ≤ i then (if i < (x1.length : Int) then ((e k (x0.getD i.toNat da) (x1.getD i.toNat da)).bind fun t => (if t = true then L k x0 x1 (wrap64 (i + 1)) else some false)) else none) else none) else some true)
    (K : Nat) (a b : List α) (he : ∀ x ∈ a, ∀ y ∈ b, ∀ k, K < k → e k x y = some (decide (x = y))) (hab : a.length = b.length) (hb : a.length < 4611686018427387904) (d : Nat) : ∀ (k i : Nat), i ≤ a.length → a.length - i = d → d + K < k → L k a b (i : Int) = some (decide (a.drop i = b.drop i)) := by
  induction d with
  | zero =>
    intro k i h0 h1 h2
    obtain ⟨k, rfl⟩ : ∃ m, k = m + 1 := ⟨k - 1, by omega⟩
    rw [hL, if_neg (by omega)]
    have hi : i = a.length := by omega
    subst hi
    simp [hab]
  | succ d ih =>
    intro k i h0 h1 h2
    obtain ⟨k, rfl⟩ : ∃ m, k = m + 1 := ⟨k - 1, by omega⟩
    have hi : i < a.length := by omega
    have hi' : i < b.length := by omega
    have e1 : a.getD i da = a[i] := by rw [List.getD_eq_getElem?_getD, List.getElem?_eq_getElem hi]; rfl
    have e2 : b.getD i da = b[i] := by rw [List.getD_eq_getElem?_getD, List.getElem?_eq_getElem hi']; rfl
    rw [hL, if_pos (by omega), if_pos (by omega), if_pos (by omega), wrap_succ i (by omega), Int.toNat_natCast]
    rw [e1, e2, he a[i] (List.getElem_mem hi) b[i] (List.getElem_mem hi') k (by omega), drop_get a i hi, drop_get b i hi', ih k (i + 1) (by omega) (by omega) (by omega)]
    simp only [Option.bind_some]
    by_cases h : a[i] = b[i]
    · rw [decide_eq_true h, if_pos rfl, h]
      simp only [List.cons.injEq, true_and]
    · rw [decide_eq_false h, if_neg (by simp)]
      simp only [List.cons.injEq, h, false_and, decide_false]
theorem eqG_spec (hL : ∀ k x0 x1 i, L (k + 1) x0 x1 i = if i < (x0.length : Int) then (if 0 ≤ i then (if i < (x1.length : Int) then ((e k (x0.getD i.toNat da) (x1.getD i.toNat da)).bind fun t => (if t = true then L k x0 x1 (wrap64 (i + 1)) else some false)) else none) else none) else some true)
    {f : Nat → List α → List α → Option Bool} (hf : ∀ k a b, f k a b = if (a.length : Int) = (b.length : Int) then L k a b 0 else some false)
    (K : Nat) (a b : List α) (he : ∀ x ∈ a, ∀ y ∈ b, ∀ k, K < k → e k x y = some (decide (x = y))) (hb : a.length < 4611686018427387904) (k : Nat) (hk : a.length + K < k) : f k a b = some (decide (a = b)) := by
  rw [hf]
  by_cases h : a.length = b.length
  · rw [if_pos (by omega)]
    have := eqG_loop e da L hL K a b he h hb a.length k 0 (by omega) (by omega) hk
    simpa using this
  · rw [if_neg (by omega)]
    have : a ≠ b := fun e => h (by rw [e])
    simp [this]
end

/-! ### What is left of a size -/
def sub (left : Int) (w : Nat) : Int := if left - (w : Int) < 0 then -1 else left - (w : Int)
theorem sub_le (left : Int) (w : Nat) (h : 0 ≤ sub left w) : (w : Int) ≤ left ∧ sub left w = left - w := by
  unfold sub at h ⊢
  split at h
  · omega
  · rename_i h1
    rw [if_neg h1]
    omega
theorem sub_neg (left : Int) (w : Nat) : sub left w < 0 ↔ left < (w : Int) := by
  unfold sub
  split <;> omega
section
variable {α : Type} (s : Nat → α → Int → Option Int) (wt : α → Nat) (da : α) (L : Nat → List α → Int → Int → Option Int)
def sumW (wt : α → Nat) (l : List α) : Nat := (l.map wt).sum
theorem szG_loop (hL : ∀ k x0 x1 i, L (k + 1) x0 x1 i = if i < (x0.length : Int) then (if 0 ≤ i then ((s k (x0.getD i.toNat da) x1).bind fun t => (if t < 0 then some (-1) else L k x0 t (wrap64 (i + 1)))) else none) else some x1)
    (K : Nat) (l : List α) (hs : ∀ x ∈ l, ∀ k left, K < k → 0 ≤ left → left ≤ 1048576 → s k x left = some (sub left (wt x))) (hb : l.length < 4611686018427387904) (d : Nat) : ∀ (k i : Nat) (left : Int), 0 ≤ left → left ≤ 1048576 → i ≤ l.length → l.length - i = d → d + K < k → L k l left (i : Int) = some (sub left (sumW wt (l.drop i))) := by
  induction d with
  | zero =>
    intro k i left hl0 hl1 h0 h1 h2
    obtain ⟨k, rfl⟩ : ∃ m, k = m + 1 := ⟨k - 1, by omega⟩
    rw [hL, if_neg (by omega)]
    have hi : i = l.length := by omega
    subst hi
    rw [List.drop_length]
    unfold sub sumW
    simp
    omega
  | succ d ih =>
    intro k i left hl0 hl1 h0 h1 h2
    obtain ⟨k, rfl⟩ : ∃ m, k = m + 1 := ⟨k - 1, by omega⟩
    have hi : i < l.length := by omega
    have e1 : l.getD i da = l[i] := by rw [List.getD_eq_getElem?_getD, List.getElem?_eq_getElem hi]; rfl
    rw [hL, if_pos (by omega), if_pos (by omega), Int.toNat_natCast, e1, hs l[i] (List.getElem_mem hi) k left (by omega) hl0 hl1, drop_get l i hi]
    simp only [Option.bind_some]
    have e2 : sumW wt (l[i] :: l.drop (i + 1)) = wt l[i] + sumW wt (l.drop (i + 1)) := by unfold sumW; rw [List.map_cons, List.sum_cons]
    rw [e2]
    by_cases c : sub left (wt l[i]) < 0
    · rw [if_pos c]
      have := (sub_neg left (wt l[i])).1 c
      congr 1
      unfold sub
      rw [if_pos (by omega)]
    · rw [if_neg c, wrap_succ i (by omega)]
      obtain ⟨h3, h4⟩ := sub_le left (wt l[i]) (by omega)
      rw [h4, ih k (i + 1) _ (by omega) (by omega) (by omega) (by omega) (by omega)]
      congr 1
      unfold sub
      split <;> split <;> omega
/-- The length first, then each element. -/
theorem szG_spec (hL : ∀ k x0 x1 i, L (k + 1) x0 x1 i = if i < (x0.length : Int) then (if 0 ≤ i then ((s k (x0.getD i.toNat da) x1).bind fun t => (if t < 0 then some (-1) else L k x0 t (wrap64 (i + 1)))) else none) else some x1)
    {f : Nat → List α → Int → Option Int} (hf : ∀ k l a, f k l a = if (wrap64 (a - (l.length : Int))) < 0 then some (-1) else L k l (wrap64 (a - (l.length : Int))) 0)
    (K : Nat) (l : List α) (hs : ∀ x ∈ l, ∀ k left, K < k → 0 ≤ left → left ≤ 1048576 → s k x left = some (sub left (wt x))) (hb : l.length ≤ 9223372036854775807) (left : Int) (hl0 : 0 ≤ left) (hl1 : left ≤ 1048576) (k : Nat) (hk : 1048576 + K < k) :
    f k l left = some (sub left (l.length + sumW wt l)) := by
  have e : wrap64 (left - (l.length : Int)) = left - (l.length : Int) := wrap_id _ (by omega) (by omega)
  rw [hf, e]
  by_cases c : left - (l.length : Int) < 0
  · rw [if_pos c]
    congr 1
    unfold sub
    rw [if_pos (by omega)]
  · rw [if_neg c]
    have := szG_loop s wt da L hL K l hs (by omega) l.length k 0 (left - (l.length : Int)) (by omega) (by omega) (by omega) (by omega) (by omega)
    rw [show ((0 : Nat) : Int) = 0 from rfl] at this
    rw [this, List.drop_zero]
    congr 1
    unfold sub
    split <;> split <;> omega
end
end Go.Proofs.YtmipaoobkjppdaaDoor.Kit
