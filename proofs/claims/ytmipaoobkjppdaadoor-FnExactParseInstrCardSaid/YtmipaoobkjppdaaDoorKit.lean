/- The loops that the laws share, told over any function that steps as they do: copy, compare, mark, held; and small facts on rounds. -/
import Derived.Test.YtmipaoobkjppdaaDoorWWords
import Derived.Test.YtmipaoobkjppdaaDoorWLast
import Derived.Test.YtmipaoobkjppdaaDoorWSized
set_option linter.unusedVariables false
namespace Go.Proofs.YtmipaoobkjppdaaDoor.Kit
open Go.RowKit Go.Proofs.YtmipaoobkjppdaaDoorW.PrintWords Go.Proofs.YtmipaoobkjppdaaDoorW.PrintLast

theorem wrap_succ (i : Nat) (h : i < 4611686018427387904) : wrap64 ((i : Int) + 1) = ((i + 1 : Nat) : Int) := by
  unfold wrap64
  omega
theorem wrap_id (x : Int) (h0 : -9223372036854775808 ≤ x) (h1 : x ≤ 9223372036854775807) : wrap64 x = x := by
  unfold wrap64
  omega
theorem rd_lt (l : List Int) (i : Nat) (h : i < l.length) : rd l (i : Int) = l[i] := by
  unfold rd
  rw [Int.toNat_natCast, List.getD_eq_getElem?_getD, List.getElem?_eq_getElem h]
  rfl
theorem take_set {α : Type} (l : List α) (i : Nat) (v : α) (h : i < l.length) : (l.set i v).take (i + 1) = l.take i ++ [v] := by
  rw [List.take_succ_eq_append_getElem (by simpa using h), List.take_set, List.set_eq_of_length_le (by rw [List.length_take]; omega), List.getElem_set_self]
theorem drop_get {α : Type} (l : List α) (i : Nat) (h : i < l.length) : l.drop i = l[i] :: l.drop (i + 1) := List.drop_eq_getElem_cons h

/-! ### Copying, with a function on the elements -/
section
variable {α β : Type} (g : α → β) (da : α) (L : Nat → List α → List β → Int → Option (List β))
theorem copy_loop (hL : ∀ k x0 x3 i, L (k + 1) x0 x3 i = if i < (x0.length : Int) then (if 0 ≤ i then (if i < (x3.length : Int) then L k x0 (x3.set (i : Int).toNat (g (x0.getD i.toNat da))) (wrap64 (i + 1)) else none) else none) else some x3)
    (l : List α) (hb : l.length < 4611686018427387904) (d : Nat) : ∀ (k i : Nat) (x3 : List β), i ≤ l.length → l.length - i = d → d < k → x3.length = l.length → L k l x3 (i : Int) = some (x3.take i ++ (l.drop i).map g) := by
  induction d with
  | zero =>
    intro k i x3 h0 h1 h2 h3
    obtain ⟨k, rfl⟩ : ∃ m, k = m + 1 := ⟨k - 1, by omega⟩
    rw [hL, if_neg (by omega)]
    have hi : i = l.length := by omega
    subst hi
    rw [List.drop_length, List.map_nil, List.append_nil, List.take_of_length_le (by omega)]
  | succ d ih =>
    intro k i x3 h0 h1 h2 h3
    obtain ⟨k, rfl⟩ : ∃ m, k = m + 1 := ⟨k - 1, by omega⟩
    have hi : i < l.length := by omega
    rw [hL, if_pos (by omega), if_pos (by omega), if_pos (by omega), wrap_succ i (by omega)]
    rw [ih k (i + 1) _ (by omega) (by omega) (by omega) (by simpa using h3)]
    rw [Int.toNat_natCast, take_set _ _ _ (by omega), drop_get l i hi, List.map_cons]
    have e : l.getD i da = l[i] := by rw [List.getD_eq_getElem?_getD, List.getElem?_eq_getElem hi]; rfl
    rw [e, List.append_assoc]
    rfl
theorem copy_spec (hL : ∀ k x0 x3 i, L (k + 1) x0 x3 i = if i < (x0.length : Int) then (if 0 ≤ i then (if i < (x3.length : Int) then L k x0 (x3.set (i : Int).toNat (g (x0.getD i.toNat da))) (wrap64 (i + 1)) else none) else none) else some x3)
    {f : Nat → List α → Option (List β)} {B : Nat} {z : β} (hf : ∀ k l, f k l = if 0 ≤ (l.length : Int) then (if ((l.length : Int) : Int).toNat ≤ B then L k l (List.replicate ((l.length : Int) : Int).toNat z) 0 else none) else none)
    (l : List α) (hB : l.length ≤ B) (hb : l.length < 4611686018427387904) (k : Nat) (hk : l.length < k) : f k l = some (l.map g) := by
  have h := copy_loop g da L hL l hb l.length k 0 (List.replicate l.length z) (by omega) (by omega) hk (by simp)
  rw [hf, if_pos (by omega), if_pos (by simpa using hB), Int.toNat_natCast]
  simpa using h
end

/-! ### Comparing -/
section
variable {α : Type} [DecidableEq α] (da : α) (L : Nat → List α → List α → Int → Option Bool)
theorem eq_loop (hL : ∀ k x0 x1 i, L (k + 1) x0 x1 i = if i < (x0.length : Int) then (if 0 ≤ i then (if i < (x1.length : Int) then (if x0.getD i.toNat da = x1.getD i.toNat da then L k x0 x1 (wrap64 (i + 1)) else some false) else none) else none) else some true)
    (a b : List α) (hab : a.length = b.length) (hb : a.length < 4611686018427387904) (d : Nat) : ∀ (k i : Nat), i ≤ a.length → a.length - i = d → d < k → L k a b (i : Int) = some (decide (a.drop i = b.drop i)) := by
  induction d with
  | zero =>
    intro k i h0 h1 h2
    obtain ⟨k, rfl⟩ : ∃ m, k = m + 1 := ⟨k - 1, by omega⟩
    rw [hL, if_neg (by omega)]
    have hi : i = a.length := by omega
    subst hi
    simp [hab]
  | succ d ih =>
    intro k i h0 h1 h2
    obtain ⟨k, rfl⟩ : ∃ m, k = m + 1 := ⟨k - 1, by omega⟩
    have hi : i < a.length := by omega
    have hi' : i < b.length := by omega
    rw [hL, if_pos (by omega), if_pos (by omega), if_pos (by omega), wrap_succ i (by omega), Int.toNat_natCast]
    have e : a.getD i da = a[i] := by rw [List.getD_eq_getElem?_getD, List.getElem?_eq_getElem hi]; rfl
    have e' : b.getD i da = b[i] := by rw [List.getD_eq_getElem?_getD, List.getElem?_eq_getElem hi']; rfl
    rw [e, e', drop_get a i hi, drop_get b i hi', ih k (i + 1) (by omega) (by omega) (by omega)]
    by_cases h : a[i] = b[i]
    · rw [if_pos h, h]
      simp only [List.cons.injEq, true_and]
    · rw [if_neg h]
      simp only [List.cons.injEq, h, false_and, decide_false]
theorem eq_spec (hL : ∀ k x0 x1 i, L (k + 1) x0 x1 i = if i < (x0.length : Int) then (if 0 ≤ i then (if i < (x1.length : Int) then (if x0.getD i.toNat da = x1.getD i.toNat da then L k x0 x1 (wrap64 (i + 1)) else some false) else none) else none) else some true)
    {f : Nat → List α → List α → Option Bool} (hf : ∀ k a b, f k a b = if (a.length : Int) = (b.length : Int) then L k a b 0 else some false)
    (a b : List α) (hb : a.length < 4611686018427387904) (k : Nat) (hk : a.length < k) : f k a b = some (decide (a = b)) := by
  rw [hf]
  by_cases h : a.length = b.length
  · rw [if_pos (by omega)]
    have := eq_loop da L hL a b h hb a.length k 0 (by omega) (by omega) hk
    simpa using this
  · rw [if_neg (by omega)]
    have : a ≠ b := fun e => h (by rw [e])
    simp [this]
end

/-! ### slices.Equal: the length stands in a variable -/
section
variable {α : Type} [DecidableEq α] (da : α) (L : Nat → List α → List α → Int → Int → Option Bool)
theorem eqn_loop (hL : ∀ k x0 x1 n i, L (k + 1) x0 x1 n i = if i < n then (if 0 ≤ i then (if i < (x0.length : Int) then (if i < (x1.length : Int) then (if x0.getD i.toNat da = x1.getD i.toNat da then L k x0 x1 n (wrap64 (i + 1)) else some false) else none) else none) else none) else some true)
    (a b : List α) (hab : a.length = b.length) (hb : a.length < 4611686018427387904) (d : Nat) : ∀ (k i : Nat), i ≤ a.length → a.length - i = d → d < k → L k a b (a.length : Int) (i : Int) = some (decide (a.drop i = b.drop i)) := by
  induction d with
  | zero =>
    intro k i h0 h1 h2
    obtain ⟨k, rfl⟩ : ∃ m, k = m + 1 := ⟨k - 1, by omega⟩
    rw [hL, if_neg (by omega)]
    have hi : i = a.length := by omega
    subst hi
    simp [hab]
  | succ d ih =>
    intro k i h0 h1 h2
    obtain ⟨k, rfl⟩ : ∃ m, k = m + 1 := ⟨k - 1, by omega⟩
    have hi : i < a.length := by omega
    have hi' : i < b.length := by omega
    rw [hL, if_pos (by omega), if_pos (by omega), if_pos (by omega), if_pos (by omega), wrap_succ i (by omega), Int.toNat_natCast]
    have e : a.getD i da = a[i] := by rw [List.getD_eq_getElem?_getD, List.getElem?_eq_getElem hi]; rfl
    have e' : b.getD i da = b[i] := by rw [List.getD_eq_getElem?_getD, List.getElem?_eq_getElem hi']; rfl
    rw [e, e', drop_get a i hi, drop_get b i hi', ih k (i + 1) (by omega) (by omega) (by omega)]
    by_cases h : a[i] = b[i]
    · rw [if_pos h, h]
      simp only [List.cons.injEq, true_and]
    · rw [if_neg h]
      simp only [List.cons.injEq, h, false_and, decide_false]
theorem eqn_spec (hL : ∀ k x0 x1 n i, L (k + 1) x0 x1 n i = if i < n then (if 0 ≤ i then (if i < (x0.length : Int) then (if i < (x1.length : Int) then (if x0.getD i.toNat da = x1.getD i.toNat da then L k x0 x1 n (wrap64 (i + 1)) else some false) else none) else none) else none) else some true)
    {f : Nat → List α → List α → Option Bool} (hf : ∀ k a b, f k a b = if (a.length : Int) = (b.length : Int) then L k a b (a.length : Int) 0 else some false)
    (a b : List α) (hb : a.length < 4611686018427387904) (k : Nat) (hk : a.length < k) : f k a b = some (decide (a = b)) := by
  rw [hf]
  by_cases h : a.length = b.length
  · rw [if_pos (by omega)]
    have := eqn_loop da L hL a b h hb a.length k 0 (by omega) (by omega) hk
    simpa using this
  · rw [if_neg (by omega)]
    have : a ≠ b := fun e => h (by rw [e])
    simp [this]
end

/-! ### Marking, and asking for the marks -/
section
variable (c : Int → Int) (L : Nat → List Int → Int → Int → Option (Int × List Int)) (M : Nat → List Int → Int → Int → Option Int)
def marks (c : Int → Int) (m : Int) (n : Nat) : List Int := (List.range n).map fun (j : Nat) => c (m + (j : Int))
theorem marks_succ (m : Int) (n : Nat) : marks c m (n + 1) = c m :: marks c (m + 1) n := by
  unfold marks
  rw [List.range_succ_eq_map, List.map_cons, List.map_map]
  congr 1
  · simp
  · apply List.map_congr_left
    intro j _
    simp only [Function.comp_apply]
    congr 1
    push_cast
    omega
theorem marks_length (m : Int) (n : Nat) : (marks c m n).length = n := by simp [marks]
theorem mark_loop (hL : ∀ k x0 x1 i, L (k + 1) x0 x1 i = if i < (x0.length : Int) then (if 0 ≤ i then L k (x0.set (i : Int).toNat (c x1)) (wrap64 (x1 + 1)) (wrap64 (i + 1)) else none) else some (x1, x0))
    (d : Nat) : ∀ (k i m : Nat) (l : List Int), l.length < 2305843009213693952 → m + d < 2305843009213693952 → i ≤ l.length → l.length - i = d → d < k → L k l (m : Int) (i : Int) = some ((m : Int) + d, l.take i ++ marks c m d) := by
  induction d with
  | zero =>
    intro k i m l hb hm h0 h1 h2
    obtain ⟨k, rfl⟩ : ∃ m, k = m + 1 := ⟨k - 1, by omega⟩
    rw [hL, if_neg (by omega)]
    have hi : i = l.length := by omega
    subst hi
    simp [marks]
  | succ d ih =>
    intro k i m l hb hm h0 h1 h2
    obtain ⟨k, rfl⟩ : ∃ m, k = m + 1 := ⟨k - 1, by omega⟩
    have hi : i < l.length := by omega
    rw [hL, if_pos (by omega), if_pos (by omega), wrap_succ i (by omega), wrap_succ m (by omega), Int.toNat_natCast]
    rw [ih k (i + 1) (m + 1) (l.set i (c m)) (by simpa using hb) (by omega) (by simp; omega) (by simp; omega) (by omega)]
    rw [take_set _ _ _ hi, marks_succ, List.append_assoc]
    have e1 : ((m + 1 : Nat) : Int) + (d : Int) = (m : Int) + ((d + 1 : Nat) : Int) := by push_cast; omega
    have e2 : ((m + 1 : Nat) : Int) = (m : Int) + 1 := by push_cast; rfl
    rw [e1, e2]
    rfl
theorem held_loop (hM : ∀ k x0 x1 i, M (k + 1) x0 x1 i = if i < (x0.length : Int) then (if 0 ≤ i then (if x0.getD i.toNat 0 = c x1 then M k x0 (wrap64 (x1 + 1)) (wrap64 (i + 1)) else some (-1)) else none) else some x1)
    (d : Nat) : ∀ (k i m : Nat) (l : List Int), l.length < 2305843009213693952 → m + d < 2305843009213693952 → i ≤ l.length → l.length - i = d → d < k → l.drop i = marks c m d → M k l (m : Int) (i : Int) = some ((m : Int) + d) := by
  induction d with
  | zero =>
    intro k i m l hb hm h0 h1 h2 h3
    obtain ⟨k, rfl⟩ : ∃ m, k = m + 1 := ⟨k - 1, by omega⟩
    rw [hM, if_neg (by omega)]
    simp
  | succ d ih =>
    intro k i m l hb hm h0 h1 h2 h3
    obtain ⟨k, rfl⟩ : ∃ m, k = m + 1 := ⟨k - 1, by omega⟩
    have hi : i < l.length := by omega
    rw [drop_get l i hi, marks_succ] at h3
    obtain ⟨h4, h5⟩ := List.cons.inj h3
    have e : l.getD i 0 = l[i] := by rw [List.getD_eq_getElem?_getD, List.getElem?_eq_getElem hi]; rfl
    rw [hM, if_pos (by omega), if_pos (by omega), Int.toNat_natCast, e, if_pos h4, wrap_succ i (by omega), wrap_succ m (by omega)]
    have e1 : ((m + 1 : Nat) : Int) + (d : Int) = (m : Int) + ((d + 1 : Nat) : Int) := by push_cast; omega
    have e2 : ((m + 1 : Nat) : Int) = (m : Int) + 1 := by push_cast; rfl
    rw [ih k (i + 1) (m + 1) l hb (by omega) (by omega) (by omega) (by omega) (by rw [h5, e2]), e1]
end
end Go.Proofs.YtmipaoobkjppdaaDoor.Kit

/-- The printed rows of laws over slices name this word from here. -/
theorem Go.Proofs.YtmipaoobkjppdaaDoor.PrintWords.sized_ints {H : Type} {enc : Go.TypeId × Go.Value → H} {P : Go.Program} {W : Go.World} {base : Nat} {spare : Nat → Bool} {held : Bool} {t e : Go.TypeId} {k : Go.IntKind} {a : Option Go.Addr} {len cap : Nat} {d : Go.DataW H} {ps : List Go.MemPlace} {ts : List Go.TypeId} {ds : List (Go.DataW H)} {j : Nat}
    (hsz : (Go.DataW.weightsEach P ts ds).all (· ≤ Go.reachBytes) = true) (ht : ts[j]? = some t) (hd : ds[j]? = some d) (hu : P.underlying t = some (.slice e)) (he : P.underlying e = some (.int k)) (hc : P.cellsOf e = 1) {B : Nat} (hB : P.bytesOf e = B)
    (h : Go.DataW.Trod enc P W base spare held t (.slice a len cap) d ps) : len * B ≤ 140737488351232 :=
  Go.Proofs.YtmipaoobkjppdaaDoorW.PrintWords.sized_ints hsz ht hd hu he hc hB h
