/- The plain law of DeriveFromString. -/
import Derived.Test.YtmipaoobkjppdaaQFnExactDeriveFromStringx2
import Derived.Laws.BitsLemmas
import Derived.Test.YtmipaoobkjppdaaKit
set_option linter.unusedVariables false
set_option linter.unusedSimpArgs false
namespace Go.Proofs.Ytmipaoobkjppdaa.Pure
open Go.RowKit Go.Proofs.Ytmipaoobkjppdaa.QFnExactDeriveFromString Go.Proofs.YtmipaoobkjppdaaW.PrintWords Go.Proofs.YtmipaoobkjppdaaW.PrintLast

theorem wf_u8 {x : Int} (h : (Lit.int .u8 x).wf = true) : 0 ≤ x ∧ x < 256 := by
  simp [Lit.wf, IntKind.min, IntKind.max, IntKind.signed, IntKind.bits] at h
  omega
theorem wf_i64 {x : Int} (h : (Lit.int .i64 x).wf = true) : -9223372036854775808 ≤ x ∧ x ≤ 9223372036854775807 := by
  simp [Lit.wf, IntKind.min, IntKind.max, IntKind.signed, IntKind.bits] at h
  omega
def hmod (v : Int) : Int := Int.tmod (wrap64 ((Int.tmod v 2147483647) + 2147483647)) 2147483647
theorem spec_hmod (v : Int) : spec_Mod.f v 2147483647 = some (hmod v) := by
  unfold spec_Mod.f spec_l1In.f hmod
  simp
theorem impl_hmod (v : Int) : impl_Mod.f v 2147483647 = some (hmod v) := by
  unfold impl_Mod.f impl_in.f hmod
  simp
def hstep (h v : Int) : Int := Int.tmod (wrap64 ((wrap64 ((wrap64 (h * 1000003)) + hmod v)) + 13)) 2147483647
theorem hash_loops (l : List Int) (hb : l.length ≤ 40000000) (d : Nat) : ∀ (k i : Nat) (h : Int), i ≤ l.length → l.length - i = d → d < k → spec_Hash.l0 k l h (i : Int) = some ((l.drop i).foldl hstep h) ∧ impl_Hash.l0 k h l (l.length : Int) (i : Int) = some ((l.drop i).foldl hstep h) := by
  induction d with
  | zero =>
    intro k i h h0 h1 h2
    obtain ⟨k, rfl⟩ : ∃ m, k = m + 1 := ⟨k - 1, by omega⟩
    obtain rfl : i = l.length := by omega
    constructor
    · simp only [spec_Hash.l0]
      rw [if_neg (by omega)]
      simp
    · simp only [impl_Hash.l0]
      rw [if_neg (by omega)]
      simp
  | succ d ih =>
    intro k i h h0 h1 h2
    obtain ⟨k, rfl⟩ : ∃ m, k = m + 1 := ⟨k - 1, by omega⟩
    have hi : i < l.length := by omega
    obtain ⟨r1, r2⟩ := ih k (i + 1) (hstep h l[i]) (by omega) (by omega) (by omega)
    rw [Kit.drop_get l i hi, List.foldl_cons]
    constructor
    · simp only [spec_Hash.l0]
      rw [if_pos (by omega), if_pos (by omega), Kit.rd_lt l i hi, spec_hmod, Kit.wrap_succ i (by omega)]
      exact r1
    · simp only [impl_Hash.l0]
      rw [if_pos (by omega), if_pos (by omega), if_pos (by omega), Kit.rd_lt l i hi, impl_hmod, Kit.wrap_succ i (by omega)]
      exact r2
def hash (l : List Int) : Int := l.foldl hstep 11
theorem spec_hash (l : List Int) (hb : l.length ≤ 40000000) (k : Nat) (hk : l.length < k) : spec_Hash.f k l = some (hash l) := (hash_loops l hb l.length k 0 11 (by omega) (by omega) hk).1
theorem impl_hash (l : List Int) (hb : l.length ≤ 40000000) (k : Nat) (hk : l.length < k) : impl_Hash.f k l = some (hash l) := (hash_loops l hb l.length k 0 11 (by omega) (by omega) hk).2
def khash (a : Int) (l : List Int) : Int := hash ([a] ++ l ++ [a])
theorem spec_khash (a : Int) (l : List Int) (hb : l.length ≤ 4000000) (k : Nat) (hk : l.length + 2 < k) : spec_KeyedHash.f k a l = some (khash a l) := by
  have h1 : ([a] : List Int).length + l.length < 17592186044416 := by show 1 + l.length < _; omega
  have h2 : ([a] ++ l : List Int).length < 17592186044416 := by rw [List.length_append]; exact h1
  unfold spec_KeyedHash.f khash
  simp only [Option.bind_some]
  rw [if_pos h1, if_pos h2, spec_hash _ (by simp; omega) k (by simp; omega)]
  rfl
theorem impl_khash (a : Int) (l : List Int) (hb : l.length ≤ 4000000) (k : Nat) (hk : l.length + 2 < k) : impl_KeyedHash.f k a l = some (khash a l) := by
  have h1 : slices_Concat_int_int_sm [[a], l, [a]] ([[a], l, [a]] : List (List Int)).length ≤ 17592186044415 := by
    unfold slices_Concat_int_int_sm
    simp
    omega
  have h2 : ([[a], l, [a]] : List (List Int)).flatten = [a] ++ l ++ [a] := by simp
  unfold impl_KeyedHash.f slices_Concat_int_int.f khash
  rw [if_pos h1, h2]
  simp only [Option.bind_some]
  rw [impl_hash _ (by simp; omega) k (by simp; omega)]
  rfl
theorem b2i_loops (l : List Int) (hb : l.length ≤ 1048576) (w : ∀ x ∈ l, 0 ≤ x ∧ x < 256) (d : Nat) : ∀ (k i : Nat) (x : List Int), i ≤ l.length → l.length - i = d → d < k → x.length ≤ 1048577 + i → spec_BytesToInts.l0 k l x (i : Int) = some (x ++ l.drop i) ∧ impl_BytesToInts.l0 k x l (l.length : Int) (i : Int) = some (x ++ l.drop i) := by
  induction d with
  | zero =>
    intro k i x h0 h1 h2 h3
    obtain ⟨k, rfl⟩ : ∃ m, k = m + 1 := ⟨k - 1, by omega⟩
    have hi : i = l.length := by omega
    subst hi
    constructor
    · simp only [spec_BytesToInts.l0]
      rw [if_neg (by omega), List.drop_length, List.append_nil]
    · simp only [impl_BytesToInts.l0]
      rw [if_neg (by omega), List.drop_length, List.append_nil]
  | succ d ih =>
    intro k i x h0 h1 h2 h3
    obtain ⟨k, rfl⟩ : ∃ m, k = m + 1 := ⟨k - 1, by omega⟩
    have hi : i < l.length := by omega
    have hc := w l[i] (List.getElem_mem hi)
    obtain ⟨r1, r2⟩ := ih k (i + 1) (x ++ [l[i]]) (by omega) (by omega) (by omega) (by rw [List.length_append, List.length_singleton]; omega)
    have e : x ++ l.drop i = (x ++ [l[i]]) ++ l.drop (i + 1) := by rw [Kit.drop_get l i hi, List.append_assoc]; rfl
    rw [e]
    constructor
    · simp only [spec_BytesToInts.l0]
      rw [if_pos (by omega), if_pos (by omega), if_pos (by omega), Kit.rd_lt l i hi, Kit.wrap_id _ (by omega) (by omega), Kit.wrap_succ i (by omega)]
      exact r1
    · simp only [impl_BytesToInts.l0]
      rw [if_pos (by omega), if_pos (by omega), if_pos (by omega), if_pos (by omega), Kit.rd_lt l i hi, Kit.wrap_id _ (by omega) (by omega), Kit.wrap_succ i (by omega)]
      exact r2
theorem bytesOf_range (s : ByteArray) : ∀ x ∈ bytesOf s, 0 ≤ x ∧ x < 256 := by
  intro x hx
  unfold bytesOf at hx
  obtain ⟨b, _, rfl⟩ := List.mem_map.1 hx
  have := b.toNat_lt
  omega
theorem derive_law (a0 : Int) (a1 : ByteArray) (k : Nat) (hk : 5000000 ≤ k) : laws_FnExactDeriveFromString.f k a0 a1 = some true := by
  unfold laws_FnExactDeriveFromString.f
  by_cases c0 : (a1.size : Int) > 1048576
  · rw [if_pos c0]
  rw [if_neg c0]
  have hl : (bytesOf a1).length = a1.size := bytesOf_length a1
  have hb := b2i_loops (bytesOf a1) (by omega) (bytesOf_range a1) (bytesOf a1).length k 0 [((bytesOf a1).length : Int)] (by omega) (by omega) (by omega) (by simp)
  have e1 : spec_BytesToInts.f k (bytesOf a1) = some (((bytesOf a1).length : Int) :: bytesOf a1) := hb.1
  have e2 : impl_BytesToInts.f k (bytesOf a1) = some (((bytesOf a1).length : Int) :: bytesOf a1) := hb.2
  have hn : (((bytesOf a1).length : Int) :: bytesOf a1).length = (bytesOf a1).length + 1 := rfl
  have e3 : spec_DeriveFromString.f k a0 a1 = some (if khash a0 (((bytesOf a1).length : Int) :: bytesOf a1) < 1 then 1 else khash a0 (((bytesOf a1).length : Int) :: bytesOf a1)) := by
    unfold spec_DeriveFromString.f
    rw [if_pos (by omega), e1]
    simp only [Option.bind_some]
    rw [spec_khash a0 _ (by omega) k (by omega)]
    simp only [Option.bind_some]
    unfold spec_Max.f
    generalize khash a0 (((bytesOf a1).length : Int) :: bytesOf a1) = v
    by_cases c : v < 1
    · rw [if_pos c, if_neg (by omega)]
    · rw [if_neg c]
      by_cases c1 : v > 1
      · rw [if_pos c1]
      · rw [if_neg c1]
        congr 1
        omega
  have e4 : impl_DeriveFromString.f k a0 a1 = some (if khash a0 (((bytesOf a1).length : Int) :: bytesOf a1) < 1 then 1 else khash a0 (((bytesOf a1).length : Int) :: bytesOf a1)) := by
    unfold impl_DeriveFromString.f
    rw [if_pos (by omega), e2]
    simp only [Option.bind_some]
    rw [impl_khash a0 _ (by omega) k (by omega)]
    rfl
  rw [e3]
  simp only [Option.bind_some]
  rw [e4]
  simp only [Option.bind_some]
  rw [if_pos trivial]
theorem FnExactDeriveFromString : laws_FnExactDeriveFromString.Pure := by
  intro a0 a1 _ _
  exact ⟨5000000, derive_law a0 a1 5000000 (Nat.le_refl _)⟩

end Go.Proofs.Ytmipaoobkjppdaa.Pure
