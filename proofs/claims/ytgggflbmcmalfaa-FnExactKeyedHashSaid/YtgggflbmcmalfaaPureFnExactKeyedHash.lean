/- The pure side of the law FnExactKeyedHash: what the printed functions of the program and of the reference compute is the same, for every argument. -/
import Derived.Test.YtgggflbmcmalfaaQFnExactKeyedHashx2
import Derived.Test.YtgggflbmcmalfaaKit
set_option linter.unusedVariables false
set_option linter.unusedSimpArgs false
namespace Go.Proofs.Ytgggflbmcmalfaa.Pure
open Go.RowKit Go.Proofs.Ytgggflbmcmalfaa.QFnExactKeyedHash Go.Proofs.YtgggflbmcmalfaaW.PrintWords Go.Proofs.YtgggflbmcmalfaaW.PrintLast

theorem toI (l : List Int) (k : Nat) (hk : l.length < k) (h : l.length ≤ 1048576) : laws_toIntS.f k l = some l := by
  have := Kit.copy_spec (fun x : Int => x) (0 : Int) laws_toIntS.l0 (fun _ _ _ _ => rfl) (f := laws_toIntS.f) (fun _ _ => rfl) l (by omega) (by omega) k hk
  simpa using this
theorem eqI (a b : List Int) (k : Nat) (hk : a.length < k) (h : a.length ≤ 40000000) : laws_eqIntS.f k a b = some (decide (a = b)) :=
  Kit.eq_spec (0 : Int) laws_eqIntS.l0 (fun _ _ _ _ => rfl) (f := laws_eqIntS.f) (fun _ _ _ => rfl) a b (by omega) k hk
def hmod (v : Int) : Int := Int.tmod (wrap64 ((Int.tmod v 2147483647) + 2147483647)) 2147483647
theorem spec_hmod (v : Int) : spec_Mod.f v 2147483647 = some (hmod v) := by
  unfold spec_Mod.f spec_l1In.f hmod
  simp
theorem impl_hmod (v : Int) : impl_Mod.f v 2147483647 = some (hmod v) := by
  unfold impl_Mod.f impl_in.f hmod
  simp
def hstep (h v : Int) : Int := Int.tmod (wrap64 ((wrap64 ((wrap64 (h * 1000003)) + hmod v)) + 13)) 2147483647
theorem hash_loops (l : List Int) (hb : l.length ≤ 40000000) (d : Nat) : ∀ (k i : Nat) (h : Int), i ≤ l.length → l.length - i = d → d < k → spec_Hash.l0 k l h (i : Int) = some ((l.drop i).foldl hstep h) ∧ impl_Hash.l0 k h l (l.length : Int) (i : Int) = some ((l.drop i).foldl hstep h) := by
  induction d with
  | zero =>
    intro k i h h0 h1 h2
    obtain ⟨k, rfl⟩ : ∃ m, k = m + 1 := ⟨k - 1, by omega⟩
    obtain rfl : i = l.length := by omega
    constructor
    · simp only [spec_Hash.l0]
      rw [if_neg (by omega)]
      simp
    · simp only [impl_Hash.l0]
      rw [if_neg (by omega)]
      simp
  | succ d ih =>
    intro k i h h0 h1 h2
    obtain ⟨k, rfl⟩ : ∃ m, k = m + 1 := ⟨k - 1, by omega⟩
    have hi : i < l.length := by omega
    obtain ⟨r1, r2⟩ := ih k (i + 1) (hstep h l[i]) (by omega) (by omega) (by omega)
    rw [Kit.drop_get l i hi, List.foldl_cons]
    constructor
    · simp only [spec_Hash.l0]
      rw [if_pos (by omega), if_pos (by omega), Kit.rd_lt l i hi, spec_hmod, Kit.wrap_succ i (by omega)]
      exact r1
    · simp only [impl_Hash.l0]
      rw [if_pos (by omega), if_pos (by omega), if_pos (by omega), Kit.rd_lt l i hi, impl_hmod, Kit.wrap_succ i (by omega)]
      exact r2
def hash (l : List Int) : Int := l.foldl hstep 11
theorem spec_hash (l : List Int) (hb : l.length ≤ 40000000) (k : Nat) (hk : l.length < k) : spec_Hash.f k l = some (hash l) := (hash_loops l hb l.length k 0 11 (by omega) (by omega) hk).1
theorem impl_hash (l : List Int) (hb : l.length ≤ 40000000) (k : Nat) (hk : l.length < k) : impl_Hash.f k l = some (hash l) := (hash_loops l hb l.length k 0 11 (by omega) (by omega) hk).2
def khash (a : Int) (l : List Int) : Int := hash ([a] ++ l ++ [a])
theorem spec_khash (a : Int) (l : List Int) (hb : l.length ≤ 4000000) (k : Nat) (hk : l.length + 2 < k) : spec_KeyedHash.f k a l = some (khash a l) := by
  have h1 : ([a] : List Int).length + l.length < 17592186044416 := by show 1 + l.length < _; omega
  have h2 : ([a] ++ l : List Int).length < 17592186044416 := by rw [List.length_append]; exact h1
  unfold spec_KeyedHash.f khash
  simp only [Option.bind_some]
  rw [if_pos h1, if_pos h2, spec_hash _ (by simp; omega) k (by simp; omega)]
  rfl
theorem impl_khash (a : Int) (l : List Int) (hb : l.length ≤ 4000000) (k : Nat) (hk : l.length + 2 < k) : impl_KeyedHash.f k a l = some (khash a l) := by
  have h1 : slices_Concat_int_int_sm [[a], l, [a]] ([[a], l, [a]] : List (List Int)).length ≤ 17592186044415 := by
    unfold slices_Concat_int_int_sm
    simp
    omega
  have h2 : ([[a], l, [a]] : List (List Int)).flatten = [a] ++ l ++ [a] := by simp
  unfold impl_KeyedHash.f slices_Concat_int_int.f khash
  rw [if_pos h1, h2]
  simp only [Option.bind_some]
  rw [impl_hash _ (by simp; omega) k (by simp; omega)]
  rfl
theorem FnExactKeyedHash : laws_FnExactKeyedHash.Pure := by
  intro a0 l1 _ _ _ _
  by_cases c0 : (l1.length : Int) > 1048576
  · exact ⟨0, by unfold laws_FnExactKeyedHash.f; rw [if_pos c0]⟩
  refine ⟨1048600, ?_⟩
  unfold laws_FnExactKeyedHash.f
  rw [if_neg c0]
  simp only [toI l1 1048600 (by omega) (by omega), eqI l1 l1 1048600 (by omega) (by omega), spec_khash a0 l1 (by omega) 1048600 (by omega), impl_khash a0 l1 (by omega) 1048600 (by omega), Option.bind_some, decide_true, if_true]

end Go.Proofs.Ytgggflbmcmalfaa.Pure
