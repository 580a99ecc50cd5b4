/- The pure side of the law FnExactHash: what the printed functions of the program and of the reference compute is the same, for every argument. -/
import Derived.Test.YtbaehdopmpnjoaaPFnExactHashx1
import Derived.Test.YtbaehdopmpnjoaaKit
namespace Go.Proofs.Ytbaehdopmpnjoaa.Pure
open Go.RowKit Go.Proofs.Ytbaehdopmpnjoaa.PFnExactHash Go.Proofs.YtbaehdopmpnjoaaW.PrintWords Go.Proofs.YtbaehdopmpnjoaaW.PrintLast

theorem toI (l : List Int) (k : Nat) (hk : l.length < k) (h : l.length ≤ 1048576) : laws_toIntS.f k l = some l := by
  have := Kit.copy_spec (fun x : Int => x) (0 : Int) laws_toIntS.l0 (fun _ _ _ _ => rfl) (f := laws_toIntS.f) (fun _ _ => rfl) l (by omega) (by omega) k hk
  simpa using this
theorem eqI (a b : List Int) (k : Nat) (hk : a.length < k) (h : a.length ≤ 40000000) : laws_eqIntS.f k a b = some (decide (a = b)) :=
  Kit.eq_spec (0 : Int) laws_eqIntS.l0 (fun _ _ _ _ => rfl) (f := laws_eqIntS.f) (fun _ _ _ => rfl) a b (by omega) k hk
theorem mod_some (a : Int) : ∃ r, spec_Mod.f a 2147483647 = some r := by
  unfold spec_Mod.f spec_l1In.f
  simp
theorem mod_same (a b : Int) : impl_Mod.f a b = spec_Mod.f a b := rfl
theorem hash_loops (l : List Int) (hb : l.length ≤ 1048576) (d : Nat) : ∀ (k i : Nat) (h : Int), i ≤ l.length → l.length - i = d → d < k → ∃ r, spec_Hash.l0 k l h (i : Int) = some r ∧ impl_Hash.l0 k h l (l.length : Int) (i : Int) = some r := by
  induction d with
  | zero =>
    intro k i h h0 h1 h2
    obtain ⟨k, rfl⟩ : ∃ m, k = m + 1 := ⟨k - 1, by omega⟩
    refine ⟨h, ?_, ?_⟩
    · simp only [spec_Hash.l0]
      rw [if_neg (by omega)]
    · simp only [impl_Hash.l0]
      rw [if_neg (by omega)]
  | succ d ih =>
    intro k i h h0 h1 h2
    obtain ⟨k, rfl⟩ : ∃ m, k = m + 1 := ⟨k - 1, by omega⟩
    obtain ⟨m, hm⟩ := mod_some (rd l (i : Int))
    obtain ⟨r, hr, hr'⟩ := ih k (i + 1) (Int.tmod (wrap64 ((wrap64 ((wrap64 (h * 1000003)) + m)) + 13)) 2147483647) (by omega) (by omega) (by omega)
    refine ⟨r, ?_, ?_⟩
    · simp only [spec_Hash.l0]
      rw [if_pos (by omega), if_pos (by omega), hm, Kit.wrap_succ i (by omega)]
      exact hr
    · simp only [impl_Hash.l0]
      rw [if_pos (by omega), if_pos (by omega), if_pos (by omega), mod_same, hm, Kit.wrap_succ i (by omega)]
      exact hr'
theorem FnExactHash : laws_FnExactHash.Pure := by
  intro l0 _ _ _
  by_cases c0 : (l0.length : Int) > 1048576
  · exact ⟨0, by unfold laws_FnExactHash.f; rw [if_pos c0]⟩
  refine ⟨1048577, ?_⟩
  obtain ⟨r, hr, hr'⟩ := hash_loops l0 (by omega) l0.length 1048577 0 11 (by omega) (by omega) (by omega)
  have e1 : spec_Hash.f 1048577 l0 = some r := hr
  have e2 : impl_Hash.f 1048577 l0 = some r := hr'
  unfold laws_FnExactHash.f
  rw [if_neg c0]
  simp only [toI l0 1048577 (by omega) (by omega), eqI l0 l0 1048577 (by omega) (by omega), e1, e2, Option.bind_some, decide_true, if_true]

end Go.Proofs.Ytbaehdopmpnjoaa.Pure
