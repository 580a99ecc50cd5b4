/- The pure side of the law FnExactEqualInts: what the printed functions of the program and of the reference compute is the same, for every argument. -/
import Derived.Test.YtbaehdopmpnjoaaPFnExactEqualIntsx1
import Derived.Test.YtbaehdopmpnjoaaKit
namespace Go.Proofs.Ytbaehdopmpnjoaa.Pure
open Go.RowKit Go.Proofs.Ytbaehdopmpnjoaa.PFnExactEqualInts Go.Proofs.YtbaehdopmpnjoaaW.PrintWords Go.Proofs.YtbaehdopmpnjoaaW.PrintLast

theorem toI (l : List Int) (k : Nat) (hk : l.length < k) (h : l.length ≤ 1048576) : laws_toIntS.f k l = some l := by
  have := Kit.copy_spec (fun x : Int => x) (0 : Int) laws_toIntS.l0 (fun _ _ _ _ => rfl) (f := laws_toIntS.f) (fun _ _ => rfl) l (by omega) (by omega) k hk
  simpa using this
theorem eqI (a b : List Int) (k : Nat) (hk : a.length < k) (h : a.length ≤ 40000000) : laws_eqIntS.f k a b = some (decide (a = b)) :=
  Kit.eq_spec (0 : Int) laws_eqIntS.l0 (fun _ _ _ _ => rfl) (f := laws_eqIntS.f) (fun _ _ _ => rfl) a b (by omega) k hk
theorem specEq (a b : List Int) (k : Nat) (hk : a.length < k) (h : a.length ≤ 40000000) : spec_EqualInts.f k a b = some (decide (a = b)) :=
  Kit.eq_spec (0 : Int) spec_EqualInts.l0 (fun _ _ _ _ => rfl) (f := spec_EqualInts.f) (fun _ _ _ => rfl) a b (by omega) k hk
theorem implEq (a b : List Int) (k : Nat) (hk : a.length < k) (h : a.length ≤ 40000000) : impl_EqualInts.f k a b = some (decide (a = b)) := by
  unfold impl_EqualInts.f
  rw [Kit.eqn_spec (0 : Int) slices_Equal_int_int.l0 (fun _ _ _ _ _ => rfl) (f := slices_Equal_int_int.f) (fun _ _ _ => rfl) a b (by omega) k hk]
  rfl
theorem FnExactEqualInts : laws_FnExactEqualInts.Pure := by
  intro l0 l1 _ _ _ _ _ _
  by_cases c0 : (l0.length : Int) > 1048576
  · exact ⟨0, by unfold laws_FnExactEqualInts.f; rw [if_pos c0]⟩
  by_cases c1 : (l1.length : Int) > 1048576
  · exact ⟨0, by unfold laws_FnExactEqualInts.f; rw [if_neg c0, if_pos c1]⟩
  refine ⟨1048577, ?_⟩
  unfold laws_FnExactEqualInts.f
  rw [if_neg c0, if_neg c1]
  simp only [toI l0 1048577 (by omega) (by omega), toI l1 1048577 (by omega) (by omega), eqI l0 l0 1048577 (by omega) (by omega), eqI l1 l1 1048577 (by omega) (by omega), specEq l0 l1 1048577 (by omega) (by omega), implEq l0 l1 1048577 (by omega) (by omega), Option.bind_some, bne_self_eq_false, decide_true, if_true, Bool.false_eq_true, if_false]

end Go.Proofs.Ytbaehdopmpnjoaa.Pure
