/- The pure side of the law FnExactEqualBytes: what the printed functions of the program and of the reference compute is the same, for every argument. -/
import Derived.Test.YtbaehdopmpnjoaaPFnExactEqualBytesx1
import Derived.Test.YtbaehdopmpnjoaaKit
namespace Go.Proofs.Ytbaehdopmpnjoaa.Pure
open Go.RowKit Go.Proofs.Ytbaehdopmpnjoaa.PFnExactEqualBytes Go.Proofs.YtbaehdopmpnjoaaW.PrintWords Go.Proofs.YtbaehdopmpnjoaaW.PrintLast

theorem toB (l : List Int) (k : Nat) (hk : l.length < k) (h : l.length ≤ 1048576) : laws_toByteS.f k l = some l := by
  have := Kit.copy_spec (fun x : Int => x) (0 : Int) laws_toByteS.l0 (fun _ _ _ _ => rfl) (f := laws_toByteS.f) (fun _ _ => rfl) l (by omega) (by omega) k hk
  simpa using this
theorem eqB (a b : List Int) (k : Nat) (hk : a.length < k) (h : a.length ≤ 40000000) : laws_eqByteS.f k a b = some (decide (a = b)) :=
  Kit.eq_spec (0 : Int) laws_eqByteS.l0 (fun _ _ _ _ => rfl) (f := laws_eqByteS.f) (fun _ _ _ => rfl) a b (by omega) k hk
theorem FnExactEqualBytes : laws_FnExactEqualBytes.Pure := by
  intro l0 l1 _ _ _ _ _ _
  by_cases c0 : (l0.length : Int) > 1048576
  · exact ⟨0, by unfold laws_FnExactEqualBytes.f; rw [if_pos c0]⟩
  by_cases c1 : (l1.length : Int) > 1048576
  · exact ⟨0, by unfold laws_FnExactEqualBytes.f; rw [if_neg c0, if_pos c1]⟩
  refine ⟨1048577, ?_⟩
  unfold laws_FnExactEqualBytes.f impl_EqualBytes.f spec_EqualBytes.f bytes_Equal.f
  rw [if_neg c0, if_neg c1]
  simp only [toB l0 1048577 (by omega) (by omega), toB l1 1048577 (by omega) (by omega), eqB l0 l0 1048577 (by omega) (by omega), eqB l1 l1 1048577 (by omega) (by omega), Option.bind_some, bne_self_eq_false, decide_true, if_true, Bool.false_eq_true, if_false]

end Go.Proofs.Ytbaehdopmpnjoaa.Pure
