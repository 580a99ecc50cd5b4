/- The pure side of the law FnExactEqualValues: what the printed functions of the program and of the reference compute is the same, for every argument. -/
import Derived.Test.YtbaehdopmpnjoaaOpFnExactEqualValues
import Derived.Test.YtbaehdopmpnjoaaKit
set_option linter.unusedVariables false
set_option linter.unusedSimpArgs false
namespace Go.Proofs.Ytbaehdopmpnjoaa.Pure
open Go.RowKit Go.Proofs.Ytbaehdopmpnjoaa.QFnExactEqualValues Go.Proofs.YtbaehdopmpnjoaaW.PrintWords Go.Proofs.YtbaehdopmpnjoaaW.PrintLast Go.Proofs.Ytbaehdopmpnjoaa.OpFnExactEqualValues

theorem bneq (a b c d : Int) : ((!(a == c) || (!(b == d))) = true) ↔ ¬ (a = c ∧ b = d) := by
  by_cases h1 : a = c <;> by_cases h2 : b = d <;> simp [h1, h2]
theorem s27_ext (x y : S27) : x = y ↔ (x.f0 = y.f0 ∧ x.f1 = y.f1) := by
  cases x; cases y; simp
instance : DecidableEq S27 := fun x y => decidable_of_iff _ (s27_ext x y).symm
def cv (x : S43) : S27 := ⟨x.f0, x.f1⟩
theorem toV (l : List S43) (k : Nat) (hk : l.length < k) (h : l.length ≤ 1048576) : laws_toValueS.f k l = some (l.map cv) :=
  Kit.copy_spec cv z43 laws_toValueS.l0 (fun k x0 x3 i => rfl) (f := laws_toValueS.f) (z := z27) (fun _ _ => rfl) l (by omega) (by omega) k hk
theorem eqV (a b : List S27) (k : Nat) (hk : a.length < k) (h : a.length ≤ 40000000) : laws_eqValueS.f k a b = some (decide (a = b)) := by
  refine Kit.eq_spec z27 laws_eqValueS.l0 (fun k x0 x1 i => ?_) (f := laws_eqValueS.f) (fun _ _ _ => rfl) a b (by omega) k hk
  simp only [laws_eqValueS.l0, laws_eqValue.f]
  show _ = if _ then (if _ then (if _ then (if rd_T27 x0 i = rd_T27 x1 i then _ else _) else _) else _) else _
  by_cases h0 : (rd_T27 x0 i).f0 = (rd_T27 x1 i).f0 <;> by_cases h1 : (rd_T27 x0 i).f1 = (rd_T27 x1 i).f1 <;> simp [h0, h1, s27_ext]
theorem specEq (a b : List S27) (k : Nat) (hk : a.length < k) (h : a.length ≤ 40000000) : spec_EqualValues.f k a b = some (decide (a = b)) := by
  refine Kit.eq_spec z27 spec_EqualValues.l0 (fun k x0 x1 i => ?_) (f := spec_EqualValues.f) (fun _ _ _ => rfl) a b (by omega) k hk
  simp only [spec_EqualValues.l0]
  show _ = if _ then (if _ then (if _ then (if rd_T27 x0 i = rd_T27 x1 i then _ else _) else _) else _) else _
  by_cases h0 : (rd_T27 x0 i).f0 = (rd_T27 x1 i).f0 <;> by_cases h1 : (rd_T27 x0 i).f1 = (rd_T27 x1 i).f1 <;> simp [h0, h1, s27_ext]
theorem implEq (a b : List S27) (k : Nat) (hk : a.length < k) (h : a.length ≤ 40000000) : impl_EqualValues.f k a b = some (decide (a = b)) := by
  unfold impl_EqualValues.f
  rw [Kit.eqn_spec z27 impl_Value.l0 (fun k x0 x1 n i => by
    simp only [impl_Value.l0]
    show _ = if _ then (if _ then (if _ then (if _ then (if rd_T27 x0 i = rd_T27 x1 i then _ else _) else _) else _) else _) else _
    by_cases h0 : (rd_T27 x0 i).f0 = (rd_T27 x1 i).f0 <;> by_cases h1 : (rd_T27 x0 i).f1 = (rd_T27 x1 i).f1 <;> simp [h0, h1, s27_ext]) (f := impl_Value.f) (fun _ _ _ => rfl) a b (by omega) k hk]
  rfl
theorem FnExactEqualValues : OpFnExactEqualValues.Pure := by
  rintro l0 l1 ⟨m0, _⟩ ⟨m1, _⟩
  simp only [maxLen] at m0 m1
  have e0 : wrap64 (1048576 - (l0.length : Int)) = 1048576 - (l0.length : Int) := Kit.wrap_id _ (by omega) (by omega)
  by_cases c0 : 1048576 - (l0.length : Int) < 0
  · refine ⟨0, ?_⟩
    unfold laws_FnExactEqualValues.f laws_szValueS.f
    rw [e0, if_pos c0]
    rfl
  have e1 : wrap64 (1048576 - (l0.length : Int) - (l1.length : Int)) = 1048576 - (l0.length : Int) - (l1.length : Int) := Kit.wrap_id _ (by omega) (by omega)
  by_cases c1 : 1048576 - (l0.length : Int) - (l1.length : Int) < 0
  · refine ⟨0, ?_⟩
    unfold laws_FnExactEqualValues.f laws_szValueS.f
    rw [e0, if_neg c0]
    simp only [Option.bind_some]
    rw [if_neg c0, e1, if_pos c1]
    rfl
  refine ⟨1048577, ?_⟩
  unfold laws_FnExactEqualValues.f laws_szValueS.f
  rw [e0, if_neg c0]
  simp only [Option.bind_some]
  rw [if_neg c0, e1, if_neg c1]
  simp only [Option.bind_some]
  rw [if_neg c1]
  simp only [toV l0 1048577 (by omega) (by omega), toV l1 1048577 (by omega) (by omega), specEq (l0.map cv) (l1.map cv) 1048577 (by simp; omega) (by simp; omega), implEq (l0.map cv) (l1.map cv) 1048577 (by simp; omega) (by simp; omega), eqV (l0.map cv) (l0.map cv) 1048577 (by simp; omega) (by simp; omega), eqV (l1.map cv) (l1.map cv) 1048577 (by simp; omega) (by simp; omega), Option.bind_some, bne_self_eq_false, decide_true, if_true, Bool.false_eq_true, if_false]

end Go.Proofs.Ytbaehdopmpnjoaa.Pure
