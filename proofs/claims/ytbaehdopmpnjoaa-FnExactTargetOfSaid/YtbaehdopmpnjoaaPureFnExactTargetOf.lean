/- The pure side of the law FnExactTargetOf: what the printed functions of the program and of the reference compute is the same, for every argument. -/
import Derived.Test.YtbaehdopmpnjoaaOpFnExactTargetOf
import Derived.Test.YtbaehdopmpnjoaaKit
set_option linter.unusedVariables false
set_option linter.unusedSimpArgs false
namespace Go.Proofs.Ytbaehdopmpnjoaa.Pure
open Go.RowKit Go.Proofs.Ytbaehdopmpnjoaa.QFnExactTargetOf Go.Proofs.YtbaehdopmpnjoaaW.PrintWords Go.Proofs.YtbaehdopmpnjoaaW.PrintLast Go.Proofs.Ytbaehdopmpnjoaa.OpFnExactTargetOf

theorem wf_u8 {x : Int} (h : (Lit.int .u8 x).wf = true) : 0 ≤ x ∧ x < 256 := by
  simp [Lit.wf, IntKind.min, IntKind.max, IntKind.signed, IntKind.bits] at h
  omega
theorem wf_i64 {x : Int} (h : (Lit.int .i64 x).wf = true) : -9223372036854775808 ≤ x ∧ x ≤ 9223372036854775807 := by
  simp [Lit.wf, IntKind.min, IntKind.max, IntKind.signed, IntKind.bits] at h
  omega
theorem FnExactTargetOf : OpFnExactTargetOf.Pure := by
  intro y0 _
  unfold laws_FnExactTargetOf.f laws_szInstr.f laws_toInstr.f
  have e : impl_TargetOf.f y0.f0 y0.f1 y0.f2 y0.f3 y0.f4 y0.f5 = spec_TargetOf.f y0.f0 y0.f1 y0.f2 y0.f3 y0.f4 y0.f5 := rfl
  obtain ⟨r, hr⟩ : ∃ r, spec_TargetOf.f y0.f0 y0.f1 y0.f2 y0.f3 y0.f4 y0.f5 = some r := by
    unfold spec_TargetOf.f spec_l1In.f
    by_cases h : y0.f0 ≥ 1 <;> by_cases h' : y0.f0 ≤ 7 <;> simp [h, h']
  by_cases c : wrap64 (1048576 - (y0.f5.size : Int)) < 0
  · rw [if_pos c]
    simp
  · rw [if_neg c]
    simp only [Option.bind_some]
    rw [if_neg c]
    simp only [hr, e, Option.bind_some, if_true]

end Go.Proofs.Ytbaehdopmpnjoaa.Pure
