/- The pure side of the law FnExactAddInts: what the printed functions of the program and of the reference compute is the same, for every argument. -/
import Derived.Test.YtbaehdopmpnjoaaOpFnExactAddInts
import Derived.Test.YtbaehdopmpnjoaaKit
set_option linter.unusedVariables false
set_option linter.unusedSimpArgs false
namespace Go.Proofs.Ytbaehdopmpnjoaa.Pure
open Go.RowKit Go.Proofs.Ytbaehdopmpnjoaa.QFnExactAddInts Go.Proofs.YtbaehdopmpnjoaaW.PrintWords Go.Proofs.YtbaehdopmpnjoaaW.PrintLast Go.Proofs.Ytbaehdopmpnjoaa.OpFnExactAddInts

theorem wf_u8 {x : Int} (h : (Lit.int .u8 x).wf = true) : 0 ≤ x ∧ x < 256 := by
  simp [Lit.wf, IntKind.min, IntKind.max, IntKind.signed, IntKind.bits] at h
  omega
theorem wf_i64 {x : Int} (h : (Lit.int .i64 x).wf = true) : -9223372036854775808 ≤ x ∧ x ≤ 9223372036854775807 := by
  simp [Lit.wf, IntKind.min, IntKind.max, IntKind.signed, IntKind.bits] at h
  omega
theorem FnExactAddInts : OpFnExactAddInts.Pure := by
  intro y0 y1 _ _
  refine ⟨1, ?_⟩
  have e : impl_AddInts.f 1 y0.f0 y0.f1 y1.f0 y1.f1 = spec_AddInts.f 1 y0.f0 y0.f1 y1.f0 y1.f1 := by
    unfold impl_AddInts.f spec_AddInts.f impl_isInt.f impl_in.f spec_l1In.f
    by_cases h0 : y0.f0 = 0 <;> by_cases h1 : y1.f0 = 0 <;> by_cases h2 : 0 ≤ y0.f1 <;> by_cases h3 : y0.f1 ≤ 999999 <;> by_cases h4 : 0 ≤ y1.f1 <;> by_cases h5 : y1.f1 ≤ 999999 <;> simp [h0, h1, h2, h3, h4, h5] <;> rfl
  have m : ∀ a, ∃ r, spec_IntValue.f a = some r := by
    intro a
    unfold spec_IntValue.f spec_Mod.f spec_l1In.f
    simp
  obtain ⟨r, hr⟩ : ∃ r, spec_AddInts.f 1 y0.f0 y0.f1 y1.f0 y1.f1 = some r := by
    obtain ⟨v, hv⟩ := m (wrap64 (y0.f1 + y1.f1))
    have j : ∀ b, ∃ r, spec_AddInts.j0 1 b y0.f0 y0.f1 y1.f0 y1.f1 = some r := by
      intro b
      simp only [spec_AddInts.j0]
      cases b
      · rw [if_neg (by simp), hv]
        exact ⟨_, rfl⟩
      · exact ⟨_, rfl⟩
    unfold spec_AddInts.f spec_l1In.f
    obtain ⟨r1, h1⟩ := j true
    obtain ⟨r2, h2⟩ := j false
    by_cases c0 : y0.f0 = 0 <;> by_cases c1 : y1.f0 = 0 <;> by_cases c2 : y0.f1 ≥ 0 <;> by_cases c3 : y0.f1 ≤ 999999 <;> by_cases c4 : y1.f1 ≥ 0 <;> by_cases c5 : y1.f1 ≤ 999999 <;> simp [c0, c1, c2, c3, c4, c5] <;> first | exact ⟨_, _, h1⟩ | exact ⟨_, _, h2⟩ | (simp only [c0, c1] at h1 h2; first | exact ⟨_, _, h1⟩ | exact ⟨_, _, h2⟩)
  unfold laws_FnExactAddInts.f laws_toValue.f
  simp only [Option.bind_some, e, hr, laws_eqValue.f, if_true]

end Go.Proofs.Ytbaehdopmpnjoaa.Pure
