/- The pure side of the law FnExactCeilDiv: what the printed functions of the program and of the reference compute is the same, for every argument. -/
import Derived.Test.YtldkecceolkgdaaPFnExactCeilDivx1
namespace Go.Proofs.Ytldkecceolkgdaa.Pure
open Go.RowKit Go.Proofs.Ytldkecceolkgdaa.PFnExactCeilDiv Go.Proofs.YtldkecceolkgdaaW.PrintWords Go.Proofs.YtldkecceolkgdaaW.PrintLast

theorem FnExactCeilDiv : laws_FnExactCeilDiv.Pure := by
  intro a0 a1 _ _
  have e : impl_CeilDiv.f a0 a1 = spec_CeilDiv.f a0 a1 := by
    unfold impl_CeilDiv.f spec_CeilDiv.f impl_in.f spec_l1In.f
    rfl
  have s : ∃ r, spec_CeilDiv.f a0 a1 = some r := by
    unfold spec_CeilDiv.f spec_l1In.f
    by_cases h : a0 ≥ 0 <;> by_cases h1 : a0 ≤ 1000000000000 <;> by_cases h2 : a1 ≥ 1 <;> by_cases h3 : a1 ≤ 1000000000000 <;> simp [h, h1, h2, h3, show (a1 ≥ 1) → a1 ≠ 0 from fun h => by omega]
  obtain ⟨r, hr⟩ := s
  unfold laws_FnExactCeilDiv.f
  rw [e, hr]
  simp

end Go.Proofs.Ytldkecceolkgdaa.Pure
