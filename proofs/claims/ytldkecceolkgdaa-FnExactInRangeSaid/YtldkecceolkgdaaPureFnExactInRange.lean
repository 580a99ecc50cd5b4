/- The pure side of the law FnExactInRange: what the printed functions of the program and of the reference compute is the same, for every argument. -/
import Derived.Test.YtldkecceolkgdaaPFnExactInRangex1
namespace Go.Proofs.Ytldkecceolkgdaa.Pure
open Go.RowKit Go.Proofs.Ytldkecceolkgdaa.PFnExactInRange Go.Proofs.YtldkecceolkgdaaW.PrintWords Go.Proofs.YtldkecceolkgdaaW.PrintLast

theorem FnExactInRange : laws_FnExactInRange.Pure := by
  intro a0 a1 a2 _ _ _
  unfold laws_FnExactInRange.f spec_InRange.f impl_InRange.f impl_in.f
  by_cases h : a1 ≤ a0 <;> simp [h]

end Go.Proofs.Ytldkecceolkgdaa.Pure
