/- The pure side of the law FnExactIsValidKey: what the printed functions of the program and of the reference compute is the same, for every argument. -/
import Derived.Test.YtldkecceolkgdaaPFnExactIsValidKeyx1
namespace Go.Proofs.Ytldkecceolkgdaa.Pure
open Go.RowKit Go.Proofs.Ytldkecceolkgdaa.PFnExactIsValidKey Go.Proofs.YtldkecceolkgdaaW.PrintWords Go.Proofs.YtldkecceolkgdaaW.PrintLast

theorem FnExactIsValidKey : laws_FnExactIsValidKey.Pure := by
  intro a0 _
  unfold laws_FnExactIsValidKey.f spec_IsValidKey.f impl_IsValidKey.f impl_in.f spec_l1In.f
  by_cases h : (1 : Int) ≤ a0 <;> simp [h]

end Go.Proofs.Ytldkecceolkgdaa.Pure
