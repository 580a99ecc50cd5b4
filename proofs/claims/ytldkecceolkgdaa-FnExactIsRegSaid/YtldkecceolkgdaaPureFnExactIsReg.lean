/- The pure side of the law FnExactIsReg: what the printed functions of the program and of the reference compute is the same, for every argument. -/
import Derived.Test.YtldkecceolkgdaaPFnExactIsRegx1
namespace Go.Proofs.Ytldkecceolkgdaa.Pure
open Go.RowKit Go.Proofs.Ytldkecceolkgdaa.PFnExactIsReg Go.Proofs.YtldkecceolkgdaaW.PrintWords Go.Proofs.YtldkecceolkgdaaW.PrintLast

theorem FnExactIsReg : laws_FnExactIsReg.Pure := by
  intro a0 _
  unfold laws_FnExactIsReg.f spec_IsReg.f impl_IsReg.f impl_isReg.f impl_in.f spec_l1In.f
  by_cases h : (0 : Int) ≤ a0 <;> simp [h]

end Go.Proofs.Ytldkecceolkgdaa.Pure
