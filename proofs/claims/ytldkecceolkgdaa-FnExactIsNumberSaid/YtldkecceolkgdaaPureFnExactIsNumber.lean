/- The pure side of the law FnExactIsNumber: what the printed functions of the program and of the reference compute is the same, for every argument. -/
import Derived.Test.YtldkecceolkgdaaOpFnExactIsNumber
import Derived.Test.YtldkecceolkgdaaKit
set_option linter.unusedVariables false
set_option linter.unusedSimpArgs false
namespace Go.Proofs.Ytldkecceolkgdaa.Pure
open Go.RowKit Go.Proofs.Ytldkecceolkgdaa.QFnExactIsNumber Go.Proofs.YtldkecceolkgdaaW.PrintWords Go.Proofs.YtldkecceolkgdaaW.PrintLast Go.Proofs.Ytldkecceolkgdaa.OpFnExactIsNumber

theorem FnExactIsNumber : OpFnExactIsNumber.Pure := by
  intro y0 a1 _ _
  unfold laws_FnExactIsNumber.f laws_toValue.f spec_IsNumber.f impl_IsNumber.f
  by_cases h0 : y0.f0 = 0 <;> by_cases h1 : y0.f1 = a1 <;> simp [h0, h1]

end Go.Proofs.Ytldkecceolkgdaa.Pure
