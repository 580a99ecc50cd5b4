/- The pure side of the law FnExactBrokenValue: what the printed functions of the program and of the reference compute is the same, for every argument. -/
import Derived.Test.YtldkecceolkgdaaPFnExactBrokenValuex1
namespace Go.Proofs.Ytldkecceolkgdaa.Pure
open Go.RowKit Go.Proofs.Ytldkecceolkgdaa.PFnExactBrokenValue Go.Proofs.YtldkecceolkgdaaW.PrintWords Go.Proofs.YtldkecceolkgdaaW.PrintLast

theorem FnExactBrokenValue : laws_FnExactBrokenValue.Pure := by
  unfold laws_FnExactBrokenValue.Pure laws_FnExactBrokenValue.f spec_BrokenValue.f impl_BrokenValue.f laws_eqValue.f
  rfl

end Go.Proofs.Ytldkecceolkgdaa.Pure
