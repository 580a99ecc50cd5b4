/- The pure side of the law FnExactRefValue: what the printed functions of the program and of the reference compute is the same, for every argument. -/
import Derived.Test.YtldkecceolkgdaaPFnExactRefValuex1
namespace Go.Proofs.Ytldkecceolkgdaa.Pure
open Go.RowKit Go.Proofs.Ytldkecceolkgdaa.PFnExactRefValue Go.Proofs.YtldkecceolkgdaaW.PrintWords Go.Proofs.YtldkecceolkgdaaW.PrintLast

theorem FnExactRefValue : laws_FnExactRefValue.Pure := by
  intro a0 _
  unfold laws_FnExactRefValue.f spec_RefValue.f impl_RefValue.f laws_eqValue.f
  simp

end Go.Proofs.Ytldkecceolkgdaa.Pure
