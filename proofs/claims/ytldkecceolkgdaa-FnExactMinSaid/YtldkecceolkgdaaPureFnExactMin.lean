/- The pure side of the law FnExactMin: what the printed functions of the program and of the reference compute is the same, for every argument. -/
import Derived.Test.YtldkecceolkgdaaPFnExactMinx1
namespace Go.Proofs.Ytldkecceolkgdaa.Pure
open Go.RowKit Go.Proofs.Ytldkecceolkgdaa.PFnExactMin Go.Proofs.YtldkecceolkgdaaW.PrintWords Go.Proofs.YtldkecceolkgdaaW.PrintLast

theorem FnExactMin : laws_FnExactMin.Pure := by
  intro a0 a1 _ _
  unfold laws_FnExactMin.f spec_Min.f impl_Min.f mn
  by_cases h : a1 < a0
  · rw [if_pos h]
    simp only [Option.bind_some]
    rw [if_pos (by first | omega | (split <;> omega))]
  · rw [if_neg h]
    simp only [Option.bind_some]
    rw [if_pos (by first | omega | (split <;> omega))]

end Go.Proofs.Ytldkecceolkgdaa.Pure
