/- The pure side of the law FnExactMax: what the printed functions of the program and of the reference compute is the same, for every argument. -/
import Derived.Test.YtldkecceolkgdaaPFnExactMaxx1
namespace Go.Proofs.Ytldkecceolkgdaa.Pure
open Go.RowKit Go.Proofs.Ytldkecceolkgdaa.PFnExactMax Go.Proofs.YtldkecceolkgdaaW.PrintWords Go.Proofs.YtldkecceolkgdaaW.PrintLast

theorem FnExactMax : laws_FnExactMax.Pure := by
  intro a0 a1 _ _
  unfold laws_FnExactMax.f spec_Max.f impl_Max.f mx
  by_cases h : a1 > a0
  · rw [if_pos h]
    simp only [Option.bind_some]
    rw [if_pos (by first | omega | (split <;> omega))]
  · rw [if_neg h]
    simp only [Option.bind_some]
    rw [if_pos (by first | omega | (split <;> omega))]

end Go.Proofs.Ytldkecceolkgdaa.Pure
