/- The pure side of the law FnExactIntValue: what the printed functions of the program and of the reference compute is the same, for every argument. -/
import Derived.Test.YtbaehdopmpnjoaaPFnExactIntValuex1
namespace Go.Proofs.Ytbaehdopmpnjoaa.Pure
open Go.RowKit Go.Proofs.Ytbaehdopmpnjoaa.PFnExactIntValue Go.Proofs.YtbaehdopmpnjoaaW.PrintWords Go.Proofs.YtbaehdopmpnjoaaW.PrintLast

theorem FnExactIntValue : laws_FnExactIntValue.Pure := by
  intro a0 _
  have e : impl_IntValue.f a0 = spec_IntValue.f a0 := rfl
  have s : spec_IntValue.f a0 = some (0, Int.tmod (wrap64 ((Int.tmod a0 1000000) + 1000000)) 1000000) := by
    unfold spec_IntValue.f spec_Mod.f spec_l1In.f
    simp
  unfold laws_FnExactIntValue.f
  rw [e, s]
  simp [laws_eqValue.f]

end Go.Proofs.Ytbaehdopmpnjoaa.Pure
