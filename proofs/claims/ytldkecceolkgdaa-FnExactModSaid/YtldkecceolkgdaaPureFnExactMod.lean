/- The pure side of the law FnExactMod: what the printed functions of the program and of the reference compute is the same, for every argument. -/
import Derived.Test.YtldkecceolkgdaaPFnExactModx1
namespace Go.Proofs.Ytldkecceolkgdaa.Pure
open Go.RowKit Go.Proofs.Ytldkecceolkgdaa.PFnExactMod Go.Proofs.YtldkecceolkgdaaW.PrintWords Go.Proofs.YtldkecceolkgdaaW.PrintLast

theorem FnExactMod : laws_FnExactMod.Pure := by
  intro a0 a1 _ _
  have e : impl_Mod.f a0 a1 = spec_Mod.f a0 a1 := by
    unfold impl_Mod.f spec_Mod.f impl_in.f spec_l1In.f
    rfl
  have s : ∃ r, spec_Mod.f a0 a1 = some r := by
    unfold spec_Mod.f spec_l1In.f
    by_cases h2 : a1 ≥ 1 <;> by_cases h3 : a1 ≤ 1000000000000 <;> simp [h2, h3, show (a1 ≥ 1) → a1 ≠ 0 from fun h => by omega]
  obtain ⟨r, hr⟩ := s
  unfold laws_FnExactMod.f
  rw [e, hr]
  simp

end Go.Proofs.Ytldkecceolkgdaa.Pure
