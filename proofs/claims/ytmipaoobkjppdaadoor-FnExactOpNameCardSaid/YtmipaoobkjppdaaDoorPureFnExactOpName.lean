/- The plain law of OpName. -/
import Derived.Test.YtmipaoobkjppdaaDoorOpFnExactOpName
import Derived.Test.YtmipaoobkjppdaaDoorKit
set_option linter.unusedVariables false
set_option linter.unusedSimpArgs false
namespace Go.Proofs.YtmipaoobkjppdaaDoor.Pure
open Go.RowKit Go.Proofs.YtmipaoobkjppdaaDoor.QFnExactOpName Go.Proofs.YtmipaoobkjppdaaDoorW.PrintWords Go.Proofs.YtmipaoobkjppdaaDoorW.PrintLast Go.Proofs.YtmipaoobkjppdaaDoor.OpFnExactOpName

def opn (a : Int) : ByteArray := if 1 ≤ a ∧ a ≤ 10 then impl_OpName.tab.getD a.toNat ⟨#[]⟩ else ⟨#[]⟩
theorem impl_op (a : Int) : impl_OpName.f a = some (opn a) := by
  unfold impl_OpName.f opn
  split <;> rfl
theorem spec_op (a : Int) : spec_OpName.f a = some (opn a) := by
  unfold spec_OpName.f opn spec_l1In.f
  by_cases c : 1 ≤ a ∧ a ≤ 10
  · rw [if_pos (show a ≥ 1 from c.1), decide_eq_true c.2, if_pos c]
    simp only [Option.bind_some]
    rw [if_pos trivial, if_pos (by omega), if_pos (by simp; omega)]
    rfl
  · rw [if_neg c]
    by_cases c1 : a ≥ 1
    · rw [if_pos c1, decide_eq_false (fun h => c ⟨c1, h⟩)]
      simp only [Option.bind_some]
      rw [if_neg (by simp)]
    · rw [if_neg c1]
      simp only [Option.bind_some]
      rw [if_neg (by simp)]
theorem FnExactOpName : OpFnExactOpName.Pure := by
  intro a0 _
  unfold laws_FnExactOpName.f
  rw [spec_op]
  simp only [Option.bind_some]
  rw [impl_op]
  simp only [Option.bind_some]
  rw [if_pos trivial]

end Go.Proofs.YtmipaoobkjppdaaDoor.Pure
