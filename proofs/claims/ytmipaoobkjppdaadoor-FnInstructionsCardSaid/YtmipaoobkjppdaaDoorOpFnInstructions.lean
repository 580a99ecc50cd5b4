-- Written by a program of this session, after the kit's print, with contracts by hand.
import Derived.Test.YtmipaoobkjppdaaDoorQFnInstructionsx10
import Derived.Test.YtmipaoobkjppdaaDoorOpen
import Derived.KernelRfl
set_option linter.unusedVariables false
namespace Go.Proofs.YtmipaoobkjppdaaDoor.OpFnInstructions
open Go.RowKit Go.Proofs.YtmipaoobkjppdaaDoor Go.Proofs.YtmipaoobkjppdaaDoor.QFnInstructions Go.Proofs.YtmipaoobkjppdaaDoorW.PrintWords

def Pure : Prop := ∀ (y0 : List Int), (fun xs : List Int => xs.length ≤ maxLen ∧ ∀ y ∈ xs, (fun n : Int => (Lit.int .u8 n).wf = true) y) y0 → ∃ k, laws_FnInstructions.f k y0 = some true
end Go.Proofs.YtmipaoobkjppdaaDoor.OpFnInstructions
