-- Written by a program of this session, after the kit's print, with contracts by hand.
import Derived.Test.YtbepcmocadakhaaDoorQFnIntegersx3
import Derived.Test.YtbepcmocadakhaaDoorOpen
import Derived.KernelRfl
set_option linter.unusedVariables false
namespace Go.Proofs.YtbepcmocadakhaaDoor.OpFnIntegers
open Go.RowKit Go.Proofs.YtbepcmocadakhaaDoor Go.Proofs.YtbepcmocadakhaaDoor.QFnIntegers Go.Proofs.YtbepcmocadakhaaDoorW.PrintWords

def Pure : Prop := ∀ (y0 : List Int), (fun xs : List Int => xs.length ≤ maxLen ∧ ∀ y ∈ xs, (fun n : Int => (Lit.int .u8 n).wf = true) y) y0 → ∃ k, laws_FnIntegers.f k y0 = some true
end Go.Proofs.YtbepcmocadakhaaDoor.OpFnIntegers
