-- Written by a program of this session, after the kit's print, with contracts by hand.
import Derived.Test.YtbepcmocadakhaaDoorQFnExactFormatIntx1
import Derived.Test.YtbepcmocadakhaaDoorOpen
import Derived.KernelRfl
set_option linter.unusedVariables false
namespace Go.Proofs.YtbepcmocadakhaaDoor.OpFnExactFormatInt
open Go.RowKit Go.Proofs.YtbepcmocadakhaaDoor Go.Proofs.YtbepcmocadakhaaDoor.QFnExactFormatInt Go.Proofs.YtbepcmocadakhaaDoorW.PrintWords

def Pure : Prop := ∀ (a0 : Int), (fun n : Int => (Lit.int .i64 n).wf = true) a0 → ∃ k, laws_FnExactFormatInt.f k a0 = some true
end Go.Proofs.YtbepcmocadakhaaDoor.OpFnExactFormatInt
