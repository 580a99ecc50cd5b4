-- Written by a program of this session, after the kit's print, with contracts by hand.
import Derived.Test.YtmipaoobkjppdaaDoorQFnExactOpNamex1
import Derived.Test.YtmipaoobkjppdaaDoorOpen
import Derived.KernelRfl
set_option linter.unusedVariables false
namespace Go.Proofs.YtmipaoobkjppdaaDoor.OpFnExactOpName
open Go.RowKit Go.Proofs.YtmipaoobkjppdaaDoor Go.Proofs.YtmipaoobkjppdaaDoor.QFnExactOpName Go.Proofs.YtmipaoobkjppdaaDoorW.PrintWords

def Pure : Prop := ∀ (a0 : Int), (fun n : Int => (Lit.int .i64 n).wf = true) a0 → laws_FnExactOpName.f a0 = some true
end Go.Proofs.YtmipaoobkjppdaaDoor.OpFnExactOpName
