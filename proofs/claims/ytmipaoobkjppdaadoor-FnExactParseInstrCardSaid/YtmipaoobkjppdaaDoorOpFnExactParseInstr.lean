-- Written by a program of this session, after the kit's print, with contracts by hand.
import Derived.Test.YtmipaoobkjppdaaDoorQFnExactParseInstrx11
import Derived.Test.YtmipaoobkjppdaaDoorOpen
import Derived.KernelRfl
set_option linter.unusedVariables false
namespace Go.Proofs.YtmipaoobkjppdaaDoor.OpFnExactParseInstr
open Go.RowKit Go.Proofs.YtmipaoobkjppdaaDoor Go.Proofs.YtmipaoobkjppdaaDoor.QFnExactParseInstr Go.Proofs.YtmipaoobkjppdaaDoorW.PrintWords

def Pure : Prop := ∀ (a0 : ByteArray), (fun s : ByteArray => s.size ≤ maxLen) a0 → ∃ k, laws_FnExactParseInstr.f k a0 = some true
end Go.Proofs.YtmipaoobkjppdaaDoor.OpFnExactParseInstr
