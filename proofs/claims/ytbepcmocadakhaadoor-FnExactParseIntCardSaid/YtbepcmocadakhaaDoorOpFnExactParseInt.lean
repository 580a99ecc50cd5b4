-- Written by a program of this session, after the kit's print, with contracts by hand.
import Derived.Test.YtbepcmocadakhaaDoorQFnExactParseIntx1
import Derived.Test.YtbepcmocadakhaaDoorOpen
import Derived.KernelRfl
set_option linter.unusedVariables false
namespace Go.Proofs.YtbepcmocadakhaaDoor.OpFnExactParseInt
open Go.RowKit Go.Proofs.YtbepcmocadakhaaDoor Go.Proofs.YtbepcmocadakhaaDoor.QFnExactParseInt Go.Proofs.YtbepcmocadakhaaDoorW.PrintWords

def Pure : Prop := ∀ (a0 : ByteArray), (fun s : ByteArray => s.size ≤ maxLen) a0 → ∃ k, laws_FnExactParseInt.f k a0 = some true
end Go.Proofs.YtbepcmocadakhaaDoor.OpFnExactParseInt
