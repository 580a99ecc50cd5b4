-- Written by a program of this session, after the kit's print, with contracts by hand.
import Derived.Test.YtbaehdopmpnjoaaProg
import Derived.Below
import Derived.Deep.Draws
import Derived.Deep.AppendLies
import Derived.Maps.AppendAt
import Derived.OwnWalk
import Derived.Laws.BytesArg
import Derived.Laws.MakeOwn
import Derived.Laws.OwnMore
import Derived.Deep.OwnRows
import Derived.Tactics
import Derived.Lib.ConvBytes
import Derived.Laws.Slices
import Derived.WalkKit
import Derived.KernelRfl
import Derived.RowKit3
import Derived.Deep.LoopGhost
import Derived.Deep.QuietTactic
import Derived.BigQuiet
import Derived.WideLaws
import Derived.Deep.DeepCutAuto
import Derived.Deep.CutBlock
import Derived.Deep.RegionHeld3
import Derived.Laws.Rows
import Derived.Lib.AppendStr
import Derived.ArgAppend
import Derived.Laws.IdiomCopy
import Derived.OrdersHeld
import Derived.Laws.BitsLemmas
import Derived.RowKit
import Derived.Lib.SliceRun
import Derived.Test.YtbaehdopmpnjoaaWWords
import Derived.Test.YtbaehdopmpnjoaaWLast
import Derived.Test.YtbaehdopmpnjoaaWTab
import Derived.Test.YtbaehdopmpnjoaaWFour
import Derived.Test.YtbaehdopmpnjoaaWQPut
import Derived.Test.YtbaehdopmpnjoaaWApart
import Derived.Test.YtbaehdopmpnjoaaWArr
import Derived.Test.YtbaehdopmpnjoaaWZeros
import Derived.Test.YtbaehdopmpnjoaaWFoot
import Derived.Test.YtbaehdopmpnjoaaWKept
import Derived.Test.YtbaehdopmpnjoaaWShare
import Derived.Test.YtbaehdopmpnjoaaWN
import Derived.Test.YtbaehdopmpnjoaaWFootNe
import Derived.Test.YtbaehdopmpnjoaaWAt
import Derived.Test.YtbaehdopmpnjoaaWEqStruct
import Derived.Test.YtbaehdopmpnjoaaWRepsOne
import Derived.Test.YtbaehdopmpnjoaaWInv
import Derived.Test.YtbaehdopmpnjoaaWInvWords
import Derived.Test.YtbaehdopmpnjoaaWGuard
import Derived.Test.YtbaehdopmpnjoaaWNEv
import Derived.Test.YtbaehdopmpnjoaaWMore
namespace Go.Proofs.Ytbaehdopmpnjoaa.QFnExactReadUvarint
open Go.RowKit Go.Proofs.YtbaehdopmpnjoaaW.PrintWords Go.Proofs.YtbaehdopmpnjoaaW.PrintLast Go.Proofs.YtbaehdopmpnjoaaW.PrintMore
attribute [local go_sem] max2_int min2_int max_two min_two max_three min_three max_four min_four   -- for this text's walks alone
set_option linter.unusedVariables false
set_option linter.unusedSimpArgs false



def errW : Option Int → Value
  | none => .nilIface
  | some c => .iface 0 (.int .i64 c)
theorem errW_none : errW none = .nilIface := rfl
theorem errW_some (c : Int) : errW (some c) = .iface 0 (.int .i64 c) := rfl

theorem info5 : (Try.prog.info? 5).map (fun i => (i.zero, i.size, i.bytes)) = some (some (.int .u8 0), 1, 1) := by kernel_rfl
-- the values' own types

end Go.Proofs.Ytbaehdopmpnjoaa.QFnExactReadUvarint
