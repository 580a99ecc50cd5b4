-- Written by a program of this session, after the kit's print, with contracts by hand.
import Derived.Test.YtgggflbmcmalfaaProg
import Derived.Below
import Derived.Deep.Draws
import Derived.Deep.AppendLies
import Derived.Maps.AppendAt
import Derived.OwnWalk
import Derived.Laws.BytesArg
import Derived.Laws.MakeOwn
import Derived.Laws.OwnMore
import Derived.Deep.OwnRows
import Derived.Tactics
import Derived.Lib.ConvBytes
import Derived.Laws.Slices
import Derived.WalkKit
import Derived.KernelRfl
import Derived.RowKit3
import Derived.Deep.LoopGhost
import Derived.Deep.QuietTactic
import Derived.BigQuiet
import Derived.WideLaws
import Derived.Deep.DeepCutAuto
import Derived.Deep.CutBlock
import Derived.Deep.RegionHeld3
import Derived.Laws.Rows
import Derived.Lib.AppendStr
import Derived.ArgAppend
import Derived.Laws.IdiomCopy
import Derived.OrdersHeld
import Derived.Laws.BitsLemmas
import Derived.RowKit
import Derived.Lib.SliceRun
import Derived.Lib.Bytealg
import Derived.Test.YtgggflbmcmalfaaWWords
import Derived.Test.YtgggflbmcmalfaaWLast
import Derived.Test.YtgggflbmcmalfaaWTab
import Derived.Test.YtgggflbmcmalfaaWFour
import Derived.Test.YtgggflbmcmalfaaWQPut
import Derived.Test.YtgggflbmcmalfaaWApart
import Derived.Test.YtgggflbmcmalfaaWArr
import Derived.Test.YtgggflbmcmalfaaWZeros
import Derived.Test.YtgggflbmcmalfaaWFoot
import Derived.Test.YtgggflbmcmalfaaWKept
import Derived.Test.YtgggflbmcmalfaaWShare
import Derived.Test.YtgggflbmcmalfaaWN
import Derived.Test.YtgggflbmcmalfaaWFootNe
import Derived.Test.YtgggflbmcmalfaaWAt
import Derived.Test.YtgggflbmcmalfaaWEqStruct
import Derived.Test.YtgggflbmcmalfaaWRepsOne
import Derived.Test.YtgggflbmcmalfaaWInv
import Derived.Test.YtgggflbmcmalfaaWInvWords
import Derived.Test.YtgggflbmcmalfaaWGuard
import Derived.Test.YtgggflbmcmalfaaWNEv
import Derived.Test.YtgggflbmcmalfaaWMore
namespace Go.Proofs.Ytgggflbmcmalfaa.QFnExactCountLines
open Go.RowKit Go.Proofs.YtgggflbmcmalfaaW.PrintWords Go.Proofs.YtgggflbmcmalfaaW.PrintLast Go.Proofs.YtgggflbmcmalfaaW.PrintMore
attribute [local go_sem] max2_int min2_int max_two min_two max_three min_three max_four min_four   -- for this text's walks alone
set_option linter.unusedVariables false
set_option linter.unusedSimpArgs false



def errW : Option Int → Value
  | none => .nilIface
  | some c => .iface 0 (.int .i64 c)
theorem errW_none : errW none = .nilIface := rfl
theorem errW_some (c : Int) : errW (some c) = .iface 0 (.int .i64 c) := rfl

-- the values' own types

end Go.Proofs.Ytgggflbmcmalfaa.QFnExactCountLines
