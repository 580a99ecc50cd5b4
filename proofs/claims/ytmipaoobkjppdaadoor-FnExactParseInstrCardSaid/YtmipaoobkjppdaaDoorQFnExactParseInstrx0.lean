-- Written by a program of this session, after the kit's print, with contracts by hand.
import Derived.Test.YtmipaoobkjppdaaDoorProg
import Derived.Below
import Derived.Deep.Draws
import Derived.Deep.AppendLies
import Derived.Maps.AppendAt
import Derived.OwnWalk
import Derived.Laws.BytesArg
import Derived.Laws.MakeOwn
import Derived.Laws.OwnMore
import Derived.Deep.OwnRows
import Derived.Tactics
import Derived.Lib.ConvBytes
import Derived.Laws.Slices
import Derived.WalkKit
import Derived.KernelRfl
import Derived.RowKit3
import Derived.Deep.LoopGhost
import Derived.Deep.QuietTactic
import Derived.BigQuiet
import Derived.WideLaws
import Derived.Deep.DeepCutAuto
import Derived.Deep.CutBlock
import Derived.Deep.RegionHeld3
import Derived.Laws.Rows
import Derived.Lib.AppendStr
import Derived.ArgAppend
import Derived.Laws.IdiomCopy
import Derived.OrdersHeld
import Derived.Laws.BitsLemmas
import Derived.RowKit
import Derived.Lib.SliceRun
import Derived.Test.YtmipaoobkjppdaaDoorTabFnExactParseInstr
import Derived.Shelf.SlicesE.DeleteFunc
import Derived.Sort.OwnSortedInts
import Derived.Test.YtmipaoobkjppdaaDoorLay
import Derived.Test.YtmipaoobkjppdaaDoorLay2
import Derived.Shelf.Strconv.Itoa4
import Derived.Shelf.Strings.OnBuilder
import Derived.Shelf.Strings.SplitShaped
import Derived.Shelf.Strconv.AtoiAll
import Derived.Shelf.Strconv.ErrVarAll
import Derived.Test.YtmipaoobkjppdaaDoorWWords
import Derived.Test.YtmipaoobkjppdaaDoorWLast
import Derived.Test.YtmipaoobkjppdaaDoorWTab
import Derived.Test.YtmipaoobkjppdaaDoorWFour
import Derived.Test.YtmipaoobkjppdaaDoorWQPut
import Derived.Test.YtmipaoobkjppdaaDoorWApart
import Derived.Test.YtmipaoobkjppdaaDoorWArr
import Derived.Test.YtmipaoobkjppdaaDoorWZeros
import Derived.Test.YtmipaoobkjppdaaDoorWFoot
import Derived.Test.YtmipaoobkjppdaaDoorWKept
import Derived.Test.YtmipaoobkjppdaaDoorWShare
import Derived.Test.YtmipaoobkjppdaaDoorWN
import Derived.Test.YtmipaoobkjppdaaDoorWFootNe
import Derived.Test.YtmipaoobkjppdaaDoorWAt
import Derived.Test.YtmipaoobkjppdaaDoorWEqStruct
import Derived.Test.YtmipaoobkjppdaaDoorWRepsOne
import Derived.Test.YtmipaoobkjppdaaDoorWInv
import Derived.Test.YtmipaoobkjppdaaDoorWInvWords
import Derived.Test.YtmipaoobkjppdaaDoorWGuard
import Derived.Test.YtmipaoobkjppdaaDoorWNEv
import Derived.Test.YtmipaoobkjppdaaDoorWMore
namespace Go.Proofs.YtmipaoobkjppdaaDoor.QFnExactParseInstr
open Go.RowKit Go.Proofs.YtmipaoobkjppdaaDoorW.PrintWords Go.Proofs.YtmipaoobkjppdaaDoorW.PrintLast Go.Proofs.YtmipaoobkjppdaaDoorW.PrintMore
attribute [local go_sem] max2_int min2_int max_two min_two max_three min_three max_four min_four   -- for this text's walks alone
set_option linter.unusedVariables false
set_option linter.unusedSimpArgs false



def errW : Option Int → Value
  | none => .nilIface
  | some c => .iface 0 (.int .i64 c)
theorem errW_none : errW none = .nilIface := rfl
theorem errW_some (c : Int) : errW (some c) = .iface 0 (.int .i64 c) := rfl

theorem info3 : (Tryd.prog.info? 3).map (fun i => (i.zero, i.size, i.bytes)) = some (some (.int .i64 0), 1, 8) := by kernel_rfl
theorem info5 : (Tryd.prog.info? 5).map (fun i => (i.zero, i.size, i.bytes)) = some (some (.int .u8 0), 1, 1) := by kernel_rfl
theorem info9 : (Tryd.prog.info? 9).map (fun i => (i.zero, i.size, i.bytes)) = some (some (.string ⟨#[]⟩), 1, 16) := by kernel_rfl
theorem info27 : (Tryd.prog.info? 27).map (fun i => (i.zero, i.size, i.bytes)) = some (some (.agg #[(.int .i64 0), (.int .i64 0), (.int .i64 0), (.int .i64 0), (.int .i64 0), (.string ⟨#[]⟩)]), 6, 56) := by kernel_rfl
theorem info29 : (Tryd.prog.info? 29).map (fun i => (i.zero, i.size, i.bytes)) = some (some (.slice none 0 0), 1, 24) := by kernel_rfl
theorem info62 : (Tryd.prog.info? 62).map (fun i => (i.zero, i.size, i.bytes)) = some (some (.slice none 0 0), 1, 24) := by kernel_rfl
-- the values' own types

end Go.Proofs.YtmipaoobkjppdaaDoor.QFnExactParseInstr
