/- From the reading of an argument (DataW.trod) to the print's own facts on its cells (Kd.K), kind by kind: whole numbers, bools, strings, slices, structs. -/
import Derived.Deep.Slices
import Derived.ChangeSame
import Derived.WideShapes
import Derived.ChangeArms
import Derived.Test.YtmipaoobkjppdaaGreatDoorWWords
set_option linter.unusedVariables false
namespace Go.Proofs.YtmipaoobkjppdaaGreatDoor.Bridge
open Go.ChangeShapes Go.WideShapes Go.Deep Go.RowKit Go.Proofs.YtmipaoobkjppdaaGreatDoorW.PrintWords
def Op (P:Program) (t:TypeId) {α:Type} (d:Kd α) (G:α→Prop):Prop :=
 ∀(H:Type) (enc:TypeId×Value→H) (w:World) (base:Nat) (spare:Nat→Bool) (held:Bool) (fuel:Nat) (cs:List Value) (x:DataW H×List MemPlace),
  DataW.trod enc P w base spare held fuel t cs=some x→∃y:α,d.K w y cs∧G y
end Go.Proofs.YtmipaoobkjppdaaGreatDoor.Bridge
