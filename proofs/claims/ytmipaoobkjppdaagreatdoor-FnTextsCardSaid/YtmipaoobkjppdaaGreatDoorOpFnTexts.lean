import Derived.Test.YtmipaoobkjppdaaGreatDoorQFnTextsx23
import Derived.Test.YtmipaoobkjppdaaGreatDoorOpen
set_option linter.unusedVariables false
namespace Go.Proofs.YtmipaoobkjppdaaGreatDoor.OpFnTexts
open Go.RowKit Go.Proofs.YtmipaoobkjppdaaGreatDoor Go.Proofs.YtmipaoobkjppdaaGreatDoor.QFnTexts Go.Proofs.YtmipaoobkjppdaaGreatDoorW.PrintWords
def Pure:Prop:=∀(y0:List Int),(fun xs:List Int=>xs.length≤maxLen∧∀y∈xs,(fun n:Int=>(Lit.int .u8 n).wf=true) y) y0→∃k,bc.f k y0=some true
end Go.Proofs.YtmipaoobkjppdaaGreatDoor.OpFnTexts
