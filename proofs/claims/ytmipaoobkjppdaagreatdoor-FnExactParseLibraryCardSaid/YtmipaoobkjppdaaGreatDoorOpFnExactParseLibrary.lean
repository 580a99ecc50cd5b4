import Derived.Test.YtmipaoobkjppdaaGreatDoorQFnExactParseLibraryx22
import Derived.Test.YtmipaoobkjppdaaGreatDoorOpen
set_option linter.unusedVariables false
namespace Go.Proofs.YtmipaoobkjppdaaGreatDoor.OpFnExactParseLibrary
open Go.RowKit Go.Proofs.YtmipaoobkjppdaaGreatDoor Go.Proofs.YtmipaoobkjppdaaGreatDoor.QFnExactParseLibrary Go.Proofs.YtmipaoobkjppdaaGreatDoorW.PrintWords
def Pure:Prop:=∀(a0:ByteArray),(fun s:ByteArray=>s.size≤maxLen) a0→∃k,bS.f k a0=some true
end Go.Proofs.YtmipaoobkjppdaaGreatDoor.OpFnExactParseLibrary
