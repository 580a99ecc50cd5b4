/- More of the loops that the laws share: copying and comparing by a function that has rounds of its own; what is left of a size; texts as lists of bytes. -/
import Derived.Test.YtmipaoobkjppdaaGreatDoorKit
import Derived.Laws.Strings
set_option linter.unusedVariables false
namespace Go.Proofs.YtmipaoobkjppdaaGreatDoor.Kit
open Go.RowKit Go.Proofs.YtmipaoobkjppdaaGreatDoorW 
open PrintWords PrintLast
theorem bytes_inj {a b:ByteArray}:a.toList=b.toList↔a=b:=by
 rw[Go.ByteArray.toList_eq,Go.ByteArray.toList_eq];constructor
 ·intro h
  cases a with|mk a=>cases b with|mk b =>
  have:a=b:=Array.toList_inj.1 h;rw[this]
 ·intro h;rw[h]
section
variable {α β:Type} (g:Nat→α→Option β) (gg:α→β) (da:α) (L:Nat→List α→List β→Int→Option (List β))
end
section
variable {α:Type} [DecidableEq α] (e:Nat→α→α→Option Bool) (da:α) (L:Nat→List α→List α→Int→Option Bool)
end
def sub (left:Int) (w:Nat):Int:=if left-(w:Int)<0 then -1 else left-(w:Int)
section
variable {α:Type} (s:Nat→α→Int→Option Int) (wt:α→Nat) (da:α) (L:Nat→List α→Int→Int→Option Int)
end
end Go.Proofs.YtmipaoobkjppdaaGreatDoor.Kit
