/- The loops that the laws share, told over any function that steps as they do: copy, compare, mark, held; and small facts on rounds. -/
import Derived.Test.YtmipaoobkjppdaaGreatDoorWWords
import Derived.Test.YtmipaoobkjppdaaGreatDoorWLast
import Derived.SizedLaws
import Derived.ChangeSlices
set_option linter.unusedVariables false
namespace Go.Proofs.YtmipaoobkjppdaaGreatDoor.Kit
open Go.RowKit Go.Proofs.YtmipaoobkjppdaaGreatDoorW 
open PrintWords PrintLast
theorem dy (i:Nat) (h:i<4611686018427387904):wrap64 ((i:Int)+1)=((i+1:Nat):Int):=by
 unfold wrap64;omega
theorem fJ (x:Int) (h0: -9223372036854775808≤x) (h1:x≤9223372036854775807):wrap64 x=x:=by
 unfold wrap64;omega
theorem rd_lt (l:List Int) (i:Nat) (h:i<l.length):rd l (i:Int)=l[i]:=by
 unfold rd;rw[Int.toNat_natCast,List.getD_eq_getElem?_getD,List.getElem?_eq_getElem h];rfl
theorem take_set {α:Type} (l:List α) (i:Nat) (v:α) (h:i<l.length):(l.set i v).take (i+1)=l.take i++[v]:=by
 rw[List.take_succ_eq_append_getElem (by simpa using h),List.take_set,List.set_eq_of_length_le (by rw[List.length_take];omega),List.getElem_set_self]
theorem kn {α:Type} (l:List α) (i:Nat) (h:i<l.length):l.drop i=l[i]::l.drop (i+1):=List.drop_eq_getElem_cons h
section
variable {α β:Type} (g:α→β) (da:α) (L:Nat→List α→List β→Int→Option (List β))
end
section
variable {α:Type} [DecidableEq α] (da:α) (L:Nat→List α→List α→Int→Option Bool)
end
section
variable {α:Type} [DecidableEq α] (da:α) (L:Nat→List α→List α→Int→Int→Option Bool)
end
section
variable (c:Int→Int) (L:Nat→List Int→Int→Int→Option (Int×List Int)) (M:Nat→List Int→Int→Int→Option Int)
def marks (c:Int→Int) (m:Int) (n:Nat):List Int:=(List.range n).map fun(j:Nat)=>c (m+(j:Int))
end
end Go.Proofs.YtmipaoobkjppdaaGreatDoor.Kit
