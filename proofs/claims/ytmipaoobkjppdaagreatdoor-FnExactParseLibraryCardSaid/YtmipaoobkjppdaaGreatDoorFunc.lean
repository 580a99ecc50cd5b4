/- What slices.IndexFunc answers, over any predicate that may lack an answer. -/
import Derived.Test.YtmipaoobkjppdaaGreatDoorWWords
import Derived.Shelf.Abstract
set_option linter.unusedVariables false
namespace Go.Proofs.YtmipaoobkjppdaaGreatDoor.Func
open Go.RowKit Go.Proofs.YtmipaoobkjppdaaGreatDoorW.PrintWords
def eD {α:Type} (q:α→Option Bool):List α→Int→Option Int
 | [],_=>some (-1)
 | x::xs,i=>(q x).bind fun b=>if b=true then some i else eD q xs (i+1)
theorem kV {α:Type} {q q':α→Option Bool} (h:∀x,bd (q x) (q' x)):∀(l:List α) (i:Int),bd (eD q l i) (eD q' l i)
 | [],_=>bd.refl _
 | x::xs,i=>by
  unfold eD;exact bd.bind (h x) fun b=>bd.ite (bd.refl _) (kV h xs (i+1))
theorem hI {α:Type} (q:α→Option Bool) (l:List α) (z:α) (i:Nat) (h:i<l.length):eD q (l.drop i) (i:Int)=(q (l.getD i z)).bind fun b=>if b=true then some (i:Int)else eD q (l.drop (i+1)) ((i+1:Nat):Int):=by
 rw[List.drop_eq_getElem_cons h,List.getD_eq_getElem?_getD,List.getElem?_eq_getElem h];rfl
theorem iG {α:Type} (p:α→Bool):∀(l:List α) (i:Int),0≤i→∃r,eD (fun x=>some (p x)) l i=some r∧decide (r≥0)=l.any p
 | [],i,_=>⟨-1,rfl,rfl⟩
 | x::xs,i,h=>by
  unfold eD;obtain⟨r,r1,r2⟩:=iG p xs (i+1) (by omega);simp only[Option.bind_some,List.any_cons];by_cases c:p x=true
  ·rw[if_pos c,c];exact⟨i,rfl,by simpa using h⟩
  ·rw[if_neg c,Bool.eq_false_iff.2 c,Bool.false_or];exact⟨r,r1,r2⟩
theorem j4 {α:Type} {q q':α→Option Bool}:∀(l:List α) (i:Int),(∀x∈l,q x=q' x)→eD q l i=eD q' l i
 | [],_,_=>rfl
 | x::xs,i,h=>by
  unfold eD;rw[h x (List.mem_cons_self ..),j4 xs (i+1) (fun y hy=>h y (List.mem_cons_of_mem _ hy))]
end Go.Proofs.YtmipaoobkjppdaaGreatDoor.Func
