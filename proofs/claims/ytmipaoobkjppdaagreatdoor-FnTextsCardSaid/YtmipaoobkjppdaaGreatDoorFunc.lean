/- What slices.IndexFunc answers, over any predicate that may lack an answer. -/
import Derived.Test.YtmipaoobkjppdaaGreatDoorWWords
import Derived.Shelf.Abstract
set_option linter.unusedVariables false
namespace Go.Proofs.YtmipaoobkjppdaaGreatDoor.Func
open Go.RowKit Go.Proofs.YtmipaoobkjppdaaGreatDoorW.PrintWords
def fS {α:Type} (q:α→Option Bool):List α→Int→Option Int
 | [],_=>some (-1)
 | x::xs,i=>(q x).bind fun b=>if b=true then some i else fS q xs (i+1)
theorem nj {α:Type} {q q':α→Option Bool} (h:∀x,bm (q x) (q' x)):∀(l:List α) (i:Int),bm (fS q l i) (fS q' l i)
 | [],_=>bm.refl _
 | x::xs,i=>by
  unfold fS;exact bm.bind (h x) fun b=>bm.ite (bm.refl _) (nj h xs (i+1))
theorem jv {α:Type} (q:α→Option Bool) (l:List α) (z:α) (i:Nat) (h:i<l.length):fS q (l.drop i) (i:Int)=(q (l.getD i z)).bind fun b=>if b=true then some (i:Int)else fS q (l.drop (i+1)) ((i+1:Nat):Int):=by
 rw[List.drop_eq_getElem_cons h,List.getD_eq_getElem?_getD,List.getElem?_eq_getElem h];rfl
theorem ke {α:Type} (p:α→Bool):∀(l:List α) (i:Int),0≤i→∃r,fS (fun x=>some (p x)) l i=some r∧decide (r≥0)=l.any p
 | [],i,_=>⟨-1,rfl,rfl⟩
 | x::xs,i,h=>by
  unfold fS;obtain⟨r,r1,r2⟩:=ke p xs (i+1) (by omega);simp only[Option.bind_some,List.any_cons];by_cases c:p x=true
  ·rw[if_pos c,c];exact⟨i,rfl,by simpa using h⟩
  ·rw[if_neg c,Bool.eq_false_iff.2 c,Bool.false_or];exact⟨r,r1,r2⟩
theorem l4 {α:Type} {q q':α→Option Bool}:∀(l:List α) (i:Int),(∀x∈l,q x=q' x)→fS q l i=fS q' l i
 | [],_,_=>rfl
 | x::xs,i,h=>by
  unfold fS;rw[h x (List.mem_cons_self ..),l4 xs (i+1) (fun y hy=>h y (List.mem_cons_of_mem _ hy))]
end Go.Proofs.YtmipaoobkjppdaaGreatDoor.Func
