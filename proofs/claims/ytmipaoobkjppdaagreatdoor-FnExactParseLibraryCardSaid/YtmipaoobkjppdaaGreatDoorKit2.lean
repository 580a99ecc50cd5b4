/- More of the loops that the laws share: copying and comparing by a function that has rounds of its own; what is left of a size; texts as lists of bytes. -/
import Derived.Test.YtmipaoobkjppdaaGreatDoorKit
import Derived.Laws.Strings
set_option linter.unusedVariables false
namespace Go.Proofs.YtmipaoobkjppdaaGreatDoor.Kit
open Go.RowKit Go.Proofs.YtmipaoobkjppdaaGreatDoorW 
open PrintWords PrintLast
theorem bytes_inj {a b:ByteArray}:a.toList=b.toList↔a=b:=by
 rw[Go.ByteArray.toList_eq,Go.ByteArray.toList_eq];constructor
 ·intro h
  cases a with|mk a=>cases b with|mk b =>
  have:a=b:=Array.toList_inj.1 h;rw[this]
 ·intro h;rw[h]
section
variable {α β:Type} (g:Nat→α→Option β) (gg:α→β) (da:α) (L:Nat→List α→List β→Int→Option (List β))
end
section
variable {α:Type} [DecidableEq α] (e:Nat→α→α→Option Bool) (da:α) (L:Nat→List α→List α→Int→Option Bool)
theorem pq (hL:∀k x0 x1 i,L (k+1) x0 x1 i=if i<(x0.length:Int)then(if 0≤i then(if i<(x1.length:Int)then((e k (x0.getD i.toNat da) (x1.getD i.toNat da)).bind fun t=>(if t=true then L k x0 x1 (wrap64 (i+1))else some false))else none)else none)else some true)
  (K:Nat) (a b:List α) (he:∀x∈a,∀y∈b,∀k,K<k→e k x y=some (decide (x=y))) (hab:a.length=b.length) (hb:a.length<4611686018427387904) (d:Nat):∀(k i:Nat),i≤a.length→a.length-i=d→d+K<k→L k a b (i:Int)=some (decide (a.drop i=b.drop i)):=by
 induction d with
 | zero =>
  intro k i h0 h1 h2;obtain⟨k,rfl⟩:∃m,k=m+1:=⟨k-1,by omega⟩;rw[hL,if_neg (by omega)];have hi:i=a.length:=by omega
  subst hi;simp[hab]
 | succ d ih =>
  intro k i h0 h1 h2;obtain⟨k,rfl⟩:∃m,k=m+1:=⟨k-1,by omega⟩;have hi:i<a.length:=by omega
  have hi':i<b.length:=by omega
  have e1:a.getD i da=a[i]:=by rw[List.getD_eq_getElem?_getD,List.getElem?_eq_getElem hi];rfl
  have e2:b.getD i da=b[i]:=by rw[List.getD_eq_getElem?_getD,List.getElem?_eq_getElem hi'];rfl
  rw[hL,if_pos (by omega),if_pos (by omega),if_pos (by omega),cU i (by omega),Int.toNat_natCast];rw[e1,e2,he a[i] (List.getElem_mem hi) b[i] (List.getElem_mem hi') k (by omega),gQ a i hi,gQ b i hi',ih k (i+1) (by omega) (by omega) (by omega)];simp only[Option.bind_some];by_cases h:a[i]=b[i]
  ·rw[decide_eq_true h,if_pos rfl,h];simp only[List.cons.injEq,true_and]
  ·rw[decide_eq_false h,if_neg (by simp)];simp only[List.cons.injEq,h,false_and,decide_false]
theorem kj (hL:∀k x0 x1 i,L (k+1) x0 x1 i=if i<(x0.length:Int)then(if 0≤i then(if i<(x1.length:Int)then((e k (x0.getD i.toNat da) (x1.getD i.toNat da)).bind fun t=>(if t=true then L k x0 x1 (wrap64 (i+1))else some false))else none)else none)else some true)
  {f:Nat→List α→List α→Option Bool} (hf:∀k a b,f k a b=if (a.length:Int)=(b.length:Int)then L k a b 0 else some false)
  (K:Nat) (a b:List α) (he:∀x∈a,∀y∈b,∀k,K<k→e k x y=some (decide (x=y))) (hb:a.length<4611686018427387904) (k:Nat) (hk:a.length+K<k):f k a b=some (decide (a=b)):=by
 rw[hf];by_cases h:a.length=b.length
 ·rw[if_pos (by omega)];have:=pq e da L hL K a b he h hb a.length k 0 (by omega) (by omega) hk
  simpa using this
 ·rw[if_neg (by omega)];have:a≠b:=fun e=>h (by rw[e])
  simp[this]
end
def sub (left:Int) (w:Nat):Int:=if left-(w:Int)<0 then -1 else left-(w:Int)
section
variable {α:Type} (s:Nat→α→Int→Option Int) (wt:α→Nat) (da:α) (L:Nat→List α→Int→Int→Option Int)
end
end Go.Proofs.YtmipaoobkjppdaaGreatDoor.Kit
