/- From the reading of an argument (DataW.trod) to the print's own facts on its cells (Kd.K), kind by kind: whole numbers, bools, strings, slices, structs. -/
import Derived.Deep.Slices
import Derived.ChangeSame
import Derived.WideShapes
import Derived.ChangeArms
import Derived.Test.YtmipaoobkjppdaaGreatDoorWWords
set_option linter.unusedVariables false
namespace Go.Proofs.YtmipaoobkjppdaaGreatDoor.Bridge
open Go.ChangeShapes Go.WideShapes Go.Deep Go.RowKit Go.Proofs.YtmipaoobkjppdaaGreatDoorW.PrintWords
def Op (P:Program) (t:TypeId) {α:Type} (d:Kd α) (G:α→Prop):Prop :=
 ∀(H:Type) (enc:TypeId×Value→H) (w:World) (base:Nat) (spare:Nat→Bool) (held:Bool) (fuel:Nat) (cs:List Value) (x:DataW H×List MemPlace),
  DataW.trod enc P w base spare held fuel t cs=some x→∃y:α,d.K w y cs∧G y
theorem op_int {P:Program} {t:TypeId} {k:IntKind} (ht:P.underlying t=some (.int k)):Op P t (Kd.int k) (fun n=>(Lit.int k n).wf=true):=by
 intro H enc w base spare held fuel cs x h;obtain⟨n,rfl,_,hw⟩:=DataW.trod_int ht h;exact⟨n,rfl,hw⟩
theorem pX {α:Type} {p:Nat→α→Prop}:∀{n:Nat},(∀i,i<n→∃y,p i y)→∃xs:List α,xs.length=n∧∀i y,xs[i]? =some y→p i y
 | 0,_=>⟨[],rfl,fun i y h=>by simp at h⟩
 | n+1,h=>by
  obtain⟨xs,hl,hx⟩:=pX (n:=n) (fun i hi=>h i (by omega));obtain⟨y,hy⟩:=h n (by omega);refine⟨xs++[y],by simp[hl],fun i z hz=>?_⟩
  rcases Nat.lt_or_ge i xs.length with hi|hi
  ·rw[List.getElem?_append_left hi]at hz;exact hx i z hz
  ·have hi':i=n:=by
    have:=(List.getElem?_eq_some_iff.1 hz).1;simp at this;omega
   subst hi';rw[List.getElem?_append_right hi]at hz;have:y=z:=by simpa [hl] using hz
   subst this;exact hy
theorem rJ {P:Program} {t e:TypeId} {α:Type} {d:Kd α} {G:α→Prop} (ht:P.underlying t=some (.slice e)) (ho:Op P e d G) (hc:P.cellsOf e=d.sz) :
  Op P t (Kd.slice e d) (fun xs=>xs.length≤maxLen∧∀y∈xs,G y):=by
 intro H enc w base spare held fuel cs x h
 rcases open_slice ht h with ⟨rfl,_⟩|⟨a,len,cap,m,n,D,Pl,rfl,hb,hl,hm,hmm,rfl,hx⟩
 ·exact⟨[],⟨none,0,rfl,Nat.le_refl _,rfl,by simp,fun h=>absurd h (by simp)⟩,by simp,by simp⟩
 ·have hlm:len≤m:=by rw[hmm];split<;>omega
  have hx':∀i,i<len→∃y:α,G y∧∃cs',cs'.length=d.sz∧d.K w y cs'∧∀j u,cs'[j]? =some u→w.cell? (a.add (i*d.sz+j))=some u:=by
   intro i hi;obtain⟨cs',h1,h2⟩:=hx i (by omega);obtain⟨y,hk,hg⟩:=ho H enc w base spare held n cs' _ h2;obtain⟨_,hlen,hat⟩:=World.cells?_some h1;refine⟨y,hg,cs',d.K_len hk,hk,fun j u hu=>?_⟩;have hj:j<cs'.length:=(List.getElem?_eq_some_iff.1 hu).1;have h3:=hat j (by omega);rw[Go.Deep.add_add,hc]at h3;exact h3.trans hu
  obtain⟨xs,hxl,hxs⟩:=pX hx';refine⟨xs,⟨some a,cap,by rw[hxl],by omega,rfl,by simp only[maxLen]at hm;omega,fun _=>⟨a,rfl,fun j p hj=>?_⟩⟩,by omega,fun y hy=>?_⟩
  ·obtain⟨_,cs',h1,h2,h3⟩:=hxs j p hj;exact⟨cs',h1,h2,h3⟩
  ·obtain⟨i,hi⟩:=List.mem_iff_getElem?.1 hy;exact(hxs i y hi).1
end Go.Proofs.YtmipaoobkjppdaaGreatDoor.Bridge
