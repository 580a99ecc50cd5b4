import Derived.Test.YtmipaoobkjppdaaGreatDoorWLast
import Derived.Test.YtmipaoobkjppdaaGreatDoorWWords
namespace Go.Proofs.YtmipaoobkjppdaaGreatDoorW.PrintLast
open Go.Proofs.YtmipaoobkjppdaaGreatDoorW.PrintWords (Aside0)
def jw (md:Region.Mode) (o:Oper):List Nat:=(o.after.toList.filter (fun e=>Region.binds md e)).map (fun e=>e.on)
def nQ (md:Region.Mode) (ops:Array Oper) (i:Nat) (oi:Oper):List Nat:=(List.range ops.size).filter fun j=>!(j==i)&&match ops[j]? with
 | some oj=>!(oj.after.any (fun e=>Region.binds md e&&e.on==i)||oi.apart ops oj)
 | none=>false
def gw (md:Region.Mode) (ops:Array Oper):Bool×List (List Nat×List Nat):=(Region.noSelect ops,(List.range ops.size).map fun i=>match ops[i]? with
 | some o=>(jw md o,nQ md ops i o)
 | none=>([],[]))
def ix (T:List (List Nat×List Nat)) (l:List Bool) (i:Nat):Bool:=!l.getD i true&&match T[i]? with
 | some r=>r.1.all (fun j=>l.getD j false)
 | none=>false
def l8 (T:List (List Nat×List Nat)) (l:List Bool):List Nat:=(List.range T.length).filter (ix T l)
def ox (T:List (List Nat×List Nat)) (l:List Bool) (i:Nat):Bool:=match T[i]? with
 | some r=>r.2.all (fun j=>l.getD j true)
 | none=>false
def lB (T:List (List Nat×List Nat)) (l:List Bool):Bool:=(List.range T.length).all fun j=>!l.getD j false||match T[j]? with
 | some r=>r.1.all (fun k=>l.getD k false)
 | none=>true
def kF (T:List (List Nat×List Nat)) (i:Nat):Nat→Nat→Bool
 | 0,_=>false
 | fuel+1,d=>match T[d]? with
  | some r=>r.1.any fun j=>j==i||kF T i fuel j
  | none=>false
def pT (T:List (List Nat×List Nat)) (l:List Bool) (ds:List Nat) (i:Nat):Bool:=ds.all fun d=>l.getD d true||kF T i T.length d
section
variable {md:Region.Mode} {ops:Array Oper} {T:Bool×List (List Nat×List Nat)} {l l' li lj lk:Array Bool} {ds:List Nat} {i j k:Nat}
theorem gd (l:Array Bool) (j:Nat) (b:Bool):l.getD j b=l.toList.getD j b:=by simp[Array.getD_eq_getD_getElem?,List.getD_eq_getElem?_getD]
theorem np (o:Oper) (p:Nat→Bool):o.after.all (fun e=>!Region.binds md e||p e.on)=(jw md o).all p:=by
 unfold jw;rw[←Array.all_toList]
 induction o.after.toList with
 | nil=>rfl
 | cons e r ih =>
  rw[List.all_cons,ih,List.filter_cons];cases h:Region.binds md e<;>simp
theorem qy (o:Oper) (p:Nat→Bool):o.after.any (fun e=>Region.binds md e&&p e.on)=(jw md o).any p:=by
 unfold jw;rw[←Array.any_toList]
 induction o.after.toList with
 | nil=>rfl
 | cons e r ih =>
  rw[List.any_cons,ih,List.filter_cons];cases h:Region.binds md e<;>simp
theorem iy:(gw md ops).2.length=ops.size:=by simp[gw]
theorem jx {o:Oper} (h:ops[i]? =some o):(gw md ops).2[i]? =some (jw md o,nQ md ops i o):=by
 have hi:=(Array.getElem?_eq_some_iff.1 h).1;unfold gw;rw[List.getElem?_map,List.getElem?_range hi,Option.map_some,h]
theorem jy (h:ops[i]? =none):(gw md ops).2[i]? =none:=by
 have hi:ops.size≤i:=Array.getElem?_eq_none_iff.1 h;exact List.getElem?_eq_none (by rw[iy];exact hi)
theorem pf:ix (gw md ops).2 l.toList i=(!l.getD i true&&((ops[i]?).map (·.after.all fun e=>!Region.binds md e||l.getD e.on false)).getD false):=by
 unfold ix;rw[gd]
 cases h:ops[i]? with
 | none=>rw[jy h];rfl
 | some o =>
  rw[jx h];simp only[Option.map_some,Option.getD_some];rw[←np];simp only[gd]
theorem l9:Region.ready md ops l=l8 (gw md ops).2 l.toList:=by
 unfold Region.ready l8;rw[iy];refine List.filter_congr (fun i _=>?_);rw[pf]
theorem pU:Region.free md ops l i=ox (gw md ops).2 l.toList i:=by
 unfold Region.free ox
 cases h:ops[i]? with
 | none=>rw[jy h]
 | some oi =>
  rw[jx h];simp only[nQ];rw[List.all_filter]
  congr 1
  funext j
  rw[gd]
  cases hj:ops[j]? with
  | none=>cases(j==i)<;>cases(l.toList.getD j true)<;>simp
  | some oj =>
   cases(j==i)<;>cases(l.toList.getD j true)<;>cases(oj.after.any (fun e=>Region.binds md e&&e.on==i)||oi.apart ops oj)<;>simp_all
theorem qz:Region.kf md ops l=lB (gw md ops).2 l.toList:=by
 unfold Region.kf lB;rw[iy]
 congr 1
 funext j
 rw[gd]
 cases h:ops[j]? with
 | none=>rw[jy h]
 | some o =>
  rw[jx h];simp only;rw[←np];simp only[gd]
theorem oy:∀(fuel d:Nat),Region.gV md ops i fuel d=kF (gw md ops).2 i fuel d
 | 0,_=>rfl
 | fuel+1,d=>by
  unfold Region.gV kF
  cases h:ops[d]? with
  | none=>rw[jy h]
  | some o =>
   rw[jx h];simp only;rw[←qy]
   congr 1
   funext e
   rw[oy fuel]
theorem last_eq:Region.pP md ops l ds i=pT (gw md ops).2 l.toList ds i:=by
 unfold Region.pP pT;rw[iy]
 congr 1
 funext d
 rw[gd,oy]
theorem kZ (h:ix T.2 l.toList i=true) (hT:gw md ops=T):(Region.ready md ops l).contains i=true:=by
 subst hT;rw[l9];unfold l8;rw[List.contains_iff_mem,List.mem_filter,List.mem_range];refine⟨?_,h⟩;unfold ix at h;rw[Bool.and_eq_true]at h
 cases hq:(gw md ops).2[i]? with
 | none=>rw[hq]at h;simp at h
 | some r=>exact(List.getElem?_eq_some_iff.1 hq).1
theorem pg (h:(l.toList.set i true==l'.toList)=true):(l.setIfInBounds i true==l')=true:=by
 rw[beq_iff_eq]at h ⊢;apply Array.ext';rw[Array.toList_setIfInBounds];exact h
def anyT (T:Bool×List (List Nat×List Nat)) (l l':List Bool) (i:Nat):Bool:=T.1&&ox T.2 l i&&ix T.2 l i&&(l.set i true==l')
theorem cB (hT:gw md ops=T) (h:anyT T l.toList l'.toList i=true):rl md ops l l' i=true:=by
 simp only[anyT,Bool.and_eq_true]at h;obtain⟨⟨⟨h1,h2⟩,h3⟩,h4⟩:=h;have h5:=kZ h3 hT;have h6:=pg h4;subst hT;simp only[rl,Bool.and_eq_true];exact⟨⟨⟨h1,by rw[pU];exact h2⟩,h5⟩,h6⟩
def rm (T:Bool×List (List Nat×List Nat)) (ds:List Nat) (l l':List Bool) (i:Nat):Bool:=T.1&&ox T.2 l i&&ix T.2 l i&&lB T.2 l&&pT T.2 l ds i&&(l.set i true==l')
theorem take_of (hT:gw md ops=T) (h:rm T ds l.toList l'.toList i=true):ow md ops ds l l' i=true:=by
 simp only[rm,Bool.and_eq_true]at h;obtain⟨⟨⟨⟨⟨h1,h2⟩,h3⟩,h4⟩,h5⟩,h6⟩:=h;have h7:=kZ h3 hT;have h8:=pg h6;subst hT;simp only[ow,Bool.and_eq_true];exact⟨⟨⟨⟨⟨h1,by rw[pU];exact h2⟩,h7⟩,by rw[qz];exact h4⟩,by rw[last_eq];exact h5⟩,h8⟩
theorem dK (hT:gw md ops=T) (h:(l8 T.2 l.toList==[i]&&l.toList.set i true==l'.toList)=true):jT md ops l l' i=true:=by
 simp only[Bool.and_eq_true]at h;obtain⟨h1,h2⟩:=h;subst hT;simp only[jT,Bool.and_eq_true];exact⟨by rw[l9];exact h1,pg h2⟩
theorem hG (hT:gw md ops=T) (h:(l8 T.2 l.toList==[])=true):(Region.ready md ops l==[])=true:=by
 subst hT;rw[l9];exact h
def upM (B:List Nat) (d:Nat):List Nat→Nat
 | []=>0
 | n::r=>(2 ^ n ||| (if n<d then B.getD n 0 else 0)) ||| upM B d r
def gj (T:List (List Nat×List Nat)) (B:List Nat):Bool:=(List.range T.length).all fun d=>match T[d]? with
 | some r=>(B.getD d 0 ||| upM B d r.1)==upM B d r.1
 | none=>false
theorem pV {B:List Nat} {d i:Nat}:∀{ns:List Nat},(upM B d ns).testBit i=true→∃n∈ns,n=i∨(n<d∧(B.getD n 0).testBit i=true)
 | [],h=>by simp[upM]at h
 | n::r,h=>by
  unfold upM at h;rw[Nat.testBit_or,Nat.testBit_or,Bool.or_eq_true,Bool.or_eq_true]at h
  rcases h with (h|h)|h
  ·rw[Nat.testBit_two_pow]at h;exact⟨n,List.mem_cons_self,.inl (by simpa using h)⟩
  ·by_cases hn:n<d
   ·rw[if_pos hn]at h;exact⟨n,List.mem_cons_self,.inr ⟨hn,h⟩⟩
   ·rw[if_neg hn]at h;simp at h
  ·obtain⟨m,hm,h2⟩:=pV h;exact⟨m,List.mem_cons_of_mem _ hm,h2⟩
theorem nq {T:List (List Nat×List Nat)} {B:List Nat} (hB:gj T B=true):∀(fuel d:Nat),d<fuel→d<T.length→(B.getD d 0).testBit i=true→kF T i fuel d=true
 | 0,d,h,_,_=>by omega
 | fuel+1,d,h,hd,hb=>by
  have h1:=List.all_eq_true.1 hB d (List.mem_range.2 hd)
  cases hr:T[d]? with
  | none=>rw[hr]at h1;simp at h1
  | some r =>
   rw[hr]at h1;simp only[beq_iff_eq]at h1;have h2:(upM B d r.1).testBit i=true:=by rw[←h1,Nat.testBit_or,hb,Bool.true_or]
   obtain⟨n,hn,h3⟩:=pV h2;unfold kF;rw[hr];simp only;rw[List.any_eq_true];refine⟨n,hn,?_⟩
   rcases h3 with rfl|⟨h4,h5⟩
   ·simp
   ·rw[nq hB fuel n (by omega) (by omega) h5,Bool.or_true]
def lastW (T:List (List Nat×List Nat)) (B:List Nat) (l:List Bool) (ds:List Nat) (i:Nat):Bool:=ds.all fun d=>l.getD d true||(decide (d<T.length)&&(B.getD d 0).testBit i)
def takeW (T:Bool×List (List Nat×List Nat)) (B:List Nat) (ds:List Nat) (l l':List Bool) (i:Nat):Bool:=T.1&&ox T.2 l i&&ix T.2 l i&&lB T.2 l&&lastW T.2 B l ds i&&(l.set i true==l')
theorem fC {B:List Nat} (hT:gw md ops=T) (hB:gj T.2 B=true) (h:takeW T B ds l.toList l'.toList i=true):ow md ops ds l l' i=true:=by
 refine take_of hT ?_;simp only[takeW,rm,Bool.and_eq_true]at h ⊢;obtain⟨⟨⟨⟨⟨h1,h2⟩,h3⟩,h4⟩,h5⟩,h6⟩:=h;refine⟨⟨⟨⟨⟨h1,h2⟩,h3⟩,h4⟩,?_⟩,h6⟩;unfold lastW at h5;unfold pT;rw[List.all_eq_true]at h5 ⊢;intro d hd;have h7:=h5 d hd;rw[Bool.or_eq_true,Bool.and_eq_true,decide_eq_true_eq]at h7
 rcases h7 with h7|⟨h8,h9⟩
 ·rw[h7,Bool.true_or]
 ·rw[nq hB _ d h8 h8 h9,Bool.or_true]
theorem fI {P:Program} {Q:Exit→Act→World→Prop} {S:World→Prop} {n:Nat} {a:Act} {w:World} {B:List Nat} (hT:gw md ops=T) (hB:gj T.2 B=true) (h:Aside0 (gw md ops=T)→Aside0 (gj T.2 B=true)→bR P md ops Q S ds n l a w):bR P md ops Q S ds n l a w:=h ⟨hT⟩ ⟨hB⟩
end
def jK:Code→Nat→Option (Array Oper)
 | .region id ops _,k=>if id==k then some ops else none
 | .seq a b,k=>match jK a k with
  | some o=>some o
  | none=>jK b k
 | .cond _ a b,k=>match jK a k with
  | some o=>some o
  | none=>jK b k
 | .block _ c,k=>jK c k
 | .loop c,k=>jK c k
 | .scope c,k=>jK c k
 | .rangeFunc _ _ a b,k=>match jK a k with
  | some o=>some o
  | none=>jK b k
 | _,_=>none
def opsOf (f:Func) (k:Nat):Array Oper:=((f.body.bind fun c=>jK c k)).getD #[]
end Go.Proofs.YtmipaoobkjppdaaGreatDoorW.PrintLast
