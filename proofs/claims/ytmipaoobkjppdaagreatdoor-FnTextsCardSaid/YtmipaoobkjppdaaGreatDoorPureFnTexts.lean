/- Texts and libraries answer one another: what is formatted is parsed again, what is parsed is its own text, and both sides' parses and counts of lines agree. -/
import Derived.Test.YtmipaoobkjppdaaGreatDoorOpFnTexts
import Derived.Lib.ItoaLen
import Derived.Lib.AtoiTie
import Derived.Lib.ItoaMem
import Derived.Test.YtmipaoobkjppdaaGreatDoorKit2
set_option linter.unusedVariables false
set_option linter.unusedSimpArgs false
namespace Go.Proofs.YtmipaoobkjppdaaGreatDoor.Pure
open Go.RowKit Go.Proofs.YtmipaoobkjppdaaGreatDoorW Go.Proofs.YtmipaoobkjppdaaGreatDoor.QFnTexts Go.Proofs.YtmipaoobkjppdaaGreatDoor.OpFnTexts
open PrintWords PrintLast
def ba (l:List UInt8):ByteArray:=⟨l.toArray⟩
theorem kJ (l m:List UInt8):ba l++ba m=ba (l++m):=by
 apply Kit.bytes_inj.1;rw[Go.ByteArray.toList_eq,Go.ByteArray.toList_eq];simp[ba]
theorem lJ (l:List UInt8):(ba l).size=l.length:=rfl
def dig (u:Nat):List UInt8:=if u=0 then[]else Go.Lib.decDigits u
theorem rK (u:Nat) (h:u≠0):dig u=dig (u / 10)++[UInt8.ofNat (48+u % 10)]:=by
 unfold dig;rw[if_neg h,Go.Lib.decDigits];by_cases c:u<10
 ·rw[dif_pos c,if_pos (by omega),Nat.mod_eq_of_lt c];rfl
 ·rw[dif_neg c,if_neg (by omega)]
def sgn (n:Int) (l:List UInt8):List UInt8:=if n<0 then 45::l else l
theorem pY (m:Nat) (h:m<10):strOfNums [((48+m:Nat):Int)]=ba [UInt8.ofNat (48+m)]:=by
 unfold strOfNums ba;simp only[List.map_cons,List.map_nil,Int.toNat_natCast]
theorem qE:Go.Lib.itoa 0=[48]:=by
 unfold Go.Lib.itoa;rw[if_neg (by decide),Go.Lib.decDigits,dif_pos (by decide)];rfl
theorem rL (n:Int):∀(d k u:Nat) (x:Int) (l:List UInt8),(x=(u:Int)∨x= -(u:Int))→u<10 ^ d→u≤9223372036854775808→l.length+d≤100→d<k→aG.l0 k n (ba l) x=some (ba (sgn n (dig u++l)))
 | 0,k,u,x,l,hx,h1,h2,h3,h4=>by
  obtain⟨k,rfl⟩:∃m,k=m+1:=⟨k-1,by omega⟩;have hu:u=0:=by simpa using h1
  subst hu;have hx0:x=0:=by omega
  subst hx0;simp only[aG.l0];rw[if_pos trivial,lJ];unfold sgn dig;by_cases c:n<0
  ·rw[if_pos c,if_pos (by omega),if_pos c];exact congrArg some (kJ [45] l)
  ·rw[if_neg c,if_neg c];rfl
 | d+1,k,u,x,l,hx,h1,h2,h3,h4=>by
  obtain⟨k,rfl⟩:∃m,k=m+1:=⟨k-1,by omega⟩;by_cases h0:u=0
  ·subst h0;have hx0:x=0:=by omega
   subst hx0;simp only[aG.l0];rw[if_pos trivial,lJ];unfold sgn dig;by_cases c:n<0
   ·rw[if_pos c,if_pos (by omega),if_pos c];exact congrArg some (kJ [45] l)
   ·rw[if_neg c,if_neg c];rfl
  ·have hp:u / 10<10 ^ d:=by
    rw[Nat.pow_succ]at h1;omega
   have hm:u % 10<10:=Nat.mod_lt _ (by decide)
   have hs:(strOfNums [((48+u % 10:Nat):Int)]).size+(ba l).size≤9223372036854775807:=by
    rw[pY _ hm,lJ,lJ];simp;omega
   have fin:∀q:Int,(q=((u / 10:Nat):Int)∨q= -((u / 10:Nat):Int))→aG.l0 k n ((strOfNums [((48+u % 10:Nat):Int)])++ba l) (wrap64 q)=some (ba (sgn n (dig u++l))):=by
    intro q hq;rw[Kit.fJ q (by omega) (by omega),pY _ hm,kJ,rL n d k (u / 10) q _ hq hp (by omega) (by simp;omega) (by omega),rK u h0];simp
   simp only[aG.l0];rw[if_neg (show ¬x=0 by omega)]
   rcases hx with hx|hx
   ·have e1:Int.tmod x 10=((u % 10:Nat):Int):=by rw[hx];rfl
    have e2:Int.tdiv x 10=((u / 10:Nat):Int):=by rw[hx];rfl
    rw[e1,e2,if_neg (by omega)]
    have e3:(wrap64 (48+((u % 10:Nat):Int))) % 256=((48+u % 10:Nat):Int):=by
     rw[Kit.fJ _ (by omega) (by omega)];omega
    rw[e3];simp only[dn];rw[if_pos hs];exact fin _ (.inl rfl)
   ·have e1:Int.tmod x 10= -((u % 10:Nat):Int):=by rw[hx,Int.neg_tmod];rfl
    have e2:Int.tdiv x 10= -((u / 10:Nat):Int):=by rw[hx,Int.neg_tdiv];rfl
    rw[e1,e2];by_cases c: -((u % 10:Nat):Int)<0
    ·rw[if_pos c]
     have e3:(wrap64 (48+(wrap64 (- -((u % 10:Nat):Int))))) % 256=((48+u % 10:Nat):Int):=by
      rw[Int.neg_neg,Kit.fJ ((u % 10:Nat):Int) (by omega) (by omega),Kit.fJ _ (by omega) (by omega)];omega
     rw[e3];simp only[dn];rw[if_pos hs];exact fin _ (.inr rfl)
    ·rw[if_neg c]
     have e3:(wrap64 (48+ -((u % 10:Nat):Int))) % 256=((48+u % 10:Nat):Int):=by
      rw[Kit.fJ _ (by omega) (by omega)];omega
     rw[e3];simp only[dn];rw[if_pos hs];exact fin _ (.inr rfl)
theorem jk (n:Int) (h0: -9223372036854775808≤n) (h1:n≤9223372036854775807) (k:Nat) (hk:30<k):aG.f k n=some (ba (Go.Lib.itoa n)):=by
 unfold aG.f;by_cases c:n=0
 ·rw[if_pos c,c,qE];rfl
 ·rw[if_neg c];have:=rL n 20 k n.natAbs n [] (by omega) (by omega) (by omega) (by simp) (by omega);refine this.trans ?_;unfold sgn Go.Lib.itoa dig;rw[List.append_nil];by_cases c0:n<0
  ·rw[if_pos c0,if_pos c0,if_neg (show ¬n.natAbs=0 by omega)]
  ·rw[if_neg c0,if_neg c0,if_neg (show ¬n.natAbs=0 by omega),show n.natAbs=n.toNat by omega]
def fN (a:Int):ByteArray:=if 1≤a∧a≤10 then b7.o0.getD a.toNat ⟨#[]⟩else⟨#[]⟩
theorem impl_op (a:Int):b7.f a=some (fN a):=by
 unfold b7.f fN
 split<;>rfl
theorem pZ (a:Int):ep.f a=some (fN a):=by
 unfold ep.f fN bX.f;by_cases c:1≤a∧a≤10
 ·rw[if_pos (show a≥1 from c.1),decide_eq_true c.2,if_pos c];simp only[dn];rw[if_pos trivial,if_pos (by omega),if_pos (by simp;omega)];rfl
 ·rw[if_neg c];by_cases c1:a≥1
  ·rw[if_pos c1,decide_eq_false (fun h=>c ⟨c1,h⟩)];simp only[dn];rw[if_neg (by simp)]
  ·rw[if_neg c1];simp only[dn];rw[if_neg (by simp)]
def mq (a lo hi:Int):Bool:=decide (lo≤a)&&decide (a≤hi)
def qF (c:UInt8):Bool:=decide (97≤c.toNat)&&decide (c.toNat≤122)
def dV (s:ByteArray):Bool:=mq (s.size:Int) 1 6&&s.data.toList.all qF
theorem lK (a lo hi:Int):bX.f a lo hi=some (mq a lo hi):=by
 unfold bX.f mq;by_cases h:a≥lo
 ·rw[if_pos h,decide_eq_true h,Bool.true_and]
 ·rw[if_neg h,decide_eq_false h,Bool.false_and]
theorem mr (a lo hi:Int):cj.f a lo hi=some (mq a lo hi):=lK a lo hi
theorem nW (s:ByteArray) (i:Nat) (h:i<s.data.toList.length):bt s (i:Int)=((s.data.toList[i]).toNat:Int):=by
 have h':(i:Int).toNat<s.size:=by simpa using h
 unfold bt;rw[dif_pos h'];rfl
theorem jB (s:ByteArray):s.data.toList.length=s.size:=rfl
theorem mu (s:ByteArray) (hb:s.size≤40000000) (d:Nat):∀(k i:Nat),i≤s.size→s.size-i=d→d<k→bj.l0 k s (i:Int)=some (mq (s.size:Int) 1 6&&(s.data.toList.drop i).all qF):=by
 induction d with
 | zero =>
  intro k i h0 h1 h2;obtain⟨k,rfl⟩:∃m,k=m+1:=⟨k-1,by omega⟩;simp only[bj.l0];rw[if_neg (by omega),lK,List.drop_eq_nil_of_le (by rw[jB];omega)];simp
 | succ d ih =>
  intro k i h0 h1 h2;obtain⟨k,rfl⟩:∃m,k=m+1:=⟨k-1,by omega⟩;have hi:i<s.data.toList.length:=by rw[jB];omega
  simp only[bj.l0];rw[if_pos (by omega),if_pos (by omega),nW s i hi,Kit.kn _ i hi,List.all_cons,Kit.dy i (by omega),ih k (i+1) (by omega) (by omega) (by omega)];unfold qF;by_cases c1:(((s.data.toList[i]).toNat:Int))<97
  ·rw[if_pos c1,decide_eq_false (show ¬97≤(s.data.toList[i]).toNat by omega)];simp
  by_cases c2:(((s.data.toList[i]).toNat:Int))>122
  ·rw[if_neg c1,if_pos c2,decide_eq_false (show ¬(s.data.toList[i]).toNat≤122 by omega)];simp
  rw[if_neg c1,if_neg c2,decide_eq_true (show 97≤(s.data.toList[i]).toNat by omega),decide_eq_true (show(s.data.toList[i]).toNat≤122 by omega)];simp
theorem mv (s:ByteArray) (hb:s.size≤40000000) (d:Nat):∀(k i:Nat),i≤s.size→s.size-i=d→d<k→bo.l0 k s (s.size:Int) (i:Int)=some ((s.data.toList.drop i).all qF):=by
 induction d with
 | zero =>
  intro k i h0 h1 h2;obtain⟨k,rfl⟩:∃m,k=m+1:=⟨k-1,by omega⟩;simp only[bo.l0];rw[if_neg (by omega),List.drop_eq_nil_of_le (by rw[jB];omega)];simp
 | succ d ih =>
  intro k i h0 h1 h2;obtain⟨k,rfl⟩:∃m,k=m+1:=⟨k-1,by omega⟩;have hi:i<s.data.toList.length:=by rw[jB];omega
  simp only[bo.l0];rw[if_pos (by omega),if_pos (by omega),if_pos (by omega),nW s i hi,Kit.kn _ i hi,List.all_cons,Kit.dy i (by omega),ih k (i+1) (by omega) (by omega) (by omega)];unfold qF;by_cases c1:(((s.data.toList[i]).toNat:Int))<97
  ·rw[if_pos c1,decide_eq_false (show ¬97≤(s.data.toList[i]).toNat by omega)];simp
  by_cases c2:(((s.data.toList[i]).toNat:Int))>122
  ·rw[if_neg c1,if_pos c2,decide_eq_false (show ¬(s.data.toList[i]).toNat≤122 by omega)];simp
  rw[if_neg c1,if_neg c2,decide_eq_true (show 97≤(s.data.toList[i]).toNat by omega),decide_eq_true (show(s.data.toList[i]).toNat≤122 by omega)];simp
theorem kK (s:ByteArray) (hb:s.size≤40000000) (k:Nat) (hk:s.size<k):bj.f k s=some (dV s):=by
 have:=mu s hb s.size k 0 (by omega) (by omega) hk
 simpa [bj.f,dV] using this
theorem kL (s:ByteArray) (hb:s.size≤40000000) (k:Nat) (hk:s.size<k):bo.f k s=some (dV s):=by
 have:=mv s hb s.size k 0 (by omega) (by omega) hk;unfold bo.f dV;rw[mr];simp only[dn]
 cases mq (s.size:Int) 1 6
 ·simp
 ·simpa using this
def ft (a:Int):Bool:=mq a 0 7
def jP (c d:Int):Bool:=if c= -1 then d==-1 else ft c&&(d==-1||ft d)
def eR (s:ByteArray):Bool:=s.toList==([]:List UInt8)
def eT (op a b c d:Int) (s:ByteArray):Bool :=
 if op=1 then(c==0&&(d==0&&eR s))&&(ft a&&mq b 0 999999)
 else if op=2 then(c==0&&(d==0&&eR s))&&(ft a&&mq b 0 1)
 else if op=3 then(c==0&&(d==0&&eR s))&&(ft a&&mq b 0 2)
 else if op=4∨op=10 then(c==0&&(d==0&&eR s))&&(ft a&&b==0)
 else if op=5 then(d==0&&eR s)&&(ft a&&(ft b&&ft c))
 else if op=6 then ft a&&(ft b&&(jP c d&&dV s))
 else if op=7 then ft a&&(b==0&&(jP c d&&dV s))
 else if op=8 then(c==0&&(d==0&&eR s))&&(mq a 0 2&&ft b)
 else if op=9 then(c==0&&(d==0&&eR s))&&(ft a&&mq b 1 12)
 else false
theorem mw (p x:Bool):(if p=true then some x else some false)=some (p&&x):=by cases p<;>rfl
theorem iteZ (a:Int) (x:Bool):(if a=0 then some x else some false)=some (a==0&&x):=by
 by_cases h:a=0
 ·simp[h]
 ·rw[if_neg h,beq_eq_false_iff_ne.mpr h,Bool.false_and]
theorem oC (a:Int):aJ.f a=some (ft a):=by
 unfold aJ.f ft;rw[lK];rfl
theorem oD (a:Int):aN.f a=some (ft a):=by
 unfold aN.f ft;rw[mr];rfl
theorem ko:ft (-1)=false:=by decide
theorem rM (op a b c d:Int) (s:ByteArray):dO.f op a b c d s=some (jP c d):=by
 unfold dO.f jP;simp only[oC,dn,mw];by_cases h1:c= -1<;>by_cases h2:d= -1
 ·simp[h1,h2]
 ·simp[h1,h2,ko]
 ·simp[h1,h2]
  cases ft c<;>rfl
 ·have e2:(d==-1)=false:=beq_eq_false_iff_ne.mpr h2;simp[h1,h2,e2,mw]
theorem qG (c d:Int):dA.f c d=some (jP c d):=by
 unfold dA.f jP;simp only[oD,dn,mw];by_cases h1:c= -1<;>by_cases h2:d= -1
 ·simp[h1,h2,ko]
 ·simp[h1,h2,ko]
 ·simp[h1,h2,ko]
  cases ft c<;>rfl
 ·have e2:(d==-1)=false:=beq_eq_false_iff_ne.mpr h2;simp[h1,h2,ko,e2]
  cases ft c<;>cases ft d<;>rfl
theorem j3 (op a b c d:Int) (s:ByteArray) (hs:s.size≤40000000) (k:Nat) (hk:s.size+2<k):a8.f k op a b c d s=some (eT op a b c d s):=by
 obtain⟨k,rfl⟩:∃m,k=m+1+1:=⟨k-2,by omega⟩
 have e:a8.f (k+1+1) op a b c d s=a8.j0 (k+1+1) (c==0&&(d==0&&eR s)) op a b c d s:=by
  unfold a8.f eR;by_cases h1:c=0
  ·by_cases h2:d=0
   ·rw[if_pos h1,if_pos h2,beq_iff_eq.mpr h1,beq_iff_eq.mpr h2,Bool.true_and,Bool.true_and]
   ·rw[if_pos h1,if_neg h2,beq_eq_false_iff_ne.mpr h2,Bool.false_and,Bool.and_false]
  ·rw[if_neg h1,beq_eq_false_iff_ne.mpr h1,Bool.false_and]
 rw[e];have hn:=kK s hs k (by omega);simp only[a8.j0,a8.j1,oC,lK,rM,hn,dn,mw,iteZ];unfold eT;rw[show(s.toList==([]:List UInt8))=eR s from rfl];generalize hp:(c==0&&(d==0&&eR s))=p;by_cases h1:op=1
 ·simp only[h1,if_true,mw]
 by_cases h2:op=2
 ·simp only[h2,if_true,mw];simp
 by_cases h3:op=3
 ·simp only[h3,if_true,mw];simp
 by_cases h4:op=4
 ·simp[h4]<;>cases p<;>simp
 by_cases h10:op=10
 ·simp[h10]<;>cases p<;>simp
 by_cases h5:op=5
 ·simp[h5]<;>cases ft a<;>cases ft b<;>cases ft c<;>cases(d==0)<;>cases eR s<;>rfl
 by_cases h6:op=6
 ·simp[h6]
 by_cases h7:op=7
 ·simp[h7]
 by_cases h8:op=8
 ·simp[h8]<;>cases p<;>simp
 by_cases h9:op=9
 ·simp[h9]<;>cases p<;>simp
 simp[h1,h2,h3,h4,h5,h6,h7,h8,h9,h10]
theorem j4 (op a b c d:Int) (s:ByteArray) (hs:s.size≤40000000) (k:Nat) (hk:s.size+2<k):bP.f k op a b c d s=some (eT op a b c d s):=by
 obtain⟨k,rfl⟩:∃m,k=m+1:=⟨k-1,by omega⟩;have hn:=kL s hs k (by omega);unfold bP.f;simp only[bP.j0,oD,mr,qG,hn,dn,mw,iteZ];unfold eT;rw[show(s.toList==([]:List UInt8))=eR s from rfl];by_cases h1:op=1
 ·simp only[h1,if_true,mw]
 by_cases h2:op=2
 ·simp only[h2,if_true,mw];simp
 by_cases h3:op=3
 ·simp only[h3,if_true,mw];simp
 by_cases h4:op=4
 ·simp[h4]<;>cases ft a<;>cases(b==0)<;>cases(c==0)<;>cases(d==0)<;>cases eR s<;>rfl
 by_cases h10:op=10
 ·simp[h10]<;>cases ft a<;>cases(b==0)<;>cases(c==0)<;>cases(d==0)<;>cases eR s<;>rfl
 by_cases h5:op=5
 ·simp[h5]
 by_cases h6:op=6
 ·simp[h6]
 by_cases h7:op=7
 ·simp[h7]
 by_cases h8:op=8
 ·simp[h8]
 by_cases h9:op=9
 ·simp[h9]
 simp[h1,h2,h3,h4,h5,h6,h7,h8,h9,h10]
def gq (x:fk):Bool:=eT x.f0 x.f1 x.f2 x.f3 x.f4 x.f5
def ie (nm:ByteArray) (l:List fk):Bool:=dV nm&&(decide (l.length≤12)&&l.all gq)
theorem qH (nm:ByteArray) (l:List fk) (hn:nm.size≤1048576) (hl:l.length≤1048576) (hw:∀x∈l,x.f5.size≤1048576) (k:Nat) (hk:50000000<k):cJ.f k nm l=some (ie nm l):=by
 unfold cJ.f ie;rw[kL nm (by omega) k (by omega)];simp only[dn]
 cases hnm:dV nm with
 | false=>rfl
 | true =>
  rw[if_pos rfl,Bool.true_and];by_cases c:l.length≤12
  ·rw[if_pos (by omega),decide_eq_true c,Bool.true_and];obtain⟨r,r1,r2⟩:=Func.ke (fun x=>!(gq x)) l 0 (by omega)
   have e:=Func.l4 (q:=fun x:fk=>cL.f k x.f0 x.f1 x.f2 x.f3 x.f4 x.f5) (q':=fun x=>some (!(gq x))) l 0 (fun x hx=>by
    have:=hw x hx
    show cL.f k x.f0 x.f1 x.f2 x.f3 x.f4 x.f5=_
    unfold cL.f;rw[j4 _ _ _ _ _ _ (by omega) k (by omega)];rfl)
   rw[e,r1];simp only[dn];rw[r2]
   congr 1
   induction l with
   | nil=>rfl
   | cons x xs _=>simp[List.any_eq_not_all_not]
  ·rw[if_neg (by omega),decide_eq_false c];rfl
theorem qI (nm:ByteArray) (l:List fk) (hn:nm.size≤40000000) (hl:l.length≤40000000) (hw:∀x∈l,x.f5.size≤40000000) (d:Nat):∀(k i:Nat),i≤l.length→l.length-i=d→d+40000010<k→bs.l0 k (i:Int) nm l=some ((l.drop i).all gq&&(dV nm&&decide (l.length≤12))):=by
 induction d with
 | zero =>
  intro k i h0 h1 h2;obtain⟨k,rfl⟩:∃m,k=m+1:=⟨k-1,by omega⟩;simp only[bs.l0];rw[if_neg (by omega),kK nm hn k (by omega),List.drop_of_length_le (by omega)];simp only[dn,List.all_nil,Bool.true_and]
  have:decide ((l.length:Int)≤12)=decide (l.length≤12):=by
   apply Bool.eq_iff_iff.2;simp only[decide_eq_true_eq];omega
  rw[this]
  cases dV nm<;>rfl
 | succ d ih =>
  intro k i h0 h1 h2;obtain⟨k,rfl⟩:∃m,k=m+1:=⟨k-1,by omega⟩;have hi:i<l.length:=by omega
  have e:bE l (i:Int)=l[i]:=by
   unfold bE;rw[Int.toNat_natCast,List.getD_eq_getElem?_getD,List.getElem?_eq_getElem hi];rfl
  have hx:=hw l[i] (List.getElem_mem hi);simp only[bs.l0];rw[if_pos (by omega),if_pos (by omega),e,j3 _ _ _ _ _ _ hx k (by omega),Kit.dy i (by omega),Kit.kn l i hi,List.all_cons];simp only[dn];have hf:eT l[i].f0 l[i].f1 l[i].f2 l[i].f3 l[i].f4 l[i].f5=gq l[i]:=rfl;rw[hf,ih k (i+1) (by omega) (by omega) (by omega)]
  cases gq l[i]
  ·simp
  ·simp
theorem qJ (nm:ByteArray) (l:List fk) (hn:nm.size≤1048576) (hl:l.length≤1048576) (hw:∀x∈l,x.f5.size≤1048576) (k:Nat) (hk:50000000<k):bs.f k nm l=some (ie nm l):=by
 have:=qI nm l (by omega) (by omega) (fun x hx=>by have:=hw x hx;omega) l.length k 0 (by omega) (by omega) (by omega);unfold ie;rw[←Bool.and_assoc,Bool.and_comm (dV nm&&_) _];unfold bs.f;refine this.trans ?_;simp
def ld (l:List cR) (j i:Nat):Bool:=((l.take i).drop j).any fun y=>y.f0.toList==(l.getD i gl).f0.toList
def fK (l:List cR):Nat→Nat→Bool
 | 0,_=>true
 | d+1,i=>ie (l.getD i gl).f0 (l.getD i gl).f1&&(!(ld l 0 i)&&fK l d (i+1))
theorem my (l:List cR) (i:Nat):a7 l (i:Int)=l.getD i gl:=by
 unfold a7;rw[Int.toNat_natCast]
theorem inner (nm:ByteArray) (l:List cR) (hl:l.length≤1048576) (i:Nat) (hi:i<l.length) (v:Bool) (K:Nat) (hK:∀k,K≤k→aY.l0 k ((i+1:Nat):Int) nm l=some v) (d:Nat):∀(k j:Nat),j≤i→i-j=d→K+d<k→aY.l1 k (i:Int) (j:Int) nm l=some (!(ld l j i)&&v):=by
 induction d with
 | zero =>
  intro k j h0 h1 h2;obtain⟨k,rfl⟩:∃m,k=m+1:=⟨k-1,by omega⟩;obtain rfl:j=i:=by omega
  simp only[aY.l1];rw[if_neg (by omega),Kit.dy j (by omega),hK k (by omega)];unfold ld;rw[List.drop_of_length_le (by rw[List.length_take];omega)];rfl
 | succ d ih =>
  intro k j h0 h1 h2;obtain⟨k,rfl⟩:∃m,k=m+1:=⟨k-1,by omega⟩;have hj:j<(l.take i).length:=by rw[List.length_take];omega
  have hd:ld l j i=((l.getD j gl).f0.toList==(l.getD i gl).f0.toList||ld l (j+1) i):=by
   unfold ld;rw[List.drop_eq_getElem_cons hj,List.any_cons,List.getElem_take]
   congr 2
   rw[List.getD_eq_getElem?_getD,List.getElem?_eq_getElem (by omega)];rfl
  simp only[aY.l1];rw[if_pos (by omega),if_pos (by omega),if_pos (by omega),if_pos (by omega),if_pos (by omega),my,my,Kit.dy j (by omega),hd];by_cases c:(l.getD j gl).f0.toList=(l.getD i gl).f0.toList
  ·rw[if_pos c,show((l.getD j gl).f0.toList==(l.getD i gl).f0.toList)=true from by simpa using c];rfl
  ·rw[if_neg c,show((l.getD j gl).f0.toList==(l.getD i gl).f0.toList)=false from by simpa using c,Bool.false_or];exact ih k (j+1) (by omega) (by omega) (by omega)
theorem outer (nm:ByteArray) (hn:nm.size≤1048576) (l:List cR) (hl:l.length≤1048576) (hm:∀x∈l,∀k,50000000<k→bs.f k x.f0 x.f1=some (ie x.f0 x.f1)):∀(d i:Nat),i≤l.length→l.length-i=d→∃K,∀k,K≤k→aY.l0 k (i:Int) nm l=some (fK l d i&&(dV nm&&decide (l.length≤4)))
 | 0,i,h0,h1=>by
  refine⟨1048600,fun k hk=>?_⟩;obtain⟨k,rfl⟩:∃m,k=m+1:=⟨k-1,by omega⟩;simp only[aY.l0,fK];rw[if_neg (by omega),kK nm (by omega) k (by omega)];simp only[dn,Bool.true_and]
  have:decide ((l.length:Int)≤4)=decide (l.length≤4):=by
   apply Bool.eq_iff_iff.2;simp only[decide_eq_true_eq];omega
  rw[this]
  cases dV nm<;>rfl
 | d+1,i,h0,h1=>by
  have hi:i<l.length:=by omega
  obtain⟨K,hK⟩:=outer nm hn l hl hm d (i+1) (by omega) (by omega);have hin:=inner nm l hl i hi _ K hK i;refine⟨K+i+50000010,fun k hk=>?_⟩;obtain⟨k,rfl⟩:∃m,k=m+1:=⟨k-1,by omega⟩
  have hx:l.getD i gl∈l:=by
   rw[List.getD_eq_getElem?_getD,List.getElem?_eq_getElem hi];exact List.getElem_mem hi
  simp only[aY.l0,fK];rw[if_pos (by omega),if_pos (by omega),my,hm _ hx k (by omega)];simp only[dn]
  cases ie (l.getD i gl).f0 (l.getD i gl).f1 with
  | false=>rfl
  | true =>
   rw[if_pos rfl];have:=hin k 0 (by omega) (by omega) (by omega);refine this.trans ?_;rw[Bool.true_and,Bool.and_assoc]
theorem qa (l:List cR) (hl:l.length≤1048576) (k:Nat) (hk:50000000<k) (hm:∀x∈l,cJ.f k x.f0 x.f1=some (ie x.f0 x.f1)):∀(d i:Nat),i≤l.length→l.length-i=d→bY.l0 k l d=some (fK l d i)
 | 0,i,h0,h1=>rfl
 | d+1,i,h0,h1=>by
  have hi:i<l.length:=by omega
  have hx:l.getD i gl∈l:=by
   rw[List.getD_eq_getElem?_getD,List.getElem?_eq_getElem hi];exact List.getElem_mem hi
  have e:(l.length:Int)-((d+1:Nat):Int)=(i:Int):=by omega
  obtain⟨r,r1,r2⟩:=Func.ke (fun y:cR=>y.f0.toList==(l.getD i gl).f0.toList) (l.take i) 0 (by omega);unfold bY.l0 fK;rw[e,my,hm _ hx];simp only[dn]
  cases ie (l.getD i gl).f0 (l.getD i gl).f1 with
  | false=>rfl
  | true =>
   have hd:ld l 0 i=decide (r≥0):=by
    rw[r2];unfold ld;rw[List.drop_zero]
   rw[if_pos rfl,Int.toNat_natCast,r1];simp only[dn];rw[hd,Bool.true_and];by_cases c:r≥0
   ·rw[if_pos c,decide_eq_true c];rfl
   ·rw[if_neg c,decide_eq_false c,qa l hl k hk hm d (i+1) (by omega) (by omega)];rfl
def eo (nm:ByteArray) (l:List cR):Bool:=fK l (l.length-0) 0&&(dV nm&&decide (l.length≤4))
def kM (l:List cR):Prop:=l.length≤1048576∧∀x∈l,x.f0.size≤1048576∧x.f1.length≤1048576∧∀z∈x.f1,z.f5.size≤1048576
theorem lg (nm:ByteArray) (hn:nm.size≤1048576) (l:List cR) (hf:kM l):∃K,∀k,K≤k→aY.f k nm l=some (eo nm l) :=
 outer nm hn l hf.1 (fun x hx k hk=>qJ x.f0 x.f1 (hf.2 x hx).1 (hf.2 x hx).2.1 (hf.2 x hx).2.2 k hk) _ 0 (by omega) rfl
theorem oE (nm:ByteArray) (hn:nm.size≤1048576) (l:List cR) (hf:kM l) (k:Nat) (hk:50000000<k):bY.f k nm l=some (eo nm l):=by
 have hl:=hf.1;have hmi:∀x∈l,cJ.f k x.f0 x.f1=some (ie x.f0 x.f1):=fun x hx=>qH x.f0 x.f1 (hf.2 x hx).1 (hf.2 x hx).2.1 (hf.2 x hx).2.2 k hk
 unfold bY.f eo;rw[kL nm (by omega) k (by omega)];simp only[dn]
 cases dV nm with
 | false=>simp
 | true =>
  rw[if_pos rfl];by_cases c4:l.length≤4
  ·rw[if_neg (by omega),qa l hl k hk hmi _ 0 (by omega) (by omega),decide_eq_true c4];simp
  ·rw[if_pos (by omega),decide_eq_false c4];simp
theorem oG {α:Type} (p:α→Bool) (z:α):∀(l:List α) (i:Nat) (s:Int),0≤s→i<l.length→p (l.getD i z)=true→∃r1 r2,Func.fS (fun x=>some (p x)) l s=some r1∧Func.fS (fun x=>some (p x)) (l.take i) s=some r2∧(r1=s+(i:Int)↔¬r2≥0)
 | [],_,_,_,h,_=>absurd h (by simp)
 | x::xs,0,s,h0,_,hp=>by
  have hx:p x=true:=hp;refine⟨s,-1,?_,rfl,by simp⟩;unfold Func.fS;simp only[dn];rw[if_pos hx]
 | x::xs,i+1,s,h0,h,hp=>by
  obtain⟨r1,r2,e1,e2,e3⟩:=oG p z xs i (s+1) (by omega) (by simpa using h) (by simpa using hp);by_cases c:p x=true
  ·refine⟨s,s,?_,?_,?_⟩
   ·unfold Func.fS;simp only[dn];rw[if_pos c]
   ·rw[List.take_succ_cons];unfold Func.fS;simp only[dn];rw[if_pos c]
   ·constructor
    ·intro h;omega
    ·intro h;exact absurd h0 h
  ·refine⟨r1,r2,?_,?_,?_⟩
   ·unfold Func.fS;simp only[dn];rw[if_neg c];exact e1
   ·rw[List.take_succ_cons];unfold Func.fS;simp only[dn];rw[if_neg c];exact e2
   ·rw[←e3];constructor<;>intro h<;>omega
theorem qb (l:List b5) (i:Nat):bu l (i:Int)=l.getD i jh:=by
 unfold bu;rw[Int.toNat_natCast]
theorem qK (l:List b5) (s:ByteArray) (hb:l.length≤1048576) (d:Nat):∀(k i:Nat),i≤l.length→l.length-i=d→d<k→bw.l0 k l s (i:Int)=Func.fS (fun x:b5=>some (x.f0.toList==s.toList)) (l.drop i) (i:Int):=by
 induction d with
 | zero =>
  intro k i h0 h1 h2;obtain⟨k,rfl⟩:∃m,k=m+1:=⟨k-1,by omega⟩;simp only[bw.l0];rw[if_neg (by omega),List.drop_of_length_le (by omega)];rfl
 | succ d ih =>
  intro k i h0 h1 h2;obtain⟨k,rfl⟩:∃m,k=m+1:=⟨k-1,by omega⟩;have hi:i<l.length:=by omega
  simp only[bw.l0];rw[if_pos (by omega),if_pos (by omega),Kit.dy i (by omega),Func.jv _ l jh i hi,ih k (i+1) (by omega) (by omega) (by omega)];rw[qb];simp only[dn];by_cases c:(l.getD i jh).f0.toList=s.toList
  ·rw[if_pos c,if_pos (by simpa using c)]
  ·rw[if_neg c,if_neg (by simpa using c)]
def pr (l:List b5) (i:Nat):Bool:=decide (Func.fS (fun x:b5=>some (x.f0.toList==(l.getD i jh).f0.toList)) l 0=some (i:Int))
theorem lh (l:List b5) (i:Nat) (r1:Int) (h:Func.fS (fun x:b5=>some (x.f0.toList==(l.getD i jh).f0.toList)) l 0=some r1):pr l i=decide (r1=(i:Int)):=by
 unfold pr;rw[h];apply decide_eq_decide.2;simp only[Option.some.injEq]
def gJ (l:List b5):Nat→Nat→Bool
 | 0,_=>true
 | d+1,i=>eo (l.getD i jh).f0 (l.getD i jh).f1&&(pr l i&&gJ l d (i+1))
theorem j5:∀(l:List b5),(∀x∈l,x.f0.size≤1048576∧kM x.f1)→∃K,∀x∈l,∀k,K≤k→aY.f k x.f0 x.f1=some (eo x.f0 x.f1)
 | [],_=>⟨0,fun x hx=>absurd hx (by simp)⟩
 | y::ys,h=>by
  obtain⟨K1,h1⟩:=j5 ys (fun x hx=>h x (List.mem_cons_of_mem _ hx));obtain⟨K2,h2⟩:=lg y.f0 (h y (List.mem_cons_self ..)).1 y.f1 (h y (List.mem_cons_self ..)).2;refine⟨K1+K2,fun x hx k hk=>?_⟩
  rcases List.mem_cons.1 hx with rfl|hx
  ·exact h2 k (by omega)
  ·exact h1 x hx k (by omega)
theorem mA (l:List b5) (hl:l.length≤1048576) (K:Nat) (hK:∀x∈l,∀k,K≤k→aY.f k x.f0 x.f1=some (eo x.f0 x.f1)):∀(d k i:Nat),i≤l.length→l.length-i=d→K+d+1048580<k→bb.l0 k l (i:Int)=some (gJ l d i&&decide (l.length≤6))
 | 0,k,i,h0,h1,h2=>by
  obtain⟨k,rfl⟩:∃m,k=m+1:=⟨k-1,by omega⟩;simp only[bb.l0,gJ];rw[if_neg (by omega),Bool.true_and]
  congr 1
  apply Bool.eq_iff_iff.2;simp only[decide_eq_true_eq];omega
 | d+1,k,i,h0,h1,h2=>by
  obtain⟨k,rfl⟩:∃m,k=m+1:=⟨k-1,by omega⟩;have hi:i<l.length:=by omega
  have hx:l.getD i jh∈l:=by
   rw[List.getD_eq_getElem?_getD,List.getElem?_eq_getElem hi];exact List.getElem_mem hi
  obtain⟨r,r1,_⟩:=Func.ke (fun x:b5=>x.f0.toList==(l.getD i jh).f0.toList) l 0 (by omega)
  have e3:bw.f k l (l.getD i jh).f0=some r:=by
   unfold bw.f;refine(qK l (l.getD i jh).f0 hl l.length k 0 (by omega) (by omega) (by omega)).trans ?_;rw[List.drop_zero];exact r1
  have hf:=lh l i r r1;simp only[bb.l0,gJ];rw[if_pos (by omega),if_pos (by omega),qb,hK _ hx k (by omega)];simp only[dn]
  cases eo (l.getD i jh).f0 (l.getD i jh).f1 with
  | false=>simp
  | true =>
   rw[if_pos rfl,e3];simp only[dn];rw[hf,Bool.true_and];by_cases c:r=(i:Int)
   ·rw[if_pos c,decide_eq_true c,Kit.dy i (by omega),mA l hl K hK d k (i+1) (by omega) (by omega) (by omega),Bool.true_and]
   ·rw[if_neg c,decide_eq_false c];rfl
theorem mB (l:List b5) (hl:l.length≤1048576) (hf:∀x∈l,x.f0.size≤1048576∧kM x.f1):∀(d k i:Nat),i≤l.length→l.length-i=d→d+50000010<k→aK.l0 k l l (l.length:Int) (i:Int)=some (gJ l d i)
 | 0,k,i,h0,h1,h2=>by
  obtain⟨k,rfl⟩:∃m,k=m+1:=⟨k-1,by omega⟩;simp only[aK.l0,gJ];rw[if_neg (by omega)]
 | d+1,k,i,h0,h1,h2=>by
  obtain⟨k,rfl⟩:∃m,k=m+1:=⟨k-1,by omega⟩;have hi:i<l.length:=by omega
  have hx:l.getD i jh∈l:=by
   rw[List.getD_eq_getElem?_getD,List.getElem?_eq_getElem hi];exact List.getElem_mem hi
  obtain⟨r1,r2,e1,e2,e3⟩:=oG (fun x:b5=>x.f0.toList==(l.getD i jh).f0.toList) jh l i 0 (by omega) hi (by simp)
  have e4:dB.f (l.take i) (l.getD i jh).f0=some r2:=by
   unfold dB.f;rw[if_pos (by rw[List.length_take];omega)];exact e2
  have hb:=lh l i r1 e1;have hs:=oE (l.getD i jh).f0 (hf _ hx).1 (l.getD i jh).f1 (hf _ hx).2 k (by omega);simp only[aK.l0,gJ];rw[if_pos (by omega),if_pos (by omega),if_pos (by omega),qb,hs];simp only[dn]
  cases eo (l.getD i jh).f0 (l.getD i jh).f1 with
  | false=>simp
  | true =>
   rw[if_pos rfl,if_pos (by omega),Int.toNat_natCast,e4];simp only[dn];rw[hb,Bool.true_and];by_cases c:r2≥0
   ·rw[if_pos c,decide_eq_false (fun h=>(e3.1 (by omega)) c)];rfl
   ·rw[if_neg c,decide_eq_true (by have:=e3.2 c;omega),Kit.dy i (by omega),mB l hl hf d k (i+1) (by omega) (by omega) (by omega),Bool.true_and]
theorem oH (a:ByteArray):strings_Join.J [a]=a:=by
 apply ByteArray.ext;apply Array.ext';simp[strings_Join.J,Go.Lib.join,List.intercalate]
theorem mC (a b:ByteArray) (r:List ByteArray):strings_Join.J (a::b::r)=a++((⟨#[32]⟩:ByteArray)++strings_Join.J (b::r)):=by
 apply ByteArray.ext;apply Array.ext';simp[strings_Join.J,Go.Lib.join,List.intercalate,List.intersperse]
theorem J_size (y:List ByteArray):(Go.Lib.join (y.map (·.data.toList)) [32]).length=(strings_Join.J y).size:=rfl
theorem fL:(⟨#[32]⟩:ByteArray).size=1:=rfl
theorem lL (a:Int):(fN a).size≤100:=by
 unfold fN
 split
 ·rename_i h
  obtain⟨n,hn⟩:∃n:Nat,a.toNat=n:=⟨_,rfl⟩;rw[hn];have h1:n≤10:=by omega
  have:∀m:Fin 11,(b7.o0.getD m.val ⟨#[]⟩).size≤100:=by decide +kernel
  exact this ⟨n,by omega⟩
 ·decide
def j6 (A3 A4:ByteArray) (c d:Int) (x:ByteArray):ByteArray :=
 if c= -1 then(if d= -1 then x else(x++(⟨#[32]⟩:ByteArray))++A4)else(if d= -1 then(x++(⟨#[32]⟩:ByteArray))++A3 else(((x++(⟨#[32]⟩:ByteArray))++A3)++(⟨#[32]⟩:ByteArray))++A4)
theorem qc (x:ByteArray) (a b c d e:Int) (s A3 A4:ByteArray) (k:Nat) (h3:aG.f k c=some A3) (h4:aG.f k d=some A4) (s3:A3.size≤21) (s4:A4.size≤21) (hx:x.size≤3000000):aw.j1 (k+1) x e a b c d s=some (j6 A3 A4 c d x):=by
 simp only[aw.j1];rw[h3,h4];unfold j6;simp only[dn,ByteArray.size_append,fL];by_cases c1:c= -1
 ·rw[if_pos c1,if_pos c1];by_cases d1:d= -1
  ·rw[if_pos d1,if_pos d1]
  ·rw[if_neg d1,if_neg d1,if_pos (by omega),if_pos (by omega)]
 ·rw[if_neg c1,if_neg c1,if_pos (by omega),if_pos (by omega)];by_cases d1:d= -1
  ·rw[if_pos d1,if_pos d1]
  ·rw[if_neg d1,if_neg d1,if_pos (by omega),if_pos (by omega)]
def fiT (o A1 A2 A3 A4:ByteArray) (op c d:Int) (nm:ByteArray):ByteArray :=
 if op=4∨op=10 then o++((⟨#[32]⟩:ByteArray)++A1)
 else if op=5 then(((o++((⟨#[32]⟩:ByteArray)++A1))++((⟨#[32]⟩:ByteArray)++A2))++(⟨#[32]⟩:ByteArray))++A3
 else if op=6 then j6 A3 A4 c d ((((o++((⟨#[32]⟩:ByteArray)++A1))++((⟨#[32]⟩:ByteArray)++A2))++(⟨#[32]⟩:ByteArray))++nm)
 else if op=7 then j6 A3 A4 c d (((o++((⟨#[32]⟩:ByteArray)++A1))++(⟨#[32]⟩:ByteArray))++nm)
 else(o++((⟨#[32]⟩:ByteArray)++A1))++((⟨#[32]⟩:ByteArray)++A2)
theorem oI (o A1 A2 A3 A4:ByteArray) (op c d:Int) (nm:ByteArray) (ho:o.size≤100) (s1:A1.size≤21) (s2:A2.size≤21) (s3:A3.size≤21) (s4:A4.size≤21) (hn:nm.size≤2000000):(fiT o A1 A2 A3 A4 op c d nm).size≤3000000:=by
 unfold fiT j6
 repeat' split
 all_goals (simp only[ByteArray.size_append,fL];omega)
theorem qd (o A1 A2 A3 A4:ByteArray) (op a b c d:Int) (nm:ByteArray) (q:Bool) (hq:q=decide (op=4∨op=10)) (k:Nat) (h3:aG.f k c=some A3) (h4:aG.f k d=some A4) (h3':aG.f (k+1) c=some A3)
  (ho:o.size≤100) (s1:A1.size≤21) (s2:A2.size≤21) (s3:A3.size≤21) (s4:A4.size≤21) (hn:nm.size≤2000000) :
  aw.j0 (k+1+1) o ((⟨#[32]⟩:ByteArray)++A1) ((⟨#[32]⟩:ByteArray)++A2) op q op a b c d nm=some (fiT o A1 A2 A3 A4 op c d nm):=by
 simp only[aw.j0];rw[h3'];subst hq;unfold fiT;simp only[dn];by_cases c4:op=4∨op=10
 ·rw[if_pos c4,decide_eq_true c4,if_pos rfl,if_pos (by simp only[ByteArray.size_append,fL];omega)]
 rw[if_neg c4,decide_eq_false c4,if_neg (by decide)];have g1:o.size+((⟨#[32]⟩:ByteArray)++A1).size≤9223372036854775807:=by simp only[ByteArray.size_append,fL];omega
 have g2:(o++((⟨#[32]⟩:ByteArray)++A1)).size+((⟨#[32]⟩:ByteArray)++A2).size≤9223372036854775807:=by simp only[ByteArray.size_append,fL];omega
 have g3:((o++((⟨#[32]⟩:ByteArray)++A1))++((⟨#[32]⟩:ByteArray)++A2)).size+1≤9223372036854775807:=by simp only[ByteArray.size_append,fL];omega
 by_cases c5:op=5
 ·rw[if_pos c5,if_pos c5,if_pos g1,if_pos g2,if_pos g3,if_pos (by simp only[ByteArray.size_append,fL];omega)]
 rw[if_neg c5,if_neg c5];by_cases c6:op=6
 ·rw[if_pos c6,if_pos c6,if_pos g1,if_pos g2,if_pos g3,if_pos (by simp only[ByteArray.size_append,fL];omega)];exact qc _ a b c d op nm A3 A4 k h3 h4 s3 s4 (by simp only[ByteArray.size_append,fL];omega)
 rw[if_neg c6,if_neg c6];by_cases c7:op=7
 ·rw[if_pos c7,if_pos c7,if_pos g1,if_pos (by simp only[ByteArray.size_append,fL];omega),if_pos (by simp only[ByteArray.size_append,fL];omega)];exact qc _ a b c d op nm A3 A4 k h3 h4 s3 s4 (by simp only[ByteArray.size_append,fL];omega)
 rw[if_neg c7,if_neg c7,if_pos g1,if_pos g2]
theorem J_W (o:ByteArray) (op a b c d:Int) (nm:ByteArray):strings_Join.J (ag.W o op a b c d nm)=fiT o (ba (Go.Lib.itoa a)) (ba (Go.Lib.itoa b)) (ba (Go.Lib.itoa c)) (ba (Go.Lib.itoa d)) op c d nm:=by
 have e:∀n,ak.S n=ba (Go.Lib.itoa n):=fun _=>rfl
 unfold ag.W fiT j6 bp.L;simp only[List.filter_cons,List.filter_nil];by_cases c4:op=4∨op=10
 ·rw[if_pos c4,if_pos c4];simp only[List.map_cons,List.map_nil,List.cons_append,List.nil_append,oH,mC,e]
 rw[if_neg c4,if_neg c4];by_cases c5:op=5
 ·rw[if_pos c5,if_pos c5];simp only[List.map_cons,List.map_nil,List.cons_append,List.nil_append,oH,mC,e,ByteArray.append_assoc]
 rw[if_neg c5,if_neg c5];by_cases c6:op=6
 ·rw[if_pos c6,if_pos c6];by_cases c1:c= -1<;>by_cases d1:d= -1<;>simp[c1,d1,oH,mC,e,ByteArray.append_assoc]
 rw[if_neg c6,if_neg c6];by_cases c7:op=7
 ·rw[if_pos c7,if_pos c7];by_cases c1:c= -1<;>by_cases d1:d= -1<;>simp[c1,d1,oH,mC,e,ByteArray.append_assoc]
 rw[if_neg c7,if_neg c7];simp only[List.map_cons,List.map_nil,List.cons_append,List.nil_append,oH,mC,e,ByteArray.append_assoc]
theorem dY (n:Int) (h0: -9223372036854775808≤n) (h1:n≤9223372036854775807):(ba (Go.Lib.itoa n)).size≤21:=Go.Lib.itoa_length_le n h0 h1
def lM (op a b c d:Int) (nm:ByteArray):ByteArray:=if eT op a b c d nm=true then fiT (fN op) (ba (Go.Lib.itoa a)) (ba (Go.Lib.itoa b)) (ba (Go.Lib.itoa c)) (ba (Go.Lib.itoa d)) op c d nm else⟨#[]⟩
theorem nX (op a b c d:Int) (nm:ByteArray) (a0: -9223372036854775808≤a) (a1:a≤9223372036854775807) (b0: -9223372036854775808≤b) (b1:b≤9223372036854775807) (c0: -9223372036854775808≤c) (c1:c≤9223372036854775807) (d0: -9223372036854775808≤d) (d1:d≤9223372036854775807)
  (hn:nm.size≤2000000) (k:Nat) (hk:nm.size+40<k):aw.f k op a b c d nm=some (lM op a b c d nm):=by
 obtain⟨k,rfl⟩:∃m,k=m+1+1:=⟨k-2,by omega⟩;have f1:=jk a a0 a1;have f2:=jk b b0 b1;have f3:=jk c c0 c1;have f4:=jk d d0 d1;have s1:=dY a a0 a1;have s2:=dY b b0 b1;have s3:=dY c c0 c1;have s4:=dY d d0 d1;have so:=lL op;unfold aw.f lM;rw[j3 op a b c d nm (by omega) _ (by omega)];simp only[dn];cases hv:eT op a b c d nm
 ·rw[if_neg (by decide),if_neg (by decide)]
 ·rw[if_pos rfl,if_pos rfl,pZ,f1 _ (by omega)];simp only[dn];rw[if_pos (by omega),f2 _ (by omega)];simp only[dn];rw[if_pos (by omega)];by_cases c4:op=4
  ·rw[if_pos c4];exact qd _ _ _ _ _ op a b c d nm _ (by rw[c4];rfl) k (f3 _ (by omega)) (f4 _ (by omega)) (f3 _ (by omega)) so s1 s2 s3 s4 hn
  ·rw[if_neg c4];refine qd _ _ _ _ _ op a b c d nm _ ?_ k (f3 _ (by omega)) (f4 _ (by omega)) (f3 _ (by omega)) so s1 s2 s3 s4 hn;by_cases fp:op=10
   ·rw[fp];rfl
   ·rw[decide_eq_false (by omega)];exact beq_eq_false_iff_ne.mpr fp
theorem mD (op a b c d:Int) (nm:ByteArray) (hv:eT op a b c d nm=true) (a0: -9223372036854775808≤a) (a1:a≤9223372036854775807) (b0: -9223372036854775808≤b) (b1:b≤9223372036854775807) (c0: -9223372036854775808≤c) (c1:c≤9223372036854775807) (d0: -9223372036854775808≤d) (d1:d≤9223372036854775807)
  (hn:nm.size≤2000000):ag.f op a b c d nm=some (lM op a b c d nm):=by
 unfold lM;rw[if_pos hv];unfold ag.f;rw[impl_op];simp only[dn];rw[J_size,J_W,if_pos];refine⟨?_,?_⟩
 ·intro x hx;simp only[List.mem_cons,List.not_mem_nil,or_false]at hx
  rcases hx with rfl|rfl|rfl|rfl
  ·exact⟨a0,a1⟩
  ·exact⟨b0,b1⟩
  ·exact⟨c0,c1⟩
  ·exact⟨d0,d1⟩
 ·have:=oI (fN op) _ _ _ _ op c d nm (lL op) (dY a a0 a1) (dY b b0 b1) (dY c c0 c1) (dY d d0 d1) hn;omega
theorem rN (op a b c d:Int) (nm:ByteArray) (a0: -9223372036854775808≤a) (a1:a≤9223372036854775807) (b0: -9223372036854775808≤b) (b1:b≤9223372036854775807) (c0: -9223372036854775808≤c) (c1:c≤9223372036854775807) (d0: -9223372036854775808≤d) (d1:d≤9223372036854775807)
  (hn:nm.size≤2000000):(lM op a b c d nm).size≤3000000:=by
 unfold lM
 split
 ·exact oI (fN op) _ _ _ _ op c d nm (lL op) (dY a a0 a1) (dY b b0 b1) (dY c c0 c1) (dY d d0 d1) hn
 ·decide
def jI:ByteArray:=⟨#[115,99,114,105,112,116,32]⟩
def ja:ByteArray:=⟨#[109,101,116,104,111,100,32]⟩
theorem kp:(⟨#[115,99,114,105,112,116,32]⟩:ByteArray).size=7:=rfl
theorem iJ:(⟨#[109,101,116,104,111,100,32]⟩:ByteArray).size=7:=rfl
theorem gK:(⟨#[10]⟩:ByteArray).size=1:=rfl
def iD (x:fk):ByteArray:=lM x.f0 x.f1 x.f2 x.f3 x.f4 x.f5
def iK:List fk→ByteArray→ByteArray
 | [],t=>t
 | x::r,t=>iK r (t++(iD x++(⟨#[10]⟩:ByteArray)))
def iZ:List cR→ByteArray→ByteArray
 | [],t=>t
 | m::r,t=>iZ r (iK m.f1 (t++(((⟨#[109,101,116,104,111,100,32]⟩:ByteArray)++m.f0)++(⟨#[10]⟩:ByteArray))))
def kN (z:fk):Prop:=(-9223372036854775808≤z.f1∧z.f1≤9223372036854775807)∧(-9223372036854775808≤z.f2∧z.f2≤9223372036854775807)∧(-9223372036854775808≤z.f3∧z.f3≤9223372036854775807)∧(-9223372036854775808≤z.f4∧z.f4≤9223372036854775807)
def nY (l:List cR):Prop:=∀x∈l,∀z∈x.f1,kN z
theorem kO (z:fk) (h:kN z) (hn:z.f5.size≤1048576):(iD z).size≤3000000 :=
 rN _ _ _ _ _ _ h.1.1 h.1.2 h.2.1.1 h.2.1.2 h.2.2.1.1 h.2.2.1.2 h.2.2.2.1 h.2.2.2.2 (by omega)
theorem iU:∀(l:List fk) (t:ByteArray),(∀z∈l,kN z∧z.f5.size≤1048576)→(iK l t).size≤t.size+l.length*3000001
 | [],t,_=>by simp[iK]
 | x::r,t,h=>by
  have h1:=iU r (t++(iD x++(⟨#[10]⟩:ByteArray))) (fun z hz=>h z (List.mem_cons_of_mem _ hz));have h2:=kO x (h x (by simp)).1 (h x (by simp)).2;simp only[ByteArray.size_append,gK]at h1;simp only[iK,List.length_cons];omega
theorem qe:∀(l:List fk) (t:ByteArray),(∀z∈l,kN z∧z.f5.size≤1048576∧gq z=true)→t.size+l.length*3000001≤100000000000→bU.l1 l t=some (iK l t)
 | [],t,_,_=>rfl
 | x::r,t,h,hs=>by
  obtain⟨hi,hn,hv⟩:=h x (by simp);have h2:=kO x hi hn;have e:ag.f x.f0 x.f1 x.f2 x.f3 x.f4 x.f5=some (iD x):=mD _ _ _ _ _ _ hv hi.1.1 hi.1.2 hi.2.1.1 hi.2.1.2 hi.2.2.1.1 hi.2.2.1.2 hi.2.2.2.1 hi.2.2.2.2 (by omega);simp only[List.length_cons]at hs;simp only[bU.l1,iK];rw[e];simp only[dn];rw[if_pos (by omega)];exact qe r _ (fun z hz=>h z (List.mem_cons_of_mem _ hz)) (by simp only[ByteArray.size_append,gK];omega)
theorem oJ:∀(l:List cR) (t:ByteArray),(∀x∈l,x.f0.size≤1048576∧x.f1.length≤12∧∀z∈x.f1,kN z∧z.f5.size≤1048576∧gq z=true)→t.size+l.length*40000000≤10000000000→bU.l0 l t=some (iZ l t)
 | [],t,_,_=>rfl
 | x::r,t,h,hs=>by
  obtain⟨hn,hc,hz⟩:=h x (by simp);simp only[List.length_cons]at hs;simp only[bU.l0,iZ];rw[if_pos ⟨by omega,by omega⟩,qe x.f1 _ hz (by simp only[ByteArray.size_append,iJ,gK];omega)];simp only[dn];refine oJ r _ (fun y hy=>h y (List.mem_cons_of_mem _ hy)) ?_;have h1:=iU x.f1 (t++(((⟨#[109,101,116,104,111,100,32]⟩:ByteArray)++x.f0)++(⟨#[10]⟩:ByteArray))) (fun z hz'=>⟨(hz z hz').1,(hz z hz').2.1⟩);simp only[ByteArray.size_append,iJ,gK]at h1;omega
def qS (nm:ByteArray) (l:List cR):ByteArray:=if eo nm l=true then iZ l ((⟨#[]⟩:ByteArray)++(((⟨#[115,99,114,105,112,116,32]⟩:ByteArray)++nm)++(⟨#[10]⟩:ByteArray)))else⟨#[]⟩
theorem iE (l:List cR):∀(d i:Nat),l.length-i=d→fK l d i=true→∀j,i≤j→(h:j<l.length)→ie l[j].f0 l[j].f1=true
 | 0,i,h0,_,j,h1,h2=>by omega
 | d+1,i,h0,h,j,h1,h2=>by
  simp only[fK,Bool.and_eq_true]at h;by_cases c:j=i
  ·subst c;have:=h.1;rw[List.getD_eq_getElem?_getD,List.getElem?_eq_getElem h2]at this;exact this
  ·exact iE l d (i+1) (by omega) h.2.2 j (by omega) h2
theorem iB (nm:ByteArray) (l:List cR) (hf:kM l) (hi:nY l) (h:eo nm l=true):l.length≤4∧∀x∈l,x.f0.size≤1048576∧x.f1.length≤12∧∀z∈x.f1,kN z∧z.f5.size≤1048576∧gq z=true:=by
 unfold eo at h;simp only[Bool.and_eq_true,decide_eq_true_eq]at h;refine⟨h.2.2,fun x hx=>?_⟩;obtain⟨j,hj,rfl⟩:=List.getElem_of_mem hx;have hm:=iE l _ 0 rfl h.1 j (by omega) hj;unfold ie at hm;simp only[Bool.and_eq_true,decide_eq_true_eq]at hm;exact⟨(hf.2 _ hx).1,hm.2.1,fun z hz=>⟨hi _ hx z hz,(hf.2 _ hx).2.2 z hz,List.all_eq_true.1 hm.2.2 z hz⟩⟩
theorem impl_fs (nm:ByteArray) (hn:nm.size≤1048576) (l:List cR) (hf:kM l) (hi:nY l) (h:eo nm l=true):bU.f nm l=some (qS nm l):=by
 obtain⟨h4,ha⟩:=iB nm l hf hi h;unfold bU.f qS;rw[if_pos ⟨by omega,by omega⟩,if_pos h];refine oJ l _ ha ?_;have e0:(⟨#[]⟩:ByteArray).size=0:=rfl;simp only[ByteArray.size_append,kp,gK,e0];omega
theorem fs_l1 (nm:ByteArray) (l:List cR) (hl:l.length≤4) (i:Nat) (hi:i<l.length) (hc:(l.getD i gl).f1.length≤12) (hz:∀z∈(l.getD i gl).f1,kN z∧z.f5.size≤1048576) (v:ByteArray) (K:Nat) (d:Nat):∀(k j:Nat) (t:ByteArray),j≤(l.getD i gl).f1.length→(l.getD i gl).f1.length-j=d→t.size+d*3000001≤100000000000 →
  (∀k,K≤k→aH.l0 k (iK ((l.getD i gl).f1.drop j) t) ((i+1:Nat):Int) nm l=some v)→K+d+2000000<k→aH.l1 k t (i:Int) (j:Int) nm l=some v:=by
 induction d with
 | zero =>
  intro k j t h0 h1 hs hK hk;obtain⟨k,rfl⟩:∃m,k=m+1:=⟨k-1,by omega⟩;have hj:j=(l.getD i gl).f1.length:=by omega
  simp only[aH.l1];rw[my,if_pos (by omega),if_pos (by omega),if_neg (by omega),Kit.dy i (by omega)];have:=hK k (by omega);rw[hj,List.drop_length]at this;exact this
 | succ d ih =>
  intro k j t h0 h1 hs hK hk;obtain⟨k,rfl⟩:∃m,k=m+1:=⟨k-1,by omega⟩;have hj:j<(l.getD i gl).f1.length:=by omega
  have hr:bE (l.getD i gl).f1 (j:Int)=(l.getD i gl).f1[j]:=by
   unfold bE;rw[Int.toNat_natCast,List.getD_eq_getElem?_getD,List.getElem?_eq_getElem hj];rfl
  obtain⟨hii,hn⟩:=hz _ (List.getElem_mem hj);have h2:=kO _ hii hn;have e:∀k,1100000<k→aw.f k (l.getD i gl).f1[j].f0 (l.getD i gl).f1[j].f1 (l.getD i gl).f1[j].f2 (l.getD i gl).f1[j].f3 (l.getD i gl).f1[j].f4 (l.getD i gl).f1[j].f5=some (iD (l.getD i gl).f1[j]):=fun k hk=>nX _ _ _ _ _ _ hii.1.1 hii.1.2 hii.2.1.1 hii.2.1.2 hii.2.2.1.1 hii.2.2.1.2 hii.2.2.2.1 hii.2.2.2.2 (by omega) k (by omega)
  simp only[aH.l1];rw[my,hr,if_pos (by omega),if_pos (by omega),if_pos (by omega),if_pos (by omega),e k (by omega)];simp only[dn];rw[if_pos (by omega),if_pos (by simp only[ByteArray.size_append];omega),Kit.dy j (by omega),ByteArray.append_assoc];refine ih k (j+1) _ (by omega) (by omega) (by simp only[ByteArray.size_append,gK];omega) ?_ (by omega);intro k' hk';have:=hK k' hk';rw[List.drop_eq_getElem_cons hj]at this;exact this
theorem fs_l0 (nm:ByteArray) (l:List cR) (hl:l.length≤4) (ha:∀x∈l,x.f0.size≤1048576∧x.f1.length≤12∧∀z∈x.f1,kN z∧z.f5.size≤1048576∧gq z=true):∀(d i:Nat) (t:ByteArray),i≤l.length→l.length-i=d→t.size+d*40000000≤10000000000→∃K,∀k,K≤k→aH.l0 k t (i:Int) nm l=some (iZ (l.drop i) t)
 | 0,i,t,h0,h1,hs=>by
  refine⟨1,fun k hk=>?_⟩;obtain⟨k,rfl⟩:∃m,k=m+1:=⟨k-1,by omega⟩;have hi:i=l.length:=by omega
  subst hi;simp only[aH.l0];rw[if_neg (by omega),List.drop_length];rfl
 | d+1,i,t,h0,h1,hs=>by
  have hi:i<l.length:=by omega
  have hg:l.getD i gl=l[i]:=by rw[List.getD_eq_getElem?_getD,List.getElem?_eq_getElem hi];rfl
  obtain⟨hn,hc,hz⟩:=ha _ (List.getElem_mem hi);rw[←hg]at hn hc hz;have hz2:∀z∈(l.getD i gl).f1,kN z∧z.f5.size≤1048576:=fun z h=>⟨(hz z h).1,(hz z h).2.1⟩
  obtain⟨T,hT⟩:∃T,T=t++(((⟨#[109,101,116,104,111,100,32]⟩:ByteArray)++(l.getD i gl).f0)++(⟨#[10]⟩:ByteArray)):=⟨_,rfl⟩;have hTs:T.size=t.size+(7+(l.getD i gl).f0.size+1):=by rw[hT];simp only[ByteArray.size_append,iJ,gK]
  have h3:=iU (l.getD i gl).f1 T hz2;obtain⟨K,hK⟩:=fs_l0 nm l hl ha d (i+1) (iK (l.getD i gl).f1 T) (by omega) (by omega) (by omega);refine⟨K+3000000,fun k hk=>?_⟩;obtain⟨k,rfl⟩:∃m,k=m+1:=⟨k-1,by omega⟩;simp only[aH.l0];rw[my,if_pos (by omega),if_pos (by omega),if_pos (by omega),if_pos (by simp only[ByteArray.size_append,iJ];omega),if_pos (by simp only[ByteArray.size_append,iJ];omega)];have e:((t++(⟨#[109,101,116,104,111,100,32]⟩:ByteArray))++(l.getD i gl).f0)++(⟨#[10]⟩:ByteArray)=T:=by rw[hT,ByteArray.append_assoc,ByteArray.append_assoc,ByteArray.append_assoc]
  rw[e,List.drop_eq_getElem_cons hi];simp only[iZ];rw[←hg,←hT];exact fs_l1 nm l hl i hi hc hz2 _ K _ k 0 T (by omega) rfl (by omega) (fun k hk=>hK k hk) (by omega)
theorem spec_fs (nm:ByteArray) (hn:nm.size≤1048576) (l:List cR) (hf:kM l) (hi:nY l):∃K,∀k,K≤k→aH.f k nm l=some (qS nm l):=by
 obtain⟨K,hK⟩:=lg nm hn l hf;unfold qS;cases hv:eo nm l
 ·refine⟨K,fun k hk=>?_⟩;unfold aH.f;rw[hK k hk,hv];simp only[dn];rw[if_neg (by decide),if_neg (by decide)]
 ·obtain⟨h4,ha⟩:=iB nm l hf hi hv;obtain⟨T,hT⟩:∃T,T=(((⟨#[115,99,114,105,112,116,32]⟩:ByteArray)++nm)++(⟨#[10]⟩:ByteArray)):=⟨_,rfl⟩;have hTs:T.size=7+nm.size+1:=by rw[hT];simp only[ByteArray.size_append,kp,gK]
  obtain⟨K2,hK2⟩:=fs_l0 nm l h4 ha _ 0 T (by omega) rfl (by omega);refine⟨K+K2,fun k hk=>?_⟩;unfold aH.f;rw[hK k (by omega),hv];simp only[dn];rw[if_pos trivial,if_pos (by omega),if_pos (by simp only[ByteArray.size_append,kp];omega),if_pos trivial,←hT];have e0:(⟨#[]⟩:ByteArray)++T=T:=ByteArray.empty_append;rw[e0];exact hK2 k (by omega)
def gU (l:List b5):Bool:=gJ l l.length 0&&decide (l.length≤6)
def mE:List b5→ByteArray→ByteArray
 | [],t=>t
 | x::r,t=>mE r (t++qS x.f0 x.f1)
def ny (l:List b5):ByteArray:=if gU l=true then mE l ⟨#[]⟩else⟨#[]⟩
theorem mF:∀(l:List cR) (t:ByteArray),(∀x∈l,x.f0.size≤1048576∧x.f1.length≤12∧∀z∈x.f1,kN z∧z.f5.size≤1048576∧gq z=true)→(iZ l t).size≤t.size+l.length*40000000
 | [],t,_=>by simp[iZ]
 | x::r,t,h=>by
  obtain⟨hn,hc,hz⟩:=h x (by simp);have h1:=iU x.f1 (t++(((⟨#[109,101,116,104,111,100,32]⟩:ByteArray)++x.f0)++(⟨#[10]⟩:ByteArray))) (fun z hz'=>⟨(hz z hz').1,(hz z hz').2.1⟩);have h2:=mF r (iK x.f1 (t++(((⟨#[109,101,116,104,111,100,32]⟩:ByteArray)++x.f0)++(⟨#[10]⟩:ByteArray)))) (fun y hy=>h y (List.mem_cons_of_mem _ hy));simp only[ByteArray.size_append,iJ,gK]at h1;simp only[iZ,List.length_cons];omega
theorem mG (nm:ByteArray) (hn:nm.size≤1048576) (l:List cR) (hf:kM l) (hi:nY l):(qS nm l).size≤200000000:=by
 unfold qS
 split
 ·rename_i h
  obtain⟨h4,ha⟩:=iB nm l hf hi h;have h1:=mF l ((⟨#[]⟩:ByteArray)++(((⟨#[115,99,114,105,112,116,32]⟩:ByteArray)++nm)++(⟨#[10]⟩:ByteArray))) ha;have e0:(⟨#[]⟩:ByteArray).size=0:=rfl;simp only[ByteArray.size_append,kp,gK,e0]at h1;omega
 ·decide
theorem ll (l:List b5):∀(d i:Nat),l.length-i=d→gJ l d i=true→∀j,i≤j→(h:j<l.length)→eo l[j].f0 l[j].f1=true
 | 0,i,h0,_,j,h1,h2=>by omega
 | d+1,i,h0,h,j,h1,h2=>by
  simp only[gJ,Bool.and_eq_true]at h;by_cases c:j=i
  ·subst c;have:=h.1;rw[List.getD_eq_getElem?_getD,List.getElem?_eq_getElem h2]at this;exact this
  ·exact ll l d (i+1) (by omega) h.2.2 j (by omega) h2
theorem kr (l:List b5) (h:gU l=true):l.length≤6∧∀x∈l,eo x.f0 x.f1=true:=by
 unfold gU at h;simp only[Bool.and_eq_true,decide_eq_true_eq]at h;refine⟨h.2,fun x hx=>?_⟩;obtain⟨j,hj,rfl⟩:=List.getElem_of_mem hx;exact ll l _ 0 rfl h.1 j (by omega) hj
theorem oK:∀(l:List b5) (t:ByteArray),(∀x∈l,(x.f0.size≤1048576∧kM x.f1∧nY x.f1)∧eo x.f0 x.f1=true)→t.size+l.length*200000000≤10000000000→aQ.l0 l t=some (mE l t)
 | [],t,_,_=>rfl
 | x::r,t,h,hs=>by
  obtain⟨⟨hn,hf,hi⟩,hv⟩:=h x (by simp);have h2:=mG x.f0 hn x.f1 hf hi;simp only[List.length_cons]at hs;simp only[aQ.l0,mE];rw[impl_fs x.f0 hn x.f1 hf hi hv];simp only[dn];rw[if_pos (by omega)];exact oK r _ (fun y hy=>h y (List.mem_cons_of_mem _ hy)) (by rw[ByteArray.size_append];omega)
theorem ks (l:List b5) (hl:l.length≤1048576) (hm:∀x∈l,x.f0.size≤1048576∧kM x.f1∧nY x.f1) (k:Nat) (hk:55000000<k):aQ.f k l=some (ny l):=by
 have e:aK.f k l=some (gU l):=by
  unfold aK.f gU;by_cases c8:l.length≤6
  ·rw[if_neg (by omega)];have:=mB l hl (fun x hx=>⟨(hm x hx).1,(hm x hx).2.1⟩) l.length k 0 (by omega) (by omega) (by omega);rw[show(0:Int)=((0:Nat):Int)from rfl,this,decide_eq_true c8,Bool.and_true]
  ·rw[if_pos (by omega),decide_eq_false c8,Bool.and_false]
 unfold aQ.f ny;rw[e];simp only[dn];cases hv:gU l
 ·rw[if_neg (by decide),if_neg (by decide)]
 ·obtain⟨h6,ha⟩:=kr l hv;rw[if_pos rfl,if_pos rfl,if_pos (by omega)];refine oK l _ (fun x hx=>⟨hm x hx,ha x hx⟩) ?_;have e0:(⟨#[]⟩:ByteArray).size=0:=rfl;omega
theorem rO:∀(l:List b5),(∀x∈l,x.f0.size≤1048576∧kM x.f1∧nY x.f1)→∃K,∀x∈l,∀k,K≤k→aH.f k x.f0 x.f1=some (qS x.f0 x.f1)
 | [],_=>⟨0,fun x hx=>absurd hx (by simp)⟩
 | y::ys,h=>by
  obtain⟨K1,h1⟩:=rO ys (fun x hx=>h x (List.mem_cons_of_mem _ hx));obtain⟨hn,hf,hi⟩:=h y (List.mem_cons_self ..);obtain⟨K2,h2⟩:=spec_fs y.f0 hn y.f1 hf hi;refine⟨K1+K2,fun x hx k hk=>?_⟩
  rcases List.mem_cons.1 hx with rfl|hx
  ·exact h2 k (by omega)
  ·exact h1 x hx k (by omega)
theorem oL (l:List b5) (hl:l.length≤6) (hz:∀x∈l,(qS x.f0 x.f1).size≤200000000) (K:Nat) (hK:∀x∈l,∀k,K≤k→aH.f k x.f0 x.f1=some (qS x.f0 x.f1)):∀(d k i:Nat) (t:ByteArray),i≤l.length→l.length-i=d→t.size+d*200000000≤10000000000→K+d<k→aW.l0 k l t (i:Int)=some (mE (l.drop i) t)
 | 0,k,i,t,h0,h1,hs,h2=>by
  obtain⟨k,rfl⟩:∃m,k=m+1:=⟨k-1,by omega⟩;have hi:i=l.length:=by omega
  subst hi;simp only[aW.l0];rw[if_neg (by omega),List.drop_length];rfl
 | d+1,k,i,t,h0,h1,hs,h2=>by
  obtain⟨k,rfl⟩:∃m,k=m+1:=⟨k-1,by omega⟩;have hi:i<l.length:=by omega
  have hr:bu l (i:Int)=l[i]:=by
   rw[qb,List.getD_eq_getElem?_getD,List.getElem?_eq_getElem hi];rfl
  have h3:=hz _ (List.getElem_mem hi);simp only[aW.l0];rw[if_pos (by omega),if_pos (by omega),hr,hK _ (List.getElem_mem hi) k (by omega)];simp only[dn];rw[if_pos (by omega),Kit.dy i (by omega),List.drop_eq_getElem_cons hi];exact oL l hl hz K hK d k (i+1) _ (by omega) (by omega) (by rw[ByteArray.size_append];omega) (by omega)
theorem nZ (l:List b5) (hl:l.length≤1048576) (hm:∀x∈l,x.f0.size≤1048576∧kM x.f1∧nY x.f1):∃K,∀k,K≤k→aW.f k l=some (ny l):=by
 obtain⟨K1,h1⟩:=j5 l (fun x hx=>⟨(hm x hx).1,(hm x hx).2.1⟩);obtain⟨K2,h2⟩:=rO l hm;refine⟨K1+K2+3000000,fun k hk=>?_⟩;have e:bb.f k l=some (gU l):=mA l hl K1 h1 _ k 0 (by omega) (by omega) (by omega);unfold aW.f ny;rw[e];simp only[dn];cases hv:gU l
 ·rw[if_neg (by decide),if_neg (by decide)]
 ·obtain⟨h6,ha⟩:=kr l hv;rw[if_pos rfl,if_pos rfl];have e0:(⟨#[]⟩:ByteArray).size=0:=rfl;have:=oL l h6 (fun x hx=>mG x.f0 (hm x hx).1 x.f1 (hm x hx).2.1 (hm x hx).2.2) K2 h2 l.length k 0 ⟨#[]⟩ (by omega) rfl (by omega) (by omega);rw[List.drop_zero]at this;exact this
theorem ln (m:Nat) (h:m<10):Go.Lib.digitVal (UInt8.ofNat (48+m))=some m:=by
 have e:(UInt8.ofNat (48+m)).toNat=48+m:=by
  rw[UInt8.toNat_ofNat'];omega
 unfold Go.Lib.digitVal;rw[e,if_pos (by omega)]
 congr 1
 omega
theorem kt:∀(l:List UInt8) (acc m d:Nat) (b:UInt8),Go.Lib.decFrom acc l=some m→Go.Lib.digitVal b=some d→Go.Lib.decFrom acc (l++[b])=some (m*10+d)
 | [],acc,m,d,b,h,hb=>by
  simp only[Go.Lib.decFrom,Option.some.injEq]at h;subst h;simp[Go.Lib.decFrom,hb]
 | c::r,acc,m,d,b,h,hb=>by
  simp only[List.cons_append,Go.Lib.decFrom]at h ⊢
  cases hc:Go.Lib.digitVal c with
  | none =>
   rw[hc]at h;exact absurd h (by simp)
  | some q =>
   rw[hc]at h;exact kt r _ m d b h hb
theorem lp:∀(u:Nat),Go.Lib.decFrom 0 (Go.Lib.decDigits u)=some u:=by
 intro u
 induction u using Nat.strongRecOn with
 | _ u ih =>
  rw[Go.Lib.decDigits];by_cases c:u<10
  ·rw[dif_pos c]
   show(match Go.Lib.digitVal (UInt8.ofNat (48+u))with|some d=>Go.Lib.decFrom (0*10+d) []|none=>none)=some u
   rw[ln u c];simp[Go.Lib.decFrom]
  ·rw[dif_neg c,kt _ _ _ _ _ (ih (u / 10) (by omega)) (ln (u % 10) (Nat.mod_lt _ (by decide)))]
   congr 1
   omega
theorem nd_le:∀(k u:Nat),u<10 ^ (k+1)→Go.Lib.nDigits u≤k+1
 | 0,u,h=>by rw[Go.Lib.nDigits_small (by simpa using h)];exact Nat.le_refl _
 | k+1,u,h=>by
  by_cases c:u<10
  ·rw[Go.Lib.nDigits_small c];omega
  ·rw[Go.Lib.nDigits_big c];have:=nd_le k (u / 10) (by rw[Nat.pow_succ]at h;omega);omega
def canon (s:ByteArray) (n:Nat):Prop:=n≤1000000000000∧s.data.toList=Go.Lib.decDigits n
theorem nA (s:ByteArray) (n:Nat) (h:canon s n):1≤s.data.toList.length∧s.data.toList.length≤13:=by
 rw[h.2,Go.Lib.decDigits_length];exact⟨Go.Lib.nDigits_pos n,nd_le 12 n (by have:=h.1;omega)⟩
theorem pt (s:ByteArray) (n:Nat) (h:canon s n):Go.Lib.atoiAll s.data.toList=.ok (n:Int):=by
 have hl:=nA s n h;have hd:Go.Lib.decFrom 0 s.data.toList=some n:=by rw[h.2];exact lp n
 rw[Go.Lib.atoiAll_short _ (by omega)]
 cases hs:s.data.toList with
 | nil =>
  rw[hs]at hl;exact absurd hl.1 (by decide)
 | cons c r =>
  rw[hs]at hd
  have hc:48≤c.toNat∧c.toNat≤57:=by
   simp only[Go.Lib.decFrom,Go.Lib.digitVal]at hd;by_cases q:48≤c.toNat∧c.toNat≤57
   ·exact q
   ·rw[if_neg q]at hd;exact absurd hd (by simp)
  have h45:(c==45)=false:=by
   apply beq_eq_false_iff_ne.2;rintro rfl;exact absurd hc.1 (by decide)
  have h43:(c==43)=false:=by
   apply beq_eq_false_iff_ne.2;rintro rfl;exact absurd hc.1 (by decide)
  unfold Go.Lib.atoi Go.Lib.decNat;dsimp only;rw[h45,h43];simp only[Bool.false_eq_true,if_false,List.isEmpty_cons];rw[hd];rfl
theorem ba_list (s:ByteArray) (l:List UInt8):(ba l).toList=s.toList↔s.data.toList=l:=by
 rw[Go.ByteArray.toList_eq,Go.ByteArray.toList_eq]
 show l=s.data.toList↔_
 exact eq_comm
def qL (s:ByteArray):Option Nat→Int×Bool
 | none=>(0,false)
 | some n=>if (n:Int)>1000000000000 then(0,false)else if (ba (Go.Lib.itoa (n:Int))).toList=s.toList then((n:Int),true)else(0,false)
theorem nB (s:ByteArray) (hs:s.size≤13):∀(d k i acc:Nat),i≤s.size→s.size-i=d→acc<10 ^ i→d+60<k→bJ.l0 k s (acc:Int) (i:Int)=some (qL s (Go.Lib.decFrom acc (s.data.toList.drop i)))
 | 0,k,i,acc,h0,h1,h2,h3=>by
  obtain⟨k,rfl⟩:∃m,k=m+1:=⟨k-1,by omega⟩;have hp:10 ^ i≤10 ^ 13:=Nat.pow_le_pow_right (by decide) (by omega);have hz:s.size=s.data.toList.length:=rfl;simp only[bJ.l0];rw[if_neg (by omega),List.drop_of_length_le (by omega),jk (acc:Int) (by omega) (by omega) k (by omega)];simp only[dn,Go.Lib.decFrom,qL];by_cases c:(acc:Int)>1000000000000
  ·rw[if_pos c,if_pos c]
  ·rw[if_neg c,if_neg c];by_cases c2:(ba (Go.Lib.itoa (acc:Int))).toList=s.toList
   ·rw[if_pos c2,if_pos c2]
   ·rw[if_neg c2,if_neg c2]
 | d+1,k,i,acc,h0,h1,h2,h3=>by
  obtain⟨k,rfl⟩:∃m,k=m+1:=⟨k-1,by omega⟩;have hp:10 ^ i≤10 ^ 12:=Nat.pow_le_pow_right (by decide) (by omega);have hz:s.size=s.data.toList.length:=rfl;have hi:i<s.data.toList.length:=by omega
  have hb:=(s.data.toList[i]).toNat_lt;simp only[bJ.l0];rw[if_pos (by omega),if_pos (by omega),nW s i hi,List.drop_eq_getElem_cons hi,Kit.fJ _ (by omega) (by omega)];simp only[Go.Lib.decFrom,Go.Lib.digitVal];unfold bX.f;by_cases c1:48≤(s.data.toList[i]).toNat
  ·rw[if_pos (by omega)];by_cases c2:(s.data.toList[i]).toNat≤57
   ·rw[decide_eq_true (by omega),if_pos ⟨c1,c2⟩];simp only[dn]
    have e:wrap64 ((wrap64 (10*(acc:Int)))+((((s.data.toList[i]).toNat:Int)-48) % 256))=((acc*10+((s.data.toList[i]).toNat-48):Nat):Int):=by
     rw[Kit.fJ (10*(acc:Int)) (by omega) (by omega),Kit.fJ _ (by omega) (by omega)];omega
    rw[if_pos trivial,e,Kit.dy i (by omega)];exact nB s hs d k (i+1) _ (by omega) (by omega) (by rw[Nat.pow_succ];omega) (by omega)
   ·rw[decide_eq_false (by omega),if_neg (fun h=>c2 h.2)];simp only[dn];rw[if_neg (by simp)];rfl
  ·rw[if_neg (by omega),if_neg (fun h=>c1 h.1)];simp only[dn];rw[if_neg (by simp)];rfl
theorem j7 (s:ByteArray) (k:Nat) (hk:100<k):bJ.f k s=some (if 1≤s.size∧s.size≤13 then qL s (Go.Lib.decFrom 0 s.data.toList)else(0,false)):=by
 unfold bJ.f bX.f;by_cases c1:1≤s.size
 ·rw[if_pos (by omega)];by_cases c2:s.size≤13
  ·rw[decide_eq_true (by omega),if_pos ⟨c1,c2⟩];simp only[dn];rw[if_pos trivial];have:=nB s c2 s.size k 0 0 (by omega) (by omega) (by decide) (by omega);rw[List.drop_zero]at this;exact this
  ·rw[decide_eq_false (by omega),if_neg (fun h=>c2 h.2)];simp only[dn];rw[if_neg (by simp)]
 ·rw[if_neg (by omega),if_neg (fun h=>c1 h.1)];simp only[dn];rw[if_neg (by simp)]
theorem rP (s:ByteArray) (n:Nat) (h:canon s n) (k:Nat) (hk:100<k):bJ.f k s=some ((n:Int),true):=by
 have hl:=nA s n h;have hz:s.size=s.data.toList.length:=rfl;have hn:=h.1;have hd:Go.Lib.decFrom 0 s.data.toList=some n:=by rw[h.2];exact lp n
 rw[j7 s k hk,if_pos ⟨by omega,by omega⟩,hd];unfold qL;dsimp only;rw[if_neg (by omega),if_pos ((ba_list s _).2 (by rw[Go.Lib.itoa_nonneg];exact h.2))]
def ga (c:UInt8):List UInt8→List (List UInt8)
 | []=>[[]]
 | b::r=>if b=c then[]::ga c r else match ga c r with
  | []=>[[b]]
  | h::t=>(b::h)::t
theorem ku (c:UInt8):∀l,ga c l≠[]
 | []=>by simp[ga]
 | b::r=>by
  unfold ga
  split
  ·simp
  ·split<;>simp
theorem kP (c:UInt8):∀l,c∉l→ga c l=[l]
 | [],_=>rfl
 | b::r,h=>by
  have h1:b≠c:=fun e=>h (by rw[e];exact List.mem_cons_self ..)
  unfold ga;rw[if_neg h1,kP c r (fun hm=>h (List.mem_cons_of_mem _ hm))]
theorem iL (c:UInt8):∀w r,c∉w→ga c (w++c::r)=w::ga c r
 | [],r,_=>by simp[ga]
 | b::w,r,h=>by
  have h1:b≠c:=fun e=>h (by rw[e];exact List.mem_cons_self ..)
  rw[List.cons_append,ga,if_neg h1,iL c w r (fun hm=>h (List.mem_cons_of_mem _ hm))]
theorem oM (a b:List UInt8) (r:List (List UInt8)) (c:UInt8):Go.Lib.join (a::b::r) [c]=a++c::Go.Lib.join (b::r) [c]:=by
 simp[Go.Lib.join,List.intercalate,List.intersperse]
theorem nC (c:UInt8):∀ws:List (List UInt8),ws≠[]→(∀w∈ws,c∉w)→ga c (Go.Lib.join ws [c])=ws
 | [],h,_=>absurd rfl h
 | [w],_,h=>by
  have e:Go.Lib.join [w] [c]=w:=by simp[Go.Lib.join,List.intercalate]
  rw[e];exact kP c w (h w (by simp))
 | a::b::r,_,h=>by
  rw[oM,iL c a _ (h a (by simp)),nC c (b::r) (by simp) (fun w hw=>h w (List.mem_cons_of_mem _ hw))]
theorem qf (l:List UInt8) (c:UInt8) (j:Nat):Go.Lib.occAt l [c] j=(l[j]? ==some c):=by
 unfold Go.Lib.occAt
 cases h:l.drop j with
 | nil =>
  have:l[j]? =none:=List.getElem?_eq_none (List.drop_eq_nil_iff.1 h);rw[this];rfl
 | cons b r =>
  have:l[j]? =some b:=by
   have:=congrArg (·[0]?) h
   simpa using this
  rw[this];simp only[List.isPrefixOf,Option.some_beq_some,Bool.and_true];exact BEq.comm
theorem mH (c:UInt8):∀(k:Nat) (s:List UInt8),Go.Lib.count s [c]=k→Go.Lib.splitK [c] 0 k s=ga c s
 | 0,s,h=>by
  rw[Go.Lib.count_one]at h;rw[kP c s (List.count_eq_zero.1 h)];rfl
 | k+1,s,h=>by
  have h':=h;rw[Go.Lib.count_one]at h'
  rcases Go.Lib.index_spec s [c]with ⟨h1,_⟩|⟨i,h1,h2,h3,h4⟩
  ·rw[Go.Lib.count_miss h1]at h;exact absurd h (by simp)
  ·have hm:¬(Go.Lib.index s [c]==-1)=true:=fun e=>by have:=beq_iff_eq.1 e;omega
   have e:(Go.Lib.index s [c]).toNat=i:=by omega
   rw[qf]at h3;have h3:=beq_iff_eq.1 h3;obtain⟨hi,hc⟩:=List.getElem?_eq_some_iff.1 h3
   have hs:s=s.take i++c::s.drop (i+1):=by
    rw[←hc,←List.drop_eq_getElem_cons hi,List.take_append_drop]
   have hf:c∉s.take i:=by
    intro hm;obtain⟨j,hj,ej⟩:=List.getElem_of_mem hm;rw[List.length_take]at hj;have h5:=h4 j (by omega);rw[qf]at h5;rw[List.getElem_take]at ej;rw[List.getElem?_eq_getElem (by omega),ej]at h5;simp at h5
   have hk:=Go.Lib.count_hit (by simp) h1;rw[h]at hk
   have hk2:Go.Lib.count (s.drop (i+1)) [c]=k:=by
    have:[c].length=1:=rfl;rw[this]at hk;omega
   rw[Go.Lib.splitK,if_neg hm,e]
   conv=>rhs;rw[hs]
   rw[iL c _ _ hf]
   show s.take (i+0)::Go.Lib.splitK [c] 0 k (s.drop (i+1))=_
   rw[mH c k _ hk2];rfl
def cV (c:UInt8) (s:ByteArray):List ByteArray:=(ga c s.data.toList).map ba
theorem jC (s:ByteArray):ba s.data.toList=s:=by
 apply ByteArray.ext;simp[ba]
theorem oa:∀l:List ByteArray,(l.map (·.data.toList)).map ba=l
 | []=>rfl
 | x::r=>by
  rw[List.map_cons,List.map_cons,oa r,jC]
theorem ob (c:UInt8) (s:ByteArray):Go.Lib.splitB ⟨#[c]⟩ 0 (Go.Lib.countB s ⟨#[c]⟩) s=cV c s:=by
 have h:=Go.Lib.splitB_data ⟨#[c]⟩ 0 (Go.Lib.countB s ⟨#[c]⟩) s;have h2:Go.Lib.splitK [c] 0 (Go.Lib.countB s ⟨#[c]⟩) s.data.toList=ga c s.data.toList:=mH c _ _ rfl;have h3:(Go.Lib.splitB ⟨#[c]⟩ 0 (Go.Lib.countB s ⟨#[c]⟩) s).map (·.data.toList)=ga c s.data.toList:=h.trans h2;rw[cV,←h3,oa]
theorem mJ (c:UInt8) (s:ByteArray) (hs:s.size<4294967281):strings_Split.f s ⟨#[c]⟩=some (cV c s):=by
 unfold strings_Split.f;rw[if_pos ⟨hs,rfl⟩,ob]
def glue (p:List UInt8):List (List UInt8)→List (List UInt8)
 | []=>[p]
 | h::t=>(p++h)::t
theorem ig (s:ByteArray) (f i:Nat):s.extract ((f:Int)).toNat ((i:Int)).toNat=ba ((s.data.toList.drop f).take (i-f)):=by
 rw[←Go.Lib.extract_data,jC,Int.toNat_natCast,Int.toNat_natCast]
theorem bt_nth (s:ByteArray) (i:Nat) (h:i<s.data.toList.length):bt s (i:Int)=((s.data.toList[i]).toNat:Int):=by
 have h':(i:Int).toNat<s.size:=by simpa using h
 unfold bt;rw[dif_pos h'];rfl
theorem gY (c:UInt8) (s:ByteArray) (hs:s.size≤40000000):∀(d k f i:Nat) (out:List ByteArray),f≤i→i≤s.size→s.size-i=d→out.length+d≤50000000→d+2≤k→bA.l0 k s (c.toNat:Int) out (f:Int) (i:Int)=some (out++(glue ((s.data.toList.drop f).take (i-f)) (ga c (s.data.toList.drop i))).map ba)
 | 0,k,f,i,out,h0,h1,h2,h3,h4=>by
  obtain⟨k,rfl⟩:∃m,k=m+1+1:=⟨k-2,by omega⟩;have hz:s.size=s.data.toList.length:=rfl;have hi:i=s.size:=by omega
  subst hi;rw[show s.data.toList.drop s.size=[]from List.drop_of_length_le (by omega)];simp only[bA.l0];rw[if_pos (Int.le_refl _),if_pos trivial,if_pos (by omega),if_pos (by omega),if_pos (by omega),Kit.dy s.size (by omega),if_neg (by omega),ig];simp[ga,glue]
 | d+1,k,f,i,out,h0,h1,h2,h3,h4=>by
  obtain⟨k,rfl⟩:∃m,k=m+1:=⟨k-1,by omega⟩;have hz:s.size=s.data.toList.length:=rfl;have hi:i<s.data.toList.length:=by omega
  have hd:(s.data.toList.drop f).take (i+1-f)=(s.data.toList.drop f).take (i-f)++[s.data.toList[i]]:=by
   rw[show i+1-f=(i-f)+1 by omega,List.take_add_one,List.getElem?_drop,show f+(i-f)=i by omega,List.getElem?_eq_getElem hi];rfl
  simp only[bA.l0];rw[if_pos (by omega),if_neg (by omega),if_pos (by omega),if_pos (by omega),bt_nth s i hi,List.drop_eq_getElem_cons hi,Kit.dy i (by omega)];by_cases hc:s.data.toList[i]=c
  ·rw[if_pos (by rw[hc]),if_pos (by omega),if_pos (by omega),if_pos (by omega),ig];rw[gY c s hs d k (i+1) (i+1) _ (Nat.le_refl _) (by omega) (by omega) (by simp;omega) (by omega)];rw[Nat.sub_self,List.take_zero,ga,if_pos hc];have hn:=ku c (s.data.toList.drop (i+1))
   cases h:ga c (s.data.toList.drop (i+1))with
   | nil=>exact absurd h hn
   | cons a t=>simp[glue]
  ·rw[if_neg (fun e=>hc (UInt8.toNat_inj.1 (by omega)))];rw[gY c s hs d k f (i+1) out (by omega) (by omega) (by omega) (by omega) (by omega),hd,ga,if_neg hc];have hn:=ku c (s.data.toList.drop (i+1))
   cases h:ga c (s.data.toList.drop (i+1))with
   | nil=>exact absurd h hn
   | cons a t=>simp[glue]
theorem mK (c:UInt8) (s:ByteArray) (hs:s.size≤40000000) (k:Nat) (hk:s.size+2≤k):bA.f k s (c.toNat:Int)=some (cV c s):=by
 unfold bA.f;have h:=gY c s hs s.size k 0 0 [] (Nat.le_refl _) (Nat.zero_le _) (by omega) (by simp;omega) hk;rw[show((0:Nat):Int)=0 from rfl]at h;rw[h];have hn:=ku c s.data.toList
 cases hc:ga c s.data.toList with
 | nil=>exact absurd hc hn
 | cons a t=>simp[glue,cV,hc]
theorem kQ (c:UInt8) (s:ByteArray):0<(cV c s).length:=by
 unfold cV;rw[List.length_map];exact List.length_pos_iff.2 (ku c _)
theorem nD (c:UInt8):∀l:List UInt8,(ga c l).length≤l.length+1∧∀w∈ga c l,w.length≤l.length
 | []=>by simp[ga]
 | b::r=>by
  obtain⟨h1,h2⟩:=nD c r;unfold ga
  split
  ·refine⟨by simp;omega,fun w hw=>?_⟩
   rcases List.mem_cons.1 hw with rfl|hw
   ·simp
   ·have:=h2 w hw;simp;omega
  ·cases h:ga c r with
   | nil=>exact absurd h (ku c r)
   | cons a t =>
    rw[h]at h1 h2;refine⟨by simp at h1 ⊢;omega,fun w hw=>?_⟩
    rcases List.mem_cons.1 hw with rfl|hw
    ·have:=h2 a (by simp);simp;omega
    ·have:=h2 w (List.mem_cons_of_mem _ hw);simp;omega
theorem iV (c:UInt8) (s:ByteArray):(cV c s).length≤s.size+1∧∀w∈cV c s,w.size≤s.size:=by
 obtain⟨h1,h2⟩:=nD c s.data.toList;refine⟨by unfold cV;rw[List.length_map];exact h1,fun w hw=>?_⟩;obtain⟨l,hl,rfl⟩:=List.mem_map.1 hw;exact h2 l hl
theorem impl_fi (op a b c d:Int) (nm:ByteArray) (a0: -9223372036854775808≤a) (a1:a≤9223372036854775807) (b0: -9223372036854775808≤b) (b1:b≤9223372036854775807) (c0: -9223372036854775808≤c) (c1:c≤9223372036854775807) (d0: -9223372036854775808≤d) (d1:d≤9223372036854775807)
  (hn:nm.size≤2000000) (k:Nat) (hk:nm.size+40<k):bh.f k op a b c d nm=some (lM op a b c d nm):=by
 unfold bh.f;rw[j4 op a b c d nm (by omega) _ (by omega)];simp only[dn];cases hv:eT op a b c d nm
 ·rw[if_neg (by decide)];unfold lM;rw[hv,if_neg (by decide)]
 ·rw[if_pos rfl,mD op a b c d nm hv a0 a1 b0 b1 c0 c1 d0 d1 hn];rfl
theorem lq {x y:ByteArray}:x.toList=y.toList↔x=y:=by
 rw[Go.ByteArray.toList_eq,Go.ByteArray.toList_eq];constructor
 ·intro h;rw[←jC x,←jC y,h]
 ·intro h;rw[h]
theorem gZ {x:ByteArray}:x.toList=[]↔x=⟨#[]⟩:=by
 have e:(⟨#[]⟩:ByteArray).toList=[]:=by rw[Go.ByteArray.toList_eq]
 constructor
 ·intro h;exact lq.1 (h.trans e.symm)
 ·intro h;rw[h,e]
abbrev R7:=Int×Int×Int×Int×Int×ByteArray×Bool
def z7:R7:=(0,0,0,0,0,(⟨#[]⟩:ByteArray),false)
def fA (n:Int):Prop:=-9223372036854775808≤n∧n≤9223372036854775807
def hF (s:ByteArray) (op a b c d:Int) (nm:ByteArray):Prop:=eT op a b c d nm=true∧lM op a b c d nm=s
def mL (s:ByteArray) (op a b c d:Int) (nm:ByteArray):R7:=if eT op a b c d nm=true then(if (lM op a b c d nm).toList=s.toList then(op,a,b,c,d,nm,true)else z7)else z7
theorem fM {s:ByteArray} {op a b c d:Int} {nm:ByteArray} (h:hF s op a b c d nm):mL s op a b c d nm=(op,a,b,c,d,nm,true):=by
 unfold mL;rw[if_pos h.1,h.2,if_pos rfl]
theorem jm {s:ByteArray} {op a b c d:Int} {nm:ByteArray} (h:¬hF s op a b c d nm):mL s op a b c d nm=z7:=by
 unfold mL;by_cases c1:eT op a b c d nm=true
 ·rw[if_pos c1];by_cases c2:(lM op a b c d nm).toList=s.toList
  ·exact absurd ⟨c1,lq.1 c2⟩ h
  ·rw[if_neg c2]
 ·rw[if_neg c1]
theorem ij (s:ByteArray) (op a b c d:Int) (nm:ByteArray) (ha:fA a) (hb:fA b) (hc:fA c) (hd:fA d) (hn:nm.size≤2000000) (k:Nat) (hk:nm.size+42<k):aC.j1 k s op a b c d nm=some (mL s op a b c d nm):=by
 obtain⟨k,rfl⟩:∃m,k=m+1:=⟨k-1,by omega⟩;simp only[aC.j1];rw[j3 op a b c d nm (by omega) _ (by omega),nX op a b c d nm ha.1 ha.2 hb.1 hb.2 hc.1 hc.2 hd.1 hd.2 hn _ (by omega)];unfold mL z7;simp only[dn];by_cases c1:eT op a b c d nm=true
 ·rw[if_pos c1,if_pos c1];by_cases c2:(lM op a b c d nm).toList=s.toList
  ·rw[if_pos c2,if_pos c2]
  ·rw[if_neg c2,if_neg c2]
 ·rw[if_neg c1,if_neg c1]
def pI (w:ByteArray):Int×Bool:=if 1≤w.size∧w.size≤13 then qL w (Go.Lib.decFrom 0 w.data.toList)else(0,false)
theorem pI_bd (w:ByteArray):0≤(pI w).1∧(pI w).1≤1000000000000:=by
 unfold pI
 split
 ·cases Go.Lib.decFrom 0 w.data.toList with
  | none =>
   show(0:Int)≤0∧(0:Int)≤1000000000000
   omega
  | some n =>
   unfold qL;dsimp only;by_cases c:(n:Int)>1000000000000
   ·rw[if_pos c];decide
   ·rw[if_neg c]
    split
    ·exact⟨by show(0:Int)≤(n:Int);omega,by show(n:Int)≤_;omega⟩
    ·decide
 ·decide
theorem pI_num (n:Nat) (hn:n≤1000000000000):pI (ba (Go.Lib.itoa (n:Int)))=((n:Int),true):=by
 have hc:canon (ba (Go.Lib.itoa (n:Int))) n:=⟨hn,by rw[Go.Lib.itoa_nonneg];rfl⟩;have h1:=rP _ n hc 200 (by omega);rw[j7 _ 200 (by omega)]at h1;exact Option.some.inj h1
def num (l:List ByteArray) (i:Nat):Int:=if i<l.length then(if (pI (l.getD i ByteArray.empty)).2=true then(pI (l.getD i ByteArray.empty)).1 else -1)else -1
theorem eu (l:List ByteArray) (i:Nat):fA (num l i):=by
 have:=pI_bd (l.getD i ByteArray.empty);unfold num fA
 split
 ·split<;>omega
 ·omega
theorem jD (l:List ByteArray) (i:Nat) (h:l.length≤i):num l i= -1:=by
 unfold num;rw[if_neg (by omega)]
theorem eZ (l:List ByteArray) (i:Nat) (n:Int) (h:l[i]? =some (ba (Go.Lib.itoa n))) (h0:0≤n) (h1:n≤1000000000000):num l i=n:=by
 obtain⟨m,rfl⟩:=Int.eq_ofNat_of_zero_le h0;have hp:=pI_num m (by omega);unfold num;rw[if_pos (List.getElem?_eq_some_iff.1 h).1,List.getD_eq_getElem?_getD,h,Option.getD_some,hp,if_pos rfl]
theorem jo (l:List ByteArray) (i:Nat) (k:Nat) (hk:100<k):bf.f k l (i:Int)=some (num l i):=by
 unfold bf.f num;by_cases c:i<l.length
 ·rw[if_neg (by omega),if_pos (by omega),if_pos (by omega),if_pos c,j7 _ k hk];simp only[dn]
  have e:dM ByteArray.empty l (i:Int)=l.getD i ByteArray.empty:=by
   unfold dM;rw[Int.toNat_natCast]
  rw[e]
  show(if (pI (l.getD i ByteArray.empty)).2=true then some (pI (l.getD i ByteArray.empty)).1 else some (-1))=_
  split<;>rfl
 ·rw[if_pos (by omega),if_neg c]
def opL:Nat→Nat→ByteArray→Int
 | 0,_,_=>0
 | d+1,i,w=>if (fN (i:Int)).data.toList=w.data.toList then(i:Int)else opL d (i+1) w
def opW (w:ByteArray):Int:=opL 10 1 w
theorem kv (w:ByteArray):∀d k i:Nat,i+d=11→d<k→cx.l0 k w (i:Int)=some (opL d i w)
 | 0,k,i,h,hk=>by
  obtain⟨k,rfl⟩:∃m,k=m+1:=⟨k-1,by omega⟩;simp only[cx.l0];rw[if_neg (by omega)];rfl
 | d+1,k,i,h,hk=>by
  obtain⟨k,rfl⟩:∃m,k=m+1:=⟨k-1,by omega⟩;simp only[cx.l0];rw[if_pos (by omega),pZ];simp only[dn];rw[Go.ByteArray.toList_eq,Go.ByteArray.toList_eq,Kit.dy i (by omega),kv w d k (i+1) (by omega) (by omega),opL]
  split<;>rfl
theorem rQ (w:ByteArray) (k:Nat) (hk:10<k):cx.f k w=some (opW w):=kv w 10 k 1 rfl hk
theorem opW_opn (op:Int) (h0:1≤op) (h1:op≤10):opW (fN op)=op:=by
 obtain⟨n,rfl⟩:=Int.eq_ofNat_of_zero_le (show 0≤op by omega);have h:∀m:Fin 11,1≤m.val→opW (fN (m.val:Int))=(m.val:Int):=by decide +kernel
 exact h ⟨n,by omega⟩ (by show 1≤n;omega)
def jQ (s:ByteArray) (l:List ByteArray) (op:Int):R7 :=
 if op=4∨op=10 then mL s op (num l 1) 0 0 0 ⟨#[]⟩
 else if op=5 then mL s op (num l 1) (num l 2) (num l 3) 0 ⟨#[]⟩
 else if op=6 then mL s op (num l 1) (num l 2) (num l 4) (num l 5) (if 3<l.length then l.getD 3 ByteArray.empty else⟨#[]⟩)
 else if op=7 then mL s op (num l 1) 0 (num l 3) (num l 4) (if 2<l.length then l.getD 2 ByteArray.empty else⟨#[]⟩)
 else mL s op (num l 1) (num l 2) 0 0 ⟨#[]⟩
theorem jR:fA 0:=by unfold fA;omega
theorem nE (l:List ByteArray) (N:Nat) (h:∀w∈l,w.size≤N) (i:Nat):(l.getD i ByteArray.empty).size≤N:=by
 rw[List.getD_eq_getElem?_getD]
 cases hi:l[i]? with
 | none=>exact Nat.zero_le _
 | some x=>exact h x (List.mem_of_getElem? hi)
theorem qg (s:ByteArray) (l:List ByteArray) (op:Int) (hl:∀w∈l,w.size≤1048576) (q:Bool) (hq:q=decide (op=4∨op=10)) (k:Nat) (hk:2000000<k):aC.j0 k s l op q op (num l 1) 0 0 0 ⟨#[]⟩=some (jQ s l op):=by
 obtain⟨k,rfl⟩:∃m,k=m+1:=⟨k-1,by omega⟩;have z0:(⟨#[]⟩:ByteArray).size=0:=rfl;subst hq;simp only[aC.j0];unfold jQ;by_cases c4:op=4∨op=10
 ·rw[if_pos c4,decide_eq_true c4,if_pos rfl,ij s op _ 0 0 0 _ (eu _ _) jR jR jR (by omega) _ (by omega)]
 rw[if_neg c4,decide_eq_false c4,if_neg (by decide)];have n2:bf.f k l 2=some (num l 2):=jo l 2 k (by omega);have n3:bf.f k l 3=some (num l 3):=jo l 3 k (by omega);have n4:bf.f k l 4=some (num l 4):=jo l 4 k (by omega);have n5:bf.f k l 5=some (num l 5):=jo l 5 k (by omega);have w3:=nE l _ hl 3;have w2:=nE l _ hl 2;rw[n2,n3,n4,n5];simp only[dn];by_cases c5:op=5
 ·rw[if_pos c5,if_pos c5,ij s op _ _ _ 0 _ (eu _ _) (eu _ _) (eu _ _) jR (by omega) _ (by omega)]
 rw[if_neg c5,if_neg c5];by_cases c6:op=6
 ·rw[if_pos c6,if_pos c6];by_cases cl:3<l.length
  ·rw[if_pos (by omega),if_pos (by omega),if_pos cl];exact ij s op _ _ _ _ _ (eu _ _) (eu _ _) (eu _ _) (eu _ _) (by show(l.getD 3 ByteArray.empty).size≤_;omega) _ (by show(l.getD 3 ByteArray.empty).size+42< _;omega)
  ·rw[if_neg (by omega),if_neg cl];exact ij s op _ _ _ _ _ (eu _ _) (eu _ _) (eu _ _) (eu _ _) (by omega) _ (by omega)
 rw[if_neg c6,if_neg c6];by_cases c7:op=7
 ·rw[if_pos c7,if_pos c7];by_cases cl:2<l.length
  ·rw[if_pos (by omega),if_pos (by omega),if_pos cl];exact ij s op _ _ _ _ _ (eu _ _) jR (eu _ _) (eu _ _) (by show(l.getD 2 ByteArray.empty).size≤_;omega) _ (by show(l.getD 2 ByteArray.empty).size+42< _;omega)
  ·rw[if_neg (by omega),if_neg cl];exact ij s op _ _ _ _ _ (eu _ _) jR (eu _ _) (eu _ _) (by omega) _ (by omega)
 rw[if_neg c7,if_neg c7,ij s op _ _ 0 0 _ (eu _ _) (eu _ _) jR jR (by omega) _ (by omega)]
theorem oc (s:ByteArray) (hs:s.size≤1048576) (k:Nat) (hk:2000000<k):aC.f k s=some (jQ s (cV 32 s) (opW ((cV 32 s).getD 0 ByteArray.empty))):=by
 obtain⟨l,hl⟩:∃l,l=cV 32 s:=⟨_,rfl⟩;have hp:=kQ 32 s;have hz:=(iV 32 s).2;have h1:=mK 32 s (by omega) k (by omega);rw[←hl]at hp hz h1 ⊢;have n1:=jo l 1 k (by omega);have e:dM ByteArray.empty l 0=l.getD 0 ByteArray.empty:=rfl;unfold aC.f;rw[show(32:Int)=((32:UInt8).toNat:Int)from rfl,h1];simp only[dn];rw[if_pos (by omega),e,rQ _ k (by omega)];simp only[dn];rw[show(1:Int)=((1:Nat):Int)from rfl,n1];simp only[dn];obtain⟨op,ho⟩:∃o,o=opW (l.getD 0 ByteArray.empty):=⟨_,rfl⟩;rw[←ho];have hl':∀w∈l,w.size≤1048576:=fun w hw=>by have:=hz w hw;omega
 by_cases c:op=4
 ·rw[if_pos c,qg s l op hl' _ (by rw[c];rfl) k hk]
 ·rw[if_neg c];refine qg s l op hl' _ ?_ k hk;by_cases fp:op=10
  ·rw[fp];rfl
  ·rw[decide_eq_false (by omega)];exact beq_eq_false_iff_ne.mpr fp
theorem lN (u:Nat):∀b∈Go.Lib.decDigits u,48≤b.toNat∧b.toNat≤57:=by
 induction u using Nat.strongRecOn with
 | _ u ih =>
  intro b hb;rw[Go.Lib.decDigits]at hb;by_cases c:u<10
  ·rw[dif_pos c]at hb;have e:=List.mem_singleton.1 hb;rw[e,UInt8.toNat_ofNat'];omega
  ·rw[dif_neg c]at hb
   rcases List.mem_append.1 hb with hb|hb
   ·exact ih (u / 10) (by omega) b hb
   ·have e:=List.mem_singleton.1 hb;rw[e,UInt8.toNat_ofNat'];omega
theorem qM (n:Int):(32:UInt8)∉Go.Lib.itoa n:=by
 intro h;unfold Go.Lib.itoa at h
 split at h
 ·rcases List.mem_cons.1 h with h|h
  ·exact absurd h (by decide)
  ·exact absurd (lN _ _ h).1 (by decide)
 ·exact absurd (lN _ _ h).1 (by decide)
theorem op_free (op:Int):(32:UInt8)∉(fN op).data.toList:=by
 unfold fN
 split
 ·rename_i h
  obtain⟨n,hn⟩:∃n:Nat,op.toNat=n:=⟨_,rfl⟩;rw[hn];have h1:n≤10:=by omega
  have:∀m:Fin 11,(32:UInt8)∉(b7.o0.getD m.val ⟨#[]⟩).data.toList:=by decide +kernel
  exact this ⟨n,by omega⟩
 ·simp
theorem mM {nm:ByteArray} (h:dV nm=true):∀b∈nm.data.toList,97≤b.toNat∧b.toNat≤122:=by
 intro b hb;unfold dV at h;have h2:=List.all_eq_true.1 (Bool.and_eq_true_iff.1 h).2 b hb
 simpa [qF] using h2
theorem kx {nm:ByteArray} (h:dV nm=true):1≤nm.data.toList.length∧nm.data.toList.length≤6:=by
 unfold dV at h;have h1:=(Bool.and_eq_true_iff.1 h).1;simp only[mq,Bool.and_eq_true,decide_eq_true_eq]at h1;have hz:nm.size=nm.data.toList.length:=rfl;omega
theorem nF {nm:ByteArray} (h:dV nm=true):(32:UInt8)∉nm.data.toList:=fun hb=>absurd (mM h _ hb).1 (by decide)
theorem gD {c d:Int} (h:jP c d=true):(c= -1∧d= -1)∨((0≤c∧c≤7)∧(d= -1∨(0≤d∧d≤7))):=by
 unfold jP at h
 split at h
 ·rename_i hc
  exact .inl ⟨hc,by simpa using h⟩
 ·simp only[ft,mq,Bool.and_eq_true,Bool.or_eq_true,beq_iff_eq,decide_eq_true_eq]at h;exact .inr h
theorem gE {op a b c d:Int} {nm:ByteArray} (h:eT op a b c d nm=true):(1≤op∧op≤10)∧(0≤a∧a≤7) ∧
  (((op=4∨op=10)∧b=0∧c=0∧d=0∧nm=⟨#[]⟩)∨(op=5∧(0≤b∧b≤7)∧(0≤c∧c≤7)∧d=0∧nm=⟨#[]⟩)∨(op=6∧(0≤b∧b≤7)∧jP c d=true∧dV nm=true)∨(op=7∧b=0∧jP c d=true∧dV nm=true)∨((op≠4∧op≠10∧op≠5∧op≠6∧op≠7)∧(0≤b∧b≤999999)∧c=0∧d=0∧nm=⟨#[]⟩)):=by
 unfold eT at h;by_cases c1:op=1
 ·rw[if_pos c1]at h;simp only[ft,mq,eR,Bool.and_eq_true,beq_iff_eq,decide_eq_true_eq]at h;obtain⟨⟨hc,hd,hn⟩,ha,hb⟩:=h;exact⟨by omega,ha,.inr (.inr (.inr (.inr ⟨by omega,by omega,hc,hd,gZ.1 hn⟩)))⟩
 rw[if_neg c1]at h;by_cases c2:op=2
 ·rw[if_pos c2]at h;simp only[ft,mq,eR,Bool.and_eq_true,beq_iff_eq,decide_eq_true_eq]at h;obtain⟨⟨hc,hd,hn⟩,ha,hb⟩:=h;exact⟨by omega,ha,.inr (.inr (.inr (.inr ⟨by omega,by omega,hc,hd,gZ.1 hn⟩)))⟩
 rw[if_neg c2]at h;by_cases c3:op=3
 ·rw[if_pos c3]at h;simp only[ft,mq,eR,Bool.and_eq_true,beq_iff_eq,decide_eq_true_eq]at h;obtain⟨⟨hc,hd,hn⟩,ha,hb⟩:=h;exact⟨by omega,ha,.inr (.inr (.inr (.inr ⟨by omega,by omega,hc,hd,gZ.1 hn⟩)))⟩
 rw[if_neg c3]at h;by_cases c4:op=4∨op=10
 ·rw[if_pos c4]at h;simp only[ft,mq,eR,Bool.and_eq_true,beq_iff_eq,decide_eq_true_eq]at h;obtain⟨⟨hc,hd,hn⟩,ha,hb⟩:=h;exact⟨by omega,ha,.inl ⟨c4,hb,hc,hd,gZ.1 hn⟩⟩
 rw[if_neg c4]at h;by_cases c5:op=5
 ·rw[if_pos c5]at h;simp only[ft,mq,eR,Bool.and_eq_true,beq_iff_eq,decide_eq_true_eq]at h;obtain⟨⟨hd,hn⟩,ha,hb,hc⟩:=h;exact⟨by omega,ha,.inr (.inl ⟨c5,hb,hc,hd,gZ.1 hn⟩)⟩
 rw[if_neg c5]at h;by_cases c6:op=6
 ·rw[if_pos c6]at h;simp only[ft,mq,Bool.and_eq_true,decide_eq_true_eq]at h;obtain⟨ha,hb,hp,hn⟩:=h;exact⟨by omega,ha,.inr (.inr (.inl ⟨c6,hb,hp,hn⟩))⟩
 rw[if_neg c6]at h;by_cases c7:op=7
 ·rw[if_pos c7]at h;simp only[ft,mq,Bool.and_eq_true,beq_iff_eq,decide_eq_true_eq]at h;obtain⟨ha,hb,hp,hn⟩:=h;exact⟨by omega,ha,.inr (.inr (.inr (.inl ⟨c7,hb,hp,hn⟩)))⟩
 rw[if_neg c7]at h;by_cases c8:op=8
 ·rw[if_pos c8]at h;simp only[ft,mq,eR,Bool.and_eq_true,beq_iff_eq,decide_eq_true_eq]at h;obtain⟨⟨hc,hd,hn⟩,ha,hb⟩:=h;exact⟨by omega,by omega,.inr (.inr (.inr (.inr ⟨by omega,by omega,hc,hd,gZ.1 hn⟩)))⟩
 rw[if_neg c8]at h;by_cases c9:op=9
 ·rw[if_pos c9]at h;simp only[ft,mq,eR,Bool.and_eq_true,beq_iff_eq,decide_eq_true_eq]at h;obtain⟨⟨hc,hd,hn⟩,ha,hb⟩:=h;exact⟨by omega,by omega,.inr (.inr (.inr (.inr ⟨by omega,by omega,hc,hd,gZ.1 hn⟩)))⟩
 rw[if_neg c9]at h;exact absurd h (by decide)
theorem W_free {op a b c d:Int} {nm:ByteArray} (h:eT op a b c d nm=true):∀w∈ag.W (fN op) op a b c d nm,(32:UInt8)∉w.data.toList:=by
 have hS:∀(l:List Int),∀w∈l.map ak.S,(32:UInt8)∉w.data.toList:=by
  intro l w hw;obtain⟨n,_,rfl⟩:=List.mem_map.1 hw;exact qM n
 have hO:∀w∈[fN op],(32:UInt8)∉w.data.toList:=by
  intro w hw;rw[List.mem_singleton.1 hw];exact op_free op
 have hN:(op=6∨op=7)→∀w∈[nm],(32:UInt8)∉w.data.toList:=by
  intro ho w hw;rw[List.mem_singleton.1 hw]
  rcases(gE h).2.2 with x|x|x|x|x
  ·omega
  ·omega
  ·exact nF x.2.2.2
  ·exact nF x.2.2.2
  ·omega
 unfold ag.W;intro w hw
 split at hw
 ·rcases List.mem_append.1 hw with hw|hw
  ·exact hO w hw
  ·exact hS _ w hw
 split at hw
 ·rcases List.mem_append.1 hw with hw|hw
  ·exact hO w hw
  ·exact hS _ w hw
 split at hw
 ·rename_i h6
  rcases List.mem_append.1 hw with hw|hw
  ·rcases List.mem_append.1 hw with hw|hw
   ·rcases List.mem_append.1 hw with hw|hw
    ·exact hO w hw
    ·exact hS _ w hw
   ·exact hN (.inl h6) w hw
  ·exact hS _ w hw
 split at hw
 ·rename_i h7
  rcases List.mem_append.1 hw with hw|hw
  ·rcases List.mem_append.1 hw with hw|hw
   ·rcases List.mem_append.1 hw with hw|hw
    ·exact hO w hw
    ·exact hS _ w hw
   ·exact hN (.inr h7) w hw
  ·exact hS _ w hw
 ·rcases List.mem_append.1 hw with hw|hw
  ·exact hO w hw
  ·exact hS _ w hw
theorem mN (o:ByteArray) (op a b c d:Int) (nm:ByteArray):∃x r,ag.W o op a b c d nm=o::x::r:=by
 unfold ag.W
 split
 ·exact⟨_,_,rfl⟩
 split
 ·exact⟨_,_,rfl⟩
 split
 ·exact⟨_,_,rfl⟩
 split
 ·exact⟨_,_,rfl⟩
 ·exact⟨_,_,rfl⟩
theorem gG {s:ByteArray} {op a b c d:Int} {nm:ByteArray} (h:hF s op a b c d nm):cV 32 s=ag.W (fN op) op a b c d nm:=by
 have hs:s=strings_Join.J (ag.W (fN op) op a b c d nm):=by
  rw[J_W,←h.2];unfold lM;rw[if_pos h.1]
 have hd:s.data.toList=Go.Lib.join ((ag.W (fN op) op a b c d nm).map (·.data.toList)) [32]:=by
  rw[hs];rfl
 obtain⟨x,r,hx⟩:=mN (fN op) op a b c d nm;unfold cV
 rw[hd,nC 32 _ (by rw[hx];simp) (fun w hw=>by
  obtain⟨v,hv,rfl⟩:=List.mem_map.1 hw;exact W_free h.1 v hv),oa]
theorem qh {s:ByteArray} {op a b c d:Int} {nm:ByteArray} (h:hF s op a b c d nm):s.toList≠[]:=by
 intro e;have hw:=gG h;obtain⟨x,r,hx⟩:=mN (fN op) op a b c d nm;rw[gZ.1 e,hx]at hw;have:=congrArg List.length hw;simp[cV,ga]at this
theorem oN (n:Int):ak.S n=ba (Go.Lib.itoa n):=rfl
theorem mO {s:ByteArray} {op a b c d:Int} {nm:ByteArray} (h:hF s op a b c d nm):jQ s (cV 32 s) (opW ((cV 32 s).getD 0 ByteArray.empty))=(op,a,b,c,d,nm,true):=by
 obtain⟨ho,ha,hf⟩:=gE h.1
 have h0:opW ((cV 32 s).getD 0 ByteArray.empty)=op:=by
  obtain⟨x,r,hx⟩:=mN (fN op) op a b c d nm;rw[gG h,hx];exact opW_opn op ho.1 ho.2
 rw[h0,gG h]
 rcases hf with ⟨h1,rfl,rfl,rfl,rfl⟩|⟨rfl,hb,hc,rfl,rfl⟩|⟨rfl,hb,hp,hn⟩|⟨rfl,rfl,hp,hn⟩|⟨h1,hb,rfl,rfl,rfl⟩
 ·have e:ag.W (fN op) op a 0 0 0 ⟨#[]⟩=[fN op,ba (Go.Lib.itoa a)]:=by
   unfold ag.W;rw[if_pos h1];rfl
  unfold jQ;rw[e,if_pos h1,eZ _ 1 a rfl ha.1 (by omega)];exact fM h
 ·have e:ag.W (fN 5) 5 a b c 0 ⟨#[]⟩=[fN 5,ba (Go.Lib.itoa a),ba (Go.Lib.itoa b),ba (Go.Lib.itoa c)]:=rfl;unfold jQ;rw[e,if_neg (by omega),if_pos rfl,eZ _ 1 a rfl ha.1 (by omega),eZ _ 2 b rfl hb.1 (by omega),eZ _ 3 c rfl hc.1 (by omega)];exact fM h
 ·have e:ag.W (fN 6) 6 a b c d nm=[fN 6,ba (Go.Lib.itoa a),ba (Go.Lib.itoa b),nm]++(bp.L c d).map ak.S:=rfl;unfold jQ
  rcases gD hp with ⟨rfl,rfl⟩|⟨hc,hd⟩
  ·have e2:[fN 6,ba (Go.Lib.itoa a),ba (Go.Lib.itoa b),nm]++(bp.L (-1) (-1)).map ak.S=[fN 6,ba (Go.Lib.itoa a),ba (Go.Lib.itoa b),nm]:=rfl;rw[e,e2,if_neg (by omega),if_neg (by omega),if_pos rfl,eZ _ 1 a rfl ha.1 (by omega),eZ _ 2 b rfl hb.1 (by omega),jD _ 4 (by simp),jD _ 5 (by simp),if_pos (by simp)];exact fM h
  ·have hcb:(c==-1)=false:=beq_eq_false_iff_ne.mpr (by omega)
   rcases hd with rfl|hd
   ·have e2:[fN 6,ba (Go.Lib.itoa a),ba (Go.Lib.itoa b),nm]++(bp.L c (-1)).map ak.S=[fN 6,ba (Go.Lib.itoa a),ba (Go.Lib.itoa b),nm,ba (Go.Lib.itoa c)]:=by
     simp[bp.L,List.filter_cons,hcb,oN]
    rw[e,e2,if_neg (by omega),if_neg (by omega),if_pos rfl,eZ _ 1 a rfl ha.1 (by omega),eZ _ 2 b rfl hb.1 (by omega),eZ _ 4 c rfl hc.1 (by omega),jD _ 5 (by simp),if_pos (by simp)];exact fM h
   ·have hdb:(d==-1)=false:=beq_eq_false_iff_ne.mpr (by omega)
    have e2:[fN 6,ba (Go.Lib.itoa a),ba (Go.Lib.itoa b),nm]++(bp.L c d).map ak.S=[fN 6,ba (Go.Lib.itoa a),ba (Go.Lib.itoa b),nm,ba (Go.Lib.itoa c),ba (Go.Lib.itoa d)]:=by
     simp[bp.L,List.filter_cons,hcb,hdb,oN]
    rw[e,e2,if_neg (by omega),if_neg (by omega),if_pos rfl,eZ _ 1 a rfl ha.1 (by omega),eZ _ 2 b rfl hb.1 (by omega),eZ _ 4 c rfl hc.1 (by omega),eZ _ 5 d rfl hd.1 (by omega),if_pos (by simp)];exact fM h
 ·have e:ag.W (fN 7) 7 a 0 c d nm=[fN 7,ba (Go.Lib.itoa a),nm]++(bp.L c d).map ak.S:=rfl;unfold jQ
  rcases gD hp with ⟨rfl,rfl⟩|⟨hc,hd⟩
  ·have e2:[fN 7,ba (Go.Lib.itoa a),nm]++(bp.L (-1) (-1)).map ak.S=[fN 7,ba (Go.Lib.itoa a),nm]:=rfl;rw[e,e2,if_neg (by omega),if_neg (by omega),if_neg (by omega),if_pos rfl,eZ _ 1 a rfl ha.1 (by omega),jD _ 3 (by simp),jD _ 4 (by simp),if_pos (by simp)];exact fM h
  ·have hcb:(c==-1)=false:=beq_eq_false_iff_ne.mpr (by omega)
   rcases hd with rfl|hd
   ·have e2:[fN 7,ba (Go.Lib.itoa a),nm]++(bp.L c (-1)).map ak.S=[fN 7,ba (Go.Lib.itoa a),nm,ba (Go.Lib.itoa c)]:=by
     simp[bp.L,List.filter_cons,hcb,oN]
    rw[e,e2,if_neg (by omega),if_neg (by omega),if_neg (by omega),if_pos rfl,eZ _ 1 a rfl ha.1 (by omega),eZ _ 3 c rfl hc.1 (by omega),jD _ 4 (by simp),if_pos (by simp)];exact fM h
   ·have hdb:(d==-1)=false:=beq_eq_false_iff_ne.mpr (by omega)
    have e2:[fN 7,ba (Go.Lib.itoa a),nm]++(bp.L c d).map ak.S=[fN 7,ba (Go.Lib.itoa a),nm,ba (Go.Lib.itoa c),ba (Go.Lib.itoa d)]:=by
     simp[bp.L,List.filter_cons,hcb,hdb,oN]
    rw[e,e2,if_neg (by omega),if_neg (by omega),if_neg (by omega),if_pos rfl,eZ _ 1 a rfl ha.1 (by omega),eZ _ 3 c rfl hc.1 (by omega),eZ _ 4 d rfl hd.1 (by omega),if_pos (by simp)];exact fM h
 ·have e:ag.W (fN op) op a b 0 0 ⟨#[]⟩=[fN op,ba (Go.Lib.itoa a),ba (Go.Lib.itoa b)]:=by
   unfold ag.W;rw[if_neg (by omega),if_neg (by omega),if_neg (by omega),if_neg (by omega)];rfl
  unfold jQ;rw[e,if_neg (by omega),if_neg (by omega),if_neg (by omega),if_neg (by omega),eZ _ 1 a rfl ha.1 (by omega),eZ _ 2 b rfl hb.1 (by omega)];exact fM h
def ixL:Nat→Nat→ByteArray→Int
 | 0,_,_=>-1
 | d+1,i,w=>if w.data.toList=(b7.o0.getD i ByteArray.empty).data.toList then(i:Int)else ixL d (i+1) w
def ixW (w:ByteArray):Int:=ixL 11 0 w
theorem ky (w:ByteArray):∀d k i:Nat,i+d=11→d<k→aM.l0 k b7.o0 w 11 (i:Int)=some (ixL d i w)
 | 0,k,i,h,hk=>by
  obtain⟨k,rfl⟩:∃m,k=m+1:=⟨k-1,by omega⟩;simp only[aM.l0];rw[if_neg (by omega)];rfl
 | d+1,k,i,h,hk=>by
  obtain⟨k,rfl⟩:∃m,k=m+1:=⟨k-1,by omega⟩
  have e:dM ByteArray.empty b7.o0 (i:Int)=b7.o0.getD i ByteArray.empty:=by
   unfold dM;rw[Int.toNat_natCast]
  simp only[aM.l0];rw[if_pos (by omega),if_pos (by omega),if_pos (by show(i:Int)<11;omega),e,Go.ByteArray.toList_eq,Go.ByteArray.toList_eq,Kit.dy i (by omega),ky w d k (i+1) (by omega) (by omega),ixL]
  split<;>rfl
theorem impl_ix (w:ByteArray) (k:Nat) (hk:11<k):aM.f k b7.o0 w=some (ixW w):=ky w 11 k 0 rfl hk
theorem ixW_opn (op:Int) (h0:1≤op) (h1:op≤10):ixW (fN op)=op:=by
 obtain⟨n,rfl⟩:=Int.eq_ofNat_of_zero_le (show 0≤op by omega);have h:∀m:Fin 11,1≤m.val→ixW (fN (m.val:Int))=(m.val:Int):=by decide +kernel
 exact h ⟨n,by omega⟩ (by show 1≤n;omega)
theorem rR (n:Int) (h0:0≤n) (h1:n≤1000000000000):Go.Lib.atoiAll (ba (Go.Lib.itoa n)).data.toList=.ok n:=by
 obtain⟨m,rfl⟩:=Int.eq_ofNat_of_zero_le h0;exact pt _ m ⟨by omega,by rw[Go.Lib.itoa_nonneg];rfl⟩
def okAtoi : Go.Lib.NumEnd Int → Bool
  | .ok _ => true
  | _ => false
theorem qN {nm : ByteArray} (h : dV nm = true) : okAtoi (Go.Lib.atoiAll nm.data.toList) = false := by
 have hl:=kx h;have hm:=mM h;rw[Go.Lib.atoiAll_short _ (by omega)]
 cases hs:nm.data.toList with
 | nil =>
  rw[hs]at hl;exact absurd hl.1 (by decide)
 | cons c r =>
  have hc:=hm c (by rw[hs];exact List.mem_cons_self ..)
  have h45:(c==45)=false:=by
   apply beq_eq_false_iff_ne.2;rintro rfl;exact absurd hc.1 (by decide)
  have h43:(c==43)=false:=by
   apply beq_eq_false_iff_ne.2;rintro rfl;exact absurd hc.1 (by decide)
  have hd:Go.Lib.digitVal c=none:=by
   unfold Go.Lib.digitVal;rw[if_neg (by omega)]
  unfold Go.Lib.atoi Go.Lib.decNat;dsimp only;rw[h45,h43];simp only[Bool.false_eq_true,if_false,List.isEmpty_cons,Go.Lib.decFrom,hd];rfl
theorem ik (fs:List Nat) (r:List ByteArray) (kk:Nat) (a b c d:Int) (nm:ByteArray) (n:Int) (h0:0≤n) (h1:n≤1000000000000) (hk:kk<fs.length) (q:Int×Int×Int×Int) (hq:ab.put (fs.getD kk 0) n a b c d=q) :
  ab.l fs (ba (Go.Lib.itoa n)::r) kk a b c d nm=ab.l fs r (kk+1) q.1 q.2.1 q.2.2.1 q.2.2.2 nm:=by
 simp only[ab.l];rw[rR n h0 h1];dsimp only;rw[if_neg (by omega),hq]
theorem rS (fs:List Nat) (r:List ByteArray) (kk:Nat) (a b c d:Int) (x:ByteArray) (h:dV x=true):ab.l fs (x::r) kk a b c d ⟨#[]⟩=ab.l fs r kk a b c d x:=by
 simp only[ab.l]
 have e := qN h
 cases ha : Go.Lib.atoiAll x.data.toList with
 | ok v =>
   rw [ha] at e
   exact absurd e (by simp [okAtoi])
 | _ =>
   dsimp only
   rw [if_pos (gZ.2 rfl)]
theorem put_i64 (j:Nat) (n a b c d:Int) (hn:fA n) (ha:fA a) (hb:fA b) (hc:fA c) (hd:fA d):fA (ab.put j n a b c d).1∧fA (ab.put j n a b c d).2.1∧fA (ab.put j n a b c d).2.2.1∧fA (ab.put j n a b c d).2.2.2:=by
 unfold ab.put
 split
 ·exact⟨hn,hb,hc,hd⟩
 split
 ·exact⟨ha,hn,hc,hd⟩
 split
 ·exact⟨ha,hb,hn,hd⟩
 ·exact⟨ha,hb,hc,hn⟩
theorem qi (fs:List Nat):∀(r:List ByteArray) (kk:Nat) (a b c d:Int) (nm:ByteArray),(∀x∈r,x.size≤1048576)→nm.size≤1048576→fA a→fA b→fA c→fA d →
  ab.l fs r kk a b c d nm=none∨∃a' b' c' d' nm',ab.l fs r kk a b c d nm=some (a',b',c',d',nm')∧fA a'∧fA b'∧fA c'∧fA d'∧nm'.size≤1048576
 | [],kk,a,b,c,d,nm,_,hn,ha,hb,hc,hd=>.inr ⟨a,b,c,d,nm,rfl,ha,hb,hc,hd,hn⟩
 | x::r,kk,a,b,c,d,nm,hr,hn,ha,hb,hc,hd=>by
  have hr':∀y∈r,y.size≤1048576:=fun y hy=>hr y (List.mem_cons_of_mem _ hy)
  simp only[ab.l]
  cases h:Go.Lib.atoiAll x.data.toList with
  | ok n =>
   dsimp only
   split
   ·exact .inl rfl
   ·obtain⟨h1,h2,h3,h4⟩:=put_i64 (fs.getD kk 0) n a b c d (Go.Lib.atoiAll_bounds h) ha hb hc hd;exact qi fs r _ _ _ _ _ nm hr' hn h1 h2 h3 h4
  | range =>
   dsimp only
   split
   ·exact qi fs r _ _ _ _ _ x hr' (hr x (List.mem_cons_self ..)) ha hb hc hd
   ·exact .inl rfl
  | _ =>
   dsimp only
   split
   ·exact qi fs r _ _ _ _ _ x hr' (hr x (List.mem_cons_self ..)) ha hb hc hd
   ·exact .inl rfl
theorem oO (s:ByteArray) (hs:s.size≤1048576) (k:Nat) (hk:2000000<k):∃op,op=mx (ixW ((cV 32 s).getD 0 ByteArray.empty)) 0 ∧
  ab.f k s=ab.e k s op (ab.l (ab.fs op) ((cV 32 s).drop 1) 0 0 0 (ab.z op) (ab.z op) ⟨#[]⟩):=by
 refine⟨_,rfl,?_⟩;have hp:=kQ 32 s;have hz:=iV 32 s;have e:dM ByteArray.empty (cV 32 s) 0=(cV 32 s).getD 0 ByteArray.empty:=rfl;unfold ab.f;rw[mJ 32 s (by omega)];simp only[dn];rw[if_pos ⟨hp,by omega,fun x hx=>by have:=hz.2 x hx;omega⟩,e,impl_ix _ k (by omega)];rfl
theorem z_bd (op:Int):fA (ab.z op):=by
 unfold ab.z fA
 split
 ·omega
 ·split<;>omega
theorem rT (s:ByteArray) (op a b c d:Int) (nm:ByteArray) (ha:fA a) (hb:fA b) (hc:fA c) (hd:fA d) (hn:nm.size≤1048576) (k:Nat) (hk:2000000<k):ab.e k s op (some (a,b,c,d,nm))=some (if (lM op a b c d nm).toList=s.toList then if s.toList=[]then z7 else(op,a,b,c,d,nm,true)else z7):=by
 unfold ab.e;dsimp only;rw[impl_fi op a b c d nm ha.1 ha.2 hb.1 hb.2 hc.1 hc.2 hd.1 hd.2 (by omega) k (by omega)];simp only[dn]
 split
 ·split<;>rfl
 ·rfl
theorem rU (s:ByteArray) (hs:s.size≤1048576) (h:∀op a b c d nm,¬hF s op a b c d nm) (k:Nat) (hk:2000000<k):ab.f k s=some z7:=by
 obtain⟨op,_,he⟩:=oO s hs k hk;have hz:=iV 32 s;rw[he]
 rcases qi (ab.fs op) ((cV 32 s).drop 1) 0 0 0 (ab.z op) (ab.z op) ⟨#[]⟩ (fun x hx=>by have:=hz.2 x (List.mem_of_mem_drop hx);omega) (by decide) jR jR (z_bd op) (z_bd op)with h1|⟨a,b,c,d,nm,h1,ha,hb,hc,hd,hn⟩
 ·rw[h1];rfl
 ·rw[h1,rT s op a b c d nm ha hb hc hd hn k hk]
  congr 1
  split
  ·rename_i ht
   split
   ·rfl
   ·rename_i hne
    exfalso
    by_cases hi:eT op a b c d nm=true
    ·exact h op a b c d nm ⟨hi,lq.1 ht⟩
    ·apply hne;rw[←ht];unfold lM;rw[if_neg hi];exact gZ.2 rfl
  ·rfl
theorem oP {s:ByteArray} {op a b c d:Int} {nm:ByteArray} (h:hF s op a b c d nm):ab.l (ab.fs op) ((cV 32 s).drop 1) 0 0 0 (ab.z op) (ab.z op) ⟨#[]⟩=some (a,b,c,d,nm):=by
 obtain⟨ho,ha,hf⟩:=gE h.1;rw[gG h]
 rcases hf with ⟨h1,rfl,rfl,rfl,rfl⟩|⟨rfl,hb,hc,rfl,rfl⟩|⟨rfl,hb,hp,hn⟩|⟨rfl,rfl,hp,hn⟩|⟨h1,hb,rfl,rfl,rfl⟩
 ·have e:ag.W (fN op) op a 0 0 0 ⟨#[]⟩=[fN op,ba (Go.Lib.itoa a)]:=by
   unfold ag.W;rw[if_pos h1];rfl
  have ez:ab.z op=0:=by
   unfold ab.z;rw[if_neg (by omega),if_neg (by omega)]
  have ef:ab.fs op=[1,2,3]:=by
   unfold ab.fs;rw[if_neg (by omega),if_neg (by omega)]
  rw[e,ez,ef]
  show ab.l [1,2,3] [ba (Go.Lib.itoa a)] 0 0 0 0 0 ⟨#[]⟩=_
  rw[ik _ _ _ _ _ _ _ _ a ha.1 (by omega) (by decide) (a,0,0,0) rfl];rfl
 ·show ab.l [1,2,3] [ba (Go.Lib.itoa a),ba (Go.Lib.itoa b),ba (Go.Lib.itoa c)] 0 0 0 0 0 ⟨#[]⟩=_
  rw[ik _ _ _ _ _ _ _ _ a ha.1 (by omega) (by decide) (a,0,0,0) rfl,ik _ _ _ _ _ _ _ _ b hb.1 (by omega) (by decide) (a,b,0,0) rfl,ik _ _ _ _ _ _ _ _ c hc.1 (by omega) (by decide) (a,b,c,0) rfl];rfl
 ·have e:ag.W (fN 6) 6 a b c d nm=[fN 6,ba (Go.Lib.itoa a),ba (Go.Lib.itoa b),nm]++(bp.L c d).map ak.S:=rfl;rw[e]
  show ab.l [1,2,3,4] ([ba (Go.Lib.itoa a),ba (Go.Lib.itoa b),nm]++(bp.L c d).map ak.S) 0 0 0 (-1) (-1) ⟨#[]⟩=_
  simp only[List.cons_append,List.nil_append];rw[ik _ _ _ _ _ _ _ _ a ha.1 (by omega) (by decide) (a,0,-1,-1) rfl,ik _ _ _ _ _ _ _ _ b hb.1 (by omega) (by decide) (a,b,-1,-1) rfl,rS _ _ _ _ _ _ _ nm hn]
  rcases gD hp with ⟨rfl,rfl⟩|⟨hc,hd⟩
  ·rfl
  ·have hcb:(c==-1)=false:=beq_eq_false_iff_ne.mpr (by omega)
   rcases hd with rfl|hd
   ·have e2:(bp.L c (-1)).map ak.S=[ba (Go.Lib.itoa c)]:=by
     simp[bp.L,List.filter_cons,hcb,oN]
    rw[e2,ik _ _ _ _ _ _ _ _ c hc.1 (by omega) (by decide) (a,b,c,-1) rfl];rfl
   ·have hdb:(d==-1)=false:=beq_eq_false_iff_ne.mpr (by omega)
    have e2:(bp.L c d).map ak.S=[ba (Go.Lib.itoa c),ba (Go.Lib.itoa d)]:=by
     simp[bp.L,List.filter_cons,hcb,hdb,oN]
    rw[e2,ik _ _ _ _ _ _ _ _ c hc.1 (by omega) (by decide) (a,b,c,-1) rfl,ik _ _ _ _ _ _ _ _ d hd.1 (by omega) (by decide) (a,b,c,d) rfl];rfl
 ·have e:ag.W (fN 7) 7 a 0 c d nm=[fN 7,ba (Go.Lib.itoa a),nm]++(bp.L c d).map ak.S:=rfl;rw[e]
  show ab.l [1,3,4] ([ba (Go.Lib.itoa a),nm]++(bp.L c d).map ak.S) 0 0 0 (-1) (-1) ⟨#[]⟩=_
  simp only[List.cons_append,List.nil_append];rw[ik _ _ _ _ _ _ _ _ a ha.1 (by omega) (by decide) (a,0,-1,-1) rfl,rS _ _ _ _ _ _ _ nm hn]
  rcases gD hp with ⟨rfl,rfl⟩|⟨hc,hd⟩
  ·rfl
  ·have hcb:(c==-1)=false:=beq_eq_false_iff_ne.mpr (by omega)
   rcases hd with rfl|hd
   ·have e2:(bp.L c (-1)).map ak.S=[ba (Go.Lib.itoa c)]:=by
     simp[bp.L,List.filter_cons,hcb,oN]
    rw[e2,ik _ _ _ _ _ _ _ _ c hc.1 (by omega) (by decide) (a,0,c,-1) rfl];rfl
   ·have hdb:(d==-1)=false:=beq_eq_false_iff_ne.mpr (by omega)
    have e2:(bp.L c d).map ak.S=[ba (Go.Lib.itoa c),ba (Go.Lib.itoa d)]:=by
     simp[bp.L,List.filter_cons,hcb,hdb,oN]
    rw[e2,ik _ _ _ _ _ _ _ _ c hc.1 (by omega) (by decide) (a,0,c,-1) rfl,ik _ _ _ _ _ _ _ _ d hd.1 (by omega) (by decide) (a,0,c,d) rfl];rfl
 ·have e:ag.W (fN op) op a b 0 0 ⟨#[]⟩=[fN op,ba (Go.Lib.itoa a),ba (Go.Lib.itoa b)]:=by
   unfold ag.W;rw[if_neg (by omega),if_neg (by omega),if_neg (by omega),if_neg (by omega)];rfl
  have ez:ab.z op=0:=by
   unfold ab.z;rw[if_neg (by omega),if_neg (by omega)]
  have ef:ab.fs op=[1,2,3]:=by
   unfold ab.fs;rw[if_neg (by omega),if_neg (by omega)]
  rw[e,ez,ef]
  show ab.l [1,2,3] [ba (Go.Lib.itoa a),ba (Go.Lib.itoa b)] 0 0 0 0 0 ⟨#[]⟩=_
  rw[ik _ _ _ _ _ _ _ _ a ha.1 (by omega) (by decide) (a,0,0,0) rfl,ik _ _ _ _ _ _ _ _ b hb.1 (by omega) (by decide) (a,b,0,0) rfl];rfl
theorem mP {s:ByteArray} {op a b c d:Int} {nm:ByteArray} (h:hF s op a b c d nm):fA a∧fA b∧fA c∧fA d∧nm.size≤1048576:=by
 obtain⟨ho,ha,hf⟩:=gE h.1;unfold fA
 rcases hf with ⟨h1,rfl,rfl,rfl,rfl⟩|⟨rfl,hb,hc,rfl,rfl⟩|⟨rfl,hb,hp,hn⟩|⟨rfl,rfl,hp,hn⟩|⟨h1,hb,rfl,rfl,rfl⟩
 ·exact⟨by omega,by omega,by omega,by omega,by decide⟩
 ·exact⟨by omega,by omega,by omega,by omega,by decide⟩
 ·have:=kx hn;have hz:nm.size=nm.data.toList.length:=rfl
  rcases gD hp with h|h<;>exact⟨by omega,by omega,by omega,by omega,by omega⟩
 ·have:=kx hn;have hz:nm.size=nm.data.toList.length:=rfl
  rcases gD hp with h|h<;>exact⟨by omega,by omega,by omega,by omega,by omega⟩
 ·exact⟨by omega,by omega,by omega,by omega,by decide⟩
theorem nG {s:ByteArray} (hs:s.size≤1048576) {op a b c d:Int} {nm:ByteArray} (h:hF s op a b c d nm) (k:Nat) (hk:2000000<k):ab.f k s=some (op,a,b,c,d,nm,true):=by
 obtain⟨op',ho',he⟩:=oO s hs k hk;obtain⟨ho,_,_⟩:=gE h.1
 have e0:op'=op:=by
  obtain⟨x,r,hx⟩:=mN (fN op) op a b c d nm;rw[ho',gG h,hx]
  show mx (ixW (fN op)) 0=op
  rw[ixW_opn op ho.1 ho.2];unfold mx;rw[if_neg (by omega)]
 subst e0;obtain⟨ha,hb,hc,hd,hn⟩:=mP h;rw[he,oP h,rT s op' a b c d nm ha hb hc hd hn k hk,h.2,if_pos rfl,if_neg (qh h)]
theorem od (s:ByteArray) (hs:s.size≤1048576):∃r:R7,(∀k,2000000<k→aC.f k s=some r)∧(∀k,2000000<k→ab.f k s=some r) ∧
  ((r=z7∧∀op a b c d nm,¬hF s op a b c d nm)∨∃op a b c d nm,r=(op,a,b,c,d,nm,true)∧hF s op a b c d nm):=by
 by_cases h:∃op a b c d nm,hF s op a b c d nm
 ·obtain⟨op,a,b,c,d,nm,h⟩:=h;exact⟨_,fun k hk=>by rw[oc s hs k hk,mO h],fun k hk=>nG hs h k hk,.inr ⟨op,a,b,c,d,nm,rfl,h⟩⟩
 ·have h':∀op a b c d nm,¬hF s op a b c d nm:=fun op a b c d nm hp=>h ⟨op,a,b,c,d,nm,hp⟩
  refine⟨z7,fun k hk=>?_,fun k hk=>rU s hs h' k hk,.inl ⟨rfl,h'⟩⟩;rw[oc s hs k hk]
  congr 1
  unfold jQ
  split
  ·exact jm (h' _ _ _ _ _ _)
  split
  ·exact jm (h' _ _ _ _ _ _)
  split
  ·exact jm (h' _ _ _ _ _ _)
  split
  ·exact jm (h' _ _ _ _ _ _)
  ·exact jm (h' _ _ _ _ _ _)
theorem W_all {op a b c d:Int} {nm:ByteArray} (h:eT op a b c d nm=true) (P:ByteArray→Prop) (pS:∀n,P (ak.S n)) (pO:P (fN op)) (pN:dV nm=true→P nm):∀w∈ag.W (fN op) op a b c d nm,P w:=by
 have hS:∀(l:List Int),∀w∈l.map ak.S,P w:=by
  intro l w hw;obtain⟨n,_,rfl⟩:=List.mem_map.1 hw;exact pS n
 have hO:∀w∈[fN op],P w:=by
  intro w hw;rw[List.mem_singleton.1 hw];exact pO
 have hN:(op=6∨op=7)→∀w∈[nm],P w:=by
  intro ho w hw;rw[List.mem_singleton.1 hw]
  rcases(gE h).2.2 with x|x|x|x|x
  ·omega
  ·omega
  ·exact pN x.2.2.2
  ·exact pN x.2.2.2
  ·omega
 unfold ag.W;intro w hw
 split at hw
 ·rcases List.mem_append.1 hw with hw|hw
  ·exact hO w hw
  ·exact hS _ w hw
 split at hw
 ·rcases List.mem_append.1 hw with hw|hw
  ·exact hO w hw
  ·exact hS _ w hw
 split at hw
 ·rename_i h6
  rcases List.mem_append.1 hw with hw|hw
  ·rcases List.mem_append.1 hw with hw|hw
   ·rcases List.mem_append.1 hw with hw|hw
    ·exact hO w hw
    ·exact hS _ w hw
   ·exact hN (.inl h6) w hw
  ·exact hS _ w hw
 split at hw
 ·rename_i h7
  rcases List.mem_append.1 hw with hw|hw
  ·rcases List.mem_append.1 hw with hw|hw
   ·rcases List.mem_append.1 hw with hw|hw
    ·exact hO w hw
    ·exact hS _ w hw
   ·exact hN (.inr h7) w hw
  ·exact hS _ w hw
 ·rcases List.mem_append.1 hw with hw|hw
  ·exact hO w hw
  ·exact hS _ w hw
theorem itoa_nl (n:Int):(10:UInt8)∉Go.Lib.itoa n:=by
 intro h;unfold Go.Lib.itoa at h
 split at h
 ·rcases List.mem_cons.1 h with h|h
  ·exact absurd h (by decide)
  ·exact absurd (lN _ _ h).1 (by decide)
 ·exact absurd (lN _ _ h).1 (by decide)
theorem op_nl (op:Int):(10:UInt8)∉(fN op).data.toList:=by
 unfold fN
 split
 ·rename_i h
  obtain⟨n,hn⟩:∃n:Nat,op.toNat=n:=⟨_,rfl⟩;rw[hn];have h1:n≤10:=by omega
  have:∀m:Fin 11,(10:UInt8)∉(b7.o0.getD m.val ⟨#[]⟩).data.toList:=by decide +kernel
  exact this ⟨n,by omega⟩
 ·simp
theorem oe {nm:ByteArray} (h:dV nm=true):(10:UInt8)∉nm.data.toList:=fun hb=>absurd (mM h _ hb).1 (by decide)
theorem oQ (c:UInt8) (b:UInt8):∀ws:List (List UInt8),b∈Go.Lib.join ws [c]→b=c∨∃w∈ws,b∈w
 | [],h=>by simp[Go.Lib.join,List.intercalate]at h
 | [w],h=>by
  have e:Go.Lib.join [w] [c]=w:=by simp[Go.Lib.join,List.intercalate]
  rw[e]at h;exact .inr ⟨w,by simp,h⟩
 | a::x::r,h=>by
  rw[oM]at h
  rcases List.mem_append.1 h with h|h
  ·exact .inr ⟨a,by simp,h⟩
  rcases List.mem_cons.1 h with h|h
  ·exact .inl h
  ·rcases oQ c b (x::r) h with h|⟨w,hw,h⟩
   ·exact .inl h
   ·exact .inr ⟨w,List.mem_cons_of_mem _ hw,h⟩
theorem rV {op a b c d:Int} {nm:ByteArray} (h:eT op a b c d nm=true):(lM op a b c d nm).data.toList=Go.Lib.join ((ag.W (fN op) op a b c d nm).map (·.data.toList)) [32]:=by
 have e:lM op a b c d nm=strings_Join.J (ag.W (fN op) op a b c d nm):=by
  rw[J_W];unfold lM;rw[if_pos h]
 rw[e];rfl
theorem ins_nl {op a b c d:Int} {nm:ByteArray} (h:eT op a b c d nm=true):(10:UInt8)∉(lM op a b c d nm).data.toList:=by
 rw[rV h];intro hb
 rcases oQ 32 10 _ hb with hb|⟨w,hw,hb⟩
 ·exact absurd hb (by decide)
 ·obtain⟨v,hv,rfl⟩:=List.mem_map.1 hw;exact W_all h (fun w=>(10:UInt8)∉w.data.toList) itoa_nl (op_nl op) oe v hv hb
def gp:List cR→List ByteArray
 | []=>[]
 | m::r=>(ja++m.f0)::(m.f1.map iD++gp r)
def fG:List b5→List ByteArray
 | []=>[]
 | s::r=>(jI++s.f0)::(gp s.f1++fG r)
def fY:List ByteArray→List UInt8
 | []=>[]
 | x::r=>x.data.toList++(10::fY r)
theorem kR:∀a b:List ByteArray,fY (a++b)=fY a++fY b
 | [],b=>rfl
 | x::a,b=>by
  simp only[List.cons_append,fY,kR a b,List.append_assoc]
theorem eW (a b:ByteArray):(a++b).data.toList=a.data.toList++b.data.toList:=by
 rw[ByteArray.data_append,Array.toList_append]
theorem mQ:∀(l:List fk) (t:ByteArray),(iK l t).data.toList=t.data.toList++fY (l.map iD)
 | [],t=>by simp[iK,fY]
 | x::r,t=>by
  rw[iK,mQ r,eW,eW];simp[fY]
theorem mR:∀(l:List cR) (t:ByteArray),(iZ l t).data.toList=t.data.toList++fY (gp l)
 | [],t=>by simp[iZ,gp,fY]
 | m::r,t=>by
  rw[iZ,mR r,mQ,eW,eW,gp,fY,kR];unfold ja;rw[eW];simp
theorem nH:∀(l:List b5) (t:ByteArray),(∀x∈l,eo x.f0 x.f1=true)→(mE l t).data.toList=t.data.toList++fY (fG l)
 | [],t,_=>by simp[mE,fG,fY]
 | s::r,t,h=>by
  rw[mE,nH r _ (fun x hx=>h x (List.mem_cons_of_mem _ hx)),eW];unfold qS;rw[if_pos (h s (List.mem_cons_self ..)),mR,eW,eW,eW,fG,fY,kR];unfold jI;rw[eW];simp
theorem nI:∀l:List ByteArray,(∀x∈l,(10:UInt8)∉x.data.toList)→ga 10 (fY l)=l.map (·.data.toList)++[[]]
 | [],_=>rfl
 | x::r,h=>by
  rw[fY,iL 10 _ _ (h x (List.mem_cons_self ..)),nI r (fun y hy=>h y (List.mem_cons_of_mem _ hy))];rfl
theorem oR (l:List ByteArray) (h:∀x∈l,(10:UInt8)∉x.data.toList) (s:ByteArray) (hs:s.data.toList=fY l):cV 10 s=l++[⟨#[]⟩]:=by
 unfold cV;rw[hs,nI l h,List.map_append,oa];rfl
theorem hP (P:List b5) (x:b5):LO.last (P++[x])=x:=by
 unfold LO.last;simp
theorem mS (P:List b5) (nm:ByteArray) (Q:List cR) (m:cR):LO.dX (P++[⟨nm,Q++[m]⟩])=m:=by
 unfold LO.dX;rw[hP];simp
theorem qO (P:List b5) (nm n:ByteArray) (Q:List cR):LO.mh (P++[⟨nm,Q⟩]) n=P++[⟨nm,Q++[⟨n,[]⟩]⟩]:=by
 unfold LO.mh;rw[hP];simp
theorem qP (P:List b5) (nm mn:ByteArray) (Q:List cR) (R:List fk) (z:fk):LO.lv (P++[⟨nm,Q++[⟨mn,R⟩]⟩]) z=P++[⟨nm,Q++[⟨mn,R++[z]⟩]⟩]:=by
 unfold LO.lv;rw[mS,hP];simp
def pw (l:List b5):Prop:=l.length≤1000000∧(LO.last l).f1.length≤1000000∧(LO.dX l).f1.length≤1000000
theorem il {l:List b5} (h:pw l):l.length≤1000000∧(LO.last l).f1.length≤1000000∧(LO.dX l).f1.length≤1000000:=h
def okz (z:fk):Prop:=gq z=true∧(iD z).size≤4000
def goodM (m:cR):Prop:=dV m.f0=true∧m.f1.length≤12∧∀z∈m.f1,okz z
def qj (s:b5):Prop:=dV s.f0=true∧s.f1.length≤4∧∀m∈s.f1,goodM m
theorem bnd_M (P:List b5) (nm:ByteArray) (Q:List cR) (m:cR) (h1:P.length<1000) (h2:Q.length<1000) (h3:m.f1.length<1000):pw (P++[⟨nm,Q++[m]⟩]):=by
 unfold pw;rw[mS,hP];simp;omega
theorem bnd_S (P:List b5) (nm:ByteArray) (Q:List cR) (h1:P.length<1000) (h2:Q.length<1000) (h3:∀m∈Q,m.f1.length<1000):pw (P++[⟨nm,Q⟩]):=by
 unfold pw LO.dX;rw[hP];refine⟨by simp;omega,by show Q.length≤_;omega,?_⟩
 show(Q.getD (Q.length-1) gl).f1.length≤_
 by_cases c:Q=[]
 ·subst c
  show(gl).f1.length≤_
  simp[gl]
 ·have hq:Q.length-1<Q.length:=by have:=List.length_pos_iff.mpr c;omega
  rw[List.getD_eq_getElem?_getD,List.getElem?_eq_getElem hq];have:=h3 _ (List.getElem_mem hq)
  show(Q[Q.length-1]).f1.length≤_
  omega
theorem bnd_L (P:List b5) (h1:P.length<1000) (h2:∀s∈P,s.f1.length<1000∧∀m∈s.f1,m.f1.length<1000):pw P:=by
 rcases List.eq_nil_or_concat P with rfl|⟨P',s,rfl⟩
 ·unfold pw LO.dX LO.last;simp[jh,gl]
 ·rw[List.concat_eq_append]at *;have hs:=h2 s (by simp);exact bnd_S P' s.f0 s.f1 (by simp at h1;omega) hs.1 hs.2
section gen
variable {β:Type} (L:List ByteArray→List b5→β)
 (hs:∀l nm r,pw l→dV nm=true→L ((jI++nm)::r) l=L r (l++[⟨nm,[]⟩]))
 (hm:∀l nm r,pw l→l≠[]→dV nm=true→L ((ja++nm)::r) l=L r (LO.mh l nm))
 (hi:∀l z r,pw l→l≠[]→(LO.last l).f1≠[]→okz z→L (iD z::r) l=L r (LO.lv l z))
include hi in
theorem gen_I (P:List b5) (nm:ByteArray) (Q:List cR) (mn:ByteArray) (r:List ByteArray) (h1:P.length<1000) (h2:Q.length<1000):∀(zs R:List fk),R.length+zs.length<1000→(∀z∈zs,okz z) →
  L (zs.map iD++r) (P++[⟨nm,Q++[⟨mn,R⟩]⟩])=L r (P++[⟨nm,Q++[⟨mn,R++zs⟩]⟩])
 | [],R,_,_=>by simp
 | z::zs,R,h,hz=>by
  rw[List.length_cons]at h
  rw[List.map_cons,List.cons_append,hi _ z _ (bnd_M P nm Q ⟨mn,R⟩ h1 h2 (by show R.length<1000;omega)) (by simp) (by rw[hP];simp) (hz z (List.mem_cons_self ..)),qP,
   gen_I P nm Q mn r h1 h2 zs (R++[z]) (by rw[List.length_append,List.length_singleton];omega) (fun y hy=>hz y (List.mem_cons_of_mem _ hy)),List.append_assoc]
  rfl
include hm hi in
theorem gen_M (P:List b5) (nm:ByteArray) (r:List ByteArray) (h1:P.length<1000):∀(ms Q:List cR),Q.length+ms.length<1000→(∀m∈Q,m.f1.length<1000)→(∀m∈ms,goodM m) →
  L (gp ms++r) (P++[⟨nm,Q⟩])=L r (P++[⟨nm,Q++ms⟩])
 | [],Q,_,_,_=>by simp[gp]
 | m::ms,Q,h,hq,hg=>by
  rw[List.length_cons]at h;have g:=hg m (List.mem_cons_self ..)
  rw[gp,List.cons_append,hm _ m.f0 _ (bnd_S P nm Q h1 (by omega) hq) (by simp) g.1,qO,List.append_assoc,
   gen_I L hi P nm Q m.f0 _ h1 (by omega) m.f1 [] (by have:=g.2.1;simp;omega) g.2.2,List.nil_append,
   gen_M P nm r h1 ms (Q++[(⟨m.f0,m.f1⟩:cR)]) (by rw[List.length_append,List.length_singleton];omega) (fun y hy=>by
    rcases List.mem_append.1 hy with hy|hy
    ·exact hq y hy
    ·rw[List.mem_singleton.1 hy];have:=g.2.1
     show m.f1.length<1000
     omega) (fun y hy=>hg y (List.mem_cons_of_mem _ hy)),List.append_assoc]
  rfl
include hs hm hi in
theorem rW (r:List ByteArray):∀(X P:List b5),P.length+X.length<1000→(∀s∈P,s.f1.length<1000∧∀m∈s.f1,m.f1.length<1000)→(∀s∈X,qj s)→L (fG X++r) P=L r (P++X)
 | [],P,_,_,_=>by simp[fG]
 | s::X,P,h,hp,hg=>by
  rw[List.length_cons]at h;have g:=hg s (List.mem_cons_self ..)
  rw[fG,List.cons_append,hs P s.f0 _ (bnd_L P (by omega) hp) g.1,List.append_assoc,
   gen_M L hm hi P s.f0 _ (by omega) s.f1 [] (by have:=g.2.1;simp;omega) (by simp) g.2.2,List.nil_append,
   rW r X (P++[(⟨s.f0,s.f1⟩:b5)]) (by rw[List.length_append,List.length_singleton];omega) (fun y hy=>by
    rcases List.mem_append.1 hy with hy|hy
    ·exact hp y hy
    ·rw[List.mem_singleton.1 hy];refine⟨by have:=g.2.1;show s.f1.length<1000;omega,fun m hm'=>?_⟩;have:=(g.2.2 m hm').2.1;omega) (fun y hy=>hg y (List.mem_cons_of_mem _ hy)),List.append_assoc]
  rfl
end gen
theorem kz (p y:ByteArray):(p++y).extract 0 p.size=p:=by
 have h:=ig (p++y) 0 p.size;rw[Int.toNat_natCast,Int.toNat_natCast,eW]at h;rw[h,List.drop_zero,Nat.sub_zero,List.take_left' (show p.data.toList.length=p.size from rfl),jC]
theorem lO (p y:ByteArray):(p++y).extract p.size (p++y).size=y:=by
 have h:=ig (p++y) p.size (p++y).size;rw[Int.toNat_natCast,Int.toNat_natCast,eW]at h;rw[h,List.drop_left' (show p.data.toList.length=p.size from rfl),List.take_of_length_le (by rw[ByteArray.size_append];show y.data.toList.length≤_;have:y.size=y.data.toList.length:=rfl;omega),jC]
theorem rX (x p:ByteArray) (h:x.extract 0 p.size=p):x.data.toList=p.data.toList++x.data.toList.drop p.size:=by
 have g:=ig x 0 p.size;rw[Int.toNat_natCast,Int.toNat_natCast,h,List.drop_zero,Nat.sub_zero]at g
 have e:p.data.toList=x.data.toList.take p.size:=by
  conv=>lhs;rw[g]
  rfl
 rw[e,List.take_append_drop]
theorem rY (w:List UInt8) (h0:w≠[]) (h:∀m:Fin 11,(b7.o0.getD m.val ⟨#[]⟩).data.toList≠w) (op:Int):(fN op).data.toList≠w:=by
 unfold fN
 split
 ·rename_i hh
  obtain⟨n,hn⟩:∃n:Nat,op.toNat=n:=⟨_,rfl⟩;rw[hn];exact h ⟨n,by omega⟩
 ·exact fun e=>h0 e.symm
theorem rZ (z:fk) (h:gq z=true) (w:List UInt8) (hw:(32:UInt8)∉w) (hn:∀op:Int,(fN op).data.toList≠w) (r:List UInt8):(iD z).data.toList≠w++32::r:=by
 intro e;have g:=gG (s:=iD z) (op:=z.f0) (a:=z.f1) (b:=z.f2) (c:=z.f3) (d:=z.f4) (nm:=z.f5) ⟨h,rfl⟩;obtain⟨x,t,hx⟩:=mN (fN z.f0) z.f0 z.f1 z.f2 z.f3 z.f4 z.f5;unfold cV at g;rw[e,iL 32 w r hw,hx,List.map_cons]at g;have g1:=(List.cons.inj g).1;exact hn z.f0 (by rw[←g1];rfl)
theorem sa (z:fk) (h:gq z=true):(iD z).extract 0 jI.size≠jI:=by
 intro e;exact rZ z h [115,99,114,105,112,116] (by decide) (rY _ (by decide) (by decide +kernel)) _ (rX _ _ e)
theorem sb (z:fk) (h:gq z=true):(iD z).extract 0 ja.size≠ja:=by
 intro e;exact rZ z h [109,101,116,104,111,100] (by decide) (rY _ (by decide) (by decide +kernel)) _ (rX _ _ e)
theorem sc:jI.toList=[115,99,114,105,112,116,32]:=by decide +kernel
theorem sd:ja.toList=[109,101,116,104,111,100,32]:=by decide +kernel
theorem px {x:ByteArray}:(x.extract 0 7).toList=[115,99,114,105,112,116,32]↔x.extract 0 jI.size=jI:=by
 rw[←sc,lq];exact Iff.rfl
theorem se {x:ByteArray}:(x.extract 0 7).toList=[109,101,116,104,111,100,32]↔x.extract 0 ja.size=ja:=by
 rw[←sd,lq];exact Iff.rfl
theorem qk (y:ByteArray):(ja++y).extract 0 jI.size≠jI:=by
 rw[show jI.size=ja.size from rfl,kz];decide +kernel
theorem kA {nm:ByteArray} (h:dV nm=true):1≤nm.size∧nm.size≤6:=kx h
theorem py (k:Nat) (l:List b5) (nm:ByteArray) (hb:pw l) (hn:dV nm=true):cD.f k l (jI++nm)=some (l++[⟨nm,[]⟩],true):=by
 have hz:(jI++nm).size=7+nm.size:=by rw[ByteArray.size_append];rfl
 have h1:=kA hn;unfold cD.f;rw[if_pos (il hb),if_pos ⟨by omega,px.2 (kz _ _)⟩,show(jI++nm).extract 7 (jI++nm).size=nm from lO jI nm]
theorem pz (k:Nat) (l:List b5) (nm:ByteArray) (hb:pw l) (hl:l≠[]) (hn:dV nm=true):cD.f k l (ja++nm)=some (LO.mh l nm,true):=by
 have hz:(ja++nm).size=7+nm.size:=by rw[ByteArray.size_append];rfl
 have h1:=kA hn;have h2:=List.length_pos_iff.mpr hl;unfold cD.f;rw[if_pos (il hb),if_neg (fun h=>qk _ (px.1 h.2)),if_pos ⟨h2,by omega,se.2 (kz _ _)⟩,show(ja++nm).extract 7 (ja++nm).size=nm from lO ja nm]
theorem pA (k:Nat) (hk:2000000<k) (l:List b5) (z:fk) (hb:pw l) (hl:l≠[]) (hm:(LO.last l).f1≠[]) (hz:okz z):cD.f k l (iD z)=some (LO.lv l z,true):=by
 have h2:=List.length_pos_iff.mpr hl;have h3:=List.length_pos_iff.mpr hm;unfold cD.f;rw[if_pos (il hb),if_neg (fun h=>sa z hz.1 (px.1 h.2)),if_neg (fun h=>sb z hz.1 (se.1 h.2.2)),oc _ (by have:=hz.2;omega) k hk,mO (s:=iD z) (op:=z.f0) (a:=z.f1) (b:=z.f2) (c:=z.f3) (d:=z.f4) (nm:=z.f5) ⟨hz.1,rfl⟩];simp only[dn];rw[if_pos trivial,if_neg (by omega),if_neg (by omega)]
theorem pre_is (x p:ByteArray):cX.f x p=some (decide (p.size≤x.size∧x.extract 0 p.size=p)):=by
 unfold cX.f;by_cases c:p.size≤x.size
 ·rw[if_pos (by omega),if_pos (by omega),if_pos (by omega)];simp only[Int.toNat_natCast]
  congr 1
  rw[Bool.eq_iff_iff,beq_iff_eq,decide_eq_true_eq,lq];exact⟨fun h=>⟨c,h⟩,fun h=>h.2⟩
 ·rw[if_neg (by omega),decide_eq_false (fun h=>c h.1)]
theorem jq (x p:ByteArray):b8.f x p=some (if p.size≤x.size∧x.extract 0 p.size=p then(x.extract p.size x.size,true)else(x,false)):=by
 unfold b8.f dJ.f;rw[pre_is];simp only[dn];by_cases d:p.size≤x.size∧x.extract 0 p.size=p
 ·rw[if_pos (decide_eq_true d),if_pos (by omega),if_pos (by omega),if_pos d];simp only[dn,Int.toNat_natCast]
 ·rw[if_neg (fun h=>d (of_decide_eq_true h)),if_neg d];rfl
def iW (x:b5):Prop:=x.f0.size≤1048576∧kM x.f1∧nY x.f1
theorem libI (l:List b5) (hl:l.length≤1048576) (hm:∀x∈l,iW x) (k:Nat) (hk:55000000<k):aK.f k l=some (gU l):=by
 unfold aK.f gU;by_cases c8:l.length≤6
 ·rw[if_neg (by omega)];have:=mB l hl (fun x hx=>⟨(hm x hx).1,(hm x hx).2.1⟩) l.length k 0 (by omega) (by omega) (by omega);rw[show(0:Int)=((0:Nat):Int)from rfl,this,decide_eq_true c8,Bool.and_true]
 ·rw[if_pos (by omega),decide_eq_false c8,Bool.and_false]
theorem libP (l:List b5) (hl:l.length≤1048576) (hm:∀x∈l,iW x):∃K,∀k,K≤k→bb.f k l=some (gU l):=by
 obtain⟨K1,h1⟩:=j5 l (fun x hx=>⟨(hm x hx).1,(hm x hx).2.1⟩);exact⟨K1+3000000,fun k hk=>mA l hl K1 h1 _ k 0 (by omega) (by omega) (by omega)⟩
def ftI (z:fk):Prop:=kN z∧z.f5.size≤1048576
def ftM (n:Nat) (m:cR):Prop:=m.f0.size≤1048576∧m.f1.length≤n∧∀z∈m.f1,ftI z
def ftS (n:Nat) (s:b5):Prop:=s.f0.size≤1048576∧s.f1.length≤n∧∀m∈s.f1,ftM n m
def kB (n:Nat) (l:List b5):Prop:=l.length≤n∧∀s∈l,ftS n s
theorem pB {n:Nat} {m:cR} (h:ftM n m):ftM (n+1) m:=⟨h.1,by have:=h.2.1;omega,h.2.2⟩
theorem pC {n:Nat} {s:b5} (h:ftS n s):ftS (n+1) s:=⟨h.1,by have:=h.2.1;omega,fun m hm=>pB (h.2.2 m hm)⟩
theorem mT {n:Nat} {l:List b5} (h:kB n l):kB (n+1) l:=⟨by have:=h.1;omega,fun s hs=>pC (h.2 s hs)⟩
theorem pD {n n':Nat} {l:List b5} (h:kB n l) (hn:n≤n'):kB n' l:=by
 induction hn with
 | refl=>exact h
 | step _ ih=>exact mT ih
theorem sf {n:Nat} (hn:n≤1000000) {l:List b5} (h:kB n l):l.length≤1048576∧∀x∈l,iW x :=
 ⟨by have:=h.1;omega,fun x hx=>⟨(h.2 x hx).1,⟨by have:=(h.2 x hx).2.1;omega,fun m hm=>⟨((h.2 x hx).2.2 m hm).1,by have:=((h.2 x hx).2.2 m hm).2.1;omega,fun z hz=>(((h.2 x hx).2.2 m hm).2.2 z hz).2⟩⟩,fun m hm z hz=>(((h.2 x hx).2.2 m hm).2.2 z hz).1⟩⟩
theorem zS_ft (n:Nat):ftS n jh:=⟨Nat.zero_le 1048576,Nat.zero_le n,fun _ h=>absurd h (by simp[jh])⟩
theorem zM_ft (n:Nat):ftM n gl:=⟨Nat.zero_le 1048576,Nat.zero_le n,fun _ h=>absurd h (by simp[gl])⟩
theorem lP {n:Nat} {l:List b5} (h:kB n l):ftS n (LO.last l):=by
 unfold LO.last;rw[List.getD_eq_getElem?_getD]
 cases e:l[l.length-1]? with
 | none=>exact zS_ft n
 | some s=>exact h.2 s (List.mem_of_getElem? e)
theorem oS {n:Nat} {l:List b5} (h:kB n l):ftM n (LO.dX l):=by
 unfold LO.dX;rw[List.getD_eq_getElem?_getD]
 cases e:(LO.last l).f1[(LO.last l).f1.length-1]? with
 | none=>exact zM_ft n
 | some s=>exact(lP h).2.2 s (List.mem_of_getElem? e)
theorem sg {n:Nat} (hn:n≤1000000) {l:List b5} (h:kB n l):pw l:=by
 have h1:=h.1;have h2:=(lP h).2.1;have h3:=(oS h).2.1;exact⟨by omega,by omega,by omega⟩
theorem si {n:Nat} {l:List b5} (h:kB n l) (nm:ByteArray) (hn:nm.size≤1048576):kB (n+1) (l++[⟨nm,[]⟩]):=by
 refine⟨by rw[List.length_append,List.length_singleton];have:=h.1;omega,fun s hs=>?_⟩
 rcases List.mem_append.1 hs with hs|hs
 ·exact pC (h.2 s hs)
 ·rw[List.mem_singleton.1 hs];exact⟨hn,by simp,by simp⟩
theorem sj {n:Nat} {l:List b5} (h:kB n l) (i:Nat) (s:b5) (hs:ftS (n+1) s):kB (n+1) (l.set i s):=by
 refine⟨by rw[List.length_set];have:=h.1;omega,fun t ht=>?_⟩
 rcases List.mem_or_eq_of_mem_set ht with ht|rfl
 ·exact pC (h.2 t ht)
 ·exact hs
theorem ql {n:Nat} {l:List b5} (h:kB n l) (nm:ByteArray) (hn:nm.size≤1048576):kB (n+1) (LO.mh l nm):=by
 have g:=lP h;unfold LO.mh;refine sj h _ _ ⟨g.1,?_,fun m hm=>?_⟩
 ·show((LO.last l).f1++[(⟨nm,[]⟩:cR)]).length≤n+1
  rw[List.length_append,List.length_singleton];have:=g.2.1;omega
 ·rcases List.mem_append.1 hm with hm|hm
  ·exact pB (g.2.2 m hm)
  ·rw[List.mem_singleton.1 hm];exact⟨hn,by simp,by simp⟩
theorem qm {n:Nat} {l:List b5} (h:kB n l) (z:fk) (hz:ftI z):kB (n+1) (LO.lv l z):=by
 have g:=lP h;have gm:=oS h;unfold LO.lv;refine sj h _ _ ⟨g.1,?_,fun m hm=>?_⟩
 ·show((LO.last l).f1.set _ _).length≤n+1
  rw[List.length_set];have:=g.2.1;omega
 ·rcases List.mem_or_eq_of_mem_set hm with hm|rfl
  ·exact pB (g.2.2 m hm)
  ·refine⟨gm.1,?_,fun y hy=>?_⟩
   ·show((LO.dX l).f1++[z]).length≤n+1
    rw[List.length_append,List.length_singleton];have:=gm.2.1;omega
   ·rcases List.mem_append.1 hy with hy|hy
    ·exact gm.2.2 y hy
    ·rw[List.mem_singleton.1 hy];exact hz
theorem og (x:ByteArray) (i j n:Nat) (h:x.size≤n):(x.extract i j).size≤n:=by
 rw[ByteArray.size_extract];omega
theorem r7_ft {s:ByteArray} {r:R7} (h:(r=z7∧∀op a b c d nm,¬hF s op a b c d nm)∨∃op a b c d nm,r=(op,a,b,c,d,nm,true)∧hF s op a b c d nm) (ht:r.2.2.2.2.2.2=true) :
  ftI ⟨r.1,r.2.1,r.2.2.1,r.2.2.2.1,r.2.2.2.2.1,r.2.2.2.2.2.1⟩:=by
 rcases h with ⟨rfl,_⟩|⟨op,a,b,c,d,nm,rfl,hp⟩
 ·exact absurd ht (by decide)
 ·have g:=mP hp;exact⟨⟨g.1,g.2.1,g.2.2.1,g.2.2.2.1⟩,g.2.2.2.2⟩
theorem oT:∀(ls:List ByteArray) (n:Nat) (l:List b5),(∀x∈ls,x.size≤4000)→kB n l→n+ls.length≤1000000 →
  ∃R:List b5×Bool,(∀k,2000000<k→aE.l0 k ls l=some R)∧kB (n+ls.length) R.1
 | [],n,l,_,h,_=>⟨(l,true),fun k hk=>rfl,h⟩
 | x::r,n,l,hx,h,hn=>by
  rw[List.length_cons]at hn;have hxs:=hx x (List.mem_cons_self ..);have hr:∀y∈r,y.size≤4000:=fun y hy=>hx y (List.mem_cons_of_mem _ hy)
  have hb:=sg (by omega) h
  have go (l':List b5) (h':kB (n+1) l') (he:∀k,2000000<k→cD.f k l x=some (l',true)) :
    ∃R:List b5×Bool,(∀k,2000000<k→aE.l0 k (x::r) l=some R)∧kB (n+(x::r).length) R.1:=by
   obtain⟨R,h1,h2⟩:=oT r (n+1) l' hr h' (by omega);refine⟨R,fun k hk=>?_,by rw[List.length_cons];exact pD h2 (by omega)⟩;unfold aE.l0;rw[if_pos (by omega),he k hk];simp only[dn];rw[if_pos trivial];exact h1 k hk
  have no (l':List b5) (h':kB (n+1) l') (he:∀k,2000000<k→cD.f k l x=some (l',false)) :
    ∃R:List b5×Bool,(∀k,2000000<k→aE.l0 k (x::r) l=some R)∧kB (n+(x::r).length) R.1:=by
   refine⟨(l',false),fun k hk=>?_,by rw[List.length_cons];exact pD h' (by omega)⟩;unfold aE.l0;rw[if_pos (by omega),he k hk];rfl
  by_cases c1:7<x.size∧(x.extract 0 7).toList=[115,99,114,105,112,116,32]
  ·exact go _ (si h _ (og x 7 x.size _ (by omega))) (fun k hk=>by unfold cD.f;rw[if_pos (il hb),if_pos c1])
  by_cases c2:0<l.length∧7<x.size∧(x.extract 0 7).toList=[109,101,116,104,111,100,32]
  ·exact go _ (ql h _ (og x 7 x.size _ (by omega))) (fun k hk=>by unfold cD.f;rw[if_pos (il hb),if_neg c1,if_pos c2])
  obtain⟨q,hq,_,hg⟩:=od x (by omega)
  have he (k:Nat) (hk:2000000<k):cD.f k l x=if q.2.2.2.2.2.2=true then if l.length=0 then some (l,false)else if (LO.last l).f1.length=0 then some (l,false)else some (LO.lv l ⟨q.1,q.2.1,q.2.2.1,q.2.2.2.1,q.2.2.2.2.1,q.2.2.2.2.2.1⟩,true)else some (l,false):=by
   unfold cD.f;rw[if_pos (il hb),if_neg c1,if_neg c2,hq k hk];rfl
  by_cases c3:q.2.2.2.2.2.2=true
  ·by_cases c4:l.length=0
   ·exact no l (mT h) (fun k hk=>by rw[he k hk,if_pos c3,if_pos c4])
   by_cases c5:(LO.last l).f1.length=0
   ·exact no l (mT h) (fun k hk=>by rw[he k hk,if_pos c3,if_neg c4,if_pos c5])
   ·exact go _ (qm h _ (r7_ft hg c3)) (fun k hk=>by rw[he k hk,if_pos c3,if_neg c4,if_neg c5])
  ·exact no l (mT h) (fun k hk=>by rw[he k hk,if_neg c3])
theorem oU:∀(ls:List ByteArray) (n:Nat) (l:List b5),(∀x∈ls,x.size≤4000)→kB n l→n+ls.length≤1000000 →
  ∃R:Option (List b5),(∀k,2000000<k→al.l0 k ls l=some R)∧∀l',R=some l'→kB (n+ls.length) l'
 | [],n,l,_,h,_=>⟨some l,fun k hk=>rfl,fun l' e=>by cases e;exact h⟩
 | x::r,n,l,hx,h,hn=>by
  rw[List.length_cons]at hn;have hxs:=hx x (List.mem_cons_self ..);have hr:∀y∈r,y.size≤4000:=fun y hy=>hx y (List.mem_cons_of_mem _ hy)
  have hb:=sg (by omega) h
  have go (l':List b5) (h':kB (n+1) l') (he:∀k,2000000<k→al.l0 k (x::r) l=al.l0 k r l') :
    ∃R:Option (List b5),(∀k,2000000<k→al.l0 k (x::r) l=some R)∧∀l',R=some l'→kB (n+(x::r).length) l':=by
   obtain⟨R,h1,h2⟩:=oU r (n+1) l' hr h' (by omega);exact⟨R,fun k hk=>by rw[he k hk];exact h1 k hk,fun l' e=>by rw[List.length_cons];exact pD (h2 l' e) (by omega)⟩
  have no (he:∀k,2000000<k→al.l0 k (x::r) l=some none) :
    ∃R:Option (List b5),(∀k,2000000<k→al.l0 k (x::r) l=some R)∧∀l',R=some l'→kB (n+(x::r).length) l' :=
   ⟨none,he,fun l' e=>by cases e⟩
  obtain⟨q,_,hq,hg⟩:=od x (by omega)
  have he (k:Nat) (hk:2000000<k):al.l0 k (x::r) l=if jI.size≤x.size∧x.extract 0 jI.size=jI then al.l0 k r (l++[⟨x.extract jI.size x.size,[]⟩])else if x.toList=[]then al.l0 k r l else if l.length=0 then some none
    else if ja.size≤x.size∧x.extract 0 ja.size=ja then al.l0 k r (LO.mh l (x.extract ja.size x.size))else if q.2.2.2.2.2.2=true then if (LO.last l).f1.length=0 then some none else al.l0 k r (LO.lv l ⟨q.1,q.2.1,q.2.2.1,q.2.2.2.1,q.2.2.2.2.1,q.2.2.2.2.2.1⟩)else some none:=by
   rw[al.l0,if_pos (il hb),show(⟨#[115,99,114,105,112,116,32]⟩:ByteArray)=jI from rfl,show(⟨#[109,101,116,104,111,100,32]⟩:ByteArray)=ja from rfl,jq,jq,hq k hk];simp only[dn];by_cases d1:jI.size≤x.size∧x.extract 0 jI.size=jI
   ·rw[if_pos d1,if_pos d1,if_pos rfl]
   ·rw[if_neg d1,if_neg d1,if_neg (show ¬(false=true) by decide)];by_cases d2:ja.size≤x.size∧x.extract 0 ja.size=ja
    ·rw[if_pos d2,if_pos d2,if_pos rfl]
    ·rw[if_neg d2,if_neg d2,if_neg (show ¬(false=true) by decide)]
  by_cases d1:jI.size≤x.size∧x.extract 0 jI.size=jI
  ·exact go _ (si h _ (og x jI.size x.size _ (by omega))) (fun k hk=>by rw[he k hk,if_pos d1])
  by_cases d2:x.toList=[]
  ·exact go l (mT h) (fun k hk=>by rw[he k hk,if_neg d1,if_pos d2])
  by_cases d3:l.length=0
  ·exact no (fun k hk=>by rw[he k hk,if_neg d1,if_neg d2,if_pos d3])
  by_cases d4:ja.size≤x.size∧x.extract 0 ja.size=ja
  ·exact go _ (ql h _ (og x ja.size x.size _ (by omega))) (fun k hk=>by rw[he k hk,if_neg d1,if_neg d2,if_neg d3,if_pos d4])
  by_cases d5:q.2.2.2.2.2.2=true
  ·by_cases d6:(LO.last l).f1.length=0
   ·exact no (fun k hk=>by rw[he k hk,if_neg d1,if_neg d2,if_neg d3,if_neg d4,if_pos d5,if_pos d6])
   ·exact go _ (qm h _ (r7_ft hg d5)) (fun k hk=>by rw[he k hk,if_neg d1,if_neg d2,if_neg d3,if_neg d4,if_pos d5,if_neg d6])
  ·exact no (fun k hk=>by rw[he k hk,if_neg d1,if_neg d2,if_neg d3,if_neg d4,if_neg d5])
theorem oh {nm:ByteArray} {l:List cR} (h:eo nm l=true):dV nm=true:=by
 unfold eo at h;simp only[Bool.and_eq_true]at h;exact h.2.1
theorem pE {nm:ByteArray} {l:List fk} (h:ie nm l=true):dV nm=true:=by
 unfold ie at h;simp only[Bool.and_eq_true]at h
 first|exact h.1|exact h.1.1|exact h.2.1|exact h.1.2
theorem om {nm:ByteArray} {l:List cR} (h:eo nm l=true):∀m∈l,ie m.f0 m.f1=true:=by
 intro m hm;obtain⟨j,hj,rfl⟩:=List.getElem_of_mem hm;unfold eo at h;exact iE l _ 0 rfl (Bool.and_eq_true_iff.1 h).1 j (by omega) hj
theorem oV (x:ByteArray):∀ls:List ByteArray,x∈ls→x.size≤(fY ls).length
 | y::r,h=>by
  rw[fY,List.length_append,List.length_cons]
  rcases List.mem_cons.1 h with rfl|h
  ·have:x.size=x.data.toList.length:=rfl;omega
  ·have:=oV x r h;omega
theorem oW {m:cR} {z:fk} (hz:z∈m.f1):∀l:List cR,m∈l→iD z∈gp l
 | y::r,h=>by
  rw[gp]
  rcases List.mem_cons.1 h with rfl|h
  ·exact List.mem_cons_of_mem _ (List.mem_append_left _ (List.mem_map_of_mem hz))
  ·exact List.mem_cons_of_mem _ (List.mem_append_right _ (oW hz r h))
theorem oX {s:b5} {x:ByteArray} (hx:x∈gp s.f1):∀l:List b5,s∈l→x∈fG l
 | y::r,h=>by
  rw[fG]
  rcases List.mem_cons.1 h with rfl|h
  ·exact List.mem_cons_of_mem _ (List.mem_append_left _ hx)
  ·exact List.mem_cons_of_mem _ (List.mem_append_right _ (oX hx r h))
theorem nlM:∀l:List cR,(∀m∈l,dV m.f0=true∧∀z∈m.f1,gq z=true)→∀x∈gp l,(10:UInt8)∉x.data.toList
 | [],_,x,hx=>by simp[gp]at hx
 | m::r,h,x,hx=>by
  rw[gp]at hx
  rcases List.mem_cons.1 hx with rfl|hx
  ·rw[eW];intro hb
   rcases List.mem_append.1 hb with hb|hb
   ·exact absurd hb (by decide)
   ·exact oe (h m (List.mem_cons_self ..)).1 hb
  rcases List.mem_append.1 hx with hx|hx
  ·obtain⟨z,hz,rfl⟩:=List.mem_map.1 hx;exact ins_nl ((h m (List.mem_cons_self ..)).2 z hz)
  ·exact nlM r (fun y hy=>h y (List.mem_cons_of_mem _ hy)) x hx
theorem nlS:∀l:List b5,(∀s∈l,dV s.f0=true∧∀m∈s.f1,dV m.f0=true∧∀z∈m.f1,gq z=true)→∀x∈fG l,(10:UInt8)∉x.data.toList
 | [],_,x,hx=>by simp[fG]at hx
 | m::r,h,x,hx=>by
  rw[fG]at hx
  rcases List.mem_cons.1 hx with rfl|hx
  ·rw[eW];intro hb
   rcases List.mem_append.1 hb with hb|hb
   ·exact absurd hb (by decide)
   ·exact oe (h m (List.mem_cons_self ..)).1 hb
  rcases List.mem_append.1 hx with hx|hx
  ·exact nlM _ (h m (List.mem_cons_self ..)).2 x hx
  ·exact nlS r (fun y hy=>h y (List.mem_cons_of_mem _ hy)) x hx
theorem im {X:List b5} (hm:∀x∈X,iW x) (h:gU X=true):X.length≤6∧∀s∈X,dV s.f0=true∧s.f1.length≤4∧∀m∈s.f1,dV m.f0=true∧m.f1.length≤12∧∀z∈m.f1,gq z=true:=by
 obtain⟨h6,ha⟩:=kr X h;refine⟨h6,fun s hs=>?_⟩;have g:=ha s hs;obtain⟨h4,hb⟩:=iB s.f0 s.f1 (hm s hs).2.1 (hm s hs).2.2 g;exact⟨oh g,h4,fun m hm'=>⟨pE (om g m hm'),(hb m hm').2.1,fun z hz=>((hb m hm').2.2 z hz).2.2⟩⟩
theorem oY {X:List b5} (h:gU X=true) {s:ByteArray} (hs:ny X=s):s.data.toList=fY (fG X):=by
 rw[←hs];unfold ny;rw[if_pos h,nH X _ (kr X h).2];rfl
theorem kT {X:List b5} (hm:∀x∈X,iW x) (h:gU X=true) {s:ByteArray} (hs:ny X=s):cV 10 s=fG X++[⟨#[]⟩] :=
 oR _ (nlS X (fun t ht=>⟨((im hm h).2 t ht).1,fun m hm'=>⟨(((im hm h).2 t ht).2.2 m hm').1,(((im hm h).2 t ht).2.2 m hm').2.2⟩⟩)) s (oY h hs)
theorem kU {X:List b5} (hm:∀x∈X,iW x) (h:gU X=true) {s:ByteArray} (hs:ny X=s) (hz:s.size≤4000):∀t∈X,qj t:=by
 intro t ht;obtain⟨g1,g2,g3⟩:=(im hm h).2 t ht;refine⟨g1,g2,fun m hm'=>⟨(g3 m hm').1,(g3 m hm').2.1,fun z hz'=>⟨(g3 m hm').2.2 z hz',?_⟩⟩⟩;have e:=oV (iD z) (fG X) (oX (oW hz' _ hm') X ht);rw[←oY h hs]at e;have:s.size=s.data.toList.length:=rfl;omega
theorem j8 (k:Nat) (hk:2000000<k) {X:List b5} (h6:X.length≤6) (hg:∀t∈X,qj t):aE.l0 k (fG X) []=some (X,true):=by
 have e:=rW (fun ls l=>aE.l0 k ls l) (fun l nm r hb hn=>by
   have hz:(jI++nm).size=7+nm.size:=by rw[ByteArray.size_append];rfl
   have h1:=kA hn
   show aE.l0 k (_::r) l=_
   rw[aE.l0,if_pos (by omega),py k l nm hb hn];rfl) (fun l nm r hb hl hn=>by
   have hz:(ja++nm).size=7+nm.size:=by rw[ByteArray.size_append];rfl
   have h1:=kA hn
   show aE.l0 k (_::r) l=_
   rw[aE.l0,if_pos (by omega),pz k l nm hb hl hn];rfl) (fun l z r hb hl hm hz=>by
   have h1:=hz.2
   show aE.l0 k (_::r) l=_
   rw[aE.l0,if_pos (by omega),pA k hk l z hb hl hm hz];rfl) [] X [] (by simp;omega) (by simp) hg
 rw[List.append_nil,List.nil_append]at e;exact e
theorem ne_list {x:ByteArray} (h:0<x.size):x.toList≠[]:=by
 intro e;rw[gZ.1 e]at h;exact absurd h (by decide)
theorem pF (k:Nat) (hk:2000000<k) {X:List b5} (h6:X.length≤6) (hg:∀t∈X,qj t):al.l0 k (fG X++[⟨#[]⟩]) []=some (some X):=by
 have e:=rW (fun ls l=>al.l0 k ls l) (fun l nm r hb hn=>by
   show al.l0 k (_::r) l=_
   rw[al.l0,if_pos (il hb),show(⟨#[115,99,114,105,112,116,32]⟩:ByteArray)=jI from rfl,jq,if_pos ⟨by rw[ByteArray.size_append];omega,kz _ _⟩];simp only[dn];rw[if_pos trivial,lO]) (fun l nm r hb hl hn=>by
   have hz:(ja++nm).size=7+nm.size:=by rw[ByteArray.size_append];rfl
   have h2:=List.length_pos_iff.mpr hl
   show al.l0 k (_::r) l=_
   rw[al.l0,if_pos (il hb),show(⟨#[115,99,114,105,112,116,32]⟩:ByteArray)=jI from rfl,show(⟨#[109,101,116,104,111,100,32]⟩:ByteArray)=ja from rfl,jq,jq,if_neg (fun h=>qk nm h.2),if_pos (show ja.size≤(ja++nm).size∧_ from⟨by rw[ByteArray.size_append];omega,kz _ _⟩)];simp only[dn];rw[if_neg (show ¬(false=true) by decide),if_neg (ne_list (by omega)),if_neg (by omega),if_pos trivial,lO]) (fun l z r hb hl hm hz=>by
   have h2:=List.length_pos_iff.mpr hl;have h3:=List.length_pos_iff.mpr hm;have hp:hF (iD z) z.f0 z.f1 z.f2 z.f3 z.f4 z.f5:=⟨hz.1,rfl⟩
   show al.l0 k (_::r) l=_
   rw[al.l0,if_pos (il hb),show(⟨#[115,99,114,105,112,116,32]⟩:ByteArray)=jI from rfl,show(⟨#[109,101,116,104,111,100,32]⟩:ByteArray)=ja from rfl,jq,jq,if_neg (fun h=>sa z hz.1 h.2)];simp only[dn];rw[if_neg (show ¬(false=true) by decide),if_neg (qh hp),if_neg (by omega),if_neg (show ¬(ja.size≤(iD z).size∧(iD z).extract 0 ja.size=ja)from fun h=>sb z hz.1 h.2),if_neg (show ¬(false=true) by decide),nG (by have:=hz.2;omega) hp k hk];simp only[dn];rw[if_pos trivial,if_neg (by omega)]) [⟨#[]⟩] X [] (by simp;omega) (by simp) hg
 rw[List.nil_append]at e;refine Eq.trans e ?_
 show al.l0 k [⟨#[]⟩] X=_
 have hb:pw X:=bnd_L X (by omega) (fun s hs=>⟨by have:=(hg s hs).2.1;omega,fun m hm=>by have:=((hg s hs).2.2 m hm).2.1;omega⟩);rw[al.l0,if_pos (il hb),show(⟨#[115,99,114,105,112,116,32]⟩:ByteArray)=jI from rfl,jq,if_neg (fun h=>absurd h.1 (by decide))];simp only[dn];rw[if_neg (show ¬(false=true) by decide),if_pos (gZ.2 rfl)];rfl
theorem pl_both (s:ByteArray) (hs:s.size≤1048576):∃(R:List b5×Bool) (K:Nat),(∀k,K≤k→aE.f k s=some R∧al.f k s=some R)∧R.1.length≤6∧(∀x∈R.1,iW x) ∧
  ((R=([],false)∧(s.size≤4000→∀X:List b5,X.length≤1048576→(∀x∈X,iW x)→gU X=true→ny X≠s))∨(R.2=true∧s.size≤4000∧gU R.1=true∧ny R.1=s)):=by
 by_cases c:(s.size:Int)>4000
 ·refine⟨([],false),0,fun k _=>⟨?_,?_⟩,by simp,by simp,.inl ⟨rfl,fun h=>by omega⟩⟩
  ·unfold aE.f;rw[if_pos c]
  ·unfold al.f;rw[if_pos c]
 have hz:s.size≤4000:=by omega
 obtain⟨w1,w2⟩:=iV 10 s;have w0:=kQ 10 s;have eS (k:Nat) (hk:5000<k):bA.f k s 10=some (cV 10 s):=mK 10 s (by omega) k (by omega);have eI:strings_Split.f s ⟨#[10]⟩=some (cV 10 s):=mJ 10 s (by omega);by_cases h:∃X:List b5,X.length≤1048576∧(∀x∈X,iW x)∧gU X=true∧ny X=s
 ·obtain⟨X,hl,hm,hb,hf⟩:=h;have h6:=(im hm hb).1;have hg:=kU hm hb hf hz;have hw:=kT hm hb hf;obtain⟨K1,g1⟩:=libP X hl hm;obtain⟨K2,g2⟩:=nZ X hl hm;refine⟨(X,true),K1+K2+60000000,fun k hk=>⟨?_,?_⟩,h6,hm,.inr ⟨rfl,hz,hb,hf⟩⟩
  ·unfold aE.f;rw[if_neg c,eS k (by omega)];simp only[dn];rw[if_pos ⟨w0,by omega⟩,hw,List.length_append,List.length_singleton,Nat.add_sub_cancel,List.take_left' rfl,j8 k (by omega) h6 hg];simp only[dn];rw[if_pos trivial,g1 k (by omega)];simp only[dn];rw[if_pos hb,g2 k (by omega)];simp only[dn];rw[if_pos (by rw[hf])]
  ·unfold al.f;rw[if_neg c,eI];simp only[dn];rw[if_pos ⟨w0,by omega⟩,hw,pF k (by omega) h6 hg];simp only[dn]
   show(aK.f k X).bind _=_
   rw[libI X hl hm k (by omega)];simp only[dn];rw[if_pos hb,ks X hl hm k (by omega)];simp only[dn];rw[if_pos (by rw[hf])]
 ·have hno:∀X:List b5,X.length≤1048576→(∀x∈X,iW x)→gU X=true→ny X≠s:=fun X a b d e=>h ⟨X,a,b,d,e⟩
  have z0:kB 0 ([]:List b5):=⟨by simp,by simp⟩;obtain⟨⟨l1,b1⟩,r1,f1⟩:=oT ((cV 10 s).take ((cV 10 s).length-1)) 0 [] (fun x hx=>by have:=w2 x (List.mem_of_mem_take hx);omega) z0 (by rw[List.length_take];omega);obtain⟨R2,r2,f2⟩:=oU (cV 10 s) 0 [] (fun x hx=>by have:=w2 x hx;omega) z0 (by omega);obtain⟨hl1,hm1⟩:=sf (by rw[List.length_take];omega) f1;obtain⟨K1,g1⟩:=libP l1 hl1 hm1;obtain⟨K2,g2⟩:=nZ l1 hl1 hm1;refine⟨([],false),K1+K2+60000000,fun k hk=>⟨?_,?_⟩,by simp,by simp,.inl ⟨rfl,fun _=>hno⟩⟩
  ·unfold aE.f;rw[if_neg c,eS k (by omega)];simp only[dn];rw[if_pos ⟨w0,by omega⟩,r1 k (by omega)];simp only[dn]
   cases b1
   ·rw[if_neg (by decide)]
   ·rw[if_pos rfl,g1 k (by omega)];simp only[dn];by_cases hb:gU l1=true
    ·rw[if_pos hb,g2 k (by omega)];simp only[dn];rw[if_neg (fun e=>hno l1 hl1 hm1 hb (lq.1 e))]
    ·rw[if_neg hb]
  ·unfold al.f;rw[if_neg c,eI];simp only[dn];rw[if_pos ⟨w0,by omega⟩,r2 k (by omega)];simp only[dn]
   cases R2 with
   | none=>rfl
   | some l2 =>
    obtain⟨hl2,hm2⟩:=sf (by omega) (f2 l2 rfl)
    show(aK.f k l2).bind _=_
    rw[libI l2 hl2 hm2 k (by omega)];simp only[dn];by_cases hb:gU l2=true
    ·rw[if_pos hb,ks l2 hl2 hm2 k (by omega)];simp only[dn];rw[if_neg (fun e=>hno l2 hl2 hm2 hb (lq.1 e))]
    ·rw[if_neg hb]
theorem sk (n:Int):Go.bits .and .i64 n 255=n % 256:=by
 have h255:(BitVec.ofInt 64 255).toNat=2 ^ 8-1:=by decide
 have key:(BitVec.ofInt 64 n &&& BitVec.ofInt 64 255).toNat=(n % ((2 ^ 64:Nat):Int)).toNat % 2 ^ 8:=by
  rw[BitVec.toNat_and,BitVec.toNat_ofInt,h255,Nat.and_two_pow_sub_one_eq_mod]
 show IntKind.i64.wrap ((BitVec.ofInt 64 n &&& BitVec.ofInt 64 255).toNat:Nat)=n % 256
 rw[key,IntKind.wrap_i64];omega
def fW (l:List Int) (p:Int):Prop:=0≤p∧p≤(l.length:Int)
theorem lQ (l:List Int) (hl:l.length≤1048576) (p s:Int) (hp:fW l p):∃b q t,cP.f l p s=some (b,q,t)∧(0≤b∧b<256)∧fW l q:=by
 have h0:=hp.1;have h1:=hp.2;unfold cP.f;by_cases c:p<(l.length:Int)
 ·rw[if_pos c,if_pos h0];refine⟨_,_,_,rfl,?_,?_⟩
  ·rw[sk];exact⟨Int.emod_nonneg _ (by decide),Int.emod_lt_of_pos _ (by decide)⟩
  ·rw[Kit.fJ (p+1) (by omega) (by omega)];exact⟨by omega,by omega⟩
 ·rw[if_neg c];refine⟨_,_,_,rfl,?_,hp⟩;rw[sk];exact⟨Int.emod_nonneg _ (by decide),Int.emod_lt_of_pos _ (by decide)⟩
theorem ei (l:List Int) (hl:l.length≤1048576) (p s:Int) (hp:fW l p) (a:Int):∃v q t,av.f l p s a=some (v,q,t)∧(0≤v∧(0<a→v<a)∧(a≤0→v=0))∧fW l q:=by
 unfold av.f;by_cases c:a≤0
 ·rw[if_pos c];exact⟨0,p,s,rfl,⟨by omega,by omega,fun _=>rfl⟩,hp⟩
 ·rw[if_neg c];have hn:¬a=0:=by omega
  by_cases c2:a≤256
  ·rw[if_pos c2];obtain⟨b,q,t,e,hb,hq⟩:=lQ l hl p s hp;rw[e];simp only[dn];rw[if_neg hn];exact⟨_,_,_,rfl,⟨Int.tmod_nonneg _ hb.1,fun _=>Int.tmod_lt_of_pos _ (by omega),fun h=>absurd h c⟩,hq⟩
  ·rw[if_neg c2];obtain⟨b,q,t,e,hb,hq⟩:=lQ l hl p s hp;rw[e];simp only[dn];obtain⟨b2,q2,t2,e2,hb2,hq2⟩:=lQ l hl q t hq;rw[e2];simp only[dn];obtain⟨b3,q3,t3,e3,hb3,hq3⟩:=lQ l hl q2 t2 hq2;rw[e3];simp only[dn];rw[if_neg hn]
   have hv:0≤wrap64 ((wrap64 ((wrap64 (b*65536))+(wrap64 (b2*256))))+b3):=by
    rw[Kit.fJ (b*65536) (by omega) (by omega),Kit.fJ (b2*256) (by omega) (by omega),Kit.fJ (b*65536+b2*256) (by omega) (by omega),Kit.fJ _ (by omega) (by omega)];omega
   exact⟨_,_,_,rfl,⟨Int.tmod_nonneg _ hv,fun _=>Int.tmod_lt_of_pos _ (by omega),fun h=>absurd h c⟩,hq3⟩
theorem lR (l:List Int) (hl:l.length≤1048576) (p s:Int) (hp:fW l p) (a:Int):∃v q t,cQ.f l p s a=some (v,q,t)∧fW l q:=by
 obtain⟨v,q,t,e,_,hq⟩:=ei l hl p s hp a;unfold cQ.f;rw[e];exact⟨_,_,_,rfl,hq⟩
theorem jr (l:List Int) (hl:l.length≤1048576) (p s:Int) (hp:fW l p) (xs:List Int) (hx:xs≠[]):∃v q t,br.f l p s xs=some (v,q,t)∧v∈xs∧fW l q:=by
 obtain⟨v,q,t,e,hv,hq⟩:=ei l hl p s hp (xs.length:Int);have hlen:0<xs.length:=List.length_pos_iff.2 hx;have hv1:=hv.2.1 (by omega);have hv0:=hv.1;unfold br.f;rw[e];simp only[dn];rw[if_pos hv0,if_pos hv1];refine⟨_,_,_,rfl,?_,hq⟩;obtain⟨n,rfl⟩:=Int.eq_ofNat_of_zero_le hv0;rw[Kit.rd_lt xs n (by omega)];exact List.getElem_mem _
theorem sl (l:List Int) (hl:l.length≤1048576) (d:Nat):∀(k i:Nat) (s:Int),i≤l.length→l.length-i=d→d<k→∃t,bL.l0 k l s (i:Int)=some (l,0,t):=by
 induction d with
 | zero =>
  intro k i s h0 h1 h2;obtain⟨k,rfl⟩:∃m,k=m+1:=⟨k-1,by omega⟩;simp only[bL.l0];rw[if_neg (by omega)];exact⟨_,rfl⟩
 | succ d ih =>
  intro k i s h0 h1 h2;obtain⟨k,rfl⟩:∃m,k=m+1:=⟨k-1,by omega⟩;simp only[bL.l0];rw[if_pos (by omega)];by_cases c:(i:Int)<4000
  ·rw[if_pos c,if_pos (by omega),Kit.dy i (by omega)];exact ih k (i+1) _ (by omega) (by omega) (by omega)
  ·rw[if_neg c];exact⟨_,rfl⟩
theorem pG (l:List Int) (hl:l.length≤1048576) (k:Nat) (hk:l.length<k):∃t,bL.f k l=some (l,0,t):=sl l hl l.length k 0 _ (by omega) (by omega) hk
theorem sn (l:List Int):fW l 0:=⟨by omega,by omega⟩
theorem js (l:List Int) (hl:l.length≤1048576) (p s:Int) (hp:fW l p) (xs:List ByteArray) (hx:xs≠[]) (hz:∀x∈xs,x.size≤100):∃v q t,bq.f l p s xs=some (v,q,t)∧v.size≤100∧fW l q:=by
 obtain⟨v,q,t,e,hv,hq⟩:=ei l hl p s hp (xs.length:Int);have hlen:0<xs.length:=List.length_pos_iff.2 hx;have hv1:=hv.2.1 (by omega);have hv0:=hv.1;unfold bq.f;rw[e];simp only[dn];rw[if_pos hv0,if_pos hv1];refine⟨_,_,_,rfl,?_,hq⟩;obtain⟨n,rfl⟩:=Int.eq_ofNat_of_zero_le hv0;unfold dM;rw[Int.toNat_natCast,List.getD_eq_getElem?_getD,List.getElem?_eq_getElem (by omega)];exact hz _ (List.getElem_mem _)
def rI (v:Int):Prop:=-9223372036854775808≤v∧v≤9223372036854775807
theorem bz (x:Int):rI (wrap64 x):=by
 unfold rI wrap64;omega
theorem db {v a:Int} (h:0≤v∧(0<a→v<a)∧(a≤0→v=0)) (h0:0<a) (h1:a≤1000):rI v:=by
 have:=h.2.1 h0;unfold rI;omega
theorem dc {v:Int} {xs:List Int} (h:v∈xs) (hx:∀x∈xs,-1000≤x∧x≤2000000):rI v:=by
 have:=hx v h;unfold rI;omega
theorem r0:rI 0:=by unfold rI;omega
theorem r1:rI (-1):=by unfold rI;omega
def sq (l:List Int) (o:Option (Int×Int×Int×Int×Int×ByteArray×Int×Int)):Prop:=∃op a b c d s q t,o=some (op,a,b,c,d,s,q,t)∧s.size≤100∧(rI a∧rI b∧rI c∧rI d)∧fW l q
theorem nJ (l:List Int) (hl:l.length≤1048576) (p s:Int) (hp:fW l p):∃v q t,ec.f l p s=some (v,q,t)∧v.size≤100∧fW l q:=by
 unfold ec.f
 obtain⟨v,q,t,e,hv,hq⟩:=js l hl p s hp [(⟨#[103,101,116]⟩:ByteArray),(⟨#[115,101,116]⟩:ByteArray),(⟨#[97,100,100]⟩:ByteArray),(⟨#[109,97,107,101]⟩:ByteArray),(⟨#[103,111]⟩:ByteArray)] (by simp) (by
  intro x hx;simp only[List.mem_cons,List.not_mem_nil,or_false]at hx
  rcases hx with rfl|rfl|rfl|rfl|rfl<;>decide)
 rw[e];exact⟨_,_,_,rfl,hv,hq⟩
theorem gL:(⟨#[]⟩:ByteArray).size≤100:=by decide
theorem sr (l:List Int) (hl:l.length≤1048576) (k:Nat) (x3 x4 x5 x14:Int) (r3:rI x3) (r4:rI x4) (r5:rI x5) (b:Bool) (p s:Int) (hp:fW l p):sq l (aD.j2 (k+1) x3 x4 x5 x14 b l p s):=by
 simp only[aD.j2];by_cases c0:b=true
 ·rw[if_pos c0];by_cases c1:x5= -1
  ·rw[if_pos c1];obtain⟨v,q,t,e,hv,hq⟩:=nJ l hl p s hp;rw[e];exact⟨_,_,_,_,_,_,_,_,rfl,hv,⟨(by first|assumption|exact r0|exact r1|exact bz _|exact db (by assumption) (by decide) (by decide)|exact dc (by assumption) (by decide)),(by first|assumption|exact r0|exact r1|exact bz _|exact db (by assumption) (by decide) (by decide)|exact dc (by assumption) (by decide)),(by first|assumption|exact r0|exact r1|exact bz _|exact db (by assumption) (by decide) (by decide)|exact dc (by assumption) (by decide)),(by first|assumption|exact r0|exact r1|exact bz _|exact db (by assumption) (by decide) (by decide)|exact dc (by assumption) (by decide))⟩,hq⟩
  ·rw[if_neg c1];obtain⟨u,q0,t0,e0,_,hq0⟩:=jr l hl p s hp [(-1),0,3] (by simp);rw[e0];simp only[dn];obtain⟨v,q,t,e,hv,hq⟩:=nJ l hl q0 t0 hq0;rw[e];exact⟨_,_,_,_,_,_,_,_,rfl,hv,⟨(by first|assumption|exact r0|exact r1|exact bz _|exact db (by assumption) (by decide) (by decide)|exact dc (by assumption) (by decide)),(by first|assumption|exact r0|exact r1|exact bz _|exact db (by assumption) (by decide) (by decide)|exact dc (by assumption) (by decide)),(by first|assumption|exact r0|exact r1|exact bz _|exact db (by assumption) (by decide) (by decide)|exact dc (by assumption) (by decide)),(by first|assumption|exact r0|exact r1|exact bz _|exact db (by assumption) (by decide) (by decide)|exact dc (by assumption) (by decide))⟩,hq⟩
 ·rw[if_neg c0];by_cases c9:x14=9
  ·rw[if_pos c9];by_cases c1:x5= -1
   ·rw[if_pos c1]
    obtain⟨v,q,t,e,hv,hq⟩:=js l hl p s hp [(⟨#[99,101,108,108]⟩:ByteArray),(⟨#[112,114,111,120,121]⟩:ByteArray),(⟨#[109,97,107,101,114]⟩:ByteArray),(⟨#[110,111,110,101]⟩:ByteArray)] (by simp) (by
     intro x hx;simp only[List.mem_cons,List.not_mem_nil,or_false]at hx
     rcases hx with rfl|rfl|rfl|rfl<;>decide)
    rw[e];exact⟨_,_,_,_,_,_,_,_,rfl,hv,⟨(by first|assumption|exact r0|exact r1|exact bz _|exact db (by assumption) (by decide) (by decide)|exact dc (by assumption) (by decide)),(by first|assumption|exact r0|exact r1|exact bz _|exact db (by assumption) (by decide) (by decide)|exact dc (by assumption) (by decide)),(by first|assumption|exact r0|exact r1|exact bz _|exact db (by assumption) (by decide) (by decide)|exact dc (by assumption) (by decide)),(by first|assumption|exact r0|exact r1|exact bz _|exact db (by assumption) (by decide) (by decide)|exact dc (by assumption) (by decide))⟩,hq⟩
   ·rw[if_neg c1]
    obtain⟨v,q,t,e,hv,hq⟩:=js l hl p s hp [(⟨#[99,101,108,108]⟩:ByteArray),(⟨#[112,114,111,120,121]⟩:ByteArray),(⟨#[109,97,107,101,114]⟩:ByteArray)] (by simp) (by
     intro x hx;simp only[List.mem_cons,List.not_mem_nil,or_false]at hx
     rcases hx with rfl|rfl|rfl<;>decide)
    rw[e];exact⟨_,_,_,_,_,_,_,_,rfl,hv,⟨(by first|assumption|exact r0|exact r1|exact bz _|exact db (by assumption) (by decide) (by decide)|exact dc (by assumption) (by decide)),(by first|assumption|exact r0|exact r1|exact bz _|exact db (by assumption) (by decide) (by decide)|exact dc (by assumption) (by decide)),(by first|assumption|exact r0|exact r1|exact bz _|exact db (by assumption) (by decide) (by decide)|exact dc (by assumption) (by decide)),(by first|assumption|exact r0|exact r1|exact bz _|exact db (by assumption) (by decide) (by decide)|exact dc (by assumption) (by decide))⟩,hq⟩
  ·rw[if_neg c9];by_cases fp:x14=10
   ·rw[if_pos fp];obtain⟨v,q,t,e,_,hq⟩:=ei l hl p s hp 3;rw[e];exact⟨_,_,_,_,_,_,_,_,rfl,gL,⟨(by first|assumption|exact r0|exact r1|exact bz _|exact db (by assumption) (by decide) (by decide)|exact dc (by assumption) (by decide)),(by first|assumption|exact r0|exact r1|exact bz _|exact db (by assumption) (by decide) (by decide)|exact dc (by assumption) (by decide)),(by first|assumption|exact r0|exact r1|exact bz _|exact db (by assumption) (by decide) (by decide)|exact dc (by assumption) (by decide)),(by first|assumption|exact r0|exact r1|exact bz _|exact db (by assumption) (by decide) (by decide)|exact dc (by assumption) (by decide))⟩,hq⟩
   ·rw[if_neg fp];obtain⟨v,q,t,e,hq⟩:=lR l hl p s hp 2;rw[e];simp only[dn];by_cases c2:v=true
    ·rw[if_pos c2];obtain⟨v3,q3,t3,e3,_,hq3⟩:=ei l hl q t hq 3;rw[e3];exact⟨_,_,_,_,_,_,_,_,rfl,gL,⟨(by first|assumption|exact r0|exact r1|exact bz _|exact db (by assumption) (by decide) (by decide)|exact dc (by assumption) (by decide)),(by first|assumption|exact r0|exact r1|exact bz _|exact db (by assumption) (by decide) (by decide)|exact dc (by assumption) (by decide)),(by first|assumption|exact r0|exact r1|exact bz _|exact db (by assumption) (by decide) (by decide)|exact dc (by assumption) (by decide)),(by first|assumption|exact r0|exact r1|exact bz _|exact db (by assumption) (by decide) (by decide)|exact dc (by assumption) (by decide))⟩,hq3⟩
    ·rw[if_neg c2];exact⟨_,_,_,_,_,_,_,_,rfl,gL,⟨(by first|assumption|exact r0|exact r1|exact bz _|exact db (by assumption) (by decide) (by decide)|exact dc (by assumption) (by decide)),(by first|assumption|exact r0|exact r1|exact bz _|exact db (by assumption) (by decide) (by decide)|exact dc (by assumption) (by decide)),(by first|assumption|exact r0|exact r1|exact bz _|exact db (by assumption) (by decide) (by decide)|exact dc (by assumption) (by decide)),(by first|assumption|exact r0|exact r1|exact bz _|exact db (by assumption) (by decide) (by decide)|exact dc (by assumption) (by decide))⟩,hq⟩
theorem su (l:List Int) (hl:l.length≤1048576) (k:Nat) (x3 x4 x5 x14:Int) (r3:rI x3) (r4:rI x4) (r5:rI x5) (b:Bool) (p s:Int) (hp:fW l p):sq l (aD.j1 (k+2) x3 x4 x5 x14 b l p s):=by
 simp only[aD.j1];by_cases c0:b=true
 ·rw[if_pos c0];obtain⟨v,q,t,e,_,hq⟩:=ei l hl p s hp 2;rw[e];exact⟨_,_,_,_,_,_,_,_,rfl,gL,⟨(by first|assumption|exact r0|exact r1|exact bz _|exact db (by assumption) (by decide) (by decide)|exact dc (by assumption) (by decide)),(by first|assumption|exact r0|exact r1|exact bz _|exact db (by assumption) (by decide) (by decide)|exact dc (by assumption) (by decide)),(by first|assumption|exact r0|exact r1|exact bz _|exact db (by assumption) (by decide) (by decide)|exact dc (by assumption) (by decide)),(by first|assumption|exact r0|exact r1|exact bz _|exact db (by assumption) (by decide) (by decide)|exact dc (by assumption) (by decide))⟩,hq⟩
 ·rw[if_neg c0];by_cases c4:x14=4
  ·rw[if_pos c4];obtain⟨v,q,t,e,_,hq⟩:=ei l hl p s hp 3;rw[e];exact⟨_,_,_,_,_,_,_,_,rfl,gL,⟨(by first|assumption|exact r0|exact r1|exact bz _|exact db (by assumption) (by decide) (by decide)|exact dc (by assumption) (by decide)),(by first|assumption|exact r0|exact r1|exact bz _|exact db (by assumption) (by decide) (by decide)|exact dc (by assumption) (by decide)),(by first|assumption|exact r0|exact r1|exact bz _|exact db (by assumption) (by decide) (by decide)|exact dc (by assumption) (by decide)),(by first|assumption|exact r0|exact r1|exact bz _|exact db (by assumption) (by decide) (by decide)|exact dc (by assumption) (by decide))⟩,hq⟩
  ·rw[if_neg c4];by_cases c5:x14=5
   ·rw[if_pos c5];exact⟨_,_,_,_,_,_,_,_,rfl,gL,⟨(by first|assumption|exact r0|exact r1|exact bz _|exact db (by assumption) (by decide) (by decide)|exact dc (by assumption) (by decide)),(by first|assumption|exact r0|exact r1|exact bz _|exact db (by assumption) (by decide) (by decide)|exact dc (by assumption) (by decide)),(by first|assumption|exact r0|exact r1|exact bz _|exact db (by assumption) (by decide) (by decide)|exact dc (by assumption) (by decide)),(by first|assumption|exact r0|exact r1|exact bz _|exact db (by assumption) (by decide) (by decide)|exact dc (by assumption) (by decide))⟩,hp⟩
   ·rw[if_neg c5];by_cases c6:x14=6
    ·rw[if_pos c6];obtain⟨v,q,t,e,_,hq⟩:=ei l hl p s hp 4;rw[e];exact⟨_,_,_,_,_,_,_,_,rfl,gL,⟨(by first|assumption|exact r0|exact r1|exact bz _|exact db (by assumption) (by decide) (by decide)|exact dc (by assumption) (by decide)),(by first|assumption|exact r0|exact r1|exact bz _|exact db (by assumption) (by decide) (by decide)|exact dc (by assumption) (by decide)),(by first|assumption|exact r0|exact r1|exact bz _|exact db (by assumption) (by decide) (by decide)|exact dc (by assumption) (by decide)),(by first|assumption|exact r0|exact r1|exact bz _|exact db (by assumption) (by decide) (by decide)|exact dc (by assumption) (by decide))⟩,hq⟩
    ·rw[if_neg c6];by_cases c7:x14=7
     ·rw[if_pos c7];exact sr l hl k _ _ _ _ r3 r4 r5 _ p s hp
     ·rw[if_neg c7];exact sr l hl k _ _ _ _ r3 r4 r5 _ p s hp
theorem sv (l:List Int) (hl:l.length≤1048576) (k:Nat) (x3 x4 x5 x14:Int) (r3:rI x3) (r4:rI x4) (r5:rI x5) (b:Bool) (p s:Int) (hp:fW l p):sq l (aD.j0 (k+3) x3 x4 x5 x14 b l p s):=by
 simp only[aD.j0];by_cases c0:b=true
 ·rw[if_pos c0];obtain⟨v,q,t,e,_,hq⟩:=ei l hl p s hp 9;rw[e];exact⟨_,_,_,_,_,_,_,_,rfl,gL,⟨(by first|assumption|exact r0|exact r1|exact bz _|exact db (by assumption) (by decide) (by decide)|exact dc (by assumption) (by decide)),(by first|assumption|exact r0|exact r1|exact bz _|exact db (by assumption) (by decide) (by decide)|exact dc (by assumption) (by decide)),(by first|assumption|exact r0|exact r1|exact bz _|exact db (by assumption) (by decide) (by decide)|exact dc (by assumption) (by decide)),(by first|assumption|exact r0|exact r1|exact bz _|exact db (by assumption) (by decide) (by decide)|exact dc (by assumption) (by decide))⟩,hq⟩
 ·rw[if_neg c0];by_cases c2:x14=2
  ·rw[if_pos c2];exact su l hl k _ _ _ _ r3 r4 r5 _ p s hp
  ·rw[if_neg c2];exact su l hl k _ _ _ _ r3 r4 r5 _ p s hp
theorem mU (l:List Int) (hl:l.length≤1048576) (k:Nat) (p s:Int) (hp:fW l p):sq l (aD.f (k+3) l p s):=by
 unfold aD.f;obtain⟨a,q,t,e,_,hq⟩:=ei l hl p s hp 4;rw[e];simp only[dn];obtain⟨b,q1,t1,e1,_,hq1⟩:=ei l hl q t hq 4;rw[e1];simp only[dn];obtain⟨d,q2,t2,e2,_,hq2⟩:=jr l hl q1 t1 hq1 [(-1),(-1),0,1,2] (by simp);rw[e2];simp only[dn];obtain⟨c,q3,t3,e3,_,hq3⟩:=ei l hl q2 t2 hq2 12;rw[e3];simp only[dn];by_cases c0:c=0
 ·rw[if_pos c0];exact sv l hl k _ _ _ _ (by first|assumption|exact r0|exact r1|exact bz _|exact db (by assumption) (by decide) (by decide)|exact dc (by assumption) (by decide)) (by first|assumption|exact r0|exact r1|exact bz _|exact db (by assumption) (by decide) (by decide)|exact dc (by assumption) (by decide)) (by first|assumption|exact r0|exact r1|exact bz _|exact db (by assumption) (by decide) (by decide)|exact dc (by assumption) (by decide)) _ q3 t3 hq3
 ·rw[if_neg c0];exact sv l hl k _ _ _ _ (by first|assumption|exact r0|exact r1|exact bz _|exact db (by assumption) (by decide) (by decide)|exact dc (by assumption) (by decide)) (by first|assumption|exact r0|exact r1|exact bz _|exact db (by assumption) (by decide) (by decide)|exact dc (by assumption) (by decide)) (by first|assumption|exact r0|exact r1|exact bz _|exact db (by assumption) (by decide) (by decide)|exact dc (by assumption) (by decide)) _ q3 t3 hq3
theorem sw (l:List Int) (hl:l.length≤1048576) (k:Nat) (p s:Int) (hp:fW l p):sq l (dP.f (k+3) l p s):=by
 unfold dP.f;obtain⟨op,a,b,c,d,n,q,t,e,hn,⟨ra,rb,rc,rd⟩,hq⟩:=mU l hl k p s hp;rw[e];simp only[dn];obtain⟨v,q1,t1,e1,_,hq1⟩:=ei l hl q t hq 10;rw[e1];simp only[dn];by_cases c0:v=0
 ·rw[if_pos c0];obtain⟨u,q2,t2,e2,_,hq2⟩:=jr l hl q1 t1 hq1 [(-1),7,8,3] (by simp);rw[e2];exact⟨_,_,_,_,_,_,_,_,rfl,hn,⟨(by first|assumption|exact r0|exact r1|exact bz _|exact db (by assumption) (by decide) (by decide)|exact dc (by assumption) (by decide)),(by first|assumption|exact r0|exact r1|exact bz _|exact db (by assumption) (by decide) (by decide)|exact dc (by assumption) (by decide)),(by first|assumption|exact r0|exact r1|exact bz _|exact db (by assumption) (by decide) (by decide)|exact dc (by assumption) (by decide)),(by first|assumption|exact r0|exact r1|exact bz _|exact db (by assumption) (by decide) (by decide)|exact dc (by assumption) (by decide))⟩,hq2⟩
 rw[if_neg c0];by_cases c1:v=1
 ·rw[if_pos c1];obtain⟨u,q2,t2,e2,_,hq2⟩:=jr l hl q1 t1 hq1 [(-1),0,2,12,13,999999,1000000] (by simp);rw[e2];exact⟨_,_,_,_,_,_,_,_,rfl,hn,⟨(by first|assumption|exact r0|exact r1|exact bz _|exact db (by assumption) (by decide) (by decide)|exact dc (by assumption) (by decide)),(by first|assumption|exact r0|exact r1|exact bz _|exact db (by assumption) (by decide) (by decide)|exact dc (by assumption) (by decide)),(by first|assumption|exact r0|exact r1|exact bz _|exact db (by assumption) (by decide) (by decide)|exact dc (by assumption) (by decide)),(by first|assumption|exact r0|exact r1|exact bz _|exact db (by assumption) (by decide) (by decide)|exact dc (by assumption) (by decide))⟩,hq2⟩
 rw[if_neg c1];by_cases c2:v=2
 ·rw[if_pos c2];obtain⟨u,q2,t2,e2,_,hq2⟩:=jr l hl q1 t1 hq1 [(-1),0,8] (by simp);rw[e2];exact⟨_,_,_,_,_,_,_,_,rfl,hn,⟨(by first|assumption|exact r0|exact r1|exact bz _|exact db (by assumption) (by decide) (by decide)|exact dc (by assumption) (by decide)),(by first|assumption|exact r0|exact r1|exact bz _|exact db (by assumption) (by decide) (by decide)|exact dc (by assumption) (by decide)),(by first|assumption|exact r0|exact r1|exact bz _|exact db (by assumption) (by decide) (by decide)|exact dc (by assumption) (by decide)),(by first|assumption|exact r0|exact r1|exact bz _|exact db (by assumption) (by decide) (by decide)|exact dc (by assumption) (by decide))⟩,hq2⟩
 rw[if_neg c2];by_cases c3:v=3
 ·rw[if_pos c3];obtain⟨u,q2,t2,e2,_,hq2⟩:=jr l hl q1 t1 hq1 [(-2),(-1),0,7] (by simp);rw[e2];exact⟨_,_,_,_,_,_,_,_,rfl,hn,⟨(by first|assumption|exact r0|exact r1|exact bz _|exact db (by assumption) (by decide) (by decide)|exact dc (by assumption) (by decide)),(by first|assumption|exact r0|exact r1|exact bz _|exact db (by assumption) (by decide) (by decide)|exact dc (by assumption) (by decide)),(by first|assumption|exact r0|exact r1|exact bz _|exact db (by assumption) (by decide) (by decide)|exact dc (by assumption) (by decide)),(by first|assumption|exact r0|exact r1|exact bz _|exact db (by assumption) (by decide) (by decide)|exact dc (by assumption) (by decide))⟩,hq2⟩
 rw[if_neg c3];by_cases c4:v=4
 ·rw[if_pos c4]
  obtain⟨u,q2,t2,e2,hu,hq2⟩:=js l hl q1 t1 hq1 [(⟨#[]⟩:ByteArray),(⟨#[97,98,99,100,101,102]⟩:ByteArray),(⟨#[97,98,99,100,101,102,103]⟩:ByteArray),(⟨#[65]⟩:ByteArray),(⟨#[97,49]⟩:ByteArray)] (by simp) (by
   intro x hx;simp only[List.mem_cons,List.not_mem_nil,or_false]at hx
   rcases hx with rfl|rfl|rfl|rfl|rfl<;>decide)
  rw[e2];exact⟨_,_,_,_,_,_,_,_,rfl,hu,⟨(by first|assumption|exact r0|exact r1|exact bz _|exact db (by assumption) (by decide) (by decide)|exact dc (by assumption) (by decide)),(by first|assumption|exact r0|exact r1|exact bz _|exact db (by assumption) (by decide) (by decide)|exact dc (by assumption) (by decide)),(by first|assumption|exact r0|exact r1|exact bz _|exact db (by assumption) (by decide) (by decide)|exact dc (by assumption) (by decide)),(by first|assumption|exact r0|exact r1|exact bz _|exact db (by assumption) (by decide) (by decide)|exact dc (by assumption) (by decide))⟩,hq2⟩
 rw[if_neg c4];by_cases c5:v=5
 ·rw[if_pos c5];obtain⟨u,q2,t2,e2,_,hq2⟩:=jr l hl q1 t1 hq1 [0,11,6,7] (by simp);rw[e2];exact⟨_,_,_,_,_,_,_,_,rfl,hn,⟨(by first|assumption|exact r0|exact r1|exact bz _|exact db (by assumption) (by decide) (by decide)|exact dc (by assumption) (by decide)),(by first|assumption|exact r0|exact r1|exact bz _|exact db (by assumption) (by decide) (by decide)|exact dc (by assumption) (by decide)),(by first|assumption|exact r0|exact r1|exact bz _|exact db (by assumption) (by decide) (by decide)|exact dc (by assumption) (by decide)),(by first|assumption|exact r0|exact r1|exact bz _|exact db (by assumption) (by decide) (by decide)|exact dc (by assumption) (by decide))⟩,hq2⟩
 rw[if_neg c5];exact⟨_,_,_,_,_,_,_,_,rfl,hn,⟨(by first|assumption|exact r0|exact r1|exact bz _|exact db (by assumption) (by decide) (by decide)|exact dc (by assumption) (by decide)),(by first|assumption|exact r0|exact r1|exact bz _|exact db (by assumption) (by decide) (by decide)|exact dc (by assumption) (by decide)),(by first|assumption|exact r0|exact r1|exact bz _|exact db (by assumption) (by decide) (by decide)|exact dc (by assumption) (by decide)),(by first|assumption|exact r0|exact r1|exact bz _|exact db (by assumption) (by decide) (by decide)|exact dc (by assumption) (by decide))⟩,hq1⟩
theorem qn {op a b c d:Int} {s:ByteArray} (h:rI a∧rI b∧rI c∧rI d):kN (⟨op,a,b,c,d,s⟩:fk):=h
def gI (z:fk):Prop:=kN z∧z.f5.size≤100
def gM (m:cR):Prop:=m.f0.size≤100∧m.f1.length≤40∧∀z∈m.f1,gI z
theorem iM {α:Type} {P:α→Prop} {l:List α} {x:α} (h:∀z∈l,P z) (hx:P x):∀z∈l++[x],P z:=by
 intro z hz
 rcases List.mem_append.1 hz with hz|hz
 ·exact h z hz
 ·rw[List.mem_singleton.1 hz];exact hx
theorem pH (l:List Int) (hl:l.length≤1048576) (nm:ByteArray):∀(n k:Nat) (p s:Int) (acc:List fk),fW l p→n+4<k→acc.length+n≤30→(∀z∈acc,gI z) →
  ∃ms q t,az.l0 k (n:Int) l p s nm acc=some (nm,ms,q,t)∧ms.length≤acc.length+n+1∧(∀z∈ms,gI z)∧fW l q:=by
 intro n
 induction n with
 | zero =>
  intro k p s acc hp hk ha hz;obtain⟨k,rfl⟩:∃m,k=m+1:=⟨k-1,by omega⟩;simp only[az.l0];rw[if_neg (by omega)];obtain⟨v,q,t,e,hq⟩:=lR l hl p s hp 2;rw[e];simp only[dn];by_cases c:v=true
  ·rw[if_pos c];obtain⟨v2,q2,t2,e2,hv2,hq2⟩:=ei l hl q t hq 3;rw[e2];simp only[dn];rw[if_pos (by omega)];refine⟨_,_,_,rfl,?_,iM hz ⟨qn ⟨?_,r0,r0,r0⟩,gL⟩,hq2⟩
   ·simp
   ·exact db hv2 (by decide) (by decide)
  ·rw[if_neg c];exact⟨_,_,_,rfl,by omega,hz,hq⟩
 | succ n ih =>
  intro k p s acc hp hk ha hz;obtain⟨k,rfl⟩:∃m,k=m+3+1:=⟨k-4,by omega⟩;simp only[az.l0];rw[if_pos (by omega)];obtain⟨op,a,b,c,d,x,q,t,e,hx,hr,hq⟩:=mU l hl k p s hp;rw[e];simp only[dn];have hw:wrap64 (((n+1:Nat):Int)-1)=(n:Int):=by unfold wrap64;omega
  rw[if_pos (by omega),hw];obtain⟨ms,q2,t2,e2,h1,h2,h3⟩:=ih (k+3) q t (acc++[⟨op,a,b,c,d,x⟩]) hq (by omega) (by simp;omega) (iM hz (show gI ⟨op,a,b,c,d,x⟩from⟨hr,hx⟩));exact⟨ms,q2,t2,e2,by simp at h1;omega,h2,h3⟩
theorem lS (l:List Int) (hl:l.length≤1048576) (k:Nat) (hk:20<k) (nm:ByteArray) (hn:nm.size≤100) (p s:Int) (hp:fW l p):∃ms q t,az.f k l p s nm=some (nm,ms,q,t)∧gM ⟨nm,ms⟩∧fW l q:=by
 unfold az.f;obtain⟨v,q,t,e,hv,hq⟩:=ei l hl p s hp 6;rw[e];simp only[dn];have h0:=hv.1;have h1:=hv.2.1 (by decide);have hw:wrap64 (1+v)=((1+v.toNat:Nat):Int):=by unfold wrap64;omega
 rw[hw];obtain⟨ms,q2,t2,e2,g1,g2,g3⟩:=pH l hl nm (1+v.toNat) k q t [] hq (by omega) (by simp;omega) (by simp);exact⟨ms,q2,t2,e2,⟨hn,by show ms.length≤40;simp at g1;omega,g2⟩,g3⟩
theorem oZ (l:List Int) (hl:l.length≤1048576) (nm:ByteArray) (xs:List ByteArray) (hx:xs.length≤10) (hz:∀x∈xs,x.size≤100) (d:Nat):∀(k i:Nat) (p s:Int) (acc:List cR),i≤xs.length→xs.length-i=d→fW l p→d+30<k→acc.length+d≤30→(∀z∈acc,gM z) →
  ∃ms q t,ao.l0 k xs (xs.length:Int) (i:Int) l p s nm acc=some (nm,ms,q,t)∧ms.length≤acc.length+d∧(∀z∈ms,gM z)∧fW l q:=by
 induction d with
 | zero =>
  intro k i p s acc h0 h1 hp hk ha hg;obtain⟨k,rfl⟩:∃m,k=m+1:=⟨k-1,by omega⟩;simp only[ao.l0];rw[if_neg (by omega)];exact⟨_,_,_,rfl,by omega,hg,hp⟩
 | succ d ih =>
  intro k i p s acc h0 h1 hp hk ha hg;obtain⟨k,rfl⟩:∃m,k=m+1:=⟨k-1,by omega⟩;simp only[ao.l0];rw[if_pos (by omega),if_pos (by omega),if_pos (by omega),Kit.dy i (by omega)];obtain⟨v,q,t,e,hq⟩:=lR l hl p s hp 3;rw[e];simp only[dn];by_cases c:v=true
  ·rw[if_pos c];obtain⟨ms,q2,t2,e2,g1,g2,g3⟩:=ih k (i+1) q t acc (by omega) (by omega) hq (by omega) (by omega) hg;exact⟨ms,q2,t2,e2,by omega,g2,g3⟩
  ·rw[if_neg c]
   have hs:(dM ByteArray.empty xs (i:Int)).size≤100:=by
    unfold dM;rw[Int.toNat_natCast,List.getD_eq_getElem?_getD,List.getElem?_eq_getElem (by omega)];exact hz _ (List.getElem_mem _)
   obtain⟨y,q1,t1,e1,f1,f2⟩:=lS l hl k (by omega) _ hs q t hq;rw[e1];simp only[dn];rw[if_pos (by omega)];obtain⟨ms,q2,t2,e2,g1,g2,g3⟩:=ih k (i+1) q1 t1 (acc++[⟨dM ByteArray.empty xs (i:Int),y⟩]) (by omega) (by omega) f2 (by omega) (by simp;omega) (iM hg f1);exact⟨ms,q2,t2,e2,by simp at g1;omega,g2,g3⟩
def gS (x:b5):Prop:=x.f0.size≤100∧x.f1.length≤40∧∀m∈x.f1,gM m
theorem fZ (l:List Int) (hl:l.length≤1048576) (k:Nat) (hk:40<k) (nm:ByteArray) (hn:nm.size≤100) (p s:Int) (hp:fW l p):∃ms q t,ao.f k l p s nm=some (nm,ms,q,t)∧(ms.length≤4∧gS ⟨nm,ms⟩)∧fW l q:=by
 unfold ao.f;simp only[dn]
 obtain⟨ms,q2,t2,e2,g1,g2,g3⟩:=oZ l hl nm [(⟨#[103,101,116]⟩:ByteArray),(⟨#[115,101,116]⟩:ByteArray),(⟨#[97,100,100]⟩:ByteArray),(⟨#[103,111]⟩:ByteArray)] (by decide) (by
  intro x hx;simp only[List.mem_cons,List.not_mem_nil,or_false]at hx
  rcases hx with rfl|rfl|rfl|rfl<;>decide) 4 k 0 p s [] (by decide) (by rfl) hp (by omega) (by decide) (by simp)
 have g4:ms.length≤4:=by simpa using g1
 exact⟨ms,q2,t2,e2,⟨g4,hn,by show ms.length≤40;omega,g2⟩,g3⟩
theorem sx (l:List Int) (hl:l.length≤1048576) (k:Nat) (hk:40<k) (p s:Int) (hp:fW l p):∃X q t,bZ.f k l p s=some (X,q,t)∧(X.length=3∧∀x∈X,gS x)∧fW l q:=by
 unfold bZ.f;obtain⟨m1,q1,t1,e1,h1,p1⟩:=fZ l hl k hk _ (show(⟨#[99,101,108,108]⟩:ByteArray).size≤100 by decide) p s hp;rw[e1];simp only[dn];obtain⟨m2,q2,t2,e2,h2,p2⟩:=fZ l hl k hk _ (show(⟨#[112,114,111,120,121]⟩:ByteArray).size≤100 by decide) q1 t1 p1;rw[e2];simp only[dn];obtain⟨m3,q3,t3,e3,h3,p3⟩:=fZ l hl k hk _ (show(⟨#[109,97,107,101,114]⟩:ByteArray).size≤100 by decide) q2 t2 p2;rw[e3];simp only[dn];refine⟨_,_,_,rfl,⟨rfl,fun x hx=>?_⟩,p3⟩;simp only[List.mem_cons,List.not_mem_nil,or_false]at hx
 rcases hx with rfl|rfl|rfl
 ·exact h1.2
 ·exact h2.2
 ·exact h3.2
theorem lany_ok (l:List Int) (hl:l.length≤1048576) (k:Nat) (hk:40<k) (p s:Int) (hp:fW l p):∃nm ms q t,bN.f k l p s=some (nm,ms,q,t)∧gS ⟨nm,ms⟩∧fW l q:=by
 unfold bN.f
 obtain⟨v,q,t,e,hv,hq⟩:=js l hl p s hp [(⟨#[99,101,108,108]⟩:ByteArray),(⟨#[112,114,111,120,121]⟩:ByteArray),(⟨#[109,97,107,101,114]⟩:ByteArray)] (by simp) (by
  intro x hx;simp only[List.mem_cons,List.not_mem_nil,or_false]at hx
  rcases hx with rfl|rfl|rfl<;>decide)
 rw[e];simp only[dn];obtain⟨ms,q1,t1,e1,h1,p1⟩:=fZ l hl k hk v hv q t hq;rw[e1];simp only[dn];obtain⟨u,q2,t2,e2,_,p2⟩:=ei l hl q1 t1 p1 10;rw[e2];simp only[dn];have hm:=h1.2.2.2;have h4:=h1.1;by_cases c0:u=0
 ·rw[if_pos c0]
  obtain⟨v3,q3,t3,e3,hv3,p3⟩:=js l hl q2 t2 p2 [(⟨#[]⟩:ByteArray),(⟨#[65]⟩:ByteArray),(⟨#[97,98,99,100,101,102,103]⟩:ByteArray)] (by simp) (by
   intro x hx;simp only[List.mem_cons,List.not_mem_nil,or_false]at hx
   rcases hx with rfl|rfl|rfl<;>decide)
  rw[e3];exact⟨_,_,_,_,rfl,⟨hv3,h1.2.2.1,hm⟩,p3⟩
 rw[if_neg c0];by_cases c1:u=1
 ·rw[if_pos c1];obtain⟨y,q3,t3,e3,f1,p3⟩:=lS l hl k (by omega) _ (show(⟨#[103,101,116]⟩:ByteArray).size≤100 by decide) q2 t2 p2;rw[e3];simp only[dn];rw[if_pos (by omega)];exact⟨_,_,_,_,rfl,⟨hv,by show(ms++[_]).length≤40;simp;omega,iM hm f1⟩,p3⟩
 rw[if_neg c1];by_cases c2:u=2
 ·rw[if_pos c2];obtain⟨y,q3,t3,e3,f1,p3⟩:=lS l hl k (by omega) _ (show(⟨#[109,97,107,101]⟩:ByteArray).size≤100 by decide) q2 t2 p2;rw[e3];simp only[dn];obtain⟨y4,q4,t4,e4,f4,p4⟩:=lS l hl k (by omega) _ (show(⟨#[120]⟩:ByteArray).size≤100 by decide) q3 t3 p3;rw[e4];simp only[dn];rw[if_pos (by simp;omega)];refine⟨_,_,_,_,rfl,⟨hv,by show(ms++[_,_]).length≤40;simp;omega,fun z hz=>?_⟩,p4⟩
  rcases List.mem_append.1 hz with hz|hz
  ·exact hm z hz
  ·simp only[List.mem_cons,List.not_mem_nil,or_false]at hz
   rcases hz with rfl|rfl
   ·exact f1
   ·exact f4
 rw[if_neg c2];by_cases c3:u=3
 ·rw[if_pos c3];obtain⟨w,q3,t3,e3,hw,p3⟩:=jr l hl q2 t2 p2 [0,1,13] (by simp);rw[e3];simp only[dn]
  have hw':0≤w∧w≤13:=by
   simp only[List.mem_cons,List.not_mem_nil,or_false]at hw;omega
  rw[if_pos hw'.1,if_pos (by omega),if_pos (by omega)];refine⟨_,_,_,_,rfl,⟨hv,by show(ms++[_]).length≤40;simp;omega,iM hm ⟨show(⟨#[109]⟩:ByteArray).size≤100 by decide,?_,fun z hz=>?_⟩⟩,p3⟩
  ·show(List.replicate w.toNat z35).length≤40
   rw[List.length_replicate];omega
  ·rw[List.eq_of_mem_replicate hz];exact⟨qn ⟨r0,r0,r0,r0⟩,gL⟩
 rw[if_neg c3];exact⟨_,_,_,_,rfl,⟨hv,h1.2.2.1,hm⟩,p2⟩
theorem sy {x:b5} (h:gS x):iW x :=
 ⟨by have:=h.1;omega,⟨by have:=h.2.1;omega,fun m hm=>⟨by have:=(h.2.2 m hm).1;omega,by have:=(h.2.2 m hm).2.1;omega,fun z hz=>by have:=((h.2.2 m hm).2.2 z hz).2;omega⟩⟩,fun m hm z hz=>((h.2.2 m hm).2.2 z hz).1⟩
theorem dlib_ok (l:List Int) (hl:l.length≤1048576) (k:Nat) (hk:l.length+40<k):∃X,b6.f k l=some X∧X.length≤10∧∀x∈X,gS x:=by
 unfold b6.f;obtain⟨t0,e0⟩:=pG l hl k (by omega);rw[e0];simp only[dn];obtain⟨X,q1,t1,e1,h1,p1⟩:=sx l hl k (by omega) 0 t0 (sn l);rw[e1];simp only[dn];obtain⟨u,q2,t2,e2,_,p2⟩:=ei l hl q1 t1 p1 6;rw[e2];simp only[dn];by_cases c0:u=0
 ·rw[if_pos c0];obtain⟨nm,ms,q3,t3,e3,f3,p3⟩:=lany_ok l hl k (by omega) q2 t2 p2;rw[e3];simp only[dn];rw[if_pos (by omega)];exact⟨_,rfl,by simp;omega,iM h1.2 f3⟩
 rw[if_neg c0];by_cases c1:u=1
 ·rw[if_pos c1];obtain⟨m3,q3,t3,e3,f3,p3⟩:=fZ l hl k (by omega) _ (show(⟨#[97]⟩:ByteArray).size≤100 by decide) q2 t2 p2;rw[e3];simp only[dn];obtain⟨m4,q4,t4,e4,f4,p4⟩:=fZ l hl k (by omega) _ (show(⟨#[98]⟩:ByteArray).size≤100 by decide) q3 t3 p3;rw[e4];simp only[dn];obtain⟨m5,q5,t5,e5,f5,p5⟩:=fZ l hl k (by omega) _ (show(⟨#[99]⟩:ByteArray).size≤100 by decide) q4 t4 p4;rw[e5];simp only[dn];obtain⟨m6,q6,t6,e6,f6,p6⟩:=fZ l hl k (by omega) _ (show(⟨#[100]⟩:ByteArray).size≤100 by decide) q5 t5 p5;rw[e6];simp only[dn];rw[if_pos (by simp;omega)];refine⟨_,rfl,by simp;omega,fun z hz=>?_⟩
  rcases List.mem_append.1 hz with hz|hz
  ·exact h1.2 z hz
  ·simp only[List.mem_cons,List.not_mem_nil,or_false]at hz
   rcases hz with rfl|rfl|rfl|rfl
   ·exact f3.2
   ·exact f4.2
   ·exact f5.2
   ·exact f6.2
 rw[if_neg c1];exact⟨_,rfl,by omega,h1.2⟩
theorem sC (s:ByteArray):∃(R:List b5×Bool) (K:Nat),(∀k,K≤k→aE.f k s=some R∧al.f k s=some R)∧R.1.length≤6∧(∀x∈R.1,iW x) ∧
  ((R=([],false)∧(s.size≤4000→∀X:List b5,X.length≤1048576→(∀x∈X,iW x)→gU X=true→ny X≠s))∨(R.2=true∧s.size≤4000∧gU R.1=true∧ny R.1=s)):=by
 by_cases c:s.size≤1048576
 ·exact pl_both s c
 ·refine⟨([],false),0,fun k _=>⟨?_,?_⟩,by simp,by simp,.inl ⟨rfl,fun h=>by omega⟩⟩
  ·unfold aE.f;rw[if_pos (by omega)]
  ·unfold al.f;rw[if_pos (by omega)]
theorem nK:∀(X:List b5) (t:ByteArray),(∀x∈X,iW x)→(mE X t).size≤t.size+X.length*200000000
 | [],t,_=>by simp[mE]
 | x::r,t,h=>by
  have h1:=nK r (t++qS x.f0 x.f1) (fun y hy=>h y (List.mem_cons_of_mem _ hy));have h2:=h x (List.mem_cons_self ..);have h3:=mG x.f0 h2.1 x.f1 h2.2.1 h2.2.2;rw[ByteArray.size_append]at h1;rw[mE,List.length_cons];omega
theorem sD (X:List b5) (h:X.length≤10) (hm:∀x∈X,iW x):(ny X).size≤2000000000:=by
 unfold ny
 split
 ·have:=nK X ⟨#[]⟩ hm;have e:(⟨#[]⟩:ByteArray).size=0:=rfl;omega
 ·decide
theorem lib_inj {X Y:List b5} {s:ByteArray} (hx:∀x∈X,iW x) (hy:∀x∈Y,iW x) (bx:gU X=true) (by':gU Y=true) (ex:ny X=s) (ey:ny Y=s) (hz:s.size≤4000):X=Y:=by
 have g1:=j8 2000001 (by omega) (im hx bx).1 (kU hx bx ex hz);have g2:=j8 2000001 (by omega) (im hy by').1 (kU hy by' ey hz);have w1:=kT hx bx ex;have w2:=kT hy by' ey;rw[w1]at w2;rw[List.append_cancel_right w2,g2]at g1;exact(congrArg Prod.fst (Option.some.inj g1)).symm
theorem sE (op a b c d:Int) (nm:ByteArray) (h:rI a∧rI b∧rI c∧rI d) (hn:nm.size≤2000000) (k:Nat) (hk:nm.size+40<k):bh.f k op a b c d nm=some (lM op a b c d nm):=by
 unfold bh.f;rw[j4 op a b c d nm (by omega) k (by omega)];simp only[dn];by_cases hv:eT op a b c d nm=true
 ·rw[if_pos hv,mD op a b c d nm hv h.1.1 h.1.2 h.2.1.1 h.2.1.2 h.2.2.1.1 h.2.2.1.2 h.2.2.2.1 h.2.2.2.2 hn];rfl
 ·rw[if_neg hv];unfold lM;rw[if_neg hv]
theorem qQ (o A1 A2 A3 A4:ByteArray) (op c d:Int) (nm:ByteArray) (ho:o.size≤100) (s1:A1.size≤21) (s2:A2.size≤21) (s3:A3.size≤21) (s4:A4.size≤21) (hn:nm.size≤100):(fiT o A1 A2 A3 A4 op c d nm).size≤1000:=by
 unfold fiT j6
 repeat' split
 all_goals (simp only[ByteArray.size_append,fL];omega)
theorem qR (op a b c d:Int) (nm:ByteArray) (h:rI a∧rI b∧rI c∧rI d) (hn:nm.size≤100):(lM op a b c d nm).size≤1000:=by
 unfold lM
 split
 ·exact qQ (fN op) _ _ _ _ op c d nm (lL op) (dY a h.1.1 h.1.2) (dY b h.2.1.1 h.2.1.2) (dY c h.2.2.1.1 h.2.2.1.2) (dY d h.2.2.2.1 h.2.2.2.2) hn
 ·decide
theorem dpi_ok (l:List Int) (hl:l.length≤1048576):∃u,(∀k,3000000≤k→bK.f k l=some u)∧u.size≤1000:=by
 have key:∃u,bK.f (2999997+3) l=some u∧u.size≤1000:=by
  unfold bK.f;obtain⟨t0,e0⟩:=pG l hl (2999997+3) (by omega);rw[e0];simp only[dn];obtain⟨v,q,t,e,hq⟩:=lR l hl 0 t0 (sn l) 3;rw[e];simp only[dn];by_cases c:v=true
  ·rw[if_pos c]
   obtain⟨w,q2,t2,e2,hw,_⟩:=js l hl q t hq [(⟨#[]⟩:ByteArray),(⟨#[115,101,108,102]⟩:ByteArray),(⟨#[115,101,108,102,32,56]⟩:ByteArray),(⟨#[115,101,108,102,32,48,49]⟩:ByteArray),(⟨#[99,111,110,115,116,32,48,32,49,48,48,48,48,48,48]⟩:ByteArray),(⟨#[115,101,110,100,32,48,32,49]⟩:ByteArray),(⟨#[115,101,110,100,32,48,32,49,32,103,101,116]⟩:ByteArray),(⟨#[115,101,110,100,32,48,32,49,32,103,101,116,32,50,32,51]⟩:ByteArray),(⟨#[115,101,110,100,32,48,32,49,32,103,101,116,32,50,32,51,32,52]⟩:ByteArray),(⟨#[110,101,119,32,48,32,99,101,108,108]⟩:ByteArray),(⟨#[110,101,119,32,48,32,99,101,108,108,32]⟩:ByteArray),(⟨#[97,100,100,32,49,32,50]⟩:ByteArray),(⟨#[114,101,116,117,114,110,32,32,49]⟩:ByteArray),(⟨#[102,108,121,32,49]⟩:ByteArray)] (by simp) (by
    intro x hx;simp only[List.mem_cons,List.not_mem_nil,or_false]at hx
    rcases hx with rfl|rfl|rfl|rfl|rfl|rfl|rfl|rfl|rfl|rfl|rfl|rfl|rfl|rfl<;>decide)
   rw[e2];exact⟨_,rfl,by show w.size≤1000;omega⟩
  ·rw[if_neg c];obtain⟨op,a,b,c,d,x,q2,t2,e2,hx,hr,_⟩:=sw l hl 2999997 q t hq;rw[e2];simp only[dn];rw[nX op a b c d x hr.1.1 hr.1.2 hr.2.1.1 hr.2.1.2 hr.2.2.1.1 hr.2.2.1.2 hr.2.2.2.1 hr.2.2.2.2 (by omega) (2999997+3) (by omega)];exact⟨_,rfl,qR op a b c d x hr hx⟩
 obtain⟨u,e,h⟩:=key;exact⟨u,fun k hk=>fX (g:=fun k=>bK.f k l) (fun k=>bK.mono l k) hk e,h⟩
theorem dpl_ok (l:List Int) (hl:l.length≤1048576):∃(u:ByteArray) (K:Nat),(∀k,K≤k→bG.f k l=some u)∧u.size≤4000000000:=by
 obtain⟨t0,e0⟩:=pG l hl 1048577 (by omega);obtain⟨X,q,t,e,hX,hq⟩:=sx l hl 1048577 (by omega) 0 t0 (sn l);have hm:∀x∈X,iW x:=fun x hx=>sy (hX.2 x hx)
 obtain⟨K,hK⟩:=nZ X (by omega) hm;have hs:=sD X (by omega) hm
 obtain⟨u,hu,e3⟩:∃u:ByteArray,u.size≤4000000000∧bG.f (K+1048577) l=some u:=by
  unfold bG.f;rw[fX (g:=fun k=>bL.f k l) (fun k=>bL.mono l k) (show 1048577≤K+1048577 by omega) e0];simp only[dn];rw[fX (g:=fun k=>bZ.f k l 0 t0) (fun k=>bZ.mono l 0 t0 k) (show 1048577≤K+1048577 by omega) e];simp only[dn];rw[hK _ (by omega)];simp only[dn];obtain⟨v,q2,t2,e2,_,hq2⟩:=ei l hl q t hq 8;rw[e2];simp only[dn];have x1:(⟨#[120]⟩:ByteArray).size=1:=rfl;by_cases c0:v=0
  ·rw[if_pos c0]
   obtain⟨w,q3,t3,e3,hw,_⟩:=js l hl q2 t2 hq2 [(⟨#[]⟩:ByteArray),(⟨#[10]⟩:ByteArray),(⟨#[115,101,108,102,32,48,10]⟩:ByteArray),(⟨#[115,99,114,105,112,116,32,97]⟩:ByteArray),(⟨#[115,99,114,105,112,116,32,97,10]⟩:ByteArray),(⟨#[109,101,116,104,111,100,32,97,10]⟩:ByteArray),(⟨#[115,99,114,105,112,116,32,97,10,115,101,108,102,32,49,10]⟩:ByteArray),(⟨#[115,99,114,105,112,116,32,97,10,109,101,116,104,111,100,32,98,10]⟩:ByteArray),(⟨#[115,99,114,105,112,116,32,65,10]⟩:ByteArray)] (by simp) (by
    intro x hx;simp only[List.mem_cons,List.not_mem_nil,or_false]at hx
    rcases hx with rfl|rfl|rfl|rfl|rfl|rfl|rfl|rfl|rfl<;>decide)
   rw[e3];exact⟨_,by show w.size≤_;omega,rfl⟩
  rw[if_neg c0];by_cases c1:v=1
  ·rw[if_pos c1,if_pos (by omega)];exact⟨_,by rw[ByteArray.size_append];omega,rfl⟩
  rw[if_neg c1];by_cases c2:v=2
  ·rw[if_pos c2,if_pos (by omega)];exact⟨_,by rw[ByteArray.size_append];omega,rfl⟩
  rw[if_neg c2];exact⟨_,by omega,rfl⟩
 exact⟨u,K+1048577,fun k hk=>fX (g:=fun k=>bG.f k l) (fun k=>bG.mono l k) hk e3,hu⟩
theorem pJ (s:ByteArray) (hb:s.size≤4000000000) (d:Nat):∀(k i n:Nat),i≤s.size→s.size-i=d→d<k→n≤i→aA.l0 k s (n:Int) (i:Int)=some ((n+Lib.countByte (s.data.toList.drop i) 10:Nat):Int):=by
 have hs:s.data.toList.length=s.size:=rfl
 induction d with
 | zero =>
  intro k i n h0 h1 h2 h3;obtain⟨k,rfl⟩:∃m,k=m+1:=⟨k-1,by omega⟩;simp only[aA.l0];rw[if_neg (by omega),List.drop_of_length_le (by omega)];rfl
 | succ d ih =>
  intro k i n h0 h1 h2 h3;obtain⟨k,rfl⟩:∃m,k=m+1:=⟨k-1,by omega⟩;have hi:i<s.data.toList.length:=by omega
  have e:bt s (i:Int)=((s.data.toList[i]).toNat:Int):=by
   have hi':i<s.size:=hi;unfold bt;rw[Int.toNat_natCast,dif_pos hi'];rfl
  simp only[aA.l0];rw[if_pos (by omega),if_pos (by omega),e,Kit.dy n (by omega),Kit.dy i (by omega),Kit.kn _ i hi]
  have hd:∀l:List UInt8,Lib.countByte (s.data.toList[i]::l) 10=Lib.countByte l 10+if s.data.toList[i]=10 then 1 else 0:=by
   intro l;unfold Lib.countByte;rw[List.count_cons];by_cases c:s.data.toList[i]=10
   ·rw[if_pos c,c];rfl
   ·rw[if_neg c,if_neg (by simpa using c)]
  rw[hd];by_cases c:s.data.toList[i]=10
  ·have c':((s.data.toList[i].toNat:Nat):Int)=10:=by rw[c];rfl
   rw[if_pos c',if_pos c,ih k (i+1) (n+1) (by omega) (by omega) (by omega) (by omega)]
   congr 1
   omega
  ·have c':¬((s.data.toList[i].toNat:Nat):Int)=10:=by
    intro h;apply c;apply UInt8.toNat_inj.1
    show _=10
    omega
   rw[if_neg c',if_neg c,ih k (i+1) n (by omega) (by omega) (by omega) (by omega)];rfl
theorem cnt_ok (s:ByteArray) (hs:s.size≤4000000000):∃n:Int,bd.f s=some n∧∀k,4000000010≤k→aA.f k s=some n:=by
 refine⟨(Lib.countByte s.data.toList 10:Int),?_,fun k hk=>?_⟩
 ·unfold bd.f strings_Count.f;have h1:(⟨#[10]⟩:ByteArray).size=1:=rfl;rw[if_pos h1];rfl
 ·have e1:=pJ s hs s.size k 0 0 (by omega) (by omega) (by omega) (by omega);rw[List.drop_zero,Nat.zero_add]at e1;exact e1
theorem j0_law (l:List Int) (hl:l.length≤1048576):∃K,∀k,K≤k→bc.j0 k l false=some true:=by
 obtain⟨t,K1,h1,ht⟩:=dpl_ok l hl;obtain⟨R,K2,h2,h6,hm,hR⟩:=sC t;obtain⟨u,h3,hu⟩:=dpi_ok l hl;obtain⟨r,_,h4,hr⟩:=od u (by omega);obtain⟨n,c1,c2⟩:=cnt_ok t ht;obtain⟨N,hN⟩:∃N,N=K1+K2+5000000000:=⟨_,rfl⟩;refine⟨N+1,fun k hk=>?_⟩;obtain⟨k,rfl⟩:∃m,k=m+1:=⟨k-1,by omega⟩;obtain⟨p1,p2⟩:=h2 k (by omega)
 have last:(if r.2.2.2.2.2.2=true then((bh.f k r.1 r.2.1 r.2.2.1 r.2.2.2.1 r.2.2.2.2.1 r.2.2.2.2.2.1).bind fun t650=>(if t650.toList=u.toList then((bd.f t).bind fun t651=>((aA.f k t).bind fun t652=>(some (t651==t652))))else(none)))else((bd.f t).bind fun t653=>((aA.f k t).bind fun t654=>(some (t653==t654)))))=some true:=by
  rw[c1,c2 k (by omega)];simp only[dn]
  rcases hr with ⟨rfl,_⟩|⟨op,a,b,c,d,nm,rfl,hp⟩
  ·rw[if_neg (by decide)];simp
  ·have hi:=mP hp;rw[if_pos rfl,sE op a b c d nm ⟨hi.1,hi.2.1,hi.2.2.1,hi.2.2.2.1⟩ (by have:=hi.2.2.2.2;omega) k (by have:=hi.2.2.2.2;omega)];simp only[dn];rw[if_pos (by rw[hp.2])];simp
 simp only[bc.j0];rw[if_neg (by decide),h1 k (by omega)];simp only[dn];rw[p2,p1];simp only[dn];rw[h3 k (by omega)];simp only[dn];rw[h4 k (by omega)];simp only[dn];rw[if_pos (by simp)]
 rcases hR with ⟨rfl,_⟩|⟨hb,hz,hB,hf⟩
 ·rw[if_neg (by decide)];exact last
 ·rw[if_pos hb,ks R.1 (by omega) hm k (by omega)];simp only[dn];rw[if_pos (by rw[hf])];unfold cy.f;rw[libI R.1 (by omega) hm k (by omega)];simp only[dn];rw[if_pos hB];exact last
theorem FnTexts:OpFnTexts.Pure:=by
 intro l0 hs;by_cases c0:(l0.length:Int)>1048576
 ·refine⟨0,?_⟩;unfold bc.f gT.f;simp only[dn];rw[decide_eq_true c0,if_pos rfl]
 have hl:l0.length≤1048576:=by omega
 obtain⟨X,e1,hX,hg⟩:=dlib_ok l0 hl 1048700 (by omega);have hm:∀x∈X,iW x:=fun x hx=>sy (hg x hx)
 obtain⟨R,K1,h1,h6,hm1,hR⟩:=sC (ny X);obtain⟨K2,h2⟩:=libP X (by omega) hm;obtain⟨K3,h3⟩:=j0_law l0 hl;obtain⟨k,hk⟩:∃k,k=K1+K2+K3+60000000:=⟨_,rfl⟩;refine⟨k,?_⟩;have j:=h3 k (by omega);unfold bc.f gT.f;simp only[dn];rw[decide_eq_false c0,if_neg (by simp),fX (g:=fun k=>b6.f k l0) (fun k=>b6.mono l0 k) (show 1048700≤k by omega) e1];simp only[dn];rw[ks X (by omega) hm k (by omega)];simp only[dn];rw[(h1 k (by omega)).2];simp only[dn];rw[h2 k (by omega)];simp only[dn];by_cases hb:gU X=true
 ·rw[if_pos hb];by_cases hz:((ny X).size:Int)≤4000
  ·rw[if_pos hz]
   rcases hR with ⟨_,hno⟩|⟨r2,z2,b2,f2⟩
   ·exact absurd rfl (hno (by omega) X (by omega) hm hb)
   ·have e:R.1=X:=lib_inj hm1 hm b2 hb f2 rfl z2;rw[if_pos r2,e,ks X (by omega) hm k (by omega)];simp only[dn];rw[if_pos trivial,show((X.length:Int) !=(X.length:Int))=false from by simp];exact j
  ·rw[if_neg hz];exact j
 ·rw[if_neg hb];exact j
end Go.Proofs.YtmipaoobkjppdaaGreatDoor.Pure
