/- impl.ParseLibrary answers as the reference does: both parse a text's lines alike, and what is answered is marked and held alike. -/
import Derived.Test.YtmipaoobkjppdaaGreatDoorOpFnExactParseLibrary
import Derived.Lib.ItoaLen
import Derived.Lib.AtoiTie
import Derived.Lib.ItoaMem
import Derived.Test.YtmipaoobkjppdaaGreatDoorKit2
set_option linter.unusedVariables false
set_option linter.unusedSimpArgs false
namespace Go.Proofs.YtmipaoobkjppdaaGreatDoor.Pure
open Go.RowKit Go.Proofs.YtmipaoobkjppdaaGreatDoorW Go.Proofs.YtmipaoobkjppdaaGreatDoor.QFnExactParseLibrary Go.Proofs.YtmipaoobkjppdaaGreatDoor.OpFnExactParseLibrary
open PrintWords PrintLast
def ba (l:List UInt8):ByteArray:=⟨l.toArray⟩
theorem je (l m:List UInt8):ba l++ba m=ba (l++m):=by
 apply Kit.bytes_inj.1;rw[Go.ByteArray.toList_eq,Go.ByteArray.toList_eq];simp[ba]
theorem jM (l:List UInt8):(ba l).size=l.length:=rfl
def dig (u:Nat):List UInt8:=if u=0 then[]else Go.Lib.decDigits u
theorem pr (u:Nat) (h:u≠0):dig u=dig (u / 10)++[UInt8.ofNat (48+u % 10)]:=by
 unfold dig;rw[if_neg h,Go.Lib.decDigits];by_cases c:u<10
 ·rw[dif_pos c,if_pos (by omega),Nat.mod_eq_of_lt c];rfl
 ·rw[dif_neg c,if_neg (by omega)]
def sgn (n:Int) (l:List UInt8):List UInt8:=if n<0 then 45::l else l
theorem nF (m:Nat) (h:m<10):strOfNums [((48+m:Nat):Int)]=ba [UInt8.ofNat (48+m)]:=by
 unfold strOfNums ba;simp only[List.map_cons,List.map_nil,Int.toNat_natCast]
theorem oA:Go.Lib.itoa 0=[48]:=by
 unfold Go.Lib.itoa;rw[if_neg (by decide),Go.Lib.decDigits,dif_pos (by decide)];rfl
theorem pt (n:Int):∀(d k u:Nat) (x:Int) (l:List UInt8),(x=(u:Int)∨x= -(u:Int))→u<10 ^ d→u≤9223372036854775808→l.length+d≤100→d<k→av.l0 k n (ba l) x=some (ba (sgn n (dig u++l)))
 | 0,k,u,x,l,hx,h1,h2,h3,h4=>by
  obtain⟨k,rfl⟩:∃m,k=m+1:=⟨k-1,by omega⟩;have hu:u=0:=by simpa using h1
  subst hu;have hx0:x=0:=by omega
  subst hx0;simp only[av.l0];rw[if_pos trivial,jM];unfold sgn dig;by_cases c:n<0
  ·rw[if_pos c,if_pos (by omega),if_pos c];exact congrArg some (je [45] l)
  ·rw[if_neg c,if_neg c];rfl
 | d+1,k,u,x,l,hx,h1,h2,h3,h4=>by
  obtain⟨k,rfl⟩:∃m,k=m+1:=⟨k-1,by omega⟩;by_cases h0:u=0
  ·subst h0;have hx0:x=0:=by omega
   subst hx0;simp only[av.l0];rw[if_pos trivial,jM];unfold sgn dig;by_cases c:n<0
   ·rw[if_pos c,if_pos (by omega),if_pos c];exact congrArg some (je [45] l)
   ·rw[if_neg c,if_neg c];rfl
  ·have hp:u / 10<10 ^ d:=by
    rw[Nat.pow_succ]at h1;omega
   have hm:u % 10<10:=Nat.mod_lt _ (by decide)
   have hs:(strOfNums [((48+u % 10:Nat):Int)]).size+(ba l).size≤9223372036854775807:=by
    rw[nF _ hm,jM,jM];simp;omega
   have fin:∀q:Int,(q=((u / 10:Nat):Int)∨q= -((u / 10:Nat):Int))→av.l0 k n ((strOfNums [((48+u % 10:Nat):Int)])++ba l) (wrap64 q)=some (ba (sgn n (dig u++l))):=by
    intro q hq;rw[Kit.dM q (by omega) (by omega),nF _ hm,je,pt n d k (u / 10) q _ hq hp (by omega) (by simp;omega) (by omega),pr u h0];simp
   simp only[av.l0];rw[if_neg (show ¬x=0 by omega)]
   rcases hx with hx|hx
   ·have e1:Int.tmod x 10=((u % 10:Nat):Int):=by rw[hx];rfl
    have e2:Int.tdiv x 10=((u / 10:Nat):Int):=by rw[hx];rfl
    rw[e1,e2,if_neg (by omega)]
    have e3:(wrap64 (48+((u % 10:Nat):Int))) % 256=((48+u % 10:Nat):Int):=by
     rw[Kit.dM _ (by omega) (by omega)];omega
    rw[e3];simp only[dr];rw[if_pos hs];exact fin _ (.inl rfl)
   ·have e1:Int.tmod x 10= -((u % 10:Nat):Int):=by rw[hx,Int.neg_tmod];rfl
    have e2:Int.tdiv x 10= -((u / 10:Nat):Int):=by rw[hx,Int.neg_tdiv];rfl
    rw[e1,e2];by_cases c: -((u % 10:Nat):Int)<0
    ·rw[if_pos c]
     have e3:(wrap64 (48+(wrap64 (- -((u % 10:Nat):Int))))) % 256=((48+u % 10:Nat):Int):=by
      rw[Int.neg_neg,Kit.dM ((u % 10:Nat):Int) (by omega) (by omega),Kit.dM _ (by omega) (by omega)];omega
     rw[e3];simp only[dr];rw[if_pos hs];exact fin _ (.inr rfl)
    ·rw[if_neg c]
     have e3:(wrap64 (48+ -((u % 10:Nat):Int))) % 256=((48+u % 10:Nat):Int):=by
      rw[Kit.dM _ (by omega) (by omega)];omega
     rw[e3];simp only[dr];rw[if_pos hs];exact fin _ (.inr rfl)
theorem gT (n:Int) (h0: -9223372036854775808≤n) (h1:n≤9223372036854775807) (k:Nat) (hk:30<k):av.f k n=some (ba (Go.Lib.itoa n)):=by
 unfold av.f;by_cases c:n=0
 ·rw[if_pos c,c,oA];rfl
 ·rw[if_neg c];have:=pt n 20 k n.natAbs n [] (by omega) (by omega) (by omega) (by simp) (by omega);refine this.trans ?_;unfold sgn Go.Lib.itoa dig;rw[List.append_nil];by_cases c0:n<0
  ·rw[if_pos c0,if_pos c0,if_neg (show ¬n.natAbs=0 by omega)]
  ·rw[if_neg c0,if_neg c0,if_neg (show ¬n.natAbs=0 by omega),show n.natAbs=n.toNat by omega]
def eB (a:Int):ByteArray:=if 1≤a∧a≤10 then bJ.mD.getD a.toNat ⟨#[]⟩else⟨#[]⟩
theorem impl_op (a:Int):bJ.f a=some (eB a):=by
 unfold bJ.f eB
 split<;>rfl
theorem nG (a:Int):dh.f a=some (eB a):=by
 unfold dh.f eB bC.f;by_cases c:1≤a∧a≤10
 ·rw[if_pos (show a≥1 from c.1),decide_eq_true c.2,if_pos c];simp only[dr];rw[if_pos trivial,if_pos (by omega),if_pos (by simp;omega)];rfl
 ·rw[if_neg c];by_cases c1:a≥1
  ·rw[if_pos c1,decide_eq_false (fun h=>c ⟨c1,h⟩)];simp only[dr];rw[if_neg (by simp)]
  ·rw[if_neg c1];simp only[dr];rw[if_neg (by simp)]
def km (a lo hi:Int):Bool:=decide (lo≤a)&&decide (a≤hi)
def oB (c:UInt8):Bool:=decide (97≤c.toNat)&&decide (c.toNat≤122)
def cV (s:ByteArray):Bool:=km (s.size:Int) 1 6&&s.data.toList.all oB
theorem jN (a lo hi:Int):bC.f a lo hi=some (km a lo hi):=by
 unfold bC.f km;by_cases h:a≥lo
 ·rw[if_pos h,decide_eq_true h,Bool.true_and]
 ·rw[if_neg h,decide_eq_false h,Bool.false_and]
theorem kn (a lo hi:Int):bO.f a lo hi=some (km a lo hi):=jN a lo hi
theorem lF (s:ByteArray) (i:Nat) (h:i<s.data.toList.length):bt s (i:Int)=((s.data.toList[i]).toNat:Int):=by
 have h':(i:Int).toNat<s.size:=by simpa using h
 unfold bt;rw[dif_pos h'];rfl
theorem hX (s:ByteArray):s.data.toList.length=s.size:=rfl
theorem ko (s:ByteArray) (hb:s.size≤40000000) (d:Nat):∀(k i:Nat),i≤s.size→s.size-i=d→d<k→aX.l0 k s (i:Int)=some (km (s.size:Int) 1 6&&(s.data.toList.drop i).all oB):=by
 induction d with
 | zero =>
  intro k i h0 h1 h2;obtain⟨k,rfl⟩:∃m,k=m+1:=⟨k-1,by omega⟩;simp only[aX.l0];rw[if_neg (by omega),jN,List.drop_eq_nil_of_le (by rw[hX];omega)];simp
 | succ d ih =>
  intro k i h0 h1 h2;obtain⟨k,rfl⟩:∃m,k=m+1:=⟨k-1,by omega⟩;have hi:i<s.data.toList.length:=by rw[hX];omega
  simp only[aX.l0];rw[if_pos (by omega),if_pos (by omega),lF s i hi,Kit.gQ _ i hi,List.all_cons,Kit.cU i (by omega),ih k (i+1) (by omega) (by omega) (by omega)];unfold oB;by_cases c1:(((s.data.toList[i]).toNat:Int))<97
  ·rw[if_pos c1,decide_eq_false (show ¬97≤(s.data.toList[i]).toNat by omega)];simp
  by_cases c2:(((s.data.toList[i]).toNat:Int))>122
  ·rw[if_neg c1,if_pos c2,decide_eq_false (show ¬(s.data.toList[i]).toNat≤122 by omega)];simp
  rw[if_neg c1,if_neg c2,decide_eq_true (show 97≤(s.data.toList[i]).toNat by omega),decide_eq_true (show(s.data.toList[i]).toNat≤122 by omega)];simp
theorem kp (s:ByteArray) (hb:s.size≤40000000) (d:Nat):∀(k i:Nat),i≤s.size→s.size-i=d→d<k→bc.l0 k s (s.size:Int) (i:Int)=some ((s.data.toList.drop i).all oB):=by
 induction d with
 | zero =>
  intro k i h0 h1 h2;obtain⟨k,rfl⟩:∃m,k=m+1:=⟨k-1,by omega⟩;simp only[bc.l0];rw[if_neg (by omega),List.drop_eq_nil_of_le (by rw[hX];omega)];simp
 | succ d ih =>
  intro k i h0 h1 h2;obtain⟨k,rfl⟩:∃m,k=m+1:=⟨k-1,by omega⟩;have hi:i<s.data.toList.length:=by rw[hX];omega
  simp only[bc.l0];rw[if_pos (by omega),if_pos (by omega),if_pos (by omega),lF s i hi,Kit.gQ _ i hi,List.all_cons,Kit.cU i (by omega),ih k (i+1) (by omega) (by omega) (by omega)];unfold oB;by_cases c1:(((s.data.toList[i]).toNat:Int))<97
  ·rw[if_pos c1,decide_eq_false (show ¬97≤(s.data.toList[i]).toNat by omega)];simp
  by_cases c2:(((s.data.toList[i]).toNat:Int))>122
  ·rw[if_neg c1,if_pos c2,decide_eq_false (show ¬(s.data.toList[i]).toNat≤122 by omega)];simp
  rw[if_neg c1,if_neg c2,decide_eq_true (show 97≤(s.data.toList[i]).toNat by omega),decide_eq_true (show(s.data.toList[i]).toNat≤122 by omega)];simp
theorem jf (s:ByteArray) (hb:s.size≤40000000) (k:Nat) (hk:s.size<k):aX.f k s=some (cV s):=by
 have:=ko s hb s.size k 0 (by omega) (by omega) hk
 simpa [aX.f,cV] using this
theorem jg (s:ByteArray) (hb:s.size≤40000000) (k:Nat) (hk:s.size<k):bc.f k s=some (cV s):=by
 have:=kp s hb s.size k 0 (by omega) (by omega) hk;unfold bc.f cV;rw[kn];simp only[dr]
 cases km (s.size:Int) 1 6
 ·simp
 ·simpa using this
def ec (a:Int):Bool:=km a 0 7
def iq (c d:Int):Bool:=if c= -1 then d==-1 else ec c&&(d==-1||ec d)
def dE (s:ByteArray):Bool:=s.toList==([]:List UInt8)
def dO (op a b c d:Int) (s:ByteArray):Bool :=
 if op=1 then(c==0&&(d==0&&dE s))&&(ec a&&km b 0 999999)
 else if op=2 then(c==0&&(d==0&&dE s))&&(ec a&&km b 0 1)
 else if op=3 then(c==0&&(d==0&&dE s))&&(ec a&&km b 0 2)
 else if op=4∨op=10 then(c==0&&(d==0&&dE s))&&(ec a&&b==0)
 else if op=5 then(d==0&&dE s)&&(ec a&&(ec b&&ec c))
 else if op=6 then ec a&&(ec b&&(iq c d&&cV s))
 else if op=7 then ec a&&(b==0&&(iq c d&&cV s))
 else if op=8 then(c==0&&(d==0&&dE s))&&(km a 0 2&&ec b)
 else if op=9 then(c==0&&(d==0&&dE s))&&(ec a&&km b 1 12)
 else false
theorem kr (p x:Bool):(if p=true then some x else some false)=some (p&&x):=by cases p<;>rfl
theorem iteZ (a:Int) (x:Bool):(if a=0 then some x else some false)=some (a==0&&x):=by
 by_cases h:a=0
 ·simp[h]
 ·rw[if_neg h,beq_eq_false_iff_ne.mpr h,Bool.false_and]
theorem l5 (a:Int):ax.f a=some (ec a):=by
 unfold ax.f ec;rw[jN];rfl
theorem l6 (a:Int):aA.f a=some (ec a):=by
 unfold aA.f ec;rw[kn];rfl
theorem iN:ec (-1)=false:=by decide
theorem pw (op a b c d:Int) (s:ByteArray):cQ.f op a b c d s=some (iq c d):=by
 unfold cQ.f iq;simp only[l5,dr,kr];by_cases h1:c= -1<;>by_cases h2:d= -1
 ·simp[h1,h2]
 ·simp[h1,h2,iN]
 ·simp[h1,h2]
  cases ec c<;>rfl
 ·have e2:(d==-1)=false:=beq_eq_false_iff_ne.mpr h2;simp[h1,h2,e2,kr]
theorem oC (c d:Int):cH.f c d=some (iq c d):=by
 unfold cH.f iq;simp only[l6,dr,kr];by_cases h1:c= -1<;>by_cases h2:d= -1
 ·simp[h1,h2,iN]
 ·simp[h1,h2,iN]
 ·simp[h1,h2,iN]
  cases ec c<;>rfl
 ·have e2:(d==-1)=false:=beq_eq_false_iff_ne.mpr h2;simp[h1,h2,iN,e2]
  cases ec c<;>cases ec d<;>rfl
theorem iB (op a b c d:Int) (s:ByteArray) (hs:s.size≤40000000) (k:Nat) (hk:s.size+2<k):aR.f k op a b c d s=some (dO op a b c d s):=by
 obtain⟨k,rfl⟩:∃m,k=m+1+1:=⟨k-2,by omega⟩
 have e:aR.f (k+1+1) op a b c d s=aR.j0 (k+1+1) (c==0&&(d==0&&dE s)) op a b c d s:=by
  unfold aR.f dE;by_cases h1:c=0
  ·by_cases h2:d=0
   ·rw[if_pos h1,if_pos h2,beq_iff_eq.mpr h1,beq_iff_eq.mpr h2,Bool.true_and,Bool.true_and]
   ·rw[if_pos h1,if_neg h2,beq_eq_false_iff_ne.mpr h2,Bool.false_and,Bool.and_false]
  ·rw[if_neg h1,beq_eq_false_iff_ne.mpr h1,Bool.false_and]
 rw[e];have hn:=jf s hs k (by omega);simp only[aR.j0,aR.j1,l5,jN,pw,hn,dr,kr,iteZ];unfold dO;rw[show(s.toList==([]:List UInt8))=dE s from rfl];generalize hp:(c==0&&(d==0&&dE s))=p;by_cases h1:op=1
 ·simp only[h1,if_true,kr]
 by_cases h2:op=2
 ·simp only[h2,if_true,kr];simp
 by_cases h3:op=3
 ·simp only[h3,if_true,kr];simp
 by_cases h4:op=4
 ·simp[h4]<;>cases p<;>simp
 by_cases h10:op=10
 ·simp[h10]<;>cases p<;>simp
 by_cases h5:op=5
 ·simp[h5]<;>cases ec a<;>cases ec b<;>cases ec c<;>cases(d==0)<;>cases dE s<;>rfl
 by_cases h6:op=6
 ·simp[h6]
 by_cases h7:op=7
 ·simp[h7]
 by_cases h8:op=8
 ·simp[h8]<;>cases p<;>simp
 by_cases h9:op=9
 ·simp[h9]<;>cases p<;>simp
 simp[h1,h2,h3,h4,h5,h6,h7,h8,h9,h10]
theorem ks (op a b c d:Int) (s:ByteArray) (hs:s.size≤40000000) (k:Nat) (hk:s.size+2<k):bw.f k op a b c d s=some (dO op a b c d s):=by
 obtain⟨k,rfl⟩:∃m,k=m+1:=⟨k-1,by omega⟩;have hn:=jg s hs k (by omega);unfold bw.f;simp only[bw.j0,l6,kn,oC,hn,dr,kr,iteZ];unfold dO;rw[show(s.toList==([]:List UInt8))=dE s from rfl];by_cases h1:op=1
 ·simp only[h1,if_true,kr]
 by_cases h2:op=2
 ·simp only[h2,if_true,kr];simp
 by_cases h3:op=3
 ·simp only[h3,if_true,kr];simp
 by_cases h4:op=4
 ·simp[h4]<;>cases ec a<;>cases(b==0)<;>cases(c==0)<;>cases(d==0)<;>cases dE s<;>rfl
 by_cases h10:op=10
 ·simp[h10]<;>cases ec a<;>cases(b==0)<;>cases(c==0)<;>cases(d==0)<;>cases dE s<;>rfl
 by_cases h5:op=5
 ·simp[h5]
 by_cases h6:op=6
 ·simp[h6]
 by_cases h7:op=7
 ·simp[h7]
 by_cases h8:op=8
 ·simp[h8]
 by_cases h9:op=9
 ·simp[h9]
 simp[h1,h2,h3,h4,h5,h6,h7,h8,h9,h10]
def eV (x:cw):Bool:=dO x.f0 x.f1 x.f2 x.f3 x.f4 x.f5
def fI (nm:ByteArray) (l:List cw):Bool:=cV nm&&(decide (l.length≤12)&&l.all eV)
theorem oD (nm:ByteArray) (l:List cw) (hn:nm.size≤1048576) (hl:l.length≤1048576) (hw:∀x∈l,x.f5.size≤1048576) (k:Nat) (hk:50000000<k):b4.f k nm l=some (fI nm l):=by
 unfold b4.f fI;rw[jg nm (by omega) k (by omega)];simp only[dr]
 cases hnm:cV nm with
 | false=>rfl
 | true =>
  rw[if_pos rfl,Bool.true_and];by_cases c:l.length≤12
  ·rw[if_pos (by omega),decide_eq_true c,Bool.true_and];obtain⟨r,r1,r2⟩:=Func.iG (fun x=>!(eV x)) l 0 (by omega)
   have e:=Func.j4 (q:=fun x:cw=>b6.f k x.f0 x.f1 x.f2 x.f3 x.f4 x.f5) (q':=fun x=>some (!(eV x))) l 0 (fun x hx=>by
    have:=hw x hx
    show b6.f k x.f0 x.f1 x.f2 x.f3 x.f4 x.f5=_
    unfold b6.f;rw[ks _ _ _ _ _ _ (by omega) k (by omega)];rfl)
   rw[e,r1];simp only[dr];rw[r2]
   congr 1
   induction l with
   | nil=>rfl
   | cons x xs _=>simp[List.any_eq_not_all_not]
  ·rw[if_neg (by omega),decide_eq_false c];rfl
theorem oE (nm:ByteArray) (l:List cw) (hn:nm.size≤40000000) (hl:l.length≤40000000) (hw:∀x∈l,x.f5.size≤40000000) (d:Nat):∀(k i:Nat),i≤l.length→l.length-i=d→d+40000010<k→bm.l0 k (i:Int) nm l=some ((l.drop i).all eV&&(cV nm&&decide (l.length≤12))):=by
 induction d with
 | zero =>
  intro k i h0 h1 h2;obtain⟨k,rfl⟩:∃m,k=m+1:=⟨k-1,by omega⟩;simp only[bm.l0];rw[if_neg (by omega),jf nm hn k (by omega),List.drop_of_length_le (by omega)];simp only[dr,List.all_nil,Bool.true_and]
  have:decide ((l.length:Int)≤12)=decide (l.length≤12):=by
   apply Bool.eq_iff_iff.2;simp only[decide_eq_true_eq];omega
  rw[this]
  cases cV nm<;>rfl
 | succ d ih =>
  intro k i h0 h1 h2;obtain⟨k,rfl⟩:∃m,k=m+1:=⟨k-1,by omega⟩;have hi:i<l.length:=by omega
  have e:ab l (i:Int)=l[i]:=by
   unfold ab;rw[Int.toNat_natCast,List.getD_eq_getElem?_getD,List.getElem?_eq_getElem hi];rfl
  have hx:=hw l[i] (List.getElem_mem hi);simp only[bm.l0];rw[if_pos (by omega),if_pos (by omega),e,iB _ _ _ _ _ _ hx k (by omega),Kit.cU i (by omega),Kit.gQ l i hi,List.all_cons];simp only[dr];have hf:dO l[i].f0 l[i].f1 l[i].f2 l[i].f3 l[i].f4 l[i].f5=eV l[i]:=rfl;rw[hf,ih k (i+1) (by omega) (by omega) (by omega)]
  cases eV l[i]
  ·simp
  ·simp
theorem oG (nm:ByteArray) (l:List cw) (hn:nm.size≤1048576) (hl:l.length≤1048576) (hw:∀x∈l,x.f5.size≤1048576) (k:Nat) (hk:50000000<k):bm.f k nm l=some (fI nm l):=by
 have:=oE nm l (by omega) (by omega) (fun x hx=>by have:=hw x hx;omega) l.length k 0 (by omega) (by omega) (by omega);unfold fI;rw[←Bool.and_assoc,Bool.and_comm (cV nm&&_) _];unfold bm.f;refine this.trans ?_;simp
def jw (l:List cW) (j i:Nat):Bool:=((l.take i).drop j).any fun y=>y.f0.toList==(l.getD i eH).f0.toList
def eu (l:List cW):Nat→Nat→Bool
 | 0,_=>true
 | d+1,i=>fI (l.getD i eH).f0 (l.getD i eH).f1&&(!(jw l 0 i)&&eu l d (i+1))
theorem kt (l:List cW) (i:Nat):aq l (i:Int)=l.getD i eH:=by
 unfold aq;rw[Int.toNat_natCast]
theorem inner (nm:ByteArray) (l:List cW) (hl:l.length≤1048576) (i:Nat) (hi:i<l.length) (v:Bool) (K:Nat) (hK:∀k,K≤k→aM.l0 k ((i+1:Nat):Int) nm l=some v) (d:Nat):∀(k j:Nat),j≤i→i-j=d→K+d<k→aM.l1 k (i:Int) (j:Int) nm l=some (!(jw l j i)&&v):=by
 induction d with
 | zero =>
  intro k j h0 h1 h2;obtain⟨k,rfl⟩:∃m,k=m+1:=⟨k-1,by omega⟩;obtain rfl:j=i:=by omega
  simp only[aM.l1];rw[if_neg (by omega),Kit.cU j (by omega),hK k (by omega)];unfold jw;rw[List.drop_of_length_le (by rw[List.length_take];omega)];rfl
 | succ d ih =>
  intro k j h0 h1 h2;obtain⟨k,rfl⟩:∃m,k=m+1:=⟨k-1,by omega⟩;have hj:j<(l.take i).length:=by rw[List.length_take];omega
  have hd:jw l j i=((l.getD j eH).f0.toList==(l.getD i eH).f0.toList||jw l (j+1) i):=by
   unfold jw;rw[List.drop_eq_getElem_cons hj,List.any_cons,List.getElem_take]
   congr 2
   rw[List.getD_eq_getElem?_getD,List.getElem?_eq_getElem (by omega)];rfl
  simp only[aM.l1];rw[if_pos (by omega),if_pos (by omega),if_pos (by omega),if_pos (by omega),if_pos (by omega),kt,kt,Kit.cU j (by omega),hd];by_cases c:(l.getD j eH).f0.toList=(l.getD i eH).f0.toList
  ·rw[if_pos c,show((l.getD j eH).f0.toList==(l.getD i eH).f0.toList)=true from by simpa using c];rfl
  ·rw[if_neg c,show((l.getD j eH).f0.toList==(l.getD i eH).f0.toList)=false from by simpa using c,Bool.false_or];exact ih k (j+1) (by omega) (by omega) (by omega)
theorem outer (nm:ByteArray) (hn:nm.size≤1048576) (l:List cW) (hl:l.length≤1048576) (hm:∀x∈l,∀k,50000000<k→bm.f k x.f0 x.f1=some (fI x.f0 x.f1)):∀(d i:Nat),i≤l.length→l.length-i=d→∃K,∀k,K≤k→aM.l0 k (i:Int) nm l=some (eu l d i&&(cV nm&&decide (l.length≤4)))
 | 0,i,h0,h1=>by
  refine⟨1048600,fun k hk=>?_⟩;obtain⟨k,rfl⟩:∃m,k=m+1:=⟨k-1,by omega⟩;simp only[aM.l0,eu];rw[if_neg (by omega),jf nm (by omega) k (by omega)];simp only[dr,Bool.true_and]
  have:decide ((l.length:Int)≤4)=decide (l.length≤4):=by
   apply Bool.eq_iff_iff.2;simp only[decide_eq_true_eq];omega
  rw[this]
  cases cV nm<;>rfl
 | d+1,i,h0,h1=>by
  have hi:i<l.length:=by omega
  obtain⟨K,hK⟩:=outer nm hn l hl hm d (i+1) (by omega) (by omega);have hin:=inner nm l hl i hi _ K hK i;refine⟨K+i+50000010,fun k hk=>?_⟩;obtain⟨k,rfl⟩:∃m,k=m+1:=⟨k-1,by omega⟩
  have hx:l.getD i eH∈l:=by
   rw[List.getD_eq_getElem?_getD,List.getElem?_eq_getElem hi];exact List.getElem_mem hi
  simp only[aM.l0,eu];rw[if_pos (by omega),if_pos (by omega),kt,hm _ hx k (by omega)];simp only[dr]
  cases fI (l.getD i eH).f0 (l.getD i eH).f1 with
  | false=>rfl
  | true =>
   rw[if_pos rfl];have:=hin k 0 (by omega) (by omega) (by omega);refine this.trans ?_;rw[Bool.true_and,Bool.and_assoc]
theorem nH (l:List cW) (hl:l.length≤1048576) (k:Nat) (hk:50000000<k) (hm:∀x∈l,b4.f k x.f0 x.f1=some (fI x.f0 x.f1)):∀(d i:Nat),i≤l.length→l.length-i=d→bE.l0 k l d=some (eu l d i)
 | 0,i,h0,h1=>rfl
 | d+1,i,h0,h1=>by
  have hi:i<l.length:=by omega
  have hx:l.getD i eH∈l:=by
   rw[List.getD_eq_getElem?_getD,List.getElem?_eq_getElem hi];exact List.getElem_mem hi
  have e:(l.length:Int)-((d+1:Nat):Int)=(i:Int):=by omega
  obtain⟨r,r1,r2⟩:=Func.iG (fun y:cW=>y.f0.toList==(l.getD i eH).f0.toList) (l.take i) 0 (by omega);unfold bE.l0 eu;rw[e,kt,hm _ hx];simp only[dr]
  cases fI (l.getD i eH).f0 (l.getD i eH).f1 with
  | false=>rfl
  | true =>
   have hd:jw l 0 i=decide (r≥0):=by
    rw[r2];unfold jw;rw[List.drop_zero]
   rw[if_pos rfl,Int.toNat_natCast,r1];simp only[dr];rw[hd,Bool.true_and];by_cases c:r≥0
   ·rw[if_pos c,decide_eq_true c];rfl
   ·rw[if_neg c,decide_eq_false c,nH l hl k hk hm d (i+1) (by omega) (by omega)];rfl
def de (nm:ByteArray) (l:List cW):Bool:=eu l (l.length-0) 0&&(cV nm&&decide (l.length≤4))
def jh (l:List cW):Prop:=l.length≤1048576∧∀x∈l,x.f0.size≤1048576∧x.f1.length≤1048576∧∀z∈x.f1,z.f5.size≤1048576
theorem jx (nm:ByteArray) (hn:nm.size≤1048576) (l:List cW) (hf:jh l):∃K,∀k,K≤k→aM.f k nm l=some (de nm l) :=
 outer nm hn l hf.1 (fun x hx k hk=>oG x.f0 x.f1 (hf.2 x hx).1 (hf.2 x hx).2.1 (hf.2 x hx).2.2 k hk) _ 0 (by omega) rfl
theorem l7 (nm:ByteArray) (hn:nm.size≤1048576) (l:List cW) (hf:jh l) (k:Nat) (hk:50000000<k):bE.f k nm l=some (de nm l):=by
 have hl:=hf.1;have hmi:∀x∈l,b4.f k x.f0 x.f1=some (fI x.f0 x.f1):=fun x hx=>oD x.f0 x.f1 (hf.2 x hx).1 (hf.2 x hx).2.1 (hf.2 x hx).2.2 k hk
 unfold bE.f de;rw[jg nm (by omega) k (by omega)];simp only[dr]
 cases cV nm with
 | false=>simp
 | true =>
  rw[if_pos rfl];by_cases c4:l.length≤4
  ·rw[if_neg (by omega),nH l hl k hk hmi _ 0 (by omega) (by omega),decide_eq_true c4];simp
  ·rw[if_pos (by omega),decide_eq_false c4];simp
theorem l8 {α:Type} (p:α→Bool) (z:α):∀(l:List α) (i:Nat) (s:Int),0≤s→i<l.length→p (l.getD i z)=true→∃r1 r2,Func.eD (fun x=>some (p x)) l s=some r1∧Func.eD (fun x=>some (p x)) (l.take i) s=some r2∧(r1=s+(i:Int)↔¬r2≥0)
 | [],_,_,_,h,_=>absurd h (by simp)
 | x::xs,0,s,h0,_,hp=>by
  have hx:p x=true:=hp;refine⟨s,-1,?_,rfl,by simp⟩;unfold Func.eD;simp only[dr];rw[if_pos hx]
 | x::xs,i+1,s,h0,h,hp=>by
  obtain⟨r1,r2,e1,e2,e3⟩:=l8 p z xs i (s+1) (by omega) (by simpa using h) (by simpa using hp);by_cases c:p x=true
  ·refine⟨s,s,?_,?_,?_⟩
   ·unfold Func.eD;simp only[dr];rw[if_pos c]
   ·rw[List.take_succ_cons];unfold Func.eD;simp only[dr];rw[if_pos c]
   ·constructor
    ·intro h;omega
    ·intro h;exact absurd h0 h
  ·refine⟨r1,r2,?_,?_,?_⟩
   ·unfold Func.eD;simp only[dr];rw[if_neg c];exact e1
   ·rw[List.take_succ_cons];unfold Func.eD;simp only[dr];rw[if_neg c];exact e2
   ·rw[←e3];constructor<;>intro h<;>omega
theorem nI (l:List bY) (i:Nat):aN l (i:Int)=l.getD i gp:=by
 unfold aN;rw[Int.toNat_natCast]
theorem oH (l:List bY) (s:ByteArray) (hb:l.length≤1048576) (d:Nat):∀(k i:Nat),i≤l.length→l.length-i=d→d<k→bn.l0 k l s (i:Int)=Func.eD (fun x:bY=>some (x.f0.toList==s.toList)) (l.drop i) (i:Int):=by
 induction d with
 | zero =>
  intro k i h0 h1 h2;obtain⟨k,rfl⟩:∃m,k=m+1:=⟨k-1,by omega⟩;simp only[bn.l0];rw[if_neg (by omega),List.drop_of_length_le (by omega)];rfl
 | succ d ih =>
  intro k i h0 h1 h2;obtain⟨k,rfl⟩:∃m,k=m+1:=⟨k-1,by omega⟩;have hi:i<l.length:=by omega
  simp only[bn.l0];rw[if_pos (by omega),if_pos (by omega),Kit.cU i (by omega),Func.hI _ l gp i hi,ih k (i+1) (by omega) (by omega) (by omega)];rw[nI];simp only[dr];by_cases c:(l.getD i gp).f0.toList=s.toList
  ·rw[if_pos c,if_pos (by simpa using c)]
  ·rw[if_neg c,if_neg (by simpa using c)]
def mX (l:List bY) (i:Nat):Bool:=decide (Func.eD (fun x:bY=>some (x.f0.toList==(l.getD i gp).f0.toList)) l 0=some (i:Int))
theorem jy (l:List bY) (i:Nat) (r1:Int) (h:Func.eD (fun x:bY=>some (x.f0.toList==(l.getD i gp).f0.toList)) l 0=some r1):mX l i=decide (r1=(i:Int)):=by
 unfold mX;rw[h];apply decide_eq_decide.2;simp only[Option.some.injEq]
def fe (l:List bY):Nat→Nat→Bool
 | 0,_=>true
 | d+1,i=>de (l.getD i gp).f0 (l.getD i gp).f1&&(mX l i&&fe l d (i+1))
theorem iC:∀(l:List bY),(∀x∈l,x.f0.size≤1048576∧jh x.f1)→∃K,∀x∈l,∀k,K≤k→aM.f k x.f0 x.f1=some (de x.f0 x.f1)
 | [],_=>⟨0,fun x hx=>absurd hx (by simp)⟩
 | y::ys,h=>by
  obtain⟨K1,h1⟩:=iC ys (fun x hx=>h x (List.mem_cons_of_mem _ hx));obtain⟨K2,h2⟩:=jx y.f0 (h y (List.mem_cons_self ..)).1 y.f1 (h y (List.mem_cons_self ..)).2;refine⟨K1+K2,fun x hx k hk=>?_⟩
  rcases List.mem_cons.1 hx with rfl|hx
  ·exact h2 k (by omega)
  ·exact h1 x hx k (by omega)
theorem ku (l:List bY) (hl:l.length≤1048576) (K:Nat) (hK:∀x∈l,∀k,K≤k→aM.f k x.f0 x.f1=some (de x.f0 x.f1)):∀(d k i:Nat),i≤l.length→l.length-i=d→K+d+1048580<k→a7.l0 k l (i:Int)=some (fe l d i&&decide (l.length≤6))
 | 0,k,i,h0,h1,h2=>by
  obtain⟨k,rfl⟩:∃m,k=m+1:=⟨k-1,by omega⟩;simp only[a7.l0,fe];rw[if_neg (by omega),Bool.true_and]
  congr 1
  apply Bool.eq_iff_iff.2;simp only[decide_eq_true_eq];omega
 | d+1,k,i,h0,h1,h2=>by
  obtain⟨k,rfl⟩:∃m,k=m+1:=⟨k-1,by omega⟩;have hi:i<l.length:=by omega
  have hx:l.getD i gp∈l:=by
   rw[List.getD_eq_getElem?_getD,List.getElem?_eq_getElem hi];exact List.getElem_mem hi
  obtain⟨r,r1,_⟩:=Func.iG (fun x:bY=>x.f0.toList==(l.getD i gp).f0.toList) l 0 (by omega)
  have e3:bn.f k l (l.getD i gp).f0=some r:=by
   unfold bn.f;refine(oH l (l.getD i gp).f0 hl l.length k 0 (by omega) (by omega) (by omega)).trans ?_;rw[List.drop_zero];exact r1
  have hf:=jy l i r r1;simp only[a7.l0,fe];rw[if_pos (by omega),if_pos (by omega),nI,hK _ hx k (by omega)];simp only[dr]
  cases de (l.getD i gp).f0 (l.getD i gp).f1 with
  | false=>simp
  | true =>
   rw[if_pos rfl,e3];simp only[dr];rw[hf,Bool.true_and];by_cases c:r=(i:Int)
   ·rw[if_pos c,decide_eq_true c,Kit.cU i (by omega),ku l hl K hK d k (i+1) (by omega) (by omega) (by omega),Bool.true_and]
   ·rw[if_neg c,decide_eq_false c];rfl
theorem kv (l:List bY) (hl:l.length≤1048576) (hf:∀x∈l,x.f0.size≤1048576∧jh x.f1):∀(d k i:Nat),i≤l.length→l.length-i=d→d+50000010<k→aE.l0 k l l (l.length:Int) (i:Int)=some (fe l d i)
 | 0,k,i,h0,h1,h2=>by
  obtain⟨k,rfl⟩:∃m,k=m+1:=⟨k-1,by omega⟩;simp only[aE.l0,fe];rw[if_neg (by omega)]
 | d+1,k,i,h0,h1,h2=>by
  obtain⟨k,rfl⟩:∃m,k=m+1:=⟨k-1,by omega⟩;have hi:i<l.length:=by omega
  have hx:l.getD i gp∈l:=by
   rw[List.getD_eq_getElem?_getD,List.getElem?_eq_getElem hi];exact List.getElem_mem hi
  obtain⟨r1,r2,e1,e2,e3⟩:=l8 (fun x:bY=>x.f0.toList==(l.getD i gp).f0.toList) gp l i 0 (by omega) hi (by simp)
  have e4:cJ.f (l.take i) (l.getD i gp).f0=some r2:=by
   unfold cJ.f;rw[if_pos (by rw[List.length_take];omega)];exact e2
  have hb:=jy l i r1 e1;have hs:=l7 (l.getD i gp).f0 (hf _ hx).1 (l.getD i gp).f1 (hf _ hx).2 k (by omega);simp only[aE.l0,fe];rw[if_pos (by omega),if_pos (by omega),if_pos (by omega),nI,hs];simp only[dr]
  cases de (l.getD i gp).f0 (l.getD i gp).f1 with
  | false=>simp
  | true =>
   rw[if_pos rfl,if_pos (by omega),Int.toNat_natCast,e4];simp only[dr];rw[hb,Bool.true_and];by_cases c:r2≥0
   ·rw[if_pos c,decide_eq_false (fun h=>(e3.1 (by omega)) c)];rfl
   ·rw[if_neg c,decide_eq_true (by have:=e3.2 c;omega),Kit.cU i (by omega),kv l hl hf d k (i+1) (by omega) (by omega) (by omega),Bool.true_and]
theorem l9 (a:ByteArray):strings_Join.J [a]=a:=by
 apply ByteArray.ext;apply Array.ext';simp[strings_Join.J,Go.Lib.join,List.intercalate]
theorem kx (a b:ByteArray) (r:List ByteArray):strings_Join.J (a::b::r)=a++((⟨#[32]⟩:ByteArray)++strings_Join.J (b::r)):=by
 apply ByteArray.ext;apply Array.ext';simp[strings_Join.J,Go.Lib.join,List.intercalate,List.intersperse]
theorem J_size (y:List ByteArray):(Go.Lib.join (y.map (·.data.toList)) [32]).length=(strings_Join.J y).size:=rfl
theorem eJ:(⟨#[32]⟩:ByteArray).size=1:=rfl
theorem lG (a:Int):(eB a).size≤100:=by
 unfold eB
 split
 ·rename_i h
  obtain⟨n,hn⟩:∃n:Nat,a.toNat=n:=⟨_,rfl⟩;rw[hn];have h1:n≤10:=by omega
  have:∀m:Fin 11,(bJ.mD.getD m.val ⟨#[]⟩).size≤100:=by decide +kernel
  exact this ⟨n,by omega⟩
 ·decide
def ji (A3 A4:ByteArray) (c d:Int) (x:ByteArray):ByteArray :=
 if c= -1 then(if d= -1 then x else(x++(⟨#[32]⟩:ByteArray))++A4)else(if d= -1 then(x++(⟨#[32]⟩:ByteArray))++A3 else(((x++(⟨#[32]⟩:ByteArray))++A3)++(⟨#[32]⟩:ByteArray))++A4)
theorem nJ (x:ByteArray) (a b c d e:Int) (s A3 A4:ByteArray) (k:Nat) (h3:av.f k c=some A3) (h4:av.f k d=some A4) (s3:A3.size≤21) (s4:A4.size≤21) (hx:x.size≤3000000):ar.j1 (k+1) x e a b c d s=some (ji A3 A4 c d x):=by
 simp only[ar.j1];rw[h3,h4];unfold ji;simp only[dr,ByteArray.size_append,eJ];by_cases c1:c= -1
 ·rw[if_pos c1,if_pos c1];by_cases d1:d= -1
  ·rw[if_pos d1,if_pos d1]
  ·rw[if_neg d1,if_neg d1,if_pos (by omega),if_pos (by omega)]
 ·rw[if_neg c1,if_neg c1,if_pos (by omega),if_pos (by omega)];by_cases d1:d= -1
  ·rw[if_pos d1,if_pos d1]
  ·rw[if_neg d1,if_neg d1,if_pos (by omega),if_pos (by omega)]
def fiT (o A1 A2 A3 A4:ByteArray) (op c d:Int) (nm:ByteArray):ByteArray :=
 if op=4∨op=10 then o++((⟨#[32]⟩:ByteArray)++A1)
 else if op=5 then(((o++((⟨#[32]⟩:ByteArray)++A1))++((⟨#[32]⟩:ByteArray)++A2))++(⟨#[32]⟩:ByteArray))++A3
 else if op=6 then ji A3 A4 c d ((((o++((⟨#[32]⟩:ByteArray)++A1))++((⟨#[32]⟩:ByteArray)++A2))++(⟨#[32]⟩:ByteArray))++nm)
 else if op=7 then ji A3 A4 c d (((o++((⟨#[32]⟩:ByteArray)++A1))++(⟨#[32]⟩:ByteArray))++nm)
 else(o++((⟨#[32]⟩:ByteArray)++A1))++((⟨#[32]⟩:ByteArray)++A2)
theorem ma (o A1 A2 A3 A4:ByteArray) (op c d:Int) (nm:ByteArray) (ho:o.size≤100) (s1:A1.size≤21) (s2:A2.size≤21) (s3:A3.size≤21) (s4:A4.size≤21) (hn:nm.size≤2000000):(fiT o A1 A2 A3 A4 op c d nm).size≤3000000:=by
 unfold fiT ji
 repeat' split
 all_goals (simp only[ByteArray.size_append,eJ];omega)
theorem nK (o A1 A2 A3 A4:ByteArray) (op a b c d:Int) (nm:ByteArray) (q:Bool) (hq:q=decide (op=4∨op=10)) (k:Nat) (h3:av.f k c=some A3) (h4:av.f k d=some A4) (h3':av.f (k+1) c=some A3)
  (ho:o.size≤100) (s1:A1.size≤21) (s2:A2.size≤21) (s3:A3.size≤21) (s4:A4.size≤21) (hn:nm.size≤2000000) :
  ar.j0 (k+1+1) o ((⟨#[32]⟩:ByteArray)++A1) ((⟨#[32]⟩:ByteArray)++A2) op q op a b c d nm=some (fiT o A1 A2 A3 A4 op c d nm):=by
 simp only[ar.j0];rw[h3'];subst hq;unfold fiT;simp only[dr];by_cases c4:op=4∨op=10
 ·rw[if_pos c4,decide_eq_true c4,if_pos rfl,if_pos (by simp only[ByteArray.size_append,eJ];omega)]
 rw[if_neg c4,decide_eq_false c4,if_neg (by decide)];have g1:o.size+((⟨#[32]⟩:ByteArray)++A1).size≤9223372036854775807:=by simp only[ByteArray.size_append,eJ];omega
 have g2:(o++((⟨#[32]⟩:ByteArray)++A1)).size+((⟨#[32]⟩:ByteArray)++A2).size≤9223372036854775807:=by simp only[ByteArray.size_append,eJ];omega
 have g3:((o++((⟨#[32]⟩:ByteArray)++A1))++((⟨#[32]⟩:ByteArray)++A2)).size+1≤9223372036854775807:=by simp only[ByteArray.size_append,eJ];omega
 by_cases c5:op=5
 ·rw[if_pos c5,if_pos c5,if_pos g1,if_pos g2,if_pos g3,if_pos (by simp only[ByteArray.size_append,eJ];omega)]
 rw[if_neg c5,if_neg c5];by_cases c6:op=6
 ·rw[if_pos c6,if_pos c6,if_pos g1,if_pos g2,if_pos g3,if_pos (by simp only[ByteArray.size_append,eJ];omega)];exact nJ _ a b c d op nm A3 A4 k h3 h4 s3 s4 (by simp only[ByteArray.size_append,eJ];omega)
 rw[if_neg c6,if_neg c6];by_cases c7:op=7
 ·rw[if_pos c7,if_pos c7,if_pos g1,if_pos (by simp only[ByteArray.size_append,eJ];omega),if_pos (by simp only[ByteArray.size_append,eJ];omega)];exact nJ _ a b c d op nm A3 A4 k h3 h4 s3 s4 (by simp only[ByteArray.size_append,eJ];omega)
 rw[if_neg c7,if_neg c7,if_pos g1,if_pos g2]
theorem J_W (o:ByteArray) (op a b c d:Int) (nm:ByteArray):strings_Join.J (af.W o op a b c d nm)=fiT o (ba (Go.Lib.itoa a)) (ba (Go.Lib.itoa b)) (ba (Go.Lib.itoa c)) (ba (Go.Lib.itoa d)) op c d nm:=by
 have e:∀n,ah.S n=ba (Go.Lib.itoa n):=fun _=>rfl
 unfold af.W fiT ji bj.L;simp only[List.filter_cons,List.filter_nil];by_cases c4:op=4∨op=10
 ·rw[if_pos c4,if_pos c4];simp only[List.map_cons,List.map_nil,List.cons_append,List.nil_append,l9,kx,e]
 rw[if_neg c4,if_neg c4];by_cases c5:op=5
 ·rw[if_pos c5,if_pos c5];simp only[List.map_cons,List.map_nil,List.cons_append,List.nil_append,l9,kx,e,ByteArray.append_assoc]
 rw[if_neg c5,if_neg c5];by_cases c6:op=6
 ·rw[if_pos c6,if_pos c6];by_cases c1:c= -1<;>by_cases d1:d= -1<;>simp[c1,d1,l9,kx,e,ByteArray.append_assoc]
 rw[if_neg c6,if_neg c6];by_cases c7:op=7
 ·rw[if_pos c7,if_pos c7];by_cases c1:c= -1<;>by_cases d1:d= -1<;>simp[c1,d1,l9,kx,e,ByteArray.append_assoc]
 rw[if_neg c7,if_neg c7];simp only[List.map_cons,List.map_nil,List.cons_append,List.nil_append,l9,kx,e,ByteArray.append_assoc]
theorem dH (n:Int) (h0: -9223372036854775808≤n) (h1:n≤9223372036854775807):(ba (Go.Lib.itoa n)).size≤21:=Go.Lib.itoa_length_le n h0 h1
def la (op a b c d:Int) (nm:ByteArray):ByteArray:=if dO op a b c d nm=true then fiT (eB op) (ba (Go.Lib.itoa a)) (ba (Go.Lib.itoa b)) (ba (Go.Lib.itoa c)) (ba (Go.Lib.itoa d)) op c d nm else⟨#[]⟩
theorem nL (op a b c d:Int) (nm:ByteArray) (a0: -9223372036854775808≤a) (a1:a≤9223372036854775807) (b0: -9223372036854775808≤b) (b1:b≤9223372036854775807) (c0: -9223372036854775808≤c) (c1:c≤9223372036854775807) (d0: -9223372036854775808≤d) (d1:d≤9223372036854775807)
  (hn:nm.size≤2000000) (k:Nat) (hk:nm.size+40<k):ar.f k op a b c d nm=some (la op a b c d nm):=by
 obtain⟨k,rfl⟩:∃m,k=m+1+1:=⟨k-2,by omega⟩;have f1:=gT a a0 a1;have f2:=gT b b0 b1;have f3:=gT c c0 c1;have f4:=gT d d0 d1;have s1:=dH a a0 a1;have s2:=dH b b0 b1;have s3:=dH c c0 c1;have s4:=dH d d0 d1;have so:=lG op;unfold ar.f la;rw[iB op a b c d nm (by omega) _ (by omega)];simp only[dr];cases hv:dO op a b c d nm
 ·rw[if_neg (by decide),if_neg (by decide)]
 ·rw[if_pos rfl,if_pos rfl,nG,f1 _ (by omega)];simp only[dr];rw[if_pos (by omega),f2 _ (by omega)];simp only[dr];rw[if_pos (by omega)];by_cases c4:op=4
  ·rw[if_pos c4];exact nK _ _ _ _ _ op a b c d nm _ (by rw[c4];rfl) k (f3 _ (by omega)) (f4 _ (by omega)) (f3 _ (by omega)) so s1 s2 s3 s4 hn
  ·rw[if_neg c4];refine nK _ _ _ _ _ op a b c d nm _ ?_ k (f3 _ (by omega)) (f4 _ (by omega)) (f3 _ (by omega)) so s1 s2 s3 s4 hn;by_cases eA:op=10
   ·rw[eA];rfl
   ·rw[decide_eq_false (by omega)];exact beq_eq_false_iff_ne.mpr eA
theorem mb (op a b c d:Int) (nm:ByteArray) (hv:dO op a b c d nm=true) (a0: -9223372036854775808≤a) (a1:a≤9223372036854775807) (b0: -9223372036854775808≤b) (b1:b≤9223372036854775807) (c0: -9223372036854775808≤c) (c1:c≤9223372036854775807) (d0: -9223372036854775808≤d) (d1:d≤9223372036854775807)
  (hn:nm.size≤2000000):af.f op a b c d nm=some (la op a b c d nm):=by
 unfold la;rw[if_pos hv];unfold af.f;rw[impl_op];simp only[dr];rw[J_size,J_W,if_pos];refine⟨?_,?_⟩
 ·intro x hx;simp only[List.mem_cons,List.not_mem_nil,or_false]at hx
  rcases hx with rfl|rfl|rfl|rfl
  ·exact⟨a0,a1⟩
  ·exact⟨b0,b1⟩
  ·exact⟨c0,c1⟩
  ·exact⟨d0,d1⟩
 ·have:=ma (eB op) _ _ _ _ op c d nm (lG op) (dH a a0 a1) (dH b b0 b1) (dH c c0 c1) (dH d d0 d1) hn;omega
theorem px (op a b c d:Int) (nm:ByteArray) (a0: -9223372036854775808≤a) (a1:a≤9223372036854775807) (b0: -9223372036854775808≤b) (b1:b≤9223372036854775807) (c0: -9223372036854775808≤c) (c1:c≤9223372036854775807) (d0: -9223372036854775808≤d) (d1:d≤9223372036854775807)
  (hn:nm.size≤2000000):(la op a b c d nm).size≤3000000:=by
 unfold la
 split
 ·exact ma (eB op) _ _ _ _ op c d nm (lG op) (dH a a0 a1) (dH b b0 b1) (dH c c0 c1) (dH d d0 d1) hn
 ·decide
def ie:ByteArray:=⟨#[115,99,114,105,112,116,32]⟩
def gI:ByteArray:=⟨#[109,101,116,104,111,100,32]⟩
theorem iO:(⟨#[115,99,114,105,112,116,32]⟩:ByteArray).size=7:=rfl
theorem gh:(⟨#[109,101,116,104,111,100,32]⟩:ByteArray).size=7:=rfl
theorem ff:(⟨#[10]⟩:ByteArray).size=1:=rfl
def fV (x:cw):ByteArray:=la x.f0 x.f1 x.f2 x.f3 x.f4 x.f5
def gi:List cw→ByteArray→ByteArray
 | [],t=>t
 | x::r,t=>gi r (t++(fV x++(⟨#[10]⟩:ByteArray)))
def gG:List cW→ByteArray→ByteArray
 | [],t=>t
 | m::r,t=>gG r (gi m.f1 (t++(((⟨#[109,101,116,104,111,100,32]⟩:ByteArray)++m.f0)++(⟨#[10]⟩:ByteArray))))
def ky (z:cw):Prop:=(-9223372036854775808≤z.f1∧z.f1≤9223372036854775807)∧(-9223372036854775808≤z.f2∧z.f2≤9223372036854775807)∧(-9223372036854775808≤z.f3∧z.f3≤9223372036854775807)∧(-9223372036854775808≤z.f4∧z.f4≤9223372036854775807)
def lH (l:List cW):Prop:=∀x∈l,∀z∈x.f1,ky z
theorem jk (z:cw) (h:ky z) (hn:z.f5.size≤1048576):(fV z).size≤3000000 :=
 px _ _ _ _ _ _ h.1.1 h.1.2 h.2.1.1 h.2.1.2 h.2.2.1.1 h.2.2.1.2 h.2.2.2.1 h.2.2.2.2 (by omega)
theorem gA:∀(l:List cw) (t:ByteArray),(∀z∈l,ky z∧z.f5.size≤1048576)→(gi l t).size≤t.size+l.length*3000001
 | [],t,_=>by simp[gi]
 | x::r,t,h=>by
  have h1:=gA r (t++(fV x++(⟨#[10]⟩:ByteArray))) (fun z hz=>h z (List.mem_cons_of_mem _ hz));have h2:=jk x (h x (by simp)).1 (h x (by simp)).2;simp only[ByteArray.size_append,ff]at h1;simp only[gi,List.length_cons];omega
theorem nM:∀(l:List cw) (t:ByteArray),(∀z∈l,ky z∧z.f5.size≤1048576∧eV z=true)→t.size+l.length*3000001≤100000000000→bB.l1 l t=some (gi l t)
 | [],t,_,_=>rfl
 | x::r,t,h,hs=>by
  obtain⟨hi,hn,hv⟩:=h x (by simp);have h2:=jk x hi hn;have e:af.f x.f0 x.f1 x.f2 x.f3 x.f4 x.f5=some (fV x):=mb _ _ _ _ _ _ hv hi.1.1 hi.1.2 hi.2.1.1 hi.2.1.2 hi.2.2.1.1 hi.2.2.1.2 hi.2.2.2.1 hi.2.2.2.2 (by omega);simp only[List.length_cons]at hs;simp only[bB.l1,gi];rw[e];simp only[dr];rw[if_pos (by omega)];exact nM r _ (fun z hz=>h z (List.mem_cons_of_mem _ hz)) (by simp only[ByteArray.size_append,ff];omega)
theorem mc:∀(l:List cW) (t:ByteArray),(∀x∈l,x.f0.size≤1048576∧x.f1.length≤12∧∀z∈x.f1,ky z∧z.f5.size≤1048576∧eV z=true)→t.size+l.length*40000000≤10000000000→bB.l0 l t=some (gG l t)
 | [],t,_,_=>rfl
 | x::r,t,h,hs=>by
  obtain⟨hn,hc,hz⟩:=h x (by simp);simp only[List.length_cons]at hs;simp only[bB.l0,gG];rw[if_pos ⟨by omega,by omega⟩,nM x.f1 _ hz (by simp only[ByteArray.size_append,gh,ff];omega)];simp only[dr];refine mc r _ (fun y hy=>h y (List.mem_cons_of_mem _ hy)) ?_;have h1:=gA x.f1 (t++(((⟨#[109,101,116,104,111,100,32]⟩:ByteArray)++x.f0)++(⟨#[10]⟩:ByteArray))) (fun z hz'=>⟨(hz z hz').1,(hz z hz').2.1⟩);simp only[ByteArray.size_append,gh,ff]at h1;omega
def py (nm:ByteArray) (l:List cW):ByteArray:=if de nm l=true then gG l ((⟨#[]⟩:ByteArray)++(((⟨#[115,99,114,105,112,116,32]⟩:ByteArray)++nm)++(⟨#[10]⟩:ByteArray)))else⟨#[]⟩
theorem fW (l:List cW):∀(d i:Nat),l.length-i=d→eu l d i=true→∀j,i≤j→(h:j<l.length)→fI l[j].f0 l[j].f1=true
 | 0,i,h0,_,j,h1,h2=>by omega
 | d+1,i,h0,h,j,h1,h2=>by
  simp only[eu,Bool.and_eq_true]at h;by_cases c:j=i
  ·subst c;have:=h.1;rw[List.getD_eq_getElem?_getD,List.getElem?_eq_getElem h2]at this;exact this
  ·exact fW l d (i+1) (by omega) h.2.2 j (by omega) h2
theorem fT (nm:ByteArray) (l:List cW) (hf:jh l) (hi:lH l) (h:de nm l=true):l.length≤4∧∀x∈l,x.f0.size≤1048576∧x.f1.length≤12∧∀z∈x.f1,ky z∧z.f5.size≤1048576∧eV z=true:=by
 unfold de at h;simp only[Bool.and_eq_true,decide_eq_true_eq]at h;refine⟨h.2.2,fun x hx=>?_⟩;obtain⟨j,hj,rfl⟩:=List.getElem_of_mem hx;have hm:=fW l _ 0 rfl h.1 j (by omega) hj;unfold fI at hm;simp only[Bool.and_eq_true,decide_eq_true_eq]at hm;exact⟨(hf.2 _ hx).1,hm.2.1,fun z hz=>⟨hi _ hx z hz,(hf.2 _ hx).2.2 z hz,List.all_eq_true.1 hm.2.2 z hz⟩⟩
theorem impl_fs (nm:ByteArray) (hn:nm.size≤1048576) (l:List cW) (hf:jh l) (hi:lH l) (h:de nm l=true):bB.f nm l=some (py nm l):=by
 obtain⟨h4,ha⟩:=fT nm l hf hi h;unfold bB.f py;rw[if_pos ⟨by omega,by omega⟩,if_pos h];refine mc l _ ha ?_;have e0:(⟨#[]⟩:ByteArray).size=0:=rfl;simp only[ByteArray.size_append,iO,ff,e0];omega
theorem fs_l1 (nm:ByteArray) (l:List cW) (hl:l.length≤4) (i:Nat) (hi:i<l.length) (hc:(l.getD i eH).f1.length≤12) (hz:∀z∈(l.getD i eH).f1,ky z∧z.f5.size≤1048576) (v:ByteArray) (K:Nat) (d:Nat):∀(k j:Nat) (t:ByteArray),j≤(l.getD i eH).f1.length→(l.getD i eH).f1.length-j=d→t.size+d*3000001≤100000000000 →
  (∀k,K≤k→aw.l0 k (gi ((l.getD i eH).f1.drop j) t) ((i+1:Nat):Int) nm l=some v)→K+d+2000000<k→aw.l1 k t (i:Int) (j:Int) nm l=some v:=by
 induction d with
 | zero =>
  intro k j t h0 h1 hs hK hk;obtain⟨k,rfl⟩:∃m,k=m+1:=⟨k-1,by omega⟩;have hj:j=(l.getD i eH).f1.length:=by omega
  simp only[aw.l1];rw[kt,if_pos (by omega),if_pos (by omega),if_neg (by omega),Kit.cU i (by omega)];have:=hK k (by omega);rw[hj,List.drop_length]at this;exact this
 | succ d ih =>
  intro k j t h0 h1 hs hK hk;obtain⟨k,rfl⟩:∃m,k=m+1:=⟨k-1,by omega⟩;have hj:j<(l.getD i eH).f1.length:=by omega
  have hr:ab (l.getD i eH).f1 (j:Int)=(l.getD i eH).f1[j]:=by
   unfold ab;rw[Int.toNat_natCast,List.getD_eq_getElem?_getD,List.getElem?_eq_getElem hj];rfl
  obtain⟨hii,hn⟩:=hz _ (List.getElem_mem hj);have h2:=jk _ hii hn;have e:∀k,1100000<k→ar.f k (l.getD i eH).f1[j].f0 (l.getD i eH).f1[j].f1 (l.getD i eH).f1[j].f2 (l.getD i eH).f1[j].f3 (l.getD i eH).f1[j].f4 (l.getD i eH).f1[j].f5=some (fV (l.getD i eH).f1[j]):=fun k hk=>nL _ _ _ _ _ _ hii.1.1 hii.1.2 hii.2.1.1 hii.2.1.2 hii.2.2.1.1 hii.2.2.1.2 hii.2.2.2.1 hii.2.2.2.2 (by omega) k (by omega)
  simp only[aw.l1];rw[kt,hr,if_pos (by omega),if_pos (by omega),if_pos (by omega),if_pos (by omega),e k (by omega)];simp only[dr];rw[if_pos (by omega),if_pos (by simp only[ByteArray.size_append];omega),Kit.cU j (by omega),ByteArray.append_assoc];refine ih k (j+1) _ (by omega) (by omega) (by simp only[ByteArray.size_append,ff];omega) ?_ (by omega);intro k' hk';have:=hK k' hk';rw[List.drop_eq_getElem_cons hj]at this;exact this
theorem fs_l0 (nm:ByteArray) (l:List cW) (hl:l.length≤4) (ha:∀x∈l,x.f0.size≤1048576∧x.f1.length≤12∧∀z∈x.f1,ky z∧z.f5.size≤1048576∧eV z=true):∀(d i:Nat) (t:ByteArray),i≤l.length→l.length-i=d→t.size+d*40000000≤10000000000→∃K,∀k,K≤k→aw.l0 k t (i:Int) nm l=some (gG (l.drop i) t)
 | 0,i,t,h0,h1,hs=>by
  refine⟨1,fun k hk=>?_⟩;obtain⟨k,rfl⟩:∃m,k=m+1:=⟨k-1,by omega⟩;have hi:i=l.length:=by omega
  subst hi;simp only[aw.l0];rw[if_neg (by omega),List.drop_length];rfl
 | d+1,i,t,h0,h1,hs=>by
  have hi:i<l.length:=by omega
  have hg:l.getD i eH=l[i]:=by rw[List.getD_eq_getElem?_getD,List.getElem?_eq_getElem hi];rfl
  obtain⟨hn,hc,hz⟩:=ha _ (List.getElem_mem hi);rw[←hg]at hn hc hz;have hz2:∀z∈(l.getD i eH).f1,ky z∧z.f5.size≤1048576:=fun z h=>⟨(hz z h).1,(hz z h).2.1⟩
  obtain⟨T,hT⟩:∃T,T=t++(((⟨#[109,101,116,104,111,100,32]⟩:ByteArray)++(l.getD i eH).f0)++(⟨#[10]⟩:ByteArray)):=⟨_,rfl⟩;have hTs:T.size=t.size+(7+(l.getD i eH).f0.size+1):=by rw[hT];simp only[ByteArray.size_append,gh,ff]
  have h3:=gA (l.getD i eH).f1 T hz2;obtain⟨K,hK⟩:=fs_l0 nm l hl ha d (i+1) (gi (l.getD i eH).f1 T) (by omega) (by omega) (by omega);refine⟨K+3000000,fun k hk=>?_⟩;obtain⟨k,rfl⟩:∃m,k=m+1:=⟨k-1,by omega⟩;simp only[aw.l0];rw[kt,if_pos (by omega),if_pos (by omega),if_pos (by omega),if_pos (by simp only[ByteArray.size_append,gh];omega),if_pos (by simp only[ByteArray.size_append,gh];omega)];have e:((t++(⟨#[109,101,116,104,111,100,32]⟩:ByteArray))++(l.getD i eH).f0)++(⟨#[10]⟩:ByteArray)=T:=by rw[hT,ByteArray.append_assoc,ByteArray.append_assoc,ByteArray.append_assoc]
  rw[e,List.drop_eq_getElem_cons hi];simp only[gG];rw[←hg,←hT];exact fs_l1 nm l hl i hi hc hz2 _ K _ k 0 T (by omega) rfl (by omega) (fun k hk=>hK k hk) (by omega)
theorem spec_fs (nm:ByteArray) (hn:nm.size≤1048576) (l:List cW) (hf:jh l) (hi:lH l):∃K,∀k,K≤k→aw.f k nm l=some (py nm l):=by
 obtain⟨K,hK⟩:=jx nm hn l hf;unfold py;cases hv:de nm l
 ·refine⟨K,fun k hk=>?_⟩;unfold aw.f;rw[hK k hk,hv];simp only[dr];rw[if_neg (by decide),if_neg (by decide)]
 ·obtain⟨h4,ha⟩:=fT nm l hf hi hv;obtain⟨T,hT⟩:∃T,T=(((⟨#[115,99,114,105,112,116,32]⟩:ByteArray)++nm)++(⟨#[10]⟩:ByteArray)):=⟨_,rfl⟩;have hTs:T.size=7+nm.size+1:=by rw[hT];simp only[ByteArray.size_append,iO,ff]
  obtain⟨K2,hK2⟩:=fs_l0 nm l h4 ha _ 0 T (by omega) rfl (by omega);refine⟨K+K2,fun k hk=>?_⟩;unfold aw.f;rw[hK k (by omega),hv];simp only[dr];rw[if_pos trivial,if_pos (by omega),if_pos (by simp only[ByteArray.size_append,iO];omega),if_pos trivial,←hT];have e0:(⟨#[]⟩:ByteArray)++T=T:=ByteArray.empty_append;rw[e0];exact hK2 k (by omega)
def fX (l:List bY):Bool:=fe l l.length 0&&decide (l.length≤6)
def me:List bY→ByteArray→ByteArray
 | [],t=>t
 | x::r,t=>me r (t++py x.f0 x.f1)
def oQ (l:List bY):ByteArray:=if fX l=true then me l ⟨#[]⟩else⟨#[]⟩
theorem kz:∀(l:List cW) (t:ByteArray),(∀x∈l,x.f0.size≤1048576∧x.f1.length≤12∧∀z∈x.f1,ky z∧z.f5.size≤1048576∧eV z=true)→(gG l t).size≤t.size+l.length*40000000
 | [],t,_=>by simp[gG]
 | x::r,t,h=>by
  obtain⟨hn,hc,hz⟩:=h x (by simp);have h1:=gA x.f1 (t++(((⟨#[109,101,116,104,111,100,32]⟩:ByteArray)++x.f0)++(⟨#[10]⟩:ByteArray))) (fun z hz'=>⟨(hz z hz').1,(hz z hz').2.1⟩);have h2:=kz r (gi x.f1 (t++(((⟨#[109,101,116,104,111,100,32]⟩:ByteArray)++x.f0)++(⟨#[10]⟩:ByteArray)))) (fun y hy=>h y (List.mem_cons_of_mem _ hy));simp only[ByteArray.size_append,gh,ff]at h1;simp only[gG,List.length_cons];omega
theorem mf (nm:ByteArray) (hn:nm.size≤1048576) (l:List cW) (hf:jh l) (hi:lH l):(py nm l).size≤200000000:=by
 unfold py
 split
 ·rename_i h
  obtain⟨h4,ha⟩:=fT nm l hf hi h;have h1:=kz l ((⟨#[]⟩:ByteArray)++(((⟨#[115,99,114,105,112,116,32]⟩:ByteArray)++nm)++(⟨#[10]⟩:ByteArray))) ha;have e0:(⟨#[]⟩:ByteArray).size=0:=rfl;simp only[ByteArray.size_append,iO,ff,e0]at h1;omega
 ·decide
theorem jz (l:List bY):∀(d i:Nat),l.length-i=d→fe l d i=true→∀j,i≤j→(h:j<l.length)→de l[j].f0 l[j].f1=true
 | 0,i,h0,_,j,h1,h2=>by omega
 | d+1,i,h0,h,j,h1,h2=>by
  simp only[fe,Bool.and_eq_true]at h;by_cases c:j=i
  ·subst c;have:=h.1;rw[List.getD_eq_getElem?_getD,List.getElem?_eq_getElem h2]at this;exact this
  ·exact jz l d (i+1) (by omega) h.2.2 j (by omega) h2
theorem iP (l:List bY) (h:fX l=true):l.length≤6∧∀x∈l,de x.f0 x.f1=true:=by
 unfold fX at h;simp only[Bool.and_eq_true,decide_eq_true_eq]at h;refine⟨h.2,fun x hx=>?_⟩;obtain⟨j,hj,rfl⟩:=List.getElem_of_mem hx;exact jz l _ 0 rfl h.1 j (by omega) hj
theorem mg:∀(l:List bY) (t:ByteArray),(∀x∈l,(x.f0.size≤1048576∧jh x.f1∧lH x.f1)∧de x.f0 x.f1=true)→t.size+l.length*200000000≤10000000000→bA.l0 l t=some (me l t)
 | [],t,_,_=>rfl
 | x::r,t,h,hs=>by
  obtain⟨⟨hn,hf,hi⟩,hv⟩:=h x (by simp);have h2:=mf x.f0 hn x.f1 hf hi;simp only[List.length_cons]at hs;simp only[bA.l0,me];rw[impl_fs x.f0 hn x.f1 hf hi hv];simp only[dr];rw[if_pos (by omega)];exact mg r _ (fun y hy=>h y (List.mem_cons_of_mem _ hy)) (by rw[ByteArray.size_append];omega)
theorem nN (l:List bY) (hl:l.length≤1048576) (hm:∀x∈l,x.f0.size≤1048576∧jh x.f1∧lH x.f1) (k:Nat) (hk:55000000<k):bA.f k l=some (oQ l):=by
 have e:aE.f k l=some (fX l):=by
  unfold aE.f fX;by_cases c8:l.length≤6
  ·rw[if_neg (by omega)];have:=kv l hl (fun x hx=>⟨(hm x hx).1,(hm x hx).2.1⟩) l.length k 0 (by omega) (by omega) (by omega);rw[show(0:Int)=((0:Nat):Int)from rfl,this,decide_eq_true c8,Bool.and_true]
  ·rw[if_pos (by omega),decide_eq_false c8,Bool.and_false]
 unfold bA.f oQ;rw[e];simp only[dr];cases hv:fX l
 ·rw[if_neg (by decide),if_neg (by decide)]
 ·obtain⟨h6,ha⟩:=iP l hv;rw[if_pos rfl,if_pos rfl,if_pos (by omega)];refine mg l _ (fun x hx=>⟨hm x hx,ha x hx⟩) ?_;have e0:(⟨#[]⟩:ByteArray).size=0:=rfl;omega
theorem pz:∀(l:List bY),(∀x∈l,x.f0.size≤1048576∧jh x.f1∧lH x.f1)→∃K,∀x∈l,∀k,K≤k→aw.f k x.f0 x.f1=some (py x.f0 x.f1)
 | [],_=>⟨0,fun x hx=>absurd hx (by simp)⟩
 | y::ys,h=>by
  obtain⟨K1,h1⟩:=pz ys (fun x hx=>h x (List.mem_cons_of_mem _ hx));obtain⟨hn,hf,hi⟩:=h y (List.mem_cons_self ..);obtain⟨K2,h2⟩:=spec_fs y.f0 hn y.f1 hf hi;refine⟨K1+K2,fun x hx k hk=>?_⟩
  rcases List.mem_cons.1 hx with rfl|hx
  ·exact h2 k (by omega)
  ·exact h1 x hx k (by omega)
theorem mh (l:List bY) (hl:l.length≤6) (hz:∀x∈l,(py x.f0 x.f1).size≤200000000) (K:Nat) (hK:∀x∈l,∀k,K≤k→aw.f k x.f0 x.f1=some (py x.f0 x.f1)):∀(d k i:Nat) (t:ByteArray),i≤l.length→l.length-i=d→t.size+d*200000000≤10000000000→K+d<k→aW.l0 k l t (i:Int)=some (me (l.drop i) t)
 | 0,k,i,t,h0,h1,hs,h2=>by
  obtain⟨k,rfl⟩:∃m,k=m+1:=⟨k-1,by omega⟩;have hi:i=l.length:=by omega
  subst hi;simp only[aW.l0];rw[if_neg (by omega),List.drop_length];rfl
 | d+1,k,i,t,h0,h1,hs,h2=>by
  obtain⟨k,rfl⟩:∃m,k=m+1:=⟨k-1,by omega⟩;have hi:i<l.length:=by omega
  have hr:aN l (i:Int)=l[i]:=by
   rw[nI,List.getD_eq_getElem?_getD,List.getElem?_eq_getElem hi];rfl
  have h3:=hz _ (List.getElem_mem hi);simp only[aW.l0];rw[if_pos (by omega),if_pos (by omega),hr,hK _ (List.getElem_mem hi) k (by omega)];simp only[dr];rw[if_pos (by omega),Kit.cU i (by omega),List.drop_eq_getElem_cons hi];exact mh l hl hz K hK d k (i+1) _ (by omega) (by omega) (by rw[ByteArray.size_append];omega) (by omega)
theorem nO (l:List bY) (hl:l.length≤1048576) (hm:∀x∈l,x.f0.size≤1048576∧jh x.f1∧lH x.f1):∃K,∀k,K≤k→aW.f k l=some (oQ l):=by
 obtain⟨K1,h1⟩:=iC l (fun x hx=>⟨(hm x hx).1,(hm x hx).2.1⟩);obtain⟨K2,h2⟩:=pz l hm;refine⟨K1+K2+3000000,fun k hk=>?_⟩;have e:a7.f k l=some (fX l):=ku l hl K1 h1 _ k 0 (by omega) (by omega) (by omega);unfold aW.f oQ;rw[e];simp only[dr];cases hv:fX l
 ·rw[if_neg (by decide),if_neg (by decide)]
 ·obtain⟨h6,ha⟩:=iP l hv;rw[if_pos rfl,if_pos rfl];have e0:(⟨#[]⟩:ByteArray).size=0:=rfl;have:=mh l h6 (fun x hx=>mf x.f0 (hm x hx).1 x.f1 (hm x hx).2.1 (hm x hx).2.2) K2 h2 l.length k 0 ⟨#[]⟩ (by omega) rfl (by omega) (by omega);rw[List.drop_zero]at this;exact this
theorem jA (m:Nat) (h:m<10):Go.Lib.digitVal (UInt8.ofNat (48+m))=some m:=by
 have e:(UInt8.ofNat (48+m)).toNat=48+m:=by
  rw[UInt8.toNat_ofNat'];omega
 unfold Go.Lib.digitVal;rw[e,if_pos (by omega)]
 congr 1
 omega
theorem iQ:∀(l:List UInt8) (acc m d:Nat) (b:UInt8),Go.Lib.decFrom acc l=some m→Go.Lib.digitVal b=some d→Go.Lib.decFrom acc (l++[b])=some (m*10+d)
 | [],acc,m,d,b,h,hb=>by
  simp only[Go.Lib.decFrom,Option.some.injEq]at h;subst h;simp[Go.Lib.decFrom,hb]
 | c::r,acc,m,d,b,h,hb=>by
  simp only[List.cons_append,Go.Lib.decFrom]at h ⊢
  cases hc:Go.Lib.digitVal c with
  | none =>
   rw[hc]at h;exact absurd h (by simp)
  | some q =>
   rw[hc]at h;exact iQ r _ m d b h hb
theorem jB:∀(u:Nat),Go.Lib.decFrom 0 (Go.Lib.decDigits u)=some u:=by
 intro u
 induction u using Nat.strongRecOn with
 | _ u ih =>
  rw[Go.Lib.decDigits];by_cases c:u<10
  ·rw[dif_pos c]
   show(match Go.Lib.digitVal (UInt8.ofNat (48+u))with|some d=>Go.Lib.decFrom (0*10+d) []|none=>none)=some u
   rw[jA u c];simp[Go.Lib.decFrom]
  ·rw[dif_neg c,iQ _ _ _ _ _ (ih (u / 10) (by omega)) (jA (u % 10) (Nat.mod_lt _ (by decide)))]
   congr 1
   omega
theorem nd_le:∀(k u:Nat),u<10 ^ (k+1)→Go.Lib.nDigits u≤k+1
 | 0,u,h=>by rw[Go.Lib.nDigits_small (by simpa using h)];exact Nat.le_refl _
 | k+1,u,h=>by
  by_cases c:u<10
  ·rw[Go.Lib.nDigits_small c];omega
  ·rw[Go.Lib.nDigits_big c];have:=nd_le k (u / 10) (by rw[Nat.pow_succ]at h;omega);omega
def canon (s:ByteArray) (n:Nat):Prop:=n≤1000000000000∧s.data.toList=Go.Lib.decDigits n
theorem ld (s:ByteArray) (n:Nat) (h:canon s n):1≤s.data.toList.length∧s.data.toList.length≤13:=by
 rw[h.2,Go.Lib.decDigits_length];exact⟨Go.Lib.nDigits_pos n,nd_le 12 n (by have:=h.1;omega)⟩
theorem mY (s:ByteArray) (n:Nat) (h:canon s n):Go.Lib.atoiAll s.data.toList=.ok (n:Int):=by
 have hl:=ld s n h;have hd:Go.Lib.decFrom 0 s.data.toList=some n:=by rw[h.2];exact jB n
 rw[Go.Lib.atoiAll_short _ (by omega)]
 cases hs:s.data.toList with
 | nil =>
  rw[hs]at hl;exact absurd hl.1 (by decide)
 | cons c r =>
  rw[hs]at hd
  have hc:48≤c.toNat∧c.toNat≤57:=by
   simp only[Go.Lib.decFrom,Go.Lib.digitVal]at hd;by_cases q:48≤c.toNat∧c.toNat≤57
   ·exact q
   ·rw[if_neg q]at hd;exact absurd hd (by simp)
  have h45:(c==45)=false:=by
   apply beq_eq_false_iff_ne.2;rintro rfl;exact absurd hc.1 (by decide)
  have h43:(c==43)=false:=by
   apply beq_eq_false_iff_ne.2;rintro rfl;exact absurd hc.1 (by decide)
  unfold Go.Lib.atoi Go.Lib.decNat;dsimp only;rw[h45,h43];simp only[Bool.false_eq_true,if_false,List.isEmpty_cons];rw[hd];rfl
theorem ba_list (s:ByteArray) (l:List UInt8):(ba l).toList=s.toList↔s.data.toList=l:=by
 rw[Go.ByteArray.toList_eq,Go.ByteArray.toList_eq]
 show l=s.data.toList↔_
 exact eq_comm
def oI (s:ByteArray):Option Nat→Int×Bool
 | none=>(0,false)
 | some n=>if (n:Int)>1000000000000 then(0,false)else if (ba (Go.Lib.itoa (n:Int))).toList=s.toList then((n:Int),true)else(0,false)
theorem lg (s:ByteArray) (hs:s.size≤13):∀(d k i acc:Nat),i≤s.size→s.size-i=d→acc<10 ^ i→d+60<k→br.l0 k s (acc:Int) (i:Int)=some (oI s (Go.Lib.decFrom acc (s.data.toList.drop i)))
 | 0,k,i,acc,h0,h1,h2,h3=>by
  obtain⟨k,rfl⟩:∃m,k=m+1:=⟨k-1,by omega⟩;have hp:10 ^ i≤10 ^ 13:=Nat.pow_le_pow_right (by decide) (by omega);have hz:s.size=s.data.toList.length:=rfl;simp only[br.l0];rw[if_neg (by omega),List.drop_of_length_le (by omega),gT (acc:Int) (by omega) (by omega) k (by omega)];simp only[dr,Go.Lib.decFrom,oI];by_cases c:(acc:Int)>1000000000000
  ·rw[if_pos c,if_pos c]
  ·rw[if_neg c,if_neg c];by_cases c2:(ba (Go.Lib.itoa (acc:Int))).toList=s.toList
   ·rw[if_pos c2,if_pos c2]
   ·rw[if_neg c2,if_neg c2]
 | d+1,k,i,acc,h0,h1,h2,h3=>by
  obtain⟨k,rfl⟩:∃m,k=m+1:=⟨k-1,by omega⟩;have hp:10 ^ i≤10 ^ 12:=Nat.pow_le_pow_right (by decide) (by omega);have hz:s.size=s.data.toList.length:=rfl;have hi:i<s.data.toList.length:=by omega
  have hb:=(s.data.toList[i]).toNat_lt;simp only[br.l0];rw[if_pos (by omega),if_pos (by omega),lF s i hi,List.drop_eq_getElem_cons hi,Kit.dM _ (by omega) (by omega)];simp only[Go.Lib.decFrom,Go.Lib.digitVal];unfold bC.f;by_cases c1:48≤(s.data.toList[i]).toNat
  ·rw[if_pos (by omega)];by_cases c2:(s.data.toList[i]).toNat≤57
   ·rw[decide_eq_true (by omega),if_pos ⟨c1,c2⟩];simp only[dr]
    have e:wrap64 ((wrap64 (10*(acc:Int)))+((((s.data.toList[i]).toNat:Int)-48) % 256))=((acc*10+((s.data.toList[i]).toNat-48):Nat):Int):=by
     rw[Kit.dM (10*(acc:Int)) (by omega) (by omega),Kit.dM _ (by omega) (by omega)];omega
    rw[if_pos trivial,e,Kit.cU i (by omega)];exact lg s hs d k (i+1) _ (by omega) (by omega) (by rw[Nat.pow_succ];omega) (by omega)
   ·rw[decide_eq_false (by omega),if_neg (fun h=>c2 h.2)];simp only[dr];rw[if_neg (by simp)];rfl
  ·rw[if_neg (by omega),if_neg (fun h=>c1 h.1)];simp only[dr];rw[if_neg (by simp)];rfl
theorem iD (s:ByteArray) (k:Nat) (hk:100<k):br.f k s=some (if 1≤s.size∧s.size≤13 then oI s (Go.Lib.decFrom 0 s.data.toList)else(0,false)):=by
 unfold br.f bC.f;by_cases c1:1≤s.size
 ·rw[if_pos (by omega)];by_cases c2:s.size≤13
  ·rw[decide_eq_true (by omega),if_pos ⟨c1,c2⟩];simp only[dr];rw[if_pos trivial];have:=lg s c2 s.size k 0 0 (by omega) (by omega) (by decide) (by omega);rw[List.drop_zero]at this;exact this
  ·rw[decide_eq_false (by omega),if_neg (fun h=>c2 h.2)];simp only[dr];rw[if_neg (by simp)]
 ·rw[if_neg (by omega),if_neg (fun h=>c1 h.1)];simp only[dr];rw[if_neg (by simp)]
theorem pA (s:ByteArray) (n:Nat) (h:canon s n) (k:Nat) (hk:100<k):br.f k s=some ((n:Int),true):=by
 have hl:=ld s n h;have hz:s.size=s.data.toList.length:=rfl;have hn:=h.1;have hd:Go.Lib.decFrom 0 s.data.toList=some n:=by rw[h.2];exact jB n
 rw[iD s k hk,if_pos ⟨by omega,by omega⟩,hd];unfold oI;dsimp only;rw[if_neg (by omega),if_pos ((ba_list s _).2 (by rw[Go.Lib.itoa_nonneg];exact h.2))]
def eN (c:UInt8):List UInt8→List (List UInt8)
 | []=>[[]]
 | b::r=>if b=c then[]::eN c r else match eN c r with
  | []=>[[b]]
  | h::t=>(b::h)::t
theorem iR (c:UInt8):∀l,eN c l≠[]
 | []=>by simp[eN]
 | b::r=>by
  unfold eN
  split
  ·simp
  ·split<;>simp
theorem jm (c:UInt8):∀l,c∉l→eN c l=[l]
 | [],_=>rfl
 | b::r,h=>by
  have h1:b≠c:=fun e=>h (by rw[e];exact List.mem_cons_self ..)
  unfold eN;rw[if_neg h1,jm c r (fun hm=>h (List.mem_cons_of_mem _ hm))]
theorem gj (c:UInt8):∀w r,c∉w→eN c (w++c::r)=w::eN c r
 | [],r,_=>by simp[eN]
 | b::w,r,h=>by
  have h1:b≠c:=fun e=>h (by rw[e];exact List.mem_cons_self ..)
  rw[List.cons_append,eN,if_neg h1,gj c w r (fun hm=>h (List.mem_cons_of_mem _ hm))]
theorem mi (a b:List UInt8) (r:List (List UInt8)) (c:UInt8):Go.Lib.join (a::b::r) [c]=a++c::Go.Lib.join (b::r) [c]:=by
 simp[Go.Lib.join,List.intercalate,List.intersperse]
theorem lh (c:UInt8):∀ws:List (List UInt8),ws≠[]→(∀w∈ws,c∉w)→eN c (Go.Lib.join ws [c])=ws
 | [],h,_=>absurd rfl h
 | [w],_,h=>by
  have e:Go.Lib.join [w] [c]=w:=by simp[Go.Lib.join,List.intercalate]
  rw[e];exact jm c w (h w (by simp))
 | a::b::r,_,h=>by
  rw[mi,gj c a _ (h a (by simp)),lh c (b::r) (by simp) (fun w hw=>h w (List.mem_cons_of_mem _ hw))]
theorem nP (l:List UInt8) (c:UInt8) (j:Nat):Go.Lib.occAt l [c] j=(l[j]? ==some c):=by
 unfold Go.Lib.occAt
 cases h:l.drop j with
 | nil =>
  have:l[j]? =none:=List.getElem?_eq_none (List.drop_eq_nil_iff.1 h);rw[this];rfl
 | cons b r =>
  have:l[j]? =some b:=by
   have:=congrArg (·[0]?) h
   simpa using this
  rw[this];simp only[List.isPrefixOf,Option.some_beq_some,Bool.and_true];exact BEq.comm
theorem kA (c:UInt8):∀(k:Nat) (s:List UInt8),Go.Lib.count s [c]=k→Go.Lib.splitK [c] 0 k s=eN c s
 | 0,s,h=>by
  rw[Go.Lib.count_one]at h;rw[jm c s (List.count_eq_zero.1 h)];rfl
 | k+1,s,h=>by
  have h':=h;rw[Go.Lib.count_one]at h'
  rcases Go.Lib.index_spec s [c]with ⟨h1,_⟩|⟨i,h1,h2,h3,h4⟩
  ·rw[Go.Lib.count_miss h1]at h;exact absurd h (by simp)
  ·have hm:¬(Go.Lib.index s [c]==-1)=true:=fun e=>by have:=beq_iff_eq.1 e;omega
   have e:(Go.Lib.index s [c]).toNat=i:=by omega
   rw[nP]at h3;have h3:=beq_iff_eq.1 h3;obtain⟨hi,hc⟩:=List.getElem?_eq_some_iff.1 h3
   have hs:s=s.take i++c::s.drop (i+1):=by
    rw[←hc,←List.drop_eq_getElem_cons hi,List.take_append_drop]
   have hf:c∉s.take i:=by
    intro hm;obtain⟨j,hj,ej⟩:=List.getElem_of_mem hm;rw[List.length_take]at hj;have h5:=h4 j (by omega);rw[nP]at h5;rw[List.getElem_take]at ej;rw[List.getElem?_eq_getElem (by omega),ej]at h5;simp at h5
   have hk:=Go.Lib.count_hit (by simp) h1;rw[h]at hk
   have hk2:Go.Lib.count (s.drop (i+1)) [c]=k:=by
    have:[c].length=1:=rfl;rw[this]at hk;omega
   rw[Go.Lib.splitK,if_neg hm,e]
   conv=>rhs;rw[hs]
   rw[gj c _ _ hf]
   show s.take (i+0)::Go.Lib.splitK [c] 0 k (s.drop (i+1))=_
   rw[kA c k _ hk2];rfl
def b9 (c:UInt8) (s:ByteArray):List ByteArray:=(eN c s.data.toList).map ba
theorem hY (s:ByteArray):ba s.data.toList=s:=by
 apply ByteArray.ext;simp[ba]
theorem lJ:∀l:List ByteArray,(l.map (·.data.toList)).map ba=l
 | []=>rfl
 | x::r=>by
  rw[List.map_cons,List.map_cons,lJ r,hY]
theorem lK (c:UInt8) (s:ByteArray):Go.Lib.splitB ⟨#[c]⟩ 0 (Go.Lib.countB s ⟨#[c]⟩) s=b9 c s:=by
 have h:=Go.Lib.splitB_data ⟨#[c]⟩ 0 (Go.Lib.countB s ⟨#[c]⟩) s;have h2:Go.Lib.splitK [c] 0 (Go.Lib.countB s ⟨#[c]⟩) s.data.toList=eN c s.data.toList:=kA c _ _ rfl;have h3:(Go.Lib.splitB ⟨#[c]⟩ 0 (Go.Lib.countB s ⟨#[c]⟩) s).map (·.data.toList)=eN c s.data.toList:=h.trans h2;rw[b9,←h3,lJ]
theorem kB (c:UInt8) (s:ByteArray) (hs:s.size<4294967281):strings_Split.f s ⟨#[c]⟩=some (b9 c s):=by
 unfold strings_Split.f;rw[if_pos ⟨hs,rfl⟩,lK]
def glue (p:List UInt8):List (List UInt8)→List (List UInt8)
 | []=>[p]
 | h::t=>(p++h)::t
theorem fJ (s:ByteArray) (f i:Nat):s.extract ((f:Int)).toNat ((i:Int)).toNat=ba ((s.data.toList.drop f).take (i-f)):=by
 rw[←Go.Lib.extract_data,hY,Int.toNat_natCast,Int.toNat_natCast]
theorem bt_nth (s:ByteArray) (i:Nat) (h:i<s.data.toList.length):bt s (i:Int)=((s.data.toList[i]).toNat:Int):=by
 have h':(i:Int).toNat<s.size:=by simpa using h
 unfold bt;rw[dif_pos h'];rfl
theorem fo (c:UInt8) (s:ByteArray) (hs:s.size≤40000000):∀(d k f i:Nat) (out:List ByteArray),f≤i→i≤s.size→s.size-i=d→out.length+d≤50000000→d+2≤k→bo.l0 k s (c.toNat:Int) out (f:Int) (i:Int)=some (out++(glue ((s.data.toList.drop f).take (i-f)) (eN c (s.data.toList.drop i))).map ba)
 | 0,k,f,i,out,h0,h1,h2,h3,h4=>by
  obtain⟨k,rfl⟩:∃m,k=m+1+1:=⟨k-2,by omega⟩;have hz:s.size=s.data.toList.length:=rfl;have hi:i=s.size:=by omega
  subst hi;rw[show s.data.toList.drop s.size=[]from List.drop_of_length_le (by omega)];simp only[bo.l0];rw[if_pos (Int.le_refl _),if_pos trivial,if_pos (by omega),if_pos (by omega),if_pos (by omega),Kit.cU s.size (by omega),if_neg (by omega),fJ];simp[eN,glue]
 | d+1,k,f,i,out,h0,h1,h2,h3,h4=>by
  obtain⟨k,rfl⟩:∃m,k=m+1:=⟨k-1,by omega⟩;have hz:s.size=s.data.toList.length:=rfl;have hi:i<s.data.toList.length:=by omega
  have hd:(s.data.toList.drop f).take (i+1-f)=(s.data.toList.drop f).take (i-f)++[s.data.toList[i]]:=by
   rw[show i+1-f=(i-f)+1 by omega,List.take_add_one,List.getElem?_drop,show f+(i-f)=i by omega,List.getElem?_eq_getElem hi];rfl
  simp only[bo.l0];rw[if_pos (by omega),if_neg (by omega),if_pos (by omega),if_pos (by omega),bt_nth s i hi,List.drop_eq_getElem_cons hi,Kit.cU i (by omega)];by_cases hc:s.data.toList[i]=c
  ·rw[if_pos (by rw[hc]),if_pos (by omega),if_pos (by omega),if_pos (by omega),fJ];rw[fo c s hs d k (i+1) (i+1) _ (Nat.le_refl _) (by omega) (by omega) (by simp;omega) (by omega)];rw[Nat.sub_self,List.take_zero,eN,if_pos hc];have hn:=iR c (s.data.toList.drop (i+1))
   cases h:eN c (s.data.toList.drop (i+1))with
   | nil=>exact absurd h hn
   | cons a t=>simp[glue]
  ·rw[if_neg (fun e=>hc (UInt8.toNat_inj.1 (by omega)))];rw[fo c s hs d k f (i+1) out (by omega) (by omega) (by omega) (by omega) (by omega),hd,eN,if_neg hc];have hn:=iR c (s.data.toList.drop (i+1))
   cases h:eN c (s.data.toList.drop (i+1))with
   | nil=>exact absurd h hn
   | cons a t=>simp[glue]
theorem kC (c:UInt8) (s:ByteArray) (hs:s.size≤40000000) (k:Nat) (hk:s.size+2≤k):bo.f k s (c.toNat:Int)=some (b9 c s):=by
 unfold bo.f;have h:=fo c s hs s.size k 0 0 [] (Nat.le_refl _) (Nat.zero_le _) (by omega) (by simp;omega) hk;rw[show((0:Nat):Int)=0 from rfl]at h;rw[h];have hn:=iR c s.data.toList
 cases hc:eN c s.data.toList with
 | nil=>exact absurd hc hn
 | cons a t=>simp[glue,b9,hc]
theorem jo (c:UInt8) (s:ByteArray):0<(b9 c s).length:=by
 unfold b9;rw[List.length_map];exact List.length_pos_iff.2 (iR c _)
theorem ll (c:UInt8):∀l:List UInt8,(eN c l).length≤l.length+1∧∀w∈eN c l,w.length≤l.length
 | []=>by simp[eN]
 | b::r=>by
  obtain⟨h1,h2⟩:=ll c r;unfold eN
  split
  ·refine⟨by simp;omega,fun w hw=>?_⟩
   rcases List.mem_cons.1 hw with rfl|hw
   ·simp
   ·have:=h2 w hw;simp;omega
  ·cases h:eN c r with
   | nil=>exact absurd h (iR c r)
   | cons a t =>
    rw[h]at h1 h2;refine⟨by simp at h1 ⊢;omega,fun w hw=>?_⟩
    rcases List.mem_cons.1 hw with rfl|hw
    ·have:=h2 a (by simp);simp;omega
    ·have:=h2 w (List.mem_cons_of_mem _ hw);simp;omega
theorem gC (c:UInt8) (s:ByteArray):(b9 c s).length≤s.size+1∧∀w∈b9 c s,w.size≤s.size:=by
 obtain⟨h1,h2⟩:=ll c s.data.toList;refine⟨by unfold b9;rw[List.length_map];exact h1,fun w hw=>?_⟩;obtain⟨l,hl,rfl⟩:=List.mem_map.1 hw;exact h2 l hl
theorem impl_fi (op a b c d:Int) (nm:ByteArray) (a0: -9223372036854775808≤a) (a1:a≤9223372036854775807) (b0: -9223372036854775808≤b) (b1:b≤9223372036854775807) (c0: -9223372036854775808≤c) (c1:c≤9223372036854775807) (d0: -9223372036854775808≤d) (d1:d≤9223372036854775807)
  (hn:nm.size≤2000000) (k:Nat) (hk:nm.size+40<k):bV.f k op a b c d nm=some (la op a b c d nm):=by
 unfold bV.f;rw[ks op a b c d nm (by omega) _ (by omega)];simp only[dr];cases hv:dO op a b c d nm
 ·rw[if_neg (by decide)];unfold la;rw[hv,if_neg (by decide)]
 ·rw[if_pos rfl,mb op a b c d nm hv a0 a1 b0 b1 c0 c1 d0 d1 hn];rfl
theorem jC {x y:ByteArray}:x.toList=y.toList↔x=y:=by
 rw[Go.ByteArray.toList_eq,Go.ByteArray.toList_eq];constructor
 ·intro h;rw[←hY x,←hY y,h]
 ·intro h;rw[h]
theorem fp {x:ByteArray}:x.toList=[]↔x=⟨#[]⟩:=by
 have e:(⟨#[]⟩:ByteArray).toList=[]:=by rw[Go.ByteArray.toList_eq]
 constructor
 ·intro h;exact jC.1 (h.trans e.symm)
 ·intro h;rw[h,e]
abbrev R7:=Int×Int×Int×Int×Int×ByteArray×Bool
def z7:R7:=(0,0,0,0,0,(⟨#[]⟩:ByteArray),false)
def eo (n:Int):Prop:=-9223372036854775808≤n∧n≤9223372036854775807
def ft (s:ByteArray) (op a b c d:Int) (nm:ByteArray):Prop:=dO op a b c d nm=true∧la op a b c d nm=s
def kD (s:ByteArray) (op a b c d:Int) (nm:ByteArray):R7:=if dO op a b c d nm=true then(if (la op a b c d nm).toList=s.toList then(op,a,b,c,d,nm,true)else z7)else z7
theorem ey {s:ByteArray} {op a b c d:Int} {nm:ByteArray} (h:ft s op a b c d nm):kD s op a b c d nm=(op,a,b,c,d,nm,true):=by
 unfold kD;rw[if_pos h.1,h.2,if_pos rfl]
theorem gU {s:ByteArray} {op a b c d:Int} {nm:ByteArray} (h:¬ft s op a b c d nm):kD s op a b c d nm=z7:=by
 unfold kD;by_cases c1:dO op a b c d nm=true
 ·rw[if_pos c1];by_cases c2:(la op a b c d nm).toList=s.toList
  ·exact absurd ⟨c1,jC.1 c2⟩ h
  ·rw[if_neg c2]
 ·rw[if_neg c1]
theorem fK (s:ByteArray) (op a b c d:Int) (nm:ByteArray) (ha:eo a) (hb:eo b) (hc:eo c) (hd:eo d) (hn:nm.size≤2000000) (k:Nat) (hk:nm.size+42<k):ao.j1 k s op a b c d nm=some (kD s op a b c d nm):=by
 obtain⟨k,rfl⟩:∃m,k=m+1:=⟨k-1,by omega⟩;simp only[ao.j1];rw[iB op a b c d nm (by omega) _ (by omega),nL op a b c d nm ha.1 ha.2 hb.1 hb.2 hc.1 hc.2 hd.1 hd.2 hn _ (by omega)];unfold kD z7;simp only[dr];by_cases c1:dO op a b c d nm=true
 ·rw[if_pos c1,if_pos c1];by_cases c2:(la op a b c d nm).toList=s.toList
  ·rw[if_pos c2,if_pos c2]
  ·rw[if_neg c2,if_neg c2]
 ·rw[if_neg c1,if_neg c1]
def pI (w:ByteArray):Int×Bool:=if 1≤w.size∧w.size≤13 then oI w (Go.Lib.decFrom 0 w.data.toList)else(0,false)
theorem pI_bd (w:ByteArray):0≤(pI w).1∧(pI w).1≤1000000000000:=by
 unfold pI
 split
 ·cases Go.Lib.decFrom 0 w.data.toList with
  | none =>
   show(0:Int)≤0∧(0:Int)≤1000000000000
   omega
  | some n =>
   unfold oI;dsimp only;by_cases c:(n:Int)>1000000000000
   ·rw[if_pos c];decide
   ·rw[if_neg c]
    split
    ·exact⟨by show(0:Int)≤(n:Int);omega,by show(n:Int)≤_;omega⟩
    ·decide
 ·decide
theorem pI_num (n:Nat) (hn:n≤1000000000000):pI (ba (Go.Lib.itoa (n:Int)))=((n:Int),true):=by
 have hc:canon (ba (Go.Lib.itoa (n:Int))) n:=⟨hn,by rw[Go.Lib.itoa_nonneg];rfl⟩;have h1:=pA _ n hc 200 (by omega);rw[iD _ 200 (by omega)]at h1;exact Option.some.inj h1
def num (l:List ByteArray) (i:Nat):Int:=if i<l.length then(if (pI (l.getD i ByteArray.empty)).2=true then(pI (l.getD i ByteArray.empty)).1 else -1)else -1
theorem dn (l:List ByteArray) (i:Nat):eo (num l i):=by
 have:=pI_bd (l.getD i ByteArray.empty);unfold num eo
 split
 ·split<;>omega
 ·omega
theorem hZ (l:List ByteArray) (i:Nat) (h:l.length≤i):num l i= -1:=by
 unfold num;rw[if_neg (by omega)]
theorem dP (l:List ByteArray) (i:Nat) (n:Int) (h:l[i]? =some (ba (Go.Lib.itoa n))) (h0:0≤n) (h1:n≤1000000000000):num l i=n:=by
 obtain⟨m,rfl⟩:=Int.eq_ofNat_of_zero_le h0;have hp:=pI_num m (by omega);unfold num;rw[if_pos (List.getElem?_eq_some_iff.1 h).1,List.getD_eq_getElem?_getD,h,Option.getD_some,hp,if_pos rfl]
theorem gV (l:List ByteArray) (i:Nat) (k:Nat) (hk:100<k):aU.f k l (i:Int)=some (num l i):=by
 unfold aU.f num;by_cases c:i<l.length
 ·rw[if_neg (by omega),if_pos (by omega),if_pos (by omega),if_pos c,iD _ k hk];simp only[dr]
  have e:dp ByteArray.empty l (i:Int)=l.getD i ByteArray.empty:=by
   unfold dp;rw[Int.toNat_natCast]
  rw[e]
  show(if (pI (l.getD i ByteArray.empty)).2=true then some (pI (l.getD i ByteArray.empty)).1 else some (-1))=_
  split<;>rfl
 ·rw[if_pos (by omega),if_neg c]
def opL:Nat→Nat→ByteArray→Int
 | 0,_,_=>0
 | d+1,i,w=>if (eB (i:Int)).data.toList=w.data.toList then(i:Int)else opL d (i+1) w
def opW (w:ByteArray):Int:=opL 10 1 w
theorem iS (w:ByteArray):∀d k i:Nat,i+d=11→d<k→bT.l0 k w (i:Int)=some (opL d i w)
 | 0,k,i,h,hk=>by
  obtain⟨k,rfl⟩:∃m,k=m+1:=⟨k-1,by omega⟩;simp only[bT.l0];rw[if_neg (by omega)];rfl
 | d+1,k,i,h,hk=>by
  obtain⟨k,rfl⟩:∃m,k=m+1:=⟨k-1,by omega⟩;simp only[bT.l0];rw[if_pos (by omega),nG];simp only[dr];rw[Go.ByteArray.toList_eq,Go.ByteArray.toList_eq,Kit.cU i (by omega),iS w d k (i+1) (by omega) (by omega),opL]
  split<;>rfl
theorem pB (w:ByteArray) (k:Nat) (hk:10<k):bT.f k w=some (opW w):=iS w 10 k 1 rfl hk
theorem opW_opn (op:Int) (h0:1≤op) (h1:op≤10):opW (eB op)=op:=by
 obtain⟨n,rfl⟩:=Int.eq_ofNat_of_zero_le (show 0≤op by omega);have h:∀m:Fin 11,1≤m.val→opW (eB (m.val:Int))=(m.val:Int):=by decide +kernel
 exact h ⟨n,by omega⟩ (by show 1≤n;omega)
def ir (s:ByteArray) (l:List ByteArray) (op:Int):R7 :=
 if op=4∨op=10 then kD s op (num l 1) 0 0 0 ⟨#[]⟩
 else if op=5 then kD s op (num l 1) (num l 2) (num l 3) 0 ⟨#[]⟩
 else if op=6 then kD s op (num l 1) (num l 2) (num l 4) (num l 5) (if 3<l.length then l.getD 3 ByteArray.empty else⟨#[]⟩)
 else if op=7 then kD s op (num l 1) 0 (num l 3) (num l 4) (if 2<l.length then l.getD 2 ByteArray.empty else⟨#[]⟩)
 else kD s op (num l 1) (num l 2) 0 0 ⟨#[]⟩
theorem iu:eo 0:=by unfold eo;omega
theorem ln (l:List ByteArray) (N:Nat) (h:∀w∈l,w.size≤N) (i:Nat):(l.getD i ByteArray.empty).size≤N:=by
 rw[List.getD_eq_getElem?_getD]
 cases hi:l[i]? with
 | none=>exact Nat.zero_le _
 | some x=>exact h x (List.mem_of_getElem? hi)
theorem nQ (s:ByteArray) (l:List ByteArray) (op:Int) (hl:∀w∈l,w.size≤1048576) (q:Bool) (hq:q=decide (op=4∨op=10)) (k:Nat) (hk:2000000<k):ao.j0 k s l op q op (num l 1) 0 0 0 ⟨#[]⟩=some (ir s l op):=by
 obtain⟨k,rfl⟩:∃m,k=m+1:=⟨k-1,by omega⟩;have z0:(⟨#[]⟩:ByteArray).size=0:=rfl;subst hq;simp only[ao.j0];unfold ir;by_cases c4:op=4∨op=10
 ·rw[if_pos c4,decide_eq_true c4,if_pos rfl,fK s op _ 0 0 0 _ (dn _ _) iu iu iu (by omega) _ (by omega)]
 rw[if_neg c4,decide_eq_false c4,if_neg (by decide)];have n2:aU.f k l 2=some (num l 2):=gV l 2 k (by omega);have n3:aU.f k l 3=some (num l 3):=gV l 3 k (by omega);have n4:aU.f k l 4=some (num l 4):=gV l 4 k (by omega);have n5:aU.f k l 5=some (num l 5):=gV l 5 k (by omega);have w3:=ln l _ hl 3;have w2:=ln l _ hl 2;rw[n2,n3,n4,n5];simp only[dr];by_cases c5:op=5
 ·rw[if_pos c5,if_pos c5,fK s op _ _ _ 0 _ (dn _ _) (dn _ _) (dn _ _) iu (by omega) _ (by omega)]
 rw[if_neg c5,if_neg c5];by_cases c6:op=6
 ·rw[if_pos c6,if_pos c6];by_cases cl:3<l.length
  ·rw[if_pos (by omega),if_pos (by omega),if_pos cl];exact fK s op _ _ _ _ _ (dn _ _) (dn _ _) (dn _ _) (dn _ _) (by show(l.getD 3 ByteArray.empty).size≤_;omega) _ (by show(l.getD 3 ByteArray.empty).size+42< _;omega)
  ·rw[if_neg (by omega),if_neg cl];exact fK s op _ _ _ _ _ (dn _ _) (dn _ _) (dn _ _) (dn _ _) (by omega) _ (by omega)
 rw[if_neg c6,if_neg c6];by_cases c7:op=7
 ·rw[if_pos c7,if_pos c7];by_cases cl:2<l.length
  ·rw[if_pos (by omega),if_pos (by omega),if_pos cl];exact fK s op _ _ _ _ _ (dn _ _) iu (dn _ _) (dn _ _) (by show(l.getD 2 ByteArray.empty).size≤_;omega) _ (by show(l.getD 2 ByteArray.empty).size+42< _;omega)
  ·rw[if_neg (by omega),if_neg cl];exact fK s op _ _ _ _ _ (dn _ _) iu (dn _ _) (dn _ _) (by omega) _ (by omega)
 rw[if_neg c7,if_neg c7,fK s op _ _ 0 0 _ (dn _ _) (dn _ _) iu iu (by omega) _ (by omega)]
theorem lL (s:ByteArray) (hs:s.size≤1048576) (k:Nat) (hk:2000000<k):ao.f k s=some (ir s (b9 32 s) (opW ((b9 32 s).getD 0 ByteArray.empty))):=by
 obtain⟨l,hl⟩:∃l,l=b9 32 s:=⟨_,rfl⟩;have hp:=jo 32 s;have hz:=(gC 32 s).2;have h1:=kC 32 s (by omega) k (by omega);rw[←hl]at hp hz h1 ⊢;have n1:=gV l 1 k (by omega);have e:dp ByteArray.empty l 0=l.getD 0 ByteArray.empty:=rfl;unfold ao.f;rw[show(32:Int)=((32:UInt8).toNat:Int)from rfl,h1];simp only[dr];rw[if_pos (by omega),e,pB _ k (by omega)];simp only[dr];rw[show(1:Int)=((1:Nat):Int)from rfl,n1];simp only[dr];obtain⟨op,ho⟩:∃o,o=opW (l.getD 0 ByteArray.empty):=⟨_,rfl⟩;rw[←ho];have hl':∀w∈l,w.size≤1048576:=fun w hw=>by have:=hz w hw;omega
 by_cases c:op=4
 ·rw[if_pos c,nQ s l op hl' _ (by rw[c];rfl) k hk]
 ·rw[if_neg c];refine nQ s l op hl' _ ?_ k hk;by_cases eA:op=10
  ·rw[eA];rfl
  ·rw[decide_eq_false (by omega)];exact beq_eq_false_iff_ne.mpr eA
theorem jO (u:Nat):∀b∈Go.Lib.decDigits u,48≤b.toNat∧b.toNat≤57:=by
 induction u using Nat.strongRecOn with
 | _ u ih =>
  intro b hb;rw[Go.Lib.decDigits]at hb;by_cases c:u<10
  ·rw[dif_pos c]at hb;have e:=List.mem_singleton.1 hb;rw[e,UInt8.toNat_ofNat'];omega
  ·rw[dif_neg c]at hb
   rcases List.mem_append.1 hb with hb|hb
   ·exact ih (u / 10) (by omega) b hb
   ·have e:=List.mem_singleton.1 hb;rw[e,UInt8.toNat_ofNat'];omega
theorem oJ (n:Int):(32:UInt8)∉Go.Lib.itoa n:=by
 intro h;unfold Go.Lib.itoa at h
 split at h
 ·rcases List.mem_cons.1 h with h|h
  ·exact absurd h (by decide)
  ·exact absurd (jO _ _ h).1 (by decide)
 ·exact absurd (jO _ _ h).1 (by decide)
theorem op_free (op:Int):(32:UInt8)∉(eB op).data.toList:=by
 unfold eB
 split
 ·rename_i h
  obtain⟨n,hn⟩:∃n:Nat,op.toNat=n:=⟨_,rfl⟩;rw[hn];have h1:n≤10:=by omega
  have:∀m:Fin 11,(32:UInt8)∉(bJ.mD.getD m.val ⟨#[]⟩).data.toList:=by decide +kernel
  exact this ⟨n,by omega⟩
 ·simp
theorem kE {nm:ByteArray} (h:cV nm=true):∀b∈nm.data.toList,97≤b.toNat∧b.toNat≤122:=by
 intro b hb;unfold cV at h;have h2:=List.all_eq_true.1 (Bool.and_eq_true_iff.1 h).2 b hb
 simpa [oB] using h2
theorem iT {nm:ByteArray} (h:cV nm=true):1≤nm.data.toList.length∧nm.data.toList.length≤6:=by
 unfold cV at h;have h1:=(Bool.and_eq_true_iff.1 h).1;simp only[km,Bool.and_eq_true,decide_eq_true_eq]at h1;have hz:nm.size=nm.data.toList.length:=rfl;omega
theorem lp {nm:ByteArray} (h:cV nm=true):(32:UInt8)∉nm.data.toList:=fun hb=>absurd (kE h _ hb).1 (by decide)
theorem eZ {c d:Int} (h:iq c d=true):(c= -1∧d= -1)∨((0≤c∧c≤7)∧(d= -1∨(0≤d∧d≤7))):=by
 unfold iq at h
 split at h
 ·rename_i hc
  exact .inl ⟨hc,by simpa using h⟩
 ·simp only[ec,km,Bool.and_eq_true,Bool.or_eq_true,beq_iff_eq,decide_eq_true_eq]at h;exact .inr h
theorem e9 {op a b c d:Int} {nm:ByteArray} (h:dO op a b c d nm=true):(1≤op∧op≤10)∧(0≤a∧a≤7) ∧
  (((op=4∨op=10)∧b=0∧c=0∧d=0∧nm=⟨#[]⟩)∨(op=5∧(0≤b∧b≤7)∧(0≤c∧c≤7)∧d=0∧nm=⟨#[]⟩)∨(op=6∧(0≤b∧b≤7)∧iq c d=true∧cV nm=true)∨(op=7∧b=0∧iq c d=true∧cV nm=true)∨((op≠4∧op≠10∧op≠5∧op≠6∧op≠7)∧(0≤b∧b≤999999)∧c=0∧d=0∧nm=⟨#[]⟩)):=by
 unfold dO at h;by_cases c1:op=1
 ·rw[if_pos c1]at h;simp only[ec,km,dE,Bool.and_eq_true,beq_iff_eq,decide_eq_true_eq]at h;obtain⟨⟨hc,hd,hn⟩,ha,hb⟩:=h;exact⟨by omega,ha,.inr (.inr (.inr (.inr ⟨by omega,by omega,hc,hd,fp.1 hn⟩)))⟩
 rw[if_neg c1]at h;by_cases c2:op=2
 ·rw[if_pos c2]at h;simp only[ec,km,dE,Bool.and_eq_true,beq_iff_eq,decide_eq_true_eq]at h;obtain⟨⟨hc,hd,hn⟩,ha,hb⟩:=h;exact⟨by omega,ha,.inr (.inr (.inr (.inr ⟨by omega,by omega,hc,hd,fp.1 hn⟩)))⟩
 rw[if_neg c2]at h;by_cases c3:op=3
 ·rw[if_pos c3]at h;simp only[ec,km,dE,Bool.and_eq_true,beq_iff_eq,decide_eq_true_eq]at h;obtain⟨⟨hc,hd,hn⟩,ha,hb⟩:=h;exact⟨by omega,ha,.inr (.inr (.inr (.inr ⟨by omega,by omega,hc,hd,fp.1 hn⟩)))⟩
 rw[if_neg c3]at h;by_cases c4:op=4∨op=10
 ·rw[if_pos c4]at h;simp only[ec,km,dE,Bool.and_eq_true,beq_iff_eq,decide_eq_true_eq]at h;obtain⟨⟨hc,hd,hn⟩,ha,hb⟩:=h;exact⟨by omega,ha,.inl ⟨c4,hb,hc,hd,fp.1 hn⟩⟩
 rw[if_neg c4]at h;by_cases c5:op=5
 ·rw[if_pos c5]at h;simp only[ec,km,dE,Bool.and_eq_true,beq_iff_eq,decide_eq_true_eq]at h;obtain⟨⟨hd,hn⟩,ha,hb,hc⟩:=h;exact⟨by omega,ha,.inr (.inl ⟨c5,hb,hc,hd,fp.1 hn⟩)⟩
 rw[if_neg c5]at h;by_cases c6:op=6
 ·rw[if_pos c6]at h;simp only[ec,km,Bool.and_eq_true,decide_eq_true_eq]at h;obtain⟨ha,hb,hp,hn⟩:=h;exact⟨by omega,ha,.inr (.inr (.inl ⟨c6,hb,hp,hn⟩))⟩
 rw[if_neg c6]at h;by_cases c7:op=7
 ·rw[if_pos c7]at h;simp only[ec,km,Bool.and_eq_true,beq_iff_eq,decide_eq_true_eq]at h;obtain⟨ha,hb,hp,hn⟩:=h;exact⟨by omega,ha,.inr (.inr (.inr (.inl ⟨c7,hb,hp,hn⟩)))⟩
 rw[if_neg c7]at h;by_cases c8:op=8
 ·rw[if_pos c8]at h;simp only[ec,km,dE,Bool.and_eq_true,beq_iff_eq,decide_eq_true_eq]at h;obtain⟨⟨hc,hd,hn⟩,ha,hb⟩:=h;exact⟨by omega,by omega,.inr (.inr (.inr (.inr ⟨by omega,by omega,hc,hd,fp.1 hn⟩)))⟩
 rw[if_neg c8]at h;by_cases c9:op=9
 ·rw[if_pos c9]at h;simp only[ec,km,dE,Bool.and_eq_true,beq_iff_eq,decide_eq_true_eq]at h;obtain⟨⟨hc,hd,hn⟩,ha,hb⟩:=h;exact⟨by omega,by omega,.inr (.inr (.inr (.inr ⟨by omega,by omega,hc,hd,fp.1 hn⟩)))⟩
 rw[if_neg c9]at h;exact absurd h (by decide)
theorem W_free {op a b c d:Int} {nm:ByteArray} (h:dO op a b c d nm=true):∀w∈af.W (eB op) op a b c d nm,(32:UInt8)∉w.data.toList:=by
 have hS:∀(l:List Int),∀w∈l.map ah.S,(32:UInt8)∉w.data.toList:=by
  intro l w hw;obtain⟨n,_,rfl⟩:=List.mem_map.1 hw;exact oJ n
 have hO:∀w∈[eB op],(32:UInt8)∉w.data.toList:=by
  intro w hw;rw[List.mem_singleton.1 hw];exact op_free op
 have hN:(op=6∨op=7)→∀w∈[nm],(32:UInt8)∉w.data.toList:=by
  intro ho w hw;rw[List.mem_singleton.1 hw]
  rcases(e9 h).2.2 with x|x|x|x|x
  ·omega
  ·omega
  ·exact lp x.2.2.2
  ·exact lp x.2.2.2
  ·omega
 unfold af.W;intro w hw
 split at hw
 ·rcases List.mem_append.1 hw with hw|hw
  ·exact hO w hw
  ·exact hS _ w hw
 split at hw
 ·rcases List.mem_append.1 hw with hw|hw
  ·exact hO w hw
  ·exact hS _ w hw
 split at hw
 ·rename_i h6
  rcases List.mem_append.1 hw with hw|hw
  ·rcases List.mem_append.1 hw with hw|hw
   ·rcases List.mem_append.1 hw with hw|hw
    ·exact hO w hw
    ·exact hS _ w hw
   ·exact hN (.inl h6) w hw
  ·exact hS _ w hw
 split at hw
 ·rename_i h7
  rcases List.mem_append.1 hw with hw|hw
  ·rcases List.mem_append.1 hw with hw|hw
   ·rcases List.mem_append.1 hw with hw|hw
    ·exact hO w hw
    ·exact hS _ w hw
   ·exact hN (.inr h7) w hw
  ·exact hS _ w hw
 ·rcases List.mem_append.1 hw with hw|hw
  ·exact hO w hw
  ·exact hS _ w hw
theorem kF (o:ByteArray) (op a b c d:Int) (nm:ByteArray):∃x r,af.W o op a b c d nm=o::x::r:=by
 unfold af.W
 split
 ·exact⟨_,_,rfl⟩
 split
 ·exact⟨_,_,rfl⟩
 split
 ·exact⟨_,_,rfl⟩
 split
 ·exact⟨_,_,rfl⟩
 ·exact⟨_,_,rfl⟩
theorem fa {s:ByteArray} {op a b c d:Int} {nm:ByteArray} (h:ft s op a b c d nm):b9 32 s=af.W (eB op) op a b c d nm:=by
 have hs:s=strings_Join.J (af.W (eB op) op a b c d nm):=by
  rw[J_W,←h.2];unfold la;rw[if_pos h.1]
 have hd:s.data.toList=Go.Lib.join ((af.W (eB op) op a b c d nm).map (·.data.toList)) [32]:=by
  rw[hs];rfl
 obtain⟨x,r,hx⟩:=kF (eB op) op a b c d nm;unfold b9
 rw[hd,lh 32 _ (by rw[hx];simp) (fun w hw=>by
  obtain⟨v,hv,rfl⟩:=List.mem_map.1 hw;exact W_free h.1 v hv),lJ]
theorem nR {s:ByteArray} {op a b c d:Int} {nm:ByteArray} (h:ft s op a b c d nm):s.toList≠[]:=by
 intro e;have hw:=fa h;obtain⟨x,r,hx⟩:=kF (eB op) op a b c d nm;rw[fp.1 e,hx]at hw;have:=congrArg List.length hw;simp[b9,eN]at this
theorem mj (n:Int):ah.S n=ba (Go.Lib.itoa n):=rfl
theorem kG {s:ByteArray} {op a b c d:Int} {nm:ByteArray} (h:ft s op a b c d nm):ir s (b9 32 s) (opW ((b9 32 s).getD 0 ByteArray.empty))=(op,a,b,c,d,nm,true):=by
 obtain⟨ho,ha,hf⟩:=e9 h.1
 have h0:opW ((b9 32 s).getD 0 ByteArray.empty)=op:=by
  obtain⟨x,r,hx⟩:=kF (eB op) op a b c d nm;rw[fa h,hx];exact opW_opn op ho.1 ho.2
 rw[h0,fa h]
 rcases hf with ⟨h1,rfl,rfl,rfl,rfl⟩|⟨rfl,hb,hc,rfl,rfl⟩|⟨rfl,hb,hp,hn⟩|⟨rfl,rfl,hp,hn⟩|⟨h1,hb,rfl,rfl,rfl⟩
 ·have e:af.W (eB op) op a 0 0 0 ⟨#[]⟩=[eB op,ba (Go.Lib.itoa a)]:=by
   unfold af.W;rw[if_pos h1];rfl
  unfold ir;rw[e,if_pos h1,dP _ 1 a rfl ha.1 (by omega)];exact ey h
 ·have e:af.W (eB 5) 5 a b c 0 ⟨#[]⟩=[eB 5,ba (Go.Lib.itoa a),ba (Go.Lib.itoa b),ba (Go.Lib.itoa c)]:=rfl;unfold ir;rw[e,if_neg (by omega),if_pos rfl,dP _ 1 a rfl ha.1 (by omega),dP _ 2 b rfl hb.1 (by omega),dP _ 3 c rfl hc.1 (by omega)];exact ey h
 ·have e:af.W (eB 6) 6 a b c d nm=[eB 6,ba (Go.Lib.itoa a),ba (Go.Lib.itoa b),nm]++(bj.L c d).map ah.S:=rfl;unfold ir
  rcases eZ hp with ⟨rfl,rfl⟩|⟨hc,hd⟩
  ·have e2:[eB 6,ba (Go.Lib.itoa a),ba (Go.Lib.itoa b),nm]++(bj.L (-1) (-1)).map ah.S=[eB 6,ba (Go.Lib.itoa a),ba (Go.Lib.itoa b),nm]:=rfl;rw[e,e2,if_neg (by omega),if_neg (by omega),if_pos rfl,dP _ 1 a rfl ha.1 (by omega),dP _ 2 b rfl hb.1 (by omega),hZ _ 4 (by simp),hZ _ 5 (by simp),if_pos (by simp)];exact ey h
  ·have hcb:(c==-1)=false:=beq_eq_false_iff_ne.mpr (by omega)
   rcases hd with rfl|hd
   ·have e2:[eB 6,ba (Go.Lib.itoa a),ba (Go.Lib.itoa b),nm]++(bj.L c (-1)).map ah.S=[eB 6,ba (Go.Lib.itoa a),ba (Go.Lib.itoa b),nm,ba (Go.Lib.itoa c)]:=by
     simp[bj.L,List.filter_cons,hcb,mj]
    rw[e,e2,if_neg (by omega),if_neg (by omega),if_pos rfl,dP _ 1 a rfl ha.1 (by omega),dP _ 2 b rfl hb.1 (by omega),dP _ 4 c rfl hc.1 (by omega),hZ _ 5 (by simp),if_pos (by simp)];exact ey h
   ·have hdb:(d==-1)=false:=beq_eq_false_iff_ne.mpr (by omega)
    have e2:[eB 6,ba (Go.Lib.itoa a),ba (Go.Lib.itoa b),nm]++(bj.L c d).map ah.S=[eB 6,ba (Go.Lib.itoa a),ba (Go.Lib.itoa b),nm,ba (Go.Lib.itoa c),ba (Go.Lib.itoa d)]:=by
     simp[bj.L,List.filter_cons,hcb,hdb,mj]
    rw[e,e2,if_neg (by omega),if_neg (by omega),if_pos rfl,dP _ 1 a rfl ha.1 (by omega),dP _ 2 b rfl hb.1 (by omega),dP _ 4 c rfl hc.1 (by omega),dP _ 5 d rfl hd.1 (by omega),if_pos (by simp)];exact ey h
 ·have e:af.W (eB 7) 7 a 0 c d nm=[eB 7,ba (Go.Lib.itoa a),nm]++(bj.L c d).map ah.S:=rfl;unfold ir
  rcases eZ hp with ⟨rfl,rfl⟩|⟨hc,hd⟩
  ·have e2:[eB 7,ba (Go.Lib.itoa a),nm]++(bj.L (-1) (-1)).map ah.S=[eB 7,ba (Go.Lib.itoa a),nm]:=rfl;rw[e,e2,if_neg (by omega),if_neg (by omega),if_neg (by omega),if_pos rfl,dP _ 1 a rfl ha.1 (by omega),hZ _ 3 (by simp),hZ _ 4 (by simp),if_pos (by simp)];exact ey h
  ·have hcb:(c==-1)=false:=beq_eq_false_iff_ne.mpr (by omega)
   rcases hd with rfl|hd
   ·have e2:[eB 7,ba (Go.Lib.itoa a),nm]++(bj.L c (-1)).map ah.S=[eB 7,ba (Go.Lib.itoa a),nm,ba (Go.Lib.itoa c)]:=by
     simp[bj.L,List.filter_cons,hcb,mj]
    rw[e,e2,if_neg (by omega),if_neg (by omega),if_neg (by omega),if_pos rfl,dP _ 1 a rfl ha.1 (by omega),dP _ 3 c rfl hc.1 (by omega),hZ _ 4 (by simp),if_pos (by simp)];exact ey h
   ·have hdb:(d==-1)=false:=beq_eq_false_iff_ne.mpr (by omega)
    have e2:[eB 7,ba (Go.Lib.itoa a),nm]++(bj.L c d).map ah.S=[eB 7,ba (Go.Lib.itoa a),nm,ba (Go.Lib.itoa c),ba (Go.Lib.itoa d)]:=by
     simp[bj.L,List.filter_cons,hcb,hdb,mj]
    rw[e,e2,if_neg (by omega),if_neg (by omega),if_neg (by omega),if_pos rfl,dP _ 1 a rfl ha.1 (by omega),dP _ 3 c rfl hc.1 (by omega),dP _ 4 d rfl hd.1 (by omega),if_pos (by simp)];exact ey h
 ·have e:af.W (eB op) op a b 0 0 ⟨#[]⟩=[eB op,ba (Go.Lib.itoa a),ba (Go.Lib.itoa b)]:=by
   unfold af.W;rw[if_neg (by omega),if_neg (by omega),if_neg (by omega),if_neg (by omega)];rfl
  unfold ir;rw[e,if_neg (by omega),if_neg (by omega),if_neg (by omega),if_neg (by omega),dP _ 1 a rfl ha.1 (by omega),dP _ 2 b rfl hb.1 (by omega)];exact ey h
def ixL:Nat→Nat→ByteArray→Int
 | 0,_,_=>-1
 | d+1,i,w=>if w.data.toList=(bJ.mD.getD i ByteArray.empty).data.toList then(i:Int)else ixL d (i+1) w
def ixW (w:ByteArray):Int:=ixL 11 0 w
theorem iU (w:ByteArray):∀d k i:Nat,i+d=11→d<k→az.l0 k bJ.mD w 11 (i:Int)=some (ixL d i w)
 | 0,k,i,h,hk=>by
  obtain⟨k,rfl⟩:∃m,k=m+1:=⟨k-1,by omega⟩;simp only[az.l0];rw[if_neg (by omega)];rfl
 | d+1,k,i,h,hk=>by
  obtain⟨k,rfl⟩:∃m,k=m+1:=⟨k-1,by omega⟩
  have e:dp ByteArray.empty bJ.mD (i:Int)=bJ.mD.getD i ByteArray.empty:=by
   unfold dp;rw[Int.toNat_natCast]
  simp only[az.l0];rw[if_pos (by omega),if_pos (by omega),if_pos (by show(i:Int)<11;omega),e,Go.ByteArray.toList_eq,Go.ByteArray.toList_eq,Kit.cU i (by omega),iU w d k (i+1) (by omega) (by omega),ixL]
  split<;>rfl
theorem impl_ix (w:ByteArray) (k:Nat) (hk:11<k):az.f k bJ.mD w=some (ixW w):=iU w 11 k 0 rfl hk
theorem ixW_opn (op:Int) (h0:1≤op) (h1:op≤10):ixW (eB op)=op:=by
 obtain⟨n,rfl⟩:=Int.eq_ofNat_of_zero_le (show 0≤op by omega);have h:∀m:Fin 11,1≤m.val→ixW (eB (m.val:Int))=(m.val:Int):=by decide +kernel
 exact h ⟨n,by omega⟩ (by show 1≤n;omega)
theorem pC (n:Int) (h0:0≤n) (h1:n≤1000000000000):Go.Lib.atoiAll (ba (Go.Lib.itoa n)).data.toList=.ok n:=by
 obtain⟨m,rfl⟩:=Int.eq_ofNat_of_zero_le h0;exact mY _ m ⟨by omega,by rw[Go.Lib.itoa_nonneg];rfl⟩
def okAtoi : Go.Lib.NumEnd Int → Bool
  | .ok _ => true
  | _ => false
theorem oK {nm : ByteArray} (h : cV nm = true) : okAtoi (Go.Lib.atoiAll nm.data.toList) = false := by
 have hl:=iT h;have hm:=kE h;rw[Go.Lib.atoiAll_short _ (by omega)]
 cases hs:nm.data.toList with
 | nil =>
  rw[hs]at hl;exact absurd hl.1 (by decide)
 | cons c r =>
  have hc:=hm c (by rw[hs];exact List.mem_cons_self ..)
  have h45:(c==45)=false:=by
   apply beq_eq_false_iff_ne.2;rintro rfl;exact absurd hc.1 (by decide)
  have h43:(c==43)=false:=by
   apply beq_eq_false_iff_ne.2;rintro rfl;exact absurd hc.1 (by decide)
  have hd:Go.Lib.digitVal c=none:=by
   unfold Go.Lib.digitVal;rw[if_neg (by omega)]
  unfold Go.Lib.atoi Go.Lib.decNat;dsimp only;rw[h45,h43];simp only[Bool.false_eq_true,if_false,List.isEmpty_cons,Go.Lib.decFrom,hd];rfl
theorem fL (fs:List Nat) (r:List ByteArray) (kk:Nat) (a b c d:Int) (nm:ByteArray) (n:Int) (h0:0≤n) (h1:n≤1000000000000) (hk:kk<fs.length) (q:Int×Int×Int×Int) (hq:aa.put (fs.getD kk 0) n a b c d=q) :
  aa.l fs (ba (Go.Lib.itoa n)::r) kk a b c d nm=aa.l fs r (kk+1) q.1 q.2.1 q.2.2.1 q.2.2.2 nm:=by
 simp only[aa.l];rw[pC n h0 h1];dsimp only;rw[if_neg (by omega),hq]
theorem pD (fs:List Nat) (r:List ByteArray) (kk:Nat) (a b c d:Int) (x:ByteArray) (h:cV x=true):aa.l fs (x::r) kk a b c d ⟨#[]⟩=aa.l fs r kk a b c d x:=by
 simp only[aa.l]
 have e := oK h
 cases ha : Go.Lib.atoiAll x.data.toList with
 | ok v =>
   rw [ha] at e
   exact absurd e (by simp [okAtoi])
 | _ =>
   dsimp only
   rw [if_pos (fp.2 rfl)]
theorem put_i64 (j:Nat) (n a b c d:Int) (hn:eo n) (ha:eo a) (hb:eo b) (hc:eo c) (hd:eo d):eo (aa.put j n a b c d).1∧eo (aa.put j n a b c d).2.1∧eo (aa.put j n a b c d).2.2.1∧eo (aa.put j n a b c d).2.2.2:=by
 unfold aa.put
 split
 ·exact⟨hn,hb,hc,hd⟩
 split
 ·exact⟨ha,hn,hc,hd⟩
 split
 ·exact⟨ha,hb,hn,hd⟩
 ·exact⟨ha,hb,hc,hn⟩
theorem nS (fs:List Nat):∀(r:List ByteArray) (kk:Nat) (a b c d:Int) (nm:ByteArray),(∀x∈r,x.size≤1048576)→nm.size≤1048576→eo a→eo b→eo c→eo d →
  aa.l fs r kk a b c d nm=none∨∃a' b' c' d' nm',aa.l fs r kk a b c d nm=some (a',b',c',d',nm')∧eo a'∧eo b'∧eo c'∧eo d'∧nm'.size≤1048576
 | [],kk,a,b,c,d,nm,_,hn,ha,hb,hc,hd=>.inr ⟨a,b,c,d,nm,rfl,ha,hb,hc,hd,hn⟩
 | x::r,kk,a,b,c,d,nm,hr,hn,ha,hb,hc,hd=>by
  have hr':∀y∈r,y.size≤1048576:=fun y hy=>hr y (List.mem_cons_of_mem _ hy)
  simp only[aa.l]
  cases h:Go.Lib.atoiAll x.data.toList with
  | ok n =>
   dsimp only
   split
   ·exact .inl rfl
   ·obtain⟨h1,h2,h3,h4⟩:=put_i64 (fs.getD kk 0) n a b c d (Go.Lib.atoiAll_bounds h) ha hb hc hd;exact nS fs r _ _ _ _ _ nm hr' hn h1 h2 h3 h4
  | range =>
   dsimp only
   split
   ·exact nS fs r _ _ _ _ _ x hr' (hr x (List.mem_cons_self ..)) ha hb hc hd
   ·exact .inl rfl
  | _ =>
   dsimp only
   split
   ·exact nS fs r _ _ _ _ _ x hr' (hr x (List.mem_cons_self ..)) ha hb hc hd
   ·exact .inl rfl
theorem ml (s:ByteArray) (hs:s.size≤1048576) (k:Nat) (hk:2000000<k):∃op,op=mx (ixW ((b9 32 s).getD 0 ByteArray.empty)) 0 ∧
  aa.f k s=aa.e k s op (aa.l (aa.fs op) ((b9 32 s).drop 1) 0 0 0 (aa.z op) (aa.z op) ⟨#[]⟩):=by
 refine⟨_,rfl,?_⟩;have hp:=jo 32 s;have hz:=gC 32 s;have e:dp ByteArray.empty (b9 32 s) 0=(b9 32 s).getD 0 ByteArray.empty:=rfl;unfold aa.f;rw[kB 32 s (by omega)];simp only[dr];rw[if_pos ⟨hp,by omega,fun x hx=>by have:=hz.2 x hx;omega⟩,e,impl_ix _ k (by omega)];rfl
theorem z_bd (op:Int):eo (aa.z op):=by
 unfold aa.z eo
 split
 ·omega
 ·split<;>omega
theorem pE (s:ByteArray) (op a b c d:Int) (nm:ByteArray) (ha:eo a) (hb:eo b) (hc:eo c) (hd:eo d) (hn:nm.size≤1048576) (k:Nat) (hk:2000000<k):aa.e k s op (some (a,b,c,d,nm))=some (if (la op a b c d nm).toList=s.toList then if s.toList=[]then z7 else(op,a,b,c,d,nm,true)else z7):=by
 unfold aa.e;dsimp only;rw[impl_fi op a b c d nm ha.1 ha.2 hb.1 hb.2 hc.1 hc.2 hd.1 hd.2 (by omega) k (by omega)];simp only[dr]
 split
 ·split<;>rfl
 ·rfl
theorem pF (s:ByteArray) (hs:s.size≤1048576) (h:∀op a b c d nm,¬ft s op a b c d nm) (k:Nat) (hk:2000000<k):aa.f k s=some z7:=by
 obtain⟨op,_,he⟩:=ml s hs k hk;have hz:=gC 32 s;rw[he]
 rcases nS (aa.fs op) ((b9 32 s).drop 1) 0 0 0 (aa.z op) (aa.z op) ⟨#[]⟩ (fun x hx=>by have:=hz.2 x (List.mem_of_mem_drop hx);omega) (by decide) iu iu (z_bd op) (z_bd op)with h1|⟨a,b,c,d,nm,h1,ha,hb,hc,hd,hn⟩
 ·rw[h1];rfl
 ·rw[h1,pE s op a b c d nm ha hb hc hd hn k hk]
  congr 1
  split
  ·rename_i ht
   split
   ·rfl
   ·rename_i hne
    exfalso
    by_cases hi:dO op a b c d nm=true
    ·exact h op a b c d nm ⟨hi,jC.1 ht⟩
    ·apply hne;rw[←ht];unfold la;rw[if_neg hi];exact fp.2 rfl
  ·rfl
theorem mm {s:ByteArray} {op a b c d:Int} {nm:ByteArray} (h:ft s op a b c d nm):aa.l (aa.fs op) ((b9 32 s).drop 1) 0 0 0 (aa.z op) (aa.z op) ⟨#[]⟩=some (a,b,c,d,nm):=by
 obtain⟨ho,ha,hf⟩:=e9 h.1;rw[fa h]
 rcases hf with ⟨h1,rfl,rfl,rfl,rfl⟩|⟨rfl,hb,hc,rfl,rfl⟩|⟨rfl,hb,hp,hn⟩|⟨rfl,rfl,hp,hn⟩|⟨h1,hb,rfl,rfl,rfl⟩
 ·have e:af.W (eB op) op a 0 0 0 ⟨#[]⟩=[eB op,ba (Go.Lib.itoa a)]:=by
   unfold af.W;rw[if_pos h1];rfl
  have ez:aa.z op=0:=by
   unfold aa.z;rw[if_neg (by omega),if_neg (by omega)]
  have ef:aa.fs op=[1,2,3]:=by
   unfold aa.fs;rw[if_neg (by omega),if_neg (by omega)]
  rw[e,ez,ef]
  show aa.l [1,2,3] [ba (Go.Lib.itoa a)] 0 0 0 0 0 ⟨#[]⟩=_
  rw[fL _ _ _ _ _ _ _ _ a ha.1 (by omega) (by decide) (a,0,0,0) rfl];rfl
 ·show aa.l [1,2,3] [ba (Go.Lib.itoa a),ba (Go.Lib.itoa b),ba (Go.Lib.itoa c)] 0 0 0 0 0 ⟨#[]⟩=_
  rw[fL _ _ _ _ _ _ _ _ a ha.1 (by omega) (by decide) (a,0,0,0) rfl,fL _ _ _ _ _ _ _ _ b hb.1 (by omega) (by decide) (a,b,0,0) rfl,fL _ _ _ _ _ _ _ _ c hc.1 (by omega) (by decide) (a,b,c,0) rfl];rfl
 ·have e:af.W (eB 6) 6 a b c d nm=[eB 6,ba (Go.Lib.itoa a),ba (Go.Lib.itoa b),nm]++(bj.L c d).map ah.S:=rfl;rw[e]
  show aa.l [1,2,3,4] ([ba (Go.Lib.itoa a),ba (Go.Lib.itoa b),nm]++(bj.L c d).map ah.S) 0 0 0 (-1) (-1) ⟨#[]⟩=_
  simp only[List.cons_append,List.nil_append];rw[fL _ _ _ _ _ _ _ _ a ha.1 (by omega) (by decide) (a,0,-1,-1) rfl,fL _ _ _ _ _ _ _ _ b hb.1 (by omega) (by decide) (a,b,-1,-1) rfl,pD _ _ _ _ _ _ _ nm hn]
  rcases eZ hp with ⟨rfl,rfl⟩|⟨hc,hd⟩
  ·rfl
  ·have hcb:(c==-1)=false:=beq_eq_false_iff_ne.mpr (by omega)
   rcases hd with rfl|hd
   ·have e2:(bj.L c (-1)).map ah.S=[ba (Go.Lib.itoa c)]:=by
     simp[bj.L,List.filter_cons,hcb,mj]
    rw[e2,fL _ _ _ _ _ _ _ _ c hc.1 (by omega) (by decide) (a,b,c,-1) rfl];rfl
   ·have hdb:(d==-1)=false:=beq_eq_false_iff_ne.mpr (by omega)
    have e2:(bj.L c d).map ah.S=[ba (Go.Lib.itoa c),ba (Go.Lib.itoa d)]:=by
     simp[bj.L,List.filter_cons,hcb,hdb,mj]
    rw[e2,fL _ _ _ _ _ _ _ _ c hc.1 (by omega) (by decide) (a,b,c,-1) rfl,fL _ _ _ _ _ _ _ _ d hd.1 (by omega) (by decide) (a,b,c,d) rfl];rfl
 ·have e:af.W (eB 7) 7 a 0 c d nm=[eB 7,ba (Go.Lib.itoa a),nm]++(bj.L c d).map ah.S:=rfl;rw[e]
  show aa.l [1,3,4] ([ba (Go.Lib.itoa a),nm]++(bj.L c d).map ah.S) 0 0 0 (-1) (-1) ⟨#[]⟩=_
  simp only[List.cons_append,List.nil_append];rw[fL _ _ _ _ _ _ _ _ a ha.1 (by omega) (by decide) (a,0,-1,-1) rfl,pD _ _ _ _ _ _ _ nm hn]
  rcases eZ hp with ⟨rfl,rfl⟩|⟨hc,hd⟩
  ·rfl
  ·have hcb:(c==-1)=false:=beq_eq_false_iff_ne.mpr (by omega)
   rcases hd with rfl|hd
   ·have e2:(bj.L c (-1)).map ah.S=[ba (Go.Lib.itoa c)]:=by
     simp[bj.L,List.filter_cons,hcb,mj]
    rw[e2,fL _ _ _ _ _ _ _ _ c hc.1 (by omega) (by decide) (a,0,c,-1) rfl];rfl
   ·have hdb:(d==-1)=false:=beq_eq_false_iff_ne.mpr (by omega)
    have e2:(bj.L c d).map ah.S=[ba (Go.Lib.itoa c),ba (Go.Lib.itoa d)]:=by
     simp[bj.L,List.filter_cons,hcb,hdb,mj]
    rw[e2,fL _ _ _ _ _ _ _ _ c hc.1 (by omega) (by decide) (a,0,c,-1) rfl,fL _ _ _ _ _ _ _ _ d hd.1 (by omega) (by decide) (a,0,c,d) rfl];rfl
 ·have e:af.W (eB op) op a b 0 0 ⟨#[]⟩=[eB op,ba (Go.Lib.itoa a),ba (Go.Lib.itoa b)]:=by
   unfold af.W;rw[if_neg (by omega),if_neg (by omega),if_neg (by omega),if_neg (by omega)];rfl
  have ez:aa.z op=0:=by
   unfold aa.z;rw[if_neg (by omega),if_neg (by omega)]
  have ef:aa.fs op=[1,2,3]:=by
   unfold aa.fs;rw[if_neg (by omega),if_neg (by omega)]
  rw[e,ez,ef]
  show aa.l [1,2,3] [ba (Go.Lib.itoa a),ba (Go.Lib.itoa b)] 0 0 0 0 0 ⟨#[]⟩=_
  rw[fL _ _ _ _ _ _ _ _ a ha.1 (by omega) (by decide) (a,0,0,0) rfl,fL _ _ _ _ _ _ _ _ b hb.1 (by omega) (by decide) (a,b,0,0) rfl];rfl
theorem mo {s:ByteArray} {op a b c d:Int} {nm:ByteArray} (h:ft s op a b c d nm):eo a∧eo b∧eo c∧eo d∧nm.size≤1048576:=by
 obtain⟨ho,ha,hf⟩:=e9 h.1;unfold eo
 rcases hf with ⟨h1,rfl,rfl,rfl,rfl⟩|⟨rfl,hb,hc,rfl,rfl⟩|⟨rfl,hb,hp,hn⟩|⟨rfl,rfl,hp,hn⟩|⟨h1,hb,rfl,rfl,rfl⟩
 ·exact⟨by omega,by omega,by omega,by omega,by decide⟩
 ·exact⟨by omega,by omega,by omega,by omega,by decide⟩
 ·have:=iT hn;have hz:nm.size=nm.data.toList.length:=rfl
  rcases eZ hp with h|h<;>exact⟨by omega,by omega,by omega,by omega,by omega⟩
 ·have:=iT hn;have hz:nm.size=nm.data.toList.length:=rfl
  rcases eZ hp with h|h<;>exact⟨by omega,by omega,by omega,by omega,by omega⟩
 ·exact⟨by omega,by omega,by omega,by omega,by decide⟩
theorem lq {s:ByteArray} (hs:s.size≤1048576) {op a b c d:Int} {nm:ByteArray} (h:ft s op a b c d nm) (k:Nat) (hk:2000000<k):aa.f k s=some (op,a,b,c,d,nm,true):=by
 obtain⟨op',ho',he⟩:=ml s hs k hk;obtain⟨ho,_,_⟩:=e9 h.1
 have e0:op'=op:=by
  obtain⟨x,r,hx⟩:=kF (eB op) op a b c d nm;rw[ho',fa h,hx]
  show mx (ixW (eB op)) 0=op
  rw[ixW_opn op ho.1 ho.2];unfold mx;rw[if_neg (by omega)]
 subst e0;obtain⟨ha,hb,hc,hd,hn⟩:=mo h;rw[he,mm h,pE s op' a b c d nm ha hb hc hd hn k hk,h.2,if_pos rfl,if_neg (nR h)]
theorem nT (s:ByteArray) (hs:s.size≤1048576):∃r:R7,(∀k,2000000<k→ao.f k s=some r)∧(∀k,2000000<k→aa.f k s=some r) ∧
  ((r=z7∧∀op a b c d nm,¬ft s op a b c d nm)∨∃op a b c d nm,r=(op,a,b,c,d,nm,true)∧ft s op a b c d nm):=by
 by_cases h:∃op a b c d nm,ft s op a b c d nm
 ·obtain⟨op,a,b,c,d,nm,h⟩:=h;exact⟨_,fun k hk=>by rw[lL s hs k hk,kG h],fun k hk=>lq hs h k hk,.inr ⟨op,a,b,c,d,nm,rfl,h⟩⟩
 ·have h':∀op a b c d nm,¬ft s op a b c d nm:=fun op a b c d nm hp=>h ⟨op,a,b,c,d,nm,hp⟩
  refine⟨z7,fun k hk=>?_,fun k hk=>pF s hs h' k hk,.inl ⟨rfl,h'⟩⟩;rw[lL s hs k hk]
  congr 1
  unfold ir
  split
  ·exact gU (h' _ _ _ _ _ _)
  split
  ·exact gU (h' _ _ _ _ _ _)
  split
  ·exact gU (h' _ _ _ _ _ _)
  split
  ·exact gU (h' _ _ _ _ _ _)
  ·exact gU (h' _ _ _ _ _ _)
theorem W_all {op a b c d:Int} {nm:ByteArray} (h:dO op a b c d nm=true) (P:ByteArray→Prop) (pS:∀n,P (ah.S n)) (pO:P (eB op)) (pN:cV nm=true→P nm):∀w∈af.W (eB op) op a b c d nm,P w:=by
 have hS:∀(l:List Int),∀w∈l.map ah.S,P w:=by
  intro l w hw;obtain⟨n,_,rfl⟩:=List.mem_map.1 hw;exact pS n
 have hO:∀w∈[eB op],P w:=by
  intro w hw;rw[List.mem_singleton.1 hw];exact pO
 have hN:(op=6∨op=7)→∀w∈[nm],P w:=by
  intro ho w hw;rw[List.mem_singleton.1 hw]
  rcases(e9 h).2.2 with x|x|x|x|x
  ·omega
  ·omega
  ·exact pN x.2.2.2
  ·exact pN x.2.2.2
  ·omega
 unfold af.W;intro w hw
 split at hw
 ·rcases List.mem_append.1 hw with hw|hw
  ·exact hO w hw
  ·exact hS _ w hw
 split at hw
 ·rcases List.mem_append.1 hw with hw|hw
  ·exact hO w hw
  ·exact hS _ w hw
 split at hw
 ·rename_i h6
  rcases List.mem_append.1 hw with hw|hw
  ·rcases List.mem_append.1 hw with hw|hw
   ·rcases List.mem_append.1 hw with hw|hw
    ·exact hO w hw
    ·exact hS _ w hw
   ·exact hN (.inl h6) w hw
  ·exact hS _ w hw
 split at hw
 ·rename_i h7
  rcases List.mem_append.1 hw with hw|hw
  ·rcases List.mem_append.1 hw with hw|hw
   ·rcases List.mem_append.1 hw with hw|hw
    ·exact hO w hw
    ·exact hS _ w hw
   ·exact hN (.inr h7) w hw
  ·exact hS _ w hw
 ·rcases List.mem_append.1 hw with hw|hw
  ·exact hO w hw
  ·exact hS _ w hw
theorem itoa_nl (n:Int):(10:UInt8)∉Go.Lib.itoa n:=by
 intro h;unfold Go.Lib.itoa at h
 split at h
 ·rcases List.mem_cons.1 h with h|h
  ·exact absurd h (by decide)
  ·exact absurd (jO _ _ h).1 (by decide)
 ·exact absurd (jO _ _ h).1 (by decide)
theorem op_nl (op:Int):(10:UInt8)∉(eB op).data.toList:=by
 unfold eB
 split
 ·rename_i h
  obtain⟨n,hn⟩:∃n:Nat,op.toNat=n:=⟨_,rfl⟩;rw[hn];have h1:n≤10:=by omega
  have:∀m:Fin 11,(10:UInt8)∉(bJ.mD.getD m.val ⟨#[]⟩).data.toList:=by decide +kernel
  exact this ⟨n,by omega⟩
 ·simp
theorem lM {nm:ByteArray} (h:cV nm=true):(10:UInt8)∉nm.data.toList:=fun hb=>absurd (kE h _ hb).1 (by decide)
theorem mq (c:UInt8) (b:UInt8):∀ws:List (List UInt8),b∈Go.Lib.join ws [c]→b=c∨∃w∈ws,b∈w
 | [],h=>by simp[Go.Lib.join,List.intercalate]at h
 | [w],h=>by
  have e:Go.Lib.join [w] [c]=w:=by simp[Go.Lib.join,List.intercalate]
  rw[e]at h;exact .inr ⟨w,by simp,h⟩
 | a::x::r,h=>by
  rw[mi]at h
  rcases List.mem_append.1 h with h|h
  ·exact .inr ⟨a,by simp,h⟩
  rcases List.mem_cons.1 h with h|h
  ·exact .inl h
  ·rcases mq c b (x::r) h with h|⟨w,hw,h⟩
   ·exact .inl h
   ·exact .inr ⟨w,List.mem_cons_of_mem _ hw,h⟩
theorem pG {op a b c d:Int} {nm:ByteArray} (h:dO op a b c d nm=true):(la op a b c d nm).data.toList=Go.Lib.join ((af.W (eB op) op a b c d nm).map (·.data.toList)) [32]:=by
 have e:la op a b c d nm=strings_Join.J (af.W (eB op) op a b c d nm):=by
  rw[J_W];unfold la;rw[if_pos h]
 rw[e];rfl
theorem ins_nl {op a b c d:Int} {nm:ByteArray} (h:dO op a b c d nm=true):(10:UInt8)∉(la op a b c d nm).data.toList:=by
 rw[pG h];intro hb
 rcases mq 32 10 _ hb with hb|⟨w,hw,hb⟩
 ·exact absurd hb (by decide)
 ·obtain⟨v,hv,rfl⟩:=List.mem_map.1 hw;exact W_all h (fun w=>(10:UInt8)∉w.data.toList) itoa_nl (op_nl op) lM v hv hb
def eT:List cW→List ByteArray
 | []=>[]
 | m::r=>(gI++m.f0)::(m.f1.map fV++eT r)
def er:List bY→List ByteArray
 | []=>[]
 | s::r=>(ie++s.f0)::(eT s.f1++er r)
def eL:List ByteArray→List UInt8
 | []=>[]
 | x::r=>x.data.toList++(10::eL r)
theorem jq:∀a b:List ByteArray,eL (a++b)=eL a++eL b
 | [],b=>rfl
 | x::a,b=>by
  simp only[List.cons_append,eL,jq a b,List.append_assoc]
theorem dN (a b:ByteArray):(a++b).data.toList=a.data.toList++b.data.toList:=by
 rw[ByteArray.data_append,Array.toList_append]
theorem kH:∀(l:List cw) (t:ByteArray),(gi l t).data.toList=t.data.toList++eL (l.map fV)
 | [],t=>by simp[gi,eL]
 | x::r,t=>by
  rw[gi,kH r,dN,dN];simp[eL]
theorem kI:∀(l:List cW) (t:ByteArray),(gG l t).data.toList=t.data.toList++eL (eT l)
 | [],t=>by simp[gG,eT,eL]
 | m::r,t=>by
  rw[gG,kI r,kH,dN,dN,eT,eL,jq];unfold gI;rw[dN];simp
theorem lr:∀(l:List bY) (t:ByteArray),(∀x∈l,de x.f0 x.f1=true)→(me l t).data.toList=t.data.toList++eL (er l)
 | [],t,_=>by simp[me,er,eL]
 | s::r,t,h=>by
  rw[me,lr r _ (fun x hx=>h x (List.mem_cons_of_mem _ hx)),dN];unfold py;rw[if_pos (h s (List.mem_cons_self ..)),kI,dN,dN,dN,er,eL,jq];unfold ie;rw[dN];simp
theorem lu:∀l:List ByteArray,(∀x∈l,(10:UInt8)∉x.data.toList)→eN 10 (eL l)=l.map (·.data.toList)++[[]]
 | [],_=>rfl
 | x::r,h=>by
  rw[eL,gj 10 _ _ (h x (List.mem_cons_self ..)),lu r (fun y hy=>h y (List.mem_cons_of_mem _ hy))];rfl
theorem mr (l:List ByteArray) (h:∀x∈l,(10:UInt8)∉x.data.toList) (s:ByteArray) (hs:s.data.toList=eL l):b9 10 s=l++[⟨#[]⟩]:=by
 unfold b9;rw[hs,lu l h,List.map_append,lJ];rfl
theorem fB (P:List bY) (x:bY):LO.last (P++[x])=x:=by
 unfold LO.last;simp
theorem kJ (P:List bY) (nm:ByteArray) (Q:List cW) (m:cW):LO.cZ (P++[⟨nm,Q++[m]⟩])=m:=by
 unfold LO.cZ;rw[fB];simp
theorem oL (P:List bY) (nm n:ByteArray) (Q:List cW):LO.kc (P++[⟨nm,Q⟩]) n=P++[⟨nm,Q++[⟨n,[]⟩]⟩]:=by
 unfold LO.kc;rw[fB];simp
theorem oM (P:List bY) (nm mn:ByteArray) (Q:List cW) (R:List cw) (z:cw):LO.jF (P++[⟨nm,Q++[⟨mn,R⟩]⟩]) z=P++[⟨nm,Q++[⟨mn,R++[z]⟩]⟩]:=by
 unfold LO.jF;rw[kJ,fB];simp
def mZ (l:List bY):Prop:=l.length≤1000000∧(LO.last l).f1.length≤1000000∧(LO.cZ l).f1.length≤1000000
theorem fM {l:List bY} (h:mZ l):l.length≤1000000∧(LO.last l).f1.length≤1000000∧(LO.cZ l).f1.length≤1000000:=h
def okz (z:cw):Prop:=eV z=true∧(fV z).size≤4000
def goodM (m:cW):Prop:=cV m.f0=true∧m.f1.length≤12∧∀z∈m.f1,okz z
def nU (s:bY):Prop:=cV s.f0=true∧s.f1.length≤4∧∀m∈s.f1,goodM m
theorem bnd_M (P:List bY) (nm:ByteArray) (Q:List cW) (m:cW) (h1:P.length<1000) (h2:Q.length<1000) (h3:m.f1.length<1000):mZ (P++[⟨nm,Q++[m]⟩]):=by
 unfold mZ;rw[kJ,fB];simp;omega
theorem bnd_S (P:List bY) (nm:ByteArray) (Q:List cW) (h1:P.length<1000) (h2:Q.length<1000) (h3:∀m∈Q,m.f1.length<1000):mZ (P++[⟨nm,Q⟩]):=by
 unfold mZ LO.cZ;rw[fB];refine⟨by simp;omega,by show Q.length≤_;omega,?_⟩
 show(Q.getD (Q.length-1) eH).f1.length≤_
 by_cases c:Q=[]
 ·subst c
  show(eH).f1.length≤_
  simp[eH]
 ·have hq:Q.length-1<Q.length:=by have:=List.length_pos_iff.mpr c;omega
  rw[List.getD_eq_getElem?_getD,List.getElem?_eq_getElem hq];have:=h3 _ (List.getElem_mem hq)
  show(Q[Q.length-1]).f1.length≤_
  omega
theorem bnd_L (P:List bY) (h1:P.length<1000) (h2:∀s∈P,s.f1.length<1000∧∀m∈s.f1,m.f1.length<1000):mZ P:=by
 rcases List.eq_nil_or_concat P with rfl|⟨P',s,rfl⟩
 ·unfold mZ LO.cZ LO.last;simp[gp,eH]
 ·rw[List.concat_eq_append]at *;have hs:=h2 s (by simp);exact bnd_S P' s.f0 s.f1 (by simp at h1;omega) hs.1 hs.2
section gen
variable {β:Type} (L:List ByteArray→List bY→β)
 (hs:∀l nm r,mZ l→cV nm=true→L ((ie++nm)::r) l=L r (l++[⟨nm,[]⟩]))
 (hm:∀l nm r,mZ l→l≠[]→cV nm=true→L ((gI++nm)::r) l=L r (LO.kc l nm))
 (hi:∀l z r,mZ l→l≠[]→(LO.last l).f1≠[]→okz z→L (fV z::r) l=L r (LO.jF l z))
include hi in
theorem gen_I (P:List bY) (nm:ByteArray) (Q:List cW) (mn:ByteArray) (r:List ByteArray) (h1:P.length<1000) (h2:Q.length<1000):∀(zs R:List cw),R.length+zs.length<1000→(∀z∈zs,okz z) →
  L (zs.map fV++r) (P++[⟨nm,Q++[⟨mn,R⟩]⟩])=L r (P++[⟨nm,Q++[⟨mn,R++zs⟩]⟩])
 | [],R,_,_=>by simp
 | z::zs,R,h,hz=>by
  rw[List.length_cons]at h
  rw[List.map_cons,List.cons_append,hi _ z _ (bnd_M P nm Q ⟨mn,R⟩ h1 h2 (by show R.length<1000;omega)) (by simp) (by rw[fB];simp) (hz z (List.mem_cons_self ..)),oM,
   gen_I P nm Q mn r h1 h2 zs (R++[z]) (by rw[List.length_append,List.length_singleton];omega) (fun y hy=>hz y (List.mem_cons_of_mem _ hy)),List.append_assoc]
  rfl
include hm hi in
theorem gen_M (P:List bY) (nm:ByteArray) (r:List ByteArray) (h1:P.length<1000):∀(ms Q:List cW),Q.length+ms.length<1000→(∀m∈Q,m.f1.length<1000)→(∀m∈ms,goodM m) →
  L (eT ms++r) (P++[⟨nm,Q⟩])=L r (P++[⟨nm,Q++ms⟩])
 | [],Q,_,_,_=>by simp[eT]
 | m::ms,Q,h,hq,hg=>by
  rw[List.length_cons]at h;have g:=hg m (List.mem_cons_self ..)
  rw[eT,List.cons_append,hm _ m.f0 _ (bnd_S P nm Q h1 (by omega) hq) (by simp) g.1,oL,List.append_assoc,
   gen_I L hi P nm Q m.f0 _ h1 (by omega) m.f1 [] (by have:=g.2.1;simp;omega) g.2.2,List.nil_append,
   gen_M P nm r h1 ms (Q++[(⟨m.f0,m.f1⟩:cW)]) (by rw[List.length_append,List.length_singleton];omega) (fun y hy=>by
    rcases List.mem_append.1 hy with hy|hy
    ·exact hq y hy
    ·rw[List.mem_singleton.1 hy];have:=g.2.1
     show m.f1.length<1000
     omega) (fun y hy=>hg y (List.mem_cons_of_mem _ hy)),List.append_assoc]
  rfl
include hs hm hi in
theorem pH (r:List ByteArray):∀(X P:List bY),P.length+X.length<1000→(∀s∈P,s.f1.length<1000∧∀m∈s.f1,m.f1.length<1000)→(∀s∈X,nU s)→L (er X++r) P=L r (P++X)
 | [],P,_,_,_=>by simp[er]
 | s::X,P,h,hp,hg=>by
  rw[List.length_cons]at h;have g:=hg s (List.mem_cons_self ..)
  rw[er,List.cons_append,hs P s.f0 _ (bnd_L P (by omega) hp) g.1,List.append_assoc,
   gen_M L hm hi P s.f0 _ (by omega) s.f1 [] (by have:=g.2.1;simp;omega) (by simp) g.2.2,List.nil_append,
   pH r X (P++[(⟨s.f0,s.f1⟩:bY)]) (by rw[List.length_append,List.length_singleton];omega) (fun y hy=>by
    rcases List.mem_append.1 hy with hy|hy
    ·exact hp y hy
    ·rw[List.mem_singleton.1 hy];refine⟨by have:=g.2.1;show s.f1.length<1000;omega,fun m hm'=>?_⟩;have:=(g.2.2 m hm').2.1;omega) (fun y hy=>hg y (List.mem_cons_of_mem _ hy)),List.append_assoc]
  rfl
end gen
theorem iV (p y:ByteArray):(p++y).extract 0 p.size=p:=by
 have h:=fJ (p++y) 0 p.size;rw[Int.toNat_natCast,Int.toNat_natCast,dN]at h;rw[h,List.drop_zero,Nat.sub_zero,List.take_left' (show p.data.toList.length=p.size from rfl),hY]
theorem jP (p y:ByteArray):(p++y).extract p.size (p++y).size=y:=by
 have h:=fJ (p++y) p.size (p++y).size;rw[Int.toNat_natCast,Int.toNat_natCast,dN]at h;rw[h,List.drop_left' (show p.data.toList.length=p.size from rfl),List.take_of_length_le (by rw[ByteArray.size_append];show y.data.toList.length≤_;have:y.size=y.data.toList.length:=rfl;omega),hY]
theorem pJ (x p:ByteArray) (h:x.extract 0 p.size=p):x.data.toList=p.data.toList++x.data.toList.drop p.size:=by
 have g:=fJ x 0 p.size;rw[Int.toNat_natCast,Int.toNat_natCast,h,List.drop_zero,Nat.sub_zero]at g
 have e:p.data.toList=x.data.toList.take p.size:=by
  conv=>lhs;rw[g]
  rfl
 rw[e,List.take_append_drop]
theorem pK (w:List UInt8) (h0:w≠[]) (h:∀m:Fin 11,(bJ.mD.getD m.val ⟨#[]⟩).data.toList≠w) (op:Int):(eB op).data.toList≠w:=by
 unfold eB
 split
 ·rename_i hh
  obtain⟨n,hn⟩:∃n:Nat,op.toNat=n:=⟨_,rfl⟩;rw[hn];exact h ⟨n,by omega⟩
 ·exact fun e=>h0 e.symm
theorem pL (z:cw) (h:eV z=true) (w:List UInt8) (hw:(32:UInt8)∉w) (hn:∀op:Int,(eB op).data.toList≠w) (r:List UInt8):(fV z).data.toList≠w++32::r:=by
 intro e;have g:=fa (s:=fV z) (op:=z.f0) (a:=z.f1) (b:=z.f2) (c:=z.f3) (d:=z.f4) (nm:=z.f5) ⟨h,rfl⟩;obtain⟨x,t,hx⟩:=kF (eB z.f0) z.f0 z.f1 z.f2 z.f3 z.f4 z.f5;unfold b9 at g;rw[e,gj 32 w r hw,hx,List.map_cons]at g;have g1:=(List.cons.inj g).1;exact hn z.f0 (by rw[←g1];rfl)
theorem pM (z:cw) (h:eV z=true):(fV z).extract 0 ie.size≠ie:=by
 intro e;exact pL z h [115,99,114,105,112,116] (by decide) (pK _ (by decide) (by decide +kernel)) _ (pJ _ _ e)
theorem pP (z:cw) (h:eV z=true):(fV z).extract 0 gI.size≠gI:=by
 intro e;exact pL z h [109,101,116,104,111,100] (by decide) (pK _ (by decide) (by decide +kernel)) _ (pJ _ _ e)
theorem pQ:ie.toList=[115,99,114,105,112,116,32]:=by decide +kernel
theorem pR:gI.toList=[109,101,116,104,111,100,32]:=by decide +kernel
theorem na {x:ByteArray}:(x.extract 0 7).toList=[115,99,114,105,112,116,32]↔x.extract 0 ie.size=ie:=by
 rw[←pQ,jC];exact Iff.rfl
theorem pT {x:ByteArray}:(x.extract 0 7).toList=[109,101,116,104,111,100,32]↔x.extract 0 gI.size=gI:=by
 rw[←pR,jC];exact Iff.rfl
theorem nV (y:ByteArray):(gI++y).extract 0 ie.size≠ie:=by
 rw[show ie.size=gI.size from rfl,iV];decide +kernel
theorem iW {nm:ByteArray} (h:cV nm=true):1≤nm.size∧nm.size≤6:=iT h
theorem nc (k:Nat) (l:List bY) (nm:ByteArray) (hb:mZ l) (hn:cV nm=true):bX.f k l (ie++nm)=some (l++[⟨nm,[]⟩],true):=by
 have hz:(ie++nm).size=7+nm.size:=by rw[ByteArray.size_append];rfl
 have h1:=iW hn;unfold bX.f;rw[if_pos (fM hb),if_pos ⟨by omega,na.2 (iV _ _)⟩,show(ie++nm).extract 7 (ie++nm).size=nm from jP ie nm]
theorem nf (k:Nat) (l:List bY) (nm:ByteArray) (hb:mZ l) (hl:l≠[]) (hn:cV nm=true):bX.f k l (gI++nm)=some (LO.kc l nm,true):=by
 have hz:(gI++nm).size=7+nm.size:=by rw[ByteArray.size_append];rfl
 have h1:=iW hn;have h2:=List.length_pos_iff.mpr hl;unfold bX.f;rw[if_pos (fM hb),if_neg (fun h=>nV _ (na.1 h.2)),if_pos ⟨h2,by omega,pT.2 (iV _ _)⟩,show(gI++nm).extract 7 (gI++nm).size=nm from jP gI nm]
theorem ng (k:Nat) (hk:2000000<k) (l:List bY) (z:cw) (hb:mZ l) (hl:l≠[]) (hm:(LO.last l).f1≠[]) (hz:okz z):bX.f k l (fV z)=some (LO.jF l z,true):=by
 have h2:=List.length_pos_iff.mpr hl;have h3:=List.length_pos_iff.mpr hm;unfold bX.f;rw[if_pos (fM hb),if_neg (fun h=>pM z hz.1 (na.1 h.2)),if_neg (fun h=>pP z hz.1 (pT.1 h.2.2)),lL _ (by have:=hz.2;omega) k hk,kG (s:=fV z) (op:=z.f0) (a:=z.f1) (b:=z.f2) (c:=z.f3) (d:=z.f4) (nm:=z.f5) ⟨hz.1,rfl⟩];simp only[dr];rw[if_pos trivial,if_neg (by omega),if_neg (by omega)]
theorem pre_is (x p:ByteArray):ca.f x p=some (decide (p.size≤x.size∧x.extract 0 p.size=p)):=by
 unfold ca.f;by_cases c:p.size≤x.size
 ·rw[if_pos (by omega),if_pos (by omega),if_pos (by omega)];simp only[Int.toNat_natCast]
  congr 1
  rw[Bool.eq_iff_iff,beq_iff_eq,decide_eq_true_eq,jC];exact⟨fun h=>⟨c,h⟩,fun h=>h.2⟩
 ·rw[if_neg (by omega),decide_eq_false (fun h=>c h.1)]
theorem gY (x p:ByteArray):bK.f x p=some (if p.size≤x.size∧x.extract 0 p.size=p then(x.extract p.size x.size,true)else(x,false)):=by
 unfold bK.f cN.f;rw[pre_is];simp only[dr];by_cases d:p.size≤x.size∧x.extract 0 p.size=p
 ·rw[if_pos (decide_eq_true d),if_pos (by omega),if_pos (by omega),if_pos d];simp only[dr,Int.toNat_natCast]
 ·rw[if_neg (fun h=>d (of_decide_eq_true h)),if_neg d];rfl
def kT (x:bY):Prop:=x.f0.size≤1048576∧jh x.f1∧lH x.f1
theorem libI (l:List bY) (hl:l.length≤1048576) (hm:∀x∈l,kT x) (k:Nat) (hk:55000000<k):aE.f k l=some (fX l):=by
 unfold aE.f fX;by_cases c8:l.length≤6
 ·rw[if_neg (by omega)];have:=kv l hl (fun x hx=>⟨(hm x hx).1,(hm x hx).2.1⟩) l.length k 0 (by omega) (by omega) (by omega);rw[show(0:Int)=((0:Nat):Int)from rfl,this,decide_eq_true c8,Bool.and_true]
 ·rw[if_pos (by omega),decide_eq_false c8,Bool.and_false]
theorem libP (l:List bY) (hl:l.length≤1048576) (hm:∀x∈l,kT x):∃K,∀k,K≤k→a7.f k l=some (fX l):=by
 obtain⟨K1,h1⟩:=iC l (fun x hx=>⟨(hm x hx).1,(hm x hx).2.1⟩);exact⟨K1+3000000,fun k hk=>ku l hl K1 h1 _ k 0 (by omega) (by omega) (by omega)⟩
def ftI (z:cw):Prop:=ky z∧z.f5.size≤1048576
def ftM (n:Nat) (m:cW):Prop:=m.f0.size≤1048576∧m.f1.length≤n∧∀z∈m.f1,ftI z
def ftS (n:Nat) (s:bY):Prop:=s.f0.size≤1048576∧s.f1.length≤n∧∀m∈s.f1,ftM n m
def iX (n:Nat) (l:List bY):Prop:=l.length≤n∧∀s∈l,ftS n s
theorem nh {n:Nat} {m:cW} (h:ftM n m):ftM (n+1) m:=⟨h.1,by have:=h.2.1;omega,h.2.2⟩
theorem ni {n:Nat} {s:bY} (h:ftS n s):ftS (n+1) s:=⟨h.1,by have:=h.2.1;omega,fun m hm=>nh (h.2.2 m hm)⟩
theorem kK {n:Nat} {l:List bY} (h:iX n l):iX (n+1) l:=⟨by have:=h.1;omega,fun s hs=>ni (h.2 s hs)⟩
theorem nj {n n':Nat} {l:List bY} (h:iX n l) (hn:n≤n'):iX n' l:=by
 induction hn with
 | refl=>exact h
 | step _ ih=>exact kK ih
theorem pU {n:Nat} (hn:n≤1000000) {l:List bY} (h:iX n l):l.length≤1048576∧∀x∈l,kT x :=
 ⟨by have:=h.1;omega,fun x hx=>⟨(h.2 x hx).1,⟨by have:=(h.2 x hx).2.1;omega,fun m hm=>⟨((h.2 x hx).2.2 m hm).1,by have:=((h.2 x hx).2.2 m hm).2.1;omega,fun z hz=>(((h.2 x hx).2.2 m hm).2.2 z hz).2⟩⟩,fun m hm z hz=>(((h.2 x hx).2.2 m hm).2.2 z hz).1⟩⟩
theorem zS_ft (n:Nat):ftS n gp:=⟨Nat.zero_le 1048576,Nat.zero_le n,fun _ h=>absurd h (by simp[gp])⟩
theorem zM_ft (n:Nat):ftM n eH:=⟨Nat.zero_le 1048576,Nat.zero_le n,fun _ h=>absurd h (by simp[eH])⟩
theorem jQ {n:Nat} {l:List bY} (h:iX n l):ftS n (LO.last l):=by
 unfold LO.last;rw[List.getD_eq_getElem?_getD]
 cases e:l[l.length-1]? with
 | none=>exact zS_ft n
 | some s=>exact h.2 s (List.mem_of_getElem? e)
theorem mu {n:Nat} {l:List bY} (h:iX n l):ftM n (LO.cZ l):=by
 unfold LO.cZ;rw[List.getD_eq_getElem?_getD]
 cases e:(LO.last l).f1[(LO.last l).f1.length-1]? with
 | none=>exact zM_ft n
 | some s=>exact(jQ h).2.2 s (List.mem_of_getElem? e)
theorem pV {n:Nat} (hn:n≤1000000) {l:List bY} (h:iX n l):mZ l:=by
 have h1:=h.1;have h2:=(jQ h).2.1;have h3:=(mu h).2.1;exact⟨by omega,by omega,by omega⟩
theorem pW {n:Nat} {l:List bY} (h:iX n l) (nm:ByteArray) (hn:nm.size≤1048576):iX (n+1) (l++[⟨nm,[]⟩]):=by
 refine⟨by rw[List.length_append,List.length_singleton];have:=h.1;omega,fun s hs=>?_⟩
 rcases List.mem_append.1 hs with hs|hs
 ·exact ni (h.2 s hs)
 ·rw[List.mem_singleton.1 hs];exact⟨hn,by simp,by simp⟩
theorem pX {n:Nat} {l:List bY} (h:iX n l) (i:Nat) (s:bY) (hs:ftS (n+1) s):iX (n+1) (l.set i s):=by
 refine⟨by rw[List.length_set];have:=h.1;omega,fun t ht=>?_⟩
 rcases List.mem_or_eq_of_mem_set ht with ht|rfl
 ·exact ni (h.2 t ht)
 ·exact hs
theorem nW {n:Nat} {l:List bY} (h:iX n l) (nm:ByteArray) (hn:nm.size≤1048576):iX (n+1) (LO.kc l nm):=by
 have g:=jQ h;unfold LO.kc;refine pX h _ _ ⟨g.1,?_,fun m hm=>?_⟩
 ·show((LO.last l).f1++[(⟨nm,[]⟩:cW)]).length≤n+1
  rw[List.length_append,List.length_singleton];have:=g.2.1;omega
 ·rcases List.mem_append.1 hm with hm|hm
  ·exact nh (g.2.2 m hm)
  ·rw[List.mem_singleton.1 hm];exact⟨hn,by simp,by simp⟩
theorem nX {n:Nat} {l:List bY} (h:iX n l) (z:cw) (hz:ftI z):iX (n+1) (LO.jF l z):=by
 have g:=jQ h;have gm:=mu h;unfold LO.jF;refine pX h _ _ ⟨g.1,?_,fun m hm=>?_⟩
 ·show((LO.last l).f1.set _ _).length≤n+1
  rw[List.length_set];have:=g.2.1;omega
 ·rcases List.mem_or_eq_of_mem_set hm with hm|rfl
  ·exact nh (g.2.2 m hm)
  ·refine⟨gm.1,?_,fun y hy=>?_⟩
   ·show((LO.cZ l).f1++[z]).length≤n+1
    rw[List.length_append,List.length_singleton];have:=gm.2.1;omega
   ·rcases List.mem_append.1 hy with hy|hy
    ·exact gm.2.2 y hy
    ·rw[List.mem_singleton.1 hy];exact hz
theorem lN (x:ByteArray) (i j n:Nat) (h:x.size≤n):(x.extract i j).size≤n:=by
 rw[ByteArray.size_extract];omega
theorem r7_ft {s:ByteArray} {r:R7} (h:(r=z7∧∀op a b c d nm,¬ft s op a b c d nm)∨∃op a b c d nm,r=(op,a,b,c,d,nm,true)∧ft s op a b c d nm) (ht:r.2.2.2.2.2.2=true) :
  ftI ⟨r.1,r.2.1,r.2.2.1,r.2.2.2.1,r.2.2.2.2.1,r.2.2.2.2.2.1⟩:=by
 rcases h with ⟨rfl,_⟩|⟨op,a,b,c,d,nm,rfl,hp⟩
 ·exact absurd ht (by decide)
 ·have g:=mo hp;exact⟨⟨g.1,g.2.1,g.2.2.1,g.2.2.2.1⟩,g.2.2.2.2⟩
theorem mv:∀(ls:List ByteArray) (n:Nat) (l:List bY),(∀x∈ls,x.size≤4000)→iX n l→n+ls.length≤1000000 →
  ∃R:List bY×Bool,(∀k,2000000<k→aJ.l0 k ls l=some R)∧iX (n+ls.length) R.1
 | [],n,l,_,h,_=>⟨(l,true),fun k hk=>rfl,h⟩
 | x::r,n,l,hx,h,hn=>by
  rw[List.length_cons]at hn;have hxs:=hx x (List.mem_cons_self ..);have hr:∀y∈r,y.size≤4000:=fun y hy=>hx y (List.mem_cons_of_mem _ hy)
  have hb:=pV (by omega) h
  have go (l':List bY) (h':iX (n+1) l') (he:∀k,2000000<k→bX.f k l x=some (l',true)) :
    ∃R:List bY×Bool,(∀k,2000000<k→aJ.l0 k (x::r) l=some R)∧iX (n+(x::r).length) R.1:=by
   obtain⟨R,h1,h2⟩:=mv r (n+1) l' hr h' (by omega);refine⟨R,fun k hk=>?_,by rw[List.length_cons];exact nj h2 (by omega)⟩;unfold aJ.l0;rw[if_pos (by omega),he k hk];simp only[dr];rw[if_pos trivial];exact h1 k hk
  have no (l':List bY) (h':iX (n+1) l') (he:∀k,2000000<k→bX.f k l x=some (l',false)) :
    ∃R:List bY×Bool,(∀k,2000000<k→aJ.l0 k (x::r) l=some R)∧iX (n+(x::r).length) R.1:=by
   refine⟨(l',false),fun k hk=>?_,by rw[List.length_cons];exact nj h' (by omega)⟩;unfold aJ.l0;rw[if_pos (by omega),he k hk];rfl
  by_cases c1:7<x.size∧(x.extract 0 7).toList=[115,99,114,105,112,116,32]
  ·exact go _ (pW h _ (lN x 7 x.size _ (by omega))) (fun k hk=>by unfold bX.f;rw[if_pos (fM hb),if_pos c1])
  by_cases c2:0<l.length∧7<x.size∧(x.extract 0 7).toList=[109,101,116,104,111,100,32]
  ·exact go _ (nW h _ (lN x 7 x.size _ (by omega))) (fun k hk=>by unfold bX.f;rw[if_pos (fM hb),if_neg c1,if_pos c2])
  obtain⟨q,hq,_,hg⟩:=nT x (by omega)
  have he (k:Nat) (hk:2000000<k):bX.f k l x=if q.2.2.2.2.2.2=true then if l.length=0 then some (l,false)else if (LO.last l).f1.length=0 then some (l,false)else some (LO.jF l ⟨q.1,q.2.1,q.2.2.1,q.2.2.2.1,q.2.2.2.2.1,q.2.2.2.2.2.1⟩,true)else some (l,false):=by
   unfold bX.f;rw[if_pos (fM hb),if_neg c1,if_neg c2,hq k hk];rfl
  by_cases c3:q.2.2.2.2.2.2=true
  ·by_cases c4:l.length=0
   ·exact no l (kK h) (fun k hk=>by rw[he k hk,if_pos c3,if_pos c4])
   by_cases c5:(LO.last l).f1.length=0
   ·exact no l (kK h) (fun k hk=>by rw[he k hk,if_pos c3,if_neg c4,if_pos c5])
   ·exact go _ (nX h _ (r7_ft hg c3)) (fun k hk=>by rw[he k hk,if_pos c3,if_neg c4,if_neg c5])
  ·exact no l (kK h) (fun k hk=>by rw[he k hk,if_neg c3])
theorem mw:∀(ls:List ByteArray) (n:Nat) (l:List bY),(∀x∈ls,x.size≤4000)→iX n l→n+ls.length≤1000000 →
  ∃R:Option (List bY),(∀k,2000000<k→ak.l0 k ls l=some R)∧∀l',R=some l'→iX (n+ls.length) l'
 | [],n,l,_,h,_=>⟨some l,fun k hk=>rfl,fun l' e=>by cases e;exact h⟩
 | x::r,n,l,hx,h,hn=>by
  rw[List.length_cons]at hn;have hxs:=hx x (List.mem_cons_self ..);have hr:∀y∈r,y.size≤4000:=fun y hy=>hx y (List.mem_cons_of_mem _ hy)
  have hb:=pV (by omega) h
  have go (l':List bY) (h':iX (n+1) l') (he:∀k,2000000<k→ak.l0 k (x::r) l=ak.l0 k r l') :
    ∃R:Option (List bY),(∀k,2000000<k→ak.l0 k (x::r) l=some R)∧∀l',R=some l'→iX (n+(x::r).length) l':=by
   obtain⟨R,h1,h2⟩:=mw r (n+1) l' hr h' (by omega);exact⟨R,fun k hk=>by rw[he k hk];exact h1 k hk,fun l' e=>by rw[List.length_cons];exact nj (h2 l' e) (by omega)⟩
  have no (he:∀k,2000000<k→ak.l0 k (x::r) l=some none) :
    ∃R:Option (List bY),(∀k,2000000<k→ak.l0 k (x::r) l=some R)∧∀l',R=some l'→iX (n+(x::r).length) l' :=
   ⟨none,he,fun l' e=>by cases e⟩
  obtain⟨q,_,hq,hg⟩:=nT x (by omega)
  have he (k:Nat) (hk:2000000<k):ak.l0 k (x::r) l=if ie.size≤x.size∧x.extract 0 ie.size=ie then ak.l0 k r (l++[⟨x.extract ie.size x.size,[]⟩])else if x.toList=[]then ak.l0 k r l else if l.length=0 then some none
    else if gI.size≤x.size∧x.extract 0 gI.size=gI then ak.l0 k r (LO.kc l (x.extract gI.size x.size))else if q.2.2.2.2.2.2=true then if (LO.last l).f1.length=0 then some none else ak.l0 k r (LO.jF l ⟨q.1,q.2.1,q.2.2.1,q.2.2.2.1,q.2.2.2.2.1,q.2.2.2.2.2.1⟩)else some none:=by
   rw[ak.l0,if_pos (fM hb),show(⟨#[115,99,114,105,112,116,32]⟩:ByteArray)=ie from rfl,show(⟨#[109,101,116,104,111,100,32]⟩:ByteArray)=gI from rfl,gY,gY,hq k hk];simp only[dr];by_cases d1:ie.size≤x.size∧x.extract 0 ie.size=ie
   ·rw[if_pos d1,if_pos d1,if_pos rfl]
   ·rw[if_neg d1,if_neg d1,if_neg (show ¬(false=true) by decide)];by_cases d2:gI.size≤x.size∧x.extract 0 gI.size=gI
    ·rw[if_pos d2,if_pos d2,if_pos rfl]
    ·rw[if_neg d2,if_neg d2,if_neg (show ¬(false=true) by decide)]
  by_cases d1:ie.size≤x.size∧x.extract 0 ie.size=ie
  ·exact go _ (pW h _ (lN x ie.size x.size _ (by omega))) (fun k hk=>by rw[he k hk,if_pos d1])
  by_cases d2:x.toList=[]
  ·exact go l (kK h) (fun k hk=>by rw[he k hk,if_neg d1,if_pos d2])
  by_cases d3:l.length=0
  ·exact no (fun k hk=>by rw[he k hk,if_neg d1,if_neg d2,if_pos d3])
  by_cases d4:gI.size≤x.size∧x.extract 0 gI.size=gI
  ·exact go _ (nW h _ (lN x gI.size x.size _ (by omega))) (fun k hk=>by rw[he k hk,if_neg d1,if_neg d2,if_neg d3,if_pos d4])
  by_cases d5:q.2.2.2.2.2.2=true
  ·by_cases d6:(LO.last l).f1.length=0
   ·exact no (fun k hk=>by rw[he k hk,if_neg d1,if_neg d2,if_neg d3,if_neg d4,if_pos d5,if_pos d6])
   ·exact go _ (nX h _ (r7_ft hg d5)) (fun k hk=>by rw[he k hk,if_neg d1,if_neg d2,if_neg d3,if_neg d4,if_pos d5,if_neg d6])
  ·exact no (fun k hk=>by rw[he k hk,if_neg d1,if_neg d2,if_neg d3,if_neg d4,if_neg d5])
theorem lO {nm:ByteArray} {l:List cW} (h:de nm l=true):cV nm=true:=by
 unfold de at h;simp only[Bool.and_eq_true]at h;exact h.2.1
theorem nk {nm:ByteArray} {l:List cw} (h:fI nm l=true):cV nm=true:=by
 unfold fI at h;simp only[Bool.and_eq_true]at h
 first|exact h.1|exact h.1.1|exact h.2.1|exact h.1.2
theorem lP {nm:ByteArray} {l:List cW} (h:de nm l=true):∀m∈l,fI m.f0 m.f1=true:=by
 intro m hm;obtain⟨j,hj,rfl⟩:=List.getElem_of_mem hm;unfold de at h;exact fW l _ 0 rfl (Bool.and_eq_true_iff.1 h).1 j (by omega) hj
theorem my (x:ByteArray):∀ls:List ByteArray,x∈ls→x.size≤(eL ls).length
 | y::r,h=>by
  rw[eL,List.length_append,List.length_cons]
  rcases List.mem_cons.1 h with rfl|h
  ·have:x.size=x.data.toList.length:=rfl;omega
  ·have:=my x r h;omega
theorem mA {m:cW} {z:cw} (hz:z∈m.f1):∀l:List cW,m∈l→fV z∈eT l
 | y::r,h=>by
  rw[eT]
  rcases List.mem_cons.1 h with rfl|h
  ·exact List.mem_cons_of_mem _ (List.mem_append_left _ (List.mem_map_of_mem hz))
  ·exact List.mem_cons_of_mem _ (List.mem_append_right _ (mA hz r h))
theorem mB {s:bY} {x:ByteArray} (hx:x∈eT s.f1):∀l:List bY,s∈l→x∈er l
 | y::r,h=>by
  rw[er]
  rcases List.mem_cons.1 h with rfl|h
  ·exact List.mem_cons_of_mem _ (List.mem_append_left _ hx)
  ·exact List.mem_cons_of_mem _ (List.mem_append_right _ (mB hx r h))
theorem nlM:∀l:List cW,(∀m∈l,cV m.f0=true∧∀z∈m.f1,eV z=true)→∀x∈eT l,(10:UInt8)∉x.data.toList
 | [],_,x,hx=>by simp[eT]at hx
 | m::r,h,x,hx=>by
  rw[eT]at hx
  rcases List.mem_cons.1 hx with rfl|hx
  ·rw[dN];intro hb
   rcases List.mem_append.1 hb with hb|hb
   ·exact absurd hb (by decide)
   ·exact lM (h m (List.mem_cons_self ..)).1 hb
  rcases List.mem_append.1 hx with hx|hx
  ·obtain⟨z,hz,rfl⟩:=List.mem_map.1 hx;exact ins_nl ((h m (List.mem_cons_self ..)).2 z hz)
  ·exact nlM r (fun y hy=>h y (List.mem_cons_of_mem _ hy)) x hx
theorem nlS:∀l:List bY,(∀s∈l,cV s.f0=true∧∀m∈s.f1,cV m.f0=true∧∀z∈m.f1,eV z=true)→∀x∈er l,(10:UInt8)∉x.data.toList
 | [],_,x,hx=>by simp[er]at hx
 | m::r,h,x,hx=>by
  rw[er]at hx
  rcases List.mem_cons.1 hx with rfl|hx
  ·rw[dN];intro hb
   rcases List.mem_append.1 hb with hb|hb
   ·exact absurd hb (by decide)
   ·exact lM (h m (List.mem_cons_self ..)).1 hb
  rcases List.mem_append.1 hx with hx|hx
  ·exact nlM _ (h m (List.mem_cons_self ..)).2 x hx
  ·exact nlS r (fun y hy=>h y (List.mem_cons_of_mem _ hy)) x hx
theorem gl {X:List bY} (hm:∀x∈X,kT x) (h:fX X=true):X.length≤6∧∀s∈X,cV s.f0=true∧s.f1.length≤4∧∀m∈s.f1,cV m.f0=true∧m.f1.length≤12∧∀z∈m.f1,eV z=true:=by
 obtain⟨h6,ha⟩:=iP X h;refine⟨h6,fun s hs=>?_⟩;have g:=ha s hs;obtain⟨h4,hb⟩:=fT s.f0 s.f1 (hm s hs).2.1 (hm s hs).2.2 g;exact⟨lO g,h4,fun m hm'=>⟨nk (lP g m hm'),(hb m hm').2.1,fun z hz=>((hb m hm').2.2 z hz).2.2⟩⟩
theorem mC {X:List bY} (h:fX X=true) {s:ByteArray} (hs:oQ X=s):s.data.toList=eL (er X):=by
 rw[←hs];unfold oQ;rw[if_pos h,lr X _ (iP X h).2];rfl
theorem oN {X:List bY} (hm:∀x∈X,kT x) (h:fX X=true) {s:ByteArray} (hs:oQ X=s):b9 10 s=er X++[⟨#[]⟩] :=
 mr _ (nlS X (fun t ht=>⟨((gl hm h).2 t ht).1,fun m hm'=>⟨(((gl hm h).2 t ht).2.2 m hm').1,(((gl hm h).2 t ht).2.2 m hm').2.2⟩⟩)) s (mC h hs)
theorem oO {X:List bY} (hm:∀x∈X,kT x) (h:fX X=true) {s:ByteArray} (hs:oQ X=s) (hz:s.size≤4000):∀t∈X,nU t:=by
 intro t ht;obtain⟨g1,g2,g3⟩:=(gl hm h).2 t ht;refine⟨g1,g2,fun m hm'=>⟨(g3 m hm').1,(g3 m hm').2.1,fun z hz'=>⟨(g3 m hm').2.2 z hz',?_⟩⟩⟩;have e:=my (fV z) (er X) (mB (mA hz' _ hm') X ht);rw[←mC h hs]at e;have:s.size=s.data.toList.length:=rfl;omega
theorem np (k:Nat) (hk:2000000<k) {X:List bY} (h6:X.length≤6) (hg:∀t∈X,nU t):aJ.l0 k (er X) []=some (X,true):=by
 have e:=pH (fun ls l=>aJ.l0 k ls l) (fun l nm r hb hn=>by
   have hz:(ie++nm).size=7+nm.size:=by rw[ByteArray.size_append];rfl
   have h1:=iW hn
   show aJ.l0 k (_::r) l=_
   rw[aJ.l0,if_pos (by omega),nc k l nm hb hn];rfl) (fun l nm r hb hl hn=>by
   have hz:(gI++nm).size=7+nm.size:=by rw[ByteArray.size_append];rfl
   have h1:=iW hn
   show aJ.l0 k (_::r) l=_
   rw[aJ.l0,if_pos (by omega),nf k l nm hb hl hn];rfl) (fun l z r hb hl hm hz=>by
   have h1:=hz.2
   show aJ.l0 k (_::r) l=_
   rw[aJ.l0,if_pos (by omega),ng k hk l z hb hl hm hz];rfl) [] X [] (by simp;omega) (by simp) hg
 rw[List.append_nil,List.nil_append]at e;exact e
theorem ne_list {x:ByteArray} (h:0<x.size):x.toList≠[]:=by
 intro e;rw[fp.1 e]at h;exact absurd h (by decide)
theorem nq (k:Nat) (hk:2000000<k) {X:List bY} (h6:X.length≤6) (hg:∀t∈X,nU t):ak.l0 k (er X++[⟨#[]⟩]) []=some (some X):=by
 have e:=pH (fun ls l=>ak.l0 k ls l) (fun l nm r hb hn=>by
   show ak.l0 k (_::r) l=_
   rw[ak.l0,if_pos (fM hb),show(⟨#[115,99,114,105,112,116,32]⟩:ByteArray)=ie from rfl,gY,if_pos ⟨by rw[ByteArray.size_append];omega,iV _ _⟩];simp only[dr];rw[if_pos trivial,jP]) (fun l nm r hb hl hn=>by
   have hz:(gI++nm).size=7+nm.size:=by rw[ByteArray.size_append];rfl
   have h2:=List.length_pos_iff.mpr hl
   show ak.l0 k (_::r) l=_
   rw[ak.l0,if_pos (fM hb),show(⟨#[115,99,114,105,112,116,32]⟩:ByteArray)=ie from rfl,show(⟨#[109,101,116,104,111,100,32]⟩:ByteArray)=gI from rfl,gY,gY,if_neg (fun h=>nV nm h.2),if_pos (show gI.size≤(gI++nm).size∧_ from⟨by rw[ByteArray.size_append];omega,iV _ _⟩)];simp only[dr];rw[if_neg (show ¬(false=true) by decide),if_neg (ne_list (by omega)),if_neg (by omega),if_pos trivial,jP]) (fun l z r hb hl hm hz=>by
   have h2:=List.length_pos_iff.mpr hl;have h3:=List.length_pos_iff.mpr hm;have hp:ft (fV z) z.f0 z.f1 z.f2 z.f3 z.f4 z.f5:=⟨hz.1,rfl⟩
   show ak.l0 k (_::r) l=_
   rw[ak.l0,if_pos (fM hb),show(⟨#[115,99,114,105,112,116,32]⟩:ByteArray)=ie from rfl,show(⟨#[109,101,116,104,111,100,32]⟩:ByteArray)=gI from rfl,gY,gY,if_neg (fun h=>pM z hz.1 h.2)];simp only[dr];rw[if_neg (show ¬(false=true) by decide),if_neg (nR hp),if_neg (by omega),if_neg (show ¬(gI.size≤(fV z).size∧(fV z).extract 0 gI.size=gI)from fun h=>pP z hz.1 h.2),if_neg (show ¬(false=true) by decide),lq (by have:=hz.2;omega) hp k hk];simp only[dr];rw[if_pos trivial,if_neg (by omega)]) [⟨#[]⟩] X [] (by simp;omega) (by simp) hg
 rw[List.nil_append]at e;refine Eq.trans e ?_
 show ak.l0 k [⟨#[]⟩] X=_
 have hb:mZ X:=bnd_L X (by omega) (fun s hs=>⟨by have:=(hg s hs).2.1;omega,fun m hm=>by have:=((hg s hs).2.2 m hm).2.1;omega⟩);rw[ak.l0,if_pos (fM hb),show(⟨#[115,99,114,105,112,116,32]⟩:ByteArray)=ie from rfl,gY,if_neg (fun h=>absurd h.1 (by decide))];simp only[dr];rw[if_neg (show ¬(false=true) by decide),if_pos (fp.2 rfl)];rfl
theorem pl_both (s:ByteArray) (hs:s.size≤1048576):∃(R:List bY×Bool) (K:Nat),(∀k,K≤k→aJ.f k s=some R∧ak.f k s=some R)∧R.1.length≤6∧(∀x∈R.1,kT x) ∧
  ((R=([],false)∧(s.size≤4000→∀X:List bY,X.length≤1048576→(∀x∈X,kT x)→fX X=true→oQ X≠s))∨(R.2=true∧s.size≤4000∧fX R.1=true∧oQ R.1=s)):=by
 by_cases c:(s.size:Int)>4000
 ·refine⟨([],false),0,fun k _=>⟨?_,?_⟩,by simp,by simp,.inl ⟨rfl,fun h=>by omega⟩⟩
  ·unfold aJ.f;rw[if_pos c]
  ·unfold ak.f;rw[if_pos c]
 have hz:s.size≤4000:=by omega
 obtain⟨w1,w2⟩:=gC 10 s;have w0:=jo 10 s;have eS (k:Nat) (hk:5000<k):bo.f k s 10=some (b9 10 s):=kC 10 s (by omega) k (by omega);have eI:strings_Split.f s ⟨#[10]⟩=some (b9 10 s):=kB 10 s (by omega);by_cases h:∃X:List bY,X.length≤1048576∧(∀x∈X,kT x)∧fX X=true∧oQ X=s
 ·obtain⟨X,hl,hm,hb,hf⟩:=h;have h6:=(gl hm hb).1;have hg:=oO hm hb hf hz;have hw:=oN hm hb hf;obtain⟨K1,g1⟩:=libP X hl hm;obtain⟨K2,g2⟩:=nO X hl hm;refine⟨(X,true),K1+K2+60000000,fun k hk=>⟨?_,?_⟩,h6,hm,.inr ⟨rfl,hz,hb,hf⟩⟩
  ·unfold aJ.f;rw[if_neg c,eS k (by omega)];simp only[dr];rw[if_pos ⟨w0,by omega⟩,hw,List.length_append,List.length_singleton,Nat.add_sub_cancel,List.take_left' rfl,np k (by omega) h6 hg];simp only[dr];rw[if_pos trivial,g1 k (by omega)];simp only[dr];rw[if_pos hb,g2 k (by omega)];simp only[dr];rw[if_pos (by rw[hf])]
  ·unfold ak.f;rw[if_neg c,eI];simp only[dr];rw[if_pos ⟨w0,by omega⟩,hw,nq k (by omega) h6 hg];simp only[dr]
   show(aE.f k X).bind _=_
   rw[libI X hl hm k (by omega)];simp only[dr];rw[if_pos hb,nN X hl hm k (by omega)];simp only[dr];rw[if_pos (by rw[hf])]
 ·have hno:∀X:List bY,X.length≤1048576→(∀x∈X,kT x)→fX X=true→oQ X≠s:=fun X a b d e=>h ⟨X,a,b,d,e⟩
  have z0:iX 0 ([]:List bY):=⟨by simp,by simp⟩;obtain⟨⟨l1,b1⟩,r1,f1⟩:=mv ((b9 10 s).take ((b9 10 s).length-1)) 0 [] (fun x hx=>by have:=w2 x (List.mem_of_mem_take hx);omega) z0 (by rw[List.length_take];omega);obtain⟨R2,r2,f2⟩:=mw (b9 10 s) 0 [] (fun x hx=>by have:=w2 x hx;omega) z0 (by omega);obtain⟨hl1,hm1⟩:=pU (by rw[List.length_take];omega) f1;obtain⟨K1,g1⟩:=libP l1 hl1 hm1;obtain⟨K2,g2⟩:=nO l1 hl1 hm1;refine⟨([],false),K1+K2+60000000,fun k hk=>⟨?_,?_⟩,by simp,by simp,.inl ⟨rfl,fun _=>hno⟩⟩
  ·unfold aJ.f;rw[if_neg c,eS k (by omega)];simp only[dr];rw[if_pos ⟨w0,by omega⟩,r1 k (by omega)];simp only[dr]
   cases b1
   ·rw[if_neg (by decide)]
   ·rw[if_pos rfl,g1 k (by omega)];simp only[dr];by_cases hb:fX l1=true
    ·rw[if_pos hb,g2 k (by omega)];simp only[dr];rw[if_neg (fun e=>hno l1 hl1 hm1 hb (jC.1 e))]
    ·rw[if_neg hb]
  ·unfold ak.f;rw[if_neg c,eI];simp only[dr];rw[if_pos ⟨w0,by omega⟩,r2 k (by omega)];simp only[dr]
   cases R2 with
   | none=>rfl
   | some l2 =>
    obtain⟨hl2,hm2⟩:=pU (by omega) (f2 l2 rfl)
    show(aE.f k l2).bind _=_
    rw[libI l2 hl2 hm2 k (by omega)];simp only[dr];by_cases hb:fX l2=true
    ·rw[if_pos hb,nN l2 hl2 hm2 k (by omega)];simp only[dr];rw[if_neg (fun e=>hno l2 hl2 hm2 hb (jC.1 e))]
    ·rw[if_neg hb]
theorem s35_ext (x y:cw):x=y↔(x.f0=y.f0∧x.f1=y.f1∧x.f2=y.f2∧x.f3=y.f3∧x.f4=y.f4∧x.f5=y.f5):=by
 cases x;cases y;simp
noncomputable instance:DecidableEq cw:=fun x y=>Classical.propDecidable _
theorem eqI1 (x y:cw):dL.f x.f0 x.f1 x.f2 x.f3 x.f4 x.f5 y.f0 y.f1 y.f2 y.f3 y.f4 y.f5=some (decide (x=y)):=by
 unfold dL.f;simp only[Kit.bytes_inj];by_cases h:x=y
 ·subst h;simp
 ·have h':=fun g=>h ((s35_ext x y).2 g)
  rw[decide_eq_false h];by_cases c0:x.f0=y.f0
  ·by_cases c1:x.f1=y.f1
   ·by_cases c2:x.f2=y.f2
    ·by_cases c3:x.f3=y.f3
     ·by_cases c4:x.f4=y.f4
      ·by_cases c5:x.f5=y.f5
       ·exact absurd ⟨c0,c1,c2,c3,c4,c5⟩ h'
       ·rw[if_pos c0,if_pos c1,if_pos c2,if_pos c3,if_pos c4,if_neg c5]
      ·rw[if_pos c0,if_pos c1,if_pos c2,if_pos c3,if_neg c4]
     ·rw[if_pos c0,if_pos c1,if_pos c2,if_neg c3]
    ·rw[if_pos c0,if_pos c1,if_neg c2]
   ·rw[if_pos c0,if_neg c1]
  ·rw[if_neg c0]
theorem eqIS (a b:List cw) (k:Nat) (hk:a.length+1<k) (h:a.length≤40000000):a8.f k a b=some (decide (a=b)) :=
 Kit.kj (fun _ x y=>dL.f x.f0 x.f1 x.f2 x.f3 x.f4 x.f5 y.f0 y.f1 y.f2 y.f3 y.f4 y.f5) z35 a8.l0 (fun _ _ _ _=>rfl) (f:=a8.f) (fun _ _ _=>rfl) 1 a b (fun x _ y _ _ _=>eqI1 x y) (by omega) k hk
theorem s52_ext (x y:cW):x=y↔(x.f0=y.f0∧x.f1=y.f1):=by
 cases x;cases y;simp
noncomputable instance:DecidableEq cW:=fun x y=>Classical.propDecidable _
theorem eqM1 (x y:cW) (k:Nat) (hk:x.f1.length+1<k) (h:x.f1.length≤40000000):cj.f k x.f0 x.f1 y.f0 y.f1=some (decide (x=y)):=by
 unfold cj.f;rw[eqIS x.f1 y.f1 k hk h];simp only[Kit.bytes_inj,dr];by_cases e:x=y
 ·subst e;simp
 ·have h':=fun g=>e ((s52_ext x y).2 g)
  rw[decide_eq_false e];by_cases c0:x.f0=y.f0
  ·by_cases c1:x.f1=y.f1
   ·exact absurd ⟨c0,c1⟩ h'
   ·rw[if_pos c0,decide_eq_false c1];rfl
  ·rw[if_neg c0]
theorem eqMS (a b:List cW) (k:Nat) (hk:a.length+1048577<k) (h:a.length≤40000000) (hx:∀x∈a,x.f1.length≤1048576):aY.f k a b=some (decide (a=b)) :=
 Kit.kj (fun k (x y:cW)=>cj.f k x.f0 x.f1 y.f0 y.f1) eH aY.l0 (fun _ _ _ _=>rfl) (f:=aY.f) (fun _ _ _=>rfl) 1048577 a b (fun x hm y _ k hk=>by
  have:=hx x hm;exact eqM1 x y k (by omega) (by omega)) (by omega) k hk
theorem s48_ext (x y:bY):x=y↔(x.f0=y.f0∧x.f1=y.f1):=by
 cases x;cases y;simp
noncomputable instance:DecidableEq bY:=fun x y=>Classical.propDecidable _
theorem eqS1 (x y:bY) (k:Nat) (hk:2097160<k) (h:x.f1.length≤1048576) (hx:∀y∈x.f1,y.f1.length≤1048576):cp.f k x.f0 x.f1 y.f0 y.f1=some (decide (x=y)):=by
 unfold cp.f;rw[eqMS x.f1 y.f1 k (by omega) (by omega) hx];simp only[Kit.bytes_inj,dr];by_cases e:x=y
 ·subst e;simp
 ·have h':=fun g=>e ((s48_ext x y).2 g)
  rw[decide_eq_false e];by_cases c0:x.f0=y.f0
  ·by_cases c1:x.f1=y.f1
   ·exact absurd ⟨c0,c1⟩ h'
   ·rw[if_pos c0,decide_eq_false c1];rfl
  ·rw[if_neg c0]
theorem eqSS (a b:List bY) (k:Nat) (hk:4000000<k) (h:a.length≤1048576) (hx:∀x∈a,x.f1.length≤1048576∧∀y∈x.f1,y.f1.length≤1048576):aV.f k a b=some (decide (a=b)) :=
 Kit.kj (fun k (x y:bY)=>cp.f k x.f0 x.f1 y.f0 y.f1) gp aV.l0 (fun _ _ _ _=>rfl) (f:=aV.f) (fun _ _ _=>rfl) 2097160 a b (fun x hm y _ k hk=>by
  have:=hx x hm;exact eqS1 x y k hk this.1 this.2) (by omega) k (by omega)
theorem nY:∀(d:Nat) (a:Int) (x:ByteArray),0≤a→a<(10:Int) ^ d→d≤18→x.size+d≤1000000→∃t,∀k,d<k→aC.l0 k a x=some t
 | 0,a,x,h0,h1,h2,h3=>by
  have ha:a=0:=by omega
  subst ha;refine⟨(⟨#[109]⟩:ByteArray)++x,fun k hk=>?_⟩;obtain⟨m,rfl⟩:∃m,k=m+1:=⟨k-1,by omega⟩;rw[aC.l0,if_neg (by omega),if_pos (by omega)]
 | d+1,a,x,h0,h1,h2,h3=>by
  by_cases c:a>0
  ·have e1:wrap64 (Int.tdiv a 10)=a / 10:=by
    rw[Int.tdiv_eq_ediv_of_nonneg h0]
    have hp:(10:Int) ^ (d+1)≤10 ^ 18:=by
     exact_mod_cast Nat.pow_le_pow_right (by omega) h2
    exact Kit.dM _ (by omega) (by omega)
   have e2:(strOfNums [(wrap64 (48+(Int.tmod a 10))) % 256]).size=1:=by
    simp[strOfNums]
    try rfl
   have h4:a / 10<(10:Int) ^ d:=by
    rw[Int.pow_succ]at h1;omega
   obtain⟨t,ht⟩:=nY d (a / 10) (strOfNums [(wrap64 (48+(Int.tmod a 10))) % 256]++x) (by omega) h4 (by omega) (by rw[ByteArray.size_append,e2];omega);refine⟨t,fun k hk=>?_⟩;obtain⟨m,rfl⟩:∃m,k=m+1:=⟨k-1,by omega⟩;rw[aC.l0,if_pos c];simp only[dr];rw[if_pos (by rw[e2];omega),e1];exact ht m (by omega)
  ·have ha:a=0:=by omega
   subst ha;refine⟨(⟨#[109]⟩:ByteArray)++x,fun k hk=>?_⟩;obtain⟨m,rfl⟩:∃m,k=m+1:=⟨k-1,by omega⟩;rw[aC.l0,if_neg (by omega),if_pos (by omega)]
theorem mt_ex (a:Int) (h:a<1000000000000000000):∃t,∀k,18<k→aC.f k a=some t:=by
 unfold aC.f;by_cases c:a≤0
 ·exact⟨_,fun k _=>by rw[if_pos c]⟩
 ·obtain⟨t,ht⟩:=nY 18 a ⟨#[]⟩ (by omega) (by omega) (by omega) (by decide);exact⟨t,fun k hk=>by rw[if_neg c];exact ht k hk⟩
noncomputable def mtV (a:Int):ByteArray:=if h:a<1000000000000000000 then(mt_ex a h).choose else⟨#[]⟩
theorem oP (a:Int) (h:a<1000000000000000000) (k:Nat) (hk:18<k):aC.f k a=some (mtV a):=by
 unfold mtV;rw[dif_pos h];exact(mt_ex a h).choose_spec k hk
theorem nr (P R:List cw) (z:cw):ab (P++z::R) (P.length:Int)=z:=by
 unfold ab;rw[Int.toNat_natCast];simp
theorem pY {α:Type} (P R:List α) (z y:α):(P++z::R).set ((P.length:Int)).toNat y=P++y::R:=by
 rw[Int.toNat_natCast];simp
theorem w6 (a:Int) (h0:0≤a) (h1:a<100000000000000000):wrap64 (a+1)=a+1∧wrap64 (a+1+1)=a+1+1∧wrap64 (a+1+1+1)=a+1+1+1∧wrap64 (a+1+1+1+1)=a+1+1+1+1∧wrap64 (a+1+1+1+1+1)=a+1+1+1+1+1∧wrap64 (a+1+1+1+1+1+1)=a+1+1+1+1+1+1 :=
 ⟨Kit.dM _ (by omega) (by omega),Kit.dM _ (by omega) (by omega),Kit.dM _ (by omega) (by omega),Kit.dM _ (by omega) (by omega),Kit.dM _ (by omega) (by omega),Kit.dM _ (by omega) (by omega)⟩
theorem wi (n:Nat) (h:n≤1000000):wrap64 ((n:Int)+1)=((n+1:Nat):Int):=(Kit.dM _ (by omega) (by omega)).trans (by omega)
noncomputable def mkIs:Int→List cw→List cw
 | _,[]=>[]
 | a,z::R=>⟨a,a+1,a+1+1,a+1+1+1,a+1+1+1+1,mtV (a+1+1+1+1+1)⟩::mkIs (a+1+1+1+1+1+1) R
noncomputable section
theorem nZ:∀(R P:List cw) (a:Int) (k:Nat),0≤a→a+6*R.length<100000000000000000→P.length+R.length≤1000000→R.length+20<k→bh.l0 k (P++R) a (P.length:Int)=some (a+6*(R.length:Int),P++mkIs a R)
 | [],P,a,k,h0,h1,h2,hk=>by
  obtain⟨m,rfl⟩:∃m,k=m+1:=⟨k-1,by omega⟩;rw[bh.l0,if_neg (by simp)];simp[mkIs]
 | z::R,P,a,k,h0,h1,h2,hk=>by
  rw[List.length_cons]at h1 h2 hk;obtain⟨m,rfl⟩:∃m,k=m+1:=⟨k-1,by omega⟩;have ih (y:cw):=nZ R (P++[y]) (a+1+1+1+1+1+1) m (by omega) (by omega) (by rw[List.length_append,List.length_singleton];omega) (by omega);have f1:(P.length:Int)<(((P++z::R).length:Nat):Int):=by rw[List.length_append,List.length_cons];omega
  have f2:(0:Int)≤(P.length:Int):=by omega
  have f3:a+1+1+1+1+1<1000000000000000000:=by omega
  have f4:18<m:=by omega
  have f5:a+1+1+1+1+1+1+6*(R.length:Int)=a+6*((R.length+1:Nat):Int):=by omega
  have ei:=wi P.length (by omega);obtain⟨e1,e2,e3,e4,e5,e6⟩:=w6 a h0 (by omega);rw[bh.l0,if_pos f1,if_pos f2];simp only[dr,pY,nr,e1,e2,e3,e4,e5,e6,ei];rw[oP _ f3 m f4];simp only[dr,pY,nr];have:=ih ⟨a,a+1,a+1+1,a+1+1+1,a+1+1+1+1,mtV (a+1+1+1+1+1)⟩;rw[List.length_append,List.length_singleton,List.append_assoc,List.append_assoc]at this;refine Eq.trans this ?_;rw[List.length_cons,mkIs,f5];rfl
theorem oa:∀(R P:List cw) (a:Int) (k:Nat),0≤a→a+6*R.length<100000000000000000→P.length+R.length≤1000000→R.length+20<k→aT.l0 k (P++mkIs a R) a (P.length:Int)=some (a+6*(R.length:Int))
 | [],P,a,k,h0,h1,h2,hk=>by
  obtain⟨m,rfl⟩:∃m,k=m+1:=⟨k-1,by omega⟩;rw[aT.l0,mkIs,if_neg (by simp)];simp
 | z::R,P,a,k,h0,h1,h2,hk=>by
  rw[List.length_cons]at h1 h2 hk;obtain⟨m,rfl⟩:∃m,k=m+1:=⟨k-1,by omega⟩;have ih (y:cw):=oa R (P++[y]) (a+1+1+1+1+1+1) m (by omega) (by omega) (by rw[List.length_append,List.length_singleton];omega) (by omega);have f1:(P.length:Int)<(((P++mkIs a (z::R)).length:Nat):Int):=by rw[List.length_append,mkIs,List.length_cons];omega
  have f2:(0:Int)≤(P.length:Int):=by omega
  have f3:a+1+1+1+1+1<1000000000000000000:=by omega
  have f4:18<m:=by omega
  have f5:a+1+1+1+1+1+1+6*(R.length:Int)=a+6*((R.length+1:Nat):Int):=by omega
  have ei:=wi P.length (by omega);obtain⟨e1,e2,e3,e4,e5,e6⟩:=w6 a h0 (by omega);rw[aT.l0,if_pos f1,if_pos f2,mkIs];simp only[nr,e1,e2,e3,e4,e5,e6,ei,if_true];rw[oP _ f3 m f4];simp only[dr,if_true];have:=ih ⟨a,a+1,a+1+1,a+1+1+1,a+1+1+1+1,mtV (a+1+1+1+1+1)⟩;rw[List.length_append,List.length_singleton,List.append_assoc]at this;refine Eq.trans this ?_;rw[List.length_cons,f5]
end
theorem mi_f (l:List cw) (a:Int) (k:Nat) (h0:0≤a) (h1:a+6*l.length<100000000000000000) (h2:l.length≤1000000) (hk:l.length+20<k):bh.f k l a=some (a+6*(l.length:Int),mkIs a l):=nZ l [] a k h0 h1 (by simpa using h2) hk
theorem hi_f (l:List cw) (a:Int) (k:Nat) (h0:0≤a) (h1:a+6*l.length<100000000000000000) (h2:l.length≤1000000) (hk:l.length+20<k):aT.f k (mkIs a l) a=some (a+6*(l.length:Int)):=oa l [] a k h0 h1 (by simpa using h2) hk
def fl:Int→List cW→Int
 | a,[]=>a
 | a,m::R=>fl (a+1+6*(m.f1.length:Int)) R
noncomputable def mkMs:Int→List cW→List cW
 | _,[]=>[]
 | a,m::R=>⟨mtV a,mkIs (a+1) m.f1⟩::mkMs (a+1+6*(m.f1.length:Int)) R
theorem ia:∀(R:List cW) (a:Int),a≤fl a R
 | [],a=>Int.le_refl _
 | m::R,a=>by
  have:=ia R (a+1+6*(m.f1.length:Int));rw[fl];omega
theorem w1 (a:Int) (h0:0≤a) (h1:a<100000000000000000):wrap64 (a+1)=a+1:=Kit.dM _ (by omega) (by omega)
theorem ob:∀(R P:List cW) (a:Int) (k:Nat),0≤a→fl a R<100000000000000000→(∀m∈R,m.f1.length≤1000)→2000<k→bQ.l0 k R.length (P++R) a P.length=some (fl a R,P++mkMs a R)
 | [],P,a,k,h0,h1,h2,hk=>by simp[bQ.l0,fl,mkMs]
 | m::R,P,a,k,h0,h1,h2,hk=>by
  have hm:=h2 m (List.mem_cons_self ..);have hg:=ia R (a+1+6*(m.f1.length:Int));rw[fl]at h1;have ih:=ob R (P++[⟨mtV a,mkIs (a+1) m.f1⟩]) (a+1+6*(m.f1.length:Int)) k (by omega) h1 (fun y hy=>h2 y (List.mem_cons_of_mem _ hy)) hk;have g1:(P++m::R).getD P.length eH=m:=by simp
  have g2 (y:cW):(P++m::R).set P.length y=P++y::R:=by simp
  rw[List.length_append,List.length_singleton,List.append_assoc,List.append_assoc]at ih;rw[List.length_cons,bQ.l0,oP a (by omega) k (by omega),g1];simp only[dr,g2];rw[w1 a h0 (by omega),mi_f m.f1 (a+1) k (by omega) (by omega) (by omega) (by omega)];exact ih
theorem mm_f (l:List cW) (a:Int) (k:Nat) (h0:0≤a) (h1:fl a l<100000000000000000) (h2:∀m∈l,m.f1.length≤1000) (h3:l.length≤1000000) (hk:2000<k):bQ.f k l a=some (fl a l,mkMs a l):=by
 unfold bQ.f;rw[if_pos h3];exact ob l [] a k h0 h1 h2 hk
def gZ:Int→List bY→Int
 | a,[]=>a
 | a,s::R=>gZ (fl (a+1) s.f1) R
noncomputable def mkSs:Int→List bY→List bY
 | _,[]=>[]
 | a,s::R=>⟨mtV a,mkMs (a+1) s.f1⟩::mkSs (fl (a+1) s.f1) R
theorem jR:∀(R:List bY) (a:Int),a≤gZ a R
 | [],a=>Int.le_refl _
 | s::R,a=>by
  have h1:=jR R (fl (a+1) s.f1);have h2:=ia s.f1 (a+1);rw[gZ];omega
theorem oc:∀(R P:List bY) (a:Int) (k:Nat),0≤a→gZ a R<100000000000000000→(∀s∈R,s.f1.length≤1000000∧∀m∈s.f1,m.f1.length≤1000)→2000<k→bR.l0 k R.length (P++R) a P.length=some (gZ a R,P++mkSs a R)
 | [],P,a,k,h0,h1,h2,hk=>by simp[bR.l0,gZ,mkSs]
 | s::R,P,a,k,h0,h1,h2,hk=>by
  have hm:=h2 s (List.mem_cons_self ..);have hg:=jR R (fl (a+1) s.f1);have hg2:=ia s.f1 (a+1);rw[gZ]at h1;have ih:=oc R (P++[⟨mtV a,mkMs (a+1) s.f1⟩]) (fl (a+1) s.f1) k (by omega) h1 (fun y hy=>h2 y (List.mem_cons_of_mem _ hy)) hk;have g1:(P++s::R).getD P.length gp=s:=by simp
  have g2 (y:bY):(P++s::R).set P.length y=P++y::R:=by simp
  rw[List.length_append,List.length_singleton,List.append_assoc,List.append_assoc]at ih;rw[List.length_cons,bR.l0,oP a (by omega) k (by omega),g1];simp only[dr,g2];rw[w1 a h0 (by omega),mm_f s.f1 (a+1) k (by omega) (by omega) hm.2 hm.1 hk];exact ih
theorem ms_f (l:List bY) (a:Int) (k:Nat) (h0:0≤a) (h1:gZ a l<100000000000000000) (h2:∀s∈l,s.f1.length≤1000000∧∀m∈s.f1,m.f1.length≤1000) (h3:l.length≤1000000) (hk:2000<k):bR.f k l a=some (gZ a l,mkSs a l):=by
 unfold bR.f;rw[if_pos h3];exact oc l [] a k h0 h1 h2 hk
theorem rdM_at (P R:List cW) (z:cW):aq (P++z::R) (P.length:Int)=z:=by
 unfold aq;rw[Int.toNat_natCast];simp
theorem od:∀(R P:List cW) (a:Int) (k:Nat),0≤a→fl a R<100000000000000000→(∀m∈R,m.f1.length≤1000)→P.length+R.length≤1000000→R.length+2000<k→aQ.l0 k (P++mkMs a R) a (P.length:Int)=some (fl a R)
 | [],P,a,k,h0,h1,h2,h3,hk=>by
  obtain⟨m,rfl⟩:∃m,k=m+1:=⟨k-1,by omega⟩;rw[aQ.l0,mkMs,if_neg (by simp),fl]
 | z::R,P,a,k,h0,h1,h2,h3,hk=>by
  rw[List.length_cons]at h3 hk;obtain⟨m,rfl⟩:∃m,k=m+1:=⟨k-1,by omega⟩;have hm:=h2 z (List.mem_cons_self ..);have hg:=ia R (a+1+6*(z.f1.length:Int));rw[fl]at h1;have ih:=od R (P++[⟨mtV a,mkIs (a+1) z.f1⟩]) (a+1+6*(z.f1.length:Int)) m (by omega) h1 (fun y hy=>h2 y (List.mem_cons_of_mem _ hy)) (by rw[List.length_append,List.length_singleton];omega) (by omega);rw[List.length_append,List.length_singleton,List.append_assoc]at ih;have f1:(P.length:Int)<(((P++mkMs a (z::R)).length:Nat):Int):=by rw[List.length_append,mkMs,List.length_cons];omega
  have f6:¬(a+1+6*(z.f1.length:Int)<0):=by omega
  have f7:=hi_f z.f1 (a+1) m (by omega) (by omega) (by omega) (by omega);have f8:=oP a (by omega) m (by omega);have f9:=w1 a h0 (by omega);have ei:=wi P.length (by omega);rw[aQ.l0,if_pos f1,if_pos (Int.natCast_nonneg _),mkMs,f8];simp only[dr,rdM_at,f9,ei,if_true,f7];rw[if_neg f6];exact ih
theorem rdS_at (P R:List bY) (z:bY):aN (P++z::R) (P.length:Int)=z:=by
 unfold aN;rw[Int.toNat_natCast];simp
theorem oe:∀(R P:List bY) (a:Int) (k:Nat),0≤a→gZ a R<100000000000000000→(∀s∈R,s.f1.length≤1000∧∀m∈s.f1,m.f1.length≤1000)→P.length+R.length≤1000000→R.length+4000<k→aI.l0 k (P++mkSs a R) a (P.length:Int)=some (gZ a R)
 | [],P,a,k,h0,h1,h2,h3,hk=>by
  obtain⟨m,rfl⟩:∃m,k=m+1:=⟨k-1,by omega⟩;rw[aI.l0,mkSs,if_neg (by simp),gZ]
 | z::R,P,a,k,h0,h1,h2,h3,hk=>by
  rw[List.length_cons]at h3 hk;obtain⟨m,rfl⟩:∃m,k=m+1:=⟨k-1,by omega⟩;have hm:=h2 z (List.mem_cons_self ..);have hg:=jR R (fl (a+1) z.f1);have hg2:=ia z.f1 (a+1);rw[gZ]at h1;have ih:=oe R (P++[⟨mtV a,mkMs (a+1) z.f1⟩]) (fl (a+1) z.f1) m (by omega) h1 (fun y hy=>h2 y (List.mem_cons_of_mem _ hy)) (by rw[List.length_append,List.length_singleton];omega) (by omega);rw[List.length_append,List.length_singleton,List.append_assoc]at ih;have f1:(P.length:Int)<(((P++mkSs a (z::R)).length:Nat):Int):=by rw[List.length_append,mkSs,List.length_cons];omega
  have f6:¬(fl (a+1) z.f1<0):=by omega
  have f7:aQ.f m (mkMs (a+1) z.f1) (a+1)=some (fl (a+1) z.f1):=od z.f1 [] (a+1) m (by omega) (by omega) hm.2 (by have:=hm.1;simp;omega) (by have:=hm.1;omega);have f8:=oP a (by omega) m (by omega);have f9:=w1 a h0 (by omega);have ei:=wi P.length (by omega);rw[aI.l0,if_pos f1,if_pos (Int.natCast_nonneg _),mkSs,f8];simp only[dr,rdS_at,f9,ei,if_true,f7];rw[if_neg f6];exact ih
theorem og:∀(R:List cW) (a:Int),(∀m∈R,m.f1.length≤1000)→fl a R≤a+10000*R.length
 | [],a,_=>by simp[fl]
 | m::R,a,h=>by
  have h1:=h m (List.mem_cons_self ..);have h2:=og R (a+1+6*(m.f1.length:Int)) (fun y hy=>h y (List.mem_cons_of_mem _ hy));rw[fl,List.length_cons];omega
theorem oh:∀(R:List bY) (a:Int),(∀s∈R,s.f1.length≤1000∧∀m∈s.f1,m.f1.length≤1000)→gZ a R≤a+100000000*R.length
 | [],a,_=>by simp[gZ]
 | s::R,a,h=>by
  have h1:=h s (List.mem_cons_self ..);have h2:=oh R (fl (a+1) s.f1) (fun y hy=>h y (List.mem_cons_of_mem _ hy));have h3:=og s.f1 (a+1) h1.2;have h4:=h1.1;rw[gZ,List.length_cons];omega
theorem FnExactParseLibrary:OpFnExactParseLibrary.Pure:=by
 intro a0 hs;by_cases c0:(a0.size:Int)>1048576
 ·refine⟨0,?_⟩;unfold bS.f;rw[if_pos c0]
 obtain⟨⟨X,b⟩,K,hk,h6,hm,hR⟩:=pl_both a0 (by omega)
 have hl:∀s∈X,s.f1.length≤1000∧∀m∈s.f1,m.f1.length≤1000:=by
  intro s hx
  rcases hR with ⟨e,_⟩|⟨_,_,hb,_⟩
  ·cases e;exact absurd hx (by simp)
  ·have g:=(gl hm hb).2 s hx;exact⟨by have:=g.2.1;omega,fun m hm'=>by have:=(g.2.2 m hm').2.1;omega⟩
 have h7:X.length≤6:=h6;have g1:=oh X 1 hl;have g2:=jR X 1;obtain⟨k,hkk⟩:∃k,k=K+10000000:=⟨_,rfl⟩;refine⟨k,?_⟩;obtain⟨k1,k2⟩:=hk k (by omega);have k3:=eqSS X X k (by omega) (by omega) (fun s hx=>⟨by have:=(hl s hx).1;omega,fun m hm'=>by have:=(hl s hx).2 m hm';omega⟩);have k4:=ms_f X 1 k (by omega) (by omega) (fun s hx=>⟨by have:=(hl s hx).1;omega,(hl s hx).2⟩) (by omega) (by omega);have k5:aI.f k (mkSs 1 X) 1=some (gZ 1 X):=oe X [] 1 k (by omega) (by omega) hl (by simp;omega) (by omega);unfold bS.f;rw[if_neg c0,k1,k2];simp only[dr];rw[k3];simp only[dr];rw[if_pos ⟨by simp,trivial⟩,k4];simp only[dr];rw[k5];simp only[dr];rw[if_pos ⟨by omega,trivial⟩]
end Go.Proofs.YtmipaoobkjppdaaGreatDoor.Pure
