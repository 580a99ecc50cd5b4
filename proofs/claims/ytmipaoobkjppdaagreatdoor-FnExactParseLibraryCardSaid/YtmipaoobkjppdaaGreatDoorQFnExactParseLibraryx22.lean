import Derived.Test.YtmipaoobkjppdaaGreatDoorQFnExactParseLibraryx21
namespace Go.Proofs.YtmipaoobkjppdaaGreatDoor.QFnExactParseLibrary
open Go.RowKit Go.Proofs.YtmipaoobkjppdaaGreatDoorW 
open PrintWords PrintLast PrintMore
attribute [local go_sem] cA cB cX cY cd cf cD cG
set_option linter.unusedVariables false
set_option linter.unusedSimpArgs false
theorem aV.at (k:Nat) (v0 v1:Value) (l0 l1:List bY) (r:Bool) (w:World) {b0 b1:Nat} {o0 o1:Nat→Prop} (h0:Kd.S LO.kS 48 w b0 o0 v0 l0) (h1:Kd.S LO.kS 48 w b1 o1 v1 l1) (h:aV.f k l0 l1=some r) :
  Calls Tryz.prog 7 #[v0,v1] w fun e w'=>e=.returned (.bool r)∧Below w.heap.size w w':=by
 obtain⟨A0,c0,e0⟩:=Kd.cK h0;obtain⟨A1,c1,e1⟩:=Kd.cK h1;subst e0;subst e1;have g0:=Kd.aZ (LO.mV h0);have g1:=Kd.aZ (LO.mV h1);exact aV.calls k A0 c0 l0 A1 c1 l1 r w g0.2.2 g0.2.1 g1.2.2 g1.2.1 h
theorem aI.at (k:Nat) (v0:Value) (l0:List bY) (a r:Int) (w:World) {b0:Nat} {o0:Nat→Prop} (h0:Kd.S LO.kS 48 w b0 o0 v0 l0) (h:aI.f k l0 a=some r) :
  Calls Tryz.prog 9 #[v0,.int .i64 a] w fun e w'=>e=.returned (.int .i64 r)∧Below w.heap.size w w':=by
 obtain⟨A0,c0,e0⟩:=Kd.cK h0;subst e0;have g0:=Kd.aZ (LO.mV h0);exact aI.calls k A0 c0 l0 a r w g0.2.2 g0.2.1 h
def bS.f (k:Nat) (a0:ByteArray):Option Bool :=
 if (a0.size:Int)>1048576 then some true else
 (aJ.f k a0).bind fun t1=>(ak.f k a0).bind fun t2=>(aV.f k t2.1 t1.1).bind fun t3=>if t3=true∧t2.2=t1.2 then
 (bR.f k t2.1 1).bind fun t4=>(aI.f k t4.2 1).bind fun t5=>if 0≤t5∧t5=t4.1 then some true else none else none
set_option maxHeartbeats 16000000 in
set_option maxRecDepth 100000 in
theorem bS.calls (k:Nat) (a0:ByteArray) (r:Bool) (w:World) (h:bS.f k a0=some r) (htab:Go.Proofs.YtmipaoobkjppdaaGreatDoor.TabFnExactParseLibrary.fZ w) :
  Calls Tryz.prog 3 #[.string a0] w fun e w'=>e=.returned (.bool r)∧Below w.heap.size w w':=by
 have HTAB:=ae htab;clear htab;unfold bS.f at h;by_cases c2:(a0.size:Int)>1048576
 ·rw[if_pos c2]at h;have c2b0:decide (1048576<(a0.size:Int))=true:=bW c2;have c2b1:decide (1048576<a0.size)=true:=bW (by omega);clear c2;obtain rfl:=bL h;go_enter Tryz.func3,Tryz.ntmps3;go_wp2;go_ret;exact⟨rfl,Below.refl _ _⟩
 ·rw[if_neg c2]at h;have c2b0:decide (1048576<(a0.size:Int))=false:=b5 c2;have c2b1:decide (1048576<a0.size)=false:=b5 (by omega);clear c2;replace h:=gq h;obtain⟨⟨l1,b1⟩,A0,h⟩:=h;have A1:=ae A0;clear A0;replace h:=gq h;obtain⟨⟨l2,b2⟩,A0,h⟩:=h;have A2:=ae A0;clear A0;replace h:=gq h;obtain⟨t3,A0,h⟩:=h;dsimp only at h A0;by_cases c3:t3=true∧b2=b1
  ·rw[if_pos c3]at h;obtain⟨rfl,rfl⟩:=c3;have A3:=ae A0;clear A0;replace h:=gq h;obtain⟨⟨m,l3⟩,A0,h⟩:=h;have A4:=ae A0;clear A0;replace h:=gq h;obtain⟨q,A0,h⟩:=h;dsimp only at h A0;by_cases c5:0≤q∧q=m
   ·rw[if_pos c5]at h;obtain⟨c6,rfl⟩:=c5;have A5:=ae A0;clear A0;obtain rfl:=bL h;clear h;have hq0:decide (q<0)=false:=b5 (by omega);clear c6;have hq1:(q !=q)=false:=bne_self_eq_false q;have hq2:decide (q=q)=true:=bW rfl;have hb1:(b2 !=b2)=false:=by cases b2<;>rfl
    have hb2:decide (b2=b2)=true:=bW rfl;have TK:=ae trivial;go_enter Tryz.func3,Tryz.ntmps3;go_wp2_with (first|(go_at_call 5;(with_reducible refine(aJ.at k a0 l1 b2 _ A1.out).mono ?_);rintro e w1 ⟨v1,rfl,ho,hb⟩;have HW:=ae ho;have HB0:=ae hb;have HB:=ae (Below.refl w1.heap.size w1);clear ho hb A1)|(go_at_call 6;clear TK;(with_reducible refine(ak.at k a0 l2 b2 _ A2.out ?tab1).mono ?_);(case tab1=>exact(HTAB.out).below (HB0.out.trans (Below.mono HB.out HB0.out.size)));rintro e w2 ⟨v2,rfl,ho,hb⟩;have HG:=ae ho;have TE:=ae trivial;replace HB:=ae (aD HB.out hb);clear ho hb)|(go_at_call 7;clear TE;(with_reducible refine(aV.at k v2 v1 l2 l1 true _ HG.out (Kd.bG HW.out HB.out) A3.out).mono ?_);rintro e w3 ⟨rfl,hb⟩;have TH:=ae trivial;replace HG:=ae (Kd.bG HG.out hb);replace HB:=ae (aD HB.out hb);clear hb)|(go_at_call 8;refine(bR.at k (fun _=>True) v2 l2 1 q l3 w1 _ HB.out HG.out A4.out).mono ?_;rintro e w4 ⟨rfl,ho,hb,hk⟩;clear hk;replace HG:=ae (Kd.dy ho (ok':=fun _=>True) (fun _ _=>trivial));replace HB:=ae (hb);clear ho hb)|(go_at_call 9;clear TH;(with_reducible refine(aI.at k v2 l3 1 q _ HG.out A5.out).mono ?_);rintro e w5 ⟨rfl,hb⟩;have TI:=ae trivial;replace HG:=ae (Kd.bG HG.out hb);replace HB:=ae (aD HB.out hb);clear hb)|(go_at_call 6;clear TI;(with_reducible refine(ak.at k a0 l2 b2 _ A2.out ?tab2).mono ?_);(case tab2=>exact(HTAB.out).below (HB0.out.trans (Below.mono HB.out HB0.out.size)));rintro e w6 ⟨v3,rfl,ho,hb⟩;have HH:=ae ho;replace HG:=ae (Kd.bG HG.out hb);replace HB:=ae (aD HB.out hb);clear ho hb)|(go_at_call 7;(with_reducible refine(aV.at k v3 v1 l2 l1 true _ HH.out (Kd.bG HW.out HB.out) A3.out).mono ?_);rintro e w7 ⟨rfl,hb⟩;clear HH;replace HG:=ae (Kd.bG HG.out hb);replace HB:=ae (aD HB.out hb);clear hb)|(go_at_call 9;(with_reducible refine(aI.at k v2 l3 1 q _ HG.out A5.out).mono ?_);rintro e w8 ⟨rfl,hb⟩;replace HG:=ae (Kd.bG HG.out hb);replace HB:=ae (aD HB.out hb);clear hb));go_ret;exact⟨rfl,HB0.out.trans (Below.mono HB.out HB0.out.size)⟩
   ·rw[if_neg c5]at h;exact absurd h (by simp)
  ·rw[if_neg c3]at h;exact absurd h (by simp)
def bS.Pure:Prop:=∀(a0:ByteArray),a0.size≤140737488351232→∃k,bS.f k a0=some true
end Go.Proofs.YtmipaoobkjppdaaGreatDoor.QFnExactParseLibrary
