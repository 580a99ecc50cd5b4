import Derived.Test.YtmipaoobkjppdaaGreatDoorQFnExactParseLibraryx5
set_option maxHeartbeats 8000000
set_option maxRecDepth 100000
namespace Go.Proofs.YtmipaoobkjppdaaGreatDoor.QFnExactParseLibrary
open Go.RowKit Go.Proofs.YtmipaoobkjppdaaGreatDoorW 
open PrintWords PrintLast PrintMore
attribute [local go_sem] cA cB cX cY cd cf cD cG
set_option linter.unusedVariables false
set_option linter.unusedSimpArgs false
def bT.l0:Nat→ByteArray→Int→Option (Int)
 | 0,_,_=>none
 | k+1,x0,x3=>if x3≤10 then((dh.f x3).bind fun t174=>(if t174.toList=x0.toList then(some x3)else(bT.l0 k x0 (wrap64 (x3+1)))))else(some 0)
def bT.f (k:Nat) (a0:ByteArray):Option (Int):=bT.l0 k a0 1
theorem bT.bs:∀k,(∀y0 y1,bd (bT.l0 k y0 y1) (bT.l0 (k+1) y0 y1))
 | 0=>fun _ _ r h=>by simp[bT.l0]at h
 | k+1=>by
  have ih0:=bT.bs k
  ·intro y0 y1;unfold bT.l0
   repeat' with_reducible first|exact ih0 _ _|exact bd.refl _|exact bd.none _|refine bd.ite ?_ ?_|refine bd.bind ?_ (fun _=>?_)
theorem bT.mono:∀a0 k,bd (bT.f k a0) (bT.f (k+1) a0):=by
 intro a0 k;have ih0:=bT.bs k;unfold bT.f
 repeat' with_reducible first|exact ih0 _ _|exact bd.refl _|exact bd.none _|refine bd.ite ?_ ?_|refine bd.bind ?_ (fun _=>?_)
theorem bT.calls (k:Nat) (a0:ByteArray) (r:Int) (w:World) (h:bT.f k a0=some r) :
  Calls Tryz.prog 83 #[.string a0] w fun e w'=>e=.returned (.int .i64 r)∧Below w.heap.size w w':=by
 have HB:=ae (Below.refl w.heap.size w);have H:(bT.l0 k a0 1)=some r:=h;clear h;have H':=ae H;clear H;go_enter Tryz.func83,Tryz.ntmps83;go_wp2
 go_loopg [3] k (fun kq v3 w'=>∃(x3_1:Int),v3=.int .i64 x3_1∧Aside0 (bT.l0 kq a0 x3_1=some r)∧Aside0 (kq≤k)∧Aside0 (Below w.heap.size w w'))
 case atStart=>exact⟨(1),(by first|rfl|(simp;done)|(simp[*];done)),H',⟨Nat.le_refl _⟩,⟨bl⟩⟩
 case round =>
  clear H';obtain⟨x3_1,rfl,HA,HK1,HB⟩:=hrel
  cases gk with
  | zero=>exact absurd HA.out (by simp[bT.l0])
  | succ k1 =>
   have H:=HA.out;clear HA;simp only[bT.l0]at H;by_cases c2:x3_1≤10
   ·rw[if_pos c2]at H;have c2b0:decide (x3_1≤10)=true:=bW c2;clear c2;replace H:=df H;obtain⟨t174,A3,H⟩:=H;by_cases c4:t174.toList=a0.toList
    ·rw[if_pos c4]at H;have c4b0:(t174.toList==a0.toList)=true:=dX c4;have c4b1:(t174.toList !=a0.toList)=false:=ed c4;clear c4;obtain rfl:=bL H;go_wp2_with (first|((with_reducible refine ai (f:=66) rfl ?_);refine dm (some 9) Tryz.func66 #[.int .i64 x3_1] ?_;(with_reducible refine(dh.calls x3_1 t174 _ A3.out).mono ?_);rintro e w5 ⟨rfl,hb⟩;refine⟨_,rfl,?_⟩;replace HB:=ch hb));go_ret;exact cu
    ·rw[if_neg c4]at H;have c4b0:(t174.toList==a0.toList)=false:=di c4;have c4b1:(t174.toList !=a0.toList)=true:=ee c4;have H':=ae H;clear H;go_wp2_with (first|((with_reducible refine ai (f:=66) rfl ?_);refine dm (some 9) Tryz.func66 #[.int .i64 x3_1] ?_;(with_reducible refine(dh.calls x3_1 t174 _ A3.out).mono ?_);rintro e w6 ⟨rfl,hb⟩;refine⟨_,rfl,?_⟩;replace HB:=ch hb))
     go_roundg k1
     case measure=>have:=HK1.out;omega
     case rel=>exact⟨(wrap64 (x3_1+1)),(by first|rfl|(simp;done)|(simp[*];done)),H',⟨by have:=HK1.out;omega⟩,⟨bl⟩⟩
   ·rw[if_neg c2]at H;have c2b0:decide (x3_1≤10)=false:=b5 c2;clear c2;obtain rfl:=bL H;go_wp2;go_ret;exact cu
def br.l0:Nat→ByteArray→Int→Int→Option (Int×Bool)
 | 0,_,_,_=>none
 | k+1,x0,x4,x5=>if x5<(x0.size:Int)then(if 0≤x5 then((bC.f (wrap64 (bt x0 x5)) 48 57).bind fun t176=>(if t176=true then(br.l0 k x0 (wrap64 ((wrap64 (10*x4))+(((bt x0 x5)-48) % 256))) (wrap64 (x5+1)))else(some (0,false))))else(none))else(if x4>1000000000000 then(some (0,false))else((av.f k x4).bind fun t177=>(if t177.toList=x0.toList then(some (x4,true))else(some (0,false)))))
def br.f (k:Nat) (a0:ByteArray):Option (Int×Bool):=(bC.f (a0.size:Int) 1 13).bind fun t175=>(if t175=true then(br.l0 k a0 0 0)else(some (0,false)))
theorem br.bs:∀k,(∀y0 y1 y2,bd (br.l0 k y0 y1 y2) (br.l0 (k+1) y0 y1 y2))
 | 0=>fun _ _ _ r h=>by simp[br.l0]at h
 | k+1=>by
  have ih0:=br.bs k
  ·intro y0 y1 y2;unfold br.l0
   repeat' with_reducible first|exact ih0 _ _ _|exact av.mono _ _|exact bd.refl _|exact bd.none _|refine bd.ite ?_ ?_|refine bd.bind ?_ (fun _=>?_)
theorem br.mono:∀a0 k,bd (br.f k a0) (br.f (k+1) a0):=by
 intro a0 k;have ih0:=br.bs k;unfold br.f
 repeat' with_reducible first|exact ih0 _ _ _|exact av.mono _ _|exact bd.refl _|exact bd.none _|refine bd.ite ?_ ?_|refine bd.bind ?_ (fun _=>?_)
theorem br.calls (k:Nat) (a0:ByteArray) (r1:Int) (r2:Bool) (w:World) (h:br.f k a0=some (r1,r2)) :
  Calls Tryz.prog 108 #[.string a0] w fun e w'=>e=.returned (.tuple #[.int .i64 r1,.bool r2])∧Below w.heap.size w w':=by
 have HB:=ae (Below.refl w.heap.size w);have H:((bC.f (a0.size:Int) 1 13).bind fun t175=>(if t175=true then(br.l0 k a0 0 0)else(some (0,false))))=some (r1,r2):=h;clear h;replace H:=df H;obtain⟨t175,A2,H⟩:=H;by_cases c3:t175=true
 ·subst c3;have H1:(br.l0 k a0 0 0)=some (r1,r2):=by rw[if_pos rfl]at H;exact H
  clear H;have H:=H1;clear H1;have H':=ae H;clear H;go_enter Tryz.func108,Tryz.ntmps108;go_wp2_with (first|((with_reducible refine ai (f:=94) rfl ?_);refine dm (some 8) Tryz.func94 #[.int .i64 (a0.size:Int),.int .i64 1,.int .i64 13] ?_;(with_reducible refine(bC.calls (a0.size:Int) 1 13 true _ A2.out).mono ?_);rintro e w' ⟨rfl,⟨nd,rfl⟩⟩;refine⟨_,rfl,?_⟩))
  go_loopg [4,5] k (fun kq v4 v5 w'=>∃(x4_1:Int) (x5_1:Int),v4=.int .i64 x4_1∧v5=.int .i64 x5_1∧Aside0 (br.l0 kq a0 x4_1 x5_1=some (r1,r2))∧Aside0 (kq≤k)∧Aside0 (Below w.heap.size w w'))
  case atStart=>exact⟨(0),(0),(by first|rfl|(simp;done)|(simp[*];done)),(by first|rfl|(simp;done)|(simp[*];done)),H',⟨Nat.le_refl _⟩,⟨bl⟩⟩
  case round =>
   clear H';obtain⟨x4_1,x5_1,rfl,rfl,HA,HK1,HB⟩:=hrel
   cases gk with
   | zero=>exact absurd HA.out (by simp[br.l0])
   | succ k1 =>
    have H:=HA.out;clear HA;simp only[br.l0]at H;by_cases c4:x5_1<(a0.size:Int)
    ·rw[if_pos c4]at H;have c4b0:decide (x5_1<(a0.size:Int))=true:=bW c4;clear c4;by_cases c5:0≤x5_1
     ·rw[if_pos c5]at H;have c5b0:decide (0≤x5_1)=true:=bW c5;clear c5;replace H:=df H;obtain⟨t176,A7,H⟩:=H;by_cases c8:t176=true
      ·subst c8;have H1:(br.l0 k1 a0 (wrap64 ((wrap64 (10*x4_1))+(((bt a0 x5_1)-48) % 256))) (wrap64 (x5_1+1)))=some (r1,r2):=by rw[if_pos rfl]at H;exact H
       clear H;have H:=H1;clear H1;have H':=ae H;clear H;have p6:0≤(x5_1:Int):=bN;have q6:x5_1<(a0.size:Int):=bN;have hx6:=fC a0 x5_1;replace p6:=eq_true p6;replace q6:=eq_true q6;go_wp2_with (first|((with_reducible refine ai (f:=94) rfl ?_);refine dm (some 20) Tryz.func94 #[.int .i64 (wrap64 (bt a0 x5_1)),.int .i64 48,.int .i64 57] ?_;(with_reducible refine(bC.calls (wrap64 (bt a0 x5_1)) 48 57 true _ A7.out).mono ?_);rintro e w' ⟨rfl,⟨nd,rfl⟩⟩;refine⟨_,rfl,?_⟩;have p9:0≤(x5_1:Int):=bN;have q9:x5_1<(a0.size:Int):=bN;have hx9:=fC a0 x5_1;replace p9:=eq_true p9;replace q9:=eq_true q9))
       go_roundg k1
       case measure=>have:=HK1.out;omega
       case rel=>exact⟨(wrap64 ((wrap64 (10*x4_1))+(((bt a0 x5_1)-48) % 256))),(wrap64 (x5_1+1)),(by first|rfl|(simp;done)|(simp[*];done)),(by first|rfl|(simp;done)|(simp[*];done)),H',⟨by have:=HK1.out;omega⟩,⟨bl⟩⟩
      ·replace c8:=eK c8;subst c8;have H1:(some (0,false))=some (r1,r2):=by rw[if_neg (show ¬(false=true) by decide)]at H;exact H
       clear H;have H:=H1;clear H1;simp only[Option.some.injEq,Prod.mk.injEq]at H;obtain⟨rfl,rfl⟩:=H;have p6:0≤(x5_1:Int):=bN;have q6:x5_1<(a0.size:Int):=bN;have hx6:=fC a0 x5_1;replace p6:=eq_true p6;replace q6:=eq_true q6;go_wp2_with (first|((with_reducible refine ai (f:=94) rfl ?_);refine dm (some 20) Tryz.func94 #[.int .i64 (wrap64 (bt a0 x5_1)),.int .i64 48,.int .i64 57] ?_;(with_reducible refine(bC.calls (wrap64 (bt a0 x5_1)) 48 57 false _ A7.out).mono ?_);rintro e w' ⟨rfl,⟨nd,rfl⟩⟩;refine⟨_,rfl,?_⟩))
       go_ret2
       exact cu
     ·rw[if_neg c5]at H;exact absurd H (by simp)
    ·rw[if_neg c4]at H;have c4b0:decide (x5_1<(a0.size:Int))=false:=b5 c4;clear c4;by_cases eA:x4_1>1000000000000
     ·rw[if_pos eA]at H;have c10b0:decide (1000000000000<x4_1)=true:=bW eA;clear eA;simp only[Option.some.injEq,Prod.mk.injEq]at H;obtain⟨rfl,rfl⟩:=H;go_wp2
      go_ret2
      exact cu
     ·rw[if_neg eA]at H;have c10b0:decide (1000000000000<x4_1)=false:=b5 eA;clear eA;replace H:=df H;obtain⟨t177,A11,H⟩:=H;by_cases c12:t177.toList=a0.toList
      ·rw[if_pos c12]at H;have c12b0:(t177.toList==a0.toList)=true:=dX c12;have c12b1:(t177.toList !=a0.toList)=false:=ed c12;clear c12;simp only[Option.some.injEq,Prod.mk.injEq]at H;obtain⟨rfl,rfl⟩:=H;go_wp2_with (first|(go_at_call 67;(with_reducible refine(av.calls k1 x4_1 t177 _ A11.out).mono ?_);rintro e w13 ⟨rfl,hb⟩;replace HB:=ch hb))
       go_ret2
       exact cu
      ·rw[if_neg c12]at H;have c12b0:(t177.toList==a0.toList)=false:=di c12;have c12b1:(t177.toList !=a0.toList)=true:=ee c12;simp only[Option.some.injEq,Prod.mk.injEq]at H;obtain⟨rfl,rfl⟩:=H;go_wp2_with (first|(go_at_call 67;(with_reducible refine(av.calls k1 x4_1 t177 _ A11.out).mono ?_);rintro e w14 ⟨rfl,hb⟩;replace HB:=ch hb))
       go_ret2
       exact cu
 ·replace c3:=eK c3;subst c3;have H1:(some (0,false))=some (r1,r2):=by rw[if_neg (show ¬(false=true) by decide)]at H;exact H
  clear H;have H:=H1;clear H1;simp only[Option.some.injEq,Prod.mk.injEq]at H;obtain⟨rfl,rfl⟩:=H;go_enter Tryz.func108,Tryz.ntmps108;go_wp2_with (first|((with_reducible refine ai (f:=94) rfl ?_);refine dm (some 8) Tryz.func94 #[.int .i64 (a0.size:Int),.int .i64 1,.int .i64 13] ?_;(with_reducible refine(bC.calls (a0.size:Int) 1 13 false _ A2.out).mono ?_);rintro e w' ⟨rfl,⟨nd,rfl⟩⟩;refine⟨_,rfl,?_⟩))
  go_ret2
  exact cu
def aU.f (k:Nat) (l0:List ByteArray) (a1:Int):Option (Int):=if a1≥(l0.length:Int)then(some (-1))else(if 0≤a1 then(if a1<(l0.length:Int)then((br.f k (dp ByteArray.empty l0 a1)).bind fun bt179=>(if bt179.2=true then(some bt179.1)else(some (-1))))else(none))else(none))
theorem aU.mono:∀a0 a1 k,bd (aU.f k a0 a1) (aU.f (k+1) a0 a1):=by
 intro a0 a1 k;unfold aU.f
 repeat' with_reducible first|exact br.mono _ _|exact bd.refl _|exact bd.none _|refine bd.ite ?_ ?_|refine bd.bind ?_ (fun _=>?_)
theorem aU.calls (k:Nat) (A0:Option Addr) (c0:Nat) (l0:List ByteArray) (a1:Int) (r:Int) (w:World) (hr0:Kd.C Kd.string w A0 l0.length l0) (hc0:l0.length≤c0) (h:aU.f k l0 a1=some r) :
  Calls Tryz.prog 84 #[.slice A0 l0.length c0,.int .i64 a1] w fun e w'=>e=.returned (.int .i64 r)∧Below w.heap.size w w':=by
 have HR0:=ae hr0;have HC0:=ae hc0;clear hr0 hc0;have HB:=ae (Below.refl w.heap.size w);have H:(if a1≥(l0.length:Int)then(some (-1))else(if 0≤a1 then(if a1<(l0.length:Int)then((br.f k (dp ByteArray.empty l0 a1)).bind fun bt179=>(if bt179.2=true then(some bt179.1)else(some (-1))))else(none))else(none)))=some r:=h;clear h;by_cases c3:a1≥(l0.length:Int)
 ·rw[if_pos c3]at H;have c3b0:decide ((l0.length:Int)≤a1)=true:=bW c3;clear c3;obtain rfl:=bL H;go_enter Tryz.func84,Tryz.ntmps84;go_wp2;go_ret;exact cu
 ·rw[if_neg c3]at H;have c3b0:decide ((l0.length:Int)≤a1)=false:=b5 c3;clear c3;by_cases c4:0≤a1
  ·rw[if_pos c4]at H;have c4b0:decide (0≤a1)=true:=bW c4;clear c4;by_cases c5:a1<(l0.length:Int)
   ·rw[if_pos c5]at H;have c5b0:decide (a1<(l0.length:Int))=true:=bW c5;clear c5;replace H:=gq H;obtain⟨⟨t179,t180⟩,A60,H⟩:=H;replace H:(if t180=true then(some t179)else(some (-1)))=some r:=H;have A6:=ae A60;clear A60;by_cases c7:t180=true
    ·subst c7;have H1:(some t179)=some r:=by rw[if_pos rfl]at H;exact H
     clear H;have H:=H1;clear H1;obtain rfl:=bL H;have p178:0≤(a1:Int):=bN;have q178:a1<(l0.length:Int):=bN;obtain⟨ad178,e178,hx178_0⟩:=Kd.dT HR0.out a1 p178 q178;cases e178;replace p178:=eq_true p178;replace q178:=eq_true q178;go_enter Tryz.func84,Tryz.ntmps84;go_wp2_with (first|((with_reducible refine ai (f:=108) rfl ?_);refine dm (some 16) Tryz.func108 #[.string (dp ByteArray.empty l0 a1)] ?_;(with_reducible refine(br.calls k (dp ByteArray.empty l0 a1) t179 true _ A6.out).mono ?_);rintro e w8 ⟨rfl,hb⟩;refine⟨_,rfl,?_⟩;replace HB:=ch hb));go_ret;exact cu
    ·replace c7:=eK c7;subst c7;have H1:(some (-1))=some r:=by rw[if_neg (show ¬(false=true) by decide)]at H;exact H
     clear H;have H:=H1;clear H1;obtain rfl:=bL H;have p178:0≤(a1:Int):=bN;have q178:a1<(l0.length:Int):=bN;obtain⟨ad178,e178,hx178_0⟩:=Kd.dT HR0.out a1 p178 q178;cases e178;replace p178:=eq_true p178;replace q178:=eq_true q178;go_enter Tryz.func84,Tryz.ntmps84;go_wp2_with (first|((with_reducible refine ai (f:=108) rfl ?_);refine dm (some 16) Tryz.func108 #[.string (dp ByteArray.empty l0 a1)] ?_;(with_reducible refine(br.calls k (dp ByteArray.empty l0 a1) t179 false _ A6.out).mono ?_);rintro e w9 ⟨rfl,hb⟩;refine⟨_,rfl,?_⟩;replace HB:=ch hb));go_ret;exact cu
   ·rw[if_neg c5]at H;exact absurd H (by simp)
  ·rw[if_neg c4]at H;exact absurd H (by simp)
end Go.Proofs.YtmipaoobkjppdaaGreatDoor.QFnExactParseLibrary
