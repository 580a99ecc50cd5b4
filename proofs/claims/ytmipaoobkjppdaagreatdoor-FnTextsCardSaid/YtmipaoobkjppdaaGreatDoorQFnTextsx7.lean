import Derived.Test.YtmipaoobkjppdaaGreatDoorQFnTextsx5
set_option maxHeartbeats 8000000
set_option maxRecDepth 100000
namespace Go.Proofs.YtmipaoobkjppdaaGreatDoor.QFnTexts
open Go.RowKit Go.Proofs.YtmipaoobkjppdaaGreatDoorW 
open PrintWords PrintLast PrintMore
attribute [local go_sem] dq dr dT dU cT cU dt du
set_option linter.unusedVariables false
set_option linter.unusedSimpArgs false
def cx.l0:Nat→ByteArray→Int→Option (Int)
 | 0,_,_=>none
 | k+1,x0,x3=>if x3≤10 then((ep.f x3).bind fun t174=>(if t174.toList=x0.toList then(some x3)else(cx.l0 k x0 (wrap64 (x3+1)))))else(some 0)
def cx.f (k:Nat) (a0:ByteArray):Option (Int):=cx.l0 k a0 1
theorem cx.bS:∀k,(∀y0 y1,bm (cx.l0 k y0 y1) (cx.l0 (k+1) y0 y1))
 | 0=>fun _ _ r h=>by simp[cx.l0]at h
 | k+1=>by
  have ih0:=cx.bS k
  ·intro y0 y1;unfold cx.l0
   repeat' with_reducible first|exact ih0 _ _|exact bm.refl _|exact bm.none _|refine bm.ite ?_ ?_|refine bm.bind ?_ (fun _=>?_)
theorem cx.mono:∀a0 k,bm (cx.f k a0) (cx.f (k+1) a0):=by
 intro a0 k;have ih0:=cx.bS k;unfold cx.f
 repeat' with_reducible first|exact ih0 _ _|exact bm.refl _|exact bm.none _|refine bm.ite ?_ ?_|refine bm.bind ?_ (fun _=>?_)
theorem cx.calls (k:Nat) (a0:ByteArray) (r:Int) (w:World) (h:cx.f k a0=some r) :
  Calls Tryz.prog 83 #[.string a0] w fun e w'=>e=.returned (.int .i64 r)∧Below w.heap.size w w':=by
 have HB:=aa (Below.refl w.heap.size w);have H:(cx.l0 k a0 1)=some r:=h;clear h;have H':=aa H;clear H;go_enter Tryz.func83,Tryz.ntmps83;go_wp2
 go_loopg [3] k (fun kq v3 w'=>∃(x3_1:Int),v3=.int .i64 x3_1∧Aside0 (cx.l0 kq a0 x3_1=some r)∧Aside0 (kq≤k)∧Aside0 (Below w.heap.size w w'))
 case atStart=>exact⟨(1),(by first|rfl|(simp;done)|(simp[*];done)),H',⟨Nat.le_refl _⟩,⟨(bl HB)⟩⟩
 case round =>
  clear H';obtain⟨x3_1,rfl,HA,HK1,HB⟩:=hrel
  cases gk with
  | zero=>exact absurd HA.out (by simp[cx.l0])
  | succ k1 =>
   have H:=HA.out;clear HA;simp only[cx.l0]at H;by_cases c2:x3_1≤10
   ·rw[if_pos c2]at H;have c2b0:decide (x3_1≤10)=true:=cH c2;clear c2;replace H:=dW H;obtain⟨t174,A3,H⟩:=H;by_cases c4:t174.toList=a0.toList
    ·rw[if_pos c4]at H;have c4b0:(t174.toList==a0.toList)=true:=eQ c4;have c4b1:(t174.toList !=a0.toList)=false:=fa c4;clear c4;obtain rfl:=cq H;go_wp2_with (first|((with_reducible refine ae (f:=66) rfl ?_);refine cf (some 9) Tryz.func66 #[.int .i64 x3_1] ?_;(with_reducible refine(ep.calls x3_1 t174 _ A3.out).mono ?_);rintro e w5 ⟨rfl,hb⟩;refine⟨_,rfl,?_⟩;replace HB:=cw HB hb));go_ret;exact dL
    ·rw[if_neg c4]at H;have c4b0:(t174.toList==a0.toList)=false:=ea c4;have c4b1:(t174.toList !=a0.toList)=true:=fc c4;have H':=aa H;clear H;go_wp2_with (first|((with_reducible refine ae (f:=66) rfl ?_);refine cf (some 9) Tryz.func66 #[.int .i64 x3_1] ?_;(with_reducible refine(ep.calls x3_1 t174 _ A3.out).mono ?_);rintro e w6 ⟨rfl,hb⟩;refine⟨_,rfl,?_⟩;replace HB:=cw HB hb))
     go_roundg k1
     case measure=>have:=HK1.out;omega
     case rel=>exact⟨(wrap64 (x3_1+1)),(by first|rfl|(simp;done)|(simp[*];done)),H',⟨by have:=HK1.out;omega⟩,⟨(bl HB)⟩⟩
   ·rw[if_neg c2]at H;have c2b0:decide (x3_1≤10)=false:=cW c2;clear c2;obtain rfl:=cq H;go_wp2;go_ret;exact dL
def bJ.l0:Nat→ByteArray→Int→Int→Option (Int×Bool)
 | 0,_,_,_=>none
 | k+1,x0,x4,x5=>if x5<(x0.size:Int)then(if 0≤x5 then((bX.f (wrap64 (bt x0 x5)) 48 57).bind fun t176=>(if t176=true then(bJ.l0 k x0 (wrap64 ((wrap64 (10*x4))+(((bt x0 x5)-48) % 256))) (wrap64 (x5+1)))else(some (0,false))))else(none))else(if x4>1000000000000 then(some (0,false))else((aG.f k x4).bind fun t177=>(if t177.toList=x0.toList then(some (x4,true))else(some (0,false)))))
def bJ.f (k:Nat) (a0:ByteArray):Option (Int×Bool):=(bX.f (a0.size:Int) 1 13).bind fun t175=>(if t175=true then(bJ.l0 k a0 0 0)else(some (0,false)))
theorem bJ.bS:∀k,(∀y0 y1 y2,bm (bJ.l0 k y0 y1 y2) (bJ.l0 (k+1) y0 y1 y2))
 | 0=>fun _ _ _ r h=>by simp[bJ.l0]at h
 | k+1=>by
  have ih0:=bJ.bS k
  ·intro y0 y1 y2;unfold bJ.l0
   repeat' with_reducible first|exact ih0 _ _ _|exact aG.mono _ _|exact bm.refl _|exact bm.none _|refine bm.ite ?_ ?_|refine bm.bind ?_ (fun _=>?_)
theorem bJ.mono:∀a0 k,bm (bJ.f k a0) (bJ.f (k+1) a0):=by
 intro a0 k;have ih0:=bJ.bS k;unfold bJ.f
 repeat' with_reducible first|exact ih0 _ _ _|exact aG.mono _ _|exact bm.refl _|exact bm.none _|refine bm.ite ?_ ?_|refine bm.bind ?_ (fun _=>?_)
theorem bJ.calls (k:Nat) (a0:ByteArray) (r1:Int) (r2:Bool) (w:World) (h:bJ.f k a0=some (r1,r2)) :
  Calls Tryz.prog 108 #[.string a0] w fun e w'=>e=.returned (.tuple #[.int .i64 r1,.bool r2])∧Below w.heap.size w w':=by
 have HB:=aa (Below.refl w.heap.size w);have H:((bX.f (a0.size:Int) 1 13).bind fun t175=>(if t175=true then(bJ.l0 k a0 0 0)else(some (0,false))))=some (r1,r2):=h;clear h;replace H:=dW H;obtain⟨t175,A2,H⟩:=H;by_cases c3:t175=true
 ·subst c3;have H1:(bJ.l0 k a0 0 0)=some (r1,r2):=by rw[if_pos rfl]at H;exact H
  clear H;have H:=H1;clear H1;have H':=aa H;clear H;go_enter Tryz.func108,Tryz.ntmps108;go_wp2_with (first|((with_reducible refine ae (f:=94) rfl ?_);refine cf (some 8) Tryz.func94 #[.int .i64 (a0.size:Int),.int .i64 1,.int .i64 13] ?_;(with_reducible refine(bX.calls (a0.size:Int) 1 13 true _ A2.out).mono ?_);rintro e w' ⟨rfl,⟨nd,rfl⟩⟩;refine⟨_,rfl,?_⟩))
  go_loopg [4,5] k (fun kq v4 v5 w'=>∃(x4_1:Int) (x5_1:Int),v4=.int .i64 x4_1∧v5=.int .i64 x5_1∧Aside0 (bJ.l0 kq a0 x4_1 x5_1=some (r1,r2))∧Aside0 (kq≤k)∧Aside0 (Below w.heap.size w w'))
  case atStart=>exact⟨(0),(0),(by first|rfl|(simp;done)|(simp[*];done)),(by first|rfl|(simp;done)|(simp[*];done)),H',⟨Nat.le_refl _⟩,⟨(bl HB)⟩⟩
  case round =>
   clear H';obtain⟨x4_1,x5_1,rfl,rfl,HA,HK1,HB⟩:=hrel
   cases gk with
   | zero=>exact absurd HA.out (by simp[bJ.l0])
   | succ k1 =>
    have H:=HA.out;clear HA;simp only[bJ.l0]at H;by_cases c4:x5_1<(a0.size:Int)
    ·rw[if_pos c4]at H;have c4b0:decide (x5_1<(a0.size:Int))=true:=cH c4;clear c4;by_cases c5:0≤x5_1
     ·rw[if_pos c5]at H;have c5b0:decide (0≤x5_1)=true:=cH c5;clear c5;replace H:=dW H;obtain⟨t176,A7,H⟩:=H;by_cases c8:t176=true
      ·subst c8;have H1:(bJ.l0 k1 a0 (wrap64 ((wrap64 (10*x4_1))+(((bt a0 x5_1)-48) % 256))) (wrap64 (x5_1+1)))=some (r1,r2):=by rw[if_pos rfl]at H;exact H
       clear H;have H:=H1;clear H1;have H':=aa H;clear H;have p6:0≤(x5_1:Int):=eb;have q6:x5_1<(a0.size:Int):=eb;have hx6:=gN a0 x5_1;replace p6:=eq_true p6;replace q6:=eq_true q6;go_wp2_with (first|((with_reducible refine ae (f:=94) rfl ?_);refine cf (some 20) Tryz.func94 #[.int .i64 (wrap64 (bt a0 x5_1)),.int .i64 48,.int .i64 57] ?_;(with_reducible refine(bX.calls (wrap64 (bt a0 x5_1)) 48 57 true _ A7.out).mono ?_);rintro e w' ⟨rfl,⟨nd,rfl⟩⟩;refine⟨_,rfl,?_⟩;have p9:0≤(x5_1:Int):=eb;have q9:x5_1<(a0.size:Int):=eb;have hx9:=gN a0 x5_1;replace p9:=eq_true p9;replace q9:=eq_true q9))
       go_roundg k1
       case measure=>have:=HK1.out;omega
       case rel=>exact⟨(wrap64 ((wrap64 (10*x4_1))+(((bt a0 x5_1)-48) % 256))),(wrap64 (x5_1+1)),(by first|rfl|(simp;done)|(simp[*];done)),(by first|rfl|(simp;done)|(simp[*];done)),H',⟨by have:=HK1.out;omega⟩,⟨(bl HB)⟩⟩
      ·replace c8:=fy c8;subst c8;have H1:(some (0,false))=some (r1,r2):=by rw[if_neg (show ¬(false=true) by decide)]at H;exact H
       clear H;have H:=H1;clear H1;simp only[Option.some.injEq,Prod.mk.injEq]at H;obtain⟨rfl,rfl⟩:=H;have p6:0≤(x5_1:Int):=eb;have q6:x5_1<(a0.size:Int):=eb;have hx6:=gN a0 x5_1;replace p6:=eq_true p6;replace q6:=eq_true q6;go_wp2_with (first|((with_reducible refine ae (f:=94) rfl ?_);refine cf (some 20) Tryz.func94 #[.int .i64 (wrap64 (bt a0 x5_1)),.int .i64 48,.int .i64 57] ?_;(with_reducible refine(bX.calls (wrap64 (bt a0 x5_1)) 48 57 false _ A7.out).mono ?_);rintro e w' ⟨rfl,⟨nd,rfl⟩⟩;refine⟨_,rfl,?_⟩))
       go_ret2
       exact dL
     ·rw[if_neg c5]at H;exact absurd H (by simp)
    ·rw[if_neg c4]at H;have c4b0:decide (x5_1<(a0.size:Int))=false:=cW c4;clear c4;by_cases fp:x4_1>1000000000000
     ·rw[if_pos fp]at H;have c10b0:decide (1000000000000<x4_1)=true:=cH fp;clear fp;simp only[Option.some.injEq,Prod.mk.injEq]at H;obtain⟨rfl,rfl⟩:=H;go_wp2
      go_ret2
      exact dL
     ·rw[if_neg fp]at H;have c10b0:decide (1000000000000<x4_1)=false:=cW fp;clear fp;replace H:=dW H;obtain⟨t177,A11,H⟩:=H;by_cases c12:t177.toList=a0.toList
      ·rw[if_pos c12]at H;have c12b0:(t177.toList==a0.toList)=true:=eQ c12;have c12b1:(t177.toList !=a0.toList)=false:=fa c12;clear c12;simp only[Option.some.injEq,Prod.mk.injEq]at H;obtain⟨rfl,rfl⟩:=H;go_wp2_with (first|(go_at_call 67;(with_reducible refine(aG.calls k1 x4_1 t177 _ A11.out).mono ?_);rintro e w13 ⟨rfl,hb⟩;replace HB:=cw HB hb))
       go_ret2
       exact dL
      ·rw[if_neg c12]at H;have c12b0:(t177.toList==a0.toList)=false:=ea c12;have c12b1:(t177.toList !=a0.toList)=true:=fc c12;simp only[Option.some.injEq,Prod.mk.injEq]at H;obtain⟨rfl,rfl⟩:=H;go_wp2_with (first|(go_at_call 67;(with_reducible refine(aG.calls k1 x4_1 t177 _ A11.out).mono ?_);rintro e w14 ⟨rfl,hb⟩;replace HB:=cw HB hb))
       go_ret2
       exact dL
 ·replace c3:=fy c3;subst c3;have H1:(some (0,false))=some (r1,r2):=by rw[if_neg (show ¬(false=true) by decide)]at H;exact H
  clear H;have H:=H1;clear H1;simp only[Option.some.injEq,Prod.mk.injEq]at H;obtain⟨rfl,rfl⟩:=H;go_enter Tryz.func108,Tryz.ntmps108;go_wp2_with (first|((with_reducible refine ae (f:=94) rfl ?_);refine cf (some 8) Tryz.func94 #[.int .i64 (a0.size:Int),.int .i64 1,.int .i64 13] ?_;(with_reducible refine(bX.calls (a0.size:Int) 1 13 false _ A2.out).mono ?_);rintro e w' ⟨rfl,⟨nd,rfl⟩⟩;refine⟨_,rfl,?_⟩))
  go_ret2
  exact dL
def bf.f (k:Nat) (l0:List ByteArray) (a1:Int):Option (Int):=if a1≥(l0.length:Int)then(some (-1))else(if 0≤a1 then(if a1<(l0.length:Int)then((bJ.f k (dM ByteArray.empty l0 a1)).bind fun bt179=>(if bt179.2=true then(some bt179.1)else(some (-1))))else(none))else(none))
theorem bf.mono:∀a0 a1 k,bm (bf.f k a0 a1) (bf.f (k+1) a0 a1):=by
 intro a0 a1 k;unfold bf.f
 repeat' with_reducible first|exact bJ.mono _ _|exact bm.refl _|exact bm.none _|refine bm.ite ?_ ?_|refine bm.bind ?_ (fun _=>?_)
theorem bf.calls (k:Nat) (A0:Option Addr) (c0:Nat) (l0:List ByteArray) (a1:Int) (r:Int) (w:World) (hr0:Kd.C Kd.string w A0 l0.length l0) (hc0:l0.length≤c0) (h:bf.f k l0 a1=some r) :
  Calls Tryz.prog 84 #[.slice A0 l0.length c0,.int .i64 a1] w fun e w'=>e=.returned (.int .i64 r)∧Below w.heap.size w w':=by
 have HR0:=aa hr0;have HC0:=aa hc0;clear hr0 hc0;have HB:=aa (Below.refl w.heap.size w);have H:(if a1≥(l0.length:Int)then(some (-1))else(if 0≤a1 then(if a1<(l0.length:Int)then((bJ.f k (dM ByteArray.empty l0 a1)).bind fun bt179=>(if bt179.2=true then(some bt179.1)else(some (-1))))else(none))else(none)))=some r:=h;clear h;by_cases c3:a1≥(l0.length:Int)
 ·rw[if_pos c3]at H;have c3b0:decide ((l0.length:Int)≤a1)=true:=cH c3;clear c3;obtain rfl:=cq H;go_enter Tryz.func84,Tryz.ntmps84;go_wp2;go_ret;exact dL
 ·rw[if_neg c3]at H;have c3b0:decide ((l0.length:Int)≤a1)=false:=cW c3;clear c3;by_cases c4:0≤a1
  ·rw[if_pos c4]at H;have c4b0:decide (0≤a1)=true:=cH c4;clear c4;by_cases c5:a1<(l0.length:Int)
   ·rw[if_pos c5]at H;have c5b0:decide (a1<(l0.length:Int))=true:=cH c5;clear c5;replace H:=eD H;obtain⟨⟨t179,t180⟩,A60,H⟩:=H;replace H:(if t180=true then(some t179)else(some (-1)))=some r:=H;have A6:=aa A60;clear A60;by_cases c7:t180=true
    ·subst c7;have H1:(some t179)=some r:=by rw[if_pos rfl]at H;exact H
     clear H;have H:=H1;clear H1;obtain rfl:=cq H;have p178:0≤(a1:Int):=eb;have q178:a1<(l0.length:Int):=eb;obtain⟨ad178,e178,hx178_0⟩:=Kd.et HR0.out a1 p178 q178;cases e178;replace p178:=eq_true p178;replace q178:=eq_true q178;go_enter Tryz.func84,Tryz.ntmps84;go_wp2_with (first|((with_reducible refine ae (f:=108) rfl ?_);refine cf (some 16) Tryz.func108 #[.string (dM ByteArray.empty l0 a1)] ?_;(with_reducible refine(bJ.calls k (dM ByteArray.empty l0 a1) t179 true _ A6.out).mono ?_);rintro e w8 ⟨rfl,hb⟩;refine⟨_,rfl,?_⟩;replace HB:=cw HB hb));go_ret;exact dL
    ·replace c7:=fy c7;subst c7;have H1:(some (-1))=some r:=by rw[if_neg (show ¬(false=true) by decide)]at H;exact H
     clear H;have H:=H1;clear H1;obtain rfl:=cq H;have p178:0≤(a1:Int):=eb;have q178:a1<(l0.length:Int):=eb;obtain⟨ad178,e178,hx178_0⟩:=Kd.et HR0.out a1 p178 q178;cases e178;replace p178:=eq_true p178;replace q178:=eq_true q178;go_enter Tryz.func84,Tryz.ntmps84;go_wp2_with (first|((with_reducible refine ae (f:=108) rfl ?_);refine cf (some 16) Tryz.func108 #[.string (dM ByteArray.empty l0 a1)] ?_;(with_reducible refine(bJ.calls k (dM ByteArray.empty l0 a1) t179 false _ A6.out).mono ?_);rintro e w9 ⟨rfl,hb⟩;refine⟨_,rfl,?_⟩;replace HB:=cw HB hb));go_ret;exact dL
   ·rw[if_neg c5]at H;exact absurd H (by simp)
  ·rw[if_neg c4]at H;exact absurd H (by simp)
end Go.Proofs.YtmipaoobkjppdaaGreatDoor.QFnTexts
