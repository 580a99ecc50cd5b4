import Derived.Test.YtmipaoobkjppdaaGreatDoorQFnTextsx3
set_option maxHeartbeats 8000000
set_option maxRecDepth 100000
namespace Go.Proofs.YtmipaoobkjppdaaGreatDoor.QFnTexts
open Go.RowKit Go.Proofs.YtmipaoobkjppdaaGreatDoorW 
open PrintWords PrintLast PrintMore
attribute [local go_sem] dq dr dT dU cT cU dt du
set_option linter.unusedVariables false
set_option linter.unusedSimpArgs false
def bs.l0:Nat→Int→ByteArray→List (fk)→Option (Bool)
 | 0,_,_,_=>none
 | k+1,x3,x131000,x131001=>if x3<(x131001.length:Int)then(if 0≤x3 then((a8.f k ((bE x131001 x3).f0) ((bE x131001 x3).f1) ((bE x131001 x3).f2) ((bE x131001 x3).f3) ((bE x131001 x3).f4) ((bE x131001 x3).f5)).bind fun t132=>(if t132=true then(bs.l0 k (wrap64 (x3+1)) x131000 x131001)else(some false)))else(none))else((bj.f k x131000).bind fun t133=>(if t133=true then(some (decide ((x131001.length:Int)≤12)))else(some false)))
def bs.f (k:Nat) (a0_0:ByteArray) (l0_1:List (fk)):Option (Bool):=bs.l0 k 0 a0_0 l0_1
theorem bs.bS:∀k,(∀y0 y1 y2,bm (bs.l0 k y0 y1 y2) (bs.l0 (k+1) y0 y1 y2))
 | 0=>fun _ _ _ r h=>by simp[bs.l0]at h
 | k+1=>by
  have ih0:=bs.bS k
  ·intro y0 y1 y2;unfold bs.l0
   repeat' with_reducible first|exact ih0 _ _ _|exact a8.mono _ _ _ _ _ _ _|exact bj.mono _ _|exact bm.refl _|exact bm.none _|refine bm.ite ?_ ?_|refine bm.bind ?_ (fun _=>?_)
theorem bs.mono:∀a0 a1 k,bm (bs.f k a0 a1) (bs.f (k+1) a0 a1):=by
 intro a0 a1 k;have ih0:=bs.bS k;unfold bs.f
 repeat' with_reducible first|exact ih0 _ _ _|exact a8.mono _ _ _ _ _ _ _|exact bj.mono _ _|exact bm.refl _|exact bm.none _|refine bm.ite ?_ ?_|refine bm.bind ?_ (fun _=>?_)
theorem bs.calls (k:Nat) (a0_0:ByteArray) (A0_1:Option Addr) (c0_1:Nat) (l0_1:List (fk)) (r:Bool) (w:World) (hr0_1:Kd.C jY w A0_1 l0_1.length l0_1) (hc0_1:l0_1.length≤c0_1) (h:bs.f k a0_0 l0_1=some r) :
  Calls Tryz.prog 63 #[.agg #[.string a0_0,.slice A0_1 l0_1.length c0_1]] w fun e w'=>e=.returned (.bool r)∧Below w.heap.size w w':=by
 have hu52:=Tryz.underlying52;have hu35:=Tryz.underlying35;have HR0_1:=aa hr0_1;have HC0_1:=aa hc0_1;clear hr0_1 hc0_1;have HB:=aa (Below.refl w.heap.size w);have H:(bs.l0 k 0 a0_0 l0_1)=some r:=h;clear h;have H':=aa H;clear H;go_enter Tryz.func63,Tryz.ntmps63;go_wp2_with (first|((with_reducible refine aq (N:=1) rfl ?_);(try(refine dz (by rfl) ?_;dsimp only));refine dI ?hg (N:=1) ?hd (cs:=#[.string a0_0,.slice A0_1 l0_1.length c0_1]) (t:=52) ?hr ?_;(case hd=>rfl);(case hg=>rfl);(case hr=>first|(go_simp;done)|(go_simp;rfl));intro gb130 hg w2 hbox hb;have BK130:=aa (hbox);have GW130:=fx HB hg;have GE130:=fx HB hg;replace HB:=cw HB hb;clear hb hbox hg))
 go_loopg [3] k (fun kq v3 w'=>∃(x3_1:Int),v3=.int .i64 x3_1∧Aside0 (bs.l0 kq x3_1 a0_0 l0_1=some r)∧Aside0 (kq≤k)∧Aside0 (w'.heap[gb130]? =some (.cells #[.string a0_0,(.slice A0_1 l0_1.length c0_1)] 52 (0,0)))∧Aside0 (Below w.heap.size w w'))
 case atStart=>exact⟨(0),(by first|rfl|(simp;done)|(simp[*];done)),H',⟨Nat.le_refl _⟩,⟨bk BK130⟩,⟨(bl HB)⟩⟩
 case round =>
  clear H';obtain⟨x3_1,rfl,HA,HK1,BK130,HB⟩:=hrel
  cases gk with
  | zero=>exact absurd HA.out (by simp[bs.l0])
  | succ k1 =>
   have H:=HA.out;clear HA;simp only[bs.l0]at H;by_cases c3:x3_1<(l0_1.length:Int)
   ·rw[if_pos c3]at H;have c3b0:decide (x3_1<(l0_1.length:Int))=true:=cH c3;clear c3;by_cases c4:0≤x3_1
    ·rw[if_pos c4]at H;have c4b0:decide (0≤x3_1)=true:=cH c4;clear c4;replace H:=dW H;obtain⟨t132,A5,H⟩:=H;by_cases c6:t132=true
     ·subst c6;have H1:(bs.l0 k1 (wrap64 (x3_1+1)) a0_0 l0_1)=some r:=by rw[if_pos rfl]at H;exact H
      clear H;have H:=H1;clear H1;have H':=aa H;clear H;obtain⟨z7_0,z7_1,y7_0,y7_1⟩:=fR BK130.out;have p131:0≤(x3_1:Int):=eb;have q131:x3_1<(l0_1.length:Int):=eb;obtain⟨ad131,e131,hx131_0,hx131_1,hx131_2,hx131_3,hx131_4,hx131_5⟩:=mg HR0_1.out x3_1 p131 q131;cases e131;replace hx131_0:=fo HB hx131_0;replace hx131_1:=fo HB hx131_1;replace hx131_2:=fo HB hx131_2;replace hx131_3:=fo HB hx131_3;replace hx131_4:=fo HB hx131_4;replace hx131_5:=fo HB hx131_5;replace p131:=eq_true p131;replace q131:=eq_true q131;go_wp2_with (first|((with_reducible refine ae (f:=65) rfl ?_);refine cf (some 16) Tryz.func65 #[.agg #[.int .i64 ((bE l0_1 x3_1).f0),.int .i64 ((bE l0_1 x3_1).f1),.int .i64 ((bE l0_1 x3_1).f2),.int .i64 ((bE l0_1 x3_1).f3),.int .i64 ((bE l0_1 x3_1).f4),.string ((bE l0_1 x3_1).f5)]] ?_;(with_reducible refine(a8.calls k1 ((bE l0_1 x3_1).f0) ((bE l0_1 x3_1).f1) ((bE l0_1 x3_1).f2) ((bE l0_1 x3_1).f3) ((bE l0_1 x3_1).f4) ((bE l0_1 x3_1).f5) true _ A5.out).mono ?_);rintro e w8 ⟨rfl,hb⟩;refine⟨_,rfl,?_⟩;replace BK130:=er BK130 hb;replace HB:=cw HB hb))
      go_roundg k1
      case measure=>have:=HK1.out;omega
      case rel=>exact⟨(wrap64 (x3_1+1)),(by first|rfl|(simp;done)|(simp[*];done)),H',⟨by have:=HK1.out;omega⟩,⟨bk BK130⟩,⟨(bl HB)⟩⟩
     ·replace c6:=fy c6;subst c6;have H1:(some false)=some r:=by rw[if_neg (show ¬(false=true) by decide)]at H;exact H
      clear H;have H:=H1;clear H1;obtain rfl:=cq H;obtain⟨z9_0,z9_1,y9_0,y9_1⟩:=fR BK130.out;have p131:0≤(x3_1:Int):=eb;have q131:x3_1<(l0_1.length:Int):=eb;obtain⟨ad131,e131,hx131_0,hx131_1,hx131_2,hx131_3,hx131_4,hx131_5⟩:=mg HR0_1.out x3_1 p131 q131;cases e131;replace hx131_0:=fo HB hx131_0;replace hx131_1:=fo HB hx131_1;replace hx131_2:=fo HB hx131_2;replace hx131_3:=fo HB hx131_3;replace hx131_4:=fo HB hx131_4;replace hx131_5:=fo HB hx131_5;replace p131:=eq_true p131;replace q131:=eq_true q131;go_wp2_with (first|((with_reducible refine ae (f:=65) rfl ?_);refine cf (some 16) Tryz.func65 #[.agg #[.int .i64 ((bE l0_1 x3_1).f0),.int .i64 ((bE l0_1 x3_1).f1),.int .i64 ((bE l0_1 x3_1).f2),.int .i64 ((bE l0_1 x3_1).f3),.int .i64 ((bE l0_1 x3_1).f4),.string ((bE l0_1 x3_1).f5)]] ?_;(with_reducible refine(a8.calls k1 ((bE l0_1 x3_1).f0) ((bE l0_1 x3_1).f1) ((bE l0_1 x3_1).f2) ((bE l0_1 x3_1).f3) ((bE l0_1 x3_1).f4) ((bE l0_1 x3_1).f5) false _ A5.out).mono ?_);rintro e w10 ⟨rfl,hb⟩;refine⟨_,rfl,?_⟩;replace BK130:=er BK130 hb;replace HB:=cw HB hb));go_ret;exact dL
    ·rw[if_neg c4]at H;exact absurd H (by simp)
   ·rw[if_neg c3]at H;have c3b0:decide (x3_1<(l0_1.length:Int))=false:=cW c3;clear c3;replace H:=dW H;obtain⟨t133,A11,H⟩:=H;by_cases c12:t133=true
    ·subst c12;have H1:(some (decide ((l0_1.length:Int)≤12)))=some r:=by rw[if_pos rfl]at H;exact H
     clear H;have H:=H1;clear H1;obtain rfl:=cq H;obtain⟨z13_0,z13_1,y13_0,y13_1⟩:=fR BK130.out;go_wp2_with (first|((with_reducible refine ae (f:=64) rfl ?_);refine cf (some 20) Tryz.func64 #[.string a0_0] ?_;(with_reducible refine(bj.calls k1 a0_0 true _ A11.out).mono ?_);rintro e w' ⟨rfl,⟨nd,rfl⟩⟩;refine⟨_,rfl,?_⟩));go_ret;exact dL
    ·replace c12:=fy c12;subst c12;have H1:(some false)=some r:=by rw[if_neg (show ¬(false=true) by decide)]at H;exact H
     clear H;have H:=H1;clear H1;obtain rfl:=cq H;obtain⟨z14_0,z14_1,y14_0,y14_1⟩:=fR BK130.out;go_wp2_with (first|((with_reducible refine ae (f:=64) rfl ?_);refine cf (some 20) Tryz.func64 #[.string a0_0] ?_;(with_reducible refine(bj.calls k1 a0_0 false _ A11.out).mono ?_);rintro e w' ⟨rfl,⟨nd,rfl⟩⟩;refine⟨_,rfl,?_⟩));go_ret;exact dL
mutual
def aY.l0:Nat→Int→ByteArray→List (cR)→Option (Bool)
 | 0,_,_,_=>none
 | k+1,x3,x135000,x135001=>if x3<(x135001.length:Int)then(if 0≤x3 then((bs.f k ((a7 x135001 x3).f0) ((a7 x135001 x3).f1)).bind fun t137=>(if t137=true then(aY.l1 k x3 0 x135000 x135001)else(some false)))else(none))else((bj.f k x135000).bind fun t135=>(if t135=true then(some (decide ((x135001.length:Int)≤4)))else(some false)))
def aY.l1:Nat→Int→Int→ByteArray→List (cR)→Option (Bool)
 | 0,_,_,_,_=>none
 | k+1,x3,x4,x135000,x135001=>if x4<x3 then(if 0≤x4 then(if x4<(x135001.length:Int)then(if 0≤x3 then(if x3<(x135001.length:Int)then(if ((a7 x135001 x4).f0).toList=((a7 x135001 x3).f0).toList then(some false)else(aY.l1 k x3 (wrap64 (x4+1)) x135000 x135001))else(none))else(none))else(none))else(none))else(aY.l0 k (wrap64 (x3+1)) x135000 x135001)
end
def aY.f (k:Nat) (a0_0:ByteArray) (l0_1:List (cR)):Option (Bool):=aY.l0 k 0 a0_0 l0_1
theorem aY.bS:∀k,(∀y0 y1 y2,bm (aY.l0 k y0 y1 y2) (aY.l0 (k+1) y0 y1 y2))∧(∀y0 y1 y2 y3,bm (aY.l1 k y0 y1 y2 y3) (aY.l1 (k+1) y0 y1 y2 y3))
 | 0=>⟨fun _ _ _ r h=>by simp[aY.l0]at h,fun _ _ _ _ r h=>by simp[aY.l1]at h⟩
 | k+1=>by
  obtain⟨ih0,ih1⟩:=aY.bS k;refine⟨?_,?_⟩
  ·intro y0 y1 y2;unfold aY.l0
   repeat' with_reducible first|exact ih0 _ _ _|exact ih1 _ _ _ _|exact bs.mono _ _ _|exact bj.mono _ _|exact bm.refl _|exact bm.none _|refine bm.ite ?_ ?_|refine bm.bind ?_ (fun _=>?_)
  ·intro y0 y1 y2 y3;unfold aY.l1
   repeat' with_reducible first|exact ih0 _ _ _|exact ih1 _ _ _ _|exact bs.mono _ _ _|exact bj.mono _ _|exact bm.refl _|exact bm.none _|refine bm.ite ?_ ?_|refine bm.bind ?_ (fun _=>?_)
theorem aY.mono:∀a0 a1 k,bm (aY.f k a0 a1) (aY.f (k+1) a0 a1):=by
 intro a0 a1 k;obtain⟨ih0,ih1⟩:=aY.bS k;unfold aY.f
 repeat' with_reducible first|exact ih0 _ _ _|exact ih1 _ _ _ _|exact bs.mono _ _ _|exact bj.mono _ _|exact bm.refl _|exact bm.none _|refine bm.ite ?_ ?_|refine bm.bind ?_ (fun _=>?_)
theorem aY.calls (k:Nat) (a0_0:ByteArray) (A0_1:Option Addr) (c0_1:Nat) (l0_1:List (cR)) (r:Bool) (w:World) (hr0_1:Kd.C hJ w A0_1 l0_1.length l0_1) (hc0_1:l0_1.length≤c0_1) (h:aY.f k a0_0 l0_1=some r) :
  Calls Tryz.prog 39 #[.agg #[.string a0_0,.slice A0_1 l0_1.length c0_1]] w fun e w'=>e=.returned (.bool r)∧Below w.heap.size w w':=by
 have hu48:=Tryz.underlying48;have hu52:=Tryz.underlying52;have HR0_1:=aa hr0_1;have HC0_1:=aa hc0_1;clear hr0_1 hc0_1;have HB:=aa (Below.refl w.heap.size w);have H:(aY.l0 k 0 a0_0 l0_1)=some r:=h;clear h;have H':=aa H;clear H;go_enter Tryz.func39,Tryz.ntmps39;go_wp2_with (first|((with_reducible refine aq (N:=1) rfl ?_);(try(refine dz (by rfl) ?_;dsimp only));refine dI ?hg (N:=1) ?hd (cs:=#[.string a0_0,.slice A0_1 l0_1.length c0_1]) (t:=48) ?hr ?_;(case hd=>rfl);(case hg=>rfl);(case hr=>first|(go_simp;done)|(go_simp;rfl));intro gb134 hg w2 hbox hb;have BK134:=aa (hbox);have GW134:=fx HB hg;have GE134:=fx HB hg;replace HB:=cw HB hb;clear hb hbox hg))
 repeat(go_quiet (first|((with_reducible refine aq (N:=1) rfl ?_);(try(refine dz (by rfl) ?_;dsimp only));refine dI ?hg (N:=1) ?hd (cs:=#[.string a0_0,.slice A0_1 l0_1.length c0_1]) (t:=48) ?hr ?_;(case hd=>rfl);(case hg=>rfl);(case hr=>first|(go_simp;done)|(go_simp;rfl));intro gb134 hg w2 hbox hb;have BK134:=aa (hbox);have GW134:=fx HB hg;have GE134:=fx HB hg;replace HB:=cw HB hb;clear hb hbox hg));try go_wp2_with (first|((with_reducible refine aq (N:=1) rfl ?_);(try(refine dz (by rfl) ?_;dsimp only));refine dI ?hg (N:=1) ?hd (cs:=#[.string a0_0,.slice A0_1 l0_1.length c0_1]) (t:=48) ?hr ?_;(case hd=>rfl);(case hg=>rfl);(case hr=>first|(go_simp;done)|(go_simp;rfl));intro gb134 hg w2 hbox hb;have BK134:=aa (hbox);have GW134:=fx HB hg;have GE134:=fx HB hg;replace HB:=cw HB hb;clear hb hbox hg)))
 go_loopg [3] k (fun kq v3 w'=>∃(x3_1:Int),v3=.int .i64 x3_1∧Aside0 (aY.l0 kq x3_1 a0_0 l0_1=some r)∧Aside0 (kq≤k)∧Aside0 (w'.heap[gb134]? =some (.cells #[.string a0_0,(.slice A0_1 l0_1.length c0_1)] 48 (0,0)))∧Aside0 (Below w.heap.size w w'))
 case atStart=>exact⟨(0),(by first|rfl|(simp;done)|(simp[*];done)),H',⟨Nat.le_refl _⟩,⟨bk BK134⟩,⟨(bl HB)⟩⟩
 case round =>
  clear H';obtain⟨x3_1,rfl,HA,HK1,BK134,HB⟩:=hrel
  cases gk with
  | zero=>exact absurd HA.out (by simp[aY.l0])
  | succ k1 =>
   have H:=HA.out;clear HA;simp only[aY.l0]at H;by_cases c3:x3_1<(l0_1.length:Int)
   ·rw[if_pos c3]at H;have c3b0:decide (x3_1<(l0_1.length:Int))=true:=cH c3;clear c3;by_cases c4:0≤x3_1
    ·rw[if_pos c4]at H;have c4b0:decide (0≤x3_1)=true:=cH c4;clear c4;replace H:=dW H;obtain⟨t137,A5,H⟩:=H;by_cases c6:t137=true
     ·subst c6;have H1:(aY.l1 k1 x3_1 0 a0_0 l0_1)=some r:=by rw[if_pos rfl]at H;exact H
      clear H;have H:=H1;clear H1;have H':=aa H;clear H;obtain⟨z7_0,z7_1,y7_0,y7_1⟩:=fR BK134.out;have p136:0≤(x3_1:Int):=eb;have q136:x3_1<(l0_1.length:Int):=eb;obtain⟨ad136,A136_1,c136_1,e136,hx136_0,hx136_1,hl136_1,hi136_1⟩:=gA HR0_1.out x3_1 p136 q136;cases e136;replace hx136_0:=fo HB hx136_0;replace hx136_1:=fo HB hx136_1;have HR136_1:=aa hi136_1;have HC136_1:=aa hl136_1;clear hi136_1 hl136_1;replace p136:=eq_true p136;replace q136:=eq_true q136;go_wp2_with (first|(go_at_call 63;(with_reducible refine(bs.calls k1 ((a7 l0_1 x3_1).f0) _ _ ((a7 l0_1 x3_1).f1) true _ ?side1 ?side2 A5.out).mono ?_);(case side1=>exact fw (Kd.cA HR136_1.out HB.out));(case side2=>exact HC136_1.out);rintro e w8 ⟨rfl,hb⟩;replace BK134:=er BK134 hb;replace HB:=cw HB hb))
      repeat(go_quiet (first|(go_at_call 63;(with_reducible refine(bs.calls k1 ((a7 l0_1 x3_1).f0) _ _ ((a7 l0_1 x3_1).f1) true _ ?side1 ?side2 A5.out).mono ?_);(case side1=>exact fw (Kd.cA HR136_1.out HB.out));(case side2=>exact HC136_1.out);rintro e w8 ⟨rfl,hb⟩;replace BK134:=er BK134 hb;replace HB:=cw HB hb));try go_wp2_with (first|(go_at_call 63;(with_reducible refine(bs.calls k1 ((a7 l0_1 x3_1).f0) _ _ ((a7 l0_1 x3_1).f1) true _ ?side1 ?side2 A5.out).mono ?_);(case side1=>exact fw (Kd.cA HR136_1.out HB.out));(case side2=>exact HC136_1.out);rintro e w8 ⟨rfl,hb⟩;replace BK134:=er BK134 hb;replace HB:=cw HB hb)))
      go_loopg [4] k1 (fun kq v4 w'=>∃(x4_2:Int),v4=.int .i64 x4_2∧Aside0 (aY.l1 kq x3_1 x4_2 a0_0 l0_1=some r)∧Aside0 (kq≤k1)∧Aside0 (w'.heap[gb134]? =some (.cells #[.string a0_0,(.slice (some ad136) l0_1.length c0_1)] 48 (0,0)))∧Aside0 (Below w.heap.size w w'))
      case atStart=>exact⟨(0),(by first|rfl|(simp;done)|(simp[*];done)),H',⟨Nat.le_refl _⟩,⟨bk BK134⟩,⟨(bl HB)⟩⟩
      case round =>
       clear H';obtain⟨x4_2,rfl,HA,HK2,BK134,HB⟩:=hrel
       cases gk with
       | zero=>exact absurd HA.out (by simp[aY.l1])
       | succ k2 =>
        have H:=HA.out;clear HA;simp only[aY.l1]at H;by_cases c9:x4_2<x3_1
        ·rw[if_pos c9]at H;have c9b0:decide (x4_2<x3_1)=true:=cH c9;clear c9;by_cases fp:0≤x4_2
         ·rw[if_pos fp]at H;have c10b0:decide (0≤x4_2)=true:=cH fp;clear fp;by_cases c11:x4_2<(l0_1.length:Int)
          ·rw[if_pos c11]at H;have c11b0:decide (x4_2<(l0_1.length:Int))=true:=cH c11;clear c11;by_cases c12:0≤x3_1
           ·rw[if_pos c12]at H;have c12b0:decide (0≤x3_1)=true:=cH c12;clear c12;by_cases c13:x3_1<(l0_1.length:Int)
            ·rw[if_pos c13]at H;have c13b0:decide (x3_1<(l0_1.length:Int))=true:=cH c13;clear c13;by_cases c14:((a7 l0_1 x4_2).f0).toList=((a7 l0_1 x3_1).f0).toList
             ·rw[if_pos c14]at H;have c14b0:(((a7 l0_1 x4_2).f0).toList==((a7 l0_1 x3_1).f0).toList)=true:=eQ c14;have c14b1:(((a7 l0_1 x4_2).f0).toList !=((a7 l0_1 x3_1).f0).toList)=false:=fa c14;clear c14;obtain rfl:=cq H;obtain⟨z15_0,z15_1,y15_0,y15_1⟩:=fR BK134.out;have p138:0≤(x4_2:Int):=eb;have q138:x4_2<(l0_1.length:Int):=eb;obtain⟨ad138,A138_1,c138_1,e138,hx138_0,hx138_1,hl138_1,hi138_1⟩:=gA HR0_1.out x4_2 p138 q138;obtain rfl:ad136=ad138:=(by injection e138);replace hx138_0:=fo HB hx138_0;replace hx138_1:=fo HB hx138_1;have HR138_1:=aa hi138_1;have HC138_1:=aa hl138_1;clear hi138_1 hl138_1;replace p138:=eq_true p138;replace q138:=eq_true q138;have p139:0≤(x3_1:Int):=eb;have q139:x3_1<(l0_1.length:Int):=eb;obtain⟨ad139,A139_1,c139_1,e139,hx139_0,hx139_1,hl139_1,hi139_1⟩:=gA HR0_1.out x3_1 p139 q139;obtain rfl:ad136=ad139:=(by injection e139);replace hx139_0:=fo HB hx139_0;replace hx139_1:=fo HB hx139_1;have HR139_1:=aa hi139_1;have HC139_1:=aa hl139_1;clear hi139_1 hl139_1;replace p139:=eq_true p139;replace q139:=eq_true q139;go_wp2
              repeat(go_quiet (fail);try go_wp2)
              go_ret;exact dL
             ·rw[if_neg c14]at H;have c14b0:(((a7 l0_1 x4_2).f0).toList==((a7 l0_1 x3_1).f0).toList)=false:=ea c14;have c14b1:(((a7 l0_1 x4_2).f0).toList !=((a7 l0_1 x3_1).f0).toList)=true:=fc c14;have H':=aa H;clear H;obtain⟨z16_0,z16_1,y16_0,y16_1⟩:=fR BK134.out;have p138:0≤(x4_2:Int):=eb;have q138:x4_2<(l0_1.length:Int):=eb;obtain⟨ad138,A138_1,c138_1,e138,hx138_0,hx138_1,hl138_1,hi138_1⟩:=gA HR0_1.out x4_2 p138 q138;obtain rfl:ad136=ad138:=(by injection e138);replace hx138_0:=fo HB hx138_0;replace hx138_1:=fo HB hx138_1;have HR138_1:=aa hi138_1;have HC138_1:=aa hl138_1;clear hi138_1 hl138_1;replace p138:=eq_true p138;replace q138:=eq_true q138;have p139:0≤(x3_1:Int):=eb;have q139:x3_1<(l0_1.length:Int):=eb;obtain⟨ad139,A139_1,c139_1,e139,hx139_0,hx139_1,hl139_1,hi139_1⟩:=gA HR0_1.out x3_1 p139 q139;obtain rfl:ad136=ad139:=(by injection e139);replace hx139_0:=fo HB hx139_0;replace hx139_1:=fo HB hx139_1;have HR139_1:=aa hi139_1;have HC139_1:=aa hl139_1;clear hi139_1 hl139_1;replace p139:=eq_true p139;replace q139:=eq_true q139;go_wp2
              repeat(go_quiet (fail);try go_wp2)
              go_roundg k2
              case measure=>have:=HK1.out;have:=HK2.out;omega
              case rel=>exact⟨(wrap64 (x4_2+1)),(by first|rfl|(simp;done)|(simp[*];done)),H',⟨by have:=HK1.out;have:=HK2.out;omega⟩,⟨bk BK134⟩,⟨(bl HB)⟩⟩
            ·rw[if_neg c13]at H;exact absurd H (by simp)
           ·rw[if_neg c12]at H;exact absurd H (by simp)
          ·rw[if_neg c11]at H;exact absurd H (by simp)
         ·rw[if_neg fp]at H;exact absurd H (by simp)
        ·rw[if_neg c9]at H;have c9b0:decide (x4_2<x3_1)=false:=cW c9;clear c9;have H':=aa H;clear H;go_wp2
         repeat(go_quiet (fail);try go_wp2)
         go_roundg k2
         case measure=>have:=HK1.out;have:=HK2.out;omega
         case rel=>exact⟨(wrap64 (x3_1+1)),(by first|rfl|(simp;done)|(simp[*];done)),H',⟨by have:=HK1.out;have:=HK2.out;omega⟩,⟨bk BK134⟩,⟨(bl HB)⟩⟩
     ·replace c6:=fy c6;subst c6;have H1:(some false)=some r:=by rw[if_neg (show ¬(false=true) by decide)]at H;exact H
      clear H;have H:=H1;clear H1;obtain rfl:=cq H;obtain⟨z17_0,z17_1,y17_0,y17_1⟩:=fR BK134.out;have p136:0≤(x3_1:Int):=eb;have q136:x3_1<(l0_1.length:Int):=eb;obtain⟨ad136,A136_1,c136_1,e136,hx136_0,hx136_1,hl136_1,hi136_1⟩:=gA HR0_1.out x3_1 p136 q136;cases e136;replace hx136_0:=fo HB hx136_0;replace hx136_1:=fo HB hx136_1;have HR136_1:=aa hi136_1;have HC136_1:=aa hl136_1;clear hi136_1 hl136_1;replace p136:=eq_true p136;replace q136:=eq_true q136;go_wp2_with (first|(go_at_call 63;(with_reducible refine(bs.calls k1 ((a7 l0_1 x3_1).f0) _ _ ((a7 l0_1 x3_1).f1) false _ ?side1 ?side2 A5.out).mono ?_);(case side1=>exact fw (Kd.cA HR136_1.out HB.out));(case side2=>exact HC136_1.out);rintro e w18 ⟨rfl,hb⟩;replace BK134:=er BK134 hb;replace HB:=cw HB hb))
      repeat(go_quiet (first|(go_at_call 63;(with_reducible refine(bs.calls k1 ((a7 l0_1 x3_1).f0) _ _ ((a7 l0_1 x3_1).f1) false _ ?side1 ?side2 A5.out).mono ?_);(case side1=>exact fw (Kd.cA HR136_1.out HB.out));(case side2=>exact HC136_1.out);rintro e w18 ⟨rfl,hb⟩;replace BK134:=er BK134 hb;replace HB:=cw HB hb));try go_wp2_with (first|(go_at_call 63;(with_reducible refine(bs.calls k1 ((a7 l0_1 x3_1).f0) _ _ ((a7 l0_1 x3_1).f1) false _ ?side1 ?side2 A5.out).mono ?_);(case side1=>exact fw (Kd.cA HR136_1.out HB.out));(case side2=>exact HC136_1.out);rintro e w18 ⟨rfl,hb⟩;replace BK134:=er BK134 hb;replace HB:=cw HB hb)))
      go_ret;exact dL
    ·rw[if_neg c4]at H;exact absurd H (by simp)
   ·rw[if_neg c3]at H;have c3b0:decide (x3_1<(l0_1.length:Int))=false:=cW c3;clear c3;replace H:=dW H;obtain⟨t135,A19,H⟩:=H;by_cases c20:t135=true
    ·subst c20;have H1:(some (decide ((l0_1.length:Int)≤4)))=some r:=by rw[if_pos rfl]at H;exact H
     clear H;have H:=H1;clear H1;obtain rfl:=cq H;obtain⟨z21_0,z21_1,y21_0,y21_1⟩:=fR BK134.out;go_wp2_with (first|(go_at_call 64;(with_reducible refine(bj.calls k1 a0_0 true _ A19.out).mono ?_);rintro e w' ⟨rfl,⟨nd,rfl⟩⟩;(try first|exact⟨rfl,_,World.drewN_drewN _ _ _⟩|exact⟨rfl,_,Eq.trans (World.drewN_drewN _ _ _) (congrArg (World.drewN _) (Nat.add_assoc _ _ _))⟩)))
     repeat(go_quiet (first|(go_at_call 64;(with_reducible refine(bj.calls k1 a0_0 true _ A19.out).mono ?_);rintro e w' ⟨rfl,⟨nd,rfl⟩⟩;(try first|exact⟨rfl,_,World.drewN_drewN _ _ _⟩|exact⟨rfl,_,Eq.trans (World.drewN_drewN _ _ _) (congrArg (World.drewN _) (Nat.add_assoc _ _ _))⟩)));try go_wp2_with (first|(go_at_call 64;(with_reducible refine(bj.calls k1 a0_0 true _ A19.out).mono ?_);rintro e w' ⟨rfl,⟨nd,rfl⟩⟩;(try first|exact⟨rfl,_,World.drewN_drewN _ _ _⟩|exact⟨rfl,_,Eq.trans (World.drewN_drewN _ _ _) (congrArg (World.drewN _) (Nat.add_assoc _ _ _))⟩))))
     go_ret;exact dL
    ·replace c20:=fy c20;subst c20;have H1:(some false)=some r:=by rw[if_neg (show ¬(false=true) by decide)]at H;exact H
     clear H;have H:=H1;clear H1;obtain rfl:=cq H;obtain⟨z22_0,z22_1,y22_0,y22_1⟩:=fR BK134.out;go_wp2_with (first|(go_at_call 64;(with_reducible refine(bj.calls k1 a0_0 false _ A19.out).mono ?_);rintro e w' ⟨rfl,⟨nd,rfl⟩⟩;(try first|exact⟨rfl,_,World.drewN_drewN _ _ _⟩|exact⟨rfl,_,Eq.trans (World.drewN_drewN _ _ _) (congrArg (World.drewN _) (Nat.add_assoc _ _ _))⟩)))
     repeat(go_quiet (first|(go_at_call 64;(with_reducible refine(bj.calls k1 a0_0 false _ A19.out).mono ?_);rintro e w' ⟨rfl,⟨nd,rfl⟩⟩;(try first|exact⟨rfl,_,World.drewN_drewN _ _ _⟩|exact⟨rfl,_,Eq.trans (World.drewN_drewN _ _ _) (congrArg (World.drewN _) (Nat.add_assoc _ _ _))⟩)));try go_wp2_with (first|(go_at_call 64;(with_reducible refine(bj.calls k1 a0_0 false _ A19.out).mono ?_);rintro e w' ⟨rfl,⟨nd,rfl⟩⟩;(try first|exact⟨rfl,_,World.drewN_drewN _ _ _⟩|exact⟨rfl,_,Eq.trans (World.drewN_drewN _ _ _) (congrArg (World.drewN _) (Nat.add_assoc _ _ _))⟩))))
     go_ret;exact dL
def bw.l0:Nat→List (b5)→ByteArray→Int→Option (Int)
 | 0,_,_,_=>none
 | k+1,x0,x1,x5=>if x5<(x0.length:Int)then(if 0≤x5 then(if ((bu x0 x5).f0).toList=x1.toList then(some x5)else(bw.l0 k x0 x1 (wrap64 (x5+1))))else(none))else(some (-1))
def bw.f (k:Nat) (l0:List (b5)) (a1:ByteArray):Option (Int):=bw.l0 k l0 a1 0
theorem bw.bS:∀k,(∀y0 y1 y2,bm (bw.l0 k y0 y1 y2) (bw.l0 (k+1) y0 y1 y2))
 | 0=>fun _ _ _ r h=>by simp[bw.l0]at h
 | k+1=>by
  have ih0:=bw.bS k
  ·intro y0 y1 y2;unfold bw.l0
   repeat' with_reducible first|exact ih0 _ _ _|exact bm.refl _|exact bm.none _|refine bm.ite ?_ ?_|refine bm.bind ?_ (fun _=>?_)
theorem bw.mono:∀a0 a1 k,bm (bw.f k a0 a1) (bw.f (k+1) a0 a1):=by
 intro a0 a1 k;have ih0:=bw.bS k;unfold bw.f
 repeat' with_reducible first|exact ih0 _ _ _|exact bm.refl _|exact bm.none _|refine bm.ite ?_ ?_|refine bm.bind ?_ (fun _=>?_)
theorem bw.calls (k:Nat) (A0:Option Addr) (c0:Nat) (l0:List (b5)) (a1:ByteArray) (r:Int) (w:World) (hr0:Kd.C jZ w A0 l0.length l0) (hc0:l0.length≤c0) (h:bw.f k l0 a1=some r) :
  Calls Tryz.prog 40 #[.slice A0 l0.length c0,.string a1] w fun e w'=>e=.returned (.int .i64 r)∧bg w w':=by
 have HR0:=aa hr0;have HC0:=aa hc0;clear hr0 hc0;have H:(bw.l0 k l0 a1 0)=some r:=h;clear h;have H':=aa H;clear H;go_enter Tryz.func40,Tryz.ntmps40;go_wp2
 go_loopg [5] k (fun kq v5 w'=>∃(x5_1:Int),v5=.int .i64 x5_1∧Aside0 (bw.l0 kq l0 a1 x5_1=some r)∧Aside0 (kq≤k)∧bg w w')
 case atStart=>exact⟨(0),(by first|rfl|(simp;done)|(simp[*];done)),H',⟨Nat.le_refl _⟩,by repeat(first|exact bg.refl _|apply bg.step)⟩
 case round =>
  clear H';obtain⟨x5_1,rfl,HA,HK1,⟨m1,rfl⟩⟩:=hrel
  cases gk with
  | zero=>exact absurd HA.out (by simp[bw.l0])
  | succ k1 =>
   have H:=HA.out;clear HA;simp only[bw.l0]at H;by_cases c3:x5_1<(l0.length:Int)
   ·rw[if_pos c3]at H;have c3b0:decide (x5_1<(l0.length:Int))=true:=cH c3;clear c3;by_cases c4:0≤x5_1
    ·rw[if_pos c4]at H;have c4b0:decide (0≤x5_1)=true:=cH c4;clear c4;by_cases c5:((bu l0 x5_1).f0).toList=a1.toList
     ·rw[if_pos c5]at H;have c5b0:(((bu l0 x5_1).f0).toList==a1.toList)=true:=eQ c5;have c5b1:(((bu l0 x5_1).f0).toList !=a1.toList)=false:=fa c5;clear c5;obtain rfl:=cq H;have p140:0≤(x5_1:Int):=eb;have q140:x5_1<(l0.length:Int):=eb;obtain⟨ad140,A140_1,c140_1,e140,hx140_0,hx140_1,hl140_1,hi140_1⟩:=gC HR0.out x5_1 p140 q140;cases e140;have HR140_1:=aa hi140_1;have HC140_1:=aa hl140_1;clear hi140_1 hl140_1;replace p140:=eq_true p140;replace q140:=eq_true q140;go_wp2;go_ret;exact⟨by first|rfl|(simp;done)|(simp[*];done),by repeat(first|exact bg.refl _|apply bg.step)⟩
     ·rw[if_neg c5]at H;have c5b0:(((bu l0 x5_1).f0).toList==a1.toList)=false:=ea c5;have c5b1:(((bu l0 x5_1).f0).toList !=a1.toList)=true:=fc c5;have H':=aa H;clear H;have p140:0≤(x5_1:Int):=eb;have q140:x5_1<(l0.length:Int):=eb;obtain⟨ad140,A140_1,c140_1,e140,hx140_0,hx140_1,hl140_1,hi140_1⟩:=gC HR0.out x5_1 p140 q140;cases e140;have HR140_1:=aa hi140_1;have HC140_1:=aa hl140_1;clear hi140_1 hl140_1;replace p140:=eq_true p140;replace q140:=eq_true q140;go_wp2
      go_roundg k1
      case measure=>have:=HK1.out;omega
      case rel=>exact⟨(wrap64 (x5_1+1)),(by first|rfl|(simp;done)|(simp[*];done)),H',⟨by have:=HK1.out;omega⟩,by repeat(first|exact bg.refl _|apply bg.step)⟩
    ·rw[if_neg c4]at H;exact absurd H (by simp)
   ·rw[if_neg c3]at H;have c3b0:decide (x5_1<(l0.length:Int))=false:=cW c3;clear c3;obtain rfl:=cq H;go_wp2;go_ret;exact⟨by first|rfl|(simp;done)|(simp[*];done),by repeat(first|exact bg.refl _|apply bg.step)⟩
def bb.l0:Nat→List (b5)→Int→Option (Bool)
 | 0,_,_=>none
 | k+1,x0,x3=>if x3<(x0.length:Int)then(if 0≤x3 then((aY.f k ((bu x0 x3).f0) ((bu x0 x3).f1)).bind fun t142=>(if t142=true then((bw.f k x0 ((bu x0 x3).f0)).bind fun t144=>(if t144=x3 then(bb.l0 k x0 (wrap64 (x3+1)))else(some false)))else(some false)))else(none))else(some (decide ((x0.length:Int)≤6)))
def bb.f (k:Nat) (l0:List (b5)):Option (Bool):=bb.l0 k l0 0
theorem bb.bS:∀k,(∀y0 y1,bm (bb.l0 k y0 y1) (bb.l0 (k+1) y0 y1))
 | 0=>fun _ _ r h=>by simp[bb.l0]at h
 | k+1=>by
  have ih0:=bb.bS k
  ·intro y0 y1;unfold bb.l0
   repeat' with_reducible first|exact ih0 _ _|exact bw.mono _ _ _|exact aY.mono _ _ _|exact bm.refl _|exact bm.none _|refine bm.ite ?_ ?_|refine bm.bind ?_ (fun _=>?_)
theorem bb.mono:∀a0 k,bm (bb.f k a0) (bb.f (k+1) a0):=by
 intro a0 k;have ih0:=bb.bS k;unfold bb.f
 repeat' with_reducible first|exact ih0 _ _|exact bw.mono _ _ _|exact aY.mono _ _ _|exact bm.refl _|exact bm.none _|refine bm.ite ?_ ?_|refine bm.bind ?_ (fun _=>?_)
theorem bb.calls (k:Nat) (A0:Option Addr) (c0:Nat) (l0:List (b5)) (r:Bool) (w:World) (hr0:Kd.C jZ w A0 l0.length l0) (hc0:l0.length≤c0) (h:bb.f k l0=some r) :
  Calls Tryz.prog 13 #[.slice A0 l0.length c0] w fun e w'=>e=.returned (.bool r)∧Below w.heap.size w w':=by
 have hu48:=Tryz.underlying48;have HR0:=aa hr0;have HC0:=aa hc0;clear hr0 hc0;have HB:=aa (Below.refl w.heap.size w);have H:(bb.l0 k l0 0)=some r:=h;clear h;have H':=aa H;clear H;go_enter Tryz.func13,Tryz.ntmps13;go_wp2
 go_loopg [3] k (fun kq v3 w'=>∃(x3_1:Int),v3=.int .i64 x3_1∧Aside0 (bb.l0 kq l0 x3_1=some r)∧Aside0 (kq≤k)∧Aside0 (Below w.heap.size w w'))
 case atStart=>exact⟨(0),(by first|rfl|(simp;done)|(simp[*];done)),H',⟨Nat.le_refl _⟩,⟨(bl HB)⟩⟩
 case round =>
  clear H';obtain⟨x3_1,rfl,HA,HK1,HB⟩:=hrel
  cases gk with
  | zero=>exact absurd HA.out (by simp[bb.l0])
  | succ k1 =>
   have H:=HA.out;clear HA;simp only[bb.l0]at H;by_cases c2:x3_1<(l0.length:Int)
   ·rw[if_pos c2]at H;have c2b0:decide (x3_1<(l0.length:Int))=true:=cH c2;clear c2;by_cases c3:0≤x3_1
    ·rw[if_pos c3]at H;have c3b0:decide (0≤x3_1)=true:=cH c3;clear c3;replace H:=dW H;obtain⟨t142,A4,H⟩:=H;by_cases c5:t142=true
     ·subst c5;have H1:((bw.f k1 l0 ((bu l0 x3_1).f0)).bind fun t144=>(if t144=x3_1 then(bb.l0 k1 l0 (wrap64 (x3_1+1)))else(some false)))=some r:=by rw[if_pos rfl]at H;exact H
      clear H;have H:=H1;clear H1;replace H:=dW H;obtain⟨t144,A6,H⟩:=H;by_cases c7:t144=x3_1
      ·rw[if_pos c7]at H;have c7b0:(t144==x3_1)=true:=eQ c7;have c7b1:(t144 !=x3_1)=false:=fa c7;clear c7;have H':=aa H;clear H;have p141:0≤(x3_1:Int):=eb;have q141:x3_1<(l0.length:Int):=eb;obtain⟨ad141,A141_1,c141_1,e141,hx141_0,hx141_1,hl141_1,hi141_1⟩:=gC HR0.out x3_1 p141 q141;cases e141;replace hx141_0:=fo HB hx141_0;replace hx141_1:=fo HB hx141_1;have HR141_1:=aa hi141_1;have HC141_1:=aa hl141_1;clear hi141_1 hl141_1;replace p141:=eq_true p141;replace q141:=eq_true q141;go_wp2_with (first|((with_reducible refine ae (f:=39) rfl ?_);refine cf (some 14) Tryz.func39 #[.agg #[.string ((bu l0 x3_1).f0),.slice A141_1 ((bu l0 x3_1).f1).length c141_1]] ?_;(with_reducible refine(aY.calls k1 ((bu l0 x3_1).f0) _ _ ((bu l0 x3_1).f1) true _ ?side1 ?side2 A4.out).mono ?_);(case side1=>exact fw (Kd.cA HR141_1.out HB.out));(case side2=>exact HC141_1.out);rintro e w8 ⟨rfl,hb⟩;refine⟨_,rfl,?_⟩;replace HB:=cw HB hb;have p143:0≤(x3_1:Int):=eb;have q143:x3_1<(l0.length:Int):=eb;obtain⟨ad143,A143_1,c143_1,e143,hx143_0,hx143_1,hl143_1,hi143_1⟩:=gC HR0.out x3_1 p143 q143;obtain rfl:ad141=ad143:=(by injection e143);replace hx143_0:=fo HB hx143_0;replace hx143_1:=fo HB hx143_1;have HR143_1:=aa hi143_1;have HC143_1:=aa hl143_1;clear hi143_1 hl143_1;replace p143:=eq_true p143;replace q143:=eq_true q143)|(go_at_call 40;(with_reducible refine(bw.calls k1 _ _ l0 ((bu l0 x3_1).f0) t144 _ ?side1 ?side2 A6.out).mono ?_);(case side1=>exact fw (Kd.cA HR0.out HB.out));(case side2=>exact HC0.out);rintro e w' ⟨rfl,⟨nd,rfl⟩⟩))
       go_roundg k1
       case measure=>have:=HK1.out;omega
       case rel=>exact⟨(wrap64 (x3_1+1)),(by first|rfl|(simp;done)|(simp[*];done)),H',⟨by have:=HK1.out;omega⟩,⟨(bl HB)⟩⟩
      ·rw[if_neg c7]at H;have c7b0:(t144==x3_1)=false:=ea c7;have c7b1:(t144 !=x3_1)=true:=fc c7;obtain rfl:=cq H;have p141:0≤(x3_1:Int):=eb;have q141:x3_1<(l0.length:Int):=eb;obtain⟨ad141,A141_1,c141_1,e141,hx141_0,hx141_1,hl141_1,hi141_1⟩:=gC HR0.out x3_1 p141 q141;cases e141;replace hx141_0:=fo HB hx141_0;replace hx141_1:=fo HB hx141_1;have HR141_1:=aa hi141_1;have HC141_1:=aa hl141_1;clear hi141_1 hl141_1;replace p141:=eq_true p141;replace q141:=eq_true q141;go_wp2_with (first|((with_reducible refine ae (f:=39) rfl ?_);refine cf (some 14) Tryz.func39 #[.agg #[.string ((bu l0 x3_1).f0),.slice A141_1 ((bu l0 x3_1).f1).length c141_1]] ?_;(with_reducible refine(aY.calls k1 ((bu l0 x3_1).f0) _ _ ((bu l0 x3_1).f1) true _ ?side1 ?side2 A4.out).mono ?_);(case side1=>exact fw (Kd.cA HR141_1.out HB.out));(case side2=>exact HC141_1.out);rintro e w9 ⟨rfl,hb⟩;refine⟨_,rfl,?_⟩;replace HB:=cw HB hb;have p143:0≤(x3_1:Int):=eb;have q143:x3_1<(l0.length:Int):=eb;obtain⟨ad143,A143_1,c143_1,e143,hx143_0,hx143_1,hl143_1,hi143_1⟩:=gC HR0.out x3_1 p143 q143;obtain rfl:ad141=ad143:=(by injection e143);replace hx143_0:=fo HB hx143_0;replace hx143_1:=fo HB hx143_1;have HR143_1:=aa hi143_1;have HC143_1:=aa hl143_1;clear hi143_1 hl143_1;replace p143:=eq_true p143;replace q143:=eq_true q143)|(go_at_call 40;(with_reducible refine(bw.calls k1 _ _ l0 ((bu l0 x3_1).f0) t144 _ ?side1 ?side2 A6.out).mono ?_);(case side1=>exact fw (Kd.cA HR0.out HB.out));(case side2=>exact HC0.out);rintro e w' ⟨rfl,⟨nd,rfl⟩⟩));go_ret;exact dL
     ·replace c5:=fy c5;subst c5;have H1:(some false)=some r:=by rw[if_neg (show ¬(false=true) by decide)]at H;exact H
      clear H;have H:=H1;clear H1;obtain rfl:=cq H;have p141:0≤(x3_1:Int):=eb;have q141:x3_1<(l0.length:Int):=eb;obtain⟨ad141,A141_1,c141_1,e141,hx141_0,hx141_1,hl141_1,hi141_1⟩:=gC HR0.out x3_1 p141 q141;cases e141;replace hx141_0:=fo HB hx141_0;replace hx141_1:=fo HB hx141_1;have HR141_1:=aa hi141_1;have HC141_1:=aa hl141_1;clear hi141_1 hl141_1;replace p141:=eq_true p141;replace q141:=eq_true q141;go_wp2_with (first|((with_reducible refine ae (f:=39) rfl ?_);refine cf (some 14) Tryz.func39 #[.agg #[.string ((bu l0 x3_1).f0),.slice A141_1 ((bu l0 x3_1).f1).length c141_1]] ?_;(with_reducible refine(aY.calls k1 ((bu l0 x3_1).f0) _ _ ((bu l0 x3_1).f1) false _ ?side1 ?side2 A4.out).mono ?_);(case side1=>exact fw (Kd.cA HR141_1.out HB.out));(case side2=>exact HC141_1.out);rintro e w10 ⟨rfl,hb⟩;refine⟨_,rfl,?_⟩;replace HB:=cw HB hb));go_ret;exact dL
    ·rw[if_neg c3]at H;exact absurd H (by simp)
   ·rw[if_neg c2]at H;have c2b0:decide (x3_1<(l0.length:Int))=false:=cW c2;clear c2;obtain rfl:=cq H;go_wp2;go_ret;exact dL
end Go.Proofs.YtmipaoobkjppdaaGreatDoor.QFnTexts
