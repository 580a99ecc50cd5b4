import Derived.Test.YtmipaoobkjppdaaGreatDoorQFnExactParseLibraryx3
set_option maxHeartbeats 8000000
set_option maxRecDepth 100000
namespace Go.Proofs.YtmipaoobkjppdaaGreatDoor.QFnExactParseLibrary
open Go.RowKit Go.Proofs.YtmipaoobkjppdaaGreatDoorW 
open PrintWords PrintLast PrintMore
attribute [local go_sem] cA cB cX cY cd cf cD cG
set_option linter.unusedVariables false
set_option linter.unusedSimpArgs false
def bm.l0:Nat→Int→ByteArray→List (cw)→Option (Bool)
 | 0,_,_,_=>none
 | k+1,x3,x131000,x131001=>if x3<(x131001.length:Int)then(if 0≤x3 then((aR.f k ((ab x131001 x3).f0) ((ab x131001 x3).f1) ((ab x131001 x3).f2) ((ab x131001 x3).f3) ((ab x131001 x3).f4) ((ab x131001 x3).f5)).bind fun t132=>(if t132=true then(bm.l0 k (wrap64 (x3+1)) x131000 x131001)else(some false)))else(none))else((aX.f k x131000).bind fun t133=>(if t133=true then(some (decide ((x131001.length:Int)≤12)))else(some false)))
def bm.f (k:Nat) (a0_0:ByteArray) (l0_1:List (cw)):Option (Bool):=bm.l0 k 0 a0_0 l0_1
theorem bm.bs:∀k,(∀y0 y1 y2,bd (bm.l0 k y0 y1 y2) (bm.l0 (k+1) y0 y1 y2))
 | 0=>fun _ _ _ r h=>by simp[bm.l0]at h
 | k+1=>by
  have ih0:=bm.bs k
  ·intro y0 y1 y2;unfold bm.l0
   repeat' with_reducible first|exact ih0 _ _ _|exact aR.mono _ _ _ _ _ _ _|exact aX.mono _ _|exact bd.refl _|exact bd.none _|refine bd.ite ?_ ?_|refine bd.bind ?_ (fun _=>?_)
theorem bm.mono:∀a0 a1 k,bd (bm.f k a0 a1) (bm.f (k+1) a0 a1):=by
 intro a0 a1 k;have ih0:=bm.bs k;unfold bm.f
 repeat' with_reducible first|exact ih0 _ _ _|exact aR.mono _ _ _ _ _ _ _|exact aX.mono _ _|exact bd.refl _|exact bd.none _|refine bd.ite ?_ ?_|refine bd.bind ?_ (fun _=>?_)
theorem bm.calls (k:Nat) (a0_0:ByteArray) (A0_1:Option Addr) (c0_1:Nat) (l0_1:List (cw)) (r:Bool) (w:World) (hr0_1:Kd.C eR w A0_1 l0_1.length l0_1) (hc0_1:l0_1.length≤c0_1) (h:bm.f k a0_0 l0_1=some r) :
  Calls Tryz.prog 63 #[.agg #[.string a0_0,.slice A0_1 l0_1.length c0_1]] w fun e w'=>e=.returned (.bool r)∧Below w.heap.size w w':=by
 have hu52:=Tryz.underlying52;have hu35:=Tryz.underlying35;have HR0_1:=ae hr0_1;have HC0_1:=ae hc0_1;clear hr0_1 hc0_1;have HB:=ae (Below.refl w.heap.size w);have H:(bm.l0 k 0 a0_0 l0_1)=some r:=h;clear h;have H':=ae H;clear H;go_enter Tryz.func63,Tryz.ntmps63;go_wp2_with (first|((with_reducible refine al (N:=1) rfl ?_);(try(refine dd (by rfl) ?_;dsimp only));refine dj ?hg (N:=1) ?hd (cs:=#[.string a0_0,.slice A0_1 l0_1.length c0_1]) (t:=52) ?hr ?_;(case hd=>rfl);(case hg=>rfl);(case hr=>first|(go_simp;done)|(go_simp;rfl));intro gb130 hg w2 hbox hb;have BK130:=ae (hbox);have GW130:=db hg;have GE130:=db hg;replace HB:=ch hb;clear hb hbox hg))
 go_loopg [3] k (fun kq v3 w'=>∃(x3_1:Int),v3=.int .i64 x3_1∧Aside0 (bm.l0 kq x3_1 a0_0 l0_1=some r)∧Aside0 (kq≤k)∧Aside0 (w'.heap[gb130]? =some (.cells #[.string a0_0,(.slice A0_1 l0_1.length c0_1)] 52 (0,0)))∧Aside0 (Below w.heap.size w w'))
 case atStart=>exact⟨(0),(by first|rfl|(simp;done)|(simp[*];done)),H',⟨Nat.le_refl _⟩,⟨bk BK130⟩,⟨bl⟩⟩
 case round =>
  clear H';obtain⟨x3_1,rfl,HA,HK1,BK130,HB⟩:=hrel
  cases gk with
  | zero=>exact absurd HA.out (by simp[bm.l0])
  | succ k1 =>
   have H:=HA.out;clear HA;simp only[bm.l0]at H;by_cases c3:x3_1<(l0_1.length:Int)
   ·rw[if_pos c3]at H;have c3b0:decide (x3_1<(l0_1.length:Int))=true:=bW c3;clear c3;by_cases c4:0≤x3_1
    ·rw[if_pos c4]at H;have c4b0:decide (0≤x3_1)=true:=bW c4;clear c4;replace H:=df H;obtain⟨t132,A5,H⟩:=H;by_cases c6:t132=true
     ·subst c6;have H1:(bm.l0 k1 (wrap64 (x3_1+1)) a0_0 l0_1)=some r:=by rw[if_pos rfl]at H;exact H
      clear H;have H:=H1;clear H1;have H':=ae H;clear H;obtain⟨z7_0,z7_1,y7_0,y7_1⟩:=eU BK130.out;have p131:0≤(x3_1:Int):=bN;have q131:x3_1<(l0_1.length:Int):=bN;obtain⟨ad131,e131,hx131_0,hx131_1,hx131_2,hx131_3,hx131_4,hx131_5⟩:=cx HR0_1.out x3_1 p131 q131;cases e131;replace hx131_0:=bg HB hx131_0;replace hx131_1:=bg HB hx131_1;replace hx131_2:=bg HB hx131_2;replace hx131_3:=bg HB hx131_3;replace hx131_4:=bg HB hx131_4;replace hx131_5:=bg HB hx131_5;replace p131:=eq_true p131;replace q131:=eq_true q131;go_wp2_with (first|((with_reducible refine ai (f:=65) rfl ?_);refine dm (some 16) Tryz.func65 #[.agg #[.int .i64 ((ab l0_1 x3_1).f0),.int .i64 ((ab l0_1 x3_1).f1),.int .i64 ((ab l0_1 x3_1).f2),.int .i64 ((ab l0_1 x3_1).f3),.int .i64 ((ab l0_1 x3_1).f4),.string ((ab l0_1 x3_1).f5)]] ?_;(with_reducible refine(aR.calls k1 ((ab l0_1 x3_1).f0) ((ab l0_1 x3_1).f1) ((ab l0_1 x3_1).f2) ((ab l0_1 x3_1).f3) ((ab l0_1 x3_1).f4) ((ab l0_1 x3_1).f5) true _ A5.out).mono ?_);rintro e w8 ⟨rfl,hb⟩;refine⟨_,rfl,?_⟩;replace BK130:=dW BK130 hb;replace HB:=ch hb))
      go_roundg k1
      case measure=>have:=HK1.out;omega
      case rel=>exact⟨(wrap64 (x3_1+1)),(by first|rfl|(simp;done)|(simp[*];done)),H',⟨by have:=HK1.out;omega⟩,⟨bk BK130⟩,⟨bl⟩⟩
     ·replace c6:=eK c6;subst c6;have H1:(some false)=some r:=by rw[if_neg (show ¬(false=true) by decide)]at H;exact H
      clear H;have H:=H1;clear H1;obtain rfl:=bL H;obtain⟨z9_0,z9_1,y9_0,y9_1⟩:=eU BK130.out;have p131:0≤(x3_1:Int):=bN;have q131:x3_1<(l0_1.length:Int):=bN;obtain⟨ad131,e131,hx131_0,hx131_1,hx131_2,hx131_3,hx131_4,hx131_5⟩:=cx HR0_1.out x3_1 p131 q131;cases e131;replace hx131_0:=bg HB hx131_0;replace hx131_1:=bg HB hx131_1;replace hx131_2:=bg HB hx131_2;replace hx131_3:=bg HB hx131_3;replace hx131_4:=bg HB hx131_4;replace hx131_5:=bg HB hx131_5;replace p131:=eq_true p131;replace q131:=eq_true q131;go_wp2_with (first|((with_reducible refine ai (f:=65) rfl ?_);refine dm (some 16) Tryz.func65 #[.agg #[.int .i64 ((ab l0_1 x3_1).f0),.int .i64 ((ab l0_1 x3_1).f1),.int .i64 ((ab l0_1 x3_1).f2),.int .i64 ((ab l0_1 x3_1).f3),.int .i64 ((ab l0_1 x3_1).f4),.string ((ab l0_1 x3_1).f5)]] ?_;(with_reducible refine(aR.calls k1 ((ab l0_1 x3_1).f0) ((ab l0_1 x3_1).f1) ((ab l0_1 x3_1).f2) ((ab l0_1 x3_1).f3) ((ab l0_1 x3_1).f4) ((ab l0_1 x3_1).f5) false _ A5.out).mono ?_);rintro e w10 ⟨rfl,hb⟩;refine⟨_,rfl,?_⟩;replace BK130:=dW BK130 hb;replace HB:=ch hb));go_ret;exact cu
    ·rw[if_neg c4]at H;exact absurd H (by simp)
   ·rw[if_neg c3]at H;have c3b0:decide (x3_1<(l0_1.length:Int))=false:=b5 c3;clear c3;replace H:=df H;obtain⟨t133,A11,H⟩:=H;by_cases c12:t133=true
    ·subst c12;have H1:(some (decide ((l0_1.length:Int)≤12)))=some r:=by rw[if_pos rfl]at H;exact H
     clear H;have H:=H1;clear H1;obtain rfl:=bL H;obtain⟨z13_0,z13_1,y13_0,y13_1⟩:=eU BK130.out;go_wp2_with (first|((with_reducible refine ai (f:=64) rfl ?_);refine dm (some 20) Tryz.func64 #[.string a0_0] ?_;(with_reducible refine(aX.calls k1 a0_0 true _ A11.out).mono ?_);rintro e w' ⟨rfl,⟨nd,rfl⟩⟩;refine⟨_,rfl,?_⟩));go_ret;exact cu
    ·replace c12:=eK c12;subst c12;have H1:(some false)=some r:=by rw[if_neg (show ¬(false=true) by decide)]at H;exact H
     clear H;have H:=H1;clear H1;obtain rfl:=bL H;obtain⟨z14_0,z14_1,y14_0,y14_1⟩:=eU BK130.out;go_wp2_with (first|((with_reducible refine ai (f:=64) rfl ?_);refine dm (some 20) Tryz.func64 #[.string a0_0] ?_;(with_reducible refine(aX.calls k1 a0_0 false _ A11.out).mono ?_);rintro e w' ⟨rfl,⟨nd,rfl⟩⟩;refine⟨_,rfl,?_⟩));go_ret;exact cu
mutual
def aM.l0:Nat→Int→ByteArray→List (cW)→Option (Bool)
 | 0,_,_,_=>none
 | k+1,x3,x135000,x135001=>if x3<(x135001.length:Int)then(if 0≤x3 then((bm.f k ((aq x135001 x3).f0) ((aq x135001 x3).f1)).bind fun t137=>(if t137=true then(aM.l1 k x3 0 x135000 x135001)else(some false)))else(none))else((aX.f k x135000).bind fun t135=>(if t135=true then(some (decide ((x135001.length:Int)≤4)))else(some false)))
def aM.l1:Nat→Int→Int→ByteArray→List (cW)→Option (Bool)
 | 0,_,_,_,_=>none
 | k+1,x3,x4,x135000,x135001=>if x4<x3 then(if 0≤x4 then(if x4<(x135001.length:Int)then(if 0≤x3 then(if x3<(x135001.length:Int)then(if ((aq x135001 x4).f0).toList=((aq x135001 x3).f0).toList then(some false)else(aM.l1 k x3 (wrap64 (x4+1)) x135000 x135001))else(none))else(none))else(none))else(none))else(aM.l0 k (wrap64 (x3+1)) x135000 x135001)
end
def aM.f (k:Nat) (a0_0:ByteArray) (l0_1:List (cW)):Option (Bool):=aM.l0 k 0 a0_0 l0_1
theorem aM.bs:∀k,(∀y0 y1 y2,bd (aM.l0 k y0 y1 y2) (aM.l0 (k+1) y0 y1 y2))∧(∀y0 y1 y2 y3,bd (aM.l1 k y0 y1 y2 y3) (aM.l1 (k+1) y0 y1 y2 y3))
 | 0=>⟨fun _ _ _ r h=>by simp[aM.l0]at h,fun _ _ _ _ r h=>by simp[aM.l1]at h⟩
 | k+1=>by
  obtain⟨ih0,ih1⟩:=aM.bs k;refine⟨?_,?_⟩
  ·intro y0 y1 y2;unfold aM.l0
   repeat' with_reducible first|exact ih0 _ _ _|exact ih1 _ _ _ _|exact bm.mono _ _ _|exact aX.mono _ _|exact bd.refl _|exact bd.none _|refine bd.ite ?_ ?_|refine bd.bind ?_ (fun _=>?_)
  ·intro y0 y1 y2 y3;unfold aM.l1
   repeat' with_reducible first|exact ih0 _ _ _|exact ih1 _ _ _ _|exact bm.mono _ _ _|exact aX.mono _ _|exact bd.refl _|exact bd.none _|refine bd.ite ?_ ?_|refine bd.bind ?_ (fun _=>?_)
theorem aM.mono:∀a0 a1 k,bd (aM.f k a0 a1) (aM.f (k+1) a0 a1):=by
 intro a0 a1 k;obtain⟨ih0,ih1⟩:=aM.bs k;unfold aM.f
 repeat' with_reducible first|exact ih0 _ _ _|exact ih1 _ _ _ _|exact bm.mono _ _ _|exact aX.mono _ _|exact bd.refl _|exact bd.none _|refine bd.ite ?_ ?_|refine bd.bind ?_ (fun _=>?_)
theorem aM.calls (k:Nat) (a0_0:ByteArray) (A0_1:Option Addr) (c0_1:Nat) (l0_1:List (cW)) (r:Bool) (w:World) (hr0_1:Kd.C fN w A0_1 l0_1.length l0_1) (hc0_1:l0_1.length≤c0_1) (h:aM.f k a0_0 l0_1=some r) :
  Calls Tryz.prog 39 #[.agg #[.string a0_0,.slice A0_1 l0_1.length c0_1]] w fun e w'=>e=.returned (.bool r)∧Below w.heap.size w w':=by
 have hu48:=Tryz.underlying48;have hu52:=Tryz.underlying52;have HR0_1:=ae hr0_1;have HC0_1:=ae hc0_1;clear hr0_1 hc0_1;have HB:=ae (Below.refl w.heap.size w);have H:(aM.l0 k 0 a0_0 l0_1)=some r:=h;clear h;have H':=ae H;clear H;go_enter Tryz.func39,Tryz.ntmps39;go_wp2_with (first|((with_reducible refine al (N:=1) rfl ?_);(try(refine dd (by rfl) ?_;dsimp only));refine dj ?hg (N:=1) ?hd (cs:=#[.string a0_0,.slice A0_1 l0_1.length c0_1]) (t:=48) ?hr ?_;(case hd=>rfl);(case hg=>rfl);(case hr=>first|(go_simp;done)|(go_simp;rfl));intro gb134 hg w2 hbox hb;have BK134:=ae (hbox);have GW134:=db hg;have GE134:=db hg;replace HB:=ch hb;clear hb hbox hg))
 repeat(go_quiet (first|((with_reducible refine al (N:=1) rfl ?_);(try(refine dd (by rfl) ?_;dsimp only));refine dj ?hg (N:=1) ?hd (cs:=#[.string a0_0,.slice A0_1 l0_1.length c0_1]) (t:=48) ?hr ?_;(case hd=>rfl);(case hg=>rfl);(case hr=>first|(go_simp;done)|(go_simp;rfl));intro gb134 hg w2 hbox hb;have BK134:=ae (hbox);have GW134:=db hg;have GE134:=db hg;replace HB:=ch hb;clear hb hbox hg));try go_wp2_with (first|((with_reducible refine al (N:=1) rfl ?_);(try(refine dd (by rfl) ?_;dsimp only));refine dj ?hg (N:=1) ?hd (cs:=#[.string a0_0,.slice A0_1 l0_1.length c0_1]) (t:=48) ?hr ?_;(case hd=>rfl);(case hg=>rfl);(case hr=>first|(go_simp;done)|(go_simp;rfl));intro gb134 hg w2 hbox hb;have BK134:=ae (hbox);have GW134:=db hg;have GE134:=db hg;replace HB:=ch hb;clear hb hbox hg)))
 go_loopg [3] k (fun kq v3 w'=>∃(x3_1:Int),v3=.int .i64 x3_1∧Aside0 (aM.l0 kq x3_1 a0_0 l0_1=some r)∧Aside0 (kq≤k)∧Aside0 (w'.heap[gb134]? =some (.cells #[.string a0_0,(.slice A0_1 l0_1.length c0_1)] 48 (0,0)))∧Aside0 (Below w.heap.size w w'))
 case atStart=>exact⟨(0),(by first|rfl|(simp;done)|(simp[*];done)),H',⟨Nat.le_refl _⟩,⟨bk BK134⟩,⟨bl⟩⟩
 case round =>
  clear H';obtain⟨x3_1,rfl,HA,HK1,BK134,HB⟩:=hrel
  cases gk with
  | zero=>exact absurd HA.out (by simp[aM.l0])
  | succ k1 =>
   have H:=HA.out;clear HA;simp only[aM.l0]at H;by_cases c3:x3_1<(l0_1.length:Int)
   ·rw[if_pos c3]at H;have c3b0:decide (x3_1<(l0_1.length:Int))=true:=bW c3;clear c3;by_cases c4:0≤x3_1
    ·rw[if_pos c4]at H;have c4b0:decide (0≤x3_1)=true:=bW c4;clear c4;replace H:=df H;obtain⟨t137,A5,H⟩:=H;by_cases c6:t137=true
     ·subst c6;have H1:(aM.l1 k1 x3_1 0 a0_0 l0_1)=some r:=by rw[if_pos rfl]at H;exact H
      clear H;have H:=H1;clear H1;have H':=ae H;clear H;obtain⟨z7_0,z7_1,y7_0,y7_1⟩:=eU BK134.out;have p136:0≤(x3_1:Int):=bN;have q136:x3_1<(l0_1.length:Int):=bN;obtain⟨ad136,A136_1,c136_1,e136,hx136_0,hx136_1,hl136_1,hi136_1⟩:=dC HR0_1.out x3_1 p136 q136;cases e136;replace hx136_0:=bg HB hx136_0;replace hx136_1:=bg HB hx136_1;have HR136_1:=ae hi136_1;have HC136_1:=ae hl136_1;clear hi136_1 hl136_1;replace p136:=eq_true p136;replace q136:=eq_true q136;go_wp2_with (first|(go_at_call 63;(with_reducible refine(bm.calls k1 ((aq l0_1 x3_1).f0) _ _ ((aq l0_1 x3_1).f1) true _ ?side1 ?side2 A5.out).mono ?_);(case side1=>exact fA (Kd.bH HR136_1.out HB.out));(case side2=>exact HC136_1.out);rintro e w8 ⟨rfl,hb⟩;replace BK134:=dW BK134 hb;replace HB:=ch hb))
      repeat(go_quiet (first|(go_at_call 63;(with_reducible refine(bm.calls k1 ((aq l0_1 x3_1).f0) _ _ ((aq l0_1 x3_1).f1) true _ ?side1 ?side2 A5.out).mono ?_);(case side1=>exact fA (Kd.bH HR136_1.out HB.out));(case side2=>exact HC136_1.out);rintro e w8 ⟨rfl,hb⟩;replace BK134:=dW BK134 hb;replace HB:=ch hb));try go_wp2_with (first|(go_at_call 63;(with_reducible refine(bm.calls k1 ((aq l0_1 x3_1).f0) _ _ ((aq l0_1 x3_1).f1) true _ ?side1 ?side2 A5.out).mono ?_);(case side1=>exact fA (Kd.bH HR136_1.out HB.out));(case side2=>exact HC136_1.out);rintro e w8 ⟨rfl,hb⟩;replace BK134:=dW BK134 hb;replace HB:=ch hb)))
      go_loopg [4] k1 (fun kq v4 w'=>∃(x4_2:Int),v4=.int .i64 x4_2∧Aside0 (aM.l1 kq x3_1 x4_2 a0_0 l0_1=some r)∧Aside0 (kq≤k1)∧Aside0 (w'.heap[gb134]? =some (.cells #[.string a0_0,(.slice (some ad136) l0_1.length c0_1)] 48 (0,0)))∧Aside0 (Below w.heap.size w w'))
      case atStart=>exact⟨(0),(by first|rfl|(simp;done)|(simp[*];done)),H',⟨Nat.le_refl _⟩,⟨bk BK134⟩,⟨bl⟩⟩
      case round =>
       clear H';obtain⟨x4_2,rfl,HA,HK2,BK134,HB⟩:=hrel
       cases gk with
       | zero=>exact absurd HA.out (by simp[aM.l1])
       | succ k2 =>
        have H:=HA.out;clear HA;simp only[aM.l1]at H;by_cases c9:x4_2<x3_1
        ·rw[if_pos c9]at H;have c9b0:decide (x4_2<x3_1)=true:=bW c9;clear c9;by_cases eA:0≤x4_2
         ·rw[if_pos eA]at H;have c10b0:decide (0≤x4_2)=true:=bW eA;clear eA;by_cases c11:x4_2<(l0_1.length:Int)
          ·rw[if_pos c11]at H;have c11b0:decide (x4_2<(l0_1.length:Int))=true:=bW c11;clear c11;by_cases c12:0≤x3_1
           ·rw[if_pos c12]at H;have c12b0:decide (0≤x3_1)=true:=bW c12;clear c12;by_cases c13:x3_1<(l0_1.length:Int)
            ·rw[if_pos c13]at H;have c13b0:decide (x3_1<(l0_1.length:Int))=true:=bW c13;clear c13;by_cases c14:((aq l0_1 x4_2).f0).toList=((aq l0_1 x3_1).f0).toList
             ·rw[if_pos c14]at H;have c14b0:(((aq l0_1 x4_2).f0).toList==((aq l0_1 x3_1).f0).toList)=true:=dX c14;have c14b1:(((aq l0_1 x4_2).f0).toList !=((aq l0_1 x3_1).f0).toList)=false:=ed c14;clear c14;obtain rfl:=bL H;obtain⟨z15_0,z15_1,y15_0,y15_1⟩:=eU BK134.out;have p138:0≤(x4_2:Int):=bN;have q138:x4_2<(l0_1.length:Int):=bN;obtain⟨ad138,A138_1,c138_1,e138,hx138_0,hx138_1,hl138_1,hi138_1⟩:=dC HR0_1.out x4_2 p138 q138;obtain rfl:ad136=ad138:=(by injection e138);replace hx138_0:=bg HB hx138_0;replace hx138_1:=bg HB hx138_1;have HR138_1:=ae hi138_1;have HC138_1:=ae hl138_1;clear hi138_1 hl138_1;replace p138:=eq_true p138;replace q138:=eq_true q138;have p139:0≤(x3_1:Int):=bN;have q139:x3_1<(l0_1.length:Int):=bN;obtain⟨ad139,A139_1,c139_1,e139,hx139_0,hx139_1,hl139_1,hi139_1⟩:=dC HR0_1.out x3_1 p139 q139;obtain rfl:ad136=ad139:=(by injection e139);replace hx139_0:=bg HB hx139_0;replace hx139_1:=bg HB hx139_1;have HR139_1:=ae hi139_1;have HC139_1:=ae hl139_1;clear hi139_1 hl139_1;replace p139:=eq_true p139;replace q139:=eq_true q139;go_wp2
              repeat(go_quiet (fail);try go_wp2)
              go_ret;exact cu
             ·rw[if_neg c14]at H;have c14b0:(((aq l0_1 x4_2).f0).toList==((aq l0_1 x3_1).f0).toList)=false:=di c14;have c14b1:(((aq l0_1 x4_2).f0).toList !=((aq l0_1 x3_1).f0).toList)=true:=ee c14;have H':=ae H;clear H;obtain⟨z16_0,z16_1,y16_0,y16_1⟩:=eU BK134.out;have p138:0≤(x4_2:Int):=bN;have q138:x4_2<(l0_1.length:Int):=bN;obtain⟨ad138,A138_1,c138_1,e138,hx138_0,hx138_1,hl138_1,hi138_1⟩:=dC HR0_1.out x4_2 p138 q138;obtain rfl:ad136=ad138:=(by injection e138);replace hx138_0:=bg HB hx138_0;replace hx138_1:=bg HB hx138_1;have HR138_1:=ae hi138_1;have HC138_1:=ae hl138_1;clear hi138_1 hl138_1;replace p138:=eq_true p138;replace q138:=eq_true q138;have p139:0≤(x3_1:Int):=bN;have q139:x3_1<(l0_1.length:Int):=bN;obtain⟨ad139,A139_1,c139_1,e139,hx139_0,hx139_1,hl139_1,hi139_1⟩:=dC HR0_1.out x3_1 p139 q139;obtain rfl:ad136=ad139:=(by injection e139);replace hx139_0:=bg HB hx139_0;replace hx139_1:=bg HB hx139_1;have HR139_1:=ae hi139_1;have HC139_1:=ae hl139_1;clear hi139_1 hl139_1;replace p139:=eq_true p139;replace q139:=eq_true q139;go_wp2
              repeat(go_quiet (fail);try go_wp2)
              go_roundg k2
              case measure=>have:=HK1.out;have:=HK2.out;omega
              case rel=>exact⟨(wrap64 (x4_2+1)),(by first|rfl|(simp;done)|(simp[*];done)),H',⟨by have:=HK1.out;have:=HK2.out;omega⟩,⟨bk BK134⟩,⟨bl⟩⟩
            ·rw[if_neg c13]at H;exact absurd H (by simp)
           ·rw[if_neg c12]at H;exact absurd H (by simp)
          ·rw[if_neg c11]at H;exact absurd H (by simp)
         ·rw[if_neg eA]at H;exact absurd H (by simp)
        ·rw[if_neg c9]at H;have c9b0:decide (x4_2<x3_1)=false:=b5 c9;clear c9;have H':=ae H;clear H;go_wp2
         repeat(go_quiet (fail);try go_wp2)
         go_roundg k2
         case measure=>have:=HK1.out;have:=HK2.out;omega
         case rel=>exact⟨(wrap64 (x3_1+1)),(by first|rfl|(simp;done)|(simp[*];done)),H',⟨by have:=HK1.out;have:=HK2.out;omega⟩,⟨bk BK134⟩,⟨bl⟩⟩
     ·replace c6:=eK c6;subst c6;have H1:(some false)=some r:=by rw[if_neg (show ¬(false=true) by decide)]at H;exact H
      clear H;have H:=H1;clear H1;obtain rfl:=bL H;obtain⟨z17_0,z17_1,y17_0,y17_1⟩:=eU BK134.out;have p136:0≤(x3_1:Int):=bN;have q136:x3_1<(l0_1.length:Int):=bN;obtain⟨ad136,A136_1,c136_1,e136,hx136_0,hx136_1,hl136_1,hi136_1⟩:=dC HR0_1.out x3_1 p136 q136;cases e136;replace hx136_0:=bg HB hx136_0;replace hx136_1:=bg HB hx136_1;have HR136_1:=ae hi136_1;have HC136_1:=ae hl136_1;clear hi136_1 hl136_1;replace p136:=eq_true p136;replace q136:=eq_true q136;go_wp2_with (first|(go_at_call 63;(with_reducible refine(bm.calls k1 ((aq l0_1 x3_1).f0) _ _ ((aq l0_1 x3_1).f1) false _ ?side1 ?side2 A5.out).mono ?_);(case side1=>exact fA (Kd.bH HR136_1.out HB.out));(case side2=>exact HC136_1.out);rintro e w18 ⟨rfl,hb⟩;replace BK134:=dW BK134 hb;replace HB:=ch hb))
      repeat(go_quiet (first|(go_at_call 63;(with_reducible refine(bm.calls k1 ((aq l0_1 x3_1).f0) _ _ ((aq l0_1 x3_1).f1) false _ ?side1 ?side2 A5.out).mono ?_);(case side1=>exact fA (Kd.bH HR136_1.out HB.out));(case side2=>exact HC136_1.out);rintro e w18 ⟨rfl,hb⟩;replace BK134:=dW BK134 hb;replace HB:=ch hb));try go_wp2_with (first|(go_at_call 63;(with_reducible refine(bm.calls k1 ((aq l0_1 x3_1).f0) _ _ ((aq l0_1 x3_1).f1) false _ ?side1 ?side2 A5.out).mono ?_);(case side1=>exact fA (Kd.bH HR136_1.out HB.out));(case side2=>exact HC136_1.out);rintro e w18 ⟨rfl,hb⟩;replace BK134:=dW BK134 hb;replace HB:=ch hb)))
      go_ret;exact cu
    ·rw[if_neg c4]at H;exact absurd H (by simp)
   ·rw[if_neg c3]at H;have c3b0:decide (x3_1<(l0_1.length:Int))=false:=b5 c3;clear c3;replace H:=df H;obtain⟨t135,A19,H⟩:=H;by_cases c20:t135=true
    ·subst c20;have H1:(some (decide ((l0_1.length:Int)≤4)))=some r:=by rw[if_pos rfl]at H;exact H
     clear H;have H:=H1;clear H1;obtain rfl:=bL H;obtain⟨z21_0,z21_1,y21_0,y21_1⟩:=eU BK134.out;go_wp2_with (first|(go_at_call 64;(with_reducible refine(aX.calls k1 a0_0 true _ A19.out).mono ?_);rintro e w' ⟨rfl,⟨nd,rfl⟩⟩;(try first|exact⟨rfl,_,World.drewN_drewN _ _ _⟩|exact⟨rfl,_,Eq.trans (World.drewN_drewN _ _ _) (congrArg (World.drewN _) (Nat.add_assoc _ _ _))⟩)))
     repeat(go_quiet (first|(go_at_call 64;(with_reducible refine(aX.calls k1 a0_0 true _ A19.out).mono ?_);rintro e w' ⟨rfl,⟨nd,rfl⟩⟩;(try first|exact⟨rfl,_,World.drewN_drewN _ _ _⟩|exact⟨rfl,_,Eq.trans (World.drewN_drewN _ _ _) (congrArg (World.drewN _) (Nat.add_assoc _ _ _))⟩)));try go_wp2_with (first|(go_at_call 64;(with_reducible refine(aX.calls k1 a0_0 true _ A19.out).mono ?_);rintro e w' ⟨rfl,⟨nd,rfl⟩⟩;(try first|exact⟨rfl,_,World.drewN_drewN _ _ _⟩|exact⟨rfl,_,Eq.trans (World.drewN_drewN _ _ _) (congrArg (World.drewN _) (Nat.add_assoc _ _ _))⟩))))
     go_ret;exact cu
    ·replace c20:=eK c20;subst c20;have H1:(some false)=some r:=by rw[if_neg (show ¬(false=true) by decide)]at H;exact H
     clear H;have H:=H1;clear H1;obtain rfl:=bL H;obtain⟨z22_0,z22_1,y22_0,y22_1⟩:=eU BK134.out;go_wp2_with (first|(go_at_call 64;(with_reducible refine(aX.calls k1 a0_0 false _ A19.out).mono ?_);rintro e w' ⟨rfl,⟨nd,rfl⟩⟩;(try first|exact⟨rfl,_,World.drewN_drewN _ _ _⟩|exact⟨rfl,_,Eq.trans (World.drewN_drewN _ _ _) (congrArg (World.drewN _) (Nat.add_assoc _ _ _))⟩)))
     repeat(go_quiet (first|(go_at_call 64;(with_reducible refine(aX.calls k1 a0_0 false _ A19.out).mono ?_);rintro e w' ⟨rfl,⟨nd,rfl⟩⟩;(try first|exact⟨rfl,_,World.drewN_drewN _ _ _⟩|exact⟨rfl,_,Eq.trans (World.drewN_drewN _ _ _) (congrArg (World.drewN _) (Nat.add_assoc _ _ _))⟩)));try go_wp2_with (first|(go_at_call 64;(with_reducible refine(aX.calls k1 a0_0 false _ A19.out).mono ?_);rintro e w' ⟨rfl,⟨nd,rfl⟩⟩;(try first|exact⟨rfl,_,World.drewN_drewN _ _ _⟩|exact⟨rfl,_,Eq.trans (World.drewN_drewN _ _ _) (congrArg (World.drewN _) (Nat.add_assoc _ _ _))⟩))))
     go_ret;exact cu
def bn.l0:Nat→List (bY)→ByteArray→Int→Option (Int)
 | 0,_,_,_=>none
 | k+1,x0,x1,x5=>if x5<(x0.length:Int)then(if 0≤x5 then(if ((aN x0 x5).f0).toList=x1.toList then(some x5)else(bn.l0 k x0 x1 (wrap64 (x5+1))))else(none))else(some (-1))
def bn.f (k:Nat) (l0:List (bY)) (a1:ByteArray):Option (Int):=bn.l0 k l0 a1 0
theorem bn.bs:∀k,(∀y0 y1 y2,bd (bn.l0 k y0 y1 y2) (bn.l0 (k+1) y0 y1 y2))
 | 0=>fun _ _ _ r h=>by simp[bn.l0]at h
 | k+1=>by
  have ih0:=bn.bs k
  ·intro y0 y1 y2;unfold bn.l0
   repeat' with_reducible first|exact ih0 _ _ _|exact bd.refl _|exact bd.none _|refine bd.ite ?_ ?_|refine bd.bind ?_ (fun _=>?_)
theorem bn.mono:∀a0 a1 k,bd (bn.f k a0 a1) (bn.f (k+1) a0 a1):=by
 intro a0 a1 k;have ih0:=bn.bs k;unfold bn.f
 repeat' with_reducible first|exact ih0 _ _ _|exact bd.refl _|exact bd.none _|refine bd.ite ?_ ?_|refine bd.bind ?_ (fun _=>?_)
theorem bn.calls (k:Nat) (A0:Option Addr) (c0:Nat) (l0:List (bY)) (a1:ByteArray) (r:Int) (w:World) (hr0:Kd.C lQ w A0 l0.length l0) (hc0:l0.length≤c0) (h:bn.f k l0 a1=some r) :
  Calls Tryz.prog 40 #[.slice A0 l0.length c0,.string a1] w fun e w'=>e=.returned (.int .i64 r)∧bf w w':=by
 have HR0:=ae hr0;have HC0:=ae hc0;clear hr0 hc0;have H:(bn.l0 k l0 a1 0)=some r:=h;clear h;have H':=ae H;clear H;go_enter Tryz.func40,Tryz.ntmps40;go_wp2
 go_loopg [5] k (fun kq v5 w'=>∃(x5_1:Int),v5=.int .i64 x5_1∧Aside0 (bn.l0 kq l0 a1 x5_1=some r)∧Aside0 (kq≤k)∧bf w w')
 case atStart=>exact⟨(0),(by first|rfl|(simp;done)|(simp[*];done)),H',⟨Nat.le_refl _⟩,by repeat(first|exact bf.refl _|apply bf.step)⟩
 case round =>
  clear H';obtain⟨x5_1,rfl,HA,HK1,⟨m1,rfl⟩⟩:=hrel
  cases gk with
  | zero=>exact absurd HA.out (by simp[bn.l0])
  | succ k1 =>
   have H:=HA.out;clear HA;simp only[bn.l0]at H;by_cases c3:x5_1<(l0.length:Int)
   ·rw[if_pos c3]at H;have c3b0:decide (x5_1<(l0.length:Int))=true:=bW c3;clear c3;by_cases c4:0≤x5_1
    ·rw[if_pos c4]at H;have c4b0:decide (0≤x5_1)=true:=bW c4;clear c4;by_cases c5:((aN l0 x5_1).f0).toList=a1.toList
     ·rw[if_pos c5]at H;have c5b0:(((aN l0 x5_1).f0).toList==a1.toList)=true:=dX c5;have c5b1:(((aN l0 x5_1).f0).toList !=a1.toList)=false:=ed c5;clear c5;obtain rfl:=bL H;have p140:0≤(x5_1:Int):=bN;have q140:x5_1<(l0.length:Int):=bN;obtain⟨ad140,A140_1,c140_1,e140,hx140_0,hx140_1,hl140_1,hi140_1⟩:=dD HR0.out x5_1 p140 q140;cases e140;have HR140_1:=ae hi140_1;have HC140_1:=ae hl140_1;clear hi140_1 hl140_1;replace p140:=eq_true p140;replace q140:=eq_true q140;go_wp2;go_ret;exact⟨by first|rfl|(simp;done)|(simp[*];done),by repeat(first|exact bf.refl _|apply bf.step)⟩
     ·rw[if_neg c5]at H;have c5b0:(((aN l0 x5_1).f0).toList==a1.toList)=false:=di c5;have c5b1:(((aN l0 x5_1).f0).toList !=a1.toList)=true:=ee c5;have H':=ae H;clear H;have p140:0≤(x5_1:Int):=bN;have q140:x5_1<(l0.length:Int):=bN;obtain⟨ad140,A140_1,c140_1,e140,hx140_0,hx140_1,hl140_1,hi140_1⟩:=dD HR0.out x5_1 p140 q140;cases e140;have HR140_1:=ae hi140_1;have HC140_1:=ae hl140_1;clear hi140_1 hl140_1;replace p140:=eq_true p140;replace q140:=eq_true q140;go_wp2
      go_roundg k1
      case measure=>have:=HK1.out;omega
      case rel=>exact⟨(wrap64 (x5_1+1)),(by first|rfl|(simp;done)|(simp[*];done)),H',⟨by have:=HK1.out;omega⟩,by repeat(first|exact bf.refl _|apply bf.step)⟩
    ·rw[if_neg c4]at H;exact absurd H (by simp)
   ·rw[if_neg c3]at H;have c3b0:decide (x5_1<(l0.length:Int))=false:=b5 c3;clear c3;obtain rfl:=bL H;go_wp2;go_ret;exact⟨by first|rfl|(simp;done)|(simp[*];done),by repeat(first|exact bf.refl _|apply bf.step)⟩
def a7.l0:Nat→List (bY)→Int→Option (Bool)
 | 0,_,_=>none
 | k+1,x0,x3=>if x3<(x0.length:Int)then(if 0≤x3 then((aM.f k ((aN x0 x3).f0) ((aN x0 x3).f1)).bind fun t142=>(if t142=true then((bn.f k x0 ((aN x0 x3).f0)).bind fun t144=>(if t144=x3 then(a7.l0 k x0 (wrap64 (x3+1)))else(some false)))else(some false)))else(none))else(some (decide ((x0.length:Int)≤6)))
def a7.f (k:Nat) (l0:List (bY)):Option (Bool):=a7.l0 k l0 0
theorem a7.bs:∀k,(∀y0 y1,bd (a7.l0 k y0 y1) (a7.l0 (k+1) y0 y1))
 | 0=>fun _ _ r h=>by simp[a7.l0]at h
 | k+1=>by
  have ih0:=a7.bs k
  ·intro y0 y1;unfold a7.l0
   repeat' with_reducible first|exact ih0 _ _|exact bn.mono _ _ _|exact aM.mono _ _ _|exact bd.refl _|exact bd.none _|refine bd.ite ?_ ?_|refine bd.bind ?_ (fun _=>?_)
theorem a7.mono:∀a0 k,bd (a7.f k a0) (a7.f (k+1) a0):=by
 intro a0 k;have ih0:=a7.bs k;unfold a7.f
 repeat' with_reducible first|exact ih0 _ _|exact bn.mono _ _ _|exact aM.mono _ _ _|exact bd.refl _|exact bd.none _|refine bd.ite ?_ ?_|refine bd.bind ?_ (fun _=>?_)
theorem a7.calls (k:Nat) (A0:Option Addr) (c0:Nat) (l0:List (bY)) (r:Bool) (w:World) (hr0:Kd.C lQ w A0 l0.length l0) (hc0:l0.length≤c0) (h:a7.f k l0=some r) :
  Calls Tryz.prog 13 #[.slice A0 l0.length c0] w fun e w'=>e=.returned (.bool r)∧Below w.heap.size w w':=by
 have hu48:=Tryz.underlying48;have HR0:=ae hr0;have HC0:=ae hc0;clear hr0 hc0;have HB:=ae (Below.refl w.heap.size w);have H:(a7.l0 k l0 0)=some r:=h;clear h;have H':=ae H;clear H;go_enter Tryz.func13,Tryz.ntmps13;go_wp2
 go_loopg [3] k (fun kq v3 w'=>∃(x3_1:Int),v3=.int .i64 x3_1∧Aside0 (a7.l0 kq l0 x3_1=some r)∧Aside0 (kq≤k)∧Aside0 (Below w.heap.size w w'))
 case atStart=>exact⟨(0),(by first|rfl|(simp;done)|(simp[*];done)),H',⟨Nat.le_refl _⟩,⟨bl⟩⟩
 case round =>
  clear H';obtain⟨x3_1,rfl,HA,HK1,HB⟩:=hrel
  cases gk with
  | zero=>exact absurd HA.out (by simp[a7.l0])
  | succ k1 =>
   have H:=HA.out;clear HA;simp only[a7.l0]at H;by_cases c2:x3_1<(l0.length:Int)
   ·rw[if_pos c2]at H;have c2b0:decide (x3_1<(l0.length:Int))=true:=bW c2;clear c2;by_cases c3:0≤x3_1
    ·rw[if_pos c3]at H;have c3b0:decide (0≤x3_1)=true:=bW c3;clear c3;replace H:=df H;obtain⟨t142,A4,H⟩:=H;by_cases c5:t142=true
     ·subst c5;have H1:((bn.f k1 l0 ((aN l0 x3_1).f0)).bind fun t144=>(if t144=x3_1 then(a7.l0 k1 l0 (wrap64 (x3_1+1)))else(some false)))=some r:=by rw[if_pos rfl]at H;exact H
      clear H;have H:=H1;clear H1;replace H:=df H;obtain⟨t144,A6,H⟩:=H;by_cases c7:t144=x3_1
      ·rw[if_pos c7]at H;have c7b0:(t144==x3_1)=true:=dX c7;have c7b1:(t144 !=x3_1)=false:=ed c7;clear c7;have H':=ae H;clear H;have p141:0≤(x3_1:Int):=bN;have q141:x3_1<(l0.length:Int):=bN;obtain⟨ad141,A141_1,c141_1,e141,hx141_0,hx141_1,hl141_1,hi141_1⟩:=dD HR0.out x3_1 p141 q141;cases e141;replace hx141_0:=bg HB hx141_0;replace hx141_1:=bg HB hx141_1;have HR141_1:=ae hi141_1;have HC141_1:=ae hl141_1;clear hi141_1 hl141_1;replace p141:=eq_true p141;replace q141:=eq_true q141;go_wp2_with (first|((with_reducible refine ai (f:=39) rfl ?_);refine dm (some 14) Tryz.func39 #[.agg #[.string ((aN l0 x3_1).f0),.slice A141_1 ((aN l0 x3_1).f1).length c141_1]] ?_;(with_reducible refine(aM.calls k1 ((aN l0 x3_1).f0) _ _ ((aN l0 x3_1).f1) true _ ?side1 ?side2 A4.out).mono ?_);(case side1=>exact fA (Kd.bH HR141_1.out HB.out));(case side2=>exact HC141_1.out);rintro e w8 ⟨rfl,hb⟩;refine⟨_,rfl,?_⟩;replace HB:=ch hb;have p143:0≤(x3_1:Int):=bN;have q143:x3_1<(l0.length:Int):=bN;obtain⟨ad143,A143_1,c143_1,e143,hx143_0,hx143_1,hl143_1,hi143_1⟩:=dD HR0.out x3_1 p143 q143;obtain rfl:ad141=ad143:=(by injection e143);replace hx143_0:=bg HB hx143_0;replace hx143_1:=bg HB hx143_1;have HR143_1:=ae hi143_1;have HC143_1:=ae hl143_1;clear hi143_1 hl143_1;replace p143:=eq_true p143;replace q143:=eq_true q143)|(go_at_call 40;(with_reducible refine(bn.calls k1 _ _ l0 ((aN l0 x3_1).f0) t144 _ ?side1 ?side2 A6.out).mono ?_);(case side1=>exact fA (Kd.bH HR0.out HB.out));(case side2=>exact HC0.out);rintro e w' ⟨rfl,⟨nd,rfl⟩⟩))
       go_roundg k1
       case measure=>have:=HK1.out;omega
       case rel=>exact⟨(wrap64 (x3_1+1)),(by first|rfl|(simp;done)|(simp[*];done)),H',⟨by have:=HK1.out;omega⟩,⟨bl⟩⟩
      ·rw[if_neg c7]at H;have c7b0:(t144==x3_1)=false:=di c7;have c7b1:(t144 !=x3_1)=true:=ee c7;obtain rfl:=bL H;have p141:0≤(x3_1:Int):=bN;have q141:x3_1<(l0.length:Int):=bN;obtain⟨ad141,A141_1,c141_1,e141,hx141_0,hx141_1,hl141_1,hi141_1⟩:=dD HR0.out x3_1 p141 q141;cases e141;replace hx141_0:=bg HB hx141_0;replace hx141_1:=bg HB hx141_1;have HR141_1:=ae hi141_1;have HC141_1:=ae hl141_1;clear hi141_1 hl141_1;replace p141:=eq_true p141;replace q141:=eq_true q141;go_wp2_with (first|((with_reducible refine ai (f:=39) rfl ?_);refine dm (some 14) Tryz.func39 #[.agg #[.string ((aN l0 x3_1).f0),.slice A141_1 ((aN l0 x3_1).f1).length c141_1]] ?_;(with_reducible refine(aM.calls k1 ((aN l0 x3_1).f0) _ _ ((aN l0 x3_1).f1) true _ ?side1 ?side2 A4.out).mono ?_);(case side1=>exact fA (Kd.bH HR141_1.out HB.out));(case side2=>exact HC141_1.out);rintro e w9 ⟨rfl,hb⟩;refine⟨_,rfl,?_⟩;replace HB:=ch hb;have p143:0≤(x3_1:Int):=bN;have q143:x3_1<(l0.length:Int):=bN;obtain⟨ad143,A143_1,c143_1,e143,hx143_0,hx143_1,hl143_1,hi143_1⟩:=dD HR0.out x3_1 p143 q143;obtain rfl:ad141=ad143:=(by injection e143);replace hx143_0:=bg HB hx143_0;replace hx143_1:=bg HB hx143_1;have HR143_1:=ae hi143_1;have HC143_1:=ae hl143_1;clear hi143_1 hl143_1;replace p143:=eq_true p143;replace q143:=eq_true q143)|(go_at_call 40;(with_reducible refine(bn.calls k1 _ _ l0 ((aN l0 x3_1).f0) t144 _ ?side1 ?side2 A6.out).mono ?_);(case side1=>exact fA (Kd.bH HR0.out HB.out));(case side2=>exact HC0.out);rintro e w' ⟨rfl,⟨nd,rfl⟩⟩));go_ret;exact cu
     ·replace c5:=eK c5;subst c5;have H1:(some false)=some r:=by rw[if_neg (show ¬(false=true) by decide)]at H;exact H
      clear H;have H:=H1;clear H1;obtain rfl:=bL H;have p141:0≤(x3_1:Int):=bN;have q141:x3_1<(l0.length:Int):=bN;obtain⟨ad141,A141_1,c141_1,e141,hx141_0,hx141_1,hl141_1,hi141_1⟩:=dD HR0.out x3_1 p141 q141;cases e141;replace hx141_0:=bg HB hx141_0;replace hx141_1:=bg HB hx141_1;have HR141_1:=ae hi141_1;have HC141_1:=ae hl141_1;clear hi141_1 hl141_1;replace p141:=eq_true p141;replace q141:=eq_true q141;go_wp2_with (first|((with_reducible refine ai (f:=39) rfl ?_);refine dm (some 14) Tryz.func39 #[.agg #[.string ((aN l0 x3_1).f0),.slice A141_1 ((aN l0 x3_1).f1).length c141_1]] ?_;(with_reducible refine(aM.calls k1 ((aN l0 x3_1).f0) _ _ ((aN l0 x3_1).f1) false _ ?side1 ?side2 A4.out).mono ?_);(case side1=>exact fA (Kd.bH HR141_1.out HB.out));(case side2=>exact HC141_1.out);rintro e w10 ⟨rfl,hb⟩;refine⟨_,rfl,?_⟩;replace HB:=ch hb));go_ret;exact cu
    ·rw[if_neg c3]at H;exact absurd H (by simp)
   ·rw[if_neg c2]at H;have c2b0:decide (x3_1<(l0.length:Int))=false:=b5 c2;clear c2;obtain rfl:=bL H;go_wp2;go_ret;exact cu
end Go.Proofs.YtmipaoobkjppdaaGreatDoor.QFnExactParseLibrary
