import Derived.Test.YtmipaoobkjppdaaGreatDoorQFnTextsx0
set_option maxHeartbeats 8000000
set_option maxRecDepth 100000
namespace Go.Proofs.YtmipaoobkjppdaaGreatDoor.QFnTexts
open Go.RowKit Go.Proofs.YtmipaoobkjppdaaGreatDoorW 
open PrintWords PrintLast PrintMore
attribute [local go_sem] dq dr dT dU cT cU dt du
set_option linter.unusedVariables false
set_option linter.unusedSimpArgs false
def bX.f (a0:Int) (a1:Int) (a2:Int):Option (Bool):=if a0≥a1 then(some (decide (a0≤a2)))else(some false)
theorem bX.calls (a0:Int) (a1:Int) (a2:Int) (r:Bool) (w:World) (h:bX.f a0 a1 a2=some r) :
  Calls Tryz.prog 94 #[.int .i64 a0,.int .i64 a1,.int .i64 a2] w fun e w'=>e=.returned (.bool r)∧bg w w':=by
 have H:(if a0≥a1 then(some (decide (a0≤a2)))else(some false))=some r:=h;clear h;by_cases c4:a0≥a1
 ·rw[if_pos c4]at H;have c4b0:decide (a1≤a0)=true:=cH c4;clear c4;obtain rfl:=cq H;go_enter Tryz.func94,Tryz.ntmps94;go_wp2;go_ret;exact⟨by first|rfl|(simp;done)|(simp[*];done),by repeat(first|exact bg.refl _|apply bg.step)⟩
 ·rw[if_neg c4]at H;have c4b0:decide (a1≤a0)=false:=cW c4;clear c4;obtain rfl:=cq H;go_enter Tryz.func94,Tryz.ntmps94;go_wp2;go_ret;exact⟨by first|rfl|(simp;done)|(simp[*];done),by repeat(first|exact bg.refl _|apply bg.step)⟩
def bj.l0:Nat→ByteArray→Int→Option (Bool)
 | 0,_,_=>none
 | k+1,x0,x3=>if x3<(x0.size:Int)then(if 0≤x3 then(if (bt x0 x3)<97 then(some false)else(if (bt x0 x3)>122 then(some false)else(bj.l0 k x0 (wrap64 (x3+1)))))else(none))else((bX.f (x0.size:Int) 1 6).bind fun t101=>(some t101))
def bj.f (k:Nat) (a0:ByteArray):Option (Bool):=bj.l0 k a0 0
theorem bj.bS:∀k,(∀y0 y1,bm (bj.l0 k y0 y1) (bj.l0 (k+1) y0 y1))
 | 0=>fun _ _ r h=>by simp[bj.l0]at h
 | k+1=>by
  have ih0:=bj.bS k
  ·intro y0 y1;unfold bj.l0
   repeat' with_reducible first|exact ih0 _ _|exact bm.refl _|exact bm.none _|refine bm.ite ?_ ?_|refine bm.bind ?_ (fun _=>?_)
theorem bj.mono:∀a0 k,bm (bj.f k a0) (bj.f (k+1) a0):=by
 intro a0 k;have ih0:=bj.bS k;unfold bj.f
 repeat' with_reducible first|exact ih0 _ _|exact bm.refl _|exact bm.none _|refine bm.ite ?_ ?_|refine bm.bind ?_ (fun _=>?_)
theorem bj.calls (k:Nat) (a0:ByteArray) (r:Bool) (w:World) (h:bj.f k a0=some r) :
  Calls Tryz.prog 64 #[.string a0] w fun e w'=>e=.returned (.bool r)∧bg w w':=by
 have H:(bj.l0 k a0 0)=some r:=h;clear h;have H':=aa H;clear H;go_enter Tryz.func64,Tryz.ntmps64;go_wp2
 go_loopg [3] k (fun kq v3 w'=>∃(x3_1:Int),v3=.int .i64 x3_1∧Aside0 (bj.l0 kq a0 x3_1=some r)∧Aside0 (kq≤k)∧bg w w')
 case atStart=>exact⟨(0),(by first|rfl|(simp;done)|(simp[*];done)),H',⟨Nat.le_refl _⟩,by repeat(first|exact bg.refl _|apply bg.step)⟩
 case round =>
  clear H';obtain⟨x3_1,rfl,HA,HK1,⟨m1,rfl⟩⟩:=hrel
  cases gk with
  | zero=>exact absurd HA.out (by simp[bj.l0])
  | succ k1 =>
   have H:=HA.out;clear HA;simp only[bj.l0]at H;by_cases c2:x3_1<(a0.size:Int)
   ·rw[if_pos c2]at H;have c2b0:decide (x3_1<(a0.size:Int))=true:=cH c2;clear c2;by_cases c3:0≤x3_1
    ·rw[if_pos c3]at H;have c3b0:decide (0≤x3_1)=true:=cH c3;clear c3;by_cases c5:(bt a0 x3_1)<97
     ·rw[if_pos c5]at H;have c5b0:decide ((bt a0 x3_1)<97)=true:=cH c5;clear c5;obtain rfl:=cq H;have p4:0≤(x3_1:Int):=eb;have q4:x3_1<(a0.size:Int):=eb;have hx4:=gN a0 x3_1;replace p4:=eq_true p4;replace q4:=eq_true q4;go_wp2;go_ret;exact⟨by first|rfl|(simp;done)|(simp[*];done),by repeat(first|exact bg.refl _|apply bg.step)⟩
     ·rw[if_neg c5]at H;have c5b0:decide ((bt a0 x3_1)<97)=false:=cW c5;clear c5;by_cases c7:(bt a0 x3_1)>122
      ·rw[if_pos c7]at H;have c7b0:decide (122<(bt a0 x3_1))=true:=cH c7;clear c7;obtain rfl:=cq H;have p4:0≤(x3_1:Int):=eb;have q4:x3_1<(a0.size:Int):=eb;have hx4:=gN a0 x3_1;replace p4:=eq_true p4;replace q4:=eq_true q4;have p6:0≤(x3_1:Int):=eb;have q6:x3_1<(a0.size:Int):=eb;have hx6:=gN a0 x3_1;replace p6:=eq_true p6;replace q6:=eq_true q6;go_wp2;go_ret;exact⟨by first|rfl|(simp;done)|(simp[*];done),by repeat(first|exact bg.refl _|apply bg.step)⟩
      ·rw[if_neg c7]at H;have c7b0:decide (122<(bt a0 x3_1))=false:=cW c7;clear c7;have H':=aa H;clear H;have p4:0≤(x3_1:Int):=eb;have q4:x3_1<(a0.size:Int):=eb;have hx4:=gN a0 x3_1;replace p4:=eq_true p4;replace q4:=eq_true q4;have p6:0≤(x3_1:Int):=eb;have q6:x3_1<(a0.size:Int):=eb;have hx6:=gN a0 x3_1;replace p6:=eq_true p6;replace q6:=eq_true q6;go_wp2
       go_roundg k1
       case measure=>have:=HK1.out;omega
       case rel=>exact⟨(wrap64 (x3_1+1)),(by first|rfl|(simp;done)|(simp[*];done)),H',⟨by have:=HK1.out;omega⟩,by repeat(first|exact bg.refl _|apply bg.step)⟩
    ·rw[if_neg c3]at H;exact absurd H (by simp)
   ·rw[if_neg c2]at H;have c2b0:decide (x3_1<(a0.size:Int))=false:=cW c2;clear c2;replace H:=dW H;obtain⟨t101,A8,H⟩:=H;obtain rfl:=cq H;go_wp2_with (first|((with_reducible refine ae (f:=94) rfl ?_);refine cf (some 22) Tryz.func94 #[.int .i64 (a0.size:Int),.int .i64 1,.int .i64 6] ?_;(with_reducible refine(bX.calls (a0.size:Int) 1 6 t101 _ A8.out).mono ?_);rintro e w' ⟨rfl,⟨nd,rfl⟩⟩;refine⟨_,rfl,?_⟩));go_ret;exact⟨by first|rfl|(simp;done)|(simp[*];done),by repeat(first|exact bg.refl _|apply bg.step)⟩
def aJ.f (a0:Int):Option (Bool):=(bX.f a0 0 7).bind fun t102=>(some t102)
theorem aJ.calls (a0:Int) (r:Bool) (w:World) (h:aJ.f a0=some r) :
  Calls Tryz.prog 95 #[.int .i64 a0] w fun e w'=>e=.returned (.bool r)∧bg w w':=by
 have H:((bX.f a0 0 7).bind fun t102=>(some t102))=some r:=h;clear h;replace H:=dW H;obtain⟨t102,A2,H⟩:=H;obtain rfl:=cq H;go_enter Tryz.func95,Tryz.ntmps95;go_wp2_with (first|((with_reducible refine ae (f:=94) rfl ?_);refine cf (some 4) Tryz.func94 #[.int .i64 a0,.int .i64 0,.int .i64 7] ?_;(with_reducible refine(bX.calls a0 0 7 t102 _ A2.out).mono ?_);rintro e w' ⟨rfl,⟨nd,rfl⟩⟩;refine⟨_,rfl,?_⟩));go_ret;exact⟨by first|rfl|(simp;done)|(simp[*];done),by repeat(first|exact bg.refl _|apply bg.step)⟩
def dO.f (a0_0:Int) (a0_1:Int) (a0_2:Int) (a0_3:Int) (a0_4:Int) (a0_5:ByteArray):Option (Bool):=if a0_3=(-1)then(if a0_4=(-1)then(some true)else((aJ.f a0_3).bind fun t104=>(if t104=true then((aJ.f a0_4).bind fun t105=>(some t105))else(some false))))else((aJ.f a0_3).bind fun t106=>(if t106=true then(if a0_4=(-1)then(some true)else((aJ.f a0_4).bind fun t107=>(some t107)))else(some false)))
theorem dO.calls (a0_0:Int) (a0_1:Int) (a0_2:Int) (a0_3:Int) (a0_4:Int) (a0_5:ByteArray) (r:Bool) (w:World) (h:dO.f a0_0 a0_1 a0_2 a0_3 a0_4 a0_5=some r) :
  Calls Tryz.prog 96 #[.agg #[.int .i64 a0_0,.int .i64 a0_1,.int .i64 a0_2,.int .i64 a0_3,.int .i64 a0_4,.string a0_5]] w fun e w'=>e=.returned (.bool r)∧Below w.heap.size w w':=by
 have hu35:=Tryz.underlying35;have HB:=aa (Below.refl w.heap.size w);have H:(if a0_3=(-1)then(if a0_4=(-1)then(some true)else((aJ.f a0_3).bind fun t104=>(if t104=true then((aJ.f a0_4).bind fun t105=>(some t105))else(some false))))else((aJ.f a0_3).bind fun t106=>(if t106=true then(if a0_4=(-1)then(some true)else((aJ.f a0_4).bind fun t107=>(some t107)))else(some false))))=some r:=h;clear h;by_cases c2:a0_3=(-1)
 ·rw[if_pos c2]at H;have c2b0:(a0_3==(-1))=true:=eQ c2;have c2b1:(a0_3 !=(-1))=false:=fa c2;clear c2;by_cases c3:a0_4=(-1)
  ·rw[if_pos c3]at H;have c3b0:(a0_4==(-1))=true:=eQ c3;have c3b1:(a0_4 !=(-1))=false:=fa c3;clear c3;obtain rfl:=cq H;go_enter Tryz.func96,Tryz.ntmps96;go_wp2_with (first|((with_reducible refine aq (N:=1) rfl ?_);refine eN 1 #[.int .i64 a0_0,.int .i64 a0_1,.int .i64 a0_2,.int .i64 a0_3,.int .i64 a0_4,.string a0_5] 35 ?_;intro gb103 hg w4 hbox hb;have BK103:=aa (hbox);have GW103:=fx HB hg;have GE103:=fx HB hg;replace HB:=cw HB hb;clear hb hbox hg;obtain⟨z5_0,z5_1,z5_2,z5_3,z5_4,z5_5,y5_0,y5_1,y5_2,y5_3,y5_4,y5_5⟩:=dp BK103.out));go_ret;exact dL
  ·rw[if_neg c3]at H;have c3b0:(a0_4==(-1))=false:=ea c3;have c3b1:(a0_4 !=(-1))=true:=fc c3;replace H:=dW H;obtain⟨t104,A6,H⟩:=H;by_cases c7:t104=true
   ·subst c7;have H1:((aJ.f a0_4).bind fun t105=>(some t105))=some r:=by rw[if_pos rfl]at H;exact H
    clear H;have H:=H1;clear H1;replace H:=dW H;obtain⟨t105,A8,H⟩:=H;obtain rfl:=cq H;go_enter Tryz.func96,Tryz.ntmps96;go_wp2_with (first|((with_reducible refine aq (N:=1) rfl ?_);refine eN 1 #[.int .i64 a0_0,.int .i64 a0_1,.int .i64 a0_2,.int .i64 a0_3,.int .i64 a0_4,.string a0_5] 35 ?_;intro gb103 hg w9 hbox hb;have BK103:=aa (hbox);have GW103:=fx HB hg;have GE103:=fx HB hg;replace HB:=cw HB hb;clear hb hbox hg;obtain⟨z10_0,z10_1,z10_2,z10_3,z10_4,z10_5,y10_0,y10_1,y10_2,y10_3,y10_4,y10_5⟩:=dp BK103.out)|(go_at_call 95;(with_reducible refine(aJ.calls a0_3 true _ A6.out).mono ?_);rintro e w' ⟨rfl,⟨nd,rfl⟩⟩)|(go_at_call 95;(with_reducible refine(aJ.calls a0_4 t105 _ A8.out).mono ?_);rintro e w' ⟨rfl,⟨nd,rfl⟩⟩));go_ret;exact dL
   ·replace c7:=fy c7;subst c7;have H1:(some false)=some r:=by rw[if_neg (show ¬(false=true) by decide)]at H;exact H
    clear H;have H:=H1;clear H1;obtain rfl:=cq H;go_enter Tryz.func96,Tryz.ntmps96;go_wp2_with (first|((with_reducible refine aq (N:=1) rfl ?_);refine eN 1 #[.int .i64 a0_0,.int .i64 a0_1,.int .i64 a0_2,.int .i64 a0_3,.int .i64 a0_4,.string a0_5] 35 ?_;intro gb103 hg w11 hbox hb;have BK103:=aa (hbox);have GW103:=fx HB hg;have GE103:=fx HB hg;replace HB:=cw HB hb;clear hb hbox hg;obtain⟨z12_0,z12_1,z12_2,z12_3,z12_4,z12_5,y12_0,y12_1,y12_2,y12_3,y12_4,y12_5⟩:=dp BK103.out)|(go_at_call 95;(with_reducible refine(aJ.calls a0_3 false _ A6.out).mono ?_);rintro e w' ⟨rfl,⟨nd,rfl⟩⟩));go_ret;exact dL
 ·rw[if_neg c2]at H;have c2b0:(a0_3==(-1))=false:=ea c2;have c2b1:(a0_3 !=(-1))=true:=fc c2;replace H:=dW H;obtain⟨t106,A13,H⟩:=H;by_cases c14:t106=true
  ·subst c14;have H1:(if a0_4=(-1)then(some true)else((aJ.f a0_4).bind fun t107=>(some t107)))=some r:=by rw[if_pos rfl]at H;exact H
   clear H;have H:=H1;clear H1;by_cases c15:a0_4=(-1)
   ·rw[if_pos c15]at H;have c15b0:(a0_4==(-1))=true:=eQ c15;have c15b1:(a0_4 !=(-1))=false:=fa c15;clear c15;obtain rfl:=cq H;go_enter Tryz.func96,Tryz.ntmps96;go_wp2_with (first|((with_reducible refine aq (N:=1) rfl ?_);refine eN 1 #[.int .i64 a0_0,.int .i64 a0_1,.int .i64 a0_2,.int .i64 a0_3,.int .i64 a0_4,.string a0_5] 35 ?_;intro gb103 hg w16 hbox hb;have BK103:=aa (hbox);have GW103:=fx HB hg;have GE103:=fx HB hg;replace HB:=cw HB hb;clear hb hbox hg;obtain⟨z17_0,z17_1,z17_2,z17_3,z17_4,z17_5,y17_0,y17_1,y17_2,y17_3,y17_4,y17_5⟩:=dp BK103.out)|(go_at_call 95;(with_reducible refine(aJ.calls a0_3 true _ A13.out).mono ?_);rintro e w' ⟨rfl,⟨nd,rfl⟩⟩));go_ret;exact dL
   ·rw[if_neg c15]at H;have c15b0:(a0_4==(-1))=false:=ea c15;have c15b1:(a0_4 !=(-1))=true:=fc c15;replace H:=dW H;obtain⟨t107,A18,H⟩:=H;obtain rfl:=cq H;go_enter Tryz.func96,Tryz.ntmps96;go_wp2_with (first|((with_reducible refine aq (N:=1) rfl ?_);refine eN 1 #[.int .i64 a0_0,.int .i64 a0_1,.int .i64 a0_2,.int .i64 a0_3,.int .i64 a0_4,.string a0_5] 35 ?_;intro gb103 hg w19 hbox hb;have BK103:=aa (hbox);have GW103:=fx HB hg;have GE103:=fx HB hg;replace HB:=cw HB hb;clear hb hbox hg;obtain⟨z20_0,z20_1,z20_2,z20_3,z20_4,z20_5,y20_0,y20_1,y20_2,y20_3,y20_4,y20_5⟩:=dp BK103.out)|(go_at_call 95;(with_reducible refine(aJ.calls a0_3 true _ A13.out).mono ?_);rintro e w' ⟨rfl,⟨nd,rfl⟩⟩)|(go_at_call 95;(with_reducible refine(aJ.calls a0_4 t107 _ A18.out).mono ?_);rintro e w' ⟨rfl,⟨nd,rfl⟩⟩));go_ret;exact dL
  ·replace c14:=fy c14;subst c14;have H1:(some false)=some r:=by rw[if_neg (show ¬(false=true) by decide)]at H;exact H
   clear H;have H:=H1;clear H1;obtain rfl:=cq H;go_enter Tryz.func96,Tryz.ntmps96;go_wp2_with (first|((with_reducible refine aq (N:=1) rfl ?_);refine eN 1 #[.int .i64 a0_0,.int .i64 a0_1,.int .i64 a0_2,.int .i64 a0_3,.int .i64 a0_4,.string a0_5] 35 ?_;intro gb103 hg w21 hbox hb;have BK103:=aa (hbox);have GW103:=fx HB hg;have GE103:=fx HB hg;replace HB:=cw HB hb;clear hb hbox hg;obtain⟨z22_0,z22_1,z22_2,z22_3,z22_4,z22_5,y22_0,y22_1,y22_2,y22_3,y22_4,y22_5⟩:=dp BK103.out)|(go_at_call 95;(with_reducible refine(aJ.calls a0_3 false _ A13.out).mono ?_);rintro e w' ⟨rfl,⟨nd,rfl⟩⟩));go_ret;exact dL
end Go.Proofs.YtmipaoobkjppdaaGreatDoor.QFnTexts
