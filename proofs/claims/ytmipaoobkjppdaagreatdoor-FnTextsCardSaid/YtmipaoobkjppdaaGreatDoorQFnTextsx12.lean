import Derived.Test.YtmipaoobkjppdaaGreatDoorQFnTextsx1
import Derived.Test.YtmipaoobkjppdaaGreatDoorQFnTextsx11
namespace Go.Proofs.YtmipaoobkjppdaaGreatDoor.QFnTexts
open Go.RowKit Go.Proofs.YtmipaoobkjppdaaGreatDoorW 
open PrintWords PrintLast PrintMore
attribute [local go_sem] dq dr dT dU cT cU dt du
set_option linter.unusedVariables false
set_option linter.unusedSimpArgs false
attribute [local go_sem high] eqA35
def bP.j0:Nat→Int→Bool→Int→Int→Int→Int→Int→ByteArray→Option (Bool)
 | 0,_,_,_,_,_,_,_,_=>none
 | k+1,x4,x68,x217000,x217001,x217002,x217003,x217004,x217005=>if x68=true then(if (x217002==0&&(x217003==0&&(x217004==0&&(x217005.toList==([]:List UInt8)))))=true then((aN.f x217001).bind fun t223=>(some t223))else(some false))else(if x4=5 then(if (x217004==0&&(x217005.toList==([]:List UInt8)))=true then((aN.f x217001).bind fun t224=>(if t224=true then((aN.f x217002).bind fun t225=>(if t225=true then((aN.f x217003).bind fun t226=>(some t226))else(some false)))else(some false)))else(some false))else(if x4=6 then((aN.f x217001).bind fun t227=>(if t227=true then((aN.f x217002).bind fun t228=>(if t228=true then((dA.f x217003 x217004).bind fun t229=>(if t229=true then((bo.f k x217005).bind fun t230=>(some t230))else(some false)))else(some false)))else(some false)))else(if x4=7 then((aN.f x217001).bind fun t231=>(if t231=true then(if x217002=0 then((dA.f x217003 x217004).bind fun t232=>(if t232=true then((bo.f k x217005).bind fun t233=>(some t233))else(some false)))else(some false))else(some false)))else(if x4=8 then(if (x217003==0&&(x217004==0&&(x217005.toList==([]:List UInt8))))=true then((cj.f x217001 0 2).bind fun t234=>(if t234=true then((aN.f x217002).bind fun t235=>(some t235))else(some false)))else(some false))else(if x4=9 then(if (x217003==0&&(x217004==0&&(x217005.toList==([]:List UInt8))))=true then((aN.f x217001).bind fun t236=>(if t236=true then((cj.f x217002 1 12).bind fun t237=>(some t237))else(some false)))else(some false))else(some false))))))
def bP.f (k:Nat) (a0_0:Int) (a0_1:Int) (a0_2:Int) (a0_3:Int) (a0_4:Int) (a0_5:ByteArray):Option (Bool):=if a0_0=1 then(if (a0_3==0&&(a0_4==0&&(a0_5.toList==([]:List UInt8))))=true then((aN.f a0_1).bind fun t217=>(if t217=true then((cj.f a0_2 0 999999).bind fun t218=>(some t218))else(some false)))else(some false))else(if a0_0=2 then(if (a0_3==0&&(a0_4==0&&(a0_5.toList==([]:List UInt8))))=true then((aN.f a0_1).bind fun t219=>(if t219=true then((cj.f a0_2 0 1).bind fun t220=>(some t220))else(some false)))else(some false))else(if a0_0=3 then(if (a0_3==0&&(a0_4==0&&(a0_5.toList==([]:List UInt8))))=true then((aN.f a0_1).bind fun t221=>(if t221=true then((cj.f a0_2 0 2).bind fun t222=>(some t222))else(some false)))else(some false))else(if a0_0=4 then(bP.j0 k a0_0 (a0_0==4) a0_0 a0_1 a0_2 a0_3 a0_4 a0_5)else(bP.j0 k a0_0 (a0_0==10) a0_0 a0_1 a0_2 a0_3 a0_4 a0_5))))
theorem bP.bS:∀k,(∀y0 y1 y2 y3 y4 y5 y6 y7,bm (bP.j0 k y0 y1 y2 y3 y4 y5 y6 y7) (bP.j0 (k+1) y0 y1 y2 y3 y4 y5 y6 y7))
 | 0=>fun _ _ _ _ _ _ _ _ r h=>by simp[bP.j0]at h
 | k+1=>by
  have ih0:=bP.bS k
  ·intro y0 y1 y2 y3 y4 y5 y6 y7;unfold bP.j0
   repeat' with_reducible first|exact ih0 _ _ _ _ _ _ _ _|exact bo.mono _ _|exact bm.refl _|exact bm.none _|refine bm.ite ?_ ?_|refine bm.bind ?_ (fun _=>?_)
theorem bP.mono:∀a0 a1 a2 a3 a4 a5 k,bm (bP.f k a0 a1 a2 a3 a4 a5) (bP.f (k+1) a0 a1 a2 a3 a4 a5):=by
 intro a0 a1 a2 a3 a4 a5 k;have ih0:=bP.bS k;unfold bP.f
 repeat' with_reducible first|exact ih0 _ _ _ _ _ _ _ _|exact bo.mono _ _|exact bm.refl _|exact bm.none _|refine bm.ite ?_ ?_|refine bm.bind ?_ (fun _=>?_)
set_option maxHeartbeats 8000000 in
set_option maxRecDepth 100000 in
theorem bP.calls (k:Nat) (a0_0:Int) (a0_1:Int) (a0_2:Int) (a0_3:Int) (a0_4:Int) (a0_5:ByteArray) (r:Bool) (w:World) (h:bP.f k a0_0 a0_1 a0_2 a0_3 a0_4 a0_5=some r) :
  Calls Tryz.prog 47 #[.agg #[.int .i64 a0_0,.int .i64 a0_1,.int .i64 a0_2,.int .i64 a0_3,.int .i64 a0_4,.string a0_5]] w fun e w'=>e=.returned (.bool r)∧Below w.heap.size w w':=by
 have hu35:=Tryz.underlying35;have HB:=aa (Below.refl w.heap.size w);have H:(if a0_0=1 then(if (a0_3==0&&(a0_4==0&&(a0_5.toList==([]:List UInt8))))=true then((aN.f a0_1).bind fun t217=>(if t217=true then((cj.f a0_2 0 999999).bind fun t218=>(some t218))else(some false)))else(some false))else(if a0_0=2 then(if (a0_3==0&&(a0_4==0&&(a0_5.toList==([]:List UInt8))))=true then((aN.f a0_1).bind fun t219=>(if t219=true then((cj.f a0_2 0 1).bind fun t220=>(some t220))else(some false)))else(some false))else(if a0_0=3 then(if (a0_3==0&&(a0_4==0&&(a0_5.toList==([]:List UInt8))))=true then((aN.f a0_1).bind fun t221=>(if t221=true then((cj.f a0_2 0 2).bind fun t222=>(some t222))else(some false)))else(some false))else(if a0_0=4 then(bP.j0 k a0_0 (a0_0==4) a0_0 a0_1 a0_2 a0_3 a0_4 a0_5)else(bP.j0 k a0_0 (a0_0==10) a0_0 a0_1 a0_2 a0_3 a0_4 a0_5)))))=some r:=h;clear h;by_cases c2:a0_0=1
 ·rw[if_pos c2]at H;have c2b0:(a0_0==1)=true:=eQ c2;have c2b1:(a0_0 !=1)=false:=fa c2;clear c2;by_cases c3:(a0_3==0&&(a0_4==0&&(a0_5.toList==([]:List UInt8))))=true
  ·rw[if_pos c3]at H;have c3b0:(a0_3==0&&(a0_4==0&&(a0_5.toList==([]:List UInt8))))=true:=c3;have c3b0e:(a0_3==0&&(a0_4==0&&a0_5.toList.isEmpty))=true:=by rw[show a0_5.toList.isEmpty=(a0_5.toList==([]:List UInt8))from by cases a0_5.toList<;>rfl];exact c3b0
   (try(have c3b1:decide (a0_3=0&&(a0_4==0&&(a0_5.toList==([]:List UInt8))))=true:=by simpa using c3))
   (try(have c3b2:(a0_3==0&&(a0_4==0&&(a0_5.toList==([]:List UInt8))))=true:=by simpa using c3))
   clear c3;replace H:=dW H;obtain⟨t217,A4,H⟩:=H;by_cases c5:t217=true
   ·subst c5;have H1:((cj.f a0_2 0 999999).bind fun t218=>(some t218))=some r:=by rw[if_pos rfl]at H;exact H
    clear H;have H:=H1;clear H1;replace H:=dW H;obtain⟨t218,A6,H⟩:=H;obtain rfl:=cq H;go_enter Tryz.func47,Tryz.ntmps47;go_wp2_with (first|((with_reducible refine aq (N:=1) rfl ?_);refine eN 1 #[.int .i64 a0_0,.int .i64 a0_1,.int .i64 a0_2,.int .i64 a0_3,.int .i64 a0_4,.string a0_5] 35 ?_;intro gb216 hg w7 hbox hb;have BK216:=aa (hbox);have GW216:=fx HB hg;have GE216:=fx HB hg;replace HB:=cw HB hb;clear hb hbox hg;obtain⟨z8_0,z8_1,z8_2,z8_3,z8_4,z8_5,y8_0,y8_1,y8_2,y8_3,y8_4,y8_5⟩:=dp BK216.out)|(go_at_call 71;(with_reducible refine(aN.calls a0_1 true _ A4.out).mono ?_);rintro e w' ⟨rfl,⟨nd,rfl⟩⟩)|(go_at_call 72;(with_reducible refine(cj.calls a0_2 0 999999 t218 _ A6.out).mono ?_);rintro e w' ⟨rfl,⟨nd,rfl⟩⟩));go_ret;exact dL
   ·replace c5:=fy c5;subst c5;have H1:(some false)=some r:=by rw[if_neg (show ¬(false=true) by decide)]at H;exact H
    clear H;have H:=H1;clear H1;obtain rfl:=cq H;go_enter Tryz.func47,Tryz.ntmps47;go_wp2_with (first|((with_reducible refine aq (N:=1) rfl ?_);refine eN 1 #[.int .i64 a0_0,.int .i64 a0_1,.int .i64 a0_2,.int .i64 a0_3,.int .i64 a0_4,.string a0_5] 35 ?_;intro gb216 hg w9 hbox hb;have BK216:=aa (hbox);have GW216:=fx HB hg;have GE216:=fx HB hg;replace HB:=cw HB hb;clear hb hbox hg;obtain⟨z10_0,z10_1,z10_2,z10_3,z10_4,z10_5,y10_0,y10_1,y10_2,y10_3,y10_4,y10_5⟩:=dp BK216.out)|(go_at_call 71;(with_reducible refine(aN.calls a0_1 false _ A4.out).mono ?_);rintro e w' ⟨rfl,⟨nd,rfl⟩⟩));go_ret;exact dL
  ·rw[if_neg c3]at H;have c3b0:(a0_3==0&&(a0_4==0&&(a0_5.toList==([]:List UInt8))))=false:=by simpa using c3
   have c3b0e:(a0_3==0&&(a0_4==0&&a0_5.toList.isEmpty))=false:=by rw[show a0_5.toList.isEmpty=(a0_5.toList==([]:List UInt8))from by cases a0_5.toList<;>rfl];exact c3b0
   (try(have c3b1:decide (a0_3=0&&(a0_4==0&&(a0_5.toList==([]:List UInt8))))=false:=by simpa using c3))
   (try(have c3b2:(a0_3==0&&(a0_4==0&&(a0_5.toList==([]:List UInt8))))=false:=by simpa using c3))
   (try(have c3b3:¬(a0_3=0&&(a0_4==0&&(a0_5.toList==([]:List UInt8)))):=by simpa using c3))
   clear c3;obtain rfl:=cq H;go_enter Tryz.func47,Tryz.ntmps47;go_wp2_with (first|((with_reducible refine aq (N:=1) rfl ?_);refine eN 1 #[.int .i64 a0_0,.int .i64 a0_1,.int .i64 a0_2,.int .i64 a0_3,.int .i64 a0_4,.string a0_5] 35 ?_;intro gb216 hg w11 hbox hb;have BK216:=aa (hbox);have GW216:=fx HB hg;have GE216:=fx HB hg;replace HB:=cw HB hb;clear hb hbox hg;obtain⟨z12_0,z12_1,z12_2,z12_3,z12_4,z12_5,y12_0,y12_1,y12_2,y12_3,y12_4,y12_5⟩:=dp BK216.out));go_ret;exact dL
 ·rw[if_neg c2]at H;have c2b0:(a0_0==1)=false:=ea c2;have c2b1:(a0_0 !=1)=true:=fc c2;by_cases c13:a0_0=2
  ·rw[if_pos c13]at H;have c13b0:(a0_0==2)=true:=eQ c13;have c13b1:(a0_0 !=2)=false:=fa c13;clear c13;by_cases c14:(a0_3==0&&(a0_4==0&&(a0_5.toList==([]:List UInt8))))=true
   ·rw[if_pos c14]at H;have c14b0:(a0_3==0&&(a0_4==0&&(a0_5.toList==([]:List UInt8))))=true:=c14;have c14b0e:(a0_3==0&&(a0_4==0&&a0_5.toList.isEmpty))=true:=by rw[show a0_5.toList.isEmpty=(a0_5.toList==([]:List UInt8))from by cases a0_5.toList<;>rfl];exact c14b0
    (try(have c14b1:decide (a0_3=0&&(a0_4==0&&(a0_5.toList==([]:List UInt8))))=true:=by simpa using c14))
    (try(have c14b2:(a0_3==0&&(a0_4==0&&(a0_5.toList==([]:List UInt8))))=true:=by simpa using c14))
    clear c14;replace H:=dW H;obtain⟨t219,A15,H⟩:=H;by_cases c16:t219=true
    ·subst c16;have H1:((cj.f a0_2 0 1).bind fun t220=>(some t220))=some r:=by rw[if_pos rfl]at H;exact H
     clear H;have H:=H1;clear H1;replace H:=dW H;obtain⟨t220,A17,H⟩:=H;obtain rfl:=cq H;go_enter Tryz.func47,Tryz.ntmps47;go_wp2_with (first|((with_reducible refine aq (N:=1) rfl ?_);refine eN 1 #[.int .i64 a0_0,.int .i64 a0_1,.int .i64 a0_2,.int .i64 a0_3,.int .i64 a0_4,.string a0_5] 35 ?_;intro gb216 hg w18 hbox hb;have BK216:=aa (hbox);have GW216:=fx HB hg;have GE216:=fx HB hg;replace HB:=cw HB hb;clear hb hbox hg;obtain⟨z19_0,z19_1,z19_2,z19_3,z19_4,z19_5,y19_0,y19_1,y19_2,y19_3,y19_4,y19_5⟩:=dp BK216.out)|(go_at_call 71;(with_reducible refine(aN.calls a0_1 true _ A15.out).mono ?_);rintro e w' ⟨rfl,⟨nd,rfl⟩⟩)|(go_at_call 72;(with_reducible refine(cj.calls a0_2 0 1 t220 _ A17.out).mono ?_);rintro e w' ⟨rfl,⟨nd,rfl⟩⟩));go_ret;exact dL
    ·replace c16:=fy c16;subst c16;have H1:(some false)=some r:=by rw[if_neg (show ¬(false=true) by decide)]at H;exact H
     clear H;have H:=H1;clear H1;obtain rfl:=cq H;go_enter Tryz.func47,Tryz.ntmps47;go_wp2_with (first|((with_reducible refine aq (N:=1) rfl ?_);refine eN 1 #[.int .i64 a0_0,.int .i64 a0_1,.int .i64 a0_2,.int .i64 a0_3,.int .i64 a0_4,.string a0_5] 35 ?_;intro gb216 hg w20 hbox hb;have BK216:=aa (hbox);have GW216:=fx HB hg;have GE216:=fx HB hg;replace HB:=cw HB hb;clear hb hbox hg;obtain⟨z21_0,z21_1,z21_2,z21_3,z21_4,z21_5,y21_0,y21_1,y21_2,y21_3,y21_4,y21_5⟩:=dp BK216.out)|(go_at_call 71;(with_reducible refine(aN.calls a0_1 false _ A15.out).mono ?_);rintro e w' ⟨rfl,⟨nd,rfl⟩⟩));go_ret;exact dL
   ·rw[if_neg c14]at H;have c14b0:(a0_3==0&&(a0_4==0&&(a0_5.toList==([]:List UInt8))))=false:=by simpa using c14
    have c14b0e:(a0_3==0&&(a0_4==0&&a0_5.toList.isEmpty))=false:=by rw[show a0_5.toList.isEmpty=(a0_5.toList==([]:List UInt8))from by cases a0_5.toList<;>rfl];exact c14b0
    (try(have c14b1:decide (a0_3=0&&(a0_4==0&&(a0_5.toList==([]:List UInt8))))=false:=by simpa using c14))
    (try(have c14b2:(a0_3==0&&(a0_4==0&&(a0_5.toList==([]:List UInt8))))=false:=by simpa using c14))
    (try(have c14b3:¬(a0_3=0&&(a0_4==0&&(a0_5.toList==([]:List UInt8)))):=by simpa using c14))
    clear c14;obtain rfl:=cq H;go_enter Tryz.func47,Tryz.ntmps47;go_wp2_with (first|((with_reducible refine aq (N:=1) rfl ?_);refine eN 1 #[.int .i64 a0_0,.int .i64 a0_1,.int .i64 a0_2,.int .i64 a0_3,.int .i64 a0_4,.string a0_5] 35 ?_;intro gb216 hg w22 hbox hb;have BK216:=aa (hbox);have GW216:=fx HB hg;have GE216:=fx HB hg;replace HB:=cw HB hb;clear hb hbox hg;obtain⟨z23_0,z23_1,z23_2,z23_3,z23_4,z23_5,y23_0,y23_1,y23_2,y23_3,y23_4,y23_5⟩:=dp BK216.out));go_ret;exact dL
  ·rw[if_neg c13]at H;have c13b0:(a0_0==2)=false:=ea c13;have c13b1:(a0_0 !=2)=true:=fc c13;by_cases c24:a0_0=3
   ·rw[if_pos c24]at H;have c24b0:(a0_0==3)=true:=eQ c24;have c24b1:(a0_0 !=3)=false:=fa c24;clear c24;by_cases c25:(a0_3==0&&(a0_4==0&&(a0_5.toList==([]:List UInt8))))=true
    ·rw[if_pos c25]at H;have c25b0:(a0_3==0&&(a0_4==0&&(a0_5.toList==([]:List UInt8))))=true:=c25;have c25b0e:(a0_3==0&&(a0_4==0&&a0_5.toList.isEmpty))=true:=by rw[show a0_5.toList.isEmpty=(a0_5.toList==([]:List UInt8))from by cases a0_5.toList<;>rfl];exact c25b0
     (try(have c25b1:decide (a0_3=0&&(a0_4==0&&(a0_5.toList==([]:List UInt8))))=true:=by simpa using c25))
     (try(have c25b2:(a0_3==0&&(a0_4==0&&(a0_5.toList==([]:List UInt8))))=true:=by simpa using c25))
     clear c25;replace H:=dW H;obtain⟨t221,A26,H⟩:=H;by_cases c27:t221=true
     ·subst c27;have H1:((cj.f a0_2 0 2).bind fun t222=>(some t222))=some r:=by rw[if_pos rfl]at H;exact H
      clear H;have H:=H1;clear H1;replace H:=dW H;obtain⟨t222,A28,H⟩:=H;obtain rfl:=cq H;go_enter Tryz.func47,Tryz.ntmps47;go_wp2_with (first|((with_reducible refine aq (N:=1) rfl ?_);refine eN 1 #[.int .i64 a0_0,.int .i64 a0_1,.int .i64 a0_2,.int .i64 a0_3,.int .i64 a0_4,.string a0_5] 35 ?_;intro gb216 hg w29 hbox hb;have BK216:=aa (hbox);have GW216:=fx HB hg;have GE216:=fx HB hg;replace HB:=cw HB hb;clear hb hbox hg;obtain⟨z30_0,z30_1,z30_2,z30_3,z30_4,z30_5,y30_0,y30_1,y30_2,y30_3,y30_4,y30_5⟩:=dp BK216.out)|(go_at_call 71;(with_reducible refine(aN.calls a0_1 true _ A26.out).mono ?_);rintro e w' ⟨rfl,⟨nd,rfl⟩⟩)|(go_at_call 72;(with_reducible refine(cj.calls a0_2 0 2 t222 _ A28.out).mono ?_);rintro e w' ⟨rfl,⟨nd,rfl⟩⟩));go_ret;exact dL
     ·replace c27:=fy c27;subst c27;have H1:(some false)=some r:=by rw[if_neg (show ¬(false=true) by decide)]at H;exact H
      clear H;have H:=H1;clear H1;obtain rfl:=cq H;go_enter Tryz.func47,Tryz.ntmps47;go_wp2_with (first|((with_reducible refine aq (N:=1) rfl ?_);refine eN 1 #[.int .i64 a0_0,.int .i64 a0_1,.int .i64 a0_2,.int .i64 a0_3,.int .i64 a0_4,.string a0_5] 35 ?_;intro gb216 hg w31 hbox hb;have BK216:=aa (hbox);have GW216:=fx HB hg;have GE216:=fx HB hg;replace HB:=cw HB hb;clear hb hbox hg;obtain⟨z32_0,z32_1,z32_2,z32_3,z32_4,z32_5,y32_0,y32_1,y32_2,y32_3,y32_4,y32_5⟩:=dp BK216.out)|(go_at_call 71;(with_reducible refine(aN.calls a0_1 false _ A26.out).mono ?_);rintro e w' ⟨rfl,⟨nd,rfl⟩⟩));go_ret;exact dL
    ·rw[if_neg c25]at H;have c25b0:(a0_3==0&&(a0_4==0&&(a0_5.toList==([]:List UInt8))))=false:=by simpa using c25
     have c25b0e:(a0_3==0&&(a0_4==0&&a0_5.toList.isEmpty))=false:=by rw[show a0_5.toList.isEmpty=(a0_5.toList==([]:List UInt8))from by cases a0_5.toList<;>rfl];exact c25b0
     (try(have c25b1:decide (a0_3=0&&(a0_4==0&&(a0_5.toList==([]:List UInt8))))=false:=by simpa using c25))
     (try(have c25b2:(a0_3==0&&(a0_4==0&&(a0_5.toList==([]:List UInt8))))=false:=by simpa using c25))
     (try(have c25b3:¬(a0_3=0&&(a0_4==0&&(a0_5.toList==([]:List UInt8)))):=by simpa using c25))
     clear c25;obtain rfl:=cq H;go_enter Tryz.func47,Tryz.ntmps47;go_wp2_with (first|((with_reducible refine aq (N:=1) rfl ?_);refine eN 1 #[.int .i64 a0_0,.int .i64 a0_1,.int .i64 a0_2,.int .i64 a0_3,.int .i64 a0_4,.string a0_5] 35 ?_;intro gb216 hg w33 hbox hb;have BK216:=aa (hbox);have GW216:=fx HB hg;have GE216:=fx HB hg;replace HB:=cw HB hb;clear hb hbox hg;obtain⟨z34_0,z34_1,z34_2,z34_3,z34_4,z34_5,y34_0,y34_1,y34_2,y34_3,y34_4,y34_5⟩:=dp BK216.out));go_ret;exact dL
   ·rw[if_neg c24]at H;have c24b0:(a0_0==3)=false:=ea c24;have c24b1:(a0_0 !=3)=true:=fc c24;have HC35:=aa H;clear H;go_enter Tryz.func47,Tryz.ntmps47
    go_upto_if 68 with (first|((with_reducible refine aq (N:=1) rfl ?_);refine eN 1 #[.int .i64 a0_0,.int .i64 a0_1,.int .i64 a0_2,.int .i64 a0_3,.int .i64 a0_4,.string a0_5] 35 ?_;intro gb216 hg w36 hbox hb;have BK216:=aa (hbox);have GW216:=fx HB hg;have GE216:=fx HB hg;replace HB:=cw HB hb;clear hb hbox hg;obtain⟨z37_0,z37_1,z37_2,z37_3,z37_4,z37_5,y37_0,y37_1,y37_2,y37_3,y37_4,y37_5⟩:=dp BK216.out))
    (try simp only[Act.put,List.setIfInBounds_toArray,List.set_cons_zero,List.set_cons_succ])
    go_cut [68] (fun v68 wc=>∃(kq:Nat) (x68_34:Bool),v68=.bool x68_34∧Aside0 (bP.j0 kq a0_0 x68_34 a0_0 a0_1 a0_2 a0_3 a0_4 a0_5=some r)∧Aside0 (kq≤k)∧Aside0 (wc.heap[gb216]? =some (.cells #[.int .i64 a0_0,.int .i64 a0_1,.int .i64 a0_2,.int .i64 a0_3,.int .i64 a0_4,.string a0_5] 35 (0,0)))∧Aside0 (Below w.heap.size w wc))
    case first =>
     have H:=HC35.out;clear HC35;by_cases c38:a0_0=4
     ·rw[if_pos c38]at H;have c38b0:(a0_0==4)=true:=eQ c38;have c38b1:(a0_0 !=4)=false:=fa c38;clear c38
      (first|rw[c38b0]|(simp only[df,dh];rw[c38b0])|skip)
      have H':=aa H;clear H;go_wp2;go_meet
      case rel=>exact⟨_,((a0_0==4)),(by first|rfl|(simp;done)|(simp[*];done)),H',⟨by first|omega|exact Nat.le_refl _⟩,⟨bk BK216⟩,⟨(bl HB)⟩⟩
     ·rw[if_neg c38]at H;have c38b0:(a0_0==4)=false:=ea c38;have c38b1:(a0_0 !=4)=true:=fc c38
      (first|rw[c38b0]|(simp only[df,dh];rw[c38b0])|skip)
      have H':=aa H;clear H;go_wp2;go_meet
      case rel=>exact⟨_,((a0_0==10)),(by first|rfl|(simp;done)|(simp[*];done)),H',⟨by first|omega|exact Nat.le_refl _⟩,⟨bk BK216⟩,⟨(bl HB)⟩⟩
    case rest =>
     clear HC35;obtain⟨kq,x68_34,rfl,HA,HJ34,BK216,HB⟩:=hcut
     cases kq with
     | zero=>exact absurd HA.out (by simp[bP.j0])
     | succ kj34 =>
      have H:=HA.out;clear HA;simp only[bP.j0]at H;by_cases c39:x68_34=true
      ·subst c39;have H1:(if (a0_2==0&&(a0_3==0&&(a0_4==0&&(a0_5.toList==([]:List UInt8)))))=true then((aN.f a0_1).bind fun t223=>(some t223))else(some false))=some r:=by rw[if_pos rfl]at H;exact H
       clear H;have H:=H1;clear H1;by_cases c40:(a0_2==0&&(a0_3==0&&(a0_4==0&&(a0_5.toList==([]:List UInt8)))))=true
       ·rw[if_pos c40]at H;have c40b0:(a0_2==0&&(a0_3==0&&(a0_4==0&&(a0_5.toList==([]:List UInt8)))))=true:=c40;have c40b0e:(a0_2==0&&(a0_3==0&&(a0_4==0&&a0_5.toList.isEmpty)))=true:=by rw[show a0_5.toList.isEmpty=(a0_5.toList==([]:List UInt8))from by cases a0_5.toList<;>rfl];exact c40b0
        (try(have c40b1:decide (a0_2=0&&(a0_3==0&&(a0_4==0&&(a0_5.toList==([]:List UInt8)))))=true:=by simpa using c40))
        (try(have c40b2:(a0_2==0&&(a0_3==0&&(a0_4==0&&(a0_5.toList==([]:List UInt8)))))=true:=by simpa using c40))
        clear c40;replace H:=dW H;obtain⟨t223,A41,H⟩:=H;obtain rfl:=cq H;obtain⟨z42_0,z42_1,z42_2,z42_3,z42_4,z42_5,y42_0,y42_1,y42_2,y42_3,y42_4,y42_5⟩:=dp BK216.out;go_wp2_with (first|(go_at_call 71;(with_reducible refine(aN.calls a0_1 t223 _ A41.out).mono ?_);rintro e w' ⟨rfl,⟨nd,rfl⟩⟩));go_ret;exact dL
       ·rw[if_neg c40]at H;have c40b0:(a0_2==0&&(a0_3==0&&(a0_4==0&&(a0_5.toList==([]:List UInt8)))))=false:=by simpa using c40
        have c40b0e:(a0_2==0&&(a0_3==0&&(a0_4==0&&a0_5.toList.isEmpty)))=false:=by rw[show a0_5.toList.isEmpty=(a0_5.toList==([]:List UInt8))from by cases a0_5.toList<;>rfl];exact c40b0
        (try(have c40b1:decide (a0_2=0&&(a0_3==0&&(a0_4==0&&(a0_5.toList==([]:List UInt8)))))=false:=by simpa using c40))
        (try(have c40b2:(a0_2==0&&(a0_3==0&&(a0_4==0&&(a0_5.toList==([]:List UInt8)))))=false:=by simpa using c40))
        (try(have c40b3:¬(a0_2=0&&(a0_3==0&&(a0_4==0&&(a0_5.toList==([]:List UInt8))))):=by simpa using c40))
        clear c40;obtain rfl:=cq H;obtain⟨z43_0,z43_1,z43_2,z43_3,z43_4,z43_5,y43_0,y43_1,y43_2,y43_3,y43_4,y43_5⟩:=dp BK216.out;go_wp2;go_ret;exact dL
      ·replace c39:=fy c39;subst c39;have H1:(if a0_0=5 then(if (a0_4==0&&(a0_5.toList==([]:List UInt8)))=true then((aN.f a0_1).bind fun t224=>(if t224=true then((aN.f a0_2).bind fun t225=>(if t225=true then((aN.f a0_3).bind fun t226=>(some t226))else(some false)))else(some false)))else(some false))else(if a0_0=6 then((aN.f a0_1).bind fun t227=>(if t227=true then((aN.f a0_2).bind fun t228=>(if t228=true then((dA.f a0_3 a0_4).bind fun t229=>(if t229=true then((bo.f kj34 a0_5).bind fun t230=>(some t230))else(some false)))else(some false)))else(some false)))else(if a0_0=7 then((aN.f a0_1).bind fun t231=>(if t231=true then(if a0_2=0 then((dA.f a0_3 a0_4).bind fun t232=>(if t232=true then((bo.f kj34 a0_5).bind fun t233=>(some t233))else(some false)))else(some false))else(some false)))else(if a0_0=8 then(if (a0_3==0&&(a0_4==0&&(a0_5.toList==([]:List UInt8))))=true then((cj.f a0_1 0 2).bind fun t234=>(if t234=true then((aN.f a0_2).bind fun t235=>(some t235))else(some false)))else(some false))else(if a0_0=9 then(if (a0_3==0&&(a0_4==0&&(a0_5.toList==([]:List UInt8))))=true then((aN.f a0_1).bind fun t236=>(if t236=true then((cj.f a0_2 1 12).bind fun t237=>(some t237))else(some false)))else(some false))else(some false))))))=some r:=by rw[if_neg (show ¬(false=true) by decide)]at H;exact H
       clear H;have H:=H1;clear H1;by_cases c44:a0_0=5
       ·rw[if_pos c44]at H;have c44b0:(a0_0==5)=true:=eQ c44;have c44b1:(a0_0 !=5)=false:=fa c44;clear c44;by_cases c45:(a0_4==0&&(a0_5.toList==([]:List UInt8)))=true
        ·rw[if_pos c45]at H;have c45b0:(a0_4==0&&(a0_5.toList==([]:List UInt8)))=true:=c45;have c45b0e:(a0_4==0&&a0_5.toList.isEmpty)=true:=by rw[show a0_5.toList.isEmpty=(a0_5.toList==([]:List UInt8))from by cases a0_5.toList<;>rfl];exact c45b0
         (try(have c45b1:decide (a0_4=0&&(a0_5.toList==([]:List UInt8)))=true:=by simpa using c45))
         (try(have c45b2:(a0_4==0&&(a0_5.toList==([]:List UInt8)))=true:=by simpa using c45))
         clear c45;replace H:=dW H;obtain⟨t224,A46,H⟩:=H;by_cases c47:t224=true
         ·subst c47;have H1:((aN.f a0_2).bind fun t225=>(if t225=true then((aN.f a0_3).bind fun t226=>(some t226))else(some false)))=some r:=by rw[if_pos rfl]at H;exact H
          clear H;have H:=H1;clear H1;replace H:=dW H;obtain⟨t225,A48,H⟩:=H;by_cases c49:t225=true
          ·subst c49;have H1:((aN.f a0_3).bind fun t226=>(some t226))=some r:=by rw[if_pos rfl]at H;exact H
           clear H;have H:=H1;clear H1;replace H:=dW H;obtain⟨t226,A50,H⟩:=H;obtain rfl:=cq H;obtain⟨z51_0,z51_1,z51_2,z51_3,z51_4,z51_5,y51_0,y51_1,y51_2,y51_3,y51_4,y51_5⟩:=dp BK216.out;go_wp2_with (first|(go_at_call 71;(with_reducible refine(aN.calls a0_1 true _ A46.out).mono ?_);rintro e w' ⟨rfl,⟨nd,rfl⟩⟩)|(go_at_call 71;(with_reducible refine(aN.calls a0_2 true _ A48.out).mono ?_);rintro e w' ⟨rfl,⟨nd,rfl⟩⟩)|(go_at_call 71;(with_reducible refine(aN.calls a0_3 t226 _ A50.out).mono ?_);rintro e w' ⟨rfl,⟨nd,rfl⟩⟩));go_ret;exact dL
          ·replace c49:=fy c49;subst c49;have H1:(some false)=some r:=by rw[if_neg (show ¬(false=true) by decide)]at H;exact H
           clear H;have H:=H1;clear H1;obtain rfl:=cq H;obtain⟨z52_0,z52_1,z52_2,z52_3,z52_4,z52_5,y52_0,y52_1,y52_2,y52_3,y52_4,y52_5⟩:=dp BK216.out;go_wp2_with (first|(go_at_call 71;(with_reducible refine(aN.calls a0_1 true _ A46.out).mono ?_);rintro e w' ⟨rfl,⟨nd,rfl⟩⟩)|(go_at_call 71;(with_reducible refine(aN.calls a0_2 false _ A48.out).mono ?_);rintro e w' ⟨rfl,⟨nd,rfl⟩⟩));go_ret;exact dL
         ·replace c47:=fy c47;subst c47;have H1:(some false)=some r:=by rw[if_neg (show ¬(false=true) by decide)]at H;exact H
          clear H;have H:=H1;clear H1;obtain rfl:=cq H;obtain⟨z53_0,z53_1,z53_2,z53_3,z53_4,z53_5,y53_0,y53_1,y53_2,y53_3,y53_4,y53_5⟩:=dp BK216.out;go_wp2_with (first|(go_at_call 71;(with_reducible refine(aN.calls a0_1 false _ A46.out).mono ?_);rintro e w' ⟨rfl,⟨nd,rfl⟩⟩));go_ret;exact dL
        ·rw[if_neg c45]at H;have c45b0:(a0_4==0&&(a0_5.toList==([]:List UInt8)))=false:=by simpa using c45
         have c45b0e:(a0_4==0&&a0_5.toList.isEmpty)=false:=by rw[show a0_5.toList.isEmpty=(a0_5.toList==([]:List UInt8))from by cases a0_5.toList<;>rfl];exact c45b0
         (try(have c45b1:decide (a0_4=0&&(a0_5.toList==([]:List UInt8)))=false:=by simpa using c45))
         (try(have c45b2:(a0_4==0&&(a0_5.toList==([]:List UInt8)))=false:=by simpa using c45))
         (try(have c45b3:¬(a0_4=0&&(a0_5.toList==([]:List UInt8))):=by simpa using c45))
         clear c45;obtain rfl:=cq H;obtain⟨z54_0,z54_1,z54_2,z54_3,z54_4,z54_5,y54_0,y54_1,y54_2,y54_3,y54_4,y54_5⟩:=dp BK216.out;go_wp2;go_ret;exact dL
       ·rw[if_neg c44]at H;have c44b0:(a0_0==5)=false:=ea c44;have c44b1:(a0_0 !=5)=true:=fc c44;by_cases c55:a0_0=6
        ·rw[if_pos c55]at H;have c55b0:(a0_0==6)=true:=eQ c55;have c55b1:(a0_0 !=6)=false:=fa c55;clear c55;replace H:=dW H;obtain⟨t227,A56,H⟩:=H;by_cases c57:t227=true
         ·subst c57;have H1:((aN.f a0_2).bind fun t228=>(if t228=true then((dA.f a0_3 a0_4).bind fun t229=>(if t229=true then((bo.f kj34 a0_5).bind fun t230=>(some t230))else(some false)))else(some false)))=some r:=by rw[if_pos rfl]at H;exact H
          clear H;have H:=H1;clear H1;replace H:=dW H;obtain⟨t228,A58,H⟩:=H;by_cases c59:t228=true
          ·subst c59;have H1:((dA.f a0_3 a0_4).bind fun t229=>(if t229=true then((bo.f kj34 a0_5).bind fun t230=>(some t230))else(some false)))=some r:=by rw[if_pos rfl]at H;exact H
           clear H;have H:=H1;clear H1;replace H:=dW H;obtain⟨t229,A60,H⟩:=H;by_cases c61:t229=true
           ·subst c61;have H1:((bo.f kj34 a0_5).bind fun t230=>(some t230))=some r:=by rw[if_pos rfl]at H;exact H
            clear H;have H:=H1;clear H1;replace H:=dW H;obtain⟨t230,A62,H⟩:=H;obtain rfl:=cq H;obtain⟨z63_0,z63_1,z63_2,z63_3,z63_4,z63_5,y63_0,y63_1,y63_2,y63_3,y63_4,y63_5⟩:=dp BK216.out;go_wp2_with (first|((with_reducible refine ae (f:=71) rfl ?_);refine cf (some 115) Tryz.func71 #[.int .i64 a0_1] ?_;(with_reducible refine(aN.calls a0_1 true _ A56.out).mono ?_);rintro e w' ⟨rfl,⟨nd,rfl⟩⟩;refine⟨_,rfl,?_⟩)|(go_at_call 71;(with_reducible refine(aN.calls a0_2 true _ A58.out).mono ?_);rintro e w' ⟨rfl,⟨nd,rfl⟩⟩)|(go_at_call 73;(with_reducible refine(dA.calls a0_3 a0_4 true _ A60.out).mono ?_);rintro e w' ⟨rfl,⟨nd,rfl⟩⟩)|(go_at_call 74;(with_reducible refine(bo.calls kj34 a0_5 t230 _ A62.out).mono ?_);rintro e w' ⟨rfl,⟨nd,rfl⟩⟩));go_ret;exact dL
           ·replace c61:=fy c61;subst c61;have H1:(some false)=some r:=by rw[if_neg (show ¬(false=true) by decide)]at H;exact H
            clear H;have H:=H1;clear H1;obtain rfl:=cq H;obtain⟨z64_0,z64_1,z64_2,z64_3,z64_4,z64_5,y64_0,y64_1,y64_2,y64_3,y64_4,y64_5⟩:=dp BK216.out;go_wp2_with (first|((with_reducible refine ae (f:=71) rfl ?_);refine cf (some 115) Tryz.func71 #[.int .i64 a0_1] ?_;(with_reducible refine(aN.calls a0_1 true _ A56.out).mono ?_);rintro e w' ⟨rfl,⟨nd,rfl⟩⟩;refine⟨_,rfl,?_⟩)|(go_at_call 71;(with_reducible refine(aN.calls a0_2 true _ A58.out).mono ?_);rintro e w' ⟨rfl,⟨nd,rfl⟩⟩)|(go_at_call 73;(with_reducible refine(dA.calls a0_3 a0_4 false _ A60.out).mono ?_);rintro e w' ⟨rfl,⟨nd,rfl⟩⟩));go_ret;exact dL
          ·replace c59:=fy c59;subst c59;have H1:(some false)=some r:=by rw[if_neg (show ¬(false=true) by decide)]at H;exact H
           clear H;have H:=H1;clear H1;obtain rfl:=cq H;obtain⟨z65_0,z65_1,z65_2,z65_3,z65_4,z65_5,y65_0,y65_1,y65_2,y65_3,y65_4,y65_5⟩:=dp BK216.out;go_wp2_with (first|((with_reducible refine ae (f:=71) rfl ?_);refine cf (some 115) Tryz.func71 #[.int .i64 a0_1] ?_;(with_reducible refine(aN.calls a0_1 true _ A56.out).mono ?_);rintro e w' ⟨rfl,⟨nd,rfl⟩⟩;refine⟨_,rfl,?_⟩)|(go_at_call 71;(with_reducible refine(aN.calls a0_2 false _ A58.out).mono ?_);rintro e w' ⟨rfl,⟨nd,rfl⟩⟩));go_ret;exact dL
         ·replace c57:=fy c57;subst c57;have H1:(some false)=some r:=by rw[if_neg (show ¬(false=true) by decide)]at H;exact H
          clear H;have H:=H1;clear H1;obtain rfl:=cq H;obtain⟨z66_0,z66_1,z66_2,z66_3,z66_4,z66_5,y66_0,y66_1,y66_2,y66_3,y66_4,y66_5⟩:=dp BK216.out;go_wp2_with (first|((with_reducible refine ae (f:=71) rfl ?_);refine cf (some 115) Tryz.func71 #[.int .i64 a0_1] ?_;(with_reducible refine(aN.calls a0_1 false _ A56.out).mono ?_);rintro e w' ⟨rfl,⟨nd,rfl⟩⟩;refine⟨_,rfl,?_⟩));go_ret;exact dL
        ·rw[if_neg c55]at H;have c55b0:(a0_0==6)=false:=ea c55;have c55b1:(a0_0 !=6)=true:=fc c55;by_cases c67:a0_0=7
         ·rw[if_pos c67]at H;have c67b0:(a0_0==7)=true:=eQ c67;have c67b1:(a0_0 !=7)=false:=fa c67;clear c67;replace H:=dW H;obtain⟨t231,A68,H⟩:=H;by_cases c69:t231=true
          ·subst c69;have H1:(if a0_2=0 then((dA.f a0_3 a0_4).bind fun t232=>(if t232=true then((bo.f kj34 a0_5).bind fun t233=>(some t233))else(some false)))else(some false))=some r:=by rw[if_pos rfl]at H;exact H
           clear H;have H:=H1;clear H1;by_cases c70:a0_2=0
           ·rw[if_pos c70]at H;have c70b0:(a0_2==0)=true:=eQ c70;have c70b1:(a0_2 !=0)=false:=fa c70;clear c70;replace H:=dW H;obtain⟨t232,A71,H⟩:=H;by_cases c72:t232=true
            ·subst c72;have H1:((bo.f kj34 a0_5).bind fun t233=>(some t233))=some r:=by rw[if_pos rfl]at H;exact H
             clear H;have H:=H1;clear H1;replace H:=dW H;obtain⟨t233,A73,H⟩:=H;obtain rfl:=cq H;obtain⟨z74_0,z74_1,z74_2,z74_3,z74_4,z74_5,y74_0,y74_1,y74_2,y74_3,y74_4,y74_5⟩:=dp BK216.out;go_wp2_with (first|((with_reducible refine ae (f:=71) rfl ?_);refine cf (some 137) Tryz.func71 #[.int .i64 a0_1] ?_;(with_reducible refine(aN.calls a0_1 true _ A68.out).mono ?_);rintro e w' ⟨rfl,⟨nd,rfl⟩⟩;refine⟨_,rfl,?_⟩)|(go_at_call 73;(with_reducible refine(dA.calls a0_3 a0_4 true _ A71.out).mono ?_);rintro e w' ⟨rfl,⟨nd,rfl⟩⟩)|(go_at_call 74;(with_reducible refine(bo.calls kj34 a0_5 t233 _ A73.out).mono ?_);rintro e w' ⟨rfl,⟨nd,rfl⟩⟩));go_ret;exact dL
            ·replace c72:=fy c72;subst c72;have H1:(some false)=some r:=by rw[if_neg (show ¬(false=true) by decide)]at H;exact H
             clear H;have H:=H1;clear H1;obtain rfl:=cq H;obtain⟨z75_0,z75_1,z75_2,z75_3,z75_4,z75_5,y75_0,y75_1,y75_2,y75_3,y75_4,y75_5⟩:=dp BK216.out;go_wp2_with (first|((with_reducible refine ae (f:=71) rfl ?_);refine cf (some 137) Tryz.func71 #[.int .i64 a0_1] ?_;(with_reducible refine(aN.calls a0_1 true _ A68.out).mono ?_);rintro e w' ⟨rfl,⟨nd,rfl⟩⟩;refine⟨_,rfl,?_⟩)|(go_at_call 73;(with_reducible refine(dA.calls a0_3 a0_4 false _ A71.out).mono ?_);rintro e w' ⟨rfl,⟨nd,rfl⟩⟩));go_ret;exact dL
           ·rw[if_neg c70]at H;have c70b0:(a0_2==0)=false:=ea c70;have c70b1:(a0_2 !=0)=true:=fc c70;obtain rfl:=cq H;obtain⟨z76_0,z76_1,z76_2,z76_3,z76_4,z76_5,y76_0,y76_1,y76_2,y76_3,y76_4,y76_5⟩:=dp BK216.out;go_wp2_with (first|((with_reducible refine ae (f:=71) rfl ?_);refine cf (some 137) Tryz.func71 #[.int .i64 a0_1] ?_;(with_reducible refine(aN.calls a0_1 true _ A68.out).mono ?_);rintro e w' ⟨rfl,⟨nd,rfl⟩⟩;refine⟨_,rfl,?_⟩));go_ret;exact dL
          ·replace c69:=fy c69;subst c69;have H1:(some false)=some r:=by rw[if_neg (show ¬(false=true) by decide)]at H;exact H
           clear H;have H:=H1;clear H1;obtain rfl:=cq H;obtain⟨z77_0,z77_1,z77_2,z77_3,z77_4,z77_5,y77_0,y77_1,y77_2,y77_3,y77_4,y77_5⟩:=dp BK216.out;go_wp2_with (first|((with_reducible refine ae (f:=71) rfl ?_);refine cf (some 137) Tryz.func71 #[.int .i64 a0_1] ?_;(with_reducible refine(aN.calls a0_1 false _ A68.out).mono ?_);rintro e w' ⟨rfl,⟨nd,rfl⟩⟩;refine⟨_,rfl,?_⟩));go_ret;exact dL
         ·rw[if_neg c67]at H;have c67b0:(a0_0==7)=false:=ea c67;have c67b1:(a0_0 !=7)=true:=fc c67;by_cases c78:a0_0=8
          ·rw[if_pos c78]at H;have c78b0:(a0_0==8)=true:=eQ c78;have c78b1:(a0_0 !=8)=false:=fa c78;clear c78;by_cases c79:(a0_3==0&&(a0_4==0&&(a0_5.toList==([]:List UInt8))))=true
           ·rw[if_pos c79]at H;have c79b0:(a0_3==0&&(a0_4==0&&(a0_5.toList==([]:List UInt8))))=true:=c79;have c79b0e:(a0_3==0&&(a0_4==0&&a0_5.toList.isEmpty))=true:=by rw[show a0_5.toList.isEmpty=(a0_5.toList==([]:List UInt8))from by cases a0_5.toList<;>rfl];exact c79b0
            (try(have c79b1:decide (a0_3=0&&(a0_4==0&&(a0_5.toList==([]:List UInt8))))=true:=by simpa using c79))
            (try(have c79b2:(a0_3==0&&(a0_4==0&&(a0_5.toList==([]:List UInt8))))=true:=by simpa using c79))
            clear c79;replace H:=dW H;obtain⟨t234,A80,H⟩:=H;by_cases c81:t234=true
            ·subst c81;have H1:((aN.f a0_2).bind fun t235=>(some t235))=some r:=by rw[if_pos rfl]at H;exact H
             clear H;have H:=H1;clear H1;replace H:=dW H;obtain⟨t235,A82,H⟩:=H;obtain rfl:=cq H;obtain⟨z83_0,z83_1,z83_2,z83_3,z83_4,z83_5,y83_0,y83_1,y83_2,y83_3,y83_4,y83_5⟩:=dp BK216.out;go_wp2_with (first|(go_at_call 72;(with_reducible refine(cj.calls a0_1 0 2 true _ A80.out).mono ?_);rintro e w' ⟨rfl,⟨nd,rfl⟩⟩)|(go_at_call 71;(with_reducible refine(aN.calls a0_2 t235 _ A82.out).mono ?_);rintro e w' ⟨rfl,⟨nd,rfl⟩⟩));go_ret;exact dL
            ·replace c81:=fy c81;subst c81;have H1:(some false)=some r:=by rw[if_neg (show ¬(false=true) by decide)]at H;exact H
             clear H;have H:=H1;clear H1;obtain rfl:=cq H;obtain⟨z84_0,z84_1,z84_2,z84_3,z84_4,z84_5,y84_0,y84_1,y84_2,y84_3,y84_4,y84_5⟩:=dp BK216.out;go_wp2_with (first|(go_at_call 72;(with_reducible refine(cj.calls a0_1 0 2 false _ A80.out).mono ?_);rintro e w' ⟨rfl,⟨nd,rfl⟩⟩));go_ret;exact dL
           ·rw[if_neg c79]at H;have c79b0:(a0_3==0&&(a0_4==0&&(a0_5.toList==([]:List UInt8))))=false:=by simpa using c79
            have c79b0e:(a0_3==0&&(a0_4==0&&a0_5.toList.isEmpty))=false:=by rw[show a0_5.toList.isEmpty=(a0_5.toList==([]:List UInt8))from by cases a0_5.toList<;>rfl];exact c79b0
            (try(have c79b1:decide (a0_3=0&&(a0_4==0&&(a0_5.toList==([]:List UInt8))))=false:=by simpa using c79))
            (try(have c79b2:(a0_3==0&&(a0_4==0&&(a0_5.toList==([]:List UInt8))))=false:=by simpa using c79))
            (try(have c79b3:¬(a0_3=0&&(a0_4==0&&(a0_5.toList==([]:List UInt8)))):=by simpa using c79))
            clear c79;obtain rfl:=cq H;obtain⟨z85_0,z85_1,z85_2,z85_3,z85_4,z85_5,y85_0,y85_1,y85_2,y85_3,y85_4,y85_5⟩:=dp BK216.out;go_wp2;go_ret;exact dL
          ·rw[if_neg c78]at H;have c78b0:(a0_0==8)=false:=ea c78;have c78b1:(a0_0 !=8)=true:=fc c78;by_cases c86:a0_0=9
           ·rw[if_pos c86]at H;have c86b0:(a0_0==9)=true:=eQ c86;have c86b1:(a0_0 !=9)=false:=fa c86;clear c86;by_cases c87:(a0_3==0&&(a0_4==0&&(a0_5.toList==([]:List UInt8))))=true
            ·rw[if_pos c87]at H;have c87b0:(a0_3==0&&(a0_4==0&&(a0_5.toList==([]:List UInt8))))=true:=c87;have c87b0e:(a0_3==0&&(a0_4==0&&a0_5.toList.isEmpty))=true:=by rw[show a0_5.toList.isEmpty=(a0_5.toList==([]:List UInt8))from by cases a0_5.toList<;>rfl];exact c87b0
             (try(have c87b1:decide (a0_3=0&&(a0_4==0&&(a0_5.toList==([]:List UInt8))))=true:=by simpa using c87))
             (try(have c87b2:(a0_3==0&&(a0_4==0&&(a0_5.toList==([]:List UInt8))))=true:=by simpa using c87))
             clear c87;replace H:=dW H;obtain⟨t236,A88,H⟩:=H;by_cases c89:t236=true
             ·subst c89;have H1:((cj.f a0_2 1 12).bind fun t237=>(some t237))=some r:=by rw[if_pos rfl]at H;exact H
              clear H;have H:=H1;clear H1;replace H:=dW H;obtain⟨t237,A90,H⟩:=H;obtain rfl:=cq H;obtain⟨z91_0,z91_1,z91_2,z91_3,z91_4,z91_5,y91_0,y91_1,y91_2,y91_3,y91_4,y91_5⟩:=dp BK216.out;go_wp2_with (first|(go_at_call 71;(with_reducible refine(aN.calls a0_1 true _ A88.out).mono ?_);rintro e w' ⟨rfl,⟨nd,rfl⟩⟩)|(go_at_call 72;(with_reducible refine(cj.calls a0_2 1 12 t237 _ A90.out).mono ?_);rintro e w' ⟨rfl,⟨nd,rfl⟩⟩));go_ret;exact dL
             ·replace c89:=fy c89;subst c89;have H1:(some false)=some r:=by rw[if_neg (show ¬(false=true) by decide)]at H;exact H
              clear H;have H:=H1;clear H1;obtain rfl:=cq H;obtain⟨z92_0,z92_1,z92_2,z92_3,z92_4,z92_5,y92_0,y92_1,y92_2,y92_3,y92_4,y92_5⟩:=dp BK216.out;go_wp2_with (first|(go_at_call 71;(with_reducible refine(aN.calls a0_1 false _ A88.out).mono ?_);rintro e w' ⟨rfl,⟨nd,rfl⟩⟩));go_ret;exact dL
            ·rw[if_neg c87]at H;have c87b0:(a0_3==0&&(a0_4==0&&(a0_5.toList==([]:List UInt8))))=false:=by simpa using c87
             have c87b0e:(a0_3==0&&(a0_4==0&&a0_5.toList.isEmpty))=false:=by rw[show a0_5.toList.isEmpty=(a0_5.toList==([]:List UInt8))from by cases a0_5.toList<;>rfl];exact c87b0
             (try(have c87b1:decide (a0_3=0&&(a0_4==0&&(a0_5.toList==([]:List UInt8))))=false:=by simpa using c87))
             (try(have c87b2:(a0_3==0&&(a0_4==0&&(a0_5.toList==([]:List UInt8))))=false:=by simpa using c87))
             (try(have c87b3:¬(a0_3=0&&(a0_4==0&&(a0_5.toList==([]:List UInt8)))):=by simpa using c87))
             clear c87;obtain rfl:=cq H;obtain⟨z93_0,z93_1,z93_2,z93_3,z93_4,z93_5,y93_0,y93_1,y93_2,y93_3,y93_4,y93_5⟩:=dp BK216.out;go_wp2;go_ret;exact dL
           ·rw[if_neg c86]at H;have c86b0:(a0_0==9)=false:=ea c86;have c86b1:(a0_0 !=9)=true:=fc c86;obtain rfl:=cq H;go_wp2;go_ret;exact dL
end Go.Proofs.YtmipaoobkjppdaaGreatDoor.QFnTexts
