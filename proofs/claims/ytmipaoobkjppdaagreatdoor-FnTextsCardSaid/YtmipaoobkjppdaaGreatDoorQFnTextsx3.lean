import Derived.Test.YtmipaoobkjppdaaGreatDoorQFnTextsx2
namespace Go.Proofs.YtmipaoobkjppdaaGreatDoor.QFnTexts
open Go.RowKit Go.Proofs.YtmipaoobkjppdaaGreatDoorW 
open PrintWords PrintLast PrintMore
attribute [local go_sem] dq dr dT dU cT cU dt du
set_option linter.unusedVariables false
set_option linter.unusedSimpArgs false
mutual
def a8.j0:Nat→Bool→Int→Int→Int→Int→Int→ByteArray→Option (Bool)
 | 0,_,_,_,_,_,_,_=>none
 | k+1,x3,x109000,x109001,x109002,x109003,x109004,x109005=>if x109000=1 then(if x3=true then((aJ.f x109001).bind fun t109=>(if t109=true then((bX.f x109002 0 999999).bind fun t110=>(some t110))else(some false)))else(some false))else(if x109000=2 then(if x3=true then((aJ.f x109001).bind fun t111=>(if t111=true then((bX.f x109002 0 1).bind fun t112=>(some t112))else(some false)))else(some false))else(if x109000=3 then(if x3=true then((aJ.f x109001).bind fun t113=>(if t113=true then((bX.f x109002 0 2).bind fun t114=>(some t114))else(some false)))else(some false))else(if x109000=4 then(a8.j1 k x3 x109000 (x109000==4) x109000 x109001 x109002 x109003 x109004 x109005)else(a8.j1 k x3 x109000 (x109000==10) x109000 x109001 x109002 x109003 x109004 x109005))))
def a8.j1:Nat→Bool→Int→Bool→Int→Int→Int→Int→Int→ByteArray→Option (Bool)
 | 0,_,_,_,_,_,_,_,_,_=>none
 | k+1,x3,x18,x58,x109000,x109001,x109002,x109003,x109004,x109005=>if x58=true then(if x3=true then((aJ.f x109001).bind fun t115=>(if t115=true then(some (x109002==0))else(some false)))else(some false))else(if x18=5 then((aJ.f x109001).bind fun t116=>(if t116=true then((aJ.f x109002).bind fun t117=>(if t117=true then((aJ.f x109003).bind fun t118=>(if t118=true then(if x109004=0 then(some (x109005.toList==([]:List UInt8)))else(some false))else(some false)))else(some false)))else(some false)))else(if x18=6 then((aJ.f x109001).bind fun t119=>(if t119=true then((aJ.f x109002).bind fun t120=>(if t120=true then((dO.f x109000 x109001 x109002 x109003 x109004 x109005).bind fun t121=>(if t121=true then((bj.f k x109005).bind fun t122=>(some t122))else(some false)))else(some false)))else(some false)))else(if x18=7 then((aJ.f x109001).bind fun t123=>(if t123=true then(if x109002=0 then((dO.f x109000 x109001 x109002 x109003 x109004 x109005).bind fun t124=>(if t124=true then((bj.f k x109005).bind fun t125=>(some t125))else(some false)))else(some false))else(some false)))else(if x18=8 then(if x3=true then((bX.f x109001 0 2).bind fun t126=>(if t126=true then((aJ.f x109002).bind fun t127=>(some t127))else(some false)))else(some false))else(if x18=9 then(if x3=true then((aJ.f x109001).bind fun t128=>(if t128=true then((bX.f x109002 1 12).bind fun t129=>(some t129))else(some false)))else(some false))else(some false))))))
end
def a8.f (k:Nat) (a0_0:Int) (a0_1:Int) (a0_2:Int) (a0_3:Int) (a0_4:Int) (a0_5:ByteArray):Option (Bool):=if a0_3=0 then(if a0_4=0 then(a8.j0 k (a0_5.toList==([]:List UInt8)) a0_0 a0_1 a0_2 a0_3 a0_4 a0_5)else(a8.j0 k false a0_0 a0_1 a0_2 a0_3 a0_4 a0_5))else(a8.j0 k false a0_0 a0_1 a0_2 a0_3 a0_4 a0_5)
theorem a8.bS:∀k,(∀y0 y1 y2 y3 y4 y5 y6,bm (a8.j0 k y0 y1 y2 y3 y4 y5 y6) (a8.j0 (k+1) y0 y1 y2 y3 y4 y5 y6))∧(∀y0 y1 y2 y3 y4 y5 y6 y7 y8,bm (a8.j1 k y0 y1 y2 y3 y4 y5 y6 y7 y8) (a8.j1 (k+1) y0 y1 y2 y3 y4 y5 y6 y7 y8))
 | 0=>⟨fun _ _ _ _ _ _ _ r h=>by simp[a8.j0]at h,fun _ _ _ _ _ _ _ _ _ r h=>by simp[a8.j1]at h⟩
 | k+1=>by
  obtain⟨ih0,ih1⟩:=a8.bS k;refine⟨?_,?_⟩
  ·intro y0 y1 y2 y3 y4 y5 y6;unfold a8.j0
   repeat' with_reducible first|exact ih0 _ _ _ _ _ _ _|exact ih1 _ _ _ _ _ _ _ _ _|exact bj.mono _ _|exact bm.refl _|exact bm.none _|refine bm.ite ?_ ?_|refine bm.bind ?_ (fun _=>?_)
  ·intro y0 y1 y2 y3 y4 y5 y6 y7 y8;unfold a8.j1
   repeat' with_reducible first|exact ih0 _ _ _ _ _ _ _|exact ih1 _ _ _ _ _ _ _ _ _|exact bj.mono _ _|exact bm.refl _|exact bm.none _|refine bm.ite ?_ ?_|refine bm.bind ?_ (fun _=>?_)
theorem a8.mono:∀a0 a1 a2 a3 a4 a5 k,bm (a8.f k a0 a1 a2 a3 a4 a5) (a8.f (k+1) a0 a1 a2 a3 a4 a5):=by
 intro a0 a1 a2 a3 a4 a5 k;obtain⟨ih0,ih1⟩:=a8.bS k;unfold a8.f
 repeat' with_reducible first|exact ih0 _ _ _ _ _ _ _|exact ih1 _ _ _ _ _ _ _ _ _|exact bj.mono _ _|exact bm.refl _|exact bm.none _|refine bm.ite ?_ ?_|refine bm.bind ?_ (fun _=>?_)
set_option maxHeartbeats 8000000 in
set_option maxRecDepth 100000 in
theorem a8.calls (k:Nat) (a0_0:Int) (a0_1:Int) (a0_2:Int) (a0_3:Int) (a0_4:Int) (a0_5:ByteArray) (r:Bool) (w:World) (h:a8.f k a0_0 a0_1 a0_2 a0_3 a0_4 a0_5=some r) :
  Calls Tryz.prog 65 #[.agg #[.int .i64 a0_0,.int .i64 a0_1,.int .i64 a0_2,.int .i64 a0_3,.int .i64 a0_4,.string a0_5]] w fun e w'=>e=.returned (.bool r)∧Below w.heap.size w w':=by
 have hu35:=Tryz.underlying35;have HB:=aa (Below.refl w.heap.size w);have H:(if a0_3=0 then(if a0_4=0 then(a8.j0 k (a0_5.toList==([]:List UInt8)) a0_0 a0_1 a0_2 a0_3 a0_4 a0_5)else(a8.j0 k false a0_0 a0_1 a0_2 a0_3 a0_4 a0_5))else(a8.j0 k false a0_0 a0_1 a0_2 a0_3 a0_4 a0_5))=some r:=h;clear h;have HC2:=aa H;clear H;go_enter Tryz.func65,Tryz.ntmps65
 go_upto_region 1 with (first|((with_reducible refine aq (N:=1) rfl ?_);refine eN 1 #[.int .i64 a0_0,.int .i64 a0_1,.int .i64 a0_2,.int .i64 a0_3,.int .i64 a0_4,.string a0_5] 35 ?_;intro gb108 hg w3 hbox hb;have BK108:=aa (hbox);have GW108:=fx HB hg;have GE108:=fx HB hg;replace HB:=cw HB hb;clear hb hbox hg))
 (try simp only[Act.put,List.setIfInBounds_toArray,List.set_cons_zero,List.set_cons_succ])
 go_cut [3] (fun v3 wc=>∃(kq:Nat) (x3_1:Bool),v3=.bool x3_1∧Aside0 (a8.j0 kq x3_1 a0_0 a0_1 a0_2 a0_3 a0_4 a0_5=some r)∧Aside0 (kq≤k)∧Aside0 (wc.heap[gb108]? =some (.cells #[.int .i64 a0_0,.int .i64 a0_1,.int .i64 a0_2,.int .i64 a0_3,.int .i64 a0_4,.string a0_5] 35 (0,0)))∧Aside0 (Below w.heap.size w wc))
 case first =>
  have H:=HC2.out;clear HC2;by_cases c4:a0_3=0
  ·rw[if_pos c4]at H;have c4b0:(a0_3==0)=true:=eQ c4;have c4b1:(a0_3 !=0)=false:=fa c4;clear c4
   (first|rw[c4b0]|(simp only[df,dh];rw[c4b0])|skip)
   by_cases c5:a0_4=0
   ·rw[if_pos c5]at H;have c5b0:(a0_4==0)=true:=eQ c5;have c5b1:(a0_4 !=0)=false:=fa c5;clear c5;have H':=aa H;clear H;obtain⟨z6_0,z6_1,z6_2,z6_3,z6_4,z6_5,y6_0,y6_1,y6_2,y6_3,y6_4,y6_5⟩:=dp BK108.out;go_wp2;go_meet
    case rel=>exact⟨_,((a0_5.toList==([]:List UInt8))),(by first|rfl|(simp;done)|(simp[*];done)),H',⟨by first|omega|exact Nat.le_refl _⟩,⟨bk BK108⟩,⟨(bl HB)⟩⟩
   ·rw[if_neg c5]at H;have c5b0:(a0_4==0)=false:=ea c5;have c5b1:(a0_4 !=0)=true:=fc c5;have H':=aa H;clear H;obtain⟨z7_0,z7_1,z7_2,z7_3,z7_4,z7_5,y7_0,y7_1,y7_2,y7_3,y7_4,y7_5⟩:=dp BK108.out;go_wp2;go_meet
    case rel=>exact⟨_,(false),(by first|rfl|(simp;done)|(simp[*];done)),H',⟨by first|omega|exact Nat.le_refl _⟩,⟨bk BK108⟩,⟨(bl HB)⟩⟩
  ·rw[if_neg c4]at H;have c4b0:(a0_3==0)=false:=ea c4;have c4b1:(a0_3 !=0)=true:=fc c4
   (first|rw[c4b0]|(simp only[df,dh];rw[c4b0])|skip)
   have H':=aa H;clear H;obtain⟨z8_0,z8_1,z8_2,z8_3,z8_4,z8_5,y8_0,y8_1,y8_2,y8_3,y8_4,y8_5⟩:=dp BK108.out;go_wp2;go_meet
   case rel=>exact⟨_,(false),(by first|rfl|(simp;done)|(simp[*];done)),H',⟨by first|omega|exact Nat.le_refl _⟩,⟨bk BK108⟩,⟨(bl HB)⟩⟩
 case rest =>
  clear HC2;obtain⟨kq,x3_1,rfl,HA,HJ1,BK108,HB⟩:=hcut
  cases kq with
  | zero=>exact absurd HA.out (by simp[a8.j0])
  | succ kj1 =>
   have H:=HA.out;clear HA;simp only[a8.j0]at H;by_cases c9:a0_0=1
   ·rw[if_pos c9]at H;have c9b0:(a0_0==1)=true:=eQ c9;have c9b1:(a0_0 !=1)=false:=fa c9;clear c9;by_cases fp:x3_1=true
    ·subst fp;have H1:((aJ.f a0_1).bind fun t109=>(if t109=true then((bX.f a0_2 0 999999).bind fun t110=>(some t110))else(some false)))=some r:=by rw[if_pos rfl]at H;exact H
     clear H;have H:=H1;clear H1;replace H:=dW H;obtain⟨t109,A11,H⟩:=H;by_cases c12:t109=true
     ·subst c12;have H1:((bX.f a0_2 0 999999).bind fun t110=>(some t110))=some r:=by rw[if_pos rfl]at H;exact H
      clear H;have H:=H1;clear H1;replace H:=dW H;obtain⟨t110,A13,H⟩:=H;obtain rfl:=cq H;obtain⟨z14_0,z14_1,z14_2,z14_3,z14_4,z14_5,y14_0,y14_1,y14_2,y14_3,y14_4,y14_5⟩:=dp BK108.out;go_wp2_with (first|(go_at_call 95;(with_reducible refine(aJ.calls a0_1 true _ A11.out).mono ?_);rintro e w' ⟨rfl,⟨nd,rfl⟩⟩)|(go_at_call 94;(with_reducible refine(bX.calls a0_2 0 999999 t110 _ A13.out).mono ?_);rintro e w' ⟨rfl,⟨nd,rfl⟩⟩));go_ret;exact dL
     ·replace c12:=fy c12;subst c12;have H1:(some false)=some r:=by rw[if_neg (show ¬(false=true) by decide)]at H;exact H
      clear H;have H:=H1;clear H1;obtain rfl:=cq H;obtain⟨z15_0,z15_1,z15_2,z15_3,z15_4,z15_5,y15_0,y15_1,y15_2,y15_3,y15_4,y15_5⟩:=dp BK108.out;go_wp2_with (first|(go_at_call 95;(with_reducible refine(aJ.calls a0_1 false _ A11.out).mono ?_);rintro e w' ⟨rfl,⟨nd,rfl⟩⟩));go_ret;exact dL
    ·replace fp:=fy fp;subst fp;have H1:(some false)=some r:=by rw[if_neg (show ¬(false=true) by decide)]at H;exact H
     clear H;have H:=H1;clear H1;obtain rfl:=cq H;obtain⟨z16_0,z16_1,z16_2,z16_3,z16_4,z16_5,y16_0,y16_1,y16_2,y16_3,y16_4,y16_5⟩:=dp BK108.out;go_wp2;go_ret;exact dL
   ·rw[if_neg c9]at H;have c9b0:(a0_0==1)=false:=ea c9;have c9b1:(a0_0 !=1)=true:=fc c9;by_cases c17:a0_0=2
    ·rw[if_pos c17]at H;have c17b0:(a0_0==2)=true:=eQ c17;have c17b1:(a0_0 !=2)=false:=fa c17;clear c17;by_cases c18:x3_1=true
     ·subst c18;have H1:((aJ.f a0_1).bind fun t111=>(if t111=true then((bX.f a0_2 0 1).bind fun t112=>(some t112))else(some false)))=some r:=by rw[if_pos rfl]at H;exact H
      clear H;have H:=H1;clear H1;replace H:=dW H;obtain⟨t111,A19,H⟩:=H;by_cases c20:t111=true
      ·subst c20;have H1:((bX.f a0_2 0 1).bind fun t112=>(some t112))=some r:=by rw[if_pos rfl]at H;exact H
       clear H;have H:=H1;clear H1;replace H:=dW H;obtain⟨t112,A21,H⟩:=H;obtain rfl:=cq H;obtain⟨z22_0,z22_1,z22_2,z22_3,z22_4,z22_5,y22_0,y22_1,y22_2,y22_3,y22_4,y22_5⟩:=dp BK108.out;go_wp2_with (first|(go_at_call 95;(with_reducible refine(aJ.calls a0_1 true _ A19.out).mono ?_);rintro e w' ⟨rfl,⟨nd,rfl⟩⟩)|(go_at_call 94;(with_reducible refine(bX.calls a0_2 0 1 t112 _ A21.out).mono ?_);rintro e w' ⟨rfl,⟨nd,rfl⟩⟩));go_ret;exact dL
      ·replace c20:=fy c20;subst c20;have H1:(some false)=some r:=by rw[if_neg (show ¬(false=true) by decide)]at H;exact H
       clear H;have H:=H1;clear H1;obtain rfl:=cq H;obtain⟨z23_0,z23_1,z23_2,z23_3,z23_4,z23_5,y23_0,y23_1,y23_2,y23_3,y23_4,y23_5⟩:=dp BK108.out;go_wp2_with (first|(go_at_call 95;(with_reducible refine(aJ.calls a0_1 false _ A19.out).mono ?_);rintro e w' ⟨rfl,⟨nd,rfl⟩⟩));go_ret;exact dL
     ·replace c18:=fy c18;subst c18;have H1:(some false)=some r:=by rw[if_neg (show ¬(false=true) by decide)]at H;exact H
      clear H;have H:=H1;clear H1;obtain rfl:=cq H;obtain⟨z24_0,z24_1,z24_2,z24_3,z24_4,z24_5,y24_0,y24_1,y24_2,y24_3,y24_4,y24_5⟩:=dp BK108.out;go_wp2;go_ret;exact dL
    ·rw[if_neg c17]at H;have c17b0:(a0_0==2)=false:=ea c17;have c17b1:(a0_0 !=2)=true:=fc c17;by_cases c25:a0_0=3
     ·rw[if_pos c25]at H;have c25b0:(a0_0==3)=true:=eQ c25;have c25b1:(a0_0 !=3)=false:=fa c25;clear c25;by_cases c26:x3_1=true
      ·subst c26;have H1:((aJ.f a0_1).bind fun t113=>(if t113=true then((bX.f a0_2 0 2).bind fun t114=>(some t114))else(some false)))=some r:=by rw[if_pos rfl]at H;exact H
       clear H;have H:=H1;clear H1;replace H:=dW H;obtain⟨t113,A27,H⟩:=H;by_cases c28:t113=true
       ·subst c28;have H1:((bX.f a0_2 0 2).bind fun t114=>(some t114))=some r:=by rw[if_pos rfl]at H;exact H
        clear H;have H:=H1;clear H1;replace H:=dW H;obtain⟨t114,A29,H⟩:=H;obtain rfl:=cq H;obtain⟨z30_0,z30_1,z30_2,z30_3,z30_4,z30_5,y30_0,y30_1,y30_2,y30_3,y30_4,y30_5⟩:=dp BK108.out;go_wp2_with (first|(go_at_call 95;(with_reducible refine(aJ.calls a0_1 true _ A27.out).mono ?_);rintro e w' ⟨rfl,⟨nd,rfl⟩⟩)|(go_at_call 94;(with_reducible refine(bX.calls a0_2 0 2 t114 _ A29.out).mono ?_);rintro e w' ⟨rfl,⟨nd,rfl⟩⟩));go_ret;exact dL
       ·replace c28:=fy c28;subst c28;have H1:(some false)=some r:=by rw[if_neg (show ¬(false=true) by decide)]at H;exact H
        clear H;have H:=H1;clear H1;obtain rfl:=cq H;obtain⟨z31_0,z31_1,z31_2,z31_3,z31_4,z31_5,y31_0,y31_1,y31_2,y31_3,y31_4,y31_5⟩:=dp BK108.out;go_wp2_with (first|(go_at_call 95;(with_reducible refine(aJ.calls a0_1 false _ A27.out).mono ?_);rintro e w' ⟨rfl,⟨nd,rfl⟩⟩));go_ret;exact dL
      ·replace c26:=fy c26;subst c26;have H1:(some false)=some r:=by rw[if_neg (show ¬(false=true) by decide)]at H;exact H
       clear H;have H:=H1;clear H1;obtain rfl:=cq H;obtain⟨z32_0,z32_1,z32_2,z32_3,z32_4,z32_5,y32_0,y32_1,y32_2,y32_3,y32_4,y32_5⟩:=dp BK108.out;go_wp2;go_ret;exact dL
     ·rw[if_neg c25]at H;have c25b0:(a0_0==3)=false:=ea c25;have c25b1:(a0_0 !=3)=true:=fc c25;have HC33:=aa H;clear H;obtain⟨z34_0,z34_1,z34_2,z34_3,z34_4,z34_5,y34_0,y34_1,y34_2,y34_3,y34_4,y34_5⟩:=dp BK108.out
      go_upto_if 58 with (fail)
      go_cut [58] (fun v58 wc=>∃(kq:Nat) (x58_32:Bool),v58=.bool x58_32∧Aside0 (a8.j1 kq x3_1 a0_0 x58_32 a0_0 a0_1 a0_2 a0_3 a0_4 a0_5=some r)∧Aside0 (kq≤kj1)∧Aside0 (wc.heap[gb108]? =some (.cells #[.int .i64 a0_0,.int .i64 a0_1,.int .i64 a0_2,.int .i64 a0_3,.int .i64 a0_4,.string a0_5] 35 (0,0)))∧Aside0 (Below w.heap.size w wc))
      case first =>
       have H:=HC33.out;clear HC33;by_cases c35:a0_0=4
       ·rw[if_pos c35]at H;have c35b0:(a0_0==4)=true:=eQ c35;have c35b1:(a0_0 !=4)=false:=fa c35;clear c35
        (first|rw[c35b0]|(simp only[df,dh];rw[c35b0])|skip)
        have H':=aa H;clear H;go_wp2;go_meet
        case rel=>exact⟨_,((a0_0==4)),(by first|rfl|(simp;done)|(simp[*];done)),H',⟨by have:=HJ1.out;first|omega|exact Nat.le_refl _⟩,⟨bk BK108⟩,⟨(bl HB)⟩⟩
       ·rw[if_neg c35]at H;have c35b0:(a0_0==4)=false:=ea c35;have c35b1:(a0_0 !=4)=true:=fc c35
        (first|rw[c35b0]|(simp only[df,dh];rw[c35b0])|skip)
        have H':=aa H;clear H;go_wp2;go_meet
        case rel=>exact⟨_,((a0_0==10)),(by first|rfl|(simp;done)|(simp[*];done)),H',⟨by have:=HJ1.out;first|omega|exact Nat.le_refl _⟩,⟨bk BK108⟩,⟨(bl HB)⟩⟩
      case rest =>
       clear HC33;obtain⟨kq,x58_32,rfl,HA,HJ32,BK108,HB⟩:=hcut
       cases kq with
       | zero=>exact absurd HA.out (by simp[a8.j1])
       | succ kj32 =>
        have H:=HA.out;clear HA;simp only[a8.j1]at H;by_cases c36:x58_32=true
        ·subst c36;have H1:(if x3_1=true then((aJ.f a0_1).bind fun t115=>(if t115=true then(some (a0_2==0))else(some false)))else(some false))=some r:=by rw[if_pos rfl]at H;exact H
         clear H;have H:=H1;clear H1;by_cases c37:x3_1=true
         ·subst c37;have H1:((aJ.f a0_1).bind fun t115=>(if t115=true then(some (a0_2==0))else(some false)))=some r:=by rw[if_pos rfl]at H;exact H
          clear H;have H:=H1;clear H1;replace H:=dW H;obtain⟨t115,A38,H⟩:=H;by_cases c39:t115=true
          ·subst c39;have H1:(some (a0_2==0))=some r:=by rw[if_pos rfl]at H;exact H
           clear H;have H:=H1;clear H1;obtain rfl:=cq H;obtain⟨z40_0,z40_1,z40_2,z40_3,z40_4,z40_5,y40_0,y40_1,y40_2,y40_3,y40_4,y40_5⟩:=dp BK108.out;go_wp2_with (first|(go_at_call 95;(with_reducible refine(aJ.calls a0_1 true _ A38.out).mono ?_);rintro e w' ⟨rfl,⟨nd,rfl⟩⟩));go_ret;exact dL
          ·replace c39:=fy c39;subst c39;have H1:(some false)=some r:=by rw[if_neg (show ¬(false=true) by decide)]at H;exact H
           clear H;have H:=H1;clear H1;obtain rfl:=cq H;obtain⟨z41_0,z41_1,z41_2,z41_3,z41_4,z41_5,y41_0,y41_1,y41_2,y41_3,y41_4,y41_5⟩:=dp BK108.out;go_wp2_with (first|(go_at_call 95;(with_reducible refine(aJ.calls a0_1 false _ A38.out).mono ?_);rintro e w' ⟨rfl,⟨nd,rfl⟩⟩));go_ret;exact dL
         ·replace c37:=fy c37;subst c37;have H1:(some false)=some r:=by rw[if_neg (show ¬(false=true) by decide)]at H;exact H
          clear H;have H:=H1;clear H1;obtain rfl:=cq H;go_wp2;go_ret;exact dL
        ·replace c36:=fy c36;subst c36;have H1:(if a0_0=5 then((aJ.f a0_1).bind fun t116=>(if t116=true then((aJ.f a0_2).bind fun t117=>(if t117=true then((aJ.f a0_3).bind fun t118=>(if t118=true then(if a0_4=0 then(some (a0_5.toList==([]:List UInt8)))else(some false))else(some false)))else(some false)))else(some false)))else(if a0_0=6 then((aJ.f a0_1).bind fun t119=>(if t119=true then((aJ.f a0_2).bind fun t120=>(if t120=true then((dO.f a0_0 a0_1 a0_2 a0_3 a0_4 a0_5).bind fun t121=>(if t121=true then((bj.f kj32 a0_5).bind fun t122=>(some t122))else(some false)))else(some false)))else(some false)))else(if a0_0=7 then((aJ.f a0_1).bind fun t123=>(if t123=true then(if a0_2=0 then((dO.f a0_0 a0_1 a0_2 a0_3 a0_4 a0_5).bind fun t124=>(if t124=true then((bj.f kj32 a0_5).bind fun t125=>(some t125))else(some false)))else(some false))else(some false)))else(if a0_0=8 then(if x3_1=true then((bX.f a0_1 0 2).bind fun t126=>(if t126=true then((aJ.f a0_2).bind fun t127=>(some t127))else(some false)))else(some false))else(if a0_0=9 then(if x3_1=true then((aJ.f a0_1).bind fun t128=>(if t128=true then((bX.f a0_2 1 12).bind fun t129=>(some t129))else(some false)))else(some false))else(some false))))))=some r:=by rw[if_neg (show ¬(false=true) by decide)]at H;exact H
         clear H;have H:=H1;clear H1;by_cases c42:a0_0=5
         ·rw[if_pos c42]at H;have c42b0:(a0_0==5)=true:=eQ c42;have c42b1:(a0_0 !=5)=false:=fa c42;clear c42;replace H:=dW H;obtain⟨t116,A43,H⟩:=H;by_cases c44:t116=true
          ·subst c44;have H1:((aJ.f a0_2).bind fun t117=>(if t117=true then((aJ.f a0_3).bind fun t118=>(if t118=true then(if a0_4=0 then(some (a0_5.toList==([]:List UInt8)))else(some false))else(some false)))else(some false)))=some r:=by rw[if_pos rfl]at H;exact H
           clear H;have H:=H1;clear H1;replace H:=dW H;obtain⟨t117,A45,H⟩:=H;by_cases c46:t117=true
           ·subst c46;have H1:((aJ.f a0_3).bind fun t118=>(if t118=true then(if a0_4=0 then(some (a0_5.toList==([]:List UInt8)))else(some false))else(some false)))=some r:=by rw[if_pos rfl]at H;exact H
            clear H;have H:=H1;clear H1;replace H:=dW H;obtain⟨t118,A47,H⟩:=H;by_cases c48:t118=true
            ·subst c48;have H1:(if a0_4=0 then(some (a0_5.toList==([]:List UInt8)))else(some false))=some r:=by rw[if_pos rfl]at H;exact H
             clear H;have H:=H1;clear H1;by_cases c49:a0_4=0
             ·rw[if_pos c49]at H;have c49b0:(a0_4==0)=true:=eQ c49;have c49b1:(a0_4 !=0)=false:=fa c49;clear c49;obtain rfl:=cq H;obtain⟨z50_0,z50_1,z50_2,z50_3,z50_4,z50_5,y50_0,y50_1,y50_2,y50_3,y50_4,y50_5⟩:=dp BK108.out;go_wp2_with (first|((with_reducible refine ae (f:=95) rfl ?_);refine cf (some 76) Tryz.func95 #[.int .i64 a0_1] ?_;(with_reducible refine(aJ.calls a0_1 true _ A43.out).mono ?_);rintro e w' ⟨rfl,⟨nd,rfl⟩⟩;refine⟨_,rfl,?_⟩)|(go_at_call 95;(with_reducible refine(aJ.calls a0_2 true _ A45.out).mono ?_);rintro e w' ⟨rfl,⟨nd,rfl⟩⟩)|(go_at_call 95;(with_reducible refine(aJ.calls a0_3 true _ A47.out).mono ?_);rintro e w' ⟨rfl,⟨nd,rfl⟩⟩));go_ret;exact dL
             ·rw[if_neg c49]at H;have c49b0:(a0_4==0)=false:=ea c49;have c49b1:(a0_4 !=0)=true:=fc c49;obtain rfl:=cq H;obtain⟨z51_0,z51_1,z51_2,z51_3,z51_4,z51_5,y51_0,y51_1,y51_2,y51_3,y51_4,y51_5⟩:=dp BK108.out;go_wp2_with (first|((with_reducible refine ae (f:=95) rfl ?_);refine cf (some 76) Tryz.func95 #[.int .i64 a0_1] ?_;(with_reducible refine(aJ.calls a0_1 true _ A43.out).mono ?_);rintro e w' ⟨rfl,⟨nd,rfl⟩⟩;refine⟨_,rfl,?_⟩)|(go_at_call 95;(with_reducible refine(aJ.calls a0_2 true _ A45.out).mono ?_);rintro e w' ⟨rfl,⟨nd,rfl⟩⟩)|(go_at_call 95;(with_reducible refine(aJ.calls a0_3 true _ A47.out).mono ?_);rintro e w' ⟨rfl,⟨nd,rfl⟩⟩));go_ret;exact dL
            ·replace c48:=fy c48;subst c48;have H1:(some false)=some r:=by rw[if_neg (show ¬(false=true) by decide)]at H;exact H
             clear H;have H:=H1;clear H1;obtain rfl:=cq H;obtain⟨z52_0,z52_1,z52_2,z52_3,z52_4,z52_5,y52_0,y52_1,y52_2,y52_3,y52_4,y52_5⟩:=dp BK108.out;go_wp2_with (first|((with_reducible refine ae (f:=95) rfl ?_);refine cf (some 76) Tryz.func95 #[.int .i64 a0_1] ?_;(with_reducible refine(aJ.calls a0_1 true _ A43.out).mono ?_);rintro e w' ⟨rfl,⟨nd,rfl⟩⟩;refine⟨_,rfl,?_⟩)|(go_at_call 95;(with_reducible refine(aJ.calls a0_2 true _ A45.out).mono ?_);rintro e w' ⟨rfl,⟨nd,rfl⟩⟩)|(go_at_call 95;(with_reducible refine(aJ.calls a0_3 false _ A47.out).mono ?_);rintro e w' ⟨rfl,⟨nd,rfl⟩⟩));go_ret;exact dL
           ·replace c46:=fy c46;subst c46;have H1:(some false)=some r:=by rw[if_neg (show ¬(false=true) by decide)]at H;exact H
            clear H;have H:=H1;clear H1;obtain rfl:=cq H;obtain⟨z53_0,z53_1,z53_2,z53_3,z53_4,z53_5,y53_0,y53_1,y53_2,y53_3,y53_4,y53_5⟩:=dp BK108.out;go_wp2_with (first|((with_reducible refine ae (f:=95) rfl ?_);refine cf (some 76) Tryz.func95 #[.int .i64 a0_1] ?_;(with_reducible refine(aJ.calls a0_1 true _ A43.out).mono ?_);rintro e w' ⟨rfl,⟨nd,rfl⟩⟩;refine⟨_,rfl,?_⟩)|(go_at_call 95;(with_reducible refine(aJ.calls a0_2 false _ A45.out).mono ?_);rintro e w' ⟨rfl,⟨nd,rfl⟩⟩));go_ret;exact dL
          ·replace c44:=fy c44;subst c44;have H1:(some false)=some r:=by rw[if_neg (show ¬(false=true) by decide)]at H;exact H
           clear H;have H:=H1;clear H1;obtain rfl:=cq H;obtain⟨z54_0,z54_1,z54_2,z54_3,z54_4,z54_5,y54_0,y54_1,y54_2,y54_3,y54_4,y54_5⟩:=dp BK108.out;go_wp2_with (first|((with_reducible refine ae (f:=95) rfl ?_);refine cf (some 76) Tryz.func95 #[.int .i64 a0_1] ?_;(with_reducible refine(aJ.calls a0_1 false _ A43.out).mono ?_);rintro e w' ⟨rfl,⟨nd,rfl⟩⟩;refine⟨_,rfl,?_⟩));go_ret;exact dL
         ·rw[if_neg c42]at H;have c42b0:(a0_0==5)=false:=ea c42;have c42b1:(a0_0 !=5)=true:=fc c42;by_cases c55:a0_0=6
          ·rw[if_pos c55]at H;have c55b0:(a0_0==6)=true:=eQ c55;have c55b1:(a0_0 !=6)=false:=fa c55;clear c55;replace H:=dW H;obtain⟨t119,A56,H⟩:=H;by_cases c57:t119=true
           ·subst c57;have H1:((aJ.f a0_2).bind fun t120=>(if t120=true then((dO.f a0_0 a0_1 a0_2 a0_3 a0_4 a0_5).bind fun t121=>(if t121=true then((bj.f kj32 a0_5).bind fun t122=>(some t122))else(some false)))else(some false)))=some r:=by rw[if_pos rfl]at H;exact H
            clear H;have H:=H1;clear H1;replace H:=dW H;obtain⟨t120,A58,H⟩:=H;by_cases c59:t120=true
            ·subst c59;have H1:((dO.f a0_0 a0_1 a0_2 a0_3 a0_4 a0_5).bind fun t121=>(if t121=true then((bj.f kj32 a0_5).bind fun t122=>(some t122))else(some false)))=some r:=by rw[if_pos rfl]at H;exact H
             clear H;have H:=H1;clear H1;replace H:=dW H;obtain⟨t121,A60,H⟩:=H;by_cases c61:t121=true
             ·subst c61;have H1:((bj.f kj32 a0_5).bind fun t122=>(some t122))=some r:=by rw[if_pos rfl]at H;exact H
              clear H;have H:=H1;clear H1;replace H:=dW H;obtain⟨t122,A62,H⟩:=H;obtain rfl:=cq H;obtain⟨z63_0,z63_1,z63_2,z63_3,z63_4,z63_5,y63_0,y63_1,y63_2,y63_3,y63_4,y63_5⟩:=dp BK108.out;go_wp2_with (first|((with_reducible refine ae (f:=95) rfl ?_);refine cf (some 101) Tryz.func95 #[.int .i64 a0_1] ?_;(with_reducible refine(aJ.calls a0_1 true _ A56.out).mono ?_);rintro e w' ⟨rfl,⟨nd,rfl⟩⟩;refine⟨_,rfl,?_⟩)|(go_at_call 95;(with_reducible refine(aJ.calls a0_2 true _ A58.out).mono ?_);rintro e w' ⟨rfl,⟨nd,rfl⟩⟩)|(go_at_call 96;(with_reducible refine(dO.calls a0_0 a0_1 a0_2 a0_3 a0_4 a0_5 true _ A60.out).mono ?_);rintro e w64 ⟨rfl,hb⟩;replace BK108:=er BK108 hb;replace HB:=cw HB hb;obtain⟨z65_0,z65_1,z65_2,z65_3,z65_4,z65_5,y65_0,y65_1,y65_2,y65_3,y65_4,y65_5⟩:=dp BK108.out)|(go_at_call 64;(with_reducible refine(bj.calls kj32 a0_5 t122 _ A62.out).mono ?_);rintro e w' ⟨rfl,⟨nd,rfl⟩⟩));go_ret;exact dL
             ·replace c61:=fy c61;subst c61;have H1:(some false)=some r:=by rw[if_neg (show ¬(false=true) by decide)]at H;exact H
              clear H;have H:=H1;clear H1;obtain rfl:=cq H;obtain⟨z66_0,z66_1,z66_2,z66_3,z66_4,z66_5,y66_0,y66_1,y66_2,y66_3,y66_4,y66_5⟩:=dp BK108.out;go_wp2_with (first|((with_reducible refine ae (f:=95) rfl ?_);refine cf (some 101) Tryz.func95 #[.int .i64 a0_1] ?_;(with_reducible refine(aJ.calls a0_1 true _ A56.out).mono ?_);rintro e w' ⟨rfl,⟨nd,rfl⟩⟩;refine⟨_,rfl,?_⟩)|(go_at_call 95;(with_reducible refine(aJ.calls a0_2 true _ A58.out).mono ?_);rintro e w' ⟨rfl,⟨nd,rfl⟩⟩)|(go_at_call 96;(with_reducible refine(dO.calls a0_0 a0_1 a0_2 a0_3 a0_4 a0_5 false _ A60.out).mono ?_);rintro e w67 ⟨rfl,hb⟩;replace BK108:=er BK108 hb;replace HB:=cw HB hb));go_ret;exact dL
            ·replace c59:=fy c59;subst c59;have H1:(some false)=some r:=by rw[if_neg (show ¬(false=true) by decide)]at H;exact H
             clear H;have H:=H1;clear H1;obtain rfl:=cq H;obtain⟨z68_0,z68_1,z68_2,z68_3,z68_4,z68_5,y68_0,y68_1,y68_2,y68_3,y68_4,y68_5⟩:=dp BK108.out;go_wp2_with (first|((with_reducible refine ae (f:=95) rfl ?_);refine cf (some 101) Tryz.func95 #[.int .i64 a0_1] ?_;(with_reducible refine(aJ.calls a0_1 true _ A56.out).mono ?_);rintro e w' ⟨rfl,⟨nd,rfl⟩⟩;refine⟨_,rfl,?_⟩)|(go_at_call 95;(with_reducible refine(aJ.calls a0_2 false _ A58.out).mono ?_);rintro e w' ⟨rfl,⟨nd,rfl⟩⟩));go_ret;exact dL
           ·replace c57:=fy c57;subst c57;have H1:(some false)=some r:=by rw[if_neg (show ¬(false=true) by decide)]at H;exact H
            clear H;have H:=H1;clear H1;obtain rfl:=cq H;obtain⟨z69_0,z69_1,z69_2,z69_3,z69_4,z69_5,y69_0,y69_1,y69_2,y69_3,y69_4,y69_5⟩:=dp BK108.out;go_wp2_with (first|((with_reducible refine ae (f:=95) rfl ?_);refine cf (some 101) Tryz.func95 #[.int .i64 a0_1] ?_;(with_reducible refine(aJ.calls a0_1 false _ A56.out).mono ?_);rintro e w' ⟨rfl,⟨nd,rfl⟩⟩;refine⟨_,rfl,?_⟩));go_ret;exact dL
          ·rw[if_neg c55]at H;have c55b0:(a0_0==6)=false:=ea c55;have c55b1:(a0_0 !=6)=true:=fc c55;by_cases c70:a0_0=7
           ·rw[if_pos c70]at H;have c70b0:(a0_0==7)=true:=eQ c70;have c70b1:(a0_0 !=7)=false:=fa c70;clear c70;replace H:=dW H;obtain⟨t123,A71,H⟩:=H;by_cases c72:t123=true
            ·subst c72;have H1:(if a0_2=0 then((dO.f a0_0 a0_1 a0_2 a0_3 a0_4 a0_5).bind fun t124=>(if t124=true then((bj.f kj32 a0_5).bind fun t125=>(some t125))else(some false)))else(some false))=some r:=by rw[if_pos rfl]at H;exact H
             clear H;have H:=H1;clear H1;by_cases c73:a0_2=0
             ·rw[if_pos c73]at H;have c73b0:(a0_2==0)=true:=eQ c73;have c73b1:(a0_2 !=0)=false:=fa c73;clear c73;replace H:=dW H;obtain⟨t124,A74,H⟩:=H;by_cases c75:t124=true
              ·subst c75;have H1:((bj.f kj32 a0_5).bind fun t125=>(some t125))=some r:=by rw[if_pos rfl]at H;exact H
               clear H;have H:=H1;clear H1;replace H:=dW H;obtain⟨t125,A76,H⟩:=H;obtain rfl:=cq H;obtain⟨z77_0,z77_1,z77_2,z77_3,z77_4,z77_5,y77_0,y77_1,y77_2,y77_3,y77_4,y77_5⟩:=dp BK108.out;go_wp2_with (first|((with_reducible refine ae (f:=95) rfl ?_);refine cf (some 120) Tryz.func95 #[.int .i64 a0_1] ?_;(with_reducible refine(aJ.calls a0_1 true _ A71.out).mono ?_);rintro e w' ⟨rfl,⟨nd,rfl⟩⟩;refine⟨_,rfl,?_⟩)|(go_at_call 96;(with_reducible refine(dO.calls a0_0 a0_1 a0_2 a0_3 a0_4 a0_5 true _ A74.out).mono ?_);rintro e w78 ⟨rfl,hb⟩;replace BK108:=er BK108 hb;replace HB:=cw HB hb;obtain⟨z79_0,z79_1,z79_2,z79_3,z79_4,z79_5,y79_0,y79_1,y79_2,y79_3,y79_4,y79_5⟩:=dp BK108.out)|(go_at_call 64;(with_reducible refine(bj.calls kj32 a0_5 t125 _ A76.out).mono ?_);rintro e w' ⟨rfl,⟨nd,rfl⟩⟩));go_ret;exact dL
              ·replace c75:=fy c75;subst c75;have H1:(some false)=some r:=by rw[if_neg (show ¬(false=true) by decide)]at H;exact H
               clear H;have H:=H1;clear H1;obtain rfl:=cq H;obtain⟨z80_0,z80_1,z80_2,z80_3,z80_4,z80_5,y80_0,y80_1,y80_2,y80_3,y80_4,y80_5⟩:=dp BK108.out;go_wp2_with (first|((with_reducible refine ae (f:=95) rfl ?_);refine cf (some 120) Tryz.func95 #[.int .i64 a0_1] ?_;(with_reducible refine(aJ.calls a0_1 true _ A71.out).mono ?_);rintro e w' ⟨rfl,⟨nd,rfl⟩⟩;refine⟨_,rfl,?_⟩)|(go_at_call 96;(with_reducible refine(dO.calls a0_0 a0_1 a0_2 a0_3 a0_4 a0_5 false _ A74.out).mono ?_);rintro e w81 ⟨rfl,hb⟩;replace BK108:=er BK108 hb;replace HB:=cw HB hb));go_ret;exact dL
             ·rw[if_neg c73]at H;have c73b0:(a0_2==0)=false:=ea c73;have c73b1:(a0_2 !=0)=true:=fc c73;obtain rfl:=cq H;obtain⟨z82_0,z82_1,z82_2,z82_3,z82_4,z82_5,y82_0,y82_1,y82_2,y82_3,y82_4,y82_5⟩:=dp BK108.out;go_wp2_with (first|((with_reducible refine ae (f:=95) rfl ?_);refine cf (some 120) Tryz.func95 #[.int .i64 a0_1] ?_;(with_reducible refine(aJ.calls a0_1 true _ A71.out).mono ?_);rintro e w' ⟨rfl,⟨nd,rfl⟩⟩;refine⟨_,rfl,?_⟩));go_ret;exact dL
            ·replace c72:=fy c72;subst c72;have H1:(some false)=some r:=by rw[if_neg (show ¬(false=true) by decide)]at H;exact H
             clear H;have H:=H1;clear H1;obtain rfl:=cq H;obtain⟨z83_0,z83_1,z83_2,z83_3,z83_4,z83_5,y83_0,y83_1,y83_2,y83_3,y83_4,y83_5⟩:=dp BK108.out;go_wp2_with (first|((with_reducible refine ae (f:=95) rfl ?_);refine cf (some 120) Tryz.func95 #[.int .i64 a0_1] ?_;(with_reducible refine(aJ.calls a0_1 false _ A71.out).mono ?_);rintro e w' ⟨rfl,⟨nd,rfl⟩⟩;refine⟨_,rfl,?_⟩));go_ret;exact dL
           ·rw[if_neg c70]at H;have c70b0:(a0_0==7)=false:=ea c70;have c70b1:(a0_0 !=7)=true:=fc c70;by_cases c84:a0_0=8
            ·rw[if_pos c84]at H;have c84b0:(a0_0==8)=true:=eQ c84;have c84b1:(a0_0 !=8)=false:=fa c84;clear c84;by_cases c85:x3_1=true
             ·subst c85;have H1:((bX.f a0_1 0 2).bind fun t126=>(if t126=true then((aJ.f a0_2).bind fun t127=>(some t127))else(some false)))=some r:=by rw[if_pos rfl]at H;exact H
              clear H;have H:=H1;clear H1;replace H:=dW H;obtain⟨t126,A86,H⟩:=H;by_cases c87:t126=true
              ·subst c87;have H1:((aJ.f a0_2).bind fun t127=>(some t127))=some r:=by rw[if_pos rfl]at H;exact H
               clear H;have H:=H1;clear H1;replace H:=dW H;obtain⟨t127,A88,H⟩:=H;obtain rfl:=cq H;obtain⟨z89_0,z89_1,z89_2,z89_3,z89_4,z89_5,y89_0,y89_1,y89_2,y89_3,y89_4,y89_5⟩:=dp BK108.out;go_wp2_with (first|(go_at_call 94;(with_reducible refine(bX.calls a0_1 0 2 true _ A86.out).mono ?_);rintro e w' ⟨rfl,⟨nd,rfl⟩⟩)|(go_at_call 95;(with_reducible refine(aJ.calls a0_2 t127 _ A88.out).mono ?_);rintro e w' ⟨rfl,⟨nd,rfl⟩⟩));go_ret;exact dL
              ·replace c87:=fy c87;subst c87;have H1:(some false)=some r:=by rw[if_neg (show ¬(false=true) by decide)]at H;exact H
               clear H;have H:=H1;clear H1;obtain rfl:=cq H;obtain⟨z90_0,z90_1,z90_2,z90_3,z90_4,z90_5,y90_0,y90_1,y90_2,y90_3,y90_4,y90_5⟩:=dp BK108.out;go_wp2_with (first|(go_at_call 94;(with_reducible refine(bX.calls a0_1 0 2 false _ A86.out).mono ?_);rintro e w' ⟨rfl,⟨nd,rfl⟩⟩));go_ret;exact dL
             ·replace c85:=fy c85;subst c85;have H1:(some false)=some r:=by rw[if_neg (show ¬(false=true) by decide)]at H;exact H
              clear H;have H:=H1;clear H1;obtain rfl:=cq H;go_wp2;go_ret;exact dL
            ·rw[if_neg c84]at H;have c84b0:(a0_0==8)=false:=ea c84;have c84b1:(a0_0 !=8)=true:=fc c84;by_cases c91:a0_0=9
             ·rw[if_pos c91]at H;have c91b0:(a0_0==9)=true:=eQ c91;have c91b1:(a0_0 !=9)=false:=fa c91;clear c91;by_cases c92:x3_1=true
              ·subst c92;have H1:((aJ.f a0_1).bind fun t128=>(if t128=true then((bX.f a0_2 1 12).bind fun t129=>(some t129))else(some false)))=some r:=by rw[if_pos rfl]at H;exact H
               clear H;have H:=H1;clear H1;replace H:=dW H;obtain⟨t128,A93,H⟩:=H;by_cases c94:t128=true
               ·subst c94;have H1:((bX.f a0_2 1 12).bind fun t129=>(some t129))=some r:=by rw[if_pos rfl]at H;exact H
                clear H;have H:=H1;clear H1;replace H:=dW H;obtain⟨t129,A95,H⟩:=H;obtain rfl:=cq H;obtain⟨z96_0,z96_1,z96_2,z96_3,z96_4,z96_5,y96_0,y96_1,y96_2,y96_3,y96_4,y96_5⟩:=dp BK108.out;go_wp2_with (first|(go_at_call 95;(with_reducible refine(aJ.calls a0_1 true _ A93.out).mono ?_);rintro e w' ⟨rfl,⟨nd,rfl⟩⟩)|(go_at_call 94;(with_reducible refine(bX.calls a0_2 1 12 t129 _ A95.out).mono ?_);rintro e w' ⟨rfl,⟨nd,rfl⟩⟩));go_ret;exact dL
               ·replace c94:=fy c94;subst c94;have H1:(some false)=some r:=by rw[if_neg (show ¬(false=true) by decide)]at H;exact H
                clear H;have H:=H1;clear H1;obtain rfl:=cq H;obtain⟨z97_0,z97_1,z97_2,z97_3,z97_4,z97_5,y97_0,y97_1,y97_2,y97_3,y97_4,y97_5⟩:=dp BK108.out;go_wp2_with (first|(go_at_call 95;(with_reducible refine(aJ.calls a0_1 false _ A93.out).mono ?_);rintro e w' ⟨rfl,⟨nd,rfl⟩⟩));go_ret;exact dL
              ·replace c92:=fy c92;subst c92;have H1:(some false)=some r:=by rw[if_neg (show ¬(false=true) by decide)]at H;exact H
               clear H;have H:=H1;clear H1;obtain rfl:=cq H;go_wp2;go_ret;exact dL
             ·rw[if_neg c91]at H;have c91b0:(a0_0==9)=false:=ea c91;have c91b1:(a0_0 !=9)=true:=fc c91;obtain rfl:=cq H;go_wp2;go_ret;exact dL
end Go.Proofs.YtmipaoobkjppdaaGreatDoor.QFnTexts
