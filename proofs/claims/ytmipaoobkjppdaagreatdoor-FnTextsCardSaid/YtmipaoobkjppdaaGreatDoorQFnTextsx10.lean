import Derived.Test.YtmipaoobkjppdaaGreatDoorQFnTextsx4
import Derived.Test.YtmipaoobkjppdaaGreatDoorQFnTextsx9
set_option maxHeartbeats 8000000
set_option maxRecDepth 100000
namespace Go.Proofs.YtmipaoobkjppdaaGreatDoor.QFnTexts
open Go.RowKit Go.Proofs.YtmipaoobkjppdaaGreatDoorW 
open PrintWords PrintLast PrintMore
attribute [local go_sem] dq dr dT dU cT cU dt du
set_option linter.unusedVariables false
set_option linter.unusedSimpArgs false
mutual
def aH.l0:Nat→ByteArray→Int→ByteArray→List (cR)→Option (ByteArray)
 | 0,_,_,_,_=>none
 | k+1,x3,x4,x202000,x202001=>if x4<(x202001.length:Int)then(if x3.size+7≤9223372036854775807 then(if 0≤x4 then(if (x3++(⟨#[109,101,116,104,111,100,32]⟩:ByteArray)).size+((a7 x202001 x4).f0).size≤9223372036854775807 then(if ((x3++(⟨#[109,101,116,104,111,100,32]⟩:ByteArray))++((a7 x202001 x4).f0)).size+1≤9223372036854775807 then(aH.l1 k (((x3++(⟨#[109,101,116,104,111,100,32]⟩:ByteArray))++((a7 x202001 x4).f0))++(⟨#[10]⟩:ByteArray)) x4 0 x202000 x202001)else(none))else(none))else(none))else(none))else(some x3)
def aH.l1:Nat→ByteArray→Int→Int→ByteArray→List (cR)→Option (ByteArray)
 | 0,_,_,_,_,_=>none
 | k+1,x3,x4,x5,x202000,x202001=>if 0≤x4 then(if x4<(x202001.length:Int)then(if x5<(((a7 x202001 x4).f1).length:Int)then(if 0≤x5 then((aw.f k ((bE ((a7 x202001 x4).f1) x5).f0) ((bE ((a7 x202001 x4).f1) x5).f1) ((bE ((a7 x202001 x4).f1) x5).f2) ((bE ((a7 x202001 x4).f1) x5).f3) ((bE ((a7 x202001 x4).f1) x5).f4) ((bE ((a7 x202001 x4).f1) x5).f5)).bind fun t207=>(if x3.size+t207.size≤9223372036854775807 then(if (x3++t207).size+1≤9223372036854775807 then(aH.l1 k ((x3++t207)++(⟨#[10]⟩:ByteArray)) x4 (wrap64 (x5+1)) x202000 x202001)else(none))else(none)))else(none))else(aH.l0 k x3 (wrap64 (x4+1)) x202000 x202001))else(none))else(none)
end
def aH.f (k:Nat) (a0_0:ByteArray) (l0_1:List (cR)):Option (ByteArray):=(aY.f k a0_0 l0_1).bind fun t202=>(if t202=true then(if 7+a0_0.size≤9223372036854775807 then(if ((⟨#[115,99,114,105,112,116,32]⟩:ByteArray)++a0_0).size+1≤9223372036854775807 then(aH.l0 k (((⟨#[115,99,114,105,112,116,32]⟩:ByteArray)++a0_0)++(⟨#[10]⟩:ByteArray)) 0 a0_0 l0_1)else(none))else(none))else(some (⟨#[]⟩:ByteArray)))
theorem aH.bS:∀k,(∀y0 y1 y2 y3,bm (aH.l0 k y0 y1 y2 y3) (aH.l0 (k+1) y0 y1 y2 y3))∧(∀y0 y1 y2 y3 y4,bm (aH.l1 k y0 y1 y2 y3 y4) (aH.l1 (k+1) y0 y1 y2 y3 y4))
 | 0=>⟨fun _ _ _ _ r h=>by simp[aH.l0]at h,fun _ _ _ _ _ r h=>by simp[aH.l1]at h⟩
 | k+1=>by
  obtain⟨ih0,ih1⟩:=aH.bS k;refine⟨?_,?_⟩
  ·intro y0 y1 y2 y3;unfold aH.l0
   repeat' with_reducible first|exact ih0 _ _ _ _|exact ih1 _ _ _ _ _|exact aw.mono _ _ _ _ _ _ _|exact aY.mono _ _ _|exact bm.refl _|exact bm.none _|refine bm.ite ?_ ?_|refine bm.bind ?_ (fun _=>?_)
  ·intro y0 y1 y2 y3 y4;unfold aH.l1
   repeat' with_reducible first|exact ih0 _ _ _ _|exact ih1 _ _ _ _ _|exact aw.mono _ _ _ _ _ _ _|exact aY.mono _ _ _|exact bm.refl _|exact bm.none _|refine bm.ite ?_ ?_|refine bm.bind ?_ (fun _=>?_)
theorem aH.mono:∀a0 a1 k,bm (aH.f k a0 a1) (aH.f (k+1) a0 a1):=by
 intro a0 a1 k;obtain⟨ih0,ih1⟩:=aH.bS k;unfold aH.f
 repeat' with_reducible first|exact ih0 _ _ _ _|exact ih1 _ _ _ _ _|exact aw.mono _ _ _ _ _ _ _|exact aY.mono _ _ _|exact bm.refl _|exact bm.none _|refine bm.ite ?_ ?_|refine bm.bind ?_ (fun _=>?_)
theorem aH.calls (k:Nat) (a0_0:ByteArray) (A0_1:Option Addr) (c0_1:Nat) (l0_1:List (cR)) (r:ByteArray) (w:World) (hr0_1:Kd.C hJ w A0_1 l0_1.length l0_1) (hc0_1:l0_1.length≤c0_1) (h:aH.f k a0_0 l0_1=some r) :
  Calls Tryz.prog 51 #[.agg #[.string a0_0,.slice A0_1 l0_1.length c0_1]] w fun e w'=>e=.returned (.string r)∧Below w.heap.size w w':=by
 have hu48:=Tryz.underlying48;have hu35:=Tryz.underlying35;have HR0_1:=aa hr0_1;have HC0_1:=aa hc0_1;clear hr0_1 hc0_1;have HB:=aa (Below.refl w.heap.size w);have H:((aY.f k a0_0 l0_1).bind fun t202=>(if t202=true then(if 7+a0_0.size≤9223372036854775807 then(if ((⟨#[115,99,114,105,112,116,32]⟩:ByteArray)++a0_0).size+1≤9223372036854775807 then(aH.l0 k (((⟨#[115,99,114,105,112,116,32]⟩:ByteArray)++a0_0)++(⟨#[10]⟩:ByteArray)) 0 a0_0 l0_1)else(none))else(none))else(some (⟨#[]⟩:ByteArray))))=some r:=h;clear h;replace H:=dW H;obtain⟨t202,A2,H⟩:=H;by_cases c3:t202=true
 ·subst c3;have H1:(if 7+a0_0.size≤9223372036854775807 then(if ((⟨#[115,99,114,105,112,116,32]⟩:ByteArray)++a0_0).size+1≤9223372036854775807 then(aH.l0 k (((⟨#[115,99,114,105,112,116,32]⟩:ByteArray)++a0_0)++(⟨#[10]⟩:ByteArray)) 0 a0_0 l0_1)else(none))else(none))=some r:=by rw[if_pos rfl]at H;exact H
  clear H;have H:=H1;clear H1;by_cases c4:7+a0_0.size≤9223372036854775807
  ·rw[if_pos c4]at H;have c4b0:=eq_true c4;have c4b1:decide (7+a0_0.size≤9223372036854775807)=true:=cH c4
   try have c4b2:(9223372036854775807<7+a0_0.size)=False:=eq_false (Nat.not_lt.2 c4)
   by_cases c5:((⟨#[115,99,114,105,112,116,32]⟩:ByteArray)++a0_0).size+1≤9223372036854775807
   ·rw[if_pos c5]at H;have c5b0:=eq_true c5;have c5b1:decide (((⟨#[115,99,114,105,112,116,32]⟩:ByteArray)++a0_0).size+1≤9223372036854775807)=true:=cH c5;have c5n:=c5;simp only[ByteArray.size_append,show(⟨#[115,99,114,105,112,116,32]⟩:ByteArray).size=7 from rfl]at c5n;have c5n0:(9223372036854775807<7+a0_0.size)=False:=eq_false (by omega);have c5n1:(9223372036854775807<(7+a0_0.size)+1)=False:=eq_false (by omega)
    try have c5b2:(9223372036854775807<((⟨#[115,99,114,105,112,116,32]⟩:ByteArray)++a0_0).size+1)=False:=eq_false (Nat.not_lt.2 c5)
    have H':=aa H;clear H;go_enter Tryz.func51,Tryz.ntmps51;go_wp2_with (first|((with_reducible refine aq (N:=1) rfl ?_);refine eN 1 #[.string a0_0,.slice A0_1 l0_1.length c0_1] 48 ?_;intro gb201 hg w6 hbox hb;have BK201:=aa (hbox);have GW201:=fx HB hg;have GE201:=fx HB hg;replace HB:=cw HB hb;clear hb hbox hg;obtain⟨z7_0,z7_1,y7_0,y7_1⟩:=fR BK201.out)|((with_reducible refine ae (f:=39) rfl ?_);refine cf (some 7) Tryz.func39 #[.agg #[.string a0_0,.slice A0_1 l0_1.length c0_1]] ?_;(with_reducible refine(aY.calls k a0_0 _ _ l0_1 true _ ?side1 ?side2 A2.out).mono ?_);(case side1=>exact fw (Kd.cA HR0_1.out HB.out));(case side2=>exact HC0_1.out);rintro e w8 ⟨rfl,hb⟩;refine⟨_,rfl,?_⟩;replace BK201:=er BK201 hb;replace HB:=cw HB hb;obtain⟨z9_0,z9_1,y9_0,y9_1⟩:=fR BK201.out))
    go_loopg [3,4] k (fun kq v3 v4 w'=>∃(x3_1:ByteArray) (x4_1:Int),v3=.string x3_1∧v4=.int .i64 x4_1∧Aside0 (aH.l0 kq x3_1 x4_1 a0_0 l0_1=some r)∧Aside0 (kq≤k)∧Aside0 (w'.heap[gb201]? =some (.cells #[.string a0_0,(.slice A0_1 l0_1.length c0_1)] 48 (0,0)))∧Aside0 (Below w.heap.size w w'))
    case atStart=>exact⟨(((⟨#[115,99,114,105,112,116,32]⟩:ByteArray)++a0_0)++(⟨#[10]⟩:ByteArray)),(0),(by first|rfl|(simp;done)|(simp[*];done)),(by first|rfl|(simp;done)|(simp[*];done)),H',⟨Nat.le_refl _⟩,⟨bk BK201⟩,⟨(bl HB)⟩⟩
    case round =>
     clear H';obtain⟨x3_1,x4_1,rfl,rfl,HA,HK1,BK201,HB⟩:=hrel
     cases gk with
     | zero=>exact absurd HA.out (by simp[aH.l0])
     | succ k1 =>
      have H:=HA.out;clear HA;simp only[aH.l0]at H;by_cases fp:x4_1<(l0_1.length:Int)
      ·rw[if_pos fp]at H;have c10b0:decide (x4_1<(l0_1.length:Int))=true:=cH fp;clear fp;by_cases c11:x3_1.size+7≤9223372036854775807
       ·rw[if_pos c11]at H;have c11b0:=eq_true c11;have c11b1:decide (x3_1.size+7≤9223372036854775807)=true:=cH c11
        try have c11b2:(9223372036854775807<x3_1.size+7)=False:=eq_false (Nat.not_lt.2 c11)
        by_cases c12:0≤x4_1
        ·rw[if_pos c12]at H;have c12b0:decide (0≤x4_1)=true:=cH c12;clear c12;by_cases c13:(x3_1++(⟨#[109,101,116,104,111,100,32]⟩:ByteArray)).size+((a7 l0_1 x4_1).f0).size≤9223372036854775807
         ·rw[if_pos c13]at H;have c13b0:=eq_true c13;have c13b1:decide ((x3_1++(⟨#[109,101,116,104,111,100,32]⟩:ByteArray)).size+((a7 l0_1 x4_1).f0).size≤9223372036854775807)=true:=cH c13;have c13n:=c13;simp only[ByteArray.size_append,show(⟨#[109,101,116,104,111,100,32]⟩:ByteArray).size=7 from rfl]at c13n;have c13n0:(9223372036854775807<x3_1.size+7)=False:=eq_false (by omega);have c13n1:(9223372036854775807<(x3_1.size+7)+(a7 l0_1 x4_1).f0.size)=False:=eq_false (by omega)
          try have c13b2:(9223372036854775807<(x3_1++(⟨#[109,101,116,104,111,100,32]⟩:ByteArray)).size+((a7 l0_1 x4_1).f0).size)=False:=eq_false (Nat.not_lt.2 c13)
          by_cases c14:((x3_1++(⟨#[109,101,116,104,111,100,32]⟩:ByteArray))++((a7 l0_1 x4_1).f0)).size+1≤9223372036854775807
          ·rw[if_pos c14]at H;have c14b0:=eq_true c14;have c14b1:decide (((x3_1++(⟨#[109,101,116,104,111,100,32]⟩:ByteArray))++((a7 l0_1 x4_1).f0)).size+1≤9223372036854775807)=true:=cH c14;have c14n:=c14;simp only[ByteArray.size_append,show(⟨#[109,101,116,104,111,100,32]⟩:ByteArray).size=7 from rfl]at c14n;have c14n0:(9223372036854775807<x3_1.size+7)=False:=eq_false (by omega);have c14n1:(9223372036854775807<(x3_1.size+7)+(a7 l0_1 x4_1).f0.size)=False:=eq_false (by omega);have c14n2:(9223372036854775807<((x3_1.size+7)+(a7 l0_1 x4_1).f0.size)+1)=False:=eq_false (by omega)
           try have c14b2:(9223372036854775807<((x3_1++(⟨#[109,101,116,104,111,100,32]⟩:ByteArray))++((a7 l0_1 x4_1).f0)).size+1)=False:=eq_false (Nat.not_lt.2 c14)
           have H':=aa H;clear H;obtain⟨z15_0,z15_1,y15_0,y15_1⟩:=fR BK201.out;have p203:0≤(x4_1:Int):=eb;have q203:x4_1<(l0_1.length:Int):=eb;obtain⟨ad203,A203_1,c203_1,e203,hx203_0,hx203_1,hl203_1,hi203_1⟩:=gA HR0_1.out x4_1 p203 q203;cases e203;replace hx203_0:=fo HB hx203_0;replace hx203_1:=fo HB hx203_1;have HR203_1:=aa hi203_1;have HC203_1:=aa hl203_1;clear hi203_1 hl203_1;replace p203:=eq_true p203;replace q203:=eq_true q203;go_wp2
           go_loopg [3,5] k1 (fun kq v3 v5 w'=>∃(x3_2:ByteArray) (x5_2:Int),v3=.string x3_2∧v5=.int .i64 x5_2∧Aside0 (aH.l1 kq x3_2 x4_1 x5_2 a0_0 l0_1=some r)∧Aside0 (kq≤k1)∧Aside0 (w'.heap[gb201]? =some (.cells #[.string a0_0,(.slice (some ad203) l0_1.length c0_1)] 48 (0,0)))∧Aside0 (Below w.heap.size w w'))
           case atStart=>exact⟨(((x3_1++(⟨#[109,101,116,104,111,100,32]⟩:ByteArray))++((a7 l0_1 x4_1).f0))++(⟨#[10]⟩:ByteArray)),(0),(by first|rfl|(simp;done)|(simp[*];done)),(by first|rfl|(simp;done)|(simp[*];done)),H',⟨Nat.le_refl _⟩,⟨bk BK201⟩,⟨(bl HB)⟩⟩
           case round =>
            clear H';obtain⟨x3_2,x5_2,rfl,rfl,HA,HK2,BK201,HB⟩:=hrel
            cases gk with
            | zero=>exact absurd HA.out (by simp[aH.l1])
            | succ k2 =>
             have H:=HA.out;clear HA;simp only[aH.l1]at H;by_cases c16:0≤x4_1
             ·rw[if_pos c16]at H;have c16b0:decide (0≤x4_1)=true:=cH c16;clear c16;by_cases c17:x4_1<(l0_1.length:Int)
              ·rw[if_pos c17]at H;have c17b0:decide (x4_1<(l0_1.length:Int))=true:=cH c17;clear c17;by_cases c18:x5_2<(((a7 l0_1 x4_1).f1).length:Int)
               ·rw[if_pos c18]at H;have c18b0:decide (x5_2<(((a7 l0_1 x4_1).f1).length:Int))=true:=cH c18;clear c18;by_cases c19:0≤x5_2
                ·rw[if_pos c19]at H;have c19b0:decide (0≤x5_2)=true:=cH c19;clear c19;replace H:=dW H;obtain⟨t207,A20,H⟩:=H;by_cases c21:x3_2.size+t207.size≤9223372036854775807
                 ·rw[if_pos c21]at H;have c21b0:=eq_true c21;have c21b1:decide (x3_2.size+t207.size≤9223372036854775807)=true:=cH c21
                  try have c21b2:(9223372036854775807<x3_2.size+t207.size)=False:=eq_false (Nat.not_lt.2 c21)
                  by_cases c22:(x3_2++t207).size+1≤9223372036854775807
                  ·rw[if_pos c22]at H;have c22b0:=eq_true c22;have c22b1:decide ((x3_2++t207).size+1≤9223372036854775807)=true:=cH c22;have c22n:=c22;simp only[ByteArray.size_append]at c22n;have c22n0:(9223372036854775807<x3_2.size+t207.size)=False:=eq_false (by omega);have c22n1:(9223372036854775807<(x3_2.size+t207.size)+1)=False:=eq_false (by omega)
                   try have c22b2:(9223372036854775807<(x3_2++t207).size+1)=False:=eq_false (Nat.not_lt.2 c22)
                   have H':=aa H;clear H;obtain⟨z23_0,z23_1,y23_0,y23_1⟩:=fR BK201.out;have p204:0≤(x4_1:Int):=eb;have q204:x4_1<(l0_1.length:Int):=eb;obtain⟨ad204,A204_1,c204_1,e204,hx204_0,hx204_1,hl204_1,hi204_1⟩:=gA HR0_1.out x4_1 p204 q204;obtain rfl:ad203=ad204:=(by injection e204);replace hx204_0:=fo HB hx204_0;replace hx204_1:=fo HB hx204_1;have HR204_1:=aa hi204_1;have HC204_1:=aa hl204_1;clear hi204_1 hl204_1;replace p204:=eq_true p204;replace q204:=eq_true q204;have p205:0≤(x4_1:Int):=eb;have q205:x4_1<(l0_1.length:Int):=eb;obtain⟨ad205,A205_1,c205_1,e205,hx205_0,hx205_1,hl205_1,hi205_1⟩:=gA HR0_1.out x4_1 p205 q205;obtain rfl:ad203=ad205:=(by injection e205);replace hx205_0:=fo HB hx205_0;replace hx205_1:=fo HB hx205_1;have HR205_1:=aa hi205_1;have HC205_1:=aa hl205_1;clear hi205_1 hl205_1;replace p205:=eq_true p205;replace q205:=eq_true q205;have ea_:=cq (hx204_1.symm.trans hx205_1)
                   injection ea_ with ea_ en_ ec_
                   subst ea_;subst ec_;clear en_;have p206:0≤(x5_2:Int):=eb;have q206:x5_2<(((a7 l0_1 x4_1).f1).length:Int):=eb;obtain⟨ad206,e206,hx206_0,hx206_1,hx206_2,hx206_3,hx206_4,hx206_5⟩:=mg HR205_1.out x5_2 p206 q206;cases e206;replace hx206_0:=fo HB hx206_0;replace hx206_1:=fo HB hx206_1;replace hx206_2:=fo HB hx206_2;replace hx206_3:=fo HB hx206_3;replace hx206_4:=fo HB hx206_4;replace hx206_5:=fo HB hx206_5;replace p206:=eq_true p206;replace q206:=eq_true q206;go_wp2_with (first|((with_reducible refine ae (f:=43) rfl ?_);refine cf (some 51) Tryz.func43 #[.agg #[.int .i64 ((bE ((a7 l0_1 x4_1).f1) x5_2).f0),.int .i64 ((bE ((a7 l0_1 x4_1).f1) x5_2).f1),.int .i64 ((bE ((a7 l0_1 x4_1).f1) x5_2).f2),.int .i64 ((bE ((a7 l0_1 x4_1).f1) x5_2).f3),.int .i64 ((bE ((a7 l0_1 x4_1).f1) x5_2).f4),.string ((bE ((a7 l0_1 x4_1).f1) x5_2).f5)]] ?_;(with_reducible refine(aw.calls k2 ((bE ((a7 l0_1 x4_1).f1) x5_2).f0) ((bE ((a7 l0_1 x4_1).f1) x5_2).f1) ((bE ((a7 l0_1 x4_1).f1) x5_2).f2) ((bE ((a7 l0_1 x4_1).f1) x5_2).f3) ((bE ((a7 l0_1 x4_1).f1) x5_2).f4) ((bE ((a7 l0_1 x4_1).f1) x5_2).f5) t207 _ A20.out).mono ?_);rintro e w24 ⟨rfl,hb⟩;refine⟨_,rfl,?_⟩;replace BK201:=er BK201 hb;replace HB:=cw HB hb))
                   go_roundg k2
                   case measure=>have:=HK1.out;have:=HK2.out;omega
                   case rel=>exact⟨((x3_2++t207)++(⟨#[10]⟩:ByteArray)),(wrap64 (x5_2+1)),(by first|rfl|(simp;done)|(simp[*];done)),(by first|rfl|(simp;done)|(simp[*];done)),H',⟨by have:=HK1.out;have:=HK2.out;omega⟩,⟨bk BK201⟩,⟨(bl HB)⟩⟩
                  ·rw[if_neg c22]at H;exact absurd H (by simp)
                 ·rw[if_neg c21]at H;exact absurd H (by simp)
                ·rw[if_neg c19]at H;exact absurd H (by simp)
               ·rw[if_neg c18]at H;have c18b0:decide (x5_2<(((a7 l0_1 x4_1).f1).length:Int))=false:=cW c18;clear c18;have H':=aa H;clear H;obtain⟨z25_0,z25_1,y25_0,y25_1⟩:=fR BK201.out;have p204:0≤(x4_1:Int):=eb;have q204:x4_1<(l0_1.length:Int):=eb;obtain⟨ad204,A204_1,c204_1,e204,hx204_0,hx204_1,hl204_1,hi204_1⟩:=gA HR0_1.out x4_1 p204 q204;obtain rfl:ad203=ad204:=(by injection e204);replace hx204_0:=fo HB hx204_0;replace hx204_1:=fo HB hx204_1;have HR204_1:=aa hi204_1;have HC204_1:=aa hl204_1;clear hi204_1 hl204_1;replace p204:=eq_true p204;replace q204:=eq_true q204;go_wp2
                go_roundg k2
                case measure=>have:=HK1.out;have:=HK2.out;omega
                case rel=>exact⟨(x3_2),(wrap64 (x4_1+1)),(by first|rfl|(simp;done)|(simp[*];done)),(by first|rfl|(simp;done)|(simp[*];done)),H',⟨by have:=HK1.out;have:=HK2.out;omega⟩,⟨bk BK201⟩,⟨(bl HB)⟩⟩
              ·rw[if_neg c17]at H;exact absurd H (by simp)
             ·rw[if_neg c16]at H;exact absurd H (by simp)
          ·rw[if_neg c14]at H;exact absurd H (by simp)
         ·rw[if_neg c13]at H;exact absurd H (by simp)
        ·rw[if_neg c12]at H;exact absurd H (by simp)
       ·rw[if_neg c11]at H;exact absurd H (by simp)
      ·rw[if_neg fp]at H;have c10b0:decide (x4_1<(l0_1.length:Int))=false:=cW fp;clear fp;obtain rfl:=cq H;obtain⟨z26_0,z26_1,y26_0,y26_1⟩:=fR BK201.out;go_wp2;go_ret;exact dL
   ·rw[if_neg c5]at H;exact absurd H (by simp)
  ·rw[if_neg c4]at H;exact absurd H (by simp)
 ·replace c3:=fy c3;subst c3;have H1:(some (⟨#[]⟩:ByteArray))=some r:=by rw[if_neg (show ¬(false=true) by decide)]at H;exact H
  clear H;have H:=H1;clear H1;obtain rfl:=cq H;go_enter Tryz.func51,Tryz.ntmps51;go_wp2_with (first|((with_reducible refine aq (N:=1) rfl ?_);refine eN 1 #[.string a0_0,.slice A0_1 l0_1.length c0_1] 48 ?_;intro gb201 hg w27 hbox hb;have BK201:=aa (hbox);have GW201:=fx HB hg;have GE201:=fx HB hg;replace HB:=cw HB hb;clear hb hbox hg;obtain⟨z28_0,z28_1,y28_0,y28_1⟩:=fR BK201.out)|((with_reducible refine ae (f:=39) rfl ?_);refine cf (some 7) Tryz.func39 #[.agg #[.string a0_0,.slice A0_1 l0_1.length c0_1]] ?_;(with_reducible refine(aY.calls k a0_0 _ _ l0_1 false _ ?side1 ?side2 A2.out).mono ?_);(case side1=>exact fw (Kd.cA HR0_1.out HB.out));(case side2=>exact HC0_1.out);rintro e w29 ⟨rfl,hb⟩;refine⟨_,rfl,?_⟩;replace BK201:=er BK201 hb;replace HB:=cw HB hb));go_ret;exact dL
def aW.l0:Nat→List (b5)→ByteArray→Int→Option (ByteArray)
 | 0,_,_,_=>none
 | k+1,x0,x3,x4=>if x4<(x0.length:Int)then(if 0≤x4 then((aH.f k ((bu x0 x4).f0) ((bu x0 x4).f1)).bind fun t210=>(if x3.size+t210.size≤9223372036854775807 then(aW.l0 k x0 (x3++t210) (wrap64 (x4+1)))else(none)))else(none))else(some x3)
def aW.f (k:Nat) (l0:List (b5)):Option (ByteArray):=(bb.f k l0).bind fun t208=>(if t208=true then(aW.l0 k l0 (⟨#[]⟩:ByteArray) 0)else(some (⟨#[]⟩:ByteArray)))
theorem aW.bS:∀k,(∀y0 y1 y2,bm (aW.l0 k y0 y1 y2) (aW.l0 (k+1) y0 y1 y2))
 | 0=>fun _ _ _ r h=>by simp[aW.l0]at h
 | k+1=>by
  have ih0:=aW.bS k
  ·intro y0 y1 y2;unfold aW.l0
   repeat' with_reducible first|exact ih0 _ _ _|exact aH.mono _ _ _|exact bb.mono _ _|exact bm.refl _|exact bm.none _|refine bm.ite ?_ ?_|refine bm.bind ?_ (fun _=>?_)
theorem aW.mono:∀a0 k,bm (aW.f k a0) (aW.f (k+1) a0):=by
 intro a0 k;have ih0:=aW.bS k;unfold aW.f
 repeat' with_reducible first|exact ih0 _ _ _|exact aH.mono _ _ _|exact bb.mono _ _|exact bm.refl _|exact bm.none _|refine bm.ite ?_ ?_|refine bm.bind ?_ (fun _=>?_)
theorem aW.calls (k:Nat) (A0:Option Addr) (c0:Nat) (l0:List (b5)) (r:ByteArray) (w:World) (hr0:Kd.C jZ w A0 l0.length l0) (hc0:l0.length≤c0) (h:aW.f k l0=some r) :
  Calls Tryz.prog 23 #[.slice A0 l0.length c0] w fun e w'=>e=.returned (.string r)∧Below w.heap.size w w':=by
 have hu48:=Tryz.underlying48;have HR0:=aa hr0;have HC0:=aa hc0;clear hr0 hc0;have HB:=aa (Below.refl w.heap.size w);have H:((bb.f k l0).bind fun t208=>(if t208=true then(aW.l0 k l0 (⟨#[]⟩:ByteArray) 0)else(some (⟨#[]⟩:ByteArray))))=some r:=h;clear h;replace H:=dW H;obtain⟨t208,A2,H⟩:=H;by_cases c3:t208=true
 ·subst c3;have H1:(aW.l0 k l0 (⟨#[]⟩:ByteArray) 0)=some r:=by rw[if_pos rfl]at H;exact H
  clear H;have H:=H1;clear H1;have H':=aa H;clear H;go_enter Tryz.func23,Tryz.ntmps23;go_wp2_with (first|((with_reducible refine ae (f:=13) rfl ?_);refine cf (some 6) Tryz.func13 #[.slice A0 l0.length c0] ?_;(with_reducible refine(bb.calls k _ _ l0 true _ ?side1 ?side2 A2.out).mono ?_);(case side1=>exact fw HR0.out);(case side2=>exact HC0.out);rintro e w4 ⟨rfl,hb⟩;refine⟨_,rfl,?_⟩;replace HB:=cw HB hb))
  go_loopg [3,4] k (fun kq v3 v4 w'=>∃(x3_1:ByteArray) (x4_1:Int),v3=.string x3_1∧v4=.int .i64 x4_1∧Aside0 (aW.l0 kq l0 x3_1 x4_1=some r)∧Aside0 (kq≤k)∧Aside0 (Below w.heap.size w w'))
  case atStart=>exact⟨((⟨#[]⟩:ByteArray)),(0),(by first|rfl|(simp;done)|(simp[*];done)),(by first|rfl|(simp;done)|(simp[*];done)),H',⟨Nat.le_refl _⟩,⟨(bl HB)⟩⟩
  case round =>
   clear H';obtain⟨x3_1,x4_1,rfl,rfl,HA,HK1,HB⟩:=hrel
   cases gk with
   | zero=>exact absurd HA.out (by simp[aW.l0])
   | succ k1 =>
    have H:=HA.out;clear HA;simp only[aW.l0]at H;by_cases c5:x4_1<(l0.length:Int)
    ·rw[if_pos c5]at H;have c5b0:decide (x4_1<(l0.length:Int))=true:=cH c5;clear c5;by_cases c6:0≤x4_1
     ·rw[if_pos c6]at H;have c6b0:decide (0≤x4_1)=true:=cH c6;clear c6;replace H:=dW H;obtain⟨t210,A7,H⟩:=H;by_cases c8:x3_1.size+t210.size≤9223372036854775807
      ·rw[if_pos c8]at H;have c8b0:=eq_true c8;have c8b1:decide (x3_1.size+t210.size≤9223372036854775807)=true:=cH c8
       try have c8b2:(9223372036854775807<x3_1.size+t210.size)=False:=eq_false (Nat.not_lt.2 c8)
       have H':=aa H;clear H;have p209:0≤(x4_1:Int):=eb;have q209:x4_1<(l0.length:Int):=eb;obtain⟨ad209,A209_1,c209_1,e209,hx209_0,hx209_1,hl209_1,hi209_1⟩:=gC HR0.out x4_1 p209 q209;cases e209;replace hx209_0:=fo HB hx209_0;replace hx209_1:=fo HB hx209_1;have HR209_1:=aa hi209_1;have HC209_1:=aa hl209_1;clear hi209_1 hl209_1;replace p209:=eq_true p209;replace q209:=eq_true q209;go_wp2_with (first|((with_reducible refine ae (f:=51) rfl ?_);refine cf (some 19) Tryz.func51 #[.agg #[.string ((bu l0 x4_1).f0),.slice A209_1 ((bu l0 x4_1).f1).length c209_1]] ?_;(with_reducible refine(aH.calls k1 ((bu l0 x4_1).f0) _ _ ((bu l0 x4_1).f1) t210 _ ?side1 ?side2 A7.out).mono ?_);(case side1=>exact fw (Kd.cA HR209_1.out HB.out));(case side2=>exact HC209_1.out);rintro e w9 ⟨rfl,hb⟩;refine⟨_,rfl,?_⟩;replace HB:=cw HB hb))
       go_roundg k1
       case measure=>have:=HK1.out;omega
       case rel=>exact⟨(x3_1++t210),(wrap64 (x4_1+1)),(by first|rfl|(simp;done)|(simp[*];done)),(by first|rfl|(simp;done)|(simp[*];done)),H',⟨by have:=HK1.out;omega⟩,⟨(bl HB)⟩⟩
      ·rw[if_neg c8]at H;exact absurd H (by simp)
     ·rw[if_neg c6]at H;exact absurd H (by simp)
    ·rw[if_neg c5]at H;have c5b0:decide (x4_1<(l0.length:Int))=false:=cW c5;clear c5;obtain rfl:=cq H;go_wp2;go_ret;exact dL
 ·replace c3:=fy c3;subst c3;have H1:(some (⟨#[]⟩:ByteArray))=some r:=by rw[if_neg (show ¬(false=true) by decide)]at H;exact H
  clear H;have H:=H1;clear H1;obtain rfl:=cq H;go_enter Tryz.func23,Tryz.ntmps23;go_wp2_with (first|((with_reducible refine ae (f:=13) rfl ?_);refine cf (some 6) Tryz.func13 #[.slice A0 l0.length c0] ?_;(with_reducible refine(bb.calls k _ _ l0 false _ ?side1 ?side2 A2.out).mono ?_);(case side1=>exact fw HR0.out);(case side2=>exact HC0.out);rintro e w10 ⟨rfl,hb⟩;refine⟨_,rfl,?_⟩;replace HB:=cw HB hb));go_ret;exact dL
def aE.l0 (k:Nat):List ByteArray→List b5→Option (List b5×Bool)
 | [],l=>some (l,true)
 | x::r,l=>if x.size≤140737488351232 then(cD.f k l x).bind fun t=>if t.2=true then aE.l0 k r t.1 else some (t.1,false)else none
def aE.f (k:Nat) (a0:ByteArray):Option (List b5×Bool):=if (a0.size:Int)>4000 then some ([],false)else(bA.f k a0 10).bind fun ls=>if 0<ls.length∧ls.length≤1000000 then(aE.l0 k (ls.take (ls.length-1)) []).bind fun t=>if t.2=true then(bb.f k t.1).bind fun b=>if b=true then(aW.f k t.1).bind fun o=>if o.toList=a0.toList then some (t.1,true)else some ([],false)else some ([],false)else some ([],false)else none
set_option maxHeartbeats 16000000 in
theorem aE.at (k:Nat) (a0:ByteArray) (r:List b5) (b:Bool) (w:World) (h:aE.f k a0=some (r,b)) :
  Calls Tryz.prog 5 #[.string a0] w fun e w'=>∃v,e=.returned (.tuple #[v,.bool b])∧Kd.S LO.kS 48 w' w.heap.size (fun _=>True) v r∧Below w.heap.size w w':=by
 have HB:=aa (Below.refl w.heap.size w);unfold aE.f at h;by_cases c0:(a0.size:Int)>4000
 ·rw[if_pos c0]at h;obtain⟨rfl,rfl⟩:=Prod.mk.inj (cq h);have c0b:decide ((a0.size:Int)>4000)=true:=cH c0;have c0d:decide ((4000:Int)<(a0.size:Int))=true:=cH c0;clear c0 h;go_enter Tryz.func5,Tryz.ntmps5;go_wp2_with (first|((with_reducible refine aq (N:=12) rfl ?_);refine Kd.de (Kd.tag (fun _=>0) LO.kS) (w0:=w) w.heap.size 48 ?hg12 (N:=12) ?hd12 (xs:=[]) (inner:=[]) (ok:=fun _=>True) (okp:=fun _=>False) ?hr12 ?hp12 (fun _ hk=>hk.elim) trivial HB.out (ar HB.out) (by simp) ?_;(case hd12=>rfl);(case hg12=>rfl);(case hr12=>first|(go_simp;done)|(go_simp;rfl));(case hp12=>exact bn.none _ _);intro v12 we12 ho hb hg_ hnew_;have hS:Kd.S LO.kS 48 we12 w.heap.size (fun _=>True) v12 []:=⟨_,ho⟩;obtain⟨AE,cE,eE⟩:=Kd.eh hS;subst eE;have HE:=aa hS;clear hS ho hg_ hnew_;replace HB:=aa (hb);clear hb))
  go_ret2
  exact⟨_,rfl,HE.out,HB.out⟩
 ·rw[if_neg c0]at h;obtain⟨ls,A0,h⟩:=eD h;have ASP:=aa A0;clear A0;by_cases c:0<ls.length∧ls.length≤1000000
  ·rw[if_pos c]at h;obtain⟨⟨lf,okf⟩,A0,h⟩:=eD h;have AL:=aa A0;have LW:=aa c.1;have LM:=aa c.2;have c0b:decide ((a0.size:Int)>4000)=false:=cW c0;have c0d:decide ((4000:Int)<(a0.size:Int))=false:=cW c0;obtain⟨mI,hmI⟩:∃mI:Int,mI=(ls.length:Int)-1:=⟨_,rfl⟩;have hsub:=hmI.symm;have hm2:wrap64 ((ls.length:Int)-1)=mI:=by rw[hmI];unfold wrap64;omega
   have hm3:wrap64 mI=mI:=by rw[hmI];unfold wrap64;omega
   have HM:=aa hmI;dsimp only at h;have HH:=aa h;clear A0 c0 hmI h c;go_enter Tryz.func5,Tryz.ntmps5;go_wp2_with (first|(go_at_call 21;(with_reducible refine(bA.calls k a0 10 ls _ ASP.out).mono ?_);rintro e w1 ⟨v14,rfl,ho,hb⟩;obtain⟨gS,cS,eS,_,_,_⟩:=Kd.kD ho LW.out;subst eS;have HLS:=aa ho;have HW:=aa (aX HB.out hb);clear HB;have HB:=aa (Below.refl w1.heap.size w1);clear ho hb)|((with_reducible refine aq (N:=15) rfl ?_);refine Kd.de (Kd.tag (fun _=>0) LO.kS) (w0:=w1) w1.heap.size 48 ?hg15 (N:=15) ?hd15 (xs:=[]) (inner:=[]) (ok:=fun _=>True) (okp:=fun _=>False) ?hr15 ?hp15 (fun _ hk=>hk.elim) trivial HB.out (ar HB.out) (by simp) ?_;(case hd15=>rfl);(case hg15=>rfl);(case hr15=>first|(go_simp;done)|(go_simp;rfl));(case hp15=>exact bn.none _ _);intro v15 we15 ho hb hg_ hnew_;have hS:Kd.S LO.kS 48 we15 w1.heap.size (fun _=>True) v15 []:=⟨_,ho⟩;obtain⟨AE,cE,eE⟩:=Kd.eh hS;subst eE;have HE:=aa hS;clear hS ho hg_ hnew_;replace HB:=aa (hb);clear hb));have HS:=HE;clear HE
   go_loopg [5,6,7,8] (ls.length-1) (fun kq v5 v6 _ _ w'=>∃(i:Nat) (l:List b5) (v:Value),v5=v∧v6=.int .i64 (i:Int)∧Aside0 (i≤ls.length-1∧ls.length-1-i≤kq)∧Aside0 (aE.l0 k ((ls.take (ls.length-1)).drop i) l=some (lf,okf))∧Aside0 (Kd.S LO.kS 48 w' w1.heap.size (fun _=>True) v l)∧Aside0 (Below w1.heap.size w1 w'))
   case atStart=>exact⟨0,[],_,rfl,rfl,⟨by omega,by omega⟩,⟨by rw[List.drop_zero];exact AL.out⟩,HS,HB⟩
   case round =>
    clear AL HS HB;obtain⟨i,l,v,rfl,rfl,HI,AL,HS,HB⟩:=hrel;obtain⟨A5,c5,e5⟩:=Kd.eh HS.out;subst e5;by_cases hi:i<ls.length-1
    ·obtain⟨x,hx⟩:∃x:Int,x=(i:Int):=⟨_,rfl⟩;have hmI:=HM.out;have x0:0≤x:=by omega
     have x1:x<(ls.length:Int):=by omega
     have xm:x<mI:=by omega
     obtain⟨ad,e0,hx0⟩:=Kd.et (Kd.aU HLS.out).2.2 x x0 x1;obtain⟨wd,hwd⟩:∃y,y=dM ByteArray.empty ls x:=⟨_,rfl⟩;have hlt:i<(ls.take (ls.length-1)).length:=by rw[List.length_take];omega
     have hxi:x.toNat=i:=by omega
     have hil:i<ls.length:=by omega
     have hwe:(ls.take (ls.length-1))[i]'hlt=wd:=by
      rw[hwd,List.getElem_take];unfold dM;rw[hxi,List.getD_eq_getElem?_getD,List.getElem?_eq_getElem hil];rfl
     rw[←hwd]at hx0;replace hx0:=(HB.out.cell (World.block_lt_of_cell? w1 _ hx0)).trans hx0;have H:=AL.out;rw[List.drop_eq_getElem_cons hlt,hwe]at H;simp only[aE.l0]at H;by_cases cz:wd.size≤140737488351232
     ·rw[if_pos cz]at H;obtain⟨⟨l2,b2⟩,A0,H⟩:=eD H;have AA:=aa A0;have HSZ:=aa cz;have HX:=aa hx;have HIL:=aa hi;rw[←hx];have x0b:=eq_true x0;have x1b:=eq_true x1;have xmb:decide (x<mI)=true:=cH xm;dsimp only at H;clear A0 hx hi x0 x1 xm hwe hwd cz hmI AL hlt hxi hil;cases e0;rw[add_plain]at hx0
      cases b2
      ·rw[if_neg (by decide)]at H;obtain⟨rfl,rfl⟩:=Prod.mk.inj (cq H);have H:=HH.out;rw[if_neg (by decide)]at H;obtain⟨rfl,rfl⟩:=Prod.mk.inj (cq H);clear H HH;go_wp2_with (first|(go_at_call 22;refine(cD.calls k l wd l2 false _ w1 _ HB.out HS.out HSZ.out AA.out).mono ?_;rintro e w5 ⟨v2,rfl,ho,hb⟩;obtain⟨A2,c2_,e2⟩:=Kd.eh ho;subst e2;replace HS:=aa (ho);replace HB:=aa (hb);clear ho hb)|((with_reducible refine aq (N:=34) rfl ?_);refine Kd.de (Kd.tag (fun _=>0) LO.kS) (w0:=w1) w1.heap.size 48 ?hg34 (N:=34) ?hd34 (xs:=[]) (inner:=[]) (ok:=fun _=>True) (okp:=fun _=>False) ?hr34 ?hp34 (fun _ hk=>hk.elim) trivial HB.out (ar HB.out) (by simp) ?_;(case hd34=>rfl);(case hg34=>rfl);(case hr34=>first|(go_simp;done)|(go_simp;rfl));(case hp34=>exact bn.none _ _);intro v34 we34 ho hb hg_ hnew_;have hS:Kd.S LO.kS 48 we34 w1.heap.size (fun _=>True) v34 []:=⟨_,ho⟩;obtain⟨AE,cE,eE⟩:=Kd.eh hS;subst eE;have HE:=aa hS;clear hS ho hg_ hnew_;replace HB:=aa (hb);clear hb))
       go_ret2
       exact⟨_,rfl,Kd.ki HE.out HW.out.size,HW.out.trans (Below.mono HB.out HW.out.size)⟩
      ·rw[if_pos rfl]at H;have AL:=aa H;clear H;go_wp2_with (first|(go_at_call 22;refine(cD.calls k l wd l2 true _ w1 _ HB.out HS.out HSZ.out AA.out).mono ?_;rintro e w5 ⟨v2,rfl,ho,hb⟩;obtain⟨A2,c2_,e2⟩:=Kd.eh ho;subst e2;replace HS:=aa (ho);replace HB:=aa (hb);clear ho hb));have ex:wrap64 (x+1)=((i+1:Nat):Int):=by have h1:=HX.out;have h2:=HIL.out;have h4:=LM.out;unfold wrap64;omega
       go_roundg (gk-1)
       case measure=>have h1:=HI.out;have h2:=HIL.out;omega
       case rel=>exact⟨i+1,l2,_,rfl,by rw[ex],⟨by have h1:=HI.out;have h2:=HIL.out;omega⟩,AL,HS,HB⟩
     ·rw[if_neg cz]at H;exact absurd H (by simp)
    ·have hie:i=ls.length-1:=by have:=HI.out.1;omega
     have H:=AL.out;rw[List.drop_of_length_le (by rw[List.length_take];omega)]at H;obtain⟨rfl,rfl⟩:=Prod.mk.inj (cq (show some (l,true)=some (lf,okf)from H));have H:=HH.out;rw[if_pos rfl]at H;obtain⟨bI,A0,H⟩:=eD H;have AI:=aa A0;have hmI:=HM.out;have hlw:=LW.out;have xmb:decide ((i:Int)<mI)=false:=cW (by omega);clear A0 AL HH hmI hie hi hlw;have HR:=aa (LO.R_of HS.out)
     cases bI
     ·rw[if_neg (by decide)]at H;obtain⟨rfl,rfl⟩:=Prod.mk.inj (cq H);clear H;go_wp2_with (first|(go_at_call 13;(with_reducible refine(bb.calls k _ _ l false _ ?cI ?lI AI.out).mono ?_);(case cI=>exact(Kd.aU HR.out).2.2);(case lI=>exact(Kd.aU HR.out).2.1);rintro e w6 ⟨rfl,hb⟩;replace HS:=aa (Kd.b9 HS.out hb);replace HR:=aa (Kd.bF HR.out hb);replace HB:=aa (HB.out.trans (Below.mono hb HB.out.size));clear hb)|((with_reducible refine aq (N:=45) rfl ?_);refine Kd.de (Kd.tag (fun _=>0) LO.kS) (w0:=w1) w1.heap.size 48 ?hg45 (N:=45) ?hd45 (xs:=[]) (inner:=[]) (ok:=fun _=>True) (okp:=fun _=>False) ?hr45 ?hp45 (fun _ hk=>hk.elim) trivial HB.out (ar HB.out) (by simp) ?_;(case hd45=>rfl);(case hg45=>rfl);(case hr45=>first|(go_simp;done)|(go_simp;rfl));(case hp45=>exact bn.none _ _);intro v45 we45 ho hb hg_ hnew_;have hS:Kd.S LO.kS 48 we45 w1.heap.size (fun _=>True) v45 []:=⟨_,ho⟩;obtain⟨AE,cE,eE⟩:=Kd.eh hS;subst eE;have HE:=aa hS;clear hS ho hg_ hnew_;replace HB:=aa (hb);clear hb))
      go_ret2
      exact⟨_,rfl,Kd.ki HE.out HW.out.size,HW.out.trans (Below.mono HB.out HW.out.size)⟩
     ·rw[if_pos rfl]at H;obtain⟨oF,A0,H⟩:=eD H;have AF:=aa A0;clear A0;by_cases co:oF.toList=a0.toList
      ·rw[if_pos co]at H;obtain⟨rfl,rfl⟩:=Prod.mk.inj (cq H);clear H;have cob:(oF.toList==a0.toList)=true:=eQ co;have coc:(oF.toList !=a0.toList)=false:=fa co;clear co;go_wp2_with (first|(go_at_call 13;(with_reducible refine(bb.calls k _ _ l true _ ?cI ?lI AI.out).mono ?_);(case cI=>exact(Kd.aU HR.out).2.2);(case lI=>exact(Kd.aU HR.out).2.1);rintro e w6 ⟨rfl,hb⟩;replace HS:=aa (Kd.b9 HS.out hb);replace HR:=aa (Kd.bF HR.out hb);replace HB:=aa (HB.out.trans (Below.mono hb HB.out.size));clear hb)|(go_at_call 23;(with_reducible refine(aW.calls k _ _ l oF _ ?cI ?lI AF.out).mono ?_);(case cI=>exact(Kd.aU HR.out).2.2);(case lI=>exact(Kd.aU HR.out).2.1);rintro e w7 ⟨rfl,hb⟩;replace HS:=aa (Kd.b9 HS.out hb);replace HR:=aa (Kd.bF HR.out hb);replace HB:=aa (HB.out.trans (Below.mono hb HB.out.size));clear hb))
       go_ret2
       exact⟨_,rfl,Kd.ki HS.out HW.out.size,HW.out.trans (Below.mono HB.out HW.out.size)⟩
      ·rw[if_neg co]at H;obtain⟨rfl,rfl⟩:=Prod.mk.inj (cq H);clear H;have cob:(oF.toList==a0.toList)=false:=ea co;have coc:(oF.toList !=a0.toList)=true:=fc co;clear co;go_wp2_with (first|(go_at_call 13;(with_reducible refine(bb.calls k _ _ l true _ ?cI ?lI AI.out).mono ?_);(case cI=>exact(Kd.aU HR.out).2.2);(case lI=>exact(Kd.aU HR.out).2.1);rintro e w6 ⟨rfl,hb⟩;replace HS:=aa (Kd.b9 HS.out hb);replace HR:=aa (Kd.bF HR.out hb);replace HB:=aa (HB.out.trans (Below.mono hb HB.out.size));clear hb)|(go_at_call 23;(with_reducible refine(aW.calls k _ _ l oF _ ?cI ?lI AF.out).mono ?_);(case cI=>exact(Kd.aU HR.out).2.2);(case lI=>exact(Kd.aU HR.out).2.1);rintro e w7 ⟨rfl,hb⟩;replace HS:=aa (Kd.b9 HS.out hb);replace HR:=aa (Kd.bF HR.out hb);replace HB:=aa (HB.out.trans (Below.mono hb HB.out.size));clear hb)|((with_reducible refine aq (N:=45) rfl ?_);refine Kd.de (Kd.tag (fun _=>0) LO.kS) (w0:=w1) w1.heap.size 48 ?hg45 (N:=45) ?hd45 (xs:=[]) (inner:=[]) (ok:=fun _=>True) (okp:=fun _=>False) ?hr45 ?hp45 (fun _ hk=>hk.elim) trivial HB.out (ar HB.out) (by simp) ?_;(case hd45=>rfl);(case hg45=>rfl);(case hr45=>first|(go_simp;done)|(go_simp;rfl));(case hp45=>exact bn.none _ _);intro v45 we45 ho hb hg_ hnew_;have hS:Kd.S LO.kS 48 we45 w1.heap.size (fun _=>True) v45 []:=⟨_,ho⟩;obtain⟨AE,cE,eE⟩:=Kd.eh hS;subst eE;have HE:=aa hS;clear hS ho hg_ hnew_;replace HB:=aa (hb);clear hb))
       go_ret2
       exact⟨_,rfl,Kd.ki HE.out HW.out.size,HW.out.trans (Below.mono HB.out HW.out.size)⟩
  ·rw[if_neg c]at h;exact absurd h (by simp)
theorem aE.bS (k:Nat):∀ls l,bm (aE.l0 k ls l) (aE.l0 (k+1) ls l)
 | [],l=>bm.refl _
 | x::r,l=>by
  unfold aE.l0;exact bm.ite (bm.bind (cD.mono _ _ _) fun t=>bm.ite (aE.bS k r _) (bm.refl _)) (bm.refl _)
theorem aE.mono:∀a0 k,bm (aE.f k a0) (aE.f (k+1) a0):=by
 intro a0 k;unfold aE.f;exact bm.ite (bm.refl _) (bm.bind (by first|exact bm.refl _|exact bA.mono _ _ _) fun ls=>bm.ite (bm.bind (aE.bS _ _ _) fun t=>bm.ite (bm.bind (bb.mono _ _) fun b=>bm.ite (bm.bind (by first|exact bm.refl _|exact aW.mono _ _) fun _=>bm.refl _) (bm.refl _)) (bm.refl _)) (bm.refl _))
theorem aE.calls (k:Nat) (a0:ByteArray) (r1:List b5) (r2:Bool) (w:World) (h:aE.f k a0=some (r1,r2)) :
  Calls Tryz.prog 5 #[.string a0] w fun e w'=>∃v0_:Value,e=.returned (.tuple #[v0_,.bool r2])∧Kd.R jZ 48 w' w.heap.size (fun _=>True) v0_ r1∧Below w.heap.size w w' :=
 (aE.at k a0 r1 r2 w h).mono (by rintro e w' ⟨v,he,hS,hb⟩;exact⟨v,he,LO.R_of hS,hb⟩)
def cj.f (a0:Int) (a1:Int) (a2:Int):Option (Bool):=if a1≤a0 then(some (decide (a0≤a2)))else(some false)
theorem cj.calls (a0:Int) (a1:Int) (a2:Int) (r:Bool) (w:World) (h:cj.f a0 a1 a2=some r) :
  Calls Tryz.prog 72 #[.int .i64 a0,.int .i64 a1,.int .i64 a2] w fun e w'=>e=.returned (.bool r)∧bg w w':=by
 have H:(if a1≤a0 then(some (decide (a0≤a2)))else(some false))=some r:=h;clear h;by_cases c4:a1≤a0
 ·rw[if_pos c4]at H;have c4b0:decide (a1≤a0)=true:=cH c4;clear c4;obtain rfl:=cq H;go_enter Tryz.func72,Tryz.ntmps72;go_wp2;go_ret;exact⟨by first|rfl|(simp;done)|(simp[*];done),by repeat(first|exact bg.refl _|apply bg.step)⟩
 ·rw[if_neg c4]at H;have c4b0:decide (a1≤a0)=false:=cW c4;clear c4;obtain rfl:=cq H;go_enter Tryz.func72,Tryz.ntmps72;go_wp2;go_ret;exact⟨by first|rfl|(simp;done)|(simp[*];done),by repeat(first|exact bg.refl _|apply bg.step)⟩
def bo.l0:Nat→ByteArray→Int→Int→Option (Bool)
 | 0,_,_,_=>none
 | k+1,x0,x9,x10=>if x10<x9 then(if 0≤x10 then(if x10<(x0.size:Int)then(if (bt x0 x10)<97 then(some false)else(if (bt x0 x10)>122 then(some false)else(bo.l0 k x0 x9 (wrap64 (x10+1)))))else(none))else(none))else(some true)
def bo.f (k:Nat) (a0:ByteArray):Option (Bool):=(cj.f (a0.size:Int) 1 6).bind fun t211=>(if t211=true then(bo.l0 k a0 (a0.size:Int) 0)else(some false))
theorem bo.bS:∀k,(∀y0 y1 y2,bm (bo.l0 k y0 y1 y2) (bo.l0 (k+1) y0 y1 y2))
 | 0=>fun _ _ _ r h=>by simp[bo.l0]at h
 | k+1=>by
  have ih0:=bo.bS k
  ·intro y0 y1 y2;unfold bo.l0
   repeat' with_reducible first|exact ih0 _ _ _|exact bm.refl _|exact bm.none _|refine bm.ite ?_ ?_|refine bm.bind ?_ (fun _=>?_)
theorem bo.mono:∀a0 k,bm (bo.f k a0) (bo.f (k+1) a0):=by
 intro a0 k;have ih0:=bo.bS k;unfold bo.f
 repeat' with_reducible first|exact ih0 _ _ _|exact bm.refl _|exact bm.none _|refine bm.ite ?_ ?_|refine bm.bind ?_ (fun _=>?_)
theorem bo.calls (k:Nat) (a0:ByteArray) (r:Bool) (w:World) (h:bo.f k a0=some r) :
  Calls Tryz.prog 74 #[.string a0] w fun e w'=>e=.returned (.bool r)∧bg w w':=by
 have H:((cj.f (a0.size:Int) 1 6).bind fun t211=>(if t211=true then(bo.l0 k a0 (a0.size:Int) 0)else(some false)))=some r:=h;clear h;replace H:=dW H;obtain⟨t211,A2,H⟩:=H;by_cases c3:t211=true
 ·subst c3;have H1:(bo.l0 k a0 (a0.size:Int) 0)=some r:=by rw[if_pos rfl]at H;exact H
  clear H;have H:=H1;clear H1;have H':=aa H;clear H;go_enter Tryz.func74,Tryz.ntmps74;go_wp2_with (first|((with_reducible refine ae (f:=72) rfl ?_);refine cf (some 6) Tryz.func72 #[.int .i64 (a0.size:Int),.int .i64 1,.int .i64 6] ?_;(with_reducible refine(cj.calls (a0.size:Int) 1 6 true _ A2.out).mono ?_);rintro e w' ⟨rfl,⟨nd,rfl⟩⟩;refine⟨_,rfl,?_⟩))
  go_loopg [10] k (fun kq v10 w'=>∃(x10_1:Int),v10=.int .i64 x10_1∧Aside0 (bo.l0 kq a0 (a0.size:Int) x10_1=some r)∧Aside0 (kq≤k)∧bg w w')
  case atStart=>exact⟨(0),(by first|rfl|(simp;done)|(simp[*];done)),H',⟨Nat.le_refl _⟩,by repeat(first|exact bg.refl _|apply bg.step)⟩
  case round =>
   clear H';obtain⟨x10_1,rfl,HA,HK1,⟨m1,rfl⟩⟩:=hrel
   cases gk with
   | zero=>exact absurd HA.out (by simp[bo.l0])
   | succ k1 =>
    have H:=HA.out;clear HA;simp only[bo.l0]at H;by_cases c4:x10_1<(a0.size:Int)
    ·rw[if_pos c4]at H;have c4b0:decide (x10_1<(a0.size:Int))=true:=cH c4;clear c4;by_cases c5:0≤x10_1
     ·rw[if_pos c5]at H;have c5b0:decide (0≤x10_1)=true:=cH c5;clear c5;by_cases c6:x10_1<(a0.size:Int)
      ·rw[if_pos c6]at H;have c6b0:decide (x10_1<(a0.size:Int))=true:=cH c6;clear c6;by_cases c8:(bt a0 x10_1)<97
       ·rw[if_pos c8]at H;have c8b0:decide ((bt a0 x10_1)<97)=true:=cH c8;clear c8;obtain rfl:=cq H;have p7:0≤(x10_1:Int):=eb;have q7:x10_1<(a0.size:Int):=eb;have hx7:=gN a0 x10_1;replace p7:=eq_true p7;replace q7:=eq_true q7;go_wp2;go_ret;exact⟨by first|rfl|(simp;done)|(simp[*];done),by repeat(first|exact bg.refl _|apply bg.step)⟩
       ·rw[if_neg c8]at H;have c8b0:decide ((bt a0 x10_1)<97)=false:=cW c8;clear c8;by_cases fp:(bt a0 x10_1)>122
        ·rw[if_pos fp]at H;have c10b0:decide (122<(bt a0 x10_1))=true:=cH fp;clear fp;obtain rfl:=cq H;have p7:0≤(x10_1:Int):=eb;have q7:x10_1<(a0.size:Int):=eb;have hx7:=gN a0 x10_1;replace p7:=eq_true p7;replace q7:=eq_true q7;have p9:0≤(x10_1:Int):=eb;have q9:x10_1<(a0.size:Int):=eb;have hx9:=gN a0 x10_1;replace p9:=eq_true p9;replace q9:=eq_true q9;go_wp2;go_ret;exact⟨by first|rfl|(simp;done)|(simp[*];done),by repeat(first|exact bg.refl _|apply bg.step)⟩
        ·rw[if_neg fp]at H;have c10b0:decide (122<(bt a0 x10_1))=false:=cW fp;clear fp;have H':=aa H;clear H;have p7:0≤(x10_1:Int):=eb;have q7:x10_1<(a0.size:Int):=eb;have hx7:=gN a0 x10_1;replace p7:=eq_true p7;replace q7:=eq_true q7;have p9:0≤(x10_1:Int):=eb;have q9:x10_1<(a0.size:Int):=eb;have hx9:=gN a0 x10_1;replace p9:=eq_true p9;replace q9:=eq_true q9;go_wp2
         go_roundg k1
         case measure=>have:=HK1.out;omega
         case rel=>exact⟨(wrap64 (x10_1+1)),(by first|rfl|(simp;done)|(simp[*];done)),H',⟨by have:=HK1.out;omega⟩,by repeat(first|exact bg.refl _|apply bg.step)⟩
      ·rw[if_neg c6]at H;exact absurd H (by simp)
     ·rw[if_neg c5]at H;exact absurd H (by simp)
    ·rw[if_neg c4]at H;have c4b0:decide (x10_1<(a0.size:Int))=false:=cW c4;clear c4;obtain rfl:=cq H;go_wp2;go_ret;exact⟨by first|rfl|(simp;done)|(simp[*];done),by repeat(first|exact bg.refl _|apply bg.step)⟩
 ·replace c3:=fy c3;subst c3;have H1:(some false)=some r:=by rw[if_neg (show ¬(false=true) by decide)]at H;exact H
  clear H;have H:=H1;clear H1;obtain rfl:=cq H;go_enter Tryz.func74,Tryz.ntmps74;go_wp2_with (first|((with_reducible refine ae (f:=72) rfl ?_);refine cf (some 6) Tryz.func72 #[.int .i64 (a0.size:Int),.int .i64 1,.int .i64 6] ?_;(with_reducible refine(cj.calls (a0.size:Int) 1 6 false _ A2.out).mono ?_);rintro e w' ⟨rfl,⟨nd,rfl⟩⟩;refine⟨_,rfl,?_⟩));go_ret;exact⟨by first|rfl|(simp;done)|(simp[*];done),by repeat(first|exact bg.refl _|apply bg.step)⟩
end Go.Proofs.YtmipaoobkjppdaaGreatDoor.QFnTexts
