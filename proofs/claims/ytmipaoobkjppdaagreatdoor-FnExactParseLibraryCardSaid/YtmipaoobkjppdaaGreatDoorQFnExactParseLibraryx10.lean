import Derived.Test.YtmipaoobkjppdaaGreatDoorQFnExactParseLibraryx4
import Derived.Test.YtmipaoobkjppdaaGreatDoorQFnExactParseLibraryx9
set_option maxHeartbeats 8000000
set_option maxRecDepth 100000
namespace Go.Proofs.YtmipaoobkjppdaaGreatDoor.QFnExactParseLibrary
open Go.RowKit Go.Proofs.YtmipaoobkjppdaaGreatDoorW 
open PrintWords PrintLast PrintMore
attribute [local go_sem] cA cB cX cY cd cf cD cG
set_option linter.unusedVariables false
set_option linter.unusedSimpArgs false
mutual
def aw.l0:Nat→ByteArray→Int→ByteArray→List (cW)→Option (ByteArray)
 | 0,_,_,_,_=>none
 | k+1,x3,x4,x202000,x202001=>if x4<(x202001.length:Int)then(if x3.size+7≤9223372036854775807 then(if 0≤x4 then(if (x3++(⟨#[109,101,116,104,111,100,32]⟩:ByteArray)).size+((aq x202001 x4).f0).size≤9223372036854775807 then(if ((x3++(⟨#[109,101,116,104,111,100,32]⟩:ByteArray))++((aq x202001 x4).f0)).size+1≤9223372036854775807 then(aw.l1 k (((x3++(⟨#[109,101,116,104,111,100,32]⟩:ByteArray))++((aq x202001 x4).f0))++(⟨#[10]⟩:ByteArray)) x4 0 x202000 x202001)else(none))else(none))else(none))else(none))else(some x3)
def aw.l1:Nat→ByteArray→Int→Int→ByteArray→List (cW)→Option (ByteArray)
 | 0,_,_,_,_,_=>none
 | k+1,x3,x4,x5,x202000,x202001=>if 0≤x4 then(if x4<(x202001.length:Int)then(if x5<(((aq x202001 x4).f1).length:Int)then(if 0≤x5 then((ar.f k ((ab ((aq x202001 x4).f1) x5).f0) ((ab ((aq x202001 x4).f1) x5).f1) ((ab ((aq x202001 x4).f1) x5).f2) ((ab ((aq x202001 x4).f1) x5).f3) ((ab ((aq x202001 x4).f1) x5).f4) ((ab ((aq x202001 x4).f1) x5).f5)).bind fun t207=>(if x3.size+t207.size≤9223372036854775807 then(if (x3++t207).size+1≤9223372036854775807 then(aw.l1 k ((x3++t207)++(⟨#[10]⟩:ByteArray)) x4 (wrap64 (x5+1)) x202000 x202001)else(none))else(none)))else(none))else(aw.l0 k x3 (wrap64 (x4+1)) x202000 x202001))else(none))else(none)
end
def aw.f (k:Nat) (a0_0:ByteArray) (l0_1:List (cW)):Option (ByteArray):=(aM.f k a0_0 l0_1).bind fun t202=>(if t202=true then(if 7+a0_0.size≤9223372036854775807 then(if ((⟨#[115,99,114,105,112,116,32]⟩:ByteArray)++a0_0).size+1≤9223372036854775807 then(aw.l0 k (((⟨#[115,99,114,105,112,116,32]⟩:ByteArray)++a0_0)++(⟨#[10]⟩:ByteArray)) 0 a0_0 l0_1)else(none))else(none))else(some (⟨#[]⟩:ByteArray)))
theorem aw.bs:∀k,(∀y0 y1 y2 y3,bd (aw.l0 k y0 y1 y2 y3) (aw.l0 (k+1) y0 y1 y2 y3))∧(∀y0 y1 y2 y3 y4,bd (aw.l1 k y0 y1 y2 y3 y4) (aw.l1 (k+1) y0 y1 y2 y3 y4))
 | 0=>⟨fun _ _ _ _ r h=>by simp[aw.l0]at h,fun _ _ _ _ _ r h=>by simp[aw.l1]at h⟩
 | k+1=>by
  obtain⟨ih0,ih1⟩:=aw.bs k;refine⟨?_,?_⟩
  ·intro y0 y1 y2 y3;unfold aw.l0
   repeat' with_reducible first|exact ih0 _ _ _ _|exact ih1 _ _ _ _ _|exact ar.mono _ _ _ _ _ _ _|exact aM.mono _ _ _|exact bd.refl _|exact bd.none _|refine bd.ite ?_ ?_|refine bd.bind ?_ (fun _=>?_)
  ·intro y0 y1 y2 y3 y4;unfold aw.l1
   repeat' with_reducible first|exact ih0 _ _ _ _|exact ih1 _ _ _ _ _|exact ar.mono _ _ _ _ _ _ _|exact aM.mono _ _ _|exact bd.refl _|exact bd.none _|refine bd.ite ?_ ?_|refine bd.bind ?_ (fun _=>?_)
theorem aw.mono:∀a0 a1 k,bd (aw.f k a0 a1) (aw.f (k+1) a0 a1):=by
 intro a0 a1 k;obtain⟨ih0,ih1⟩:=aw.bs k;unfold aw.f
 repeat' with_reducible first|exact ih0 _ _ _ _|exact ih1 _ _ _ _ _|exact ar.mono _ _ _ _ _ _ _|exact aM.mono _ _ _|exact bd.refl _|exact bd.none _|refine bd.ite ?_ ?_|refine bd.bind ?_ (fun _=>?_)
theorem aw.calls (k:Nat) (a0_0:ByteArray) (A0_1:Option Addr) (c0_1:Nat) (l0_1:List (cW)) (r:ByteArray) (w:World) (hr0_1:Kd.C fN w A0_1 l0_1.length l0_1) (hc0_1:l0_1.length≤c0_1) (h:aw.f k a0_0 l0_1=some r) :
  Calls Tryz.prog 51 #[.agg #[.string a0_0,.slice A0_1 l0_1.length c0_1]] w fun e w'=>e=.returned (.string r)∧Below w.heap.size w w':=by
 have hu48:=Tryz.underlying48;have hu35:=Tryz.underlying35;have HR0_1:=ae hr0_1;have HC0_1:=ae hc0_1;clear hr0_1 hc0_1;have HB:=ae (Below.refl w.heap.size w);have H:((aM.f k a0_0 l0_1).bind fun t202=>(if t202=true then(if 7+a0_0.size≤9223372036854775807 then(if ((⟨#[115,99,114,105,112,116,32]⟩:ByteArray)++a0_0).size+1≤9223372036854775807 then(aw.l0 k (((⟨#[115,99,114,105,112,116,32]⟩:ByteArray)++a0_0)++(⟨#[10]⟩:ByteArray)) 0 a0_0 l0_1)else(none))else(none))else(some (⟨#[]⟩:ByteArray))))=some r:=h;clear h;replace H:=df H;obtain⟨t202,A2,H⟩:=H;by_cases c3:t202=true
 ·subst c3;have H1:(if 7+a0_0.size≤9223372036854775807 then(if ((⟨#[115,99,114,105,112,116,32]⟩:ByteArray)++a0_0).size+1≤9223372036854775807 then(aw.l0 k (((⟨#[115,99,114,105,112,116,32]⟩:ByteArray)++a0_0)++(⟨#[10]⟩:ByteArray)) 0 a0_0 l0_1)else(none))else(none))=some r:=by rw[if_pos rfl]at H;exact H
  clear H;have H:=H1;clear H1;by_cases c4:7+a0_0.size≤9223372036854775807
  ·rw[if_pos c4]at H;have c4b0:=eq_true c4;have c4b1:decide (7+a0_0.size≤9223372036854775807)=true:=bW c4
   try have c4b2:(9223372036854775807<7+a0_0.size)=False:=eq_false (Nat.not_lt.2 c4)
   by_cases c5:((⟨#[115,99,114,105,112,116,32]⟩:ByteArray)++a0_0).size+1≤9223372036854775807
   ·rw[if_pos c5]at H;have c5b0:=eq_true c5;have c5b1:decide (((⟨#[115,99,114,105,112,116,32]⟩:ByteArray)++a0_0).size+1≤9223372036854775807)=true:=bW c5;have c5n:=c5;simp only[ByteArray.size_append,show(⟨#[115,99,114,105,112,116,32]⟩:ByteArray).size=7 from rfl]at c5n;have c5n0:(9223372036854775807<7+a0_0.size)=False:=eq_false (by omega);have c5n1:(9223372036854775807<(7+a0_0.size)+1)=False:=eq_false (by omega)
    try have c5b2:(9223372036854775807<((⟨#[115,99,114,105,112,116,32]⟩:ByteArray)++a0_0).size+1)=False:=eq_false (Nat.not_lt.2 c5)
    have H':=ae H;clear H;go_enter Tryz.func51,Tryz.ntmps51;go_wp2_with (first|((with_reducible refine al (N:=1) rfl ?_);refine dG 1 #[.string a0_0,.slice A0_1 l0_1.length c0_1] 48 ?_;intro gb201 hg w6 hbox hb;have BK201:=ae (hbox);have GW201:=db hg;have GE201:=db hg;replace HB:=ch hb;clear hb hbox hg;obtain⟨z7_0,z7_1,y7_0,y7_1⟩:=eU BK201.out)|((with_reducible refine ai (f:=39) rfl ?_);refine dm (some 7) Tryz.func39 #[.agg #[.string a0_0,.slice A0_1 l0_1.length c0_1]] ?_;(with_reducible refine(aM.calls k a0_0 _ _ l0_1 true _ ?side1 ?side2 A2.out).mono ?_);(case side1=>exact fA (Kd.bH HR0_1.out HB.out));(case side2=>exact HC0_1.out);rintro e w8 ⟨rfl,hb⟩;refine⟨_,rfl,?_⟩;replace BK201:=dW BK201 hb;replace HB:=ch hb;obtain⟨z9_0,z9_1,y9_0,y9_1⟩:=eU BK201.out))
    go_loopg [3,4] k (fun kq v3 v4 w'=>∃(x3_1:ByteArray) (x4_1:Int),v3=.string x3_1∧v4=.int .i64 x4_1∧Aside0 (aw.l0 kq x3_1 x4_1 a0_0 l0_1=some r)∧Aside0 (kq≤k)∧Aside0 (w'.heap[gb201]? =some (.cells #[.string a0_0,(.slice A0_1 l0_1.length c0_1)] 48 (0,0)))∧Aside0 (Below w.heap.size w w'))
    case atStart=>exact⟨(((⟨#[115,99,114,105,112,116,32]⟩:ByteArray)++a0_0)++(⟨#[10]⟩:ByteArray)),(0),(by first|rfl|(simp;done)|(simp[*];done)),(by first|rfl|(simp;done)|(simp[*];done)),H',⟨Nat.le_refl _⟩,⟨bk BK201⟩,⟨bl⟩⟩
    case round =>
     clear H';obtain⟨x3_1,x4_1,rfl,rfl,HA,HK1,BK201,HB⟩:=hrel
     cases gk with
     | zero=>exact absurd HA.out (by simp[aw.l0])
     | succ k1 =>
      have H:=HA.out;clear HA;simp only[aw.l0]at H;by_cases eA:x4_1<(l0_1.length:Int)
      ·rw[if_pos eA]at H;have c10b0:decide (x4_1<(l0_1.length:Int))=true:=bW eA;clear eA;by_cases c11:x3_1.size+7≤9223372036854775807
       ·rw[if_pos c11]at H;have c11b0:=eq_true c11;have c11b1:decide (x3_1.size+7≤9223372036854775807)=true:=bW c11
        try have c11b2:(9223372036854775807<x3_1.size+7)=False:=eq_false (Nat.not_lt.2 c11)
        by_cases c12:0≤x4_1
        ·rw[if_pos c12]at H;have c12b0:decide (0≤x4_1)=true:=bW c12;clear c12;by_cases c13:(x3_1++(⟨#[109,101,116,104,111,100,32]⟩:ByteArray)).size+((aq l0_1 x4_1).f0).size≤9223372036854775807
         ·rw[if_pos c13]at H;have c13b0:=eq_true c13;have c13b1:decide ((x3_1++(⟨#[109,101,116,104,111,100,32]⟩:ByteArray)).size+((aq l0_1 x4_1).f0).size≤9223372036854775807)=true:=bW c13;have c13n:=c13;simp only[ByteArray.size_append,show(⟨#[109,101,116,104,111,100,32]⟩:ByteArray).size=7 from rfl]at c13n;have c13n0:(9223372036854775807<x3_1.size+7)=False:=eq_false (by omega);have c13n1:(9223372036854775807<(x3_1.size+7)+(aq l0_1 x4_1).f0.size)=False:=eq_false (by omega)
          try have c13b2:(9223372036854775807<(x3_1++(⟨#[109,101,116,104,111,100,32]⟩:ByteArray)).size+((aq l0_1 x4_1).f0).size)=False:=eq_false (Nat.not_lt.2 c13)
          by_cases c14:((x3_1++(⟨#[109,101,116,104,111,100,32]⟩:ByteArray))++((aq l0_1 x4_1).f0)).size+1≤9223372036854775807
          ·rw[if_pos c14]at H;have c14b0:=eq_true c14;have c14b1:decide (((x3_1++(⟨#[109,101,116,104,111,100,32]⟩:ByteArray))++((aq l0_1 x4_1).f0)).size+1≤9223372036854775807)=true:=bW c14;have c14n:=c14;simp only[ByteArray.size_append,show(⟨#[109,101,116,104,111,100,32]⟩:ByteArray).size=7 from rfl]at c14n;have c14n0:(9223372036854775807<x3_1.size+7)=False:=eq_false (by omega);have c14n1:(9223372036854775807<(x3_1.size+7)+(aq l0_1 x4_1).f0.size)=False:=eq_false (by omega);have c14n2:(9223372036854775807<((x3_1.size+7)+(aq l0_1 x4_1).f0.size)+1)=False:=eq_false (by omega)
           try have c14b2:(9223372036854775807<((x3_1++(⟨#[109,101,116,104,111,100,32]⟩:ByteArray))++((aq l0_1 x4_1).f0)).size+1)=False:=eq_false (Nat.not_lt.2 c14)
           have H':=ae H;clear H;obtain⟨z15_0,z15_1,y15_0,y15_1⟩:=eU BK201.out;have p203:0≤(x4_1:Int):=bN;have q203:x4_1<(l0_1.length:Int):=bN;obtain⟨ad203,A203_1,c203_1,e203,hx203_0,hx203_1,hl203_1,hi203_1⟩:=dC HR0_1.out x4_1 p203 q203;cases e203;replace hx203_0:=bg HB hx203_0;replace hx203_1:=bg HB hx203_1;have HR203_1:=ae hi203_1;have HC203_1:=ae hl203_1;clear hi203_1 hl203_1;replace p203:=eq_true p203;replace q203:=eq_true q203;go_wp2
           go_loopg [3,5] k1 (fun kq v3 v5 w'=>∃(x3_2:ByteArray) (x5_2:Int),v3=.string x3_2∧v5=.int .i64 x5_2∧Aside0 (aw.l1 kq x3_2 x4_1 x5_2 a0_0 l0_1=some r)∧Aside0 (kq≤k1)∧Aside0 (w'.heap[gb201]? =some (.cells #[.string a0_0,(.slice (some ad203) l0_1.length c0_1)] 48 (0,0)))∧Aside0 (Below w.heap.size w w'))
           case atStart=>exact⟨(((x3_1++(⟨#[109,101,116,104,111,100,32]⟩:ByteArray))++((aq l0_1 x4_1).f0))++(⟨#[10]⟩:ByteArray)),(0),(by first|rfl|(simp;done)|(simp[*];done)),(by first|rfl|(simp;done)|(simp[*];done)),H',⟨Nat.le_refl _⟩,⟨bk BK201⟩,⟨bl⟩⟩
           case round =>
            clear H';obtain⟨x3_2,x5_2,rfl,rfl,HA,HK2,BK201,HB⟩:=hrel
            cases gk with
            | zero=>exact absurd HA.out (by simp[aw.l1])
            | succ k2 =>
             have H:=HA.out;clear HA;simp only[aw.l1]at H;by_cases c16:0≤x4_1
             ·rw[if_pos c16]at H;have c16b0:decide (0≤x4_1)=true:=bW c16;clear c16;by_cases c17:x4_1<(l0_1.length:Int)
              ·rw[if_pos c17]at H;have c17b0:decide (x4_1<(l0_1.length:Int))=true:=bW c17;clear c17;by_cases c18:x5_2<(((aq l0_1 x4_1).f1).length:Int)
               ·rw[if_pos c18]at H;have c18b0:decide (x5_2<(((aq l0_1 x4_1).f1).length:Int))=true:=bW c18;clear c18;by_cases c19:0≤x5_2
                ·rw[if_pos c19]at H;have c19b0:decide (0≤x5_2)=true:=bW c19;clear c19;replace H:=df H;obtain⟨t207,A20,H⟩:=H;by_cases c21:x3_2.size+t207.size≤9223372036854775807
                 ·rw[if_pos c21]at H;have c21b0:=eq_true c21;have c21b1:decide (x3_2.size+t207.size≤9223372036854775807)=true:=bW c21
                  try have c21b2:(9223372036854775807<x3_2.size+t207.size)=False:=eq_false (Nat.not_lt.2 c21)
                  by_cases c22:(x3_2++t207).size+1≤9223372036854775807
                  ·rw[if_pos c22]at H;have c22b0:=eq_true c22;have c22b1:decide ((x3_2++t207).size+1≤9223372036854775807)=true:=bW c22;have c22n:=c22;simp only[ByteArray.size_append]at c22n;have c22n0:(9223372036854775807<x3_2.size+t207.size)=False:=eq_false (by omega);have c22n1:(9223372036854775807<(x3_2.size+t207.size)+1)=False:=eq_false (by omega)
                   try have c22b2:(9223372036854775807<(x3_2++t207).size+1)=False:=eq_false (Nat.not_lt.2 c22)
                   have H':=ae H;clear H;obtain⟨z23_0,z23_1,y23_0,y23_1⟩:=eU BK201.out;have p204:0≤(x4_1:Int):=bN;have q204:x4_1<(l0_1.length:Int):=bN;obtain⟨ad204,A204_1,c204_1,e204,hx204_0,hx204_1,hl204_1,hi204_1⟩:=dC HR0_1.out x4_1 p204 q204;obtain rfl:ad203=ad204:=(by injection e204);replace hx204_0:=bg HB hx204_0;replace hx204_1:=bg HB hx204_1;have HR204_1:=ae hi204_1;have HC204_1:=ae hl204_1;clear hi204_1 hl204_1;replace p204:=eq_true p204;replace q204:=eq_true q204;have p205:0≤(x4_1:Int):=bN;have q205:x4_1<(l0_1.length:Int):=bN;obtain⟨ad205,A205_1,c205_1,e205,hx205_0,hx205_1,hl205_1,hi205_1⟩:=dC HR0_1.out x4_1 p205 q205;obtain rfl:ad203=ad205:=(by injection e205);replace hx205_0:=bg HB hx205_0;replace hx205_1:=bg HB hx205_1;have HR205_1:=ae hi205_1;have HC205_1:=ae hl205_1;clear hi205_1 hl205_1;replace p205:=eq_true p205;replace q205:=eq_true q205;have ea_:=bL (hx204_1.symm.trans hx205_1)
                   injection ea_ with ea_ en_ ec_
                   subst ea_;subst ec_;clear en_;have p206:0≤(x5_2:Int):=bN;have q206:x5_2<(((aq l0_1 x4_1).f1).length:Int):=bN;obtain⟨ad206,e206,hx206_0,hx206_1,hx206_2,hx206_3,hx206_4,hx206_5⟩:=cx HR205_1.out x5_2 p206 q206;cases e206;replace hx206_0:=bg HB hx206_0;replace hx206_1:=bg HB hx206_1;replace hx206_2:=bg HB hx206_2;replace hx206_3:=bg HB hx206_3;replace hx206_4:=bg HB hx206_4;replace hx206_5:=bg HB hx206_5;replace p206:=eq_true p206;replace q206:=eq_true q206;go_wp2_with (first|((with_reducible refine ai (f:=43) rfl ?_);refine dm (some 51) Tryz.func43 #[.agg #[.int .i64 ((ab ((aq l0_1 x4_1).f1) x5_2).f0),.int .i64 ((ab ((aq l0_1 x4_1).f1) x5_2).f1),.int .i64 ((ab ((aq l0_1 x4_1).f1) x5_2).f2),.int .i64 ((ab ((aq l0_1 x4_1).f1) x5_2).f3),.int .i64 ((ab ((aq l0_1 x4_1).f1) x5_2).f4),.string ((ab ((aq l0_1 x4_1).f1) x5_2).f5)]] ?_;(with_reducible refine(ar.calls k2 ((ab ((aq l0_1 x4_1).f1) x5_2).f0) ((ab ((aq l0_1 x4_1).f1) x5_2).f1) ((ab ((aq l0_1 x4_1).f1) x5_2).f2) ((ab ((aq l0_1 x4_1).f1) x5_2).f3) ((ab ((aq l0_1 x4_1).f1) x5_2).f4) ((ab ((aq l0_1 x4_1).f1) x5_2).f5) t207 _ A20.out).mono ?_);rintro e w24 ⟨rfl,hb⟩;refine⟨_,rfl,?_⟩;replace BK201:=dW BK201 hb;replace HB:=ch hb))
                   go_roundg k2
                   case measure=>have:=HK1.out;have:=HK2.out;omega
                   case rel=>exact⟨((x3_2++t207)++(⟨#[10]⟩:ByteArray)),(wrap64 (x5_2+1)),(by first|rfl|(simp;done)|(simp[*];done)),(by first|rfl|(simp;done)|(simp[*];done)),H',⟨by have:=HK1.out;have:=HK2.out;omega⟩,⟨bk BK201⟩,⟨bl⟩⟩
                  ·rw[if_neg c22]at H;exact absurd H (by simp)
                 ·rw[if_neg c21]at H;exact absurd H (by simp)
                ·rw[if_neg c19]at H;exact absurd H (by simp)
               ·rw[if_neg c18]at H;have c18b0:decide (x5_2<(((aq l0_1 x4_1).f1).length:Int))=false:=b5 c18;clear c18;have H':=ae H;clear H;obtain⟨z25_0,z25_1,y25_0,y25_1⟩:=eU BK201.out;have p204:0≤(x4_1:Int):=bN;have q204:x4_1<(l0_1.length:Int):=bN;obtain⟨ad204,A204_1,c204_1,e204,hx204_0,hx204_1,hl204_1,hi204_1⟩:=dC HR0_1.out x4_1 p204 q204;obtain rfl:ad203=ad204:=(by injection e204);replace hx204_0:=bg HB hx204_0;replace hx204_1:=bg HB hx204_1;have HR204_1:=ae hi204_1;have HC204_1:=ae hl204_1;clear hi204_1 hl204_1;replace p204:=eq_true p204;replace q204:=eq_true q204;go_wp2
                go_roundg k2
                case measure=>have:=HK1.out;have:=HK2.out;omega
                case rel=>exact⟨(x3_2),(wrap64 (x4_1+1)),(by first|rfl|(simp;done)|(simp[*];done)),(by first|rfl|(simp;done)|(simp[*];done)),H',⟨by have:=HK1.out;have:=HK2.out;omega⟩,⟨bk BK201⟩,⟨bl⟩⟩
              ·rw[if_neg c17]at H;exact absurd H (by simp)
             ·rw[if_neg c16]at H;exact absurd H (by simp)
          ·rw[if_neg c14]at H;exact absurd H (by simp)
         ·rw[if_neg c13]at H;exact absurd H (by simp)
        ·rw[if_neg c12]at H;exact absurd H (by simp)
       ·rw[if_neg c11]at H;exact absurd H (by simp)
      ·rw[if_neg eA]at H;have c10b0:decide (x4_1<(l0_1.length:Int))=false:=b5 eA;clear eA;obtain rfl:=bL H;obtain⟨z26_0,z26_1,y26_0,y26_1⟩:=eU BK201.out;go_wp2;go_ret;exact cu
   ·rw[if_neg c5]at H;exact absurd H (by simp)
  ·rw[if_neg c4]at H;exact absurd H (by simp)
 ·replace c3:=eK c3;subst c3;have H1:(some (⟨#[]⟩:ByteArray))=some r:=by rw[if_neg (show ¬(false=true) by decide)]at H;exact H
  clear H;have H:=H1;clear H1;obtain rfl:=bL H;go_enter Tryz.func51,Tryz.ntmps51;go_wp2_with (first|((with_reducible refine al (N:=1) rfl ?_);refine dG 1 #[.string a0_0,.slice A0_1 l0_1.length c0_1] 48 ?_;intro gb201 hg w27 hbox hb;have BK201:=ae (hbox);have GW201:=db hg;have GE201:=db hg;replace HB:=ch hb;clear hb hbox hg;obtain⟨z28_0,z28_1,y28_0,y28_1⟩:=eU BK201.out)|((with_reducible refine ai (f:=39) rfl ?_);refine dm (some 7) Tryz.func39 #[.agg #[.string a0_0,.slice A0_1 l0_1.length c0_1]] ?_;(with_reducible refine(aM.calls k a0_0 _ _ l0_1 false _ ?side1 ?side2 A2.out).mono ?_);(case side1=>exact fA (Kd.bH HR0_1.out HB.out));(case side2=>exact HC0_1.out);rintro e w29 ⟨rfl,hb⟩;refine⟨_,rfl,?_⟩;replace BK201:=dW BK201 hb;replace HB:=ch hb));go_ret;exact cu
def aW.l0:Nat→List (bY)→ByteArray→Int→Option (ByteArray)
 | 0,_,_,_=>none
 | k+1,x0,x3,x4=>if x4<(x0.length:Int)then(if 0≤x4 then((aw.f k ((aN x0 x4).f0) ((aN x0 x4).f1)).bind fun t210=>(if x3.size+t210.size≤9223372036854775807 then(aW.l0 k x0 (x3++t210) (wrap64 (x4+1)))else(none)))else(none))else(some x3)
def aW.f (k:Nat) (l0:List (bY)):Option (ByteArray):=(a7.f k l0).bind fun t208=>(if t208=true then(aW.l0 k l0 (⟨#[]⟩:ByteArray) 0)else(some (⟨#[]⟩:ByteArray)))
theorem aW.bs:∀k,(∀y0 y1 y2,bd (aW.l0 k y0 y1 y2) (aW.l0 (k+1) y0 y1 y2))
 | 0=>fun _ _ _ r h=>by simp[aW.l0]at h
 | k+1=>by
  have ih0:=aW.bs k
  ·intro y0 y1 y2;unfold aW.l0
   repeat' with_reducible first|exact ih0 _ _ _|exact aw.mono _ _ _|exact a7.mono _ _|exact bd.refl _|exact bd.none _|refine bd.ite ?_ ?_|refine bd.bind ?_ (fun _=>?_)
theorem aW.mono:∀a0 k,bd (aW.f k a0) (aW.f (k+1) a0):=by
 intro a0 k;have ih0:=aW.bs k;unfold aW.f
 repeat' with_reducible first|exact ih0 _ _ _|exact aw.mono _ _ _|exact a7.mono _ _|exact bd.refl _|exact bd.none _|refine bd.ite ?_ ?_|refine bd.bind ?_ (fun _=>?_)
theorem aW.calls (k:Nat) (A0:Option Addr) (c0:Nat) (l0:List (bY)) (r:ByteArray) (w:World) (hr0:Kd.C lQ w A0 l0.length l0) (hc0:l0.length≤c0) (h:aW.f k l0=some r) :
  Calls Tryz.prog 23 #[.slice A0 l0.length c0] w fun e w'=>e=.returned (.string r)∧Below w.heap.size w w':=by
 have hu48:=Tryz.underlying48;have HR0:=ae hr0;have HC0:=ae hc0;clear hr0 hc0;have HB:=ae (Below.refl w.heap.size w);have H:((a7.f k l0).bind fun t208=>(if t208=true then(aW.l0 k l0 (⟨#[]⟩:ByteArray) 0)else(some (⟨#[]⟩:ByteArray))))=some r:=h;clear h;replace H:=df H;obtain⟨t208,A2,H⟩:=H;by_cases c3:t208=true
 ·subst c3;have H1:(aW.l0 k l0 (⟨#[]⟩:ByteArray) 0)=some r:=by rw[if_pos rfl]at H;exact H
  clear H;have H:=H1;clear H1;have H':=ae H;clear H;go_enter Tryz.func23,Tryz.ntmps23;go_wp2_with (first|((with_reducible refine ai (f:=13) rfl ?_);refine dm (some 6) Tryz.func13 #[.slice A0 l0.length c0] ?_;(with_reducible refine(a7.calls k _ _ l0 true _ ?side1 ?side2 A2.out).mono ?_);(case side1=>exact fA HR0.out);(case side2=>exact HC0.out);rintro e w4 ⟨rfl,hb⟩;refine⟨_,rfl,?_⟩;replace HB:=ch hb))
  go_loopg [3,4] k (fun kq v3 v4 w'=>∃(x3_1:ByteArray) (x4_1:Int),v3=.string x3_1∧v4=.int .i64 x4_1∧Aside0 (aW.l0 kq l0 x3_1 x4_1=some r)∧Aside0 (kq≤k)∧Aside0 (Below w.heap.size w w'))
  case atStart=>exact⟨((⟨#[]⟩:ByteArray)),(0),(by first|rfl|(simp;done)|(simp[*];done)),(by first|rfl|(simp;done)|(simp[*];done)),H',⟨Nat.le_refl _⟩,⟨bl⟩⟩
  case round =>
   clear H';obtain⟨x3_1,x4_1,rfl,rfl,HA,HK1,HB⟩:=hrel
   cases gk with
   | zero=>exact absurd HA.out (by simp[aW.l0])
   | succ k1 =>
    have H:=HA.out;clear HA;simp only[aW.l0]at H;by_cases c5:x4_1<(l0.length:Int)
    ·rw[if_pos c5]at H;have c5b0:decide (x4_1<(l0.length:Int))=true:=bW c5;clear c5;by_cases c6:0≤x4_1
     ·rw[if_pos c6]at H;have c6b0:decide (0≤x4_1)=true:=bW c6;clear c6;replace H:=df H;obtain⟨t210,A7,H⟩:=H;by_cases c8:x3_1.size+t210.size≤9223372036854775807
      ·rw[if_pos c8]at H;have c8b0:=eq_true c8;have c8b1:decide (x3_1.size+t210.size≤9223372036854775807)=true:=bW c8
       try have c8b2:(9223372036854775807<x3_1.size+t210.size)=False:=eq_false (Nat.not_lt.2 c8)
       have H':=ae H;clear H;have p209:0≤(x4_1:Int):=bN;have q209:x4_1<(l0.length:Int):=bN;obtain⟨ad209,A209_1,c209_1,e209,hx209_0,hx209_1,hl209_1,hi209_1⟩:=dD HR0.out x4_1 p209 q209;cases e209;replace hx209_0:=bg HB hx209_0;replace hx209_1:=bg HB hx209_1;have HR209_1:=ae hi209_1;have HC209_1:=ae hl209_1;clear hi209_1 hl209_1;replace p209:=eq_true p209;replace q209:=eq_true q209;go_wp2_with (first|((with_reducible refine ai (f:=51) rfl ?_);refine dm (some 19) Tryz.func51 #[.agg #[.string ((aN l0 x4_1).f0),.slice A209_1 ((aN l0 x4_1).f1).length c209_1]] ?_;(with_reducible refine(aw.calls k1 ((aN l0 x4_1).f0) _ _ ((aN l0 x4_1).f1) t210 _ ?side1 ?side2 A7.out).mono ?_);(case side1=>exact fA (Kd.bH HR209_1.out HB.out));(case side2=>exact HC209_1.out);rintro e w9 ⟨rfl,hb⟩;refine⟨_,rfl,?_⟩;replace HB:=ch hb))
       go_roundg k1
       case measure=>have:=HK1.out;omega
       case rel=>exact⟨(x3_1++t210),(wrap64 (x4_1+1)),(by first|rfl|(simp;done)|(simp[*];done)),(by first|rfl|(simp;done)|(simp[*];done)),H',⟨by have:=HK1.out;omega⟩,⟨bl⟩⟩
      ·rw[if_neg c8]at H;exact absurd H (by simp)
     ·rw[if_neg c6]at H;exact absurd H (by simp)
    ·rw[if_neg c5]at H;have c5b0:decide (x4_1<(l0.length:Int))=false:=b5 c5;clear c5;obtain rfl:=bL H;go_wp2;go_ret;exact cu
 ·replace c3:=eK c3;subst c3;have H1:(some (⟨#[]⟩:ByteArray))=some r:=by rw[if_neg (show ¬(false=true) by decide)]at H;exact H
  clear H;have H:=H1;clear H1;obtain rfl:=bL H;go_enter Tryz.func23,Tryz.ntmps23;go_wp2_with (first|((with_reducible refine ai (f:=13) rfl ?_);refine dm (some 6) Tryz.func13 #[.slice A0 l0.length c0] ?_;(with_reducible refine(a7.calls k _ _ l0 false _ ?side1 ?side2 A2.out).mono ?_);(case side1=>exact fA HR0.out);(case side2=>exact HC0.out);rintro e w10 ⟨rfl,hb⟩;refine⟨_,rfl,?_⟩;replace HB:=ch hb));go_ret;exact cu
def aJ.l0 (k:Nat):List ByteArray→List bY→Option (List bY×Bool)
 | [],l=>some (l,true)
 | x::r,l=>if x.size≤140737488351232 then(bX.f k l x).bind fun t=>if t.2=true then aJ.l0 k r t.1 else some (t.1,false)else none
def aJ.f (k:Nat) (a0:ByteArray):Option (List bY×Bool):=if (a0.size:Int)>4000 then some ([],false)else(bo.f k a0 10).bind fun ls=>if 0<ls.length∧ls.length≤1000000 then(aJ.l0 k (ls.take (ls.length-1)) []).bind fun t=>if t.2=true then(a7.f k t.1).bind fun b=>if b=true then(aW.f k t.1).bind fun o=>if o.toList=a0.toList then some (t.1,true)else some ([],false)else some ([],false)else some ([],false)else none
set_option maxHeartbeats 16000000 in
theorem aJ.at (k:Nat) (a0:ByteArray) (r:List bY) (b:Bool) (w:World) (h:aJ.f k a0=some (r,b)) :
  Calls Tryz.prog 5 #[.string a0] w fun e w'=>∃v,e=.returned (.tuple #[v,.bool b])∧Kd.S LO.kS 48 w' w.heap.size (fun _=>True) v r∧Below w.heap.size w w':=by
 have HB:=ae (Below.refl w.heap.size w);unfold aJ.f at h;by_cases c0:(a0.size:Int)>4000
 ·rw[if_pos c0]at h;obtain⟨rfl,rfl⟩:=Prod.mk.inj (bL h);have c0b:decide ((a0.size:Int)>4000)=true:=bW c0;have c0d:decide ((4000:Int)<(a0.size:Int))=true:=bW c0;clear c0 h;go_enter Tryz.func5,Tryz.ntmps5;go_wp2_with (first|((with_reducible refine al (N:=12) rfl ?_);refine Kd.dt (Kd.tag (fun _=>0) LO.kS) (w0:=w) w.heap.size 48 ?hg12 (N:=12) ?hd12 (xs:=[]) (inner:=[]) (ok:=fun _=>True) (okp:=fun _=>False) ?hr12 ?hp12 (fun _ hk=>hk.elim) trivial HB.out (aK HB.out) (by simp) ?_;(case hd12=>rfl);(case hg12=>rfl);(case hr12=>first|(go_simp;done)|(go_simp;rfl));(case hp12=>exact b3.none _ _);intro v12 we12 ho hb hg_ hnew_;have hS:Kd.S LO.kS 48 we12 w.heap.size (fun _=>True) v12 []:=⟨_,ho⟩;obtain⟨AE,cE,eE⟩:=Kd.cK hS;subst eE;have HE:=ae hS;clear hS ho hg_ hnew_;replace HB:=ae (hb);clear hb))
  go_ret2
  exact⟨_,rfl,HE.out,HB.out⟩
 ·rw[if_neg c0]at h;obtain⟨ls,A0,h⟩:=gq h;have ASP:=ae A0;clear A0;by_cases c:0<ls.length∧ls.length≤1000000
  ·rw[if_pos c]at h;obtain⟨⟨lf,okf⟩,A0,h⟩:=gq h;have AL:=ae A0;have LW:=ae c.1;have LM:=ae c.2;have c0b:decide ((a0.size:Int)>4000)=false:=b5 c0;have c0d:decide ((4000:Int)<(a0.size:Int))=false:=b5 c0;obtain⟨mI,hmI⟩:∃mI:Int,mI=(ls.length:Int)-1:=⟨_,rfl⟩;have hsub:=hmI.symm;have hm2:wrap64 ((ls.length:Int)-1)=mI:=by rw[hmI];unfold wrap64;omega
   have hm3:wrap64 mI=mI:=by rw[hmI];unfold wrap64;omega
   have HM:=ae hmI;dsimp only at h;have HH:=ae h;clear A0 c0 hmI h c;go_enter Tryz.func5,Tryz.ntmps5;go_wp2_with (first|(go_at_call 21;(with_reducible refine(bo.calls k a0 10 ls _ ASP.out).mono ?_);rintro e w1 ⟨v14,rfl,ho,hb⟩;obtain⟨gS,cS,eS,_,_,_⟩:=Kd.iy ho LW.out;subst eS;have HLS:=ae ho;have HW:=ae (aD HB.out hb);clear HB;have HB:=ae (Below.refl w1.heap.size w1);clear ho hb)|((with_reducible refine al (N:=15) rfl ?_);refine Kd.dt (Kd.tag (fun _=>0) LO.kS) (w0:=w1) w1.heap.size 48 ?hg15 (N:=15) ?hd15 (xs:=[]) (inner:=[]) (ok:=fun _=>True) (okp:=fun _=>False) ?hr15 ?hp15 (fun _ hk=>hk.elim) trivial HB.out (aK HB.out) (by simp) ?_;(case hd15=>rfl);(case hg15=>rfl);(case hr15=>first|(go_simp;done)|(go_simp;rfl));(case hp15=>exact b3.none _ _);intro v15 we15 ho hb hg_ hnew_;have hS:Kd.S LO.kS 48 we15 w1.heap.size (fun _=>True) v15 []:=⟨_,ho⟩;obtain⟨AE,cE,eE⟩:=Kd.cK hS;subst eE;have HE:=ae hS;clear hS ho hg_ hnew_;replace HB:=ae (hb);clear hb));have HS:=HE;clear HE
   go_loopg [5,6,7,8] (ls.length-1) (fun kq v5 v6 _ _ w'=>∃(i:Nat) (l:List bY) (v:Value),v5=v∧v6=.int .i64 (i:Int)∧Aside0 (i≤ls.length-1∧ls.length-1-i≤kq)∧Aside0 (aJ.l0 k ((ls.take (ls.length-1)).drop i) l=some (lf,okf))∧Aside0 (Kd.S LO.kS 48 w' w1.heap.size (fun _=>True) v l)∧Aside0 (Below w1.heap.size w1 w'))
   case atStart=>exact⟨0,[],_,rfl,rfl,⟨by omega,by omega⟩,⟨by rw[List.drop_zero];exact AL.out⟩,HS,HB⟩
   case round =>
    clear AL HS HB;obtain⟨i,l,v,rfl,rfl,HI,AL,HS,HB⟩:=hrel;obtain⟨A5,c5,e5⟩:=Kd.cK HS.out;subst e5;by_cases hi:i<ls.length-1
    ·obtain⟨x,hx⟩:∃x:Int,x=(i:Int):=⟨_,rfl⟩;have hmI:=HM.out;have x0:0≤x:=by omega
     have x1:x<(ls.length:Int):=by omega
     have xm:x<mI:=by omega
     obtain⟨ad,e0,hx0⟩:=Kd.dT (Kd.aZ HLS.out).2.2 x x0 x1;obtain⟨wd,hwd⟩:∃y,y=dp ByteArray.empty ls x:=⟨_,rfl⟩;have hlt:i<(ls.take (ls.length-1)).length:=by rw[List.length_take];omega
     have hxi:x.toNat=i:=by omega
     have hil:i<ls.length:=by omega
     have hwe:(ls.take (ls.length-1))[i]'hlt=wd:=by
      rw[hwd,List.getElem_take];unfold dp;rw[hxi,List.getD_eq_getElem?_getD,List.getElem?_eq_getElem hil];rfl
     rw[←hwd]at hx0;replace hx0:=(HB.out.cell (World.block_lt_of_cell? w1 _ hx0)).trans hx0;have H:=AL.out;rw[List.drop_eq_getElem_cons hlt,hwe]at H;simp only[aJ.l0]at H;by_cases cz:wd.size≤140737488351232
     ·rw[if_pos cz]at H;obtain⟨⟨l2,b2⟩,A0,H⟩:=gq H;have AA:=ae A0;have HSZ:=ae cz;have HX:=ae hx;have HIL:=ae hi;rw[←hx];have x0b:=eq_true x0;have x1b:=eq_true x1;have xmb:decide (x<mI)=true:=bW xm;dsimp only at H;clear A0 hx hi x0 x1 xm hwe hwd cz hmI AL hlt hxi hil;cases e0;rw[add_plain]at hx0
      cases b2
      ·rw[if_neg (by decide)]at H;obtain⟨rfl,rfl⟩:=Prod.mk.inj (bL H);have H:=HH.out;rw[if_neg (by decide)]at H;obtain⟨rfl,rfl⟩:=Prod.mk.inj (bL H);clear H HH;go_wp2_with (first|(go_at_call 22;refine(bX.calls k l wd l2 false _ w1 _ HB.out HS.out HSZ.out AA.out).mono ?_;rintro e w5 ⟨v2,rfl,ho,hb⟩;obtain⟨A2,c2_,e2⟩:=Kd.cK ho;subst e2;replace HS:=ae (ho);replace HB:=ae (hb);clear ho hb)|((with_reducible refine al (N:=34) rfl ?_);refine Kd.dt (Kd.tag (fun _=>0) LO.kS) (w0:=w1) w1.heap.size 48 ?hg34 (N:=34) ?hd34 (xs:=[]) (inner:=[]) (ok:=fun _=>True) (okp:=fun _=>False) ?hr34 ?hp34 (fun _ hk=>hk.elim) trivial HB.out (aK HB.out) (by simp) ?_;(case hd34=>rfl);(case hg34=>rfl);(case hr34=>first|(go_simp;done)|(go_simp;rfl));(case hp34=>exact b3.none _ _);intro v34 we34 ho hb hg_ hnew_;have hS:Kd.S LO.kS 48 we34 w1.heap.size (fun _=>True) v34 []:=⟨_,ho⟩;obtain⟨AE,cE,eE⟩:=Kd.cK hS;subst eE;have HE:=ae hS;clear hS ho hg_ hnew_;replace HB:=ae (hb);clear hb))
       go_ret2
       exact⟨_,rfl,Kd.iJ HE.out HW.out.size,HW.out.trans (Below.mono HB.out HW.out.size)⟩
      ·rw[if_pos rfl]at H;have AL:=ae H;clear H;go_wp2_with (first|(go_at_call 22;refine(bX.calls k l wd l2 true _ w1 _ HB.out HS.out HSZ.out AA.out).mono ?_;rintro e w5 ⟨v2,rfl,ho,hb⟩;obtain⟨A2,c2_,e2⟩:=Kd.cK ho;subst e2;replace HS:=ae (ho);replace HB:=ae (hb);clear ho hb));have ex:wrap64 (x+1)=((i+1:Nat):Int):=by have h1:=HX.out;have h2:=HIL.out;have h4:=LM.out;unfold wrap64;omega
       go_roundg (gk-1)
       case measure=>have h1:=HI.out;have h2:=HIL.out;omega
       case rel=>exact⟨i+1,l2,_,rfl,by rw[ex],⟨by have h1:=HI.out;have h2:=HIL.out;omega⟩,AL,HS,HB⟩
     ·rw[if_neg cz]at H;exact absurd H (by simp)
    ·have hie:i=ls.length-1:=by have:=HI.out.1;omega
     have H:=AL.out;rw[List.drop_of_length_le (by rw[List.length_take];omega)]at H;obtain⟨rfl,rfl⟩:=Prod.mk.inj (bL (show some (l,true)=some (lf,okf)from H));have H:=HH.out;rw[if_pos rfl]at H;obtain⟨bI,A0,H⟩:=gq H;have AI:=ae A0;have hmI:=HM.out;have hlw:=LW.out;have xmb:decide ((i:Int)<mI)=false:=b5 (by omega);clear A0 AL HH hmI hie hi hlw;have HR:=ae (LO.mV HS.out)
     cases bI
     ·rw[if_neg (by decide)]at H;obtain⟨rfl,rfl⟩:=Prod.mk.inj (bL H);clear H;go_wp2_with (first|(go_at_call 13;(with_reducible refine(a7.calls k _ _ l false _ ?cI ?lI AI.out).mono ?_);(case cI=>exact(Kd.aZ HR.out).2.2);(case lI=>exact(Kd.aZ HR.out).2.1);rintro e w6 ⟨rfl,hb⟩;replace HS:=ae (Kd.bG HS.out hb);replace HR:=ae (Kd.bu HR.out hb);replace HB:=ae (HB.out.trans (Below.mono hb HB.out.size));clear hb)|((with_reducible refine al (N:=45) rfl ?_);refine Kd.dt (Kd.tag (fun _=>0) LO.kS) (w0:=w1) w1.heap.size 48 ?hg45 (N:=45) ?hd45 (xs:=[]) (inner:=[]) (ok:=fun _=>True) (okp:=fun _=>False) ?hr45 ?hp45 (fun _ hk=>hk.elim) trivial HB.out (aK HB.out) (by simp) ?_;(case hd45=>rfl);(case hg45=>rfl);(case hr45=>first|(go_simp;done)|(go_simp;rfl));(case hp45=>exact b3.none _ _);intro v45 we45 ho hb hg_ hnew_;have hS:Kd.S LO.kS 48 we45 w1.heap.size (fun _=>True) v45 []:=⟨_,ho⟩;obtain⟨AE,cE,eE⟩:=Kd.cK hS;subst eE;have HE:=ae hS;clear hS ho hg_ hnew_;replace HB:=ae (hb);clear hb))
      go_ret2
      exact⟨_,rfl,Kd.iJ HE.out HW.out.size,HW.out.trans (Below.mono HB.out HW.out.size)⟩
     ·rw[if_pos rfl]at H;obtain⟨oF,A0,H⟩:=gq H;have AF:=ae A0;clear A0;by_cases co:oF.toList=a0.toList
      ·rw[if_pos co]at H;obtain⟨rfl,rfl⟩:=Prod.mk.inj (bL H);clear H;have cob:(oF.toList==a0.toList)=true:=dX co;have coc:(oF.toList !=a0.toList)=false:=ed co;clear co;go_wp2_with (first|(go_at_call 13;(with_reducible refine(a7.calls k _ _ l true _ ?cI ?lI AI.out).mono ?_);(case cI=>exact(Kd.aZ HR.out).2.2);(case lI=>exact(Kd.aZ HR.out).2.1);rintro e w6 ⟨rfl,hb⟩;replace HS:=ae (Kd.bG HS.out hb);replace HR:=ae (Kd.bu HR.out hb);replace HB:=ae (HB.out.trans (Below.mono hb HB.out.size));clear hb)|(go_at_call 23;(with_reducible refine(aW.calls k _ _ l oF _ ?cI ?lI AF.out).mono ?_);(case cI=>exact(Kd.aZ HR.out).2.2);(case lI=>exact(Kd.aZ HR.out).2.1);rintro e w7 ⟨rfl,hb⟩;replace HS:=ae (Kd.bG HS.out hb);replace HR:=ae (Kd.bu HR.out hb);replace HB:=ae (HB.out.trans (Below.mono hb HB.out.size));clear hb))
       go_ret2
       exact⟨_,rfl,Kd.iJ HS.out HW.out.size,HW.out.trans (Below.mono HB.out HW.out.size)⟩
      ·rw[if_neg co]at H;obtain⟨rfl,rfl⟩:=Prod.mk.inj (bL H);clear H;have cob:(oF.toList==a0.toList)=false:=di co;have coc:(oF.toList !=a0.toList)=true:=ee co;clear co;go_wp2_with (first|(go_at_call 13;(with_reducible refine(a7.calls k _ _ l true _ ?cI ?lI AI.out).mono ?_);(case cI=>exact(Kd.aZ HR.out).2.2);(case lI=>exact(Kd.aZ HR.out).2.1);rintro e w6 ⟨rfl,hb⟩;replace HS:=ae (Kd.bG HS.out hb);replace HR:=ae (Kd.bu HR.out hb);replace HB:=ae (HB.out.trans (Below.mono hb HB.out.size));clear hb)|(go_at_call 23;(with_reducible refine(aW.calls k _ _ l oF _ ?cI ?lI AF.out).mono ?_);(case cI=>exact(Kd.aZ HR.out).2.2);(case lI=>exact(Kd.aZ HR.out).2.1);rintro e w7 ⟨rfl,hb⟩;replace HS:=ae (Kd.bG HS.out hb);replace HR:=ae (Kd.bu HR.out hb);replace HB:=ae (HB.out.trans (Below.mono hb HB.out.size));clear hb)|((with_reducible refine al (N:=45) rfl ?_);refine Kd.dt (Kd.tag (fun _=>0) LO.kS) (w0:=w1) w1.heap.size 48 ?hg45 (N:=45) ?hd45 (xs:=[]) (inner:=[]) (ok:=fun _=>True) (okp:=fun _=>False) ?hr45 ?hp45 (fun _ hk=>hk.elim) trivial HB.out (aK HB.out) (by simp) ?_;(case hd45=>rfl);(case hg45=>rfl);(case hr45=>first|(go_simp;done)|(go_simp;rfl));(case hp45=>exact b3.none _ _);intro v45 we45 ho hb hg_ hnew_;have hS:Kd.S LO.kS 48 we45 w1.heap.size (fun _=>True) v45 []:=⟨_,ho⟩;obtain⟨AE,cE,eE⟩:=Kd.cK hS;subst eE;have HE:=ae hS;clear hS ho hg_ hnew_;replace HB:=ae (hb);clear hb))
       go_ret2
       exact⟨_,rfl,Kd.iJ HE.out HW.out.size,HW.out.trans (Below.mono HB.out HW.out.size)⟩
  ·rw[if_neg c]at h;exact absurd h (by simp)
theorem aJ.bs (k:Nat):∀ls l,bd (aJ.l0 k ls l) (aJ.l0 (k+1) ls l)
 | [],l=>bd.refl _
 | x::r,l=>by
  unfold aJ.l0;exact bd.ite (bd.bind (bX.mono _ _ _) fun t=>bd.ite (aJ.bs k r _) (bd.refl _)) (bd.refl _)
theorem aJ.mono:∀a0 k,bd (aJ.f k a0) (aJ.f (k+1) a0):=by
 intro a0 k;unfold aJ.f;exact bd.ite (bd.refl _) (bd.bind (by first|exact bd.refl _|exact bo.mono _ _ _) fun ls=>bd.ite (bd.bind (aJ.bs _ _ _) fun t=>bd.ite (bd.bind (a7.mono _ _) fun b=>bd.ite (bd.bind (by first|exact bd.refl _|exact aW.mono _ _) fun _=>bd.refl _) (bd.refl _)) (bd.refl _)) (bd.refl _))
theorem aJ.calls (k:Nat) (a0:ByteArray) (r1:List bY) (r2:Bool) (w:World) (h:aJ.f k a0=some (r1,r2)) :
  Calls Tryz.prog 5 #[.string a0] w fun e w'=>∃v0_:Value,e=.returned (.tuple #[v0_,.bool r2])∧Kd.R lQ 48 w' w.heap.size (fun _=>True) v0_ r1∧Below w.heap.size w w' :=
 (aJ.at k a0 r1 r2 w h).mono (by rintro e w' ⟨v,he,hS,hb⟩;exact⟨v,he,LO.mV hS,hb⟩)
def bO.f (a0:Int) (a1:Int) (a2:Int):Option (Bool):=if a1≤a0 then(some (decide (a0≤a2)))else(some false)
theorem bO.calls (a0:Int) (a1:Int) (a2:Int) (r:Bool) (w:World) (h:bO.f a0 a1 a2=some r) :
  Calls Tryz.prog 72 #[.int .i64 a0,.int .i64 a1,.int .i64 a2] w fun e w'=>e=.returned (.bool r)∧bf w w':=by
 have H:(if a1≤a0 then(some (decide (a0≤a2)))else(some false))=some r:=h;clear h;by_cases c4:a1≤a0
 ·rw[if_pos c4]at H;have c4b0:decide (a1≤a0)=true:=bW c4;clear c4;obtain rfl:=bL H;go_enter Tryz.func72,Tryz.ntmps72;go_wp2;go_ret;exact⟨by first|rfl|(simp;done)|(simp[*];done),by repeat(first|exact bf.refl _|apply bf.step)⟩
 ·rw[if_neg c4]at H;have c4b0:decide (a1≤a0)=false:=b5 c4;clear c4;obtain rfl:=bL H;go_enter Tryz.func72,Tryz.ntmps72;go_wp2;go_ret;exact⟨by first|rfl|(simp;done)|(simp[*];done),by repeat(first|exact bf.refl _|apply bf.step)⟩
def bc.l0:Nat→ByteArray→Int→Int→Option (Bool)
 | 0,_,_,_=>none
 | k+1,x0,x9,x10=>if x10<x9 then(if 0≤x10 then(if x10<(x0.size:Int)then(if (bt x0 x10)<97 then(some false)else(if (bt x0 x10)>122 then(some false)else(bc.l0 k x0 x9 (wrap64 (x10+1)))))else(none))else(none))else(some true)
def bc.f (k:Nat) (a0:ByteArray):Option (Bool):=(bO.f (a0.size:Int) 1 6).bind fun t211=>(if t211=true then(bc.l0 k a0 (a0.size:Int) 0)else(some false))
theorem bc.bs:∀k,(∀y0 y1 y2,bd (bc.l0 k y0 y1 y2) (bc.l0 (k+1) y0 y1 y2))
 | 0=>fun _ _ _ r h=>by simp[bc.l0]at h
 | k+1=>by
  have ih0:=bc.bs k
  ·intro y0 y1 y2;unfold bc.l0
   repeat' with_reducible first|exact ih0 _ _ _|exact bd.refl _|exact bd.none _|refine bd.ite ?_ ?_|refine bd.bind ?_ (fun _=>?_)
theorem bc.mono:∀a0 k,bd (bc.f k a0) (bc.f (k+1) a0):=by
 intro a0 k;have ih0:=bc.bs k;unfold bc.f
 repeat' with_reducible first|exact ih0 _ _ _|exact bd.refl _|exact bd.none _|refine bd.ite ?_ ?_|refine bd.bind ?_ (fun _=>?_)
theorem bc.calls (k:Nat) (a0:ByteArray) (r:Bool) (w:World) (h:bc.f k a0=some r) :
  Calls Tryz.prog 74 #[.string a0] w fun e w'=>e=.returned (.bool r)∧bf w w':=by
 have H:((bO.f (a0.size:Int) 1 6).bind fun t211=>(if t211=true then(bc.l0 k a0 (a0.size:Int) 0)else(some false)))=some r:=h;clear h;replace H:=df H;obtain⟨t211,A2,H⟩:=H;by_cases c3:t211=true
 ·subst c3;have H1:(bc.l0 k a0 (a0.size:Int) 0)=some r:=by rw[if_pos rfl]at H;exact H
  clear H;have H:=H1;clear H1;have H':=ae H;clear H;go_enter Tryz.func74,Tryz.ntmps74;go_wp2_with (first|((with_reducible refine ai (f:=72) rfl ?_);refine dm (some 6) Tryz.func72 #[.int .i64 (a0.size:Int),.int .i64 1,.int .i64 6] ?_;(with_reducible refine(bO.calls (a0.size:Int) 1 6 true _ A2.out).mono ?_);rintro e w' ⟨rfl,⟨nd,rfl⟩⟩;refine⟨_,rfl,?_⟩))
  go_loopg [10] k (fun kq v10 w'=>∃(x10_1:Int),v10=.int .i64 x10_1∧Aside0 (bc.l0 kq a0 (a0.size:Int) x10_1=some r)∧Aside0 (kq≤k)∧bf w w')
  case atStart=>exact⟨(0),(by first|rfl|(simp;done)|(simp[*];done)),H',⟨Nat.le_refl _⟩,by repeat(first|exact bf.refl _|apply bf.step)⟩
  case round =>
   clear H';obtain⟨x10_1,rfl,HA,HK1,⟨m1,rfl⟩⟩:=hrel
   cases gk with
   | zero=>exact absurd HA.out (by simp[bc.l0])
   | succ k1 =>
    have H:=HA.out;clear HA;simp only[bc.l0]at H;by_cases c4:x10_1<(a0.size:Int)
    ·rw[if_pos c4]at H;have c4b0:decide (x10_1<(a0.size:Int))=true:=bW c4;clear c4;by_cases c5:0≤x10_1
     ·rw[if_pos c5]at H;have c5b0:decide (0≤x10_1)=true:=bW c5;clear c5;by_cases c6:x10_1<(a0.size:Int)
      ·rw[if_pos c6]at H;have c6b0:decide (x10_1<(a0.size:Int))=true:=bW c6;clear c6;by_cases c8:(bt a0 x10_1)<97
       ·rw[if_pos c8]at H;have c8b0:decide ((bt a0 x10_1)<97)=true:=bW c8;clear c8;obtain rfl:=bL H;have p7:0≤(x10_1:Int):=bN;have q7:x10_1<(a0.size:Int):=bN;have hx7:=fC a0 x10_1;replace p7:=eq_true p7;replace q7:=eq_true q7;go_wp2;go_ret;exact⟨by first|rfl|(simp;done)|(simp[*];done),by repeat(first|exact bf.refl _|apply bf.step)⟩
       ·rw[if_neg c8]at H;have c8b0:decide ((bt a0 x10_1)<97)=false:=b5 c8;clear c8;by_cases eA:(bt a0 x10_1)>122
        ·rw[if_pos eA]at H;have c10b0:decide (122<(bt a0 x10_1))=true:=bW eA;clear eA;obtain rfl:=bL H;have p7:0≤(x10_1:Int):=bN;have q7:x10_1<(a0.size:Int):=bN;have hx7:=fC a0 x10_1;replace p7:=eq_true p7;replace q7:=eq_true q7;have p9:0≤(x10_1:Int):=bN;have q9:x10_1<(a0.size:Int):=bN;have hx9:=fC a0 x10_1;replace p9:=eq_true p9;replace q9:=eq_true q9;go_wp2;go_ret;exact⟨by first|rfl|(simp;done)|(simp[*];done),by repeat(first|exact bf.refl _|apply bf.step)⟩
        ·rw[if_neg eA]at H;have c10b0:decide (122<(bt a0 x10_1))=false:=b5 eA;clear eA;have H':=ae H;clear H;have p7:0≤(x10_1:Int):=bN;have q7:x10_1<(a0.size:Int):=bN;have hx7:=fC a0 x10_1;replace p7:=eq_true p7;replace q7:=eq_true q7;have p9:0≤(x10_1:Int):=bN;have q9:x10_1<(a0.size:Int):=bN;have hx9:=fC a0 x10_1;replace p9:=eq_true p9;replace q9:=eq_true q9;go_wp2
         go_roundg k1
         case measure=>have:=HK1.out;omega
         case rel=>exact⟨(wrap64 (x10_1+1)),(by first|rfl|(simp;done)|(simp[*];done)),H',⟨by have:=HK1.out;omega⟩,by repeat(first|exact bf.refl _|apply bf.step)⟩
      ·rw[if_neg c6]at H;exact absurd H (by simp)
     ·rw[if_neg c5]at H;exact absurd H (by simp)
    ·rw[if_neg c4]at H;have c4b0:decide (x10_1<(a0.size:Int))=false:=b5 c4;clear c4;obtain rfl:=bL H;go_wp2;go_ret;exact⟨by first|rfl|(simp;done)|(simp[*];done),by repeat(first|exact bf.refl _|apply bf.step)⟩
 ·replace c3:=eK c3;subst c3;have H1:(some false)=some r:=by rw[if_neg (show ¬(false=true) by decide)]at H;exact H
  clear H;have H:=H1;clear H1;obtain rfl:=bL H;go_enter Tryz.func74,Tryz.ntmps74;go_wp2_with (first|((with_reducible refine ai (f:=72) rfl ?_);refine dm (some 6) Tryz.func72 #[.int .i64 (a0.size:Int),.int .i64 1,.int .i64 6] ?_;(with_reducible refine(bO.calls (a0.size:Int) 1 6 false _ A2.out).mono ?_);rintro e w' ⟨rfl,⟨nd,rfl⟩⟩;refine⟨_,rfl,?_⟩));go_ret;exact⟨by first|rfl|(simp;done)|(simp[*];done),by repeat(first|exact bf.refl _|apply bf.step)⟩
end Go.Proofs.YtmipaoobkjppdaaGreatDoor.QFnExactParseLibrary
