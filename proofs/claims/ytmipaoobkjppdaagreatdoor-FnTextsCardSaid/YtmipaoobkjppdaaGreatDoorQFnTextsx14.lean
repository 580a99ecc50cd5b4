import Derived.Test.YtmipaoobkjppdaaGreatDoorQFnTextsx13
set_option maxHeartbeats 8000000
set_option maxRecDepth 100000
namespace Go.Proofs.YtmipaoobkjppdaaGreatDoor.QFnTexts
open Go.RowKit Go.Proofs.YtmipaoobkjppdaaGreatDoorW 
open PrintWords PrintLast PrintMore
attribute [local go_sem] dq dr dT dU cT cU dt du
set_option linter.unusedVariables false
set_option linter.unusedSimpArgs false
def aK.l0:Nat→List (b5)→List (b5)→Int→Int→Option (Bool)
 | 0,_,_,_,_=>none
 | k+1,x0,x8,x9,x10=>if x10<x9 then(if 0≤x10 then(if x10<(x8.length:Int)then((bY.f k ((bu x8 x10).f0) ((bu x8 x10).f1)).bind fun t242=>(if t242=true then(if x10≤(x0.length:Int)then((dB.f (x0.take (x10:Int).toNat) ((bu x8 x10).f0)).bind fun t247=>(if t247≥0 then(some false)else(aK.l0 k x0 x8 x9 (wrap64 (x10+1)))))else(none))else(some false)))else(none))else(none))else(some true)
def aK.f (k:Nat) (l0:List (b5)):Option (Bool):=if (l0.length:Int)>6 then(some false)else(aK.l0 k l0 l0 (l0.length:Int) 0)
theorem aK.bS:∀k,(∀y0 y1 y2 y3,bm (aK.l0 k y0 y1 y2 y3) (aK.l0 (k+1) y0 y1 y2 y3))
 | 0=>fun _ _ _ _ r h=>by simp[aK.l0]at h
 | k+1=>by
  have ih0:=aK.bS k
  ·intro y0 y1 y2 y3;unfold aK.l0
   repeat' with_reducible first|exact ih0 _ _ _ _|exact bY.mono _ _ _|exact bm.refl _|exact bm.none _|refine bm.ite ?_ ?_|refine bm.bind ?_ (fun _=>?_)
theorem aK.mono:∀a0 k,bm (aK.f k a0) (aK.f (k+1) a0):=by
 intro a0 k;have ih0:=aK.bS k;unfold aK.f
 repeat' with_reducible first|exact ih0 _ _ _ _|exact bY.mono _ _ _|exact bm.refl _|exact bm.none _|refine bm.ite ?_ ?_|refine bm.bind ?_ (fun _=>?_)
def aK.T6:Bool×List (List Nat×List Nat):=(true,[([],[]),([0],[0]),([1],[1]),([2,1],[2]),([3],[3]),([3],[3]),([4,5,3],[3,4,5]),([3],[3]),([7,3],[3,7]),([6,8,3,3],[3,6,8]),([9,3],[3,9]),([3,10],[3,10])])
def aK.B6:List Nat:=[0,1,3,7,15,15,63,15,143,511,1023,2047]
theorem aK.tab6:gw .any (opsOf Tryz.f26 6)=aK.T6:=by kernel_rfl
theorem aK.ml:gj aK.T6.2 aK.B6=true:=by kernel_rfl
theorem aK.calls (k:Nat) (A0:Option Addr) (c0:Nat) (l0:List (b5)) (r:Bool) (w:World) (hr0:Kd.C jZ w A0 l0.length l0) (hc0:l0.length≤c0) (h:aK.f k l0=some r) :
  Calls Tryz.prog 26 #[.slice A0 l0.length c0] w fun e w'=>e=.returned (.bool r)∧Below w.heap.size w w':=by
 have hu48:=Tryz.underlying48;have HR0:=aa hr0;have HC0:=aa hc0;clear hr0 hc0;have HB:=aa (Below.refl w.heap.size w);have H:(if (l0.length:Int)>6 then(some false)else(aK.l0 k l0 l0 (l0.length:Int) 0))=some r:=h;clear h;by_cases c2:(l0.length:Int)>6
 ·rw[if_pos c2]at H;have c2b0:decide (6<(l0.length:Int))=true:=cH c2;have c2b1:decide (6<l0.length)=true:=cH (by omega);clear c2;obtain rfl:=cq H;go_enter Tryz.func26,Tryz.ntmps26;go_wp2;go_ret;exact dL
 ·rw[if_neg c2]at H;have c2b0:decide (6<(l0.length:Int))=false:=cW c2;have c2b1:decide (6<l0.length)=false:=cW (by omega);clear c2;have H':=aa H;clear H;go_enter Tryz.func26,Tryz.ntmps26;go_wp2
  go_loopg [10] k (fun kq v10 w'=>∃(x10_1:Int),v10=.int .i64 x10_1∧Aside0 (aK.l0 kq l0 l0 (l0.length:Int) x10_1=some r)∧Aside0 (kq≤k)∧Aside0 (Below w.heap.size w w'))
  case atStart=>exact⟨(0),(by first|rfl|(simp;done)|(simp[*];done)),H',⟨Nat.le_refl _⟩,⟨(bl HB)⟩⟩
  case round =>
   clear H';obtain⟨x10_1,rfl,HA,HK1,HB⟩:=hrel
   cases gk with
   | zero=>exact absurd HA.out (by simp[aK.l0])
   | succ k1 =>
    have H:=HA.out;clear HA;simp only[aK.l0]at H;by_cases c3:x10_1<(l0.length:Int)
    ·rw[if_pos c3]at H;have c3b0:decide (x10_1<(l0.length:Int))=true:=cH c3;clear c3;by_cases c4:0≤x10_1
     ·rw[if_pos c4]at H;have c4b0:decide (0≤x10_1)=true:=cH c4;clear c4;by_cases c5:x10_1<(l0.length:Int)
      ·rw[if_pos c5]at H;have c5b0:decide (x10_1<(l0.length:Int))=true:=cH c5;clear c5;replace H:=dW H;obtain⟨t242,A6,H⟩:=H;by_cases c7:t242=true
       ·subst c7;have H1:(if x10_1≤(l0.length:Int)then((dB.f (l0.take (x10_1:Int).toNat) ((bu l0 x10_1).f0)).bind fun t247=>(if t247≥0 then(some false)else(aK.l0 k1 l0 l0 (l0.length:Int) (wrap64 (x10_1+1)))))else(none))=some r:=by rw[if_pos rfl]at H;exact H
        clear H;have H:=H1;clear H1;have c8b0:=eq_true (eb:0≤x10_1);by_cases c9:x10_1≤(l0.length:Int)
        ·rw[if_pos c9]at H;have c9b0:=eq_true c9;have c9b1:decide (x10_1≤(l0.length:Int))=true:=cH c9;clear c9;obtain⟨y243,hy243⟩:∃y_:List (b5),y_=(l0.take (x10_1:Int).toNat):=⟨_,rfl⟩;replace H:((dB.f y243 ((bu l0 x10_1).f0)).bind fun t247=>(if t247≥0 then(some false)else(aK.l0 k1 l0 l0 (l0.length:Int) (wrap64 (x10_1+1)))))=some r:=by first|(rw[hy243];with_reducible exact H)|(have H2_:=(Option.bind_some _ _).symm.trans H;rw[hy243];with_reducible exact H2_)|(have H2_:=(Option.bind_some _ _).symm.trans H;with_reducible exact H2_)|with_reducible exact H|(rw[hy243];exact H)|exact H
         have Ny243:=aa hy243;clear hy243;replace H:=dW H;obtain⟨t247,A10,H⟩:=H;by_cases c11:t247≥0
         ·rw[if_pos c11]at H;have c11b0:decide (0≤t247)=true:=cH c11;clear c11;obtain rfl:=cq H;have p240:0≤(x10_1:Int):=eb;have q240:x10_1<(l0.length:Int):=eb;obtain⟨ad240,A240_1,c240_1,e240,hx240_0,hx240_1,hl240_1,hi240_1⟩:=gC HR0.out x10_1 p240 q240;cases e240;replace hx240_0:=fo HB hx240_0;replace hx240_1:=fo HB hx240_1;have HR240_1:=aa hi240_1;have HC240_1:=aa hl240_1;clear hi240_1 hl240_1;replace p240:=eq_true p240;replace q240:=eq_true q240
          try go_wp2_with (first|((with_reducible refine aq (N:=4) rfl ?_);refine eN 4 #[.string (⟨#[]⟩:ByteArray),.slice none 0 0] 48 ?_;intro gb241 hg w12 hbox hb;have BK241:=aa (hbox);have GW241:=fx HB hg;have GE241:=fx HB hg;replace HB:=cw HB hb;clear hb hbox hg;obtain⟨z13_0,z13_1,y13_0,y13_1⟩:=fR BK241.out))
          have n0_:Aside0 (((w12.setCell ⟨gb241,0,none⟩ (.string ((bu l0 x10_1).f0))).setCell ⟨gb241,1,none⟩ (.slice A240_1 ((bu l0 x10_1).f1).length c240_1)).heap[gb241]? =some (.cells #[.string ((bu l0 x10_1).f0),.slice A240_1 ((bu l0 x10_1).f1).length c240_1] 48 (0,0))):=⟨eH BK241⟩;have n1_:Aside0 (Below w.heap.size w ((w12.setCell ⟨gb241,0,none⟩ (.string ((bu l0 x10_1).f0))).setCell ⟨gb241,1,none⟩ (.slice A240_1 ((bu l0 x10_1).f1).length c240_1))):=⟨(bl HB)⟩
          (try clear BK241)
          (try clear HB)
          generalize ((w12.setCell ⟨gb241,0,none⟩ (.string ((bu l0 x10_1).f0))).setCell ⟨gb241,1,none⟩ (.slice A240_1 ((bu l0 x10_1).f1).length c240_1))=w14 at n0_ n1_ ⊢;have BK241:=n0_;have HB:=n1_;clear n0_ n1_;replace BK241:=aa (dR BK241.out);replace HB:=aa (cG HB.out);refine fP (n:=12) (S:=fun w'=>w'.cell? ⟨gb241,0,none⟩=some (.string ((bu l0 x10_1).f0))∧w'.cell? ⟨gb241,1,none⟩=some (.slice A240_1 ((bu l0 x10_1).f1).length c240_1)) (ds:=[]) #[false,false,false,false,false,false,false,false,false,false,false,false] (by kernel_rfl) rfl rfl ⟨(aj BK241.out 0).trans rfl,(aj BK241.out 1).trans rfl⟩ (fun hHeld=>?_);refine fI aK.tab6 aK.ml (fun HT_ HW_=>?_);generalize w14.drew=w15 at BK241 HB hHeld ⊢;refine e9 (i:=0) (N:=some 15) (v:=?_) (a':=?_) #[true,false,false,false,false,false,false,false,false,false,false,false] rfl rfl (fC HT_.out HW_.out (by kernel_rfl)) (fun _ _ _ h=>h) (Or.inl ⟨by rfl,?_⟩) hHeld ?_ ?_;rotate_left
          ·rintro w' ⟨s0,s1⟩
           go_simp
           with_reducible rfl
          rotate_left
          ·simp only[Act.put,jH,jF,jG,df,dh];rfl
          refine iT (i:=1) (N:=some 16) (l':=#[true,true,false,false,false,false,false,false,false,false,false,false]) (dK HT_.out (by kernel_rfl)) (fun K hK=>?_);refine po Tryz.func54 #[.agg #[.string ((bu l0 x10_1).f0),.slice A240_1 ((bu l0 x10_1).f1).length c240_1]] ?_
          with_reducible refine(bY.calls k1 ((bu l0 x10_1).f0) _ _ ((bu l0 x10_1).f1) true _ ?side1 ?side2 A6.out).mono ?_
          (case side1=>exact fw (Kd.cA HR240_1.out HB.out))
          (case side2=>exact HC240_1.out)
          rintro e w16 ⟨rfl,hb⟩;refine⟨_,rfl,?_⟩;replace BK241:=er BK241 hb;replace HB:=cw HB hb
          (try clear hb)
          (try clear hb2)
          (try clear hk)
          (try clear hi)
          have q17:(x10_1:Int)≤((l0.length:Int):Int):=eb;obtain⟨i017,hi017,_,hsz17,_⟩:=info_parts kI;have hroom17:l0.length≤c0:=HC0.out;have hC17:Kd.C jZ _ (some ad240) l0.length l0:=HR0.out;have hcut17:=pb (P:=Tryz.prog) 22 48 .i64 Tryz.underlying22 hi017 (some ad240) l0.length c0 x10_1 (eb) q17 hroom17;have hr17:=Kd.pc (m:=(x10_1:Int).toNat) hC17 (by omega);have hy17:y243.length=(x10_1:Int).toNat:=(by rw[Ny243.out,List.length_take];omega);rw[←Ny243.out]at hr17;rw[←hy17]at hcut17;have HR246:=aa hr17;have HC246:=aa (show y243.length≤c0 from by omega);clear hr17 hC17 hroom17 hi017 hsz17;have KY17:=aa hy17;clear hy17;replace q17:=eq_true q17;refine hK.out _ _ ⟨(aj BK241.out 0).trans rfl,(aj BK241.out 1).trans rfl⟩ (fun hHeld=>?_);clear hK K;refine nm (some 16) ?_;refine pu (i:=2) (N:=some 17) (l':=#[true,true,true,false,false,false,false,false,false,false,false,false]) (cB HT_.out (by kernel_rfl)) ?_;refine pu (i:=3) (N:=some 18) (l':=#[true,true,true,true,false,false,false,false,false,false,false,false]) (cB HT_.out (by kernel_rfl)) ?_;refine pu (i:=4) (N:=some 19) (l':=#[true,true,true,true,true,false,false,false,false,false,false,false]) (cB HT_.out (by kernel_rfl)) ?_;refine pu (i:=5) (N:=some 20) (l':=#[true,true,true,true,true,true,false,false,false,false,false,false]) (cB HT_.out (by kernel_rfl)) ?_;refine pu (i:=6) (N:=some 21) (l':=#[true,true,true,true,true,true,true,false,false,false,false,false]) (cB HT_.out (by kernel_rfl)) ?_;refine pu (i:=7) (N:=some 22) (l':=#[true,true,true,true,true,true,true,true,false,false,false,false]) (cB HT_.out (by kernel_rfl)) ?_;refine e9 (i:=8) (N:=some 23) (v:=?_) (a':=?_) #[true,true,true,true,true,true,true,true,true,false,false,false] rfl rfl (fC HT_.out HW_.out (by kernel_rfl)) (fun _ _ _ h=>h) (Or.inl ⟨by rfl,?_⟩) hHeld ?_ ?_;rotate_left
          ·rintro w' ⟨s0,s1⟩
           go_simp
           with_reducible rfl
          rotate_left
          ·simp only[Act.put,jH,jF,jG,df,dh];rfl
          refine iT (i:=9) (N:=some 24) (l':=#[true,true,true,true,true,true,true,true,true,true,false,false]) (dK HT_.out (by kernel_rfl)) (fun K hK=>?_);refine po Tryz.func55 #[.slice (some ad240) y243.length c0,.string ((bu l0 x10_1).f0)] ?_
          with_reducible refine(dB.calls _ _ y243 ((bu l0 x10_1).f0) t247 _ ?side1 ?side2 A10.out).mono ?_
          (case side1=>exact fw (Kd.cA HR246.out HB.out))
          (case side2=>exact HC246.out)
          rintro e w18 ⟨rfl,hb⟩;refine⟨_,rfl,?_⟩;replace BK241:=er BK241 hb;replace HB:=cw HB hb
          (try clear hb)
          (try clear hb2)
          (try clear hk)
          (try clear hi)
          refine hK.out _ _ ⟨(aj BK241.out 0).trans rfl,(aj BK241.out 1).trans rfl⟩ (fun hHeld=>?_);clear hK K;refine nm (some 24) ?_;refine pu (i:=10) (N:=some 25) (l':=#[true,true,true,true,true,true,true,true,true,true,true,false]) (cB HT_.out (by kernel_rfl)) ?_;refine pu (i:=11) (N:=some 26) (l':=#[true,true,true,true,true,true,true,true,true,true,true,true]) (cB HT_.out (by kernel_rfl)) ?_;refine hD (hG HT_.out (by kernel_rfl)) ?_
          try go_wp2
          go_ret;exact dL
         ·rw[if_neg c11]at H;have c11b0:decide (0≤t247)=false:=cW c11;clear c11;have H':=aa H;clear H;have p240:0≤(x10_1:Int):=eb;have q240:x10_1<(l0.length:Int):=eb;obtain⟨ad240,A240_1,c240_1,e240,hx240_0,hx240_1,hl240_1,hi240_1⟩:=gC HR0.out x10_1 p240 q240;cases e240;replace hx240_0:=fo HB hx240_0;replace hx240_1:=fo HB hx240_1;have HR240_1:=aa hi240_1;have HC240_1:=aa hl240_1;clear hi240_1 hl240_1;replace p240:=eq_true p240;replace q240:=eq_true q240
          try go_wp2_with (first|((with_reducible refine aq (N:=4) rfl ?_);refine eN 4 #[.string (⟨#[]⟩:ByteArray),.slice none 0 0] 48 ?_;intro gb241 hg w19 hbox hb;have BK241:=aa (hbox);have GW241:=fx HB hg;have GE241:=fx HB hg;replace HB:=cw HB hb;clear hb hbox hg;obtain⟨z20_0,z20_1,y20_0,y20_1⟩:=fR BK241.out))
          have n0_:Aside0 (((w19.setCell ⟨gb241,0,none⟩ (.string ((bu l0 x10_1).f0))).setCell ⟨gb241,1,none⟩ (.slice A240_1 ((bu l0 x10_1).f1).length c240_1)).heap[gb241]? =some (.cells #[.string ((bu l0 x10_1).f0),.slice A240_1 ((bu l0 x10_1).f1).length c240_1] 48 (0,0))):=⟨eH BK241⟩;have n1_:Aside0 (Below w.heap.size w ((w19.setCell ⟨gb241,0,none⟩ (.string ((bu l0 x10_1).f0))).setCell ⟨gb241,1,none⟩ (.slice A240_1 ((bu l0 x10_1).f1).length c240_1))):=⟨(bl HB)⟩
          (try clear BK241)
          (try clear HB)
          generalize ((w19.setCell ⟨gb241,0,none⟩ (.string ((bu l0 x10_1).f0))).setCell ⟨gb241,1,none⟩ (.slice A240_1 ((bu l0 x10_1).f1).length c240_1))=w21 at n0_ n1_ ⊢;have BK241:=n0_;have HB:=n1_;clear n0_ n1_;replace BK241:=aa (dR BK241.out);replace HB:=aa (cG HB.out);refine fP (n:=12) (S:=fun w'=>w'.cell? ⟨gb241,0,none⟩=some (.string ((bu l0 x10_1).f0))∧w'.cell? ⟨gb241,1,none⟩=some (.slice A240_1 ((bu l0 x10_1).f1).length c240_1)) (ds:=[]) #[false,false,false,false,false,false,false,false,false,false,false,false] (by kernel_rfl) rfl rfl ⟨(aj BK241.out 0).trans rfl,(aj BK241.out 1).trans rfl⟩ (fun hHeld=>?_);refine fI aK.tab6 aK.ml (fun HT_ HW_=>?_);generalize w21.drew=w22 at BK241 HB hHeld ⊢;refine e9 (i:=0) (N:=some 15) (v:=?_) (a':=?_) #[true,false,false,false,false,false,false,false,false,false,false,false] rfl rfl (fC HT_.out HW_.out (by kernel_rfl)) (fun _ _ _ h=>h) (Or.inl ⟨by rfl,?_⟩) hHeld ?_ ?_;rotate_left
          ·rintro w' ⟨s0,s1⟩
           go_simp
           with_reducible rfl
          rotate_left
          ·simp only[Act.put,jH,jF,jG,df,dh];rfl
          refine iT (i:=1) (N:=some 16) (l':=#[true,true,false,false,false,false,false,false,false,false,false,false]) (dK HT_.out (by kernel_rfl)) (fun K hK=>?_);refine po Tryz.func54 #[.agg #[.string ((bu l0 x10_1).f0),.slice A240_1 ((bu l0 x10_1).f1).length c240_1]] ?_
          with_reducible refine(bY.calls k1 ((bu l0 x10_1).f0) _ _ ((bu l0 x10_1).f1) true _ ?side1 ?side2 A6.out).mono ?_
          (case side1=>exact fw (Kd.cA HR240_1.out HB.out))
          (case side2=>exact HC240_1.out)
          rintro e w23 ⟨rfl,hb⟩;refine⟨_,rfl,?_⟩;replace BK241:=er BK241 hb;replace HB:=cw HB hb
          (try clear hb)
          (try clear hb2)
          (try clear hk)
          (try clear hi)
          have q24:(x10_1:Int)≤((l0.length:Int):Int):=eb;obtain⟨i024,hi024,_,hsz24,_⟩:=info_parts kI;have hroom24:l0.length≤c0:=HC0.out;have hC24:Kd.C jZ _ (some ad240) l0.length l0:=HR0.out;have hcut24:=pb (P:=Tryz.prog) 22 48 .i64 Tryz.underlying22 hi024 (some ad240) l0.length c0 x10_1 (eb) q24 hroom24;have hr24:=Kd.pc (m:=(x10_1:Int).toNat) hC24 (by omega);have hy24:y243.length=(x10_1:Int).toNat:=(by rw[Ny243.out,List.length_take];omega);rw[←Ny243.out]at hr24;rw[←hy24]at hcut24;have HR246:=aa hr24;have HC246:=aa (show y243.length≤c0 from by omega);clear hr24 hC24 hroom24 hi024 hsz24;have KY24:=aa hy24;clear hy24;replace q24:=eq_true q24;refine hK.out _ _ ⟨(aj BK241.out 0).trans rfl,(aj BK241.out 1).trans rfl⟩ (fun hHeld=>?_);clear hK K;refine nm (some 16) ?_;refine pu (i:=2) (N:=some 17) (l':=#[true,true,true,false,false,false,false,false,false,false,false,false]) (cB HT_.out (by kernel_rfl)) ?_;refine pu (i:=3) (N:=some 18) (l':=#[true,true,true,true,false,false,false,false,false,false,false,false]) (cB HT_.out (by kernel_rfl)) ?_;refine pu (i:=4) (N:=some 19) (l':=#[true,true,true,true,true,false,false,false,false,false,false,false]) (cB HT_.out (by kernel_rfl)) ?_;refine pu (i:=5) (N:=some 20) (l':=#[true,true,true,true,true,true,false,false,false,false,false,false]) (cB HT_.out (by kernel_rfl)) ?_;refine pu (i:=6) (N:=some 21) (l':=#[true,true,true,true,true,true,true,false,false,false,false,false]) (cB HT_.out (by kernel_rfl)) ?_;refine pu (i:=7) (N:=some 22) (l':=#[true,true,true,true,true,true,true,true,false,false,false,false]) (cB HT_.out (by kernel_rfl)) ?_;refine e9 (i:=8) (N:=some 23) (v:=?_) (a':=?_) #[true,true,true,true,true,true,true,true,true,false,false,false] rfl rfl (fC HT_.out HW_.out (by kernel_rfl)) (fun _ _ _ h=>h) (Or.inl ⟨by rfl,?_⟩) hHeld ?_ ?_;rotate_left
          ·rintro w' ⟨s0,s1⟩
           go_simp
           with_reducible rfl
          rotate_left
          ·simp only[Act.put,jH,jF,jG,df,dh];rfl
          refine iT (i:=9) (N:=some 24) (l':=#[true,true,true,true,true,true,true,true,true,true,false,false]) (dK HT_.out (by kernel_rfl)) (fun K hK=>?_);refine po Tryz.func55 #[.slice (some ad240) y243.length c0,.string ((bu l0 x10_1).f0)] ?_
          with_reducible refine(dB.calls _ _ y243 ((bu l0 x10_1).f0) t247 _ ?side1 ?side2 A10.out).mono ?_
          (case side1=>exact fw (Kd.cA HR246.out HB.out))
          (case side2=>exact HC246.out)
          rintro e w25 ⟨rfl,hb⟩;refine⟨_,rfl,?_⟩;replace BK241:=er BK241 hb;replace HB:=cw HB hb
          (try clear hb)
          (try clear hb2)
          (try clear hk)
          (try clear hi)
          refine hK.out _ _ ⟨(aj BK241.out 0).trans rfl,(aj BK241.out 1).trans rfl⟩ (fun hHeld=>?_);clear hK K;refine nm (some 24) ?_;refine pu (i:=10) (N:=some 25) (l':=#[true,true,true,true,true,true,true,true,true,true,true,false]) (cB HT_.out (by kernel_rfl)) ?_;refine pu (i:=11) (N:=some 26) (l':=#[true,true,true,true,true,true,true,true,true,true,true,true]) (cB HT_.out (by kernel_rfl)) ?_;refine hD (hG HT_.out (by kernel_rfl)) ?_
          try go_wp2
          go_roundg k1
          case measure=>have:=HK1.out;omega
          case rel=>exact⟨(wrap64 (x10_1+1)),(by first|rfl|(simp;done)|(simp[*];done)),H',⟨by have:=HK1.out;omega⟩,⟨(bl HB)⟩⟩
        ·rw[if_neg c9]at H;exact absurd H (by simp)
       ·replace c7:=fy c7;subst c7;have H1:(some false)=some r:=by rw[if_neg (show ¬(false=true) by decide)]at H;exact H
        clear H;have H:=H1;clear H1;obtain rfl:=cq H;have p240:0≤(x10_1:Int):=eb;have q240:x10_1<(l0.length:Int):=eb;obtain⟨ad240,A240_1,c240_1,e240,hx240_0,hx240_1,hl240_1,hi240_1⟩:=gC HR0.out x10_1 p240 q240;cases e240;replace hx240_0:=fo HB hx240_0;replace hx240_1:=fo HB hx240_1;have HR240_1:=aa hi240_1;have HC240_1:=aa hl240_1;clear hi240_1 hl240_1;replace p240:=eq_true p240;replace q240:=eq_true q240
        try go_wp2_with (first|((with_reducible refine aq (N:=4) rfl ?_);refine eN 4 #[.string (⟨#[]⟩:ByteArray),.slice none 0 0] 48 ?_;intro gb241 hg w26 hbox hb;have BK241:=aa (hbox);have GW241:=fx HB hg;have GE241:=fx HB hg;replace HB:=cw HB hb;clear hb hbox hg;obtain⟨z27_0,z27_1,y27_0,y27_1⟩:=fR BK241.out))
        have n0_:Aside0 (((w26.setCell ⟨gb241,0,none⟩ (.string ((bu l0 x10_1).f0))).setCell ⟨gb241,1,none⟩ (.slice A240_1 ((bu l0 x10_1).f1).length c240_1)).heap[gb241]? =some (.cells #[.string ((bu l0 x10_1).f0),.slice A240_1 ((bu l0 x10_1).f1).length c240_1] 48 (0,0))):=⟨eH BK241⟩;have n1_:Aside0 (Below w.heap.size w ((w26.setCell ⟨gb241,0,none⟩ (.string ((bu l0 x10_1).f0))).setCell ⟨gb241,1,none⟩ (.slice A240_1 ((bu l0 x10_1).f1).length c240_1))):=⟨(bl HB)⟩
        (try clear BK241)
        (try clear HB)
        generalize ((w26.setCell ⟨gb241,0,none⟩ (.string ((bu l0 x10_1).f0))).setCell ⟨gb241,1,none⟩ (.slice A240_1 ((bu l0 x10_1).f1).length c240_1))=w28 at n0_ n1_ ⊢;have BK241:=n0_;have HB:=n1_;clear n0_ n1_;replace BK241:=aa (dR BK241.out);replace HB:=aa (cG HB.out);refine fP (n:=12) (S:=fun w'=>w'.cell? ⟨gb241,0,none⟩=some (.string ((bu l0 x10_1).f0))∧w'.cell? ⟨gb241,1,none⟩=some (.slice A240_1 ((bu l0 x10_1).f1).length c240_1)) (ds:=[]) #[false,false,false,false,false,false,false,false,false,false,false,false] (by kernel_rfl) rfl rfl ⟨(aj BK241.out 0).trans rfl,(aj BK241.out 1).trans rfl⟩ (fun hHeld=>?_);refine fI aK.tab6 aK.ml (fun HT_ HW_=>?_);generalize w28.drew=w29 at BK241 HB hHeld ⊢;refine e9 (i:=0) (N:=some 15) (v:=?_) (a':=?_) #[true,false,false,false,false,false,false,false,false,false,false,false] rfl rfl (fC HT_.out HW_.out (by kernel_rfl)) (fun _ _ _ h=>h) (Or.inl ⟨by rfl,?_⟩) hHeld ?_ ?_;rotate_left
        ·rintro w' ⟨s0,s1⟩
         go_simp
         with_reducible rfl
        rotate_left
        ·simp only[Act.put,jH,jF,jG,df,dh];rfl
        refine iT (i:=1) (N:=some 16) (l':=#[true,true,false,false,false,false,false,false,false,false,false,false]) (dK HT_.out (by kernel_rfl)) (fun K hK=>?_);refine po Tryz.func54 #[.agg #[.string ((bu l0 x10_1).f0),.slice A240_1 ((bu l0 x10_1).f1).length c240_1]] ?_
        with_reducible refine(bY.calls k1 ((bu l0 x10_1).f0) _ _ ((bu l0 x10_1).f1) false _ ?side1 ?side2 A6.out).mono ?_
        (case side1=>exact fw (Kd.cA HR240_1.out HB.out))
        (case side2=>exact HC240_1.out)
        rintro e w30 ⟨rfl,hb⟩;refine⟨_,rfl,?_⟩;replace BK241:=er BK241 hb;replace HB:=cw HB hb
        (try clear hb)
        (try clear hb2)
        (try clear hk)
        (try clear hi)
        refine hK.out _ _ ⟨(aj BK241.out 0).trans rfl,(aj BK241.out 1).trans rfl⟩ (fun hHeld=>?_);clear hK K;refine nm (some 16) ?_;refine pu (i:=2) (N:=some 17) (l':=#[true,true,true,false,false,false,false,false,false,false,false,false]) (cB HT_.out (by kernel_rfl)) ?_;refine pu (i:=3) (N:=some 18) (l':=#[true,true,true,true,false,false,false,false,false,false,false,false]) (cB HT_.out (by kernel_rfl)) ?_;refine kY (i:=4) (N:=some 19) (v:=undef) (a':=?_) #[true,true,true,true,true,false,false,false,false,false,false,false] rfl rfl (cB HT_.out (by kernel_rfl)) (fun _ _ _ h=>h) (Or.inr ⟨by rfl,rfl⟩) ?_ ?_;rotate_left
        ·simp only[Act.put,jH,jF,jG,df,dh];rfl
        refine kY (i:=5) (N:=some 20) (v:=undef) (a':=?_) #[true,true,true,true,true,true,false,false,false,false,false,false] rfl rfl (cB HT_.out (by kernel_rfl)) (fun _ _ _ h=>h) (Or.inr ⟨by rfl,rfl⟩) ?_ ?_;rotate_left
        ·simp only[Act.put,jH,jF,jG,df,dh];rfl
        refine kY (i:=6) (N:=some 21) (v:=undef) (a':=?_) #[true,true,true,true,true,true,true,false,false,false,false,false] rfl rfl (cB HT_.out (by kernel_rfl)) (fun _ _ _ h=>h) (Or.inr ⟨by rfl,rfl⟩) ?_ ?_;rotate_left
        ·simp only[Act.put,jH,jF,jG,df,dh];rfl
        refine kY (i:=7) (N:=some 22) (v:=undef) (a':=?_) #[true,true,true,true,true,true,true,true,false,false,false,false] rfl rfl (cB HT_.out (by kernel_rfl)) (fun _ _ _ h=>h) (Or.inr ⟨by rfl,rfl⟩) ?_ ?_;rotate_left
        ·simp only[Act.put,jH,jF,jG,df,dh];rfl
        refine kY (i:=8) (N:=some 23) (v:=undef) (a':=?_) #[true,true,true,true,true,true,true,true,true,false,false,false] rfl rfl (cB HT_.out (by kernel_rfl)) (fun _ _ _ h=>h) (Or.inr ⟨by rfl,rfl⟩) ?_ ?_;rotate_left
        ·simp only[Act.put,jH,jF,jG,df,dh];rfl
        refine kY (i:=9) (N:=some 24) (v:=undef) (a':=?_) #[true,true,true,true,true,true,true,true,true,true,false,false] rfl rfl (cB HT_.out (by kernel_rfl)) (fun _ _ _ h=>h) (Or.inr ⟨by rfl,rfl⟩) ?_ ?_;rotate_left
        ·simp only[Act.put,jH,jF,jG,df,dh];rfl
        refine kY (i:=10) (N:=some 25) (v:=undef) (a':=?_) #[true,true,true,true,true,true,true,true,true,true,true,false] rfl rfl (cB HT_.out (by kernel_rfl)) (fun _ _ _ h=>h) (Or.inr ⟨by rfl,rfl⟩) ?_ ?_;rotate_left
        ·simp only[Act.put,jH,jF,jG,df,dh];rfl
        refine pu (i:=11) (N:=some 26) (l':=#[true,true,true,true,true,true,true,true,true,true,true,true]) (cB HT_.out (by kernel_rfl)) ?_;refine hD (hG HT_.out (by kernel_rfl)) ?_
        try go_wp2
        go_ret;exact dL
      ·rw[if_neg c5]at H;exact absurd H (by simp)
     ·rw[if_neg c4]at H;exact absurd H (by simp)
    ·rw[if_neg c3]at H;have c3b0:decide (x10_1<(l0.length:Int))=false:=cW c3;clear c3;obtain rfl:=cq H;go_wp2;go_ret;exact dL
def Tryz.iq (w0:World) (b:Nat) (t:ByteArray) (w:World):Prop:=Go.Lib.IsBuilderF 65 5 w0.heap.size b (Go.Lib.byteCells t.data.toList) w
theorem Tryz.iq.kept {w0 w W:World} {b:Nat} {t:ByteArray} (h:Tryz.iq w0 b t w) (hk:∀k o,w.heap[k]? =some o→(k=b∨∃c fz,o=.cells c 5 fz)→W.heap[k]? =some o):Tryz.iq w0 b t W:=by
 have go:∀p,Go.Lib.BuilderAtF 65 5 w0.heap.size b p (Go.Lib.byteCells t.data.toList) w→Go.Lib.BuilderAtF 65 5 w0.heap.size b p (Go.Lib.byteCells t.data.toList) W:=by
  rintro p ⟨hB,v,hb,⟨hl,ho⟩,hn⟩;refine⟨hB,v,hk b _ hb (.inl rfl),⟨hl,?_⟩,hn⟩
  rcases ho with ho|⟨g,cap,cur,fz,hv,hbg,hg,rest⟩
  ·exact .inl ho
  ·exact .inr ⟨g,cap,cur,fz,hv,hbg,hk g _ hg (.inr ⟨cur,fz,rfl⟩),rest⟩
 exact h.elim (fun x=>.inl (go _ x)) (fun x=>.inr (go _ x))
theorem Tryz.iq.below {w0 w W:World} {b:Nat} {t:ByteArray} (h:Tryz.iq w0 b t w) (hb:Below w.heap.size w W):Tryz.iq w0 b t W:=h.kept fun k o hk _=>(hb.block k (bO hk)).trans hk
theorem Tryz.iq.lt {w0 w:World} {b:Nat} {t:ByteArray} (h:Tryz.iq w0 b t w):b<w.heap.size:=h.elim (fun x=>x.lt) (fun x=>x.lt)
theorem Tryz.iq.ge {w0 w:World} {b:Nat} {t:ByteArray} (h:Tryz.iq w0 b t w):w0.heap.size≤b:=h.elim (fun x=>x.1) (fun x=>x.1)
theorem Tryz.iq.set {w0 w:World} {b g ty:Nat} {t:ByteArray} {cs:Array Value} (h:Tryz.iq w0 b t w) (hg:w.heap[g]? =some (.cells cs ty (0,0))) (hne:g≠b) (hty:ty≠5) (j:Nat) (u:Value):Tryz.iq w0 b t (w.setCell ⟨g,j,none⟩ u):=h.kept fun k o hk ho=>by
 refine(Below.heap_setCell w ⟨g,j,none⟩ u k ?_).trans hk;rintro rfl
 rcases ho with ho|⟨c,fz,rfl⟩
 ·exact hne ho
 ·rw[hg]at hk
  injection hk with hk
  injection hk with _ hk _
  exact hty hk
theorem Tryz.mm {w W:World} {b g ty:Nat} {cs:Array Value} (hg:w.heap[g]? =some (.cells cs ty (0,0))) (hne:g≠b) (hty:ty≠5) (hk:Go.Lib.OthersKept 5 (some b) w W):W.heap[g]? =some (.cells cs ty (0,0)) :=
 hk g _ hg (by simpa using hne) (fun c fz h=>by injection h with _ h _;exact hty h)
theorem Tryz.iq.fresh {w0 w:World} {b:Nat} (hb:w.heap[b]? =some (.cells #[.pointer none,.slice none 0 0] 65 (0,0))) (hg:w0.heap.size≤b):Tryz.iq w0 b ⟨#[]⟩ w:=.inl ⟨hg,.slice none 0 0,hb,Go.World.ownsRowF_nil _ _ _ _,by simp[Value.ownBlock]⟩
theorem Tryz.rH {w:World} {g ty:Nat} {c0 c1:Value} (h:w.heap[g]? =some (.cells #[c0,c1] ty (0,0))):w.cell? ⟨g,0,none⟩=some c0∧w.cell? ⟨g,1,none⟩=some c1∧w.frozen? ⟨g,0,none⟩=false∧w.frozen? ⟨g,1,none⟩=false:=⟨(aj h 0).trans rfl,(aj h 1).trans rfl,aI h 0,aI h 1⟩
theorem Tryz.bx6 {w:World} {g ty:Nat} {c0 c1 c2 c3 c4 c5:Value} (h:w.heap[g]? =some (.cells #[c0,c1,c2,c3,c4,c5] ty (0,0))):w.cell? ⟨g,0,none⟩=some c0∧w.cell? ⟨g,1,none⟩=some c1∧w.cell? ⟨g,2,none⟩=some c2∧w.cell? ⟨g,3,none⟩=some c3∧w.cell? ⟨g,4,none⟩=some c4∧w.cell? ⟨g,5,none⟩=some c5∧w.frozen? ⟨g,0,none⟩=false∧w.frozen? ⟨g,1,none⟩=false∧w.frozen? ⟨g,2,none⟩=false∧w.frozen? ⟨g,3,none⟩=false∧w.frozen? ⟨g,4,none⟩=false∧w.frozen? ⟨g,5,none⟩=false:=⟨(aj h 0).trans rfl,(aj h 1).trans rfl,(aj h 2).trans rfl,(aj h 3).trans rfl,(aj h 4).trans rfl,(aj h 5).trans rfl,aI h 0,aI h 1,aI h 2,aI h 3,aI h 4,aI h 5⟩
theorem Tryz.writeString (b:Nat) (t s:ByteArray) (w0 w:World) (h:Tryz.iq w0 b t w) (hl:t.size+s.size≤140737488355328) (hB:Below w0.heap.size w0 w) :
  Calls Tryz.prog 36 #[.pointer (some ⟨b,0,none⟩),.string s] w fun e w'=>(∃v,e=.returned v)∧Tryz.iq w0 b (t++s) w'∧Below w0.heap.size w0 w'∧Go.Lib.OthersKept 5 (some b) w w':=by
 have hc:Calls Tryz.prog 36 #[.pointer (some ⟨b,0,none⟩),.string s] w _:=Go.Proofs.Any.Builder_WriteString_k (ρ:=Tryz.iN) { Tryz.o2 with } Tryz.o3 w0.heap.size b (Go.Lib.byteCells t.data.toList) s w h (by rw[Go.Lib.byteCells_length];exact hl) hB.size;refine hc.mono ?_;rintro e w' ⟨rfl,ha,hb,hk⟩
 have he:Go.Lib.byteCells t.data.toList++Go.Lib.strCells s=Go.Lib.byteCells (t++s).data.toList:=by
  unfold Go.Lib.byteCells Go.Lib.strCells;rw[←List.map_append];simp
 rw[he]at ha;exact⟨⟨_,rfl⟩,.inr ha,hB.trans hb,hk⟩
theorem Tryz.jO (b:Nat) (t:ByteArray) (w0 w:World) (h:Tryz.iq w0 b t w) (hB:Below w0.heap.size w0 w) :
  Calls Tryz.prog 38 #[.pointer (some ⟨b,0,none⟩)] w fun e w'=>e=.returned (.string t)∧Below w0.heap.size w0 w':=by
 have hc:Calls Tryz.prog 38 #[.pointer (some ⟨b,0,none⟩)] w _:=Go.Proofs.Any.Builder_String_any_k (ρ:=Tryz.iN) { Tryz.o2 with } Tryz.o3 w0.heap.size b t.data.toList w h hB.size;refine hc.mono ?_;rintro e w' ⟨rfl,ha,hb,hk⟩;exact⟨by simp,hB.trans hb⟩
def b7.o0:List ByteArray:=[⟨#[]⟩,⟨#[99,111,110,115,116]⟩,⟨#[97,114,103]⟩,⟨#[115,108,111,116]⟩,⟨#[115,101,108,102]⟩,⟨#[97,100,100]⟩,⟨#[115,101,110,100]⟩,⟨#[110,101,119]⟩,⟨#[115,101,116]⟩,⟨#[115,107,105,112]⟩,⟨#[114,101,116,117,114,110]⟩]
def b7.f (a0:Int):Option (ByteArray):=if 1≤a0∧a0≤10 then some (b7.o0.getD a0.toNat ⟨#[]⟩)else some ⟨#[]⟩
theorem b7.calls (a0:Int) (r:ByteArray) (w:World) (h:b7.f a0=some r) (htab:Go.Proofs.YtmipaoobkjppdaaGreatDoor.TabFnTexts.iG w) :
  Calls Tryz.prog 75 #[.int .i64 a0] w fun e w'=>e=.returned (.string r)∧Below w.heap.size w w':=by
 have HB:=aa (Below.refl w.heap.size w);have htb:=fun i=>World.var?_cell (g:=0) (by kernel_rfl) htab.opNames i
 unfold b7.f at h;by_cases c:1≤a0∧a0≤10
 ·rw[if_pos c]at h;have HIN:=aa (show cj.f a0 1 10=some true from by unfold cj.f;rw[if_pos c.1,cH c.2]);have hc:a0=1∨a0=2∨a0=3∨a0=4∨a0=5∨a0=6∨a0=7∨a0=8∨a0=9∨a0=10:=by omega
  clear c
  rcases hc with rfl|rfl|rfl|rfl|rfl|rfl|rfl|rfl|rfl|rfl
  ·obtain rfl:=cq h;have hcell:w.cell? ⟨0,1,none⟩=some (.string ⟨#[99,111,110,115,116]⟩):=(htb 1).trans rfl;clear htb h htab;go_enter Tryz.func75,Tryz.ntmps75;go_wp2_with (first|(go_at_call 72;(with_reducible refine(cj.calls 1 1 10 true _ HIN.out).mono ?_);rintro e w' ⟨rfl,⟨nd,rfl⟩⟩));go_ret;exact mV
  ·obtain rfl:=cq h;have hcell:w.cell? ⟨0,2,none⟩=some (.string ⟨#[97,114,103]⟩):=(htb 2).trans rfl;clear htb h htab;go_enter Tryz.func75,Tryz.ntmps75;go_wp2_with (first|(go_at_call 72;(with_reducible refine(cj.calls 2 1 10 true _ HIN.out).mono ?_);rintro e w' ⟨rfl,⟨nd,rfl⟩⟩));go_ret;exact mV
  ·obtain rfl:=cq h;have hcell:w.cell? ⟨0,3,none⟩=some (.string ⟨#[115,108,111,116]⟩):=(htb 3).trans rfl;clear htb h htab;go_enter Tryz.func75,Tryz.ntmps75;go_wp2_with (first|(go_at_call 72;(with_reducible refine(cj.calls 3 1 10 true _ HIN.out).mono ?_);rintro e w' ⟨rfl,⟨nd,rfl⟩⟩));go_ret;exact mV
  ·obtain rfl:=cq h;have hcell:w.cell? ⟨0,4,none⟩=some (.string ⟨#[115,101,108,102]⟩):=(htb 4).trans rfl;clear htb h htab;go_enter Tryz.func75,Tryz.ntmps75;go_wp2_with (first|(go_at_call 72;(with_reducible refine(cj.calls 4 1 10 true _ HIN.out).mono ?_);rintro e w' ⟨rfl,⟨nd,rfl⟩⟩));go_ret;exact mV
  ·obtain rfl:=cq h;have hcell:w.cell? ⟨0,5,none⟩=some (.string ⟨#[97,100,100]⟩):=(htb 5).trans rfl;clear htb h htab;go_enter Tryz.func75,Tryz.ntmps75;go_wp2_with (first|(go_at_call 72;(with_reducible refine(cj.calls 5 1 10 true _ HIN.out).mono ?_);rintro e w' ⟨rfl,⟨nd,rfl⟩⟩));go_ret;exact mV
  ·obtain rfl:=cq h;have hcell:w.cell? ⟨0,6,none⟩=some (.string ⟨#[115,101,110,100]⟩):=(htb 6).trans rfl;clear htb h htab;go_enter Tryz.func75,Tryz.ntmps75;go_wp2_with (first|(go_at_call 72;(with_reducible refine(cj.calls 6 1 10 true _ HIN.out).mono ?_);rintro e w' ⟨rfl,⟨nd,rfl⟩⟩));go_ret;exact mV
  ·obtain rfl:=cq h;have hcell:w.cell? ⟨0,7,none⟩=some (.string ⟨#[110,101,119]⟩):=(htb 7).trans rfl;clear htb h htab;go_enter Tryz.func75,Tryz.ntmps75;go_wp2_with (first|(go_at_call 72;(with_reducible refine(cj.calls 7 1 10 true _ HIN.out).mono ?_);rintro e w' ⟨rfl,⟨nd,rfl⟩⟩));go_ret;exact mV
  ·obtain rfl:=cq h;have hcell:w.cell? ⟨0,8,none⟩=some (.string ⟨#[115,101,116]⟩):=(htb 8).trans rfl;clear htb h htab;go_enter Tryz.func75,Tryz.ntmps75;go_wp2_with (first|(go_at_call 72;(with_reducible refine(cj.calls 8 1 10 true _ HIN.out).mono ?_);rintro e w' ⟨rfl,⟨nd,rfl⟩⟩));go_ret;exact mV
  ·obtain rfl:=cq h;have hcell:w.cell? ⟨0,9,none⟩=some (.string ⟨#[115,107,105,112]⟩):=(htb 9).trans rfl;clear htb h htab;go_enter Tryz.func75,Tryz.ntmps75;go_wp2_with (first|(go_at_call 72;(with_reducible refine(cj.calls 9 1 10 true _ HIN.out).mono ?_);rintro e w' ⟨rfl,⟨nd,rfl⟩⟩));go_ret;exact mV
  ·obtain rfl:=cq h;have hcell:w.cell? ⟨0,10,none⟩=some (.string ⟨#[114,101,116,117,114,110]⟩):=(htb 10).trans rfl;clear htb h htab;go_enter Tryz.func75,Tryz.ntmps75;go_wp2_with (first|(go_at_call 72;(with_reducible refine(cj.calls 10 1 10 true _ HIN.out).mono ?_);rintro e w' ⟨rfl,⟨nd,rfl⟩⟩));go_ret;exact mV
 ·rw[if_neg c]at h;obtain rfl:=cq h
  have HIN:=aa (show cj.f a0 1 10=some false from by
   unfold cj.f;by_cases c1:1≤a0
   ·rw[if_pos c1,cW (fun h2=>c ⟨c1,h2⟩)]
   ·rw[if_neg c1])
  clear c htb h htab;go_enter Tryz.func75,Tryz.ntmps75;go_wp2_with (first|(go_at_call 72;(with_reducible refine(cj.calls a0 1 10 false _ HIN.out).mono ?_);rintro e w' ⟨rfl,⟨nd,rfl⟩⟩));go_ret;exact mV
def strconv_Itoa.f (a0:Int):Option (ByteArray):=if -9223372036854775808≤a0 then(if a0≤9223372036854775807 then some ⟨(Go.Lib.itoa a0).toArray⟩else none)else none
theorem strconv_Itoa.calls (a0:Int) (r:ByteArray) (w:World) (h:strconv_Itoa.f a0=some r) (htab:Go.Proofs.YtmipaoobkjppdaaGreatDoor.TabFnTexts.iG w) :
  Calls Tryz.prog 103 #[.int .i64 a0] w fun e w'=>e=.returned (.string r)∧Below w.heap.size w w':=by
 unfold strconv_Itoa.f at h;by_cases h0: -9223372036854775808≤a0
 ·rw[if_pos h0]at h;by_cases h1:a0≤9223372036854775807
  ·rw[if_pos h1]at h;obtain rfl:=cq h;have hc:Calls Tryz.prog 103 #[.int .i64 a0] w _:=Go.Proofs.Any.strconv_Itoa Tryz.lay171 a0 h0 h1 w htab.pow10;refine hc.mono ?_;rintro e w' ⟨rfl,k,os,rfl⟩;exact⟨rfl,⟨rfl,rfl,rfl,by show w.heap.size≤(w.heap++os).size;rw[Array.size_append];omega,fun j hj=>by show(w.heap++os)[j]? =w.heap[j]?;rw[Array.getElem?_append,if_pos hj]⟩⟩
  ·rw[if_neg h1]at h;exact absurd h (by simp)
 ·rw[if_neg h0]at h;exact absurd h (by simp)
def fl.f (a0:Int):Option (ByteArray):=(strconv_Itoa.f a0).bind fun t248=>(some t248)
theorem fl.calls (a0:Int) (r:ByteArray) (w:World) (h:fl.f a0=some r) (htab:Go.Proofs.YtmipaoobkjppdaaGreatDoor.TabFnTexts.iG w) :
  Calls Tryz.prog 77 #[.int .i64 a0] w fun e w'=>e=.returned (.string r)∧Below w.heap.size w w':=by
 have HTAB:=aa htab;clear htab;have HB:=aa (Below.refl w.heap.size w);have H:((strconv_Itoa.f a0).bind fun t248=>(some t248))=some r:=h;clear h;replace H:=dW H;obtain⟨t248,A2,H⟩:=H;obtain rfl:=cq H;go_enter Tryz.func77,Tryz.ntmps77;go_wp2_with (first|((with_reducible refine ae (f:=103) rfl ?_);refine cf (some 4) Tryz.func103 #[.int .i64 a0] ?_;(with_reducible refine(strconv_Itoa.calls a0 t248 _ A2.out ?tab1).mono ?_);(case tab1=>exact(HTAB.out).below (bl HB));rintro e w3 ⟨rfl,hb⟩;refine⟨_,rfl,?_⟩;replace HB:=cw HB hb));go_ret;exact dL
end Go.Proofs.YtmipaoobkjppdaaGreatDoor.QFnTexts
