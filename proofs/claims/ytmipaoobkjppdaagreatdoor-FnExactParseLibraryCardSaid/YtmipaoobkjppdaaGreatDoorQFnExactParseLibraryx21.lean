import Derived.Test.YtmipaoobkjppdaaGreatDoorQFnExactParseLibraryx20
set_option maxHeartbeats 8000000
set_option maxRecDepth 100000
namespace Go.Proofs.YtmipaoobkjppdaaGreatDoor.QFnExactParseLibrary
open Go.RowKit Go.Proofs.YtmipaoobkjppdaaGreatDoorW 
open PrintWords PrintLast PrintMore
attribute [local go_sem] cA cB cX cY cd cf cD cG
set_option linter.unusedVariables false
set_option linter.unusedSimpArgs false
def aQ.l0:Nat→List (cW)→Int→Int→Option (Int)
 | 0,_,_,_=>none
 | k+1,x0,x1,x5=>if x5<(x0.length:Int)then(if 0≤x5 then((aC.f k x1).bind fun t291=>(if ((aq x0 x5).f0).toList=t291.toList then((aT.f k ((aq x0 x5).f1) (wrap64 (x1+1))).bind fun t293=>(if t293<0 then(some (-1))else(aQ.l0 k x0 t293 (wrap64 (x5+1)))))else(some (-1))))else(none))else(some x1)
def aQ.f (k:Nat) (l0:List (cW)) (a1:Int):Option (Int):=aQ.l0 k l0 a1 0
theorem aQ.bs:∀k,(∀y0 y1 y2,bd (aQ.l0 k y0 y1 y2) (aQ.l0 (k+1) y0 y1 y2))
 | 0=>fun _ _ _ r h=>by simp[aQ.l0]at h
 | k+1=>by
  have ih0:=aQ.bs k
  ·intro y0 y1 y2;unfold aQ.l0
   repeat' with_reducible first|exact ih0 _ _ _|exact aT.mono _ _ _|exact aC.mono _ _|exact bd.refl _|exact bd.none _|refine bd.ite ?_ ?_|refine bd.bind ?_ (fun _=>?_)
theorem aQ.mono:∀a0 a1 k,bd (aQ.f k a0 a1) (aQ.f (k+1) a0 a1):=by
 intro a0 a1 k;have ih0:=aQ.bs k;unfold aQ.f
 repeat' with_reducible first|exact ih0 _ _ _|exact aT.mono _ _ _|exact aC.mono _ _|exact bd.refl _|exact bd.none _|refine bd.ite ?_ ?_|refine bd.bind ?_ (fun _=>?_)
def aQ.T4:Bool×List (List Nat×List Nat):=(true,[([],[]),([],[]),([0,1],[0,1]),([2],[2]),([3],[3]),([],[]),([5],[5]),([4,6],[4,6])])
def aQ.B4:List Nat:=[0,0,3,7,15,0,32,127]
theorem aQ.mW:eY .any (opsOf Tryz.f30 4)=aQ.T4:=by kernel_rfl
theorem aQ.ki:eQ aQ.T4.2 aQ.B4=true:=by kernel_rfl
theorem aQ.calls (k:Nat) (A0:Option Addr) (c0:Nat) (l0:List (cW)) (a1:Int) (r:Int) (w:World) (hr0:Kd.C fN w A0 l0.length l0) (hc0:l0.length≤c0) (h:aQ.f k l0 a1=some r) :
  Calls Tryz.prog 30 #[.slice A0 l0.length c0,.int .i64 a1] w fun e w'=>e=.returned (.int .i64 r)∧Below w.heap.size w w':=by
 have HR0:=ae hr0;have HC0:=ae hc0;clear hr0 hc0;have HB:=ae (Below.refl w.heap.size w);have H:(aQ.l0 k l0 a1 0)=some r:=h;clear h;have H':=ae H;clear H;go_enter Tryz.func30,Tryz.ntmps30;go_wp2
 go_loopg [1,5] k (fun kq v1 v5 w'=>∃(x1_1:Int) (x5_1:Int),v1=.int .i64 x1_1∧v5=.int .i64 x5_1∧Aside0 (aQ.l0 kq l0 x1_1 x5_1=some r)∧Aside0 (kq≤k)∧Aside0 (Below w.heap.size w w'))
 case atStart=>exact⟨(a1),(0),(by first|rfl|(simp;done)|(simp[*];done)),(by first|rfl|(simp;done)|(simp[*];done)),H',⟨Nat.le_refl _⟩,⟨bl⟩⟩
 case round =>
  clear H';obtain⟨x1_1,x5_1,rfl,rfl,HA,HK1,HB⟩:=hrel
  cases gk with
  | zero=>exact absurd HA.out (by simp[aQ.l0])
  | succ k1 =>
   have H:=HA.out;clear HA;simp only[aQ.l0]at H;by_cases c3:x5_1<(l0.length:Int)
   ·rw[if_pos c3]at H;have c3b0:decide (x5_1<(l0.length:Int))=true:=bW c3;clear c3;by_cases c4:0≤x5_1
    ·rw[if_pos c4]at H;have c4b0:decide (0≤x5_1)=true:=bW c4;clear c4;replace H:=df H;obtain⟨t291,A5,H⟩:=H;by_cases c6:((aq l0 x5_1).f0).toList=t291.toList
     ·rw[if_pos c6]at H;have c6b0:(((aq l0 x5_1).f0).toList==t291.toList)=true:=dX c6;have c6b1:(((aq l0 x5_1).f0).toList !=t291.toList)=false:=ed c6;clear c6;replace H:=df H;obtain⟨t293,A7,H⟩:=H;by_cases c8:t293<0
      ·rw[if_pos c8]at H;have c8b0:decide (t293<0)=true:=bW c8;clear c8;obtain rfl:=bL H
       try go_wp2
       replace HB:=ae (bZ HB.out);have p290:0≤(x5_1:Int):=bN;have q290:x5_1<(l0.length:Int):=bN;obtain⟨ad290,A290_1,c290_1,e290,hx290_0,hx290_1,hl290_1,hi290_1⟩:=dC HR0.out x5_1 p290 q290;have hw290_1:=hx290_1;have hw290_0:=hx290_0;cases e290;replace hx290_0:=bg HB hx290_0;replace hx290_1:=bg HB hx290_1;have HR290_1:=ae hi290_1;have HC290_1:=ae hl290_1;clear hi290_1 hl290_1;replace p290:=eq_true p290;replace q290:=eq_true q290;refine dx (n:=8) (S:=fun w'=>w'.cell? (ad290.add ((x5_1).toNat*2))=some (.string ((aq l0 x5_1).f0))∧w'.cell? ⟨(ad290.add ((x5_1).toNat*2)).block,(ad290.add ((x5_1).toNat*2)).off+1,none⟩=some (.slice A290_1 ((aq l0 x5_1).f1).length c290_1)) (ds:=[]) #[false,false,false,false,false,false,false,false] (by kernel_rfl) rfl rfl ⟨(bg HB hw290_0),(bg HB hw290_1)⟩ (fun hHeld=>?_);refine cT aQ.mW aQ.ki (fun HT_ HW_=>?_);generalize wr.drew=w9 at HB HR290_1 hx290_0 hx290_1 hHeld ⊢;refine pu (i:=0) (N:=some 12) (l':=#[true,false,false,false,false,false,false,false]) (a6 HT_.out (by kernel_rfl)) ?_;refine pu (i:=1) (N:=some 13) (l':=#[true,true,false,false,false,false,false,false]) (a6 HT_.out (by kernel_rfl)) ?_;refine pu (i:=2) (N:=some 14) (l':=#[true,true,true,false,false,false,false,false]) (a6 HT_.out (by kernel_rfl)) ?_;refine pu (i:=3) (N:=some 15) (l':=#[true,true,true,true,false,false,false,false]) (a6 HT_.out (by kernel_rfl)) ?_;refine pu (i:=5) (N:=some 17) (l':=#[true,true,true,true,false,true,false,false]) (a6 HT_.out (by kernel_rfl)) ?_;refine cP (i:=4) (N:=some 16) (v:=?_) (a':=?_) #[true,true,true,true,true,true,false,false] rfl rfl (cq HT_.out HW_.out (by kernel_rfl)) (fun _ _ _ h=>h) (Or.inl ⟨by rfl,?_⟩) hHeld ?_ ?_;rotate_left
       ·rintro w' ⟨s0,s1⟩
        go_simp
        with_reducible rfl
       rotate_left
       ·simp only[Act.put,fH,fF,fG,b7,b8];rfl
       refine ik (i:=6) (N:=some 18) (l':=#[true,true,true,true,true,true,true,false]) (dZ HT_.out (by kernel_rfl)) (fun K hK=>?_);refine kM Tryz.func28 #[.int .i64 x1_1] ?_
       with_reducible refine(aC.calls k1 x1_1 t291 _ A5.out).mono ?_
       rintro e w10 ⟨rfl,hb⟩;refine⟨_,rfl,?_⟩;replace HB:=ch hb
       (try clear hb)
       (try clear hb2)
       (try clear hk)
       (try clear hi)
       refine hK.out _ _ ⟨(bg HB hw290_0),(bg HB hw290_1)⟩ (fun hHeld=>?_);clear hK K;refine nm (some 18) ?_;refine pu (i:=7) (N:=some 19) (l':=#[true,true,true,true,true,true,true,true]) (a6 HT_.out (by kernel_rfl)) ?_;refine en (dK HT_.out (by kernel_rfl)) ?_;have p292:0≤(x5_1:Int):=bN;have q292:x5_1<(l0.length:Int):=bN;obtain⟨ad292,A292_1,c292_1,e292,hx292_0,hx292_1,hl292_1,hi292_1⟩:=dC HR0.out x5_1 p292 q292;obtain rfl:ad290=ad292:=(by injection e292)
       obtain⟨rfl,rfl⟩:A292_1=A290_1∧c292_1=c290_1:=by have q_:=hw290_1.symm.trans hx292_1;injection q_ with q_;injection q_ with qa_ ql_ qc_;exact⟨qa_.symm,qc_.symm⟩
       replace hx292_0:=bg HB hx292_0;replace hx292_1:=bg HB hx292_1;have HR292_1:=ae hi292_1;have HC292_1:=ae hl292_1;clear hi292_1 hl292_1;replace p292:=eq_true p292;replace q292:=eq_true q292
       try go_wp2_with (first|((with_reducible refine ai (f:=58) rfl ?_);refine dm (some 28) Tryz.func58 #[.slice A292_1 ((aq l0 x5_1).f1).length c292_1,.int .i64 (wrap64 (x1_1+1))] ?_;(with_reducible refine(aT.calls k1 _ _ ((aq l0 x5_1).f1) (wrap64 (x1_1+1)) t293 _ ?side1 ?side2 A7.out).mono ?_);(case side1=>exact fA (Kd.bH HR292_1.out HB.out));(case side2=>exact HC292_1.out);rintro e w11 ⟨rfl,hb⟩;refine⟨_,rfl,?_⟩;replace HB:=ch hb))
       go_ret;exact cu
      ·rw[if_neg c8]at H;have c8b0:decide (t293<0)=false:=b5 c8;clear c8;have H':=ae H;clear H
       try go_wp2
       replace HB:=ae (bZ HB.out);have p290:0≤(x5_1:Int):=bN;have q290:x5_1<(l0.length:Int):=bN;obtain⟨ad290,A290_1,c290_1,e290,hx290_0,hx290_1,hl290_1,hi290_1⟩:=dC HR0.out x5_1 p290 q290;have hw290_1:=hx290_1;have hw290_0:=hx290_0;cases e290;replace hx290_0:=bg HB hx290_0;replace hx290_1:=bg HB hx290_1;have HR290_1:=ae hi290_1;have HC290_1:=ae hl290_1;clear hi290_1 hl290_1;replace p290:=eq_true p290;replace q290:=eq_true q290;refine dx (n:=8) (S:=fun w'=>w'.cell? (ad290.add ((x5_1).toNat*2))=some (.string ((aq l0 x5_1).f0))∧w'.cell? ⟨(ad290.add ((x5_1).toNat*2)).block,(ad290.add ((x5_1).toNat*2)).off+1,none⟩=some (.slice A290_1 ((aq l0 x5_1).f1).length c290_1)) (ds:=[]) #[false,false,false,false,false,false,false,false] (by kernel_rfl) rfl rfl ⟨(bg HB hw290_0),(bg HB hw290_1)⟩ (fun hHeld=>?_);refine cT aQ.mW aQ.ki (fun HT_ HW_=>?_);generalize wr.drew=w12 at HB HR290_1 hx290_0 hx290_1 hHeld ⊢;refine pu (i:=0) (N:=some 12) (l':=#[true,false,false,false,false,false,false,false]) (a6 HT_.out (by kernel_rfl)) ?_;refine pu (i:=1) (N:=some 13) (l':=#[true,true,false,false,false,false,false,false]) (a6 HT_.out (by kernel_rfl)) ?_;refine pu (i:=2) (N:=some 14) (l':=#[true,true,true,false,false,false,false,false]) (a6 HT_.out (by kernel_rfl)) ?_;refine pu (i:=3) (N:=some 15) (l':=#[true,true,true,true,false,false,false,false]) (a6 HT_.out (by kernel_rfl)) ?_;refine pu (i:=5) (N:=some 17) (l':=#[true,true,true,true,false,true,false,false]) (a6 HT_.out (by kernel_rfl)) ?_;refine cP (i:=4) (N:=some 16) (v:=?_) (a':=?_) #[true,true,true,true,true,true,false,false] rfl rfl (cq HT_.out HW_.out (by kernel_rfl)) (fun _ _ _ h=>h) (Or.inl ⟨by rfl,?_⟩) hHeld ?_ ?_;rotate_left
       ·rintro w' ⟨s0,s1⟩
        go_simp
        with_reducible rfl
       rotate_left
       ·simp only[Act.put,fH,fF,fG,b7,b8];rfl
       refine ik (i:=6) (N:=some 18) (l':=#[true,true,true,true,true,true,true,false]) (dZ HT_.out (by kernel_rfl)) (fun K hK=>?_);refine kM Tryz.func28 #[.int .i64 x1_1] ?_
       with_reducible refine(aC.calls k1 x1_1 t291 _ A5.out).mono ?_
       rintro e w13 ⟨rfl,hb⟩;refine⟨_,rfl,?_⟩;replace HB:=ch hb
       (try clear hb)
       (try clear hb2)
       (try clear hk)
       (try clear hi)
       refine hK.out _ _ ⟨(bg HB hw290_0),(bg HB hw290_1)⟩ (fun hHeld=>?_);clear hK K;refine nm (some 18) ?_;refine pu (i:=7) (N:=some 19) (l':=#[true,true,true,true,true,true,true,true]) (a6 HT_.out (by kernel_rfl)) ?_;refine en (dK HT_.out (by kernel_rfl)) ?_;have p292:0≤(x5_1:Int):=bN;have q292:x5_1<(l0.length:Int):=bN;obtain⟨ad292,A292_1,c292_1,e292,hx292_0,hx292_1,hl292_1,hi292_1⟩:=dC HR0.out x5_1 p292 q292;obtain rfl:ad290=ad292:=(by injection e292)
       obtain⟨rfl,rfl⟩:A292_1=A290_1∧c292_1=c290_1:=by have q_:=hw290_1.symm.trans hx292_1;injection q_ with q_;injection q_ with qa_ ql_ qc_;exact⟨qa_.symm,qc_.symm⟩
       replace hx292_0:=bg HB hx292_0;replace hx292_1:=bg HB hx292_1;have HR292_1:=ae hi292_1;have HC292_1:=ae hl292_1;clear hi292_1 hl292_1;replace p292:=eq_true p292;replace q292:=eq_true q292
       try go_wp2_with (first|((with_reducible refine ai (f:=58) rfl ?_);refine dm (some 28) Tryz.func58 #[.slice A292_1 ((aq l0 x5_1).f1).length c292_1,.int .i64 (wrap64 (x1_1+1))] ?_;(with_reducible refine(aT.calls k1 _ _ ((aq l0 x5_1).f1) (wrap64 (x1_1+1)) t293 _ ?side1 ?side2 A7.out).mono ?_);(case side1=>exact fA (Kd.bH HR292_1.out HB.out));(case side2=>exact HC292_1.out);rintro e w14 ⟨rfl,hb⟩;refine⟨_,rfl,?_⟩;replace HB:=ch hb))
       go_roundg k1
       case measure=>have:=HK1.out;omega
       case rel=>exact⟨(t293),(wrap64 (x5_1+1)),(by first|rfl|(simp;done)|(simp[*];done)),(by first|rfl|(simp;done)|(simp[*];done)),H',⟨by have:=HK1.out;omega⟩,⟨bl⟩⟩
     ·rw[if_neg c6]at H;have c6b0:(((aq l0 x5_1).f0).toList==t291.toList)=false:=di c6;have c6b1:(((aq l0 x5_1).f0).toList !=t291.toList)=true:=ee c6;obtain rfl:=bL H
      try go_wp2
      replace HB:=ae (bZ HB.out);have p290:0≤(x5_1:Int):=bN;have q290:x5_1<(l0.length:Int):=bN;obtain⟨ad290,A290_1,c290_1,e290,hx290_0,hx290_1,hl290_1,hi290_1⟩:=dC HR0.out x5_1 p290 q290;have hw290_1:=hx290_1;have hw290_0:=hx290_0;cases e290;replace hx290_0:=bg HB hx290_0;replace hx290_1:=bg HB hx290_1;have HR290_1:=ae hi290_1;have HC290_1:=ae hl290_1;clear hi290_1 hl290_1;replace p290:=eq_true p290;replace q290:=eq_true q290;refine dx (n:=8) (S:=fun w'=>w'.cell? (ad290.add ((x5_1).toNat*2))=some (.string ((aq l0 x5_1).f0))∧w'.cell? ⟨(ad290.add ((x5_1).toNat*2)).block,(ad290.add ((x5_1).toNat*2)).off+1,none⟩=some (.slice A290_1 ((aq l0 x5_1).f1).length c290_1)) (ds:=[]) #[false,false,false,false,false,false,false,false] (by kernel_rfl) rfl rfl ⟨(bg HB hw290_0),(bg HB hw290_1)⟩ (fun hHeld=>?_);refine cT aQ.mW aQ.ki (fun HT_ HW_=>?_);generalize wr.drew=w15 at HB HR290_1 hx290_0 hx290_1 hHeld ⊢;refine pu (i:=0) (N:=some 12) (l':=#[true,false,false,false,false,false,false,false]) (a6 HT_.out (by kernel_rfl)) ?_;refine pu (i:=1) (N:=some 13) (l':=#[true,true,false,false,false,false,false,false]) (a6 HT_.out (by kernel_rfl)) ?_;refine pu (i:=2) (N:=some 14) (l':=#[true,true,true,false,false,false,false,false]) (a6 HT_.out (by kernel_rfl)) ?_;refine pu (i:=3) (N:=some 15) (l':=#[true,true,true,true,false,false,false,false]) (a6 HT_.out (by kernel_rfl)) ?_;refine pu (i:=5) (N:=some 17) (l':=#[true,true,true,true,false,true,false,false]) (a6 HT_.out (by kernel_rfl)) ?_;refine cP (i:=4) (N:=some 16) (v:=?_) (a':=?_) #[true,true,true,true,true,true,false,false] rfl rfl (cq HT_.out HW_.out (by kernel_rfl)) (fun _ _ _ h=>h) (Or.inl ⟨by rfl,?_⟩) hHeld ?_ ?_;rotate_left
      ·rintro w' ⟨s0,s1⟩
       go_simp
       with_reducible rfl
      rotate_left
      ·simp only[Act.put,fH,fF,fG,b7,b8];rfl
      refine ik (i:=6) (N:=some 18) (l':=#[true,true,true,true,true,true,true,false]) (dZ HT_.out (by kernel_rfl)) (fun K hK=>?_);refine kM Tryz.func28 #[.int .i64 x1_1] ?_
      with_reducible refine(aC.calls k1 x1_1 t291 _ A5.out).mono ?_
      rintro e w16 ⟨rfl,hb⟩;refine⟨_,rfl,?_⟩;replace HB:=ch hb
      (try clear hb)
      (try clear hb2)
      (try clear hk)
      (try clear hi)
      refine hK.out _ _ ⟨(bg HB hw290_0),(bg HB hw290_1)⟩ (fun hHeld=>?_);clear hK K;refine nm (some 18) ?_;refine pu (i:=7) (N:=some 19) (l':=#[true,true,true,true,true,true,true,true]) (a6 HT_.out (by kernel_rfl)) ?_;refine en (dK HT_.out (by kernel_rfl)) ?_
      try go_wp2
      go_ret;exact cu
    ·rw[if_neg c4]at H;exact absurd H (by simp)
   ·rw[if_neg c3]at H;have c3b0:decide (x5_1<(l0.length:Int))=false:=b5 c3;clear c3;obtain rfl:=bL H;go_wp2;go_ret;exact cu
def aI.l0:Nat→List (bY)→Int→Int→Option (Int)
 | 0,_,_,_=>none
 | k+1,x0,x1,x5=>if x5<(x0.length:Int)then(if 0≤x5 then((aC.f k x1).bind fun t295=>(if ((aN x0 x5).f0).toList=t295.toList then((aQ.f k ((aN x0 x5).f1) (wrap64 (x1+1))).bind fun t297=>(if t297<0 then(some (-1))else(aI.l0 k x0 t297 (wrap64 (x5+1)))))else(some (-1))))else(none))else(some x1)
def aI.f (k:Nat) (l0:List (bY)) (a1:Int):Option (Int):=aI.l0 k l0 a1 0
theorem aI.bs:∀k,(∀y0 y1 y2,bd (aI.l0 k y0 y1 y2) (aI.l0 (k+1) y0 y1 y2))
 | 0=>fun _ _ _ r h=>by simp[aI.l0]at h
 | k+1=>by
  have ih0:=aI.bs k
  ·intro y0 y1 y2;unfold aI.l0
   repeat' with_reducible first|exact ih0 _ _ _|exact aQ.mono _ _ _|exact aC.mono _ _|exact bd.refl _|exact bd.none _|refine bd.ite ?_ ?_|refine bd.bind ?_ (fun _=>?_)
theorem aI.mono:∀a0 a1 k,bd (aI.f k a0 a1) (aI.f (k+1) a0 a1):=by
 intro a0 a1 k;have ih0:=aI.bs k;unfold aI.f
 repeat' with_reducible first|exact ih0 _ _ _|exact aQ.mono _ _ _|exact aC.mono _ _|exact bd.refl _|exact bd.none _|refine bd.ite ?_ ?_|refine bd.bind ?_ (fun _=>?_)
def aI.T4:Bool×List (List Nat×List Nat):=(true,[([],[]),([],[]),([0,1],[0,1]),([2],[2]),([3],[3]),([],[]),([5],[5]),([4,6],[4,6])])
def aI.B4:List Nat:=[0,0,3,7,15,0,32,127]
theorem aI.mW:eY .any (opsOf Tryz.f9 4)=aI.T4:=by kernel_rfl
theorem aI.ki:eQ aI.T4.2 aI.B4=true:=by kernel_rfl
theorem aI.calls (k:Nat) (A0:Option Addr) (c0:Nat) (l0:List (bY)) (a1:Int) (r:Int) (w:World) (hr0:Kd.C lQ w A0 l0.length l0) (hc0:l0.length≤c0) (h:aI.f k l0 a1=some r) :
  Calls Tryz.prog 9 #[.slice A0 l0.length c0,.int .i64 a1] w fun e w'=>e=.returned (.int .i64 r)∧Below w.heap.size w w':=by
 have HR0:=ae hr0;have HC0:=ae hc0;clear hr0 hc0;have HB:=ae (Below.refl w.heap.size w);have H:(aI.l0 k l0 a1 0)=some r:=h;clear h;have H':=ae H;clear H;go_enter Tryz.func9,Tryz.ntmps9;go_wp2
 go_loopg [1,5] k (fun kq v1 v5 w'=>∃(x1_1:Int) (x5_1:Int),v1=.int .i64 x1_1∧v5=.int .i64 x5_1∧Aside0 (aI.l0 kq l0 x1_1 x5_1=some r)∧Aside0 (kq≤k)∧Aside0 (Below w.heap.size w w'))
 case atStart=>exact⟨(a1),(0),(by first|rfl|(simp;done)|(simp[*];done)),(by first|rfl|(simp;done)|(simp[*];done)),H',⟨Nat.le_refl _⟩,⟨bl⟩⟩
 case round =>
  clear H';obtain⟨x1_1,x5_1,rfl,rfl,HA,HK1,HB⟩:=hrel
  cases gk with
  | zero=>exact absurd HA.out (by simp[aI.l0])
  | succ k1 =>
   have H:=HA.out;clear HA;simp only[aI.l0]at H;by_cases c3:x5_1<(l0.length:Int)
   ·rw[if_pos c3]at H;have c3b0:decide (x5_1<(l0.length:Int))=true:=bW c3;clear c3;by_cases c4:0≤x5_1
    ·rw[if_pos c4]at H;have c4b0:decide (0≤x5_1)=true:=bW c4;clear c4;replace H:=df H;obtain⟨t295,A5,H⟩:=H;by_cases c6:((aN l0 x5_1).f0).toList=t295.toList
     ·rw[if_pos c6]at H;have c6b0:(((aN l0 x5_1).f0).toList==t295.toList)=true:=dX c6;have c6b1:(((aN l0 x5_1).f0).toList !=t295.toList)=false:=ed c6;clear c6;replace H:=df H;obtain⟨t297,A7,H⟩:=H;by_cases c8:t297<0
      ·rw[if_pos c8]at H;have c8b0:decide (t297<0)=true:=bW c8;clear c8;obtain rfl:=bL H
       try go_wp2
       replace HB:=ae (bZ HB.out);have p294:0≤(x5_1:Int):=bN;have q294:x5_1<(l0.length:Int):=bN;obtain⟨ad294,A294_1,c294_1,e294,hx294_0,hx294_1,hl294_1,hi294_1⟩:=dD HR0.out x5_1 p294 q294;have hw294_1:=hx294_1;have hw294_0:=hx294_0;cases e294;replace hx294_0:=bg HB hx294_0;replace hx294_1:=bg HB hx294_1;have HR294_1:=ae hi294_1;have HC294_1:=ae hl294_1;clear hi294_1 hl294_1;replace p294:=eq_true p294;replace q294:=eq_true q294;refine dx (n:=8) (S:=fun w'=>w'.cell? (ad294.add ((x5_1).toNat*2))=some (.string ((aN l0 x5_1).f0))∧w'.cell? ⟨(ad294.add ((x5_1).toNat*2)).block,(ad294.add ((x5_1).toNat*2)).off+1,none⟩=some (.slice A294_1 ((aN l0 x5_1).f1).length c294_1)) (ds:=[]) #[false,false,false,false,false,false,false,false] (by kernel_rfl) rfl rfl ⟨(bg HB hw294_0),(bg HB hw294_1)⟩ (fun hHeld=>?_);refine cT aI.mW aI.ki (fun HT_ HW_=>?_);generalize wr.drew=w9 at HB HR294_1 hx294_0 hx294_1 hHeld ⊢;refine pu (i:=0) (N:=some 12) (l':=#[true,false,false,false,false,false,false,false]) (a6 HT_.out (by kernel_rfl)) ?_;refine pu (i:=1) (N:=some 13) (l':=#[true,true,false,false,false,false,false,false]) (a6 HT_.out (by kernel_rfl)) ?_;refine pu (i:=2) (N:=some 14) (l':=#[true,true,true,false,false,false,false,false]) (a6 HT_.out (by kernel_rfl)) ?_;refine pu (i:=3) (N:=some 15) (l':=#[true,true,true,true,false,false,false,false]) (a6 HT_.out (by kernel_rfl)) ?_;refine pu (i:=5) (N:=some 17) (l':=#[true,true,true,true,false,true,false,false]) (a6 HT_.out (by kernel_rfl)) ?_;refine cP (i:=4) (N:=some 16) (v:=?_) (a':=?_) #[true,true,true,true,true,true,false,false] rfl rfl (cq HT_.out HW_.out (by kernel_rfl)) (fun _ _ _ h=>h) (Or.inl ⟨by rfl,?_⟩) hHeld ?_ ?_;rotate_left
       ·rintro w' ⟨s0,s1⟩
        go_simp
        with_reducible rfl
       rotate_left
       ·simp only[Act.put,fH,fF,fG,b7,b8];rfl
       refine ik (i:=6) (N:=some 18) (l':=#[true,true,true,true,true,true,true,false]) (dZ HT_.out (by kernel_rfl)) (fun K hK=>?_);refine kM Tryz.func28 #[.int .i64 x1_1] ?_
       with_reducible refine(aC.calls k1 x1_1 t295 _ A5.out).mono ?_
       rintro e w10 ⟨rfl,hb⟩;refine⟨_,rfl,?_⟩;replace HB:=ch hb
       (try clear hb)
       (try clear hb2)
       (try clear hk)
       (try clear hi)
       refine hK.out _ _ ⟨(bg HB hw294_0),(bg HB hw294_1)⟩ (fun hHeld=>?_);clear hK K;refine nm (some 18) ?_;refine pu (i:=7) (N:=some 19) (l':=#[true,true,true,true,true,true,true,true]) (a6 HT_.out (by kernel_rfl)) ?_;refine en (dK HT_.out (by kernel_rfl)) ?_;have p296:0≤(x5_1:Int):=bN;have q296:x5_1<(l0.length:Int):=bN;obtain⟨ad296,A296_1,c296_1,e296,hx296_0,hx296_1,hl296_1,hi296_1⟩:=dD HR0.out x5_1 p296 q296;obtain rfl:ad294=ad296:=(by injection e296)
       obtain⟨rfl,rfl⟩:A296_1=A294_1∧c296_1=c294_1:=by have q_:=hw294_1.symm.trans hx296_1;injection q_ with q_;injection q_ with qa_ ql_ qc_;exact⟨qa_.symm,qc_.symm⟩
       replace hx296_0:=bg HB hx296_0;replace hx296_1:=bg HB hx296_1;have HR296_1:=ae hi296_1;have HC296_1:=ae hl296_1;clear hi296_1 hl296_1;replace p296:=eq_true p296;replace q296:=eq_true q296
       try go_wp2_with (first|((with_reducible refine ai (f:=30) rfl ?_);refine dm (some 28) Tryz.func30 #[.slice A296_1 ((aN l0 x5_1).f1).length c296_1,.int .i64 (wrap64 (x1_1+1))] ?_;(with_reducible refine(aQ.calls k1 _ _ ((aN l0 x5_1).f1) (wrap64 (x1_1+1)) t297 _ ?side1 ?side2 A7.out).mono ?_);(case side1=>exact fA (Kd.bH HR296_1.out HB.out));(case side2=>exact HC296_1.out);rintro e w11 ⟨rfl,hb⟩;refine⟨_,rfl,?_⟩;replace HB:=ch hb))
       go_ret;exact cu
      ·rw[if_neg c8]at H;have c8b0:decide (t297<0)=false:=b5 c8;clear c8;have H':=ae H;clear H
       try go_wp2
       replace HB:=ae (bZ HB.out);have p294:0≤(x5_1:Int):=bN;have q294:x5_1<(l0.length:Int):=bN;obtain⟨ad294,A294_1,c294_1,e294,hx294_0,hx294_1,hl294_1,hi294_1⟩:=dD HR0.out x5_1 p294 q294;have hw294_1:=hx294_1;have hw294_0:=hx294_0;cases e294;replace hx294_0:=bg HB hx294_0;replace hx294_1:=bg HB hx294_1;have HR294_1:=ae hi294_1;have HC294_1:=ae hl294_1;clear hi294_1 hl294_1;replace p294:=eq_true p294;replace q294:=eq_true q294;refine dx (n:=8) (S:=fun w'=>w'.cell? (ad294.add ((x5_1).toNat*2))=some (.string ((aN l0 x5_1).f0))∧w'.cell? ⟨(ad294.add ((x5_1).toNat*2)).block,(ad294.add ((x5_1).toNat*2)).off+1,none⟩=some (.slice A294_1 ((aN l0 x5_1).f1).length c294_1)) (ds:=[]) #[false,false,false,false,false,false,false,false] (by kernel_rfl) rfl rfl ⟨(bg HB hw294_0),(bg HB hw294_1)⟩ (fun hHeld=>?_);refine cT aI.mW aI.ki (fun HT_ HW_=>?_);generalize wr.drew=w12 at HB HR294_1 hx294_0 hx294_1 hHeld ⊢;refine pu (i:=0) (N:=some 12) (l':=#[true,false,false,false,false,false,false,false]) (a6 HT_.out (by kernel_rfl)) ?_;refine pu (i:=1) (N:=some 13) (l':=#[true,true,false,false,false,false,false,false]) (a6 HT_.out (by kernel_rfl)) ?_;refine pu (i:=2) (N:=some 14) (l':=#[true,true,true,false,false,false,false,false]) (a6 HT_.out (by kernel_rfl)) ?_;refine pu (i:=3) (N:=some 15) (l':=#[true,true,true,true,false,false,false,false]) (a6 HT_.out (by kernel_rfl)) ?_;refine pu (i:=5) (N:=some 17) (l':=#[true,true,true,true,false,true,false,false]) (a6 HT_.out (by kernel_rfl)) ?_;refine cP (i:=4) (N:=some 16) (v:=?_) (a':=?_) #[true,true,true,true,true,true,false,false] rfl rfl (cq HT_.out HW_.out (by kernel_rfl)) (fun _ _ _ h=>h) (Or.inl ⟨by rfl,?_⟩) hHeld ?_ ?_;rotate_left
       ·rintro w' ⟨s0,s1⟩
        go_simp
        with_reducible rfl
       rotate_left
       ·simp only[Act.put,fH,fF,fG,b7,b8];rfl
       refine ik (i:=6) (N:=some 18) (l':=#[true,true,true,true,true,true,true,false]) (dZ HT_.out (by kernel_rfl)) (fun K hK=>?_);refine kM Tryz.func28 #[.int .i64 x1_1] ?_
       with_reducible refine(aC.calls k1 x1_1 t295 _ A5.out).mono ?_
       rintro e w13 ⟨rfl,hb⟩;refine⟨_,rfl,?_⟩;replace HB:=ch hb
       (try clear hb)
       (try clear hb2)
       (try clear hk)
       (try clear hi)
       refine hK.out _ _ ⟨(bg HB hw294_0),(bg HB hw294_1)⟩ (fun hHeld=>?_);clear hK K;refine nm (some 18) ?_;refine pu (i:=7) (N:=some 19) (l':=#[true,true,true,true,true,true,true,true]) (a6 HT_.out (by kernel_rfl)) ?_;refine en (dK HT_.out (by kernel_rfl)) ?_;have p296:0≤(x5_1:Int):=bN;have q296:x5_1<(l0.length:Int):=bN;obtain⟨ad296,A296_1,c296_1,e296,hx296_0,hx296_1,hl296_1,hi296_1⟩:=dD HR0.out x5_1 p296 q296;obtain rfl:ad294=ad296:=(by injection e296)
       obtain⟨rfl,rfl⟩:A296_1=A294_1∧c296_1=c294_1:=by have q_:=hw294_1.symm.trans hx296_1;injection q_ with q_;injection q_ with qa_ ql_ qc_;exact⟨qa_.symm,qc_.symm⟩
       replace hx296_0:=bg HB hx296_0;replace hx296_1:=bg HB hx296_1;have HR296_1:=ae hi296_1;have HC296_1:=ae hl296_1;clear hi296_1 hl296_1;replace p296:=eq_true p296;replace q296:=eq_true q296
       try go_wp2_with (first|((with_reducible refine ai (f:=30) rfl ?_);refine dm (some 28) Tryz.func30 #[.slice A296_1 ((aN l0 x5_1).f1).length c296_1,.int .i64 (wrap64 (x1_1+1))] ?_;(with_reducible refine(aQ.calls k1 _ _ ((aN l0 x5_1).f1) (wrap64 (x1_1+1)) t297 _ ?side1 ?side2 A7.out).mono ?_);(case side1=>exact fA (Kd.bH HR296_1.out HB.out));(case side2=>exact HC296_1.out);rintro e w14 ⟨rfl,hb⟩;refine⟨_,rfl,?_⟩;replace HB:=ch hb))
       go_roundg k1
       case measure=>have:=HK1.out;omega
       case rel=>exact⟨(t297),(wrap64 (x5_1+1)),(by first|rfl|(simp;done)|(simp[*];done)),(by first|rfl|(simp;done)|(simp[*];done)),H',⟨by have:=HK1.out;omega⟩,⟨bl⟩⟩
     ·rw[if_neg c6]at H;have c6b0:(((aN l0 x5_1).f0).toList==t295.toList)=false:=di c6;have c6b1:(((aN l0 x5_1).f0).toList !=t295.toList)=true:=ee c6;obtain rfl:=bL H
      try go_wp2
      replace HB:=ae (bZ HB.out);have p294:0≤(x5_1:Int):=bN;have q294:x5_1<(l0.length:Int):=bN;obtain⟨ad294,A294_1,c294_1,e294,hx294_0,hx294_1,hl294_1,hi294_1⟩:=dD HR0.out x5_1 p294 q294;have hw294_1:=hx294_1;have hw294_0:=hx294_0;cases e294;replace hx294_0:=bg HB hx294_0;replace hx294_1:=bg HB hx294_1;have HR294_1:=ae hi294_1;have HC294_1:=ae hl294_1;clear hi294_1 hl294_1;replace p294:=eq_true p294;replace q294:=eq_true q294;refine dx (n:=8) (S:=fun w'=>w'.cell? (ad294.add ((x5_1).toNat*2))=some (.string ((aN l0 x5_1).f0))∧w'.cell? ⟨(ad294.add ((x5_1).toNat*2)).block,(ad294.add ((x5_1).toNat*2)).off+1,none⟩=some (.slice A294_1 ((aN l0 x5_1).f1).length c294_1)) (ds:=[]) #[false,false,false,false,false,false,false,false] (by kernel_rfl) rfl rfl ⟨(bg HB hw294_0),(bg HB hw294_1)⟩ (fun hHeld=>?_);refine cT aI.mW aI.ki (fun HT_ HW_=>?_);generalize wr.drew=w15 at HB HR294_1 hx294_0 hx294_1 hHeld ⊢;refine pu (i:=0) (N:=some 12) (l':=#[true,false,false,false,false,false,false,false]) (a6 HT_.out (by kernel_rfl)) ?_;refine pu (i:=1) (N:=some 13) (l':=#[true,true,false,false,false,false,false,false]) (a6 HT_.out (by kernel_rfl)) ?_;refine pu (i:=2) (N:=some 14) (l':=#[true,true,true,false,false,false,false,false]) (a6 HT_.out (by kernel_rfl)) ?_;refine pu (i:=3) (N:=some 15) (l':=#[true,true,true,true,false,false,false,false]) (a6 HT_.out (by kernel_rfl)) ?_;refine pu (i:=5) (N:=some 17) (l':=#[true,true,true,true,false,true,false,false]) (a6 HT_.out (by kernel_rfl)) ?_;refine cP (i:=4) (N:=some 16) (v:=?_) (a':=?_) #[true,true,true,true,true,true,false,false] rfl rfl (cq HT_.out HW_.out (by kernel_rfl)) (fun _ _ _ h=>h) (Or.inl ⟨by rfl,?_⟩) hHeld ?_ ?_;rotate_left
      ·rintro w' ⟨s0,s1⟩
       go_simp
       with_reducible rfl
      rotate_left
      ·simp only[Act.put,fH,fF,fG,b7,b8];rfl
      refine ik (i:=6) (N:=some 18) (l':=#[true,true,true,true,true,true,true,false]) (dZ HT_.out (by kernel_rfl)) (fun K hK=>?_);refine kM Tryz.func28 #[.int .i64 x1_1] ?_
      with_reducible refine(aC.calls k1 x1_1 t295 _ A5.out).mono ?_
      rintro e w16 ⟨rfl,hb⟩;refine⟨_,rfl,?_⟩;replace HB:=ch hb
      (try clear hb)
      (try clear hb2)
      (try clear hk)
      (try clear hi)
      refine hK.out _ _ ⟨(bg HB hw294_0),(bg HB hw294_1)⟩ (fun hHeld=>?_);clear hK K;refine nm (some 18) ?_;refine pu (i:=7) (N:=some 19) (l':=#[true,true,true,true,true,true,true,true]) (a6 HT_.out (by kernel_rfl)) ?_;refine en (dK HT_.out (by kernel_rfl)) ?_
      try go_wp2
      go_ret;exact cu
    ·rw[if_neg c4]at H;exact absurd H (by simp)
   ·rw[if_neg c3]at H;have c3b0:decide (x5_1<(l0.length:Int))=false:=b5 c3;clear c3;obtain rfl:=bL H;go_wp2;go_ret;exact cu
end Go.Proofs.YtmipaoobkjppdaaGreatDoor.QFnExactParseLibrary
