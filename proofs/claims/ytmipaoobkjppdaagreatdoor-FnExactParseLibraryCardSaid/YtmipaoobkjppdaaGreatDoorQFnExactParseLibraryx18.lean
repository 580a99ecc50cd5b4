import Derived.Test.YtmipaoobkjppdaaGreatDoorQFnExactParseLibraryx17
set_option maxHeartbeats 8000000
set_option maxRecDepth 100000
namespace Go.Proofs.YtmipaoobkjppdaaGreatDoor.QFnExactParseLibrary
open Go.RowKit Go.Proofs.YtmipaoobkjppdaaGreatDoorW 
open PrintWords PrintLast PrintMore
attribute [local go_sem] cA cB cX cY cd cf cD cG
set_option linter.unusedVariables false
set_option linter.unusedSimpArgs false
def a8.l0:Nat→List (cw)→List (cw)→Int→Option (Bool)
 | 0,_,_,_=>none
 | k+1,x0,x1,x5=>if x5<(x0.length:Int)then(if 0≤x5 then(if x5<(x1.length:Int)then((dL.f ((ab x0 x5).f0) ((ab x0 x5).f1) ((ab x0 x5).f2) ((ab x0 x5).f3) ((ab x0 x5).f4) ((ab x0 x5).f5) ((ab x1 x5).f0) ((ab x1 x5).f1) ((ab x1 x5).f2) ((ab x1 x5).f3) ((ab x1 x5).f4) ((ab x1 x5).f5)).bind fun t260=>(if t260=true then(a8.l0 k x0 x1 (wrap64 (x5+1)))else(some false)))else(none))else(none))else(some true)
def a8.f (k:Nat) (l0:List (cw)) (l1:List (cw)):Option (Bool):=if (l0.length:Int)=(l1.length:Int)then(a8.l0 k l0 l1 0)else(some false)
theorem a8.bs:∀k,(∀y0 y1 y2,bd (a8.l0 k y0 y1 y2) (a8.l0 (k+1) y0 y1 y2))
 | 0=>fun _ _ _ r h=>by simp[a8.l0]at h
 | k+1=>by
  have ih0:=a8.bs k
  ·intro y0 y1 y2;unfold a8.l0
   repeat' with_reducible first|exact ih0 _ _ _|exact bd.refl _|exact bd.none _|refine bd.ite ?_ ?_|refine bd.bind ?_ (fun _=>?_)
theorem a8.mono:∀a0 a1 k,bd (a8.f k a0 a1) (a8.f (k+1) a0 a1):=by
 intro a0 a1 k;have ih0:=a8.bs k;unfold a8.f
 repeat' with_reducible first|exact ih0 _ _ _|exact bd.refl _|exact bd.none _|refine bd.ite ?_ ?_|refine bd.bind ?_ (fun _=>?_)
def a8.T6:Bool×List (List Nat×List Nat):=(true,[([],[]),([],[]),([0,1],[0,1]),([2],[2]),([],[]),([],[]),([4,5],[4,5]),([6],[6]),([3,7],[3,7]),([8],[8])])
def a8.B6:List Nat:=[0,0,3,7,0,0,48,112,255,511]
theorem a8.jH:eY .any (opsOf Tryz.f113 6)=a8.T6:=by kernel_rfl
theorem a8.gE:eQ a8.T6.2 a8.B6=true:=by kernel_rfl
theorem a8.calls (k:Nat) (A0:Option Addr) (c0:Nat) (l0:List (cw)) (A1:Option Addr) (c1:Nat) (l1:List (cw)) (r:Bool) (w:World) (hr0:Kd.C eR w A0 l0.length l0) (hc0:l0.length≤c0) (hr1:Kd.C eR w A1 l1.length l1) (hc1:l1.length≤c1) (h:a8.f k l0 l1=some r) :
  Calls Tryz.prog 113 #[.slice A0 l0.length c0,.slice A1 l1.length c1] w fun e w'=>e=.returned (.bool r)∧Below w.heap.size w w':=by
 have hu35:=Tryz.underlying35;have HR0:=ae hr0;have HC0:=ae hc0;clear hr0 hc0;have HR1:=ae hr1;have HC1:=ae hc1;clear hr1 hc1;have HB:=ae (Below.refl w.heap.size w);have H:(if (l0.length:Int)=(l1.length:Int)then(a8.l0 k l0 l1 0)else(some false))=some r:=h;clear h;by_cases c3:(l0.length:Int)=(l1.length:Int)
 ·rw[if_pos c3]at H;have c3b0:((l0.length:Int)==(l1.length:Int))=true:=dX c3;have c3b1:((l0.length:Int) !=(l1.length:Int))=false:=ed c3;have c3b2:(l0.length==l1.length)=true:=by first|simpa using c3|(simp at c3 ⊢;omega)
  clear c3;have H':=ae H;clear H;go_enter Tryz.func113,Tryz.ntmps113;go_wp2
  go_loopg [5] k (fun kq v5 w'=>∃(x5_1:Int),v5=.int .i64 x5_1∧Aside0 (a8.l0 kq l0 l1 x5_1=some r)∧Aside0 (kq≤k)∧Aside0 (Below w.heap.size w w'))
  case atStart=>exact⟨(0),(by first|rfl|(simp;done)|(simp[*];done)),H',⟨Nat.le_refl _⟩,⟨bl⟩⟩
  case round =>
   clear H';obtain⟨x5_1,rfl,HA,HK1,HB⟩:=hrel
   cases gk with
   | zero=>exact absurd HA.out (by simp[a8.l0])
   | succ k1 =>
    have H:=HA.out;clear HA;simp only[a8.l0]at H;by_cases c4:x5_1<(l0.length:Int)
    ·rw[if_pos c4]at H;have c4b0:decide (x5_1<(l0.length:Int))=true:=bW c4;clear c4;by_cases c5:0≤x5_1
     ·rw[if_pos c5]at H;have c5b0:decide (0≤x5_1)=true:=bW c5;clear c5;by_cases c6:x5_1<(l1.length:Int)
      ·rw[if_pos c6]at H;have c6b0:decide (x5_1<(l1.length:Int))=true:=bW c6;clear c6;replace H:=df H;obtain⟨t260,A7,H⟩:=H;by_cases c8:t260=true
       ·subst c8;have H1:(a8.l0 k1 l0 l1 (wrap64 (x5_1+1)))=some r:=by rw[if_pos rfl]at H;exact H
        clear H;have H:=H1;clear H1;have H':=ae H;clear H
        try go_wp2
        replace HB:=ae (bZ HB.out);have p258:0≤(x5_1:Int):=bN;have q258:x5_1<(l0.length:Int):=bN;obtain⟨ad258,e258,hx258_0,hx258_1,hx258_2,hx258_3,hx258_4,hx258_5⟩:=cx HR0.out x5_1 p258 q258;have hw258_5:=hx258_5;have hw258_4:=hx258_4;have hw258_3:=hx258_3;have hw258_2:=hx258_2;have hw258_1:=hx258_1;have hw258_0:=hx258_0;cases e258;replace hx258_0:=bg HB hx258_0;replace hx258_1:=bg HB hx258_1;replace hx258_2:=bg HB hx258_2;replace hx258_3:=bg HB hx258_3;replace hx258_4:=bg HB hx258_4;replace hx258_5:=bg HB hx258_5;replace p258:=eq_true p258;replace q258:=eq_true q258;have p259:0≤(x5_1:Int):=bN;have q259:x5_1<(l1.length:Int):=bN;obtain⟨ad259,e259,hx259_0,hx259_1,hx259_2,hx259_3,hx259_4,hx259_5⟩:=cx HR1.out x5_1 p259 q259;have hw259_5:=hx259_5;have hw259_4:=hx259_4;have hw259_3:=hx259_3;have hw259_2:=hx259_2;have hw259_1:=hx259_1;have hw259_0:=hx259_0;cases e259;replace hx259_0:=bg HB hx259_0;replace hx259_1:=bg HB hx259_1;replace hx259_2:=bg HB hx259_2;replace hx259_3:=bg HB hx259_3;replace hx259_4:=bg HB hx259_4;replace hx259_5:=bg HB hx259_5;replace p259:=eq_true p259;replace q259:=eq_true q259;refine dx (n:=10) (S:=fun w'=>w'.cell? (ad258.add ((x5_1).toNat*6))=some (.int .i64 ((ab l0 x5_1).f0))∧w'.cell? ⟨(ad258.add ((x5_1).toNat*6)).block,(ad258.add ((x5_1).toNat*6)).off+1,none⟩=some (.int .i64 ((ab l0 x5_1).f1))∧w'.cell? ⟨(ad258.add ((x5_1).toNat*6)).block,(ad258.add ((x5_1).toNat*6)).off+2,none⟩=some (.int .i64 ((ab l0 x5_1).f2))∧w'.cell? ⟨(ad258.add ((x5_1).toNat*6)).block,(ad258.add ((x5_1).toNat*6)).off+3,none⟩=some (.int .i64 ((ab l0 x5_1).f3))∧w'.cell? ⟨(ad258.add ((x5_1).toNat*6)).block,(ad258.add ((x5_1).toNat*6)).off+4,none⟩=some (.int .i64 ((ab l0 x5_1).f4))∧w'.cell? ⟨(ad258.add ((x5_1).toNat*6)).block,(ad258.add ((x5_1).toNat*6)).off+5,none⟩=some (.string ((ab l0 x5_1).f5))∧w'.cell? (ad259.add ((x5_1).toNat*6))=some (.int .i64 ((ab l1 x5_1).f0))∧w'.cell? ⟨(ad259.add ((x5_1).toNat*6)).block,(ad259.add ((x5_1).toNat*6)).off+1,none⟩=some (.int .i64 ((ab l1 x5_1).f1))∧w'.cell? ⟨(ad259.add ((x5_1).toNat*6)).block,(ad259.add ((x5_1).toNat*6)).off+2,none⟩=some (.int .i64 ((ab l1 x5_1).f2))∧w'.cell? ⟨(ad259.add ((x5_1).toNat*6)).block,(ad259.add ((x5_1).toNat*6)).off+3,none⟩=some (.int .i64 ((ab l1 x5_1).f3))∧w'.cell? ⟨(ad259.add ((x5_1).toNat*6)).block,(ad259.add ((x5_1).toNat*6)).off+4,none⟩=some (.int .i64 ((ab l1 x5_1).f4))∧w'.cell? ⟨(ad259.add ((x5_1).toNat*6)).block,(ad259.add ((x5_1).toNat*6)).off+5,none⟩=some (.string ((ab l1 x5_1).f5))) (ds:=[]) #[false,false,false,false,false,false,false,false,false,false] (by kernel_rfl) rfl rfl ⟨(bg HB hw258_0),(bg HB hw258_1),(bg HB hw258_2),(bg HB hw258_3),(bg HB hw258_4),(bg HB hw258_5),(bg HB hw259_0),(bg HB hw259_1),(bg HB hw259_2),(bg HB hw259_3),(bg HB hw259_4),(bg HB hw259_5)⟩ (fun hHeld=>?_);refine cT a8.jH a8.gE (fun HT_ HW_=>?_);generalize wr.drew=w9 at HB hx258_0 hx258_1 hx258_2 hx258_3 hx258_4 hx258_5 hx259_0 hx259_1 hx259_2 hx259_3 hx259_4 hx259_5 hHeld ⊢;refine pu (i:=0) (N:=some 17) (l':=#[true,false,false,false,false,false,false,false,false,false]) (a6 HT_.out (by kernel_rfl)) ?_;refine pu (i:=1) (N:=some 18) (l':=#[true,true,false,false,false,false,false,false,false,false]) (a6 HT_.out (by kernel_rfl)) ?_;refine pu (i:=2) (N:=some 19) (l':=#[true,true,true,false,false,false,false,false,false,false]) (a6 HT_.out (by kernel_rfl)) ?_;refine pu (i:=4) (N:=some 21) (l':=#[true,true,true,false,true,false,false,false,false,false]) (a6 HT_.out (by kernel_rfl)) ?_;refine pu (i:=5) (N:=some 22) (l':=#[true,true,true,false,true,true,false,false,false,false]) (a6 HT_.out (by kernel_rfl)) ?_;refine pu (i:=6) (N:=some 23) (l':=#[true,true,true,false,true,true,true,false,false,false]) (a6 HT_.out (by kernel_rfl)) ?_;refine cP (i:=3) (N:=some 20) (v:=?_) (a':=?_) #[true,true,true,true,true,true,true,false,false,false] rfl rfl (cq HT_.out HW_.out (by kernel_rfl)) (fun _ _ _ h=>h) (Or.inl ⟨by rfl,?_⟩) hHeld ?_ ?_;rotate_left
        ·rintro w' ⟨s0,s1,s2,s3,s4,s5,s6,s7,s8,s9,s10,s11⟩
         go_simp
         with_reducible rfl
        rotate_left
        ·simp only[Act.put,fH,fF,fG,b7,b8];rfl
        refine cP (i:=7) (N:=some 24) (v:=?_) (a':=?_) #[true,true,true,true,true,true,true,true,false,false] rfl rfl (cq HT_.out HW_.out (by kernel_rfl)) (fun _ _ _ h=>h) (Or.inl ⟨by rfl,?_⟩) hHeld ?_ ?_;rotate_left
        ·rintro w' ⟨s0,s1,s2,s3,s4,s5,s6,s7,s8,s9,s10,s11⟩
         go_simp
         with_reducible rfl
        rotate_left
        ·simp only[Act.put,fH,fF,fG,b7,b8];rfl
        refine ik (i:=8) (N:=some 25) (l':=#[true,true,true,true,true,true,true,true,true,false]) (dZ HT_.out (by kernel_rfl)) (fun K hK=>?_);refine kM Tryz.func126 #[.agg #[.int .i64 ((ab l0 x5_1).f0),.int .i64 ((ab l0 x5_1).f1),.int .i64 ((ab l0 x5_1).f2),.int .i64 ((ab l0 x5_1).f3),.int .i64 ((ab l0 x5_1).f4),.string ((ab l0 x5_1).f5)],.agg #[.int .i64 ((ab l1 x5_1).f0),.int .i64 ((ab l1 x5_1).f1),.int .i64 ((ab l1 x5_1).f2),.int .i64 ((ab l1 x5_1).f3),.int .i64 ((ab l1 x5_1).f4),.string ((ab l1 x5_1).f5)]] ?_
        with_reducible refine(dL.calls ((ab l0 x5_1).f0) ((ab l0 x5_1).f1) ((ab l0 x5_1).f2) ((ab l0 x5_1).f3) ((ab l0 x5_1).f4) ((ab l0 x5_1).f5) ((ab l1 x5_1).f0) ((ab l1 x5_1).f1) ((ab l1 x5_1).f2) ((ab l1 x5_1).f3) ((ab l1 x5_1).f4) ((ab l1 x5_1).f5) true _ A7.out).mono ?_
        rintro e w10 ⟨rfl,hb⟩;refine⟨_,rfl,?_⟩;replace HB:=ch hb
        (try clear hb)
        (try clear hb2)
        (try clear hk)
        (try clear hi)
        refine hK.out _ _ ⟨(bg HB hw258_0),(bg HB hw258_1),(bg HB hw258_2),(bg HB hw258_3),(bg HB hw258_4),(bg HB hw258_5),(bg HB hw259_0),(bg HB hw259_1),(bg HB hw259_2),(bg HB hw259_3),(bg HB hw259_4),(bg HB hw259_5)⟩ (fun hHeld=>?_);clear hK K;refine nm (some 25) ?_;refine pu (i:=9) (N:=some 26) (l':=#[true,true,true,true,true,true,true,true,true,true]) (a6 HT_.out (by kernel_rfl)) ?_;refine en (dK HT_.out (by kernel_rfl)) ?_
        try go_wp2
        go_roundg k1
        case measure=>have:=HK1.out;omega
        case rel=>exact⟨(wrap64 (x5_1+1)),(by first|rfl|(simp;done)|(simp[*];done)),H',⟨by have:=HK1.out;omega⟩,⟨bl⟩⟩
       ·replace c8:=eK c8;subst c8;have H1:(some false)=some r:=by rw[if_neg (show ¬(false=true) by decide)]at H;exact H
        clear H;have H:=H1;clear H1;obtain rfl:=bL H
        try go_wp2
        replace HB:=ae (bZ HB.out);have p258:0≤(x5_1:Int):=bN;have q258:x5_1<(l0.length:Int):=bN;obtain⟨ad258,e258,hx258_0,hx258_1,hx258_2,hx258_3,hx258_4,hx258_5⟩:=cx HR0.out x5_1 p258 q258;have hw258_5:=hx258_5;have hw258_4:=hx258_4;have hw258_3:=hx258_3;have hw258_2:=hx258_2;have hw258_1:=hx258_1;have hw258_0:=hx258_0;cases e258;replace hx258_0:=bg HB hx258_0;replace hx258_1:=bg HB hx258_1;replace hx258_2:=bg HB hx258_2;replace hx258_3:=bg HB hx258_3;replace hx258_4:=bg HB hx258_4;replace hx258_5:=bg HB hx258_5;replace p258:=eq_true p258;replace q258:=eq_true q258;have p259:0≤(x5_1:Int):=bN;have q259:x5_1<(l1.length:Int):=bN;obtain⟨ad259,e259,hx259_0,hx259_1,hx259_2,hx259_3,hx259_4,hx259_5⟩:=cx HR1.out x5_1 p259 q259;have hw259_5:=hx259_5;have hw259_4:=hx259_4;have hw259_3:=hx259_3;have hw259_2:=hx259_2;have hw259_1:=hx259_1;have hw259_0:=hx259_0;cases e259;replace hx259_0:=bg HB hx259_0;replace hx259_1:=bg HB hx259_1;replace hx259_2:=bg HB hx259_2;replace hx259_3:=bg HB hx259_3;replace hx259_4:=bg HB hx259_4;replace hx259_5:=bg HB hx259_5;replace p259:=eq_true p259;replace q259:=eq_true q259;refine dx (n:=10) (S:=fun w'=>w'.cell? (ad258.add ((x5_1).toNat*6))=some (.int .i64 ((ab l0 x5_1).f0))∧w'.cell? ⟨(ad258.add ((x5_1).toNat*6)).block,(ad258.add ((x5_1).toNat*6)).off+1,none⟩=some (.int .i64 ((ab l0 x5_1).f1))∧w'.cell? ⟨(ad258.add ((x5_1).toNat*6)).block,(ad258.add ((x5_1).toNat*6)).off+2,none⟩=some (.int .i64 ((ab l0 x5_1).f2))∧w'.cell? ⟨(ad258.add ((x5_1).toNat*6)).block,(ad258.add ((x5_1).toNat*6)).off+3,none⟩=some (.int .i64 ((ab l0 x5_1).f3))∧w'.cell? ⟨(ad258.add ((x5_1).toNat*6)).block,(ad258.add ((x5_1).toNat*6)).off+4,none⟩=some (.int .i64 ((ab l0 x5_1).f4))∧w'.cell? ⟨(ad258.add ((x5_1).toNat*6)).block,(ad258.add ((x5_1).toNat*6)).off+5,none⟩=some (.string ((ab l0 x5_1).f5))∧w'.cell? (ad259.add ((x5_1).toNat*6))=some (.int .i64 ((ab l1 x5_1).f0))∧w'.cell? ⟨(ad259.add ((x5_1).toNat*6)).block,(ad259.add ((x5_1).toNat*6)).off+1,none⟩=some (.int .i64 ((ab l1 x5_1).f1))∧w'.cell? ⟨(ad259.add ((x5_1).toNat*6)).block,(ad259.add ((x5_1).toNat*6)).off+2,none⟩=some (.int .i64 ((ab l1 x5_1).f2))∧w'.cell? ⟨(ad259.add ((x5_1).toNat*6)).block,(ad259.add ((x5_1).toNat*6)).off+3,none⟩=some (.int .i64 ((ab l1 x5_1).f3))∧w'.cell? ⟨(ad259.add ((x5_1).toNat*6)).block,(ad259.add ((x5_1).toNat*6)).off+4,none⟩=some (.int .i64 ((ab l1 x5_1).f4))∧w'.cell? ⟨(ad259.add ((x5_1).toNat*6)).block,(ad259.add ((x5_1).toNat*6)).off+5,none⟩=some (.string ((ab l1 x5_1).f5))) (ds:=[]) #[false,false,false,false,false,false,false,false,false,false] (by kernel_rfl) rfl rfl ⟨(bg HB hw258_0),(bg HB hw258_1),(bg HB hw258_2),(bg HB hw258_3),(bg HB hw258_4),(bg HB hw258_5),(bg HB hw259_0),(bg HB hw259_1),(bg HB hw259_2),(bg HB hw259_3),(bg HB hw259_4),(bg HB hw259_5)⟩ (fun hHeld=>?_);refine cT a8.jH a8.gE (fun HT_ HW_=>?_);generalize wr.drew=w11 at HB hx258_0 hx258_1 hx258_2 hx258_3 hx258_4 hx258_5 hx259_0 hx259_1 hx259_2 hx259_3 hx259_4 hx259_5 hHeld ⊢;refine pu (i:=0) (N:=some 17) (l':=#[true,false,false,false,false,false,false,false,false,false]) (a6 HT_.out (by kernel_rfl)) ?_;refine pu (i:=1) (N:=some 18) (l':=#[true,true,false,false,false,false,false,false,false,false]) (a6 HT_.out (by kernel_rfl)) ?_;refine pu (i:=2) (N:=some 19) (l':=#[true,true,true,false,false,false,false,false,false,false]) (a6 HT_.out (by kernel_rfl)) ?_;refine pu (i:=4) (N:=some 21) (l':=#[true,true,true,false,true,false,false,false,false,false]) (a6 HT_.out (by kernel_rfl)) ?_;refine pu (i:=5) (N:=some 22) (l':=#[true,true,true,false,true,true,false,false,false,false]) (a6 HT_.out (by kernel_rfl)) ?_;refine pu (i:=6) (N:=some 23) (l':=#[true,true,true,false,true,true,true,false,false,false]) (a6 HT_.out (by kernel_rfl)) ?_;refine cP (i:=3) (N:=some 20) (v:=?_) (a':=?_) #[true,true,true,true,true,true,true,false,false,false] rfl rfl (cq HT_.out HW_.out (by kernel_rfl)) (fun _ _ _ h=>h) (Or.inl ⟨by rfl,?_⟩) hHeld ?_ ?_;rotate_left
        ·rintro w' ⟨s0,s1,s2,s3,s4,s5,s6,s7,s8,s9,s10,s11⟩
         go_simp
         with_reducible rfl
        rotate_left
        ·simp only[Act.put,fH,fF,fG,b7,b8];rfl
        refine cP (i:=7) (N:=some 24) (v:=?_) (a':=?_) #[true,true,true,true,true,true,true,true,false,false] rfl rfl (cq HT_.out HW_.out (by kernel_rfl)) (fun _ _ _ h=>h) (Or.inl ⟨by rfl,?_⟩) hHeld ?_ ?_;rotate_left
        ·rintro w' ⟨s0,s1,s2,s3,s4,s5,s6,s7,s8,s9,s10,s11⟩
         go_simp
         with_reducible rfl
        rotate_left
        ·simp only[Act.put,fH,fF,fG,b7,b8];rfl
        refine ik (i:=8) (N:=some 25) (l':=#[true,true,true,true,true,true,true,true,true,false]) (dZ HT_.out (by kernel_rfl)) (fun K hK=>?_);refine kM Tryz.func126 #[.agg #[.int .i64 ((ab l0 x5_1).f0),.int .i64 ((ab l0 x5_1).f1),.int .i64 ((ab l0 x5_1).f2),.int .i64 ((ab l0 x5_1).f3),.int .i64 ((ab l0 x5_1).f4),.string ((ab l0 x5_1).f5)],.agg #[.int .i64 ((ab l1 x5_1).f0),.int .i64 ((ab l1 x5_1).f1),.int .i64 ((ab l1 x5_1).f2),.int .i64 ((ab l1 x5_1).f3),.int .i64 ((ab l1 x5_1).f4),.string ((ab l1 x5_1).f5)]] ?_
        with_reducible refine(dL.calls ((ab l0 x5_1).f0) ((ab l0 x5_1).f1) ((ab l0 x5_1).f2) ((ab l0 x5_1).f3) ((ab l0 x5_1).f4) ((ab l0 x5_1).f5) ((ab l1 x5_1).f0) ((ab l1 x5_1).f1) ((ab l1 x5_1).f2) ((ab l1 x5_1).f3) ((ab l1 x5_1).f4) ((ab l1 x5_1).f5) false _ A7.out).mono ?_
        rintro e w12 ⟨rfl,hb⟩;refine⟨_,rfl,?_⟩;replace HB:=ch hb
        (try clear hb)
        (try clear hb2)
        (try clear hk)
        (try clear hi)
        refine hK.out _ _ ⟨(bg HB hw258_0),(bg HB hw258_1),(bg HB hw258_2),(bg HB hw258_3),(bg HB hw258_4),(bg HB hw258_5),(bg HB hw259_0),(bg HB hw259_1),(bg HB hw259_2),(bg HB hw259_3),(bg HB hw259_4),(bg HB hw259_5)⟩ (fun hHeld=>?_);clear hK K;refine nm (some 25) ?_;refine pu (i:=9) (N:=some 26) (l':=#[true,true,true,true,true,true,true,true,true,true]) (a6 HT_.out (by kernel_rfl)) ?_;refine en (dK HT_.out (by kernel_rfl)) ?_
        try go_wp2
        go_ret;exact cu
      ·rw[if_neg c6]at H;exact absurd H (by simp)
     ·rw[if_neg c5]at H;exact absurd H (by simp)
    ·rw[if_neg c4]at H;have c4b0:decide (x5_1<(l0.length:Int))=false:=b5 c4;clear c4;obtain rfl:=bL H;go_wp2;go_ret;exact cu
 ·rw[if_neg c3]at H;have c3b0:((l0.length:Int)==(l1.length:Int))=false:=di c3;have c3b1:((l0.length:Int) !=(l1.length:Int))=true:=ee c3;have c3b2:(l0.length==l1.length)=false:=by first|simpa using c3|(simp at c3 ⊢;omega)
  obtain rfl:=bL H;go_enter Tryz.func113,Tryz.ntmps113;go_wp2;go_ret;exact cu
def cj.f (k:Nat) (a0_0:ByteArray) (l0_1:List (cw)) (a1_0:ByteArray) (l1_1:List (cw)):Option (Bool):=if a0_0.toList=a1_0.toList then((a8.f k l0_1 l1_1).bind fun t263=>(if t263=true then(some true)else(some false)))else(some false)
theorem cj.mono:∀a0 a1 a2 a3 k,bd (cj.f k a0 a1 a2 a3) (cj.f (k+1) a0 a1 a2 a3):=by
 intro a0 a1 a2 a3 k;unfold cj.f
 repeat' with_reducible first|exact a8.mono _ _ _|exact bd.refl _|exact bd.none _|refine bd.ite ?_ ?_|refine bd.bind ?_ (fun _=>?_)
theorem cj.calls (k:Nat) (a0_0:ByteArray) (A0_1:Option Addr) (c0_1:Nat) (l0_1:List (cw)) (a1_0:ByteArray) (A1_1:Option Addr) (c1_1:Nat) (l1_1:List (cw)) (r:Bool) (w:World) (hr0_1:Kd.C eR w A0_1 l0_1.length l0_1) (hc0_1:l0_1.length≤c0_1) (hr1_1:Kd.C eR w A1_1 l1_1.length l1_1) (hc1_1:l1_1.length≤c1_1) (h:cj.f k a0_0 l0_1 a1_0 l1_1=some r) :
  Calls Tryz.prog 92 #[.agg #[.string a0_0,.slice A0_1 l0_1.length c0_1],.agg #[.string a1_0,.slice A1_1 l1_1.length c1_1]] w fun e w'=>e=.returned (.bool r)∧Below w.heap.size w w':=by
 have hu52:=Tryz.underlying52;have HR0_1:=ae hr0_1;have HC0_1:=ae hc0_1;clear hr0_1 hc0_1;have HR1_1:=ae hr1_1;have HC1_1:=ae hc1_1;clear hr1_1 hc1_1;have HB:=ae (Below.refl w.heap.size w);have H:(if a0_0.toList=a1_0.toList then((a8.f k l0_1 l1_1).bind fun t263=>(if t263=true then(some true)else(some false)))else(some false))=some r:=h;clear h;by_cases c3:a0_0.toList=a1_0.toList
 ·rw[if_pos c3]at H;have c3b0:(a0_0.toList==a1_0.toList)=true:=dX c3;have c3b1:(a0_0.toList !=a1_0.toList)=false:=ed c3;clear c3;replace H:=df H;obtain⟨t263,A4,H⟩:=H;by_cases c5:t263=true
  ·subst c5;have H1:(some true)=some r:=by rw[if_pos rfl]at H;exact H
   clear H;have H:=H1;clear H1;obtain rfl:=bL H;go_enter Tryz.func92,Tryz.ntmps92;go_wp2_with (first|((with_reducible refine al (N:=2) rfl ?_);refine dG 2 #[.string a0_0,.slice A0_1 l0_1.length c0_1] 52 ?_;intro gb261 hg w6 hbox hb;have BK261:=ae (hbox);have GW261:=db hg;have GE261:=db hg;replace HB:=ch hb;clear hb hbox hg)|((with_reducible refine al (N:=3) rfl ?_);refine dG 3 #[.string a1_0,.slice A1_1 l1_1.length c1_1] 52 ?_;intro gb262 hg w7 hbox hb;have BK262:=ae (hbox);have GW262:=db hg;have GE262:=db hg;replace HB:=ch hb;have NB261_262:=ae ((by rw[hg];exact Nat.ne_of_lt (bD (g:=gb261) (o:=.cells #[.string a0_0,.slice A0_1 l0_1.length c0_1] 52 (0,0)) (bk BK261)):gb261≠gb262));have NB262_261:=ae ((by rw[hg];exact Nat.ne_of_gt (bD (g:=gb261) (o:=.cells #[.string a0_0,.slice A0_1 l0_1.length c0_1] 52 (0,0)) (bk BK261)):gb262≠gb261));replace BK261:=dW BK261 hb;clear hb hbox hg;have hnb8:=NB261_262.out;have hnc8:=NB262_261.out;obtain⟨z9_0,z9_1,y9_0,y9_1⟩:=eU BK261.out;obtain⟨z10_0,z10_1,y10_0,y10_1⟩:=eU BK262.out)|((with_reducible refine ai (f:=113) rfl ?_);refine dm (some 14) Tryz.func113 #[.slice A0_1 l0_1.length c0_1,.slice A1_1 l1_1.length c1_1] ?_;(with_reducible refine(a8.calls k _ _ l0_1 _ _ l1_1 true _ ?side1 ?side2 ?side3 ?side4 A4.out).mono ?_);(case side1=>exact fA (Kd.bH HR0_1.out HB.out));(case side2=>exact HC0_1.out);(case side3=>exact fA (Kd.bH HR1_1.out HB.out));(case side4=>exact HC1_1.out);rintro e w11 ⟨rfl,hb⟩;refine⟨_,rfl,?_⟩;replace BK261:=dW BK261 hb;replace BK262:=dW BK262 hb;replace HB:=ch hb));go_ret;exact cu
  ·replace c5:=eK c5;subst c5;have H1:(some false)=some r:=by rw[if_neg (show ¬(false=true) by decide)]at H;exact H
   clear H;have H:=H1;clear H1;obtain rfl:=bL H;go_enter Tryz.func92,Tryz.ntmps92;go_wp2_with (first|((with_reducible refine al (N:=2) rfl ?_);refine dG 2 #[.string a0_0,.slice A0_1 l0_1.length c0_1] 52 ?_;intro gb261 hg w12 hbox hb;have BK261:=ae (hbox);have GW261:=db hg;have GE261:=db hg;replace HB:=ch hb;clear hb hbox hg)|((with_reducible refine al (N:=3) rfl ?_);refine dG 3 #[.string a1_0,.slice A1_1 l1_1.length c1_1] 52 ?_;intro gb262 hg w13 hbox hb;have BK262:=ae (hbox);have GW262:=db hg;have GE262:=db hg;replace HB:=ch hb;have NB261_262:=ae ((by rw[hg];exact Nat.ne_of_lt (bD (g:=gb261) (o:=.cells #[.string a0_0,.slice A0_1 l0_1.length c0_1] 52 (0,0)) (bk BK261)):gb261≠gb262));have NB262_261:=ae ((by rw[hg];exact Nat.ne_of_gt (bD (g:=gb261) (o:=.cells #[.string a0_0,.slice A0_1 l0_1.length c0_1] 52 (0,0)) (bk BK261)):gb262≠gb261));replace BK261:=dW BK261 hb;clear hb hbox hg;have hnb14:=NB261_262.out;have hnc14:=NB262_261.out;obtain⟨z15_0,z15_1,y15_0,y15_1⟩:=eU BK261.out;obtain⟨z16_0,z16_1,y16_0,y16_1⟩:=eU BK262.out)|((with_reducible refine ai (f:=113) rfl ?_);refine dm (some 14) Tryz.func113 #[.slice A0_1 l0_1.length c0_1,.slice A1_1 l1_1.length c1_1] ?_;(with_reducible refine(a8.calls k _ _ l0_1 _ _ l1_1 false _ ?side1 ?side2 ?side3 ?side4 A4.out).mono ?_);(case side1=>exact fA (Kd.bH HR0_1.out HB.out));(case side2=>exact HC0_1.out);(case side3=>exact fA (Kd.bH HR1_1.out HB.out));(case side4=>exact HC1_1.out);rintro e w17 ⟨rfl,hb⟩;refine⟨_,rfl,?_⟩;replace BK261:=dW BK261 hb;replace BK262:=dW BK262 hb;replace HB:=ch hb));go_ret;exact cu
 ·rw[if_neg c3]at H;have c3b0:(a0_0.toList==a1_0.toList)=false:=di c3;have c3b1:(a0_0.toList !=a1_0.toList)=true:=ee c3;obtain rfl:=bL H;go_enter Tryz.func92,Tryz.ntmps92;go_wp2_with (first|((with_reducible refine al (N:=2) rfl ?_);refine dG 2 #[.string a0_0,.slice A0_1 l0_1.length c0_1] 52 ?_;intro gb261 hg w18 hbox hb;have BK261:=ae (hbox);have GW261:=db hg;have GE261:=db hg;replace HB:=ch hb;clear hb hbox hg)|((with_reducible refine al (N:=3) rfl ?_);refine dG 3 #[.string a1_0,.slice A1_1 l1_1.length c1_1] 52 ?_;intro gb262 hg w19 hbox hb;have BK262:=ae (hbox);have GW262:=db hg;have GE262:=db hg;replace HB:=ch hb;have NB261_262:=ae ((by rw[hg];exact Nat.ne_of_lt (bD (g:=gb261) (o:=.cells #[.string a0_0,.slice A0_1 l0_1.length c0_1] 52 (0,0)) (bk BK261)):gb261≠gb262));have NB262_261:=ae ((by rw[hg];exact Nat.ne_of_gt (bD (g:=gb261) (o:=.cells #[.string a0_0,.slice A0_1 l0_1.length c0_1] 52 (0,0)) (bk BK261)):gb262≠gb261));replace BK261:=dW BK261 hb;clear hb hbox hg;have hnb20:=NB261_262.out;have hnc20:=NB262_261.out;obtain⟨z21_0,z21_1,y21_0,y21_1⟩:=eU BK261.out;obtain⟨z22_0,z22_1,y22_0,y22_1⟩:=eU BK262.out));go_ret;exact cu
def aY.l0:Nat→List (cW)→List (cW)→Int→Option (Bool)
 | 0,_,_,_=>none
 | k+1,x0,x1,x5=>if x5<(x0.length:Int)then(if 0≤x5 then(if x5<(x1.length:Int)then((cj.f k ((aq x0 x5).f0) ((aq x0 x5).f1) ((aq x1 x5).f0) ((aq x1 x5).f1)).bind fun t266=>(if t266=true then(aY.l0 k x0 x1 (wrap64 (x5+1)))else(some false)))else(none))else(none))else(some true)
def aY.f (k:Nat) (l0:List (cW)) (l1:List (cW)):Option (Bool):=if (l0.length:Int)=(l1.length:Int)then(aY.l0 k l0 l1 0)else(some false)
theorem aY.bs:∀k,(∀y0 y1 y2,bd (aY.l0 k y0 y1 y2) (aY.l0 (k+1) y0 y1 y2))
 | 0=>fun _ _ _ r h=>by simp[aY.l0]at h
 | k+1=>by
  have ih0:=aY.bs k
  ·intro y0 y1 y2;unfold aY.l0
   repeat' with_reducible first|exact ih0 _ _ _|exact cj.mono _ _ _ _ _|exact bd.refl _|exact bd.none _|refine bd.ite ?_ ?_|refine bd.bind ?_ (fun _=>?_)
theorem aY.mono:∀a0 a1 k,bd (aY.f k a0 a1) (aY.f (k+1) a0 a1):=by
 intro a0 a1 k;have ih0:=aY.bs k;unfold aY.f
 repeat' with_reducible first|exact ih0 _ _ _|exact cj.mono _ _ _ _ _|exact bd.refl _|exact bd.none _|refine bd.ite ?_ ?_|refine bd.bind ?_ (fun _=>?_)
def aY.T6:Bool×List (List Nat×List Nat):=(true,[([],[]),([],[]),([0,1],[0,1]),([2],[2]),([],[]),([],[]),([4,5],[4,5]),([6],[6]),([3,7],[3,7]),([8],[8])])
def aY.B6:List Nat:=[0,0,3,7,0,0,48,112,255,511]
theorem aY.jH:eY .any (opsOf Tryz.f56 6)=aY.T6:=by kernel_rfl
theorem aY.gE:eQ aY.T6.2 aY.B6=true:=by kernel_rfl
theorem aY.calls (k:Nat) (A0:Option Addr) (c0:Nat) (l0:List (cW)) (A1:Option Addr) (c1:Nat) (l1:List (cW)) (r:Bool) (w:World) (hr0:Kd.C fN w A0 l0.length l0) (hc0:l0.length≤c0) (hr1:Kd.C fN w A1 l1.length l1) (hc1:l1.length≤c1) (h:aY.f k l0 l1=some r) :
  Calls Tryz.prog 56 #[.slice A0 l0.length c0,.slice A1 l1.length c1] w fun e w'=>e=.returned (.bool r)∧Below w.heap.size w w':=by
 have hu52:=Tryz.underlying52;have HR0:=ae hr0;have HC0:=ae hc0;clear hr0 hc0;have HR1:=ae hr1;have HC1:=ae hc1;clear hr1 hc1;have HB:=ae (Below.refl w.heap.size w);have H:(if (l0.length:Int)=(l1.length:Int)then(aY.l0 k l0 l1 0)else(some false))=some r:=h;clear h;by_cases c3:(l0.length:Int)=(l1.length:Int)
 ·rw[if_pos c3]at H;have c3b0:((l0.length:Int)==(l1.length:Int))=true:=dX c3;have c3b1:((l0.length:Int) !=(l1.length:Int))=false:=ed c3;have c3b2:(l0.length==l1.length)=true:=by first|simpa using c3|(simp at c3 ⊢;omega)
  clear c3;have H':=ae H;clear H;go_enter Tryz.func56,Tryz.ntmps56;go_wp2
  go_loopg [5] k (fun kq v5 w'=>∃(x5_1:Int),v5=.int .i64 x5_1∧Aside0 (aY.l0 kq l0 l1 x5_1=some r)∧Aside0 (kq≤k)∧Aside0 (Below w.heap.size w w'))
  case atStart=>exact⟨(0),(by first|rfl|(simp;done)|(simp[*];done)),H',⟨Nat.le_refl _⟩,⟨bl⟩⟩
  case round =>
   clear H';obtain⟨x5_1,rfl,HA,HK1,HB⟩:=hrel
   cases gk with
   | zero=>exact absurd HA.out (by simp[aY.l0])
   | succ k1 =>
    have H:=HA.out;clear HA;simp only[aY.l0]at H;by_cases c4:x5_1<(l0.length:Int)
    ·rw[if_pos c4]at H;have c4b0:decide (x5_1<(l0.length:Int))=true:=bW c4;clear c4;by_cases c5:0≤x5_1
     ·rw[if_pos c5]at H;have c5b0:decide (0≤x5_1)=true:=bW c5;clear c5;by_cases c6:x5_1<(l1.length:Int)
      ·rw[if_pos c6]at H;have c6b0:decide (x5_1<(l1.length:Int))=true:=bW c6;clear c6;replace H:=df H;obtain⟨t266,A7,H⟩:=H;by_cases c8:t266=true
       ·subst c8;have H1:(aY.l0 k1 l0 l1 (wrap64 (x5_1+1)))=some r:=by rw[if_pos rfl]at H;exact H
        clear H;have H:=H1;clear H1;have H':=ae H;clear H
        try go_wp2
        replace HB:=ae (bZ HB.out);have p264:0≤(x5_1:Int):=bN;have q264:x5_1<(l0.length:Int):=bN;obtain⟨ad264,A264_1,c264_1,e264,hx264_0,hx264_1,hl264_1,hi264_1⟩:=dC HR0.out x5_1 p264 q264;have hw264_1:=hx264_1;have hw264_0:=hx264_0;cases e264;replace hx264_0:=bg HB hx264_0;replace hx264_1:=bg HB hx264_1;have HR264_1:=ae hi264_1;have HC264_1:=ae hl264_1;clear hi264_1 hl264_1;replace p264:=eq_true p264;replace q264:=eq_true q264;have p265:0≤(x5_1:Int):=bN;have q265:x5_1<(l1.length:Int):=bN;obtain⟨ad265,A265_1,c265_1,e265,hx265_0,hx265_1,hl265_1,hi265_1⟩:=dC HR1.out x5_1 p265 q265;have hw265_1:=hx265_1;have hw265_0:=hx265_0;cases e265;replace hx265_0:=bg HB hx265_0;replace hx265_1:=bg HB hx265_1;have HR265_1:=ae hi265_1;have HC265_1:=ae hl265_1;clear hi265_1 hl265_1;replace p265:=eq_true p265;replace q265:=eq_true q265;refine dx (n:=10) (S:=fun w'=>w'.cell? (ad264.add ((x5_1).toNat*2))=some (.string ((aq l0 x5_1).f0))∧w'.cell? ⟨(ad264.add ((x5_1).toNat*2)).block,(ad264.add ((x5_1).toNat*2)).off+1,none⟩=some (.slice A264_1 ((aq l0 x5_1).f1).length c264_1)∧w'.cell? (ad265.add ((x5_1).toNat*2))=some (.string ((aq l1 x5_1).f0))∧w'.cell? ⟨(ad265.add ((x5_1).toNat*2)).block,(ad265.add ((x5_1).toNat*2)).off+1,none⟩=some (.slice A265_1 ((aq l1 x5_1).f1).length c265_1)) (ds:=[]) #[false,false,false,false,false,false,false,false,false,false] (by kernel_rfl) rfl rfl ⟨(bg HB hw264_0),(bg HB hw264_1),(bg HB hw265_0),(bg HB hw265_1)⟩ (fun hHeld=>?_);refine cT aY.jH aY.gE (fun HT_ HW_=>?_);generalize wr.drew=w9 at HB HR264_1 HR265_1 hx264_0 hx264_1 hx265_0 hx265_1 hHeld ⊢;refine pu (i:=0) (N:=some 17) (l':=#[true,false,false,false,false,false,false,false,false,false]) (a6 HT_.out (by kernel_rfl)) ?_;refine pu (i:=1) (N:=some 18) (l':=#[true,true,false,false,false,false,false,false,false,false]) (a6 HT_.out (by kernel_rfl)) ?_;refine pu (i:=2) (N:=some 19) (l':=#[true,true,true,false,false,false,false,false,false,false]) (a6 HT_.out (by kernel_rfl)) ?_;refine pu (i:=4) (N:=some 21) (l':=#[true,true,true,false,true,false,false,false,false,false]) (a6 HT_.out (by kernel_rfl)) ?_;refine pu (i:=5) (N:=some 22) (l':=#[true,true,true,false,true,true,false,false,false,false]) (a6 HT_.out (by kernel_rfl)) ?_;refine pu (i:=6) (N:=some 23) (l':=#[true,true,true,false,true,true,true,false,false,false]) (a6 HT_.out (by kernel_rfl)) ?_;refine cP (i:=3) (N:=some 20) (v:=?_) (a':=?_) #[true,true,true,true,true,true,true,false,false,false] rfl rfl (cq HT_.out HW_.out (by kernel_rfl)) (fun _ _ _ h=>h) (Or.inl ⟨by rfl,?_⟩) hHeld ?_ ?_;rotate_left
        ·rintro w' ⟨s0,s1,s2,s3⟩
         go_simp
         with_reducible rfl
        rotate_left
        ·simp only[Act.put,fH,fF,fG,b7,b8];rfl
        refine cP (i:=7) (N:=some 24) (v:=?_) (a':=?_) #[true,true,true,true,true,true,true,true,false,false] rfl rfl (cq HT_.out HW_.out (by kernel_rfl)) (fun _ _ _ h=>h) (Or.inl ⟨by rfl,?_⟩) hHeld ?_ ?_;rotate_left
        ·rintro w' ⟨s0,s1,s2,s3⟩
         go_simp
         with_reducible rfl
        rotate_left
        ·simp only[Act.put,fH,fF,fG,b7,b8];rfl
        refine ik (i:=8) (N:=some 25) (l':=#[true,true,true,true,true,true,true,true,true,false]) (dZ HT_.out (by kernel_rfl)) (fun K hK=>?_);refine kM Tryz.func92 #[.agg #[.string ((aq l0 x5_1).f0),.slice A264_1 ((aq l0 x5_1).f1).length c264_1],.agg #[.string ((aq l1 x5_1).f0),.slice A265_1 ((aq l1 x5_1).f1).length c265_1]] ?_
        with_reducible refine(cj.calls k1 ((aq l0 x5_1).f0) _ _ ((aq l0 x5_1).f1) ((aq l1 x5_1).f0) _ _ ((aq l1 x5_1).f1) true _ ?side1 ?side2 ?side3 ?side4 A7.out).mono ?_
        (case side1=>exact fA (Kd.bH HR264_1.out HB.out))
        (case side2=>exact HC264_1.out)
        (case side3=>exact fA (Kd.bH HR265_1.out HB.out))
        (case side4=>exact HC265_1.out)
        rintro e w10 ⟨rfl,hb⟩;refine⟨_,rfl,?_⟩;replace HB:=ch hb
        (try clear hb)
        (try clear hb2)
        (try clear hk)
        (try clear hi)
        refine hK.out _ _ ⟨(bg HB hw264_0),(bg HB hw264_1),(bg HB hw265_0),(bg HB hw265_1)⟩ (fun hHeld=>?_);clear hK K;refine nm (some 25) ?_;refine pu (i:=9) (N:=some 26) (l':=#[true,true,true,true,true,true,true,true,true,true]) (a6 HT_.out (by kernel_rfl)) ?_;refine en (dK HT_.out (by kernel_rfl)) ?_
        try go_wp2
        go_roundg k1
        case measure=>have:=HK1.out;omega
        case rel=>exact⟨(wrap64 (x5_1+1)),(by first|rfl|(simp;done)|(simp[*];done)),H',⟨by have:=HK1.out;omega⟩,⟨bl⟩⟩
       ·replace c8:=eK c8;subst c8;have H1:(some false)=some r:=by rw[if_neg (show ¬(false=true) by decide)]at H;exact H
        clear H;have H:=H1;clear H1;obtain rfl:=bL H
        try go_wp2
        replace HB:=ae (bZ HB.out);have p264:0≤(x5_1:Int):=bN;have q264:x5_1<(l0.length:Int):=bN;obtain⟨ad264,A264_1,c264_1,e264,hx264_0,hx264_1,hl264_1,hi264_1⟩:=dC HR0.out x5_1 p264 q264;have hw264_1:=hx264_1;have hw264_0:=hx264_0;cases e264;replace hx264_0:=bg HB hx264_0;replace hx264_1:=bg HB hx264_1;have HR264_1:=ae hi264_1;have HC264_1:=ae hl264_1;clear hi264_1 hl264_1;replace p264:=eq_true p264;replace q264:=eq_true q264;have p265:0≤(x5_1:Int):=bN;have q265:x5_1<(l1.length:Int):=bN;obtain⟨ad265,A265_1,c265_1,e265,hx265_0,hx265_1,hl265_1,hi265_1⟩:=dC HR1.out x5_1 p265 q265;have hw265_1:=hx265_1;have hw265_0:=hx265_0;cases e265;replace hx265_0:=bg HB hx265_0;replace hx265_1:=bg HB hx265_1;have HR265_1:=ae hi265_1;have HC265_1:=ae hl265_1;clear hi265_1 hl265_1;replace p265:=eq_true p265;replace q265:=eq_true q265;refine dx (n:=10) (S:=fun w'=>w'.cell? (ad264.add ((x5_1).toNat*2))=some (.string ((aq l0 x5_1).f0))∧w'.cell? ⟨(ad264.add ((x5_1).toNat*2)).block,(ad264.add ((x5_1).toNat*2)).off+1,none⟩=some (.slice A264_1 ((aq l0 x5_1).f1).length c264_1)∧w'.cell? (ad265.add ((x5_1).toNat*2))=some (.string ((aq l1 x5_1).f0))∧w'.cell? ⟨(ad265.add ((x5_1).toNat*2)).block,(ad265.add ((x5_1).toNat*2)).off+1,none⟩=some (.slice A265_1 ((aq l1 x5_1).f1).length c265_1)) (ds:=[]) #[false,false,false,false,false,false,false,false,false,false] (by kernel_rfl) rfl rfl ⟨(bg HB hw264_0),(bg HB hw264_1),(bg HB hw265_0),(bg HB hw265_1)⟩ (fun hHeld=>?_);refine cT aY.jH aY.gE (fun HT_ HW_=>?_);generalize wr.drew=w11 at HB HR264_1 HR265_1 hx264_0 hx264_1 hx265_0 hx265_1 hHeld ⊢;refine pu (i:=0) (N:=some 17) (l':=#[true,false,false,false,false,false,false,false,false,false]) (a6 HT_.out (by kernel_rfl)) ?_;refine pu (i:=1) (N:=some 18) (l':=#[true,true,false,false,false,false,false,false,false,false]) (a6 HT_.out (by kernel_rfl)) ?_;refine pu (i:=2) (N:=some 19) (l':=#[true,true,true,false,false,false,false,false,false,false]) (a6 HT_.out (by kernel_rfl)) ?_;refine pu (i:=4) (N:=some 21) (l':=#[true,true,true,false,true,false,false,false,false,false]) (a6 HT_.out (by kernel_rfl)) ?_;refine pu (i:=5) (N:=some 22) (l':=#[true,true,true,false,true,true,false,false,false,false]) (a6 HT_.out (by kernel_rfl)) ?_;refine pu (i:=6) (N:=some 23) (l':=#[true,true,true,false,true,true,true,false,false,false]) (a6 HT_.out (by kernel_rfl)) ?_;refine cP (i:=3) (N:=some 20) (v:=?_) (a':=?_) #[true,true,true,true,true,true,true,false,false,false] rfl rfl (cq HT_.out HW_.out (by kernel_rfl)) (fun _ _ _ h=>h) (Or.inl ⟨by rfl,?_⟩) hHeld ?_ ?_;rotate_left
        ·rintro w' ⟨s0,s1,s2,s3⟩
         go_simp
         with_reducible rfl
        rotate_left
        ·simp only[Act.put,fH,fF,fG,b7,b8];rfl
        refine cP (i:=7) (N:=some 24) (v:=?_) (a':=?_) #[true,true,true,true,true,true,true,true,false,false] rfl rfl (cq HT_.out HW_.out (by kernel_rfl)) (fun _ _ _ h=>h) (Or.inl ⟨by rfl,?_⟩) hHeld ?_ ?_;rotate_left
        ·rintro w' ⟨s0,s1,s2,s3⟩
         go_simp
         with_reducible rfl
        rotate_left
        ·simp only[Act.put,fH,fF,fG,b7,b8];rfl
        refine ik (i:=8) (N:=some 25) (l':=#[true,true,true,true,true,true,true,true,true,false]) (dZ HT_.out (by kernel_rfl)) (fun K hK=>?_);refine kM Tryz.func92 #[.agg #[.string ((aq l0 x5_1).f0),.slice A264_1 ((aq l0 x5_1).f1).length c264_1],.agg #[.string ((aq l1 x5_1).f0),.slice A265_1 ((aq l1 x5_1).f1).length c265_1]] ?_
        with_reducible refine(cj.calls k1 ((aq l0 x5_1).f0) _ _ ((aq l0 x5_1).f1) ((aq l1 x5_1).f0) _ _ ((aq l1 x5_1).f1) false _ ?side1 ?side2 ?side3 ?side4 A7.out).mono ?_
        (case side1=>exact fA (Kd.bH HR264_1.out HB.out))
        (case side2=>exact HC264_1.out)
        (case side3=>exact fA (Kd.bH HR265_1.out HB.out))
        (case side4=>exact HC265_1.out)
        rintro e w12 ⟨rfl,hb⟩;refine⟨_,rfl,?_⟩;replace HB:=ch hb
        (try clear hb)
        (try clear hb2)
        (try clear hk)
        (try clear hi)
        refine hK.out _ _ ⟨(bg HB hw264_0),(bg HB hw264_1),(bg HB hw265_0),(bg HB hw265_1)⟩ (fun hHeld=>?_);clear hK K;refine nm (some 25) ?_;refine pu (i:=9) (N:=some 26) (l':=#[true,true,true,true,true,true,true,true,true,true]) (a6 HT_.out (by kernel_rfl)) ?_;refine en (dK HT_.out (by kernel_rfl)) ?_
        try go_wp2
        go_ret;exact cu
      ·rw[if_neg c6]at H;exact absurd H (by simp)
     ·rw[if_neg c5]at H;exact absurd H (by simp)
    ·rw[if_neg c4]at H;have c4b0:decide (x5_1<(l0.length:Int))=false:=b5 c4;clear c4;obtain rfl:=bL H;go_wp2;go_ret;exact cu
 ·rw[if_neg c3]at H;have c3b0:((l0.length:Int)==(l1.length:Int))=false:=di c3;have c3b1:((l0.length:Int) !=(l1.length:Int))=true:=ee c3;have c3b2:(l0.length==l1.length)=false:=by first|simpa using c3|(simp at c3 ⊢;omega)
  obtain rfl:=bL H;go_enter Tryz.func56,Tryz.ntmps56;go_wp2;go_ret;exact cu
end Go.Proofs.YtmipaoobkjppdaaGreatDoor.QFnExactParseLibrary
