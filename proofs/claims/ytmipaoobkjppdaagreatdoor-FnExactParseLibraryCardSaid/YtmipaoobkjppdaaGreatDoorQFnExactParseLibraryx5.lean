import Derived.Test.YtmipaoobkjppdaaGreatDoorQFnExactParseLibraryx2
set_option maxHeartbeats 8000000
set_option maxRecDepth 100000
namespace Go.Proofs.YtmipaoobkjppdaaGreatDoor.QFnExactParseLibrary
open Go.RowKit Go.Proofs.YtmipaoobkjppdaaGreatDoorW 
open PrintWords PrintLast PrintMore
attribute [local go_sem] cA cB cX cY cd cf cD cG
set_option linter.unusedVariables false
set_option linter.unusedSimpArgs false
def bo.l0:Nat→ByteArray→Int→List ByteArray→Int→Int→Option (List ByteArray)
 | 0,_,_,_,_,_=>none
 | k+1,x0,x1,x5,x6,x7=>if x7≤(x0.size:Int)then(if x7=(x0.size:Int)then(if 0≤x6 then(if x6≤x7 then(if x5.length<8796093022208 then(bo.l0 k x0 x1 (x5++[x0.extract (x6:Int).toNat (x7:Int).toNat]) (wrap64 (x7+1)) (wrap64 (x7+1)))else(none))else(none))else(none))else(if 0≤x7 then(if x7<(x0.size:Int)then(if (bt x0 x7)=x1 then(if 0≤x6 then(if x6≤x7 then(if x5.length<8796093022208 then(bo.l0 k x0 x1 (x5++[x0.extract (x6:Int).toNat (x7:Int).toNat]) (wrap64 (x7+1)) (wrap64 (x7+1)))else(none))else(none))else(none))else(bo.l0 k x0 x1 x5 x6 (wrap64 (x7+1))))else(none))else(none)))else(some x5)
def bo.f (k:Nat) (a0:ByteArray) (a1:Int):Option (List ByteArray):=bo.l0 k a0 a1 (([]:List ByteArray)) 0 0
theorem bo.bs:∀k,(∀y0 y1 y2 y3 y4,bd (bo.l0 k y0 y1 y2 y3 y4) (bo.l0 (k+1) y0 y1 y2 y3 y4))
 | 0=>fun _ _ _ _ _ r h=>by simp[bo.l0]at h
 | k+1=>by
  have ih0:=bo.bs k
  ·intro y0 y1 y2 y3 y4;unfold bo.l0
   repeat' with_reducible first|exact ih0 _ _ _ _ _|exact bd.refl _|exact bd.none _|refine bd.ite ?_ ?_|refine bd.bind ?_ (fun _=>?_)
theorem bo.mono:∀a0 a1 k,bd (bo.f k a0 a1) (bo.f (k+1) a0 a1):=by
 intro a0 a1 k;have ih0:=bo.bs k;unfold bo.f
 repeat' with_reducible first|exact ih0 _ _ _ _ _|exact bd.refl _|exact bd.none _|refine bd.ite ?_ ?_|refine bd.bind ?_ (fun _=>?_)
theorem bo.calls (k:Nat) (a0:ByteArray) (a1:Int) (r:List ByteArray) (w:World) (h:bo.f k a0 a1=some r) :
  Calls Tryz.prog 21 #[.string a0,.int .u8 a1] w fun e w'=>∃v0_:Value,e=.returned (v0_)∧Kd.R Kd.string 9 w' w.heap.size (fun _=>True) v0_ r∧Below w.heap.size w w':=by
 have HB:=ae (Below.refl w.heap.size w);have H:(bo.l0 k a0 a1 (([]:List ByteArray)) 0 0)=some r:=h;clear h;obtain⟨y145,hy145⟩:∃y_:List ByteArray,y_=(([]:List ByteArray)):=⟨_,rfl⟩;replace H:(bo.l0 k a0 a1 y145 0 0)=some r:=by first|(rw[hy145];with_reducible exact H)|(have H2_:=(Option.bind_some _ _).symm.trans H;rw[hy145];with_reducible exact H2_)|(have H2_:=(Option.bind_some _ _).symm.trans H;with_reducible exact H2_)|with_reducible exact H|(rw[hy145];exact H)|exact H
 have Ny145:=ae hy145;clear hy145;have H':=ae H;clear H;go_enter Tryz.func21,Tryz.ntmps21;go_wp2_with (first|((with_reducible refine al (N:=8) rfl ?_);refine Kd.dt Kd.string _ 9 ?hg (N:=8) ?hd (xs:=([]:List ByteArray)) (inner:=[]) (ok:=fun _=>True) (okp:=fun _=>True) ?hr ?hp (fun _ hk=>hk) trivial (Below.refl _ _) (Nat.le_refl _) (by simp) ?_;(case hd=>rfl);(case hg=>rfl);(case hr=>first|(go_simp;done)|(go_simp;rfl));(case hp=>exact(b3.none _ _));intro v146 w3 ho4 hb hg_ hnew_;clear hg_ hnew_;(first|rw[←Ny145.out]at ho4|(simp only[Int.reduceToNat]at ho4;rw[←Ny145.out]at ho4));have HO147:=ae (Kd.fu ho4 (aK bl));replace HB:=ch hb;clear hb ho4))
 go_loopg [5,6,7] k (fun kq v5 v6 v7 w'=>∃(x5_1:List ByteArray) (x6_1:Int) (x7_1:Int),v6=.int .i64 x6_1∧v7=.int .i64 x7_1∧Aside0 (bo.l0 kq a0 a1 x5_1 x6_1 x7_1=some r)∧Aside0 (kq≤k)∧Aside0 (Kd.R Kd.string 9 w' w.heap.size (fun _=>True) v5 x5_1)∧Aside0 (Below w.heap.size w w'))
 case atStart=>exact⟨(y145),(0),(0),(by first|rfl|(simp;done)|(simp[*];done)),(by first|rfl|(simp;done)|(simp[*];done)),H',⟨Nat.le_refl _⟩,⟨jL HO147⟩,⟨bl⟩⟩
 case round =>
  clear H';obtain⟨x5_1,x6_1,x7_1,rfl,rfl,HA,HK1,HO_5,HB⟩:=hrel
  cases gk with
  | zero=>exact absurd HA.out (by simp[bo.l0])
  | succ k1 =>
   have H:=HA.out;clear HA;simp only[bo.l0]at H;by_cases c5:x7_1≤(a0.size:Int)
   ·rw[if_pos c5]at H;have c5b0:decide (x7_1≤(a0.size:Int))=true:=bW c5;clear c5;by_cases c6:x7_1=(a0.size:Int)
    ·rw[if_pos c6]at H;have c6b0:(x7_1==(a0.size:Int))=true:=dX c6;have c6b1:(x7_1 !=(a0.size:Int))=false:=ed c6;clear c6;by_cases c7:0≤x6_1
     ·rw[if_pos c7]at H;have c7b0:=eq_true c7;have c7b1:decide (0≤x6_1)=true:=bW c7;clear c7;by_cases c8:x6_1≤x7_1
      ·rw[if_pos c8]at H;have c8b0:=eq_true c8;have c8b1:decide (x6_1≤x7_1)=true:=bW c8;clear c8;have c9b0:=eq_true (bN:x7_1≤(a0.size:Int));by_cases eA:x5_1.length<8796093022208
       ·rw[if_pos eA]at H;have LMc10:=ae eA;clear eA;obtain⟨y148,hy148⟩:∃y_:List ByteArray,y_=(x5_1++[a0.extract (x6_1:Int).toNat (x7_1:Int).toNat]):=⟨_,rfl⟩;replace H:(bo.l0 k1 a0 a1 y148 (wrap64 (x7_1+1)) (wrap64 (x7_1+1)))=some r:=by first|(rw[hy148];with_reducible exact H)|(have H2_:=(Option.bind_some _ _).symm.trans H;rw[hy148];with_reducible exact H2_)|(have H2_:=(Option.bind_some _ _).symm.trans H;with_reducible exact H2_)|with_reducible exact H|(rw[hy148];exact H)|exact H
        have Ny148:=ae hy148;clear hy148;have H':=ae H;clear H;go_wp2_with (first|((with_reducible refine ea (b:=.append) (xs:=#[.tmp 26,.tmp 31]) rfl ?_);at_builtin;refine Kd.jX Kd.string (w0:=w) w.heap.size rfl (.tmp 26) (.tmp 31) 40 9 (.string ⟨#[]⟩) 16 rfl Tryz.underlying40 kZ rfl (by decide) (by omega) u5 x5_1 (a0.extract (x6_1:Int).toNat (x7_1:Int).toNat) [.string (a0.extract (x6_1:Int).toNat (x7_1:Int).toNat)] (fun _=>True) (fun _=>False) rfl rfl ?aP (fun _ hk=>hk.elim) ?aF ?aO ?aB ?aS ?aL ?_;(case aP=>exact rfl);(case aB=>exact bl);(case aF=>exact(fun _ _=>trivial));(case aO=>exact(jL HO_5));(case aS=>exact(aK bl));(case aL=>have:=LMc10.out;omega);intro v149 w11 ho hb hg hat;rw[←Ny148.out]at ho;replace HB:=ae (hb);have HO150:=ae (ho);clear HO_5;clear ho hb hg hat))
        go_roundg k1
        case measure=>have:=HK1.out;omega
        case rel=>exact⟨(y148),(wrap64 (x7_1+1)),(wrap64 (x7_1+1)),(by first|rfl|(simp;done)|(simp[*];done)),(by first|rfl|(simp;done)|(simp[*];done)),H',⟨by have:=HK1.out;omega⟩,⟨jL HO150⟩,⟨bl⟩⟩
       ·rw[if_neg eA]at H;exact absurd H (by simp)
      ·rw[if_neg c8]at H;exact absurd H (by simp)
     ·rw[if_neg c7]at H;exact absurd H (by simp)
    ·rw[if_neg c6]at H;have c6b0:(x7_1==(a0.size:Int))=false:=di c6;have c6b1:(x7_1 !=(a0.size:Int))=true:=ee c6;by_cases c12:0≤x7_1
     ·rw[if_pos c12]at H;have c12b0:decide (0≤x7_1)=true:=bW c12;clear c12;by_cases c13:x7_1<(a0.size:Int)
      ·rw[if_pos c13]at H;have c13b0:decide (x7_1<(a0.size:Int))=true:=bW c13;clear c13;by_cases c15:(bt a0 x7_1)=a1
       ·rw[if_pos c15]at H;have c15b0:((bt a0 x7_1)==a1)=true:=dX c15;have c15b1:((bt a0 x7_1) !=a1)=false:=ed c15;clear c15;by_cases c16:0≤x6_1
        ·rw[if_pos c16]at H;have c16b0:=eq_true c16;have c16b1:decide (0≤x6_1)=true:=bW c16;clear c16;by_cases c17:x6_1≤x7_1
         ·rw[if_pos c17]at H;have c17b0:=eq_true c17;have c17b1:decide (x6_1≤x7_1)=true:=bW c17;clear c17;have c18b0:=eq_true (bN:x7_1≤(a0.size:Int));by_cases c19:x5_1.length<8796093022208
          ·rw[if_pos c19]at H;have LMc19:=ae c19;clear c19;obtain⟨y151,hy151⟩:∃y_:List ByteArray,y_=(x5_1++[a0.extract (x6_1:Int).toNat (x7_1:Int).toNat]):=⟨_,rfl⟩;replace H:(bo.l0 k1 a0 a1 y151 (wrap64 (x7_1+1)) (wrap64 (x7_1+1)))=some r:=by first|(rw[hy151];with_reducible exact H)|(have H2_:=(Option.bind_some _ _).symm.trans H;rw[hy151];with_reducible exact H2_)|(have H2_:=(Option.bind_some _ _).symm.trans H;with_reducible exact H2_)|with_reducible exact H|(rw[hy151];exact H)|exact H
           have Ny151:=ae hy151;clear hy151;have H':=ae H;clear H;have p14:0≤(x7_1:Int):=bN;have q14:x7_1<(a0.size:Int):=bN;have hx14:=fC a0 x7_1;replace p14:=eq_true p14;replace q14:=eq_true q14;go_wp2_with (first|((with_reducible refine ea (b:=.append) (xs:=#[.tmp 26,.tmp 31]) rfl ?_);at_builtin;refine Kd.jX Kd.string (w0:=w) w.heap.size rfl (.tmp 26) (.tmp 31) 40 9 (.string ⟨#[]⟩) 16 rfl Tryz.underlying40 kZ rfl (by decide) (by omega) u5 x5_1 (a0.extract (x6_1:Int).toNat (x7_1:Int).toNat) [.string (a0.extract (x6_1:Int).toNat (x7_1:Int).toNat)] (fun _=>True) (fun _=>False) rfl rfl ?aP (fun _ hk=>hk.elim) ?aF ?aO ?aB ?aS ?aL ?_;(case aP=>exact rfl);(case aB=>exact bl);(case aF=>exact(fun _ _=>trivial));(case aO=>exact(jL HO_5));(case aS=>exact(aK bl));(case aL=>have:=LMc19.out;omega);intro v152 w20 ho hb hg hat;rw[←Ny151.out]at ho;replace HB:=ae (hb);have HO153:=ae (ho);clear HO_5;clear ho hb hg hat))
           go_roundg k1
           case measure=>have:=HK1.out;omega
           case rel=>exact⟨(y151),(wrap64 (x7_1+1)),(wrap64 (x7_1+1)),(by first|rfl|(simp;done)|(simp[*];done)),(by first|rfl|(simp;done)|(simp[*];done)),H',⟨by have:=HK1.out;omega⟩,⟨jL HO153⟩,⟨bl⟩⟩
          ·rw[if_neg c19]at H;exact absurd H (by simp)
         ·rw[if_neg c17]at H;exact absurd H (by simp)
        ·rw[if_neg c16]at H;exact absurd H (by simp)
       ·rw[if_neg c15]at H;have c15b0:((bt a0 x7_1)==a1)=false:=di c15;have c15b1:((bt a0 x7_1) !=a1)=true:=ee c15;have H':=ae H;clear H;have p14:0≤(x7_1:Int):=bN;have q14:x7_1<(a0.size:Int):=bN;have hx14:=fC a0 x7_1;replace p14:=eq_true p14;replace q14:=eq_true q14;go_wp2
        go_roundg k1
        case measure=>have:=HK1.out;omega
        case rel=>exact⟨(x5_1),(x6_1),(wrap64 (x7_1+1)),(by first|rfl|(simp;done)|(simp[*];done)),(by first|rfl|(simp;done)|(simp[*];done)),H',⟨by have:=HK1.out;omega⟩,⟨jL HO_5⟩,⟨bl⟩⟩
      ·rw[if_neg c13]at H;exact absurd H (by simp)
     ·rw[if_neg c12]at H;exact absurd H (by simp)
   ·rw[if_neg c5]at H;have c5b0:decide (x7_1≤(a0.size:Int))=false:=b5 c5;clear c5;obtain rfl:=bL H;go_wp2;go_ret;exact⟨_,by first|rfl|(simp[fx,fy]<;>rfl)|(simp[*,fx,fy]<;>rfl),by(with_reducible repeat(first|apply Kd.du|apply Kd.dw|apply Kd.dA));exact HO_5.out,bl⟩
def dh.f (a0:Int):Option (ByteArray):=(bC.f a0 1 10).bind fun t154=>(if t154=true then((some (([(⟨#[]⟩:ByteArray),(⟨#[99,111,110,115,116]⟩:ByteArray),(⟨#[97,114,103]⟩:ByteArray),(⟨#[115,108,111,116]⟩:ByteArray),(⟨#[115,101,108,102]⟩:ByteArray),(⟨#[97,100,100]⟩:ByteArray),(⟨#[115,101,110,100]⟩:ByteArray),(⟨#[110,101,119]⟩:ByteArray),(⟨#[115,101,116]⟩:ByteArray),(⟨#[115,107,105,112]⟩:ByteArray),(⟨#[114,101,116,117,114,110]⟩:ByteArray)]:List ByteArray):List ByteArray)).bind fun y155=>(if 0≤a0 then(if a0<(y155.length:Int)then(some (dp ByteArray.empty y155 a0))else(none))else(none)))else(some (⟨#[]⟩:ByteArray)))
theorem dh.calls (a0:Int) (r:ByteArray) (w:World) (h:dh.f a0=some r) :
  Calls Tryz.prog 66 #[.int .i64 a0] w fun e w'=>e=.returned (.string r)∧Below w.heap.size w w':=by
 have HB:=ae (Below.refl w.heap.size w);have H:((bC.f a0 1 10).bind fun t154=>(if t154=true then((some (([(⟨#[]⟩:ByteArray),(⟨#[99,111,110,115,116]⟩:ByteArray),(⟨#[97,114,103]⟩:ByteArray),(⟨#[115,108,111,116]⟩:ByteArray),(⟨#[115,101,108,102]⟩:ByteArray),(⟨#[97,100,100]⟩:ByteArray),(⟨#[115,101,110,100]⟩:ByteArray),(⟨#[110,101,119]⟩:ByteArray),(⟨#[115,101,116]⟩:ByteArray),(⟨#[115,107,105,112]⟩:ByteArray),(⟨#[114,101,116,117,114,110]⟩:ByteArray)]:List ByteArray):List ByteArray)).bind fun y155=>(if 0≤a0 then(if a0<(y155.length:Int)then(some (dp ByteArray.empty y155 a0))else(none))else(none)))else(some (⟨#[]⟩:ByteArray))))=some r:=h;clear h;replace H:=df H;obtain⟨t154,A2,H⟩:=H;by_cases c3:t154=true
 ·subst c3;have H1:((some (([(⟨#[]⟩:ByteArray),(⟨#[99,111,110,115,116]⟩:ByteArray),(⟨#[97,114,103]⟩:ByteArray),(⟨#[115,108,111,116]⟩:ByteArray),(⟨#[115,101,108,102]⟩:ByteArray),(⟨#[97,100,100]⟩:ByteArray),(⟨#[115,101,110,100]⟩:ByteArray),(⟨#[110,101,119]⟩:ByteArray),(⟨#[115,101,116]⟩:ByteArray),(⟨#[115,107,105,112]⟩:ByteArray),(⟨#[114,101,116,117,114,110]⟩:ByteArray)]:List ByteArray):List ByteArray)).bind fun y155=>(if 0≤a0 then(if a0<(y155.length:Int)then(some (dp ByteArray.empty y155 a0))else(none))else(none)))=some r:=by rw[if_pos rfl]at H;exact H
  clear H;have H:=H1;clear H1;obtain⟨y155,hy155⟩:∃y_:List ByteArray,y_=(([(⟨#[]⟩:ByteArray),(⟨#[99,111,110,115,116]⟩:ByteArray),(⟨#[97,114,103]⟩:ByteArray),(⟨#[115,108,111,116]⟩:ByteArray),(⟨#[115,101,108,102]⟩:ByteArray),(⟨#[97,100,100]⟩:ByteArray),(⟨#[115,101,110,100]⟩:ByteArray),(⟨#[110,101,119]⟩:ByteArray),(⟨#[115,101,116]⟩:ByteArray),(⟨#[115,107,105,112]⟩:ByteArray),(⟨#[114,101,116,117,114,110]⟩:ByteArray)]:List ByteArray)):=⟨_,rfl⟩;replace H:(if 0≤a0 then(if a0<(y155.length:Int)then(some (dp ByteArray.empty y155 a0))else(none))else(none))=some r:=by first|(rw[hy155];with_reducible exact H)|(have H2_:=(Option.bind_some _ _).symm.trans H;rw[hy155];with_reducible exact H2_)|(have H2_:=(Option.bind_some _ _).symm.trans H;with_reducible exact H2_)|with_reducible exact H|(rw[hy155];exact H)|exact H
  have Ny155:=ae hy155;clear hy155;by_cases c4:0≤a0
  ·rw[if_pos c4]at H;have c4b0:decide (0≤a0)=true:=bW c4;clear c4;by_cases c5:a0<(y155.length:Int)
   ·rw[if_pos c5]at H;have c5b0:decide (a0<(y155.length:Int))=true:=bW c5;clear c5;obtain rfl:=bL H;go_enter Tryz.func66,Tryz.ntmps66;go_wp2_with (first|((with_reducible refine ai (f:=94) rfl ?_);refine dm (some 4) Tryz.func94 #[.int .i64 a0,.int .i64 1,.int .i64 10] ?_;(with_reducible refine(bC.calls a0 1 10 true _ A2.out).mono ?_);rintro e w' ⟨rfl,⟨nd,rfl⟩⟩;refine⟨_,rfl,?_⟩)|((with_reducible refine al (N:=6) rfl ?_);refine Kd.dt Kd.string _ 9 ?hg (N:=6) ?hd (xs:=([(⟨#[]⟩:ByteArray),(⟨#[99,111,110,115,116]⟩:ByteArray),(⟨#[97,114,103]⟩:ByteArray),(⟨#[115,108,111,116]⟩:ByteArray),(⟨#[115,101,108,102]⟩:ByteArray),(⟨#[97,100,100]⟩:ByteArray),(⟨#[115,101,110,100]⟩:ByteArray),(⟨#[110,101,119]⟩:ByteArray),(⟨#[115,101,116]⟩:ByteArray),(⟨#[115,107,105,112]⟩:ByteArray),(⟨#[114,101,116,117,114,110]⟩:ByteArray)]:List ByteArray)) (inner:=[.string (⟨#[]⟩:ByteArray),.string (⟨#[99,111,110,115,116]⟩:ByteArray),.string (⟨#[97,114,103]⟩:ByteArray),.string (⟨#[115,108,111,116]⟩:ByteArray),.string (⟨#[115,101,108,102]⟩:ByteArray),.string (⟨#[97,100,100]⟩:ByteArray),.string (⟨#[115,101,110,100]⟩:ByteArray),.string (⟨#[110,101,119]⟩:ByteArray),.string (⟨#[115,101,116]⟩:ByteArray),.string (⟨#[115,107,105,112]⟩:ByteArray),.string (⟨#[114,101,116,117,114,110]⟩:ByteArray)]) (ok:=fun _=>True) (okp:=fun _=>True) ?hr ?hp (fun _ hk=>hk) trivial (Below.refl _ _) (Nat.le_refl _) (by simp) ?_;(case hd=>rfl);(case hg=>rfl);(case hr=>first|(go_simp;done)|(go_simp;rfl));(case hp=>exact(b3.one (show Kd.M Kd.string _ _ _ (⟨#[]⟩:ByteArray) [.string (⟨#[]⟩:ByteArray)]from rfl) (b3.one (show Kd.M Kd.string _ _ _ (⟨#[99,111,110,115,116]⟩:ByteArray) [.string (⟨#[99,111,110,115,116]⟩:ByteArray)]from rfl) (b3.one (show Kd.M Kd.string _ _ _ (⟨#[97,114,103]⟩:ByteArray) [.string (⟨#[97,114,103]⟩:ByteArray)]from rfl) (b3.one (show Kd.M Kd.string _ _ _ (⟨#[115,108,111,116]⟩:ByteArray) [.string (⟨#[115,108,111,116]⟩:ByteArray)]from rfl) (b3.one (show Kd.M Kd.string _ _ _ (⟨#[115,101,108,102]⟩:ByteArray) [.string (⟨#[115,101,108,102]⟩:ByteArray)]from rfl) (b3.one (show Kd.M Kd.string _ _ _ (⟨#[97,100,100]⟩:ByteArray) [.string (⟨#[97,100,100]⟩:ByteArray)]from rfl) (b3.one (show Kd.M Kd.string _ _ _ (⟨#[115,101,110,100]⟩:ByteArray) [.string (⟨#[115,101,110,100]⟩:ByteArray)]from rfl) (b3.one (show Kd.M Kd.string _ _ _ (⟨#[110,101,119]⟩:ByteArray) [.string (⟨#[110,101,119]⟩:ByteArray)]from rfl) (b3.one (show Kd.M Kd.string _ _ _ (⟨#[115,101,116]⟩:ByteArray) [.string (⟨#[115,101,116]⟩:ByteArray)]from rfl) (b3.one (show Kd.M Kd.string _ _ _ (⟨#[115,107,105,112]⟩:ByteArray) [.string (⟨#[115,107,105,112]⟩:ByteArray)]from rfl) (b3.one (show Kd.M Kd.string _ _ _ (⟨#[114,101,116,117,114,110]⟩:ByteArray) [.string (⟨#[114,101,116,117,114,110]⟩:ByteArray)]from rfl) (b3.none _ _)))))))))))));intro v156 w6 ho7 hb hg_ hnew_;clear hg_ hnew_;(first|rw[←Ny155.out]at ho7|(simp only[Int.reduceToNat]at ho7;rw[←Ny155.out]at ho7));have HO157:=ae (Kd.fu ho7 (aK bl));replace HB:=ch hb;clear hb ho7;obtain⟨Ao8,co8,eo8⟩:=Kd.bU HO157.out;subst eo8;have p158:0≤(a0:Int):=bN;have q158:a0<(y155.length:Int):=bN;obtain⟨ad158,e158,hx158_0⟩:=Kd.dT (Kd.aZ HO157.out).2.2 a0 p158 q158;cases e158;replace p158:=eq_true p158;replace q158:=eq_true q158));go_ret;exact cu
   ·rw[if_neg c5]at H;exact absurd H (by simp)
  ·rw[if_neg c4]at H;exact absurd H (by simp)
 ·replace c3:=eK c3;subst c3;have H1:(some (⟨#[]⟩:ByteArray))=some r:=by rw[if_neg (show ¬(false=true) by decide)]at H;exact H
  clear H;have H:=H1;clear H1;obtain rfl:=bL H;go_enter Tryz.func66,Tryz.ntmps66;go_wp2_with (first|((with_reducible refine ai (f:=94) rfl ?_);refine dm (some 4) Tryz.func94 #[.int .i64 a0,.int .i64 1,.int .i64 10] ?_;(with_reducible refine(bC.calls a0 1 10 false _ A2.out).mono ?_);rintro e w' ⟨rfl,⟨nd,rfl⟩⟩;refine⟨_,rfl,?_⟩));go_ret;exact cu
def av.l0:Nat→Int→ByteArray→Int→Option (ByteArray)
 | 0,_,_,_=>none
 | k+1,x0,x3,x4=>if x4=0 then(if x0<0 then(if 1+x3.size≤9223372036854775807 then(some ((⟨#[45]⟩:ByteArray)++x3))else(none))else(some x3))else(if (Int.tmod x4 10)<0 then((some (([(wrap64 (48+(wrap64 (-(Int.tmod x4 10))))) % 256]:List Int):List Int)).bind fun y159=>(if (strOfNums y159).size+x3.size≤9223372036854775807 then(av.l0 k x0 ((strOfNums y159)++x3) (wrap64 (Int.tdiv x4 10)))else(none)))else((some (([(wrap64 (48+(Int.tmod x4 10))) % 256]:List Int):List Int)).bind fun y162=>(if (strOfNums y162).size+x3.size≤9223372036854775807 then(av.l0 k x0 ((strOfNums y162)++x3) (wrap64 (Int.tdiv x4 10)))else(none))))
def av.f (k:Nat) (a0:Int):Option (ByteArray):=if a0=0 then(some (⟨#[48]⟩:ByteArray))else(av.l0 k a0 (⟨#[]⟩:ByteArray) a0)
theorem av.bs:∀k,(∀y0 y1 y2,bd (av.l0 k y0 y1 y2) (av.l0 (k+1) y0 y1 y2))
 | 0=>fun _ _ _ r h=>by simp[av.l0]at h
 | k+1=>by
  have ih0:=av.bs k
  ·intro y0 y1 y2;unfold av.l0
   repeat' with_reducible first|exact ih0 _ _ _|exact bd.refl _|exact bd.none _|refine bd.ite ?_ ?_|refine bd.bind ?_ (fun _=>?_)
theorem av.mono:∀a0 k,bd (av.f k a0) (av.f (k+1) a0):=by
 intro a0 k;have ih0:=av.bs k;unfold av.f
 repeat' with_reducible first|exact ih0 _ _ _|exact bd.refl _|exact bd.none _|refine bd.ite ?_ ?_|refine bd.bind ?_ (fun _=>?_)
theorem av.calls (k:Nat) (a0:Int) (r:ByteArray) (w:World) (h:av.f k a0=some r) :
  Calls Tryz.prog 67 #[.int .i64 a0] w fun e w'=>e=.returned (.string r)∧Below w.heap.size w w':=by
 have HB:=ae (Below.refl w.heap.size w);have H:(if a0=0 then(some (⟨#[48]⟩:ByteArray))else(av.l0 k a0 (⟨#[]⟩:ByteArray) a0))=some r:=h;clear h;by_cases c2:a0=0
 ·rw[if_pos c2]at H;have c2b0:(a0==0)=true:=dX c2;have c2b1:(a0 !=0)=false:=ed c2;clear c2;obtain rfl:=bL H;go_enter Tryz.func67,Tryz.ntmps67;go_wp2;go_ret;exact cu
 ·rw[if_neg c2]at H;have c2b0:(a0==0)=false:=di c2;have c2b1:(a0 !=0)=true:=ee c2;have H':=ae H;clear H;go_enter Tryz.func67,Tryz.ntmps67;go_wp2
  go_loopg [3,4] k (fun kq v3 v4 w'=>∃(x3_1:ByteArray) (x4_1:Int),v3=.string x3_1∧v4=.int .i64 x4_1∧Aside0 (av.l0 kq a0 x3_1 x4_1=some r)∧Aside0 (kq≤k)∧Aside0 (Below w.heap.size w w'))
  case atStart=>exact⟨((⟨#[]⟩:ByteArray)),(a0),(by first|rfl|(simp;done)|(simp[*];done)),(by first|rfl|(simp;done)|(simp[*];done)),H',⟨Nat.le_refl _⟩,⟨bl⟩⟩
  case round =>
   clear H';obtain⟨x3_1,x4_1,rfl,rfl,HA,HK1,HB⟩:=hrel
   cases gk with
   | zero=>exact absurd HA.out (by simp[av.l0])
   | succ k1 =>
    have H:=HA.out;clear HA;simp only[av.l0]at H;by_cases c3:x4_1=0
    ·rw[if_pos c3]at H;have c3b0:(x4_1==0)=true:=dX c3;have c3b1:(x4_1 !=0)=false:=ed c3;clear c3;by_cases c4:a0<0
     ·rw[if_pos c4]at H;have c4b0:decide (a0<0)=true:=bW c4;clear c4;by_cases c5:1+x3_1.size≤9223372036854775807
      ·rw[if_pos c5]at H;have c5b0:=eq_true c5;have c5b1:decide (1+x3_1.size≤9223372036854775807)=true:=bW c5
       try have c5b2:(9223372036854775807<1+x3_1.size)=False:=eq_false (Nat.not_lt.2 c5)
       obtain rfl:=bL H;go_wp2;go_ret;exact cu
      ·rw[if_neg c5]at H;exact absurd H (by simp)
     ·rw[if_neg c4]at H;have c4b0:decide (a0<0)=false:=b5 c4;clear c4;obtain rfl:=bL H;go_wp2;go_ret;exact cu
    ·rw[if_neg c3]at H;have c3b0:(x4_1==0)=false:=di c3;have c3b1:(x4_1 !=0)=true:=ee c3;by_cases c6:(Int.tmod x4_1 10)<0
     ·rw[if_pos c6]at H;have c6b0:decide ((Int.tmod x4_1 10)<0)=true:=bW c6;clear c6;obtain⟨y159,hy159⟩:∃y_:List Int,y_=(([(wrap64 (48+(wrap64 (-(Int.tmod x4_1 10))))) % 256]:List Int)):=⟨_,rfl⟩;replace H:(if (strOfNums y159).size+x3_1.size≤9223372036854775807 then(av.l0 k1 a0 ((strOfNums y159)++x3_1) (wrap64 (Int.tdiv x4_1 10)))else(none))=some r:=by first|(rw[hy159];with_reducible exact H)|(have H2_:=(Option.bind_some _ _).symm.trans H;rw[hy159];with_reducible exact H2_)|(have H2_:=(Option.bind_some _ _).symm.trans H;with_reducible exact H2_)|with_reducible exact H|(rw[hy159];exact H)|exact H
      have Ny159:=ae hy159;clear hy159;by_cases c7:(strOfNums y159).size+x3_1.size≤9223372036854775807
      ·rw[if_pos c7]at H;have c7b0:=eq_true c7;have c7b1:decide ((strOfNums y159).size+x3_1.size≤9223372036854775807)=true:=bW c7
       try have c7b2:(9223372036854775807<(strOfNums y159).size+x3_1.size)=False:=eq_false (Nat.not_lt.2 c7)
       have H':=ae H;clear H;go_wp2_with (first|((with_reducible refine al (N:=22) rfl ?_);refine Kd.dt (Kd.int .u8) _ 5 ?hg (N:=22) ?hd (xs:=([(wrap64 (48+(wrap64 (-(Int.tmod x4_1 10))))) % 256]:List Int)) (inner:=[.int .u8 ((wrap64 (48+(wrap64 (-(Int.tmod x4_1 10))))) % 256)]) (ok:=fun _=>True) (okp:=fun _=>True) ?hr ?hp (fun _ hk=>hk) trivial (Below.refl _ _) (Nat.le_refl _) (by simp) ?_;(case hd=>rfl);(case hg=>rfl);(case hr=>first|(go_simp;done)|(go_simp;rfl));(case hp=>exact(b3.one (show Kd.M (Kd.int .u8) _ _ _ ((wrap64 (48+(wrap64 (-(Int.tmod x4_1 10))))) % 256) [.int .u8 ((wrap64 (48+(wrap64 (-(Int.tmod x4_1 10))))) % 256)]from rfl) (b3.none _ _)));intro v160 w8 ho9 hb hg_ hnew_;clear hg_ hnew_;(first|rw[←Ny159.out]at ho9|(simp only[Int.reduceToNat]at ho9;rw[←Ny159.out]at ho9));have HO161:=ae (Kd.fu ho9 (aK bl));replace HB:=ch hb;clear hb ho9;have hcv10:=iv (P:=Tryz.prog) Tryz.underlying28 Tryz.underlying5 Tryz.underlying9 (Kd.fj HO161.out)))
       go_roundg k1
       case measure=>have:=HK1.out;omega
       case rel=>exact⟨((strOfNums y159)++x3_1),(wrap64 (Int.tdiv x4_1 10)),(by first|rfl|(simp;done)|(simp[*];done)),(by first|rfl|(simp;done)|(simp[*];done)),H',⟨by have:=HK1.out;omega⟩,⟨bl⟩⟩
      ·rw[if_neg c7]at H;exact absurd H (by simp)
     ·rw[if_neg c6]at H;have c6b0:decide ((Int.tmod x4_1 10)<0)=false:=b5 c6;clear c6;obtain⟨y162,hy162⟩:∃y_:List Int,y_=(([(wrap64 (48+(Int.tmod x4_1 10))) % 256]:List Int)):=⟨_,rfl⟩;replace H:(if (strOfNums y162).size+x3_1.size≤9223372036854775807 then(av.l0 k1 a0 ((strOfNums y162)++x3_1) (wrap64 (Int.tdiv x4_1 10)))else(none))=some r:=by first|(rw[hy162];with_reducible exact H)|(have H2_:=(Option.bind_some _ _).symm.trans H;rw[hy162];with_reducible exact H2_)|(have H2_:=(Option.bind_some _ _).symm.trans H;with_reducible exact H2_)|with_reducible exact H|(rw[hy162];exact H)|exact H
      have Ny162:=ae hy162;clear hy162;by_cases c11:(strOfNums y162).size+x3_1.size≤9223372036854775807
      ·rw[if_pos c11]at H;have c11b0:=eq_true c11;have c11b1:decide ((strOfNums y162).size+x3_1.size≤9223372036854775807)=true:=bW c11
       try have c11b2:(9223372036854775807<(strOfNums y162).size+x3_1.size)=False:=eq_false (Nat.not_lt.2 c11)
       have H':=ae H;clear H;go_wp2_with (first|((with_reducible refine al (N:=22) rfl ?_);refine Kd.dt (Kd.int .u8) _ 5 ?hg (N:=22) ?hd (xs:=([(wrap64 (48+(Int.tmod x4_1 10))) % 256]:List Int)) (inner:=[.int .u8 ((wrap64 (48+(Int.tmod x4_1 10))) % 256)]) (ok:=fun _=>True) (okp:=fun _=>True) ?hr ?hp (fun _ hk=>hk) trivial (Below.refl _ _) (Nat.le_refl _) (by simp) ?_;(case hd=>rfl);(case hg=>rfl);(case hr=>first|(go_simp;done)|(go_simp;rfl));(case hp=>exact(b3.one (show Kd.M (Kd.int .u8) _ _ _ ((wrap64 (48+(Int.tmod x4_1 10))) % 256) [.int .u8 ((wrap64 (48+(Int.tmod x4_1 10))) % 256)]from rfl) (b3.none _ _)));intro v163 w12 ho13 hb hg_ hnew_;clear hg_ hnew_;(first|rw[←Ny162.out]at ho13|(simp only[Int.reduceToNat]at ho13;rw[←Ny162.out]at ho13));have HO164:=ae (Kd.fu ho13 (aK bl));replace HB:=ch hb;clear hb ho13;have hcv14:=iv (P:=Tryz.prog) Tryz.underlying28 Tryz.underlying5 Tryz.underlying9 (Kd.fj HO164.out)))
       go_roundg k1
       case measure=>have:=HK1.out;omega
       case rel=>exact⟨((strOfNums y162)++x3_1),(wrap64 (Int.tdiv x4_1 10)),(by first|rfl|(simp;done)|(simp[*];done)),(by first|rfl|(simp;done)|(simp[*];done)),H',⟨by have:=HK1.out;omega⟩,⟨bl⟩⟩
      ·rw[if_neg c11]at H;exact absurd H (by simp)
end Go.Proofs.YtmipaoobkjppdaaGreatDoor.QFnExactParseLibrary
