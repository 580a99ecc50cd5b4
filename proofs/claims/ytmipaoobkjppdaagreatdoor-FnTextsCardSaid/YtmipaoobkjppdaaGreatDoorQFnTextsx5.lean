import Derived.Test.YtmipaoobkjppdaaGreatDoorQFnTextsx2
set_option maxHeartbeats 8000000
set_option maxRecDepth 100000
namespace Go.Proofs.YtmipaoobkjppdaaGreatDoor.QFnTexts
open Go.RowKit Go.Proofs.YtmipaoobkjppdaaGreatDoorW 
open PrintWords PrintLast PrintMore
attribute [local go_sem] dq dr dT dU cT cU dt du
set_option linter.unusedVariables false
set_option linter.unusedSimpArgs false
def bA.l0:Nat→ByteArray→Int→List ByteArray→Int→Int→Option (List ByteArray)
 | 0,_,_,_,_,_=>none
 | k+1,x0,x1,x5,x6,x7=>if x7≤(x0.size:Int)then(if x7=(x0.size:Int)then(if 0≤x6 then(if x6≤x7 then(if x5.length<8796093022208 then(bA.l0 k x0 x1 (x5++[x0.extract (x6:Int).toNat (x7:Int).toNat]) (wrap64 (x7+1)) (wrap64 (x7+1)))else(none))else(none))else(none))else(if 0≤x7 then(if x7<(x0.size:Int)then(if (bt x0 x7)=x1 then(if 0≤x6 then(if x6≤x7 then(if x5.length<8796093022208 then(bA.l0 k x0 x1 (x5++[x0.extract (x6:Int).toNat (x7:Int).toNat]) (wrap64 (x7+1)) (wrap64 (x7+1)))else(none))else(none))else(none))else(bA.l0 k x0 x1 x5 x6 (wrap64 (x7+1))))else(none))else(none)))else(some x5)
def bA.f (k:Nat) (a0:ByteArray) (a1:Int):Option (List ByteArray):=bA.l0 k a0 a1 (([]:List ByteArray)) 0 0
theorem bA.bS:∀k,(∀y0 y1 y2 y3 y4,bm (bA.l0 k y0 y1 y2 y3 y4) (bA.l0 (k+1) y0 y1 y2 y3 y4))
 | 0=>fun _ _ _ _ _ r h=>by simp[bA.l0]at h
 | k+1=>by
  have ih0:=bA.bS k
  ·intro y0 y1 y2 y3 y4;unfold bA.l0
   repeat' with_reducible first|exact ih0 _ _ _ _ _|exact bm.refl _|exact bm.none _|refine bm.ite ?_ ?_|refine bm.bind ?_ (fun _=>?_)
theorem bA.mono:∀a0 a1 k,bm (bA.f k a0 a1) (bA.f (k+1) a0 a1):=by
 intro a0 a1 k;have ih0:=bA.bS k;unfold bA.f
 repeat' with_reducible first|exact ih0 _ _ _ _ _|exact bm.refl _|exact bm.none _|refine bm.ite ?_ ?_|refine bm.bind ?_ (fun _=>?_)
theorem bA.calls (k:Nat) (a0:ByteArray) (a1:Int) (r:List ByteArray) (w:World) (h:bA.f k a0 a1=some r) :
  Calls Tryz.prog 21 #[.string a0,.int .u8 a1] w fun e w'=>∃v0_:Value,e=.returned (v0_)∧Kd.R Kd.string 9 w' w.heap.size (fun _=>True) v0_ r∧Below w.heap.size w w':=by
 have HB:=aa (Below.refl w.heap.size w);have H:(bA.l0 k a0 a1 (([]:List ByteArray)) 0 0)=some r:=h;clear h;obtain⟨y145,hy145⟩:∃y_:List ByteArray,y_=(([]:List ByteArray)):=⟨_,rfl⟩;replace H:(bA.l0 k a0 a1 y145 0 0)=some r:=by first|(rw[hy145];with_reducible exact H)|(have H2_:=(Option.bind_some _ _).symm.trans H;rw[hy145];with_reducible exact H2_)|(have H2_:=(Option.bind_some _ _).symm.trans H;with_reducible exact H2_)|with_reducible exact H|(rw[hy145];exact H)|exact H
 have Ny145:=aa hy145;clear hy145;have H':=aa H;clear H;go_enter Tryz.func21,Tryz.ntmps21;go_wp2_with (first|((with_reducible refine aq (N:=8) rfl ?_);refine Kd.de Kd.string _ 9 ?hg (N:=8) ?hd (xs:=([]:List ByteArray)) (inner:=[]) (ok:=fun _=>True) (okp:=fun _=>True) ?hr ?hp (fun _ hk=>hk) trivial (Below.refl _ _) (Nat.le_refl _) (by simp) ?_;(case hd=>rfl);(case hg=>rfl);(case hr=>first|(go_simp;done)|(go_simp;rfl));(case hp=>exact(bn.none _ _));intro v146 w3 ho4 hb hg_ hnew_;clear hg_ hnew_;(first|rw[←Ny145.out]at ho4|(simp only[Int.reduceToNat]at ho4;rw[←Ny145.out]at ho4));have HO147:=aa (Kd.cN ho4 (ar (bl HB)));replace HB:=cw HB hb;clear hb ho4))
 go_loopg [5,6,7] k (fun kq v5 v6 v7 w'=>∃(x5_1:List ByteArray) (x6_1:Int) (x7_1:Int),v6=.int .i64 x6_1∧v7=.int .i64 x7_1∧Aside0 (bA.l0 kq a0 a1 x5_1 x6_1 x7_1=some r)∧Aside0 (kq≤k)∧Aside0 (Kd.R Kd.string 9 w' w.heap.size (fun _=>True) v5 x5_1)∧Aside0 (Below w.heap.size w w'))
 case atStart=>exact⟨(y145),(0),(0),(by first|rfl|(simp;done)|(simp[*];done)),(by first|rfl|(simp;done)|(simp[*];done)),H',⟨Nat.le_refl _⟩,⟨fb HO147⟩,⟨(bl HB)⟩⟩
 case round =>
  clear H';obtain⟨x5_1,x6_1,x7_1,rfl,rfl,HA,HK1,HO_5,HB⟩:=hrel
  cases gk with
  | zero=>exact absurd HA.out (by simp[bA.l0])
  | succ k1 =>
   have H:=HA.out;clear HA;simp only[bA.l0]at H;by_cases c5:x7_1≤(a0.size:Int)
   ·rw[if_pos c5]at H;have c5b0:decide (x7_1≤(a0.size:Int))=true:=cH c5;clear c5;by_cases c6:x7_1=(a0.size:Int)
    ·rw[if_pos c6]at H;have c6b0:(x7_1==(a0.size:Int))=true:=eQ c6;have c6b1:(x7_1 !=(a0.size:Int))=false:=fa c6;clear c6;by_cases c7:0≤x6_1
     ·rw[if_pos c7]at H;have c7b0:=eq_true c7;have c7b1:decide (0≤x6_1)=true:=cH c7;clear c7;by_cases c8:x6_1≤x7_1
      ·rw[if_pos c8]at H;have c8b0:=eq_true c8;have c8b1:decide (x6_1≤x7_1)=true:=cH c8;clear c8;have c9b0:=eq_true (eb:x7_1≤(a0.size:Int));by_cases fp:x5_1.length<8796093022208
       ·rw[if_pos fp]at H;have LMc10:=aa fp;clear fp;obtain⟨y148,hy148⟩:∃y_:List ByteArray,y_=(x5_1++[a0.extract (x6_1:Int).toNat (x7_1:Int).toNat]):=⟨_,rfl⟩;replace H:(bA.l0 k1 a0 a1 y148 (wrap64 (x7_1+1)) (wrap64 (x7_1+1)))=some r:=by first|(rw[hy148];with_reducible exact H)|(have H2_:=(Option.bind_some _ _).symm.trans H;rw[hy148];with_reducible exact H2_)|(have H2_:=(Option.bind_some _ _).symm.trans H;with_reducible exact H2_)|with_reducible exact H|(rw[hy148];exact H)|exact H
        have Ny148:=aa hy148;clear hy148;have H':=aa H;clear H;go_wp2_with (first|((with_reducible refine eG (b:=.append) (xs:=#[.tmp 26,.tmp 31]) rfl ?_);at_builtin;refine Kd.kb Kd.string (w0:=w) w.heap.size rfl (.tmp 26) (.tmp 31) 40 9 (.string ⟨#[]⟩) 16 rfl Tryz.underlying40 nu rfl (by decide) (by omega) u5 x5_1 (a0.extract (x6_1:Int).toNat (x7_1:Int).toNat) [.string (a0.extract (x6_1:Int).toNat (x7_1:Int).toNat)] (fun _=>True) (fun _=>False) rfl rfl ?aP (fun _ hk=>hk.elim) ?aF ?aO ?aB ?aS ?aL ?_;(case aP=>exact rfl);(case aB=>exact(bl HB));(case aF=>exact(fun _ _=>trivial));(case aO=>exact(fb HO_5));(case aS=>exact(ar (bl HB)));(case aL=>have:=LMc10.out;omega);intro v149 w11 ho hb hg hat;rw[←Ny148.out]at ho;replace HB:=aa (hb);have HO150:=aa (ho);clear HO_5;clear ho hb hg hat))
        go_roundg k1
        case measure=>have:=HK1.out;omega
        case rel=>exact⟨(y148),(wrap64 (x7_1+1)),(wrap64 (x7_1+1)),(by first|rfl|(simp;done)|(simp[*];done)),(by first|rfl|(simp;done)|(simp[*];done)),H',⟨by have:=HK1.out;omega⟩,⟨fb HO150⟩,⟨(bl HB)⟩⟩
       ·rw[if_neg fp]at H;exact absurd H (by simp)
      ·rw[if_neg c8]at H;exact absurd H (by simp)
     ·rw[if_neg c7]at H;exact absurd H (by simp)
    ·rw[if_neg c6]at H;have c6b0:(x7_1==(a0.size:Int))=false:=ea c6;have c6b1:(x7_1 !=(a0.size:Int))=true:=fc c6;by_cases c12:0≤x7_1
     ·rw[if_pos c12]at H;have c12b0:decide (0≤x7_1)=true:=cH c12;clear c12;by_cases c13:x7_1<(a0.size:Int)
      ·rw[if_pos c13]at H;have c13b0:decide (x7_1<(a0.size:Int))=true:=cH c13;clear c13;by_cases c15:(bt a0 x7_1)=a1
       ·rw[if_pos c15]at H;have c15b0:((bt a0 x7_1)==a1)=true:=eQ c15;have c15b1:((bt a0 x7_1) !=a1)=false:=fa c15;clear c15;by_cases c16:0≤x6_1
        ·rw[if_pos c16]at H;have c16b0:=eq_true c16;have c16b1:decide (0≤x6_1)=true:=cH c16;clear c16;by_cases c17:x6_1≤x7_1
         ·rw[if_pos c17]at H;have c17b0:=eq_true c17;have c17b1:decide (x6_1≤x7_1)=true:=cH c17;clear c17;have c18b0:=eq_true (eb:x7_1≤(a0.size:Int));by_cases c19:x5_1.length<8796093022208
          ·rw[if_pos c19]at H;have LMc19:=aa c19;clear c19;obtain⟨y151,hy151⟩:∃y_:List ByteArray,y_=(x5_1++[a0.extract (x6_1:Int).toNat (x7_1:Int).toNat]):=⟨_,rfl⟩;replace H:(bA.l0 k1 a0 a1 y151 (wrap64 (x7_1+1)) (wrap64 (x7_1+1)))=some r:=by first|(rw[hy151];with_reducible exact H)|(have H2_:=(Option.bind_some _ _).symm.trans H;rw[hy151];with_reducible exact H2_)|(have H2_:=(Option.bind_some _ _).symm.trans H;with_reducible exact H2_)|with_reducible exact H|(rw[hy151];exact H)|exact H
           have Ny151:=aa hy151;clear hy151;have H':=aa H;clear H;have p14:0≤(x7_1:Int):=eb;have q14:x7_1<(a0.size:Int):=eb;have hx14:=gN a0 x7_1;replace p14:=eq_true p14;replace q14:=eq_true q14;go_wp2_with (first|((with_reducible refine eG (b:=.append) (xs:=#[.tmp 26,.tmp 31]) rfl ?_);at_builtin;refine Kd.kb Kd.string (w0:=w) w.heap.size rfl (.tmp 26) (.tmp 31) 40 9 (.string ⟨#[]⟩) 16 rfl Tryz.underlying40 nu rfl (by decide) (by omega) u5 x5_1 (a0.extract (x6_1:Int).toNat (x7_1:Int).toNat) [.string (a0.extract (x6_1:Int).toNat (x7_1:Int).toNat)] (fun _=>True) (fun _=>False) rfl rfl ?aP (fun _ hk=>hk.elim) ?aF ?aO ?aB ?aS ?aL ?_;(case aP=>exact rfl);(case aB=>exact(bl HB));(case aF=>exact(fun _ _=>trivial));(case aO=>exact(fb HO_5));(case aS=>exact(ar (bl HB)));(case aL=>have:=LMc19.out;omega);intro v152 w20 ho hb hg hat;rw[←Ny151.out]at ho;replace HB:=aa (hb);have HO153:=aa (ho);clear HO_5;clear ho hb hg hat))
           go_roundg k1
           case measure=>have:=HK1.out;omega
           case rel=>exact⟨(y151),(wrap64 (x7_1+1)),(wrap64 (x7_1+1)),(by first|rfl|(simp;done)|(simp[*];done)),(by first|rfl|(simp;done)|(simp[*];done)),H',⟨by have:=HK1.out;omega⟩,⟨fb HO153⟩,⟨(bl HB)⟩⟩
          ·rw[if_neg c19]at H;exact absurd H (by simp)
         ·rw[if_neg c17]at H;exact absurd H (by simp)
        ·rw[if_neg c16]at H;exact absurd H (by simp)
       ·rw[if_neg c15]at H;have c15b0:((bt a0 x7_1)==a1)=false:=ea c15;have c15b1:((bt a0 x7_1) !=a1)=true:=fc c15;have H':=aa H;clear H;have p14:0≤(x7_1:Int):=eb;have q14:x7_1<(a0.size:Int):=eb;have hx14:=gN a0 x7_1;replace p14:=eq_true p14;replace q14:=eq_true q14;go_wp2
        go_roundg k1
        case measure=>have:=HK1.out;omega
        case rel=>exact⟨(x5_1),(x6_1),(wrap64 (x7_1+1)),(by first|rfl|(simp;done)|(simp[*];done)),(by first|rfl|(simp;done)|(simp[*];done)),H',⟨by have:=HK1.out;omega⟩,⟨fb HO_5⟩,⟨(bl HB)⟩⟩
      ·rw[if_neg c13]at H;exact absurd H (by simp)
     ·rw[if_neg c12]at H;exact absurd H (by simp)
   ·rw[if_neg c5]at H;have c5b0:decide (x7_1≤(a0.size:Int))=false:=cW c5;clear c5;obtain rfl:=cq H;go_wp2;go_ret;exact⟨_,by first|rfl|(simp[aZ,a6]<;>rfl)|(simp[*,aZ,a6]<;>rfl),by(with_reducible repeat(first|apply Kd.dC|apply Kd.dD|apply Kd.dm));exact HO_5.out,(bl HB)⟩
def ep.f (a0:Int):Option (ByteArray):=(bX.f a0 1 10).bind fun t154=>(if t154=true then((some (([(⟨#[]⟩:ByteArray),(⟨#[99,111,110,115,116]⟩:ByteArray),(⟨#[97,114,103]⟩:ByteArray),(⟨#[115,108,111,116]⟩:ByteArray),(⟨#[115,101,108,102]⟩:ByteArray),(⟨#[97,100,100]⟩:ByteArray),(⟨#[115,101,110,100]⟩:ByteArray),(⟨#[110,101,119]⟩:ByteArray),(⟨#[115,101,116]⟩:ByteArray),(⟨#[115,107,105,112]⟩:ByteArray),(⟨#[114,101,116,117,114,110]⟩:ByteArray)]:List ByteArray):List ByteArray)).bind fun y155=>(if 0≤a0 then(if a0<(y155.length:Int)then(some (dM ByteArray.empty y155 a0))else(none))else(none)))else(some (⟨#[]⟩:ByteArray)))
theorem ep.calls (a0:Int) (r:ByteArray) (w:World) (h:ep.f a0=some r) :
  Calls Tryz.prog 66 #[.int .i64 a0] w fun e w'=>e=.returned (.string r)∧Below w.heap.size w w':=by
 have HB:=aa (Below.refl w.heap.size w);have H:((bX.f a0 1 10).bind fun t154=>(if t154=true then((some (([(⟨#[]⟩:ByteArray),(⟨#[99,111,110,115,116]⟩:ByteArray),(⟨#[97,114,103]⟩:ByteArray),(⟨#[115,108,111,116]⟩:ByteArray),(⟨#[115,101,108,102]⟩:ByteArray),(⟨#[97,100,100]⟩:ByteArray),(⟨#[115,101,110,100]⟩:ByteArray),(⟨#[110,101,119]⟩:ByteArray),(⟨#[115,101,116]⟩:ByteArray),(⟨#[115,107,105,112]⟩:ByteArray),(⟨#[114,101,116,117,114,110]⟩:ByteArray)]:List ByteArray):List ByteArray)).bind fun y155=>(if 0≤a0 then(if a0<(y155.length:Int)then(some (dM ByteArray.empty y155 a0))else(none))else(none)))else(some (⟨#[]⟩:ByteArray))))=some r:=h;clear h;replace H:=dW H;obtain⟨t154,A2,H⟩:=H;by_cases c3:t154=true
 ·subst c3;have H1:((some (([(⟨#[]⟩:ByteArray),(⟨#[99,111,110,115,116]⟩:ByteArray),(⟨#[97,114,103]⟩:ByteArray),(⟨#[115,108,111,116]⟩:ByteArray),(⟨#[115,101,108,102]⟩:ByteArray),(⟨#[97,100,100]⟩:ByteArray),(⟨#[115,101,110,100]⟩:ByteArray),(⟨#[110,101,119]⟩:ByteArray),(⟨#[115,101,116]⟩:ByteArray),(⟨#[115,107,105,112]⟩:ByteArray),(⟨#[114,101,116,117,114,110]⟩:ByteArray)]:List ByteArray):List ByteArray)).bind fun y155=>(if 0≤a0 then(if a0<(y155.length:Int)then(some (dM ByteArray.empty y155 a0))else(none))else(none)))=some r:=by rw[if_pos rfl]at H;exact H
  clear H;have H:=H1;clear H1;obtain⟨y155,hy155⟩:∃y_:List ByteArray,y_=(([(⟨#[]⟩:ByteArray),(⟨#[99,111,110,115,116]⟩:ByteArray),(⟨#[97,114,103]⟩:ByteArray),(⟨#[115,108,111,116]⟩:ByteArray),(⟨#[115,101,108,102]⟩:ByteArray),(⟨#[97,100,100]⟩:ByteArray),(⟨#[115,101,110,100]⟩:ByteArray),(⟨#[110,101,119]⟩:ByteArray),(⟨#[115,101,116]⟩:ByteArray),(⟨#[115,107,105,112]⟩:ByteArray),(⟨#[114,101,116,117,114,110]⟩:ByteArray)]:List ByteArray)):=⟨_,rfl⟩;replace H:(if 0≤a0 then(if a0<(y155.length:Int)then(some (dM ByteArray.empty y155 a0))else(none))else(none))=some r:=by first|(rw[hy155];with_reducible exact H)|(have H2_:=(Option.bind_some _ _).symm.trans H;rw[hy155];with_reducible exact H2_)|(have H2_:=(Option.bind_some _ _).symm.trans H;with_reducible exact H2_)|with_reducible exact H|(rw[hy155];exact H)|exact H
  have Ny155:=aa hy155;clear hy155;by_cases c4:0≤a0
  ·rw[if_pos c4]at H;have c4b0:decide (0≤a0)=true:=cH c4;clear c4;by_cases c5:a0<(y155.length:Int)
   ·rw[if_pos c5]at H;have c5b0:decide (a0<(y155.length:Int))=true:=cH c5;clear c5;obtain rfl:=cq H;go_enter Tryz.func66,Tryz.ntmps66;go_wp2_with (first|((with_reducible refine ae (f:=94) rfl ?_);refine cf (some 4) Tryz.func94 #[.int .i64 a0,.int .i64 1,.int .i64 10] ?_;(with_reducible refine(bX.calls a0 1 10 true _ A2.out).mono ?_);rintro e w' ⟨rfl,⟨nd,rfl⟩⟩;refine⟨_,rfl,?_⟩)|((with_reducible refine aq (N:=6) rfl ?_);refine Kd.de Kd.string _ 9 ?hg (N:=6) ?hd (xs:=([(⟨#[]⟩:ByteArray),(⟨#[99,111,110,115,116]⟩:ByteArray),(⟨#[97,114,103]⟩:ByteArray),(⟨#[115,108,111,116]⟩:ByteArray),(⟨#[115,101,108,102]⟩:ByteArray),(⟨#[97,100,100]⟩:ByteArray),(⟨#[115,101,110,100]⟩:ByteArray),(⟨#[110,101,119]⟩:ByteArray),(⟨#[115,101,116]⟩:ByteArray),(⟨#[115,107,105,112]⟩:ByteArray),(⟨#[114,101,116,117,114,110]⟩:ByteArray)]:List ByteArray)) (inner:=[.string (⟨#[]⟩:ByteArray),.string (⟨#[99,111,110,115,116]⟩:ByteArray),.string (⟨#[97,114,103]⟩:ByteArray),.string (⟨#[115,108,111,116]⟩:ByteArray),.string (⟨#[115,101,108,102]⟩:ByteArray),.string (⟨#[97,100,100]⟩:ByteArray),.string (⟨#[115,101,110,100]⟩:ByteArray),.string (⟨#[110,101,119]⟩:ByteArray),.string (⟨#[115,101,116]⟩:ByteArray),.string (⟨#[115,107,105,112]⟩:ByteArray),.string (⟨#[114,101,116,117,114,110]⟩:ByteArray)]) (ok:=fun _=>True) (okp:=fun _=>True) ?hr ?hp (fun _ hk=>hk) trivial (Below.refl _ _) (Nat.le_refl _) (by simp) ?_;(case hd=>rfl);(case hg=>rfl);(case hr=>first|(go_simp;done)|(go_simp;rfl));(case hp=>exact(bn.one (show Kd.M Kd.string _ _ _ (⟨#[]⟩:ByteArray) [.string (⟨#[]⟩:ByteArray)]from rfl) (bn.one (show Kd.M Kd.string _ _ _ (⟨#[99,111,110,115,116]⟩:ByteArray) [.string (⟨#[99,111,110,115,116]⟩:ByteArray)]from rfl) (bn.one (show Kd.M Kd.string _ _ _ (⟨#[97,114,103]⟩:ByteArray) [.string (⟨#[97,114,103]⟩:ByteArray)]from rfl) (bn.one (show Kd.M Kd.string _ _ _ (⟨#[115,108,111,116]⟩:ByteArray) [.string (⟨#[115,108,111,116]⟩:ByteArray)]from rfl) (bn.one (show Kd.M Kd.string _ _ _ (⟨#[115,101,108,102]⟩:ByteArray) [.string (⟨#[115,101,108,102]⟩:ByteArray)]from rfl) (bn.one (show Kd.M Kd.string _ _ _ (⟨#[97,100,100]⟩:ByteArray) [.string (⟨#[97,100,100]⟩:ByteArray)]from rfl) (bn.one (show Kd.M Kd.string _ _ _ (⟨#[115,101,110,100]⟩:ByteArray) [.string (⟨#[115,101,110,100]⟩:ByteArray)]from rfl) (bn.one (show Kd.M Kd.string _ _ _ (⟨#[110,101,119]⟩:ByteArray) [.string (⟨#[110,101,119]⟩:ByteArray)]from rfl) (bn.one (show Kd.M Kd.string _ _ _ (⟨#[115,101,116]⟩:ByteArray) [.string (⟨#[115,101,116]⟩:ByteArray)]from rfl) (bn.one (show Kd.M Kd.string _ _ _ (⟨#[115,107,105,112]⟩:ByteArray) [.string (⟨#[115,107,105,112]⟩:ByteArray)]from rfl) (bn.one (show Kd.M Kd.string _ _ _ (⟨#[114,101,116,117,114,110]⟩:ByteArray) [.string (⟨#[114,101,116,117,114,110]⟩:ByteArray)]from rfl) (bn.none _ _)))))))))))));intro v156 w6 ho7 hb hg_ hnew_;clear hg_ hnew_;(first|rw[←Ny155.out]at ho7|(simp only[Int.reduceToNat]at ho7;rw[←Ny155.out]at ho7));have HO157:=aa (Kd.cN ho7 (ar (bl HB)));replace HB:=cw HB hb;clear hb ho7;obtain⟨Ao8,co8,eo8⟩:=Kd.bT HO157.out;subst eo8;have p158:0≤(a0:Int):=eb;have q158:a0<(y155.length:Int):=eb;obtain⟨ad158,e158,hx158_0⟩:=Kd.et (Kd.aU HO157.out).2.2 a0 p158 q158;cases e158;replace p158:=eq_true p158;replace q158:=eq_true q158));go_ret;exact dL
   ·rw[if_neg c5]at H;exact absurd H (by simp)
  ·rw[if_neg c4]at H;exact absurd H (by simp)
 ·replace c3:=fy c3;subst c3;have H1:(some (⟨#[]⟩:ByteArray))=some r:=by rw[if_neg (show ¬(false=true) by decide)]at H;exact H
  clear H;have H:=H1;clear H1;obtain rfl:=cq H;go_enter Tryz.func66,Tryz.ntmps66;go_wp2_with (first|((with_reducible refine ae (f:=94) rfl ?_);refine cf (some 4) Tryz.func94 #[.int .i64 a0,.int .i64 1,.int .i64 10] ?_;(with_reducible refine(bX.calls a0 1 10 false _ A2.out).mono ?_);rintro e w' ⟨rfl,⟨nd,rfl⟩⟩;refine⟨_,rfl,?_⟩));go_ret;exact dL
def aG.l0:Nat→Int→ByteArray→Int→Option (ByteArray)
 | 0,_,_,_=>none
 | k+1,x0,x3,x4=>if x4=0 then(if x0<0 then(if 1+x3.size≤9223372036854775807 then(some ((⟨#[45]⟩:ByteArray)++x3))else(none))else(some x3))else(if (Int.tmod x4 10)<0 then((some (([(wrap64 (48+(wrap64 (-(Int.tmod x4 10))))) % 256]:List Int):List Int)).bind fun y159=>(if (strOfNums y159).size+x3.size≤9223372036854775807 then(aG.l0 k x0 ((strOfNums y159)++x3) (wrap64 (Int.tdiv x4 10)))else(none)))else((some (([(wrap64 (48+(Int.tmod x4 10))) % 256]:List Int):List Int)).bind fun y162=>(if (strOfNums y162).size+x3.size≤9223372036854775807 then(aG.l0 k x0 ((strOfNums y162)++x3) (wrap64 (Int.tdiv x4 10)))else(none))))
def aG.f (k:Nat) (a0:Int):Option (ByteArray):=if a0=0 then(some (⟨#[48]⟩:ByteArray))else(aG.l0 k a0 (⟨#[]⟩:ByteArray) a0)
theorem aG.bS:∀k,(∀y0 y1 y2,bm (aG.l0 k y0 y1 y2) (aG.l0 (k+1) y0 y1 y2))
 | 0=>fun _ _ _ r h=>by simp[aG.l0]at h
 | k+1=>by
  have ih0:=aG.bS k
  ·intro y0 y1 y2;unfold aG.l0
   repeat' with_reducible first|exact ih0 _ _ _|exact bm.refl _|exact bm.none _|refine bm.ite ?_ ?_|refine bm.bind ?_ (fun _=>?_)
theorem aG.mono:∀a0 k,bm (aG.f k a0) (aG.f (k+1) a0):=by
 intro a0 k;have ih0:=aG.bS k;unfold aG.f
 repeat' with_reducible first|exact ih0 _ _ _|exact bm.refl _|exact bm.none _|refine bm.ite ?_ ?_|refine bm.bind ?_ (fun _=>?_)
theorem aG.calls (k:Nat) (a0:Int) (r:ByteArray) (w:World) (h:aG.f k a0=some r) :
  Calls Tryz.prog 67 #[.int .i64 a0] w fun e w'=>e=.returned (.string r)∧Below w.heap.size w w':=by
 have HB:=aa (Below.refl w.heap.size w);have H:(if a0=0 then(some (⟨#[48]⟩:ByteArray))else(aG.l0 k a0 (⟨#[]⟩:ByteArray) a0))=some r:=h;clear h;by_cases c2:a0=0
 ·rw[if_pos c2]at H;have c2b0:(a0==0)=true:=eQ c2;have c2b1:(a0 !=0)=false:=fa c2;clear c2;obtain rfl:=cq H;go_enter Tryz.func67,Tryz.ntmps67;go_wp2;go_ret;exact dL
 ·rw[if_neg c2]at H;have c2b0:(a0==0)=false:=ea c2;have c2b1:(a0 !=0)=true:=fc c2;have H':=aa H;clear H;go_enter Tryz.func67,Tryz.ntmps67;go_wp2
  go_loopg [3,4] k (fun kq v3 v4 w'=>∃(x3_1:ByteArray) (x4_1:Int),v3=.string x3_1∧v4=.int .i64 x4_1∧Aside0 (aG.l0 kq a0 x3_1 x4_1=some r)∧Aside0 (kq≤k)∧Aside0 (Below w.heap.size w w'))
  case atStart=>exact⟨((⟨#[]⟩:ByteArray)),(a0),(by first|rfl|(simp;done)|(simp[*];done)),(by first|rfl|(simp;done)|(simp[*];done)),H',⟨Nat.le_refl _⟩,⟨(bl HB)⟩⟩
  case round =>
   clear H';obtain⟨x3_1,x4_1,rfl,rfl,HA,HK1,HB⟩:=hrel
   cases gk with
   | zero=>exact absurd HA.out (by simp[aG.l0])
   | succ k1 =>
    have H:=HA.out;clear HA;simp only[aG.l0]at H;by_cases c3:x4_1=0
    ·rw[if_pos c3]at H;have c3b0:(x4_1==0)=true:=eQ c3;have c3b1:(x4_1 !=0)=false:=fa c3;clear c3;by_cases c4:a0<0
     ·rw[if_pos c4]at H;have c4b0:decide (a0<0)=true:=cH c4;clear c4;by_cases c5:1+x3_1.size≤9223372036854775807
      ·rw[if_pos c5]at H;have c5b0:=eq_true c5;have c5b1:decide (1+x3_1.size≤9223372036854775807)=true:=cH c5
       try have c5b2:(9223372036854775807<1+x3_1.size)=False:=eq_false (Nat.not_lt.2 c5)
       obtain rfl:=cq H;go_wp2;go_ret;exact dL
      ·rw[if_neg c5]at H;exact absurd H (by simp)
     ·rw[if_neg c4]at H;have c4b0:decide (a0<0)=false:=cW c4;clear c4;obtain rfl:=cq H;go_wp2;go_ret;exact dL
    ·rw[if_neg c3]at H;have c3b0:(x4_1==0)=false:=ea c3;have c3b1:(x4_1 !=0)=true:=fc c3;by_cases c6:(Int.tmod x4_1 10)<0
     ·rw[if_pos c6]at H;have c6b0:decide ((Int.tmod x4_1 10)<0)=true:=cH c6;clear c6;obtain⟨y159,hy159⟩:∃y_:List Int,y_=(([(wrap64 (48+(wrap64 (-(Int.tmod x4_1 10))))) % 256]:List Int)):=⟨_,rfl⟩;replace H:(if (strOfNums y159).size+x3_1.size≤9223372036854775807 then(aG.l0 k1 a0 ((strOfNums y159)++x3_1) (wrap64 (Int.tdiv x4_1 10)))else(none))=some r:=by first|(rw[hy159];with_reducible exact H)|(have H2_:=(Option.bind_some _ _).symm.trans H;rw[hy159];with_reducible exact H2_)|(have H2_:=(Option.bind_some _ _).symm.trans H;with_reducible exact H2_)|with_reducible exact H|(rw[hy159];exact H)|exact H
      have Ny159:=aa hy159;clear hy159;by_cases c7:(strOfNums y159).size+x3_1.size≤9223372036854775807
      ·rw[if_pos c7]at H;have c7b0:=eq_true c7;have c7b1:decide ((strOfNums y159).size+x3_1.size≤9223372036854775807)=true:=cH c7
       try have c7b2:(9223372036854775807<(strOfNums y159).size+x3_1.size)=False:=eq_false (Nat.not_lt.2 c7)
       have H':=aa H;clear H;go_wp2_with (first|((with_reducible refine aq (N:=22) rfl ?_);refine Kd.de (Kd.int .u8) _ 5 ?hg (N:=22) ?hd (xs:=([(wrap64 (48+(wrap64 (-(Int.tmod x4_1 10))))) % 256]:List Int)) (inner:=[.int .u8 ((wrap64 (48+(wrap64 (-(Int.tmod x4_1 10))))) % 256)]) (ok:=fun _=>True) (okp:=fun _=>True) ?hr ?hp (fun _ hk=>hk) trivial (Below.refl _ _) (Nat.le_refl _) (by simp) ?_;(case hd=>rfl);(case hg=>rfl);(case hr=>first|(go_simp;done)|(go_simp;rfl));(case hp=>exact(bn.one (show Kd.M (Kd.int .u8) _ _ _ ((wrap64 (48+(wrap64 (-(Int.tmod x4_1 10))))) % 256) [.int .u8 ((wrap64 (48+(wrap64 (-(Int.tmod x4_1 10))))) % 256)]from rfl) (bn.none _ _)));intro v160 w8 ho9 hb hg_ hnew_;clear hg_ hnew_;(first|rw[←Ny159.out]at ho9|(simp only[Int.reduceToNat]at ho9;rw[←Ny159.out]at ho9));have HO161:=aa (Kd.cN ho9 (ar (bl HB)));replace HB:=cw HB hb;clear hb ho9;have hcv10:=lV (P:=Tryz.prog) Tryz.underlying28 Tryz.underlying5 Tryz.underlying9 (Kd.hY HO161.out)))
       go_roundg k1
       case measure=>have:=HK1.out;omega
       case rel=>exact⟨((strOfNums y159)++x3_1),(wrap64 (Int.tdiv x4_1 10)),(by first|rfl|(simp;done)|(simp[*];done)),(by first|rfl|(simp;done)|(simp[*];done)),H',⟨by have:=HK1.out;omega⟩,⟨(bl HB)⟩⟩
      ·rw[if_neg c7]at H;exact absurd H (by simp)
     ·rw[if_neg c6]at H;have c6b0:decide ((Int.tmod x4_1 10)<0)=false:=cW c6;clear c6;obtain⟨y162,hy162⟩:∃y_:List Int,y_=(([(wrap64 (48+(Int.tmod x4_1 10))) % 256]:List Int)):=⟨_,rfl⟩;replace H:(if (strOfNums y162).size+x3_1.size≤9223372036854775807 then(aG.l0 k1 a0 ((strOfNums y162)++x3_1) (wrap64 (Int.tdiv x4_1 10)))else(none))=some r:=by first|(rw[hy162];with_reducible exact H)|(have H2_:=(Option.bind_some _ _).symm.trans H;rw[hy162];with_reducible exact H2_)|(have H2_:=(Option.bind_some _ _).symm.trans H;with_reducible exact H2_)|with_reducible exact H|(rw[hy162];exact H)|exact H
      have Ny162:=aa hy162;clear hy162;by_cases c11:(strOfNums y162).size+x3_1.size≤9223372036854775807
      ·rw[if_pos c11]at H;have c11b0:=eq_true c11;have c11b1:decide ((strOfNums y162).size+x3_1.size≤9223372036854775807)=true:=cH c11
       try have c11b2:(9223372036854775807<(strOfNums y162).size+x3_1.size)=False:=eq_false (Nat.not_lt.2 c11)
       have H':=aa H;clear H;go_wp2_with (first|((with_reducible refine aq (N:=22) rfl ?_);refine Kd.de (Kd.int .u8) _ 5 ?hg (N:=22) ?hd (xs:=([(wrap64 (48+(Int.tmod x4_1 10))) % 256]:List Int)) (inner:=[.int .u8 ((wrap64 (48+(Int.tmod x4_1 10))) % 256)]) (ok:=fun _=>True) (okp:=fun _=>True) ?hr ?hp (fun _ hk=>hk) trivial (Below.refl _ _) (Nat.le_refl _) (by simp) ?_;(case hd=>rfl);(case hg=>rfl);(case hr=>first|(go_simp;done)|(go_simp;rfl));(case hp=>exact(bn.one (show Kd.M (Kd.int .u8) _ _ _ ((wrap64 (48+(Int.tmod x4_1 10))) % 256) [.int .u8 ((wrap64 (48+(Int.tmod x4_1 10))) % 256)]from rfl) (bn.none _ _)));intro v163 w12 ho13 hb hg_ hnew_;clear hg_ hnew_;(first|rw[←Ny162.out]at ho13|(simp only[Int.reduceToNat]at ho13;rw[←Ny162.out]at ho13));have HO164:=aa (Kd.cN ho13 (ar (bl HB)));replace HB:=cw HB hb;clear hb ho13;have hcv14:=lV (P:=Tryz.prog) Tryz.underlying28 Tryz.underlying5 Tryz.underlying9 (Kd.hY HO164.out)))
       go_roundg k1
       case measure=>have:=HK1.out;omega
       case rel=>exact⟨((strOfNums y162)++x3_1),(wrap64 (Int.tdiv x4_1 10)),(by first|rfl|(simp;done)|(simp[*];done)),(by first|rfl|(simp;done)|(simp[*];done)),H',⟨by have:=HK1.out;omega⟩,⟨(bl HB)⟩⟩
      ·rw[if_neg c11]at H;exact absurd H (by simp)
end Go.Proofs.YtmipaoobkjppdaaGreatDoor.QFnTexts
