import Derived.Test.YtlkehcbhbflpoaaGreatShr2
import Derived.Test.YtlkehcbhbflpoaaGreatMFnExactRecordVisitx0
import Derived.Test.YtlkehcbhbflpoaaGreatMFnExactRecordVisitx5
import Derived.Test.YtlkehcbhbflpoaaGreatMFnExactRecordVisitx1
namespace Go.Proofs.YtlkehcbhbflpoaaGreat.MFnExactRecordVisit
open Go.RowKit Go.Proofs.YtlkehcbhbflpoaaGreatW.PrintWords Go.Proofs.YtlkehcbhbflpoaaGreatW.PrintLast Go.Proofs.YtlkehcbhbflpoaaGreatW.PrintMore
attribute [local go_sem] max2_int min2_int max_two min_two max_three min_three max_four min_four
set_option linter.unusedVariables false
set_option maxHeartbeats 8000000
set_option maxRecDepth 100000
set_option linter.unusedSimpArgs false

def laws_toIntS.l0:Nat→List Int→List Int→Int→Option (List Int)
  | 0,_,_,_=>none
  | k+1,J,U,D=>if D < (J.length:Int) then(if 0≤D then(if D < (U.length:Int) then(laws_toIntS.l0 k J (U.set (D:Int).toNat (rd J D)) (wrap64 (D+1))) else(none)) else(none)) else(some U)
def laws_toIntS.f (k:Nat)(D:List Int):Option (List Int):=if 0≤(D.length:Int) then(if ((D.length:Int):Int).toNat≤35184372088832 then(laws_toIntS.l0 k D (List.replicate ((D.length:Int):Int).toNat 0) 0) else(none)) else(none)
theorem laws_toIntS.calls (k:Nat)(A0:Option Addr)(c0:Nat)(J:List Int)(r:List Int)(w:World)(au:Kd.C (Kd.int .i64) w A0 J.length J)(av:J.length≤c0)(h:laws_toIntS.f k J=some r) :
  Calls Tryz.prog 26 #[.slice A0 J.length c0] w fun e w'=>∃ aw:Value,e = .returned (aw)∧Kd.R (Kd.int .i64) 3 w' w.heap.size (fun _=>True) aw r∧Below w.heap.size w w':=by
 have bm:=ak au;have bz:=ak av;clear au av;have HB:=ak (Below.refl w.heap.size w);have H:=h;clear h;unfold laws_toIntS.f at H
 by_cases c2:0≤(J.length:Int)
 ·rw[if_pos c2] at H;have ba:=eq_true c2;have bb:decide (0≤(J.length:Int))=true:=decide_eq_true c2;clear c2
  by_cases c3:((J.length:Int):Int).toNat≤35184372088832
  ·rw[if_pos c3] at H;have bc:=eq_true c3;have bd:decide (((J.length:Int):Int).toNat≤35184372088832)=true:=decide_eq_true c3;clear c3;obtain⟨aj,Y⟩:∃ y_:List Int,y_=(List.replicate ((J.length:Int):Int).toNat 0):=⟨_,rfl⟩
   replace H:(laws_toIntS.l0 k J aj 0)=some r:=by first|(rw[Y];with_reducible exact H)|(have H2_:=(Option.bind_some _ _).symm.trans H;rw[Y];with_reducible exact H2_)|exact H
   have af:=ak Y;clear Y;have H':=ak H;clear H;go_enter Tryz.func26,Tryz.ntmps26;go_wp2_with (first|((with_reducible refine gate_dst (N:=7) rfl ?_);refine Kd.R_make (Kd.int .i64) _ 3 rfl (N:=7) rfl 24 _ _ rfl (J.length:Int) rfl rfl Tryz.underlying24 (.int .i64 0) 8 info3 rfl (by decide) (by omega) 0 (ok:=fun _=>True) (okp:=fun _=>True) rfl (fun _ hk=>hk) trivial (od) (Nat.le_trans (Nat.mul_le_mul_right _ (od:(J.length:Int).toNat≤35184372088832)) (by omega)) (Below.refl _ _) (Nat.le_refl _) ?_;intro bf w4 ho5 hb hg_ hnew_;clear hg_ hnew_;(first|rw[←af.out] at ho5|(simp only[Int.reduceToNat] at ho5;rw[←af.out] at ho5));have ao:=Rn0 ho5 HB;replace HB:=bs HB hb;clear hb ho5))
   go_loopg [4] k (fun kq v4 w'=>∃(U:List Int)(D:Int),v4 = .int .i64 D∧Aside0 (laws_toIntS.l0 kq J U D=some r)∧Aside0 (kq≤k)∧Aside0 (Kd.R (Kd.int .i64) 3 w' w.heap.size (fun _=>True) bf U)∧Aside0 (Below w.heap.size w w'))
   case atStart=>exact⟨(aj),(0),FR,H',⟨Nat.le_refl _⟩,⟨PR ao⟩,⟨PB⟩⟩
   case round =>
    clear H';(try clear c2);(try clear ba);(try clear bb);(try clear p2);(try clear c3);(try clear bc);(try clear bd);obtain⟨U,D,rfl,HA,ax,X,HB⟩:=hrel
    cases gk with
    | zero=>exact absurd HA.out (by simp[laws_toIntS.l0])
    | succ k1 =>
     have H:=HA.out;clear HA;simp only[laws_toIntS.l0] at H
     by_cases c6:D < (J.length:Int)
     ·rw[if_pos c6] at H;have bg:decide (D < (J.length:Int))=true:=decide_eq_true c6;clear c6
      by_cases c7:0≤D
      ·rw[if_pos c7] at H;have bw:decide (0≤D)=true:=decide_eq_true c7;clear c7
       by_cases c8:D < (U.length:Int)
       ·rw[if_pos c8] at H;have bx:decide (D < (U.length:Int))=true:=decide_eq_true c8;clear c8;obtain⟨ab,Z⟩:∃ y_:List Int,y_=(U.set (D:Int).toNat (rd J D)):=⟨_,rfl⟩
        replace H:(laws_toIntS.l0 k1 J ab (wrap64 (D+1)))=some r:=by first|(rw[Z];with_reducible exact H)|(have H2_:=(Option.bind_some _ _).symm.trans H;rw[Z];with_reducible exact H2_)|exact H
        have ar:=ak Z;clear Z;have H':=ak H;clear H;have ac:0≤(D:Int):=od;have ae:D < (J.length:Int):=od;obtain⟨br,bh,aa⟩:=Kd.at_int bm.out D ac ae;cases bh;replace aa:=hx_ HB aa;replace ac:=eq_true ac;replace ae:=eq_true ae;have p9:0≤(D:Int):=od;have q9:(D:Int) < ((U.length:Int):Int):=od;obtain⟨al,bo,ay,az,gl9,cl9,HG9⟩:=Kd.R_form X.out (by omega);(first|cases ay|(injection ay with ea_ en_ ec_;(first|subst ea_|(injection ea_ with ea_;subst ea_));subst ec_;clear en_));have bp:=ak az;have GG9:=ak HG9;clear az gl9 HG9;obtain⟨bu,hf9_0⟩:=Kd.R_celln 0 X.out (D:Int) p9 q9;replace p9:=eq_true p9;replace q9:=eq_true q9;have HP10:=Kd.R_putg X.out (D:Int) (rd J D);go_wp2_with (first|((with_reducible refine gate_store (t:=3) (p:=20) rfl ?_);refine store_event (t:=3) (p:=20) (v:=?vo_w11) (w1:=(wr.setCell ⟨al,(D:Int).toNat,none⟩ (.int .i64 (rd J D)))) ?hg ?ho ?hn ?hr ?_;(case ho=>rfl);(case hg=>rfl);(case hn=>rfl);(case hr=>first|(go_simp;done)|(go_simp;rfl));intro am hw;have hg:wr.grownBy am (some al):=(by rw[hw];exact HP10.2);have hp_:Kd.R (Kd.int .i64) 3 am w.heap.size (fun _=>True) (.slice (some ⟨al,0,none⟩) U.length bo) ab:=(by rw[hw,ar.out];exact HP10.1);clear HP10;replace X:=ak (hp_);replace HB:=ak ((by rw[hw];exact below_set (HB.out) bp.out:Below w.heap.size w am));clear hg hw hp_))
        go_roundg k1
        case measure=>have:=ax.out;omega
        case rel=>exact⟨(ab),(wrap64 (D+1)),FR,H',⟨by have:=ax.out;omega⟩,⟨PR X⟩,⟨PB⟩⟩
       ·rw[if_neg c8] at H;exact absurd H (by simp)
      ·rw[if_neg c7] at H;exact absurd H (by simp)
     ·rw[if_neg c6] at H;have bg:decide (D < (J.length:Int))=false:=decide_eq_false c6;clear c6;obtain rfl:=Option.some.inj H;go_wp2
      go_ret
      exact⟨_,RT,by(with_reducible repeat(first|apply Kd.R_alloc | apply Kd.R_drewN | apply Kd.R_drew));exact X.out,PB⟩
  ·rw[if_neg c3] at H;exact absurd H (by simp)
 ·rw[if_neg c2] at H;exact absurd H (by simp)
def laws_toResource.f (k:Nat)(J:Int)(U:List Int)(X:Int)(Y:Int)(Z:Int):Option (Int×List Int×Int×Int×Int):=(laws_toIntS.f k U).bind fun aa=>((laws_toAddress.f X Y Z).bind fun D=>(some (J,aa,D.1,D.2.1,D.2.2)))
theorem laws_toResource.calls (k:Nat)(Y:Int)(ae:Option Addr)(af:Nat)(X:List Int)(aa:Int)(ab:Int)(ac:Int)(r1:Int)(r2:List Int)(r3:Int)(r4:Int)(r5:Int)(w:World)(ap:Kd.C (Kd.int .i64) w ae X.length X)(aq:X.length≤af)(h:laws_toResource.f k Y X aa ab ac=some (r1,r2,r3,r4,r5)) :
  Calls Tryz.prog 70 #[.agg #[.int .i64 Y,.slice ae X.length af,.int .i64 aa,.int .i64 ab,.int .i64 ac]] w fun e w'=>∃ bb:Value,e = .returned (.agg #[.int .i64 r1,bb,.int .i64 r3,.int .i64 r4,.int .i64 r5])∧Kd.R (Kd.int .i64) 3 w' w.heap.size (fun _=>True) bb r2∧Below w.heap.size w w':=by
 have dh:=Tryz.underlying74;have di:=Tryz.underlying87;have dj:=Tryz.underlying72;have dk:=Tryz.underlying64;have ay:=ak ap;have az:=ak aq;clear ap aq;have HB:=ak (Below.refl w.heap.size w);have H:=h;clear h;unfold laws_toResource.f at H;replace H:=Option.bind_eq_some_iff.mp H;obtain⟨ao,bc,H⟩:=H;(try dsimp only at H);have A2:=ak bc;clear bc;replace H:=Option.bind_eq_some_iff.mp H;obtain⟨⟨ar,au,av⟩,bd,H⟩:=H;(try dsimp only at H);have A3:=ak bd;clear bd;simp only[Option.some.injEq,Prod.mk.injEq] at H;obtain⟨rfl,rfl,rfl,rfl,rfl⟩:=H;go_enter Tryz.func70,Tryz.ntmps70;go_wp2_with (first|((with_reducible refine gate_dst (N:=1) rfl ?_);refine bx_ (N:=1) #[.int .i64 Y,.slice ae X.length af,.int .i64 aa,.int .i64 ab,.int .i64 ac] 74 ?_;intro cz hg w4 hbox hb;have D:=ak hbox;have da:=gy hg HB;replace HB:=bs HB hb;clear hb hbox hg)|((with_reducible refine gate_dst (N:=2) rfl ?_);refine bx_ (N:=2) #[.int .i64 0,.slice none 0 0,.int .i64 0,.int .i64 0,.int .i64 0] 87 ?_;intro ba hg w5 hbox hb;have J:=ak hbox;have db:=gy hg HB;replace HB:=bs HB hb;have ag:=gm hg D;have ah:=gn hg D;replace D:=kf D hb;clear hb hbox hg)|((with_reducible refine gate_dst (N:=3) rfl ?_);refine bx_ (N:=3) #[.int .i64 0,.slice none 0 0,.int .i64 0,.int .i64 0,.int .i64 0] 87 ?_;intro dc hg w6 hbox hb;have U:=ak hbox;have de:=gy hg HB;replace HB:=bs HB hb;have ai:=gm hg D;have aj:=gn hg D;replace D:=kf D hb;have al:=gm hg J;have am:=gn hg J;replace J:=kf J hb;clear hb hbox hg;have dp:=ag.out;have dq:=ah.out;have dr:=ai.out;have dt:=aj.out;obtain⟨co,cp,cq,cr,ct,cu,cv,cw,cx,cy⟩:=bc5 D;have df:=am.out;have dg:=al.out;obtain⟨_,_,_,_,_,_,_,_,_,_⟩:=bc5 U)|((with_reducible refine gate_callee (f:=26) rfl ?_);refine goesL_ (some 9) rfl rfl Tryz.func26 KR rfl #[.slice ae X.length af] rfl AR ?_;(with_reducible refine(laws_toIntS.calls k _ _ X ao _ ?side1 ?side2 A2.out).mono ?_);(case side1=>exact Kd.C_below ay.out PB);(case side2=>exact az.out);rintro e dv ⟨du,rfl,ho0,hb⟩;refine⟨_,rfl,?_⟩;have Z:=Rn0 ho0 HB;replace D:=kf D hb;replace J:=kf J hb;replace U:=kp (cs':=#[.int .i64 Y,.slice none 0 0,.int .i64 0,.int .i64 0,.int .i64 0]) U hb;replace HB:=bs HB hb;clear hb ho0;obtain⟨aw,ax,rfl⟩:=Kd.R_slice Z.out;obtain⟨bf,bg,bh,bi,_,bj,bk,bl,bm,_⟩:=bc5 U;obtain⟨bo,bp,br,bu,bv,bw,bx,bz,b0,b4⟩:=bc5 D)|((with_reducible refine gate_callee (f:=69) rfl ?_);refine goesL_ (some 13) rfl rfl Tryz.func69 KR rfl #[.agg #[.int .i64 aa,.int .i64 ab,.int .i64 ac]] rfl AR ?_;(with_reducible refine(laws_toAddress.calls aa ab ac ar au av _ A3.out).mono ?_);rintro e dw ⟨rfl,hb⟩;refine⟨_,rfl,?_⟩;replace Z:=ak (Kd.R_below (Re1 Z U) hb);replace D:=kf D hb;replace J:=kf J hb;replace U:=kp (cs':=#[.int .i64 Y,.slice aw ao.length ax,.int .i64 0,.int .i64 0,.int .i64 0]) U hb;replace HB:=bs HB hb;clear hb;obtain⟨b5,b6,b7,b8,b9,ca,cb,cd,ce,cf⟩:=bc5 U;obtain⟨cg,ch,ci,cj,_,ck,cl,cm,cn,_⟩:=bc5 J));refine bodyPost_ret (results_cell_row rfl _ _ ba 87 #[.int .i64 Y,.slice aw ao.length ax,.int .i64 ar,.int .i64 au,.int .i64 av] (0,0) _ rfl (PX J) Tryz.underlying87 rfl KR) rfl ?_;exact⟨_,RT,RX (Rt (Rt Z.out U) J) (fun _ hk=>trivial),PB⟩
def laws_toVersion.f (k:Nat)(U:Int)(X:Int)(Y:Int)(Z:Int)(aa:Int)(ab:List Int)(ac:Int)(ae:Int)(af:Int):Option (Int×Int×Int×Int×Int×List Int×Int×Int×Int):=(laws_toAddress.f U X Y).bind fun J=>((laws_toResource.f k aa ab ac ae af).bind fun D=>(some (J.1,J.2.1,J.2.2,Z,D.1,D.2.1,D.2.2.1,D.2.2.2.1,D.2.2.2.2)))
theorem laws_toVersion.calls (k:Nat)(Y:Int)(Z:Int)(aa:Int)(ab:Int)(ac:Int)(ah:Option Addr)(ai:Nat)(X:List Int)(ae:Int)(af:Int)(ag:Int)(r1:Int)(r2:Int)(r3:Int)(r4:Int)(r5:Int)(r6:List Int)(r7:Int)(r8:Int)(r9:Int)(w:World)(aw:Kd.C (Kd.int .i64) w ah X.length X)(ax:X.length≤ai)(h:laws_toVersion.f k Y Z aa ab ac X ae af ag=some (r1,r2,r3,r4,r5,r6,r7,r8,r9)) :
  Calls Tryz.prog 44 #[.agg #[.int .i64 Y,.int .i64 Z,.int .i64 aa,.int .i64 ab,.int .i64 ac,.slice ah X.length ai,.int .i64 ae,.int .i64 af,.int .i64 ag]] w fun e w'=>∃ bi:Value,e = .returned (.agg #[.int .i64 r1,.int .i64 r2,.int .i64 r3,.int .i64 r4,.int .i64 r5,bi,.int .i64 r7,.int .i64 r8,.int .i64 r9])∧Kd.R (Kd.int .i64) 3 w' w.heap.size (fun _=>True) bi r6∧Below w.heap.size w w':=by
 have dh:=Tryz.underlying76;have di:=Tryz.underlying89;have dj:=Tryz.underlying72;have dk:=Tryz.underlying64;have dl:=Tryz.underlying74;have dn:=Tryz.underlying87;have bf:=ak aw;have bg:=ak ax;clear aw ax;have HB:=ak (Below.refl w.heap.size w);have H:=h;clear h;unfold laws_toVersion.f at H;replace H:=Option.bind_eq_some_iff.mp H;obtain⟨⟨ar,au,av⟩,bj,H⟩:=H;(try dsimp only at H);have A2:=ak bj;clear bj;replace H:=Option.bind_eq_some_iff.mp H;obtain⟨⟨az,ba,bb,bc,bd⟩,bk,H⟩:=H;(try dsimp only at H);have A3:=ak bk;clear bk;simp only[Option.some.injEq,Prod.mk.injEq] at H;obtain⟨rfl,rfl,rfl,rfl,rfl,rfl,rfl,rfl,rfl⟩:=H;go_enter Tryz.func44,Tryz.ntmps44;go_wp2_with (first|((with_reducible refine gate_dst (N:=1) rfl ?_);refine bx_ (N:=1) #[.int .i64 Y,.int .i64 Z,.int .i64 aa,.int .i64 ab,.int .i64 ac,.slice ah X.length ai,.int .i64 ae,.int .i64 af,.int .i64 ag] 76 ?_;intro cz hg w4 hbox hb;have D:=ak hbox;have da:=gy hg HB;replace HB:=bs HB hb;clear hb hbox hg)|((with_reducible refine gate_dst (N:=2) rfl ?_);refine bx_ (N:=2) #[.int .i64 0,.int .i64 0,.int .i64 0,.int .i64 0,.int .i64 0,.slice none 0 0,.int .i64 0,.int .i64 0,.int .i64 0] 89 ?_;intro bh hg w5 hbox hb;have J:=ak hbox;have db:=gy hg HB;replace HB:=bs HB hb;have aj:=gm hg D;have al:=gn hg D;replace D:=kf D hb;clear hb hbox hg)|((with_reducible refine gate_dst (N:=3) rfl ?_);refine bx_ (N:=3) #[.int .i64 0,.int .i64 0,.int .i64 0,.int .i64 0,.int .i64 0,.slice none 0 0,.int .i64 0,.int .i64 0,.int .i64 0] 89 ?_;intro dc hg w6 hbox hb;have U:=ak hbox;have de:=gy hg HB;replace HB:=bs HB hb;have am:=gm hg D;have ao:=gn hg D;replace D:=kf D hb;have ap:=gm hg J;have aq:=gn hg J;replace J:=kf J hb;clear hb hbox hg;have dr:=aj.out;have dt:=al.out;have du:=am.out;have dv:=ao.out;obtain⟨co,cp,cq,cr,ct,_,_,_,_,cu,cv,cw,cx,cy,_,_,_,_⟩:=bc9 D)|((with_reducible refine gate_callee (f:=69) rfl ?_);refine goesL_ (some 6) rfl rfl Tryz.func69 KR rfl #[.agg #[.int .i64 Y,.int .i64 Z,.int .i64 aa]] rfl AR ?_;(with_reducible refine(laws_toAddress.calls Y Z aa ar au av _ A2.out).mono ?_);rintro e dx ⟨rfl,hb⟩;refine⟨_,rfl,?_⟩;replace D:=kf D hb;replace J:=kf J hb;replace U:=kf U hb;replace HB:=bs HB hb;clear hb;have df:=aq.out;have dg:=ap.out;obtain⟨_,_,_,_,_,_,_,_,_,_,_,_,_,_,_,_,_,_⟩:=bc9 U;obtain⟨bo,bp,br,bu,_,_,_,_,_,bv,bw,bx,bz,_,_,_,_,_⟩:=bc9 D)|((with_reducible refine gate_callee (f:=70) rfl ?_);refine goesL_ (some 13) rfl rfl Tryz.func70 KR rfl #[.agg #[.int .i64 ac,.slice ah X.length ai,.int .i64 ae,.int .i64 af,.int .i64 ag]] rfl AR ?_;(with_reducible refine(laws_toResource.calls k ac _ _ X ae af ag az ba bb bc bd _ ?side1 ?side2 A3.out).mono ?_);(case side1=>exact Kd.C_below bf.out PB);(case side2=>exact bg.out);rintro e dy ⟨dw,rfl,ho0,hb⟩;refine⟨_,rfl,?_⟩;have ay:=Rn0 ho0 HB;replace D:=kf D hb;replace J:=kf J hb;replace U:=kp (cs':=#[.int .i64 ar,.int .i64 au,.int .i64 av,.int .i64 ab,.int .i64 0,.slice none 0 0,.int .i64 0,.int .i64 0,.int .i64 0]) U hb;replace HB:=bs HB hb;clear hb ho0;obtain⟨b0,b4,b5,b6,b7,_,_,_,_,b8,b9,ca,cb,cd,_,_,_,_⟩:=bc9 U;obtain⟨bl,bm,rfl⟩:=Kd.R_slice ay.out;obtain⟨ce,cf,cg,ch,ci,_,_,_,_,cj,ck,cl,cm,cn,_,_,_,_⟩:=bc9 J));refine bodyPost_ret (results_cell_row rfl _ _ bh 89 #[.int .i64 ar,.int .i64 au,.int .i64 av,.int .i64 ab,.int .i64 az,.slice bl ba.length bm,.int .i64 bb,.int .i64 bc,.int .i64 bd] (0,0) _ rfl (PX J) Tryz.underlying89 rfl KR) rfl ?_;exact⟨_,RT,RX (Rt (Rt ay.out U) J) (fun _ hk=>trivial),PB⟩
def laws_toVersionS.l0:Nat→List (S76)→List (S89)→Int→Option ((List (S89)))
  | 0,_,_,_=>none
  | k+1,U,X,J=>if J < (U.length:Int) then(if 0≤J then((laws_toVersion.f k ((rd_T76 U J).f0.f0) ((rd_T76 U J).f0.f1) ((rd_T76 U J).f0.f2) ((rd_T76 U J).f1) ((rd_T76 U J).f2.f0) ((rd_T76 U J).f2.f1) ((rd_T76 U J).f2.f2.f0) ((rd_T76 U J).f2.f2.f1) ((rd_T76 U J).f2.f2.f2)).bind fun D=>(if J < (X.length:Int) then(laws_toVersionS.l0 k U (X.set (J:Int).toNat (⟨(⟨D.1,D.2.1,D.2.2.1⟩:S64),D.2.2.2.1,(⟨D.2.2.2.2.1,D.2.2.2.2.2.1,(⟨D.2.2.2.2.2.2.1,D.2.2.2.2.2.2.2.1,D.2.2.2.2.2.2.2.2⟩:S64)⟩:S87)⟩:S89)) (wrap64 (J+1))) else(none))) else(none)) else(some X)
def laws_toVersionS.f (k:Nat)(D:List (S76)):Option ((List (S89))):=if 0≤(D.length:Int) then(if ((D.length:Int):Int).toNat≤3198579280802 then(laws_toVersionS.l0 k D (List.replicate ((D.length:Int):Int).toNat z89) 0) else(none)) else(none)
theorem laws_toVersionS.calls (k:Nat)(A0:Option Addr)(c0:Nat)(X:List (S76))(r:List (S89))(w:World)(ck:Kd.C k76 w A0 X.length X)(cl:X.length≤c0)(h:laws_toVersionS.f k X=some r) :
  Calls Tryz.prog 25 #[.slice A0 X.length c0] w fun e w'=>∃ cm:Value,e = .returned (cm)∧Kd.S k89 89 w' w.heap.size (fun _=>True) cm r∧Below w.heap.size w w':=by
 have dn:=Tryz.underlying76;have dp:=Tryz.underlying89;have da:=ak ck;have dw:=ak cl;clear ck cl;have HB:=ak (Below.refl w.heap.size w);have H:=h;clear h;unfold laws_toVersionS.f at H
 by_cases c2:0≤(X.length:Int)
 ·rw[if_pos c2] at H;have cp:=eq_true c2;have cq:decide (0≤(X.length:Int))=true:=decide_eq_true c2;clear c2
  by_cases c3:((X.length:Int):Int).toNat≤3198579280802
  ·rw[if_pos c3] at H;have cr:=eq_true c3;have ct:decide (((X.length:Int):Int).toNat≤3198579280802)=true:=decide_eq_true c3;clear c3;obtain⟨br,am⟩:∃ y_:List (S89),y_=(List.replicate ((X.length:Int):Int).toNat z89):=⟨_,rfl⟩
   replace H:(laws_toVersionS.l0 k X br 0)=some r:=by first|(rw[am];with_reducible exact H)|(have H2_:=(Option.bind_some _ _).symm.trans H;rw[am];with_reducible exact H2_)|exact H
   have bj:=ak am;clear am;have H':=ak H;clear H;go_enter Tryz.func25,Tryz.ntmps25;go_wp2_with (first|((with_reducible refine gate_dst (N:=7) rfl ?_);refine Kd.S_make k89 _ 89 rfl (N:=7) rfl 36 _ _ rfl (X.length:Int) rfl rfl Tryz.underlying36 (.agg #[(.int .i64 0),(.int .i64 0),(.int .i64 0),(.int .i64 0),(.int .i64 0),(.slice none 0 0),(.int .i64 0),(.int .i64 0),(.int .i64 0)]) 88 info89 rfl (by decide) (by omega) z89 (ok:=fun _=>True) (okp:=fun _=>True) (k89_mkM _ _ _ z89 (Kd.R_nil _ _ _ _ _)) (fun _ hk=>hk) trivial (od) (Nat.le_trans (Nat.mul_le_mul_right _ (od:(X.length:Int).toNat≤3198579280802)) (by omega)) (Below.refl _ _) (Nat.le_refl _) ?_;intro cu w4 ho5 hb hg_ hnew_;clear hg_ hnew_;(first|rw[←bj.out] at ho5|(simp only[Int.reduceToNat] at ho5;rw[←bj.out] at ho5));have cg:=ak (Kd.S_lower ho5 (below_size PB));replace HB:=bs HB hb;clear hb ho5))
   go_loopg [4] k (fun kq v4 w'=>∃(U:List (S89))(D:Int),v4 = .int .i64 D∧Aside0 (laws_toVersionS.l0 kq X U D=some r)∧Aside0 (kq≤k)∧Aside0 (Kd.S k89 89 w' w.heap.size (fun _=>True) cu U)∧Aside0 (Below w.heap.size w w'))
   case atStart=>exact⟨(br),(0),FR,H',⟨Nat.le_refl _⟩,⟨PS cg⟩,⟨PB⟩⟩
   case round =>
    clear H';(try clear c2);(try clear cp);(try clear cq);(try clear p2);(try clear c3);(try clear cr);(try clear ct);obtain⟨U,D,rfl,HA,cn,Z,HB⟩:=hrel
    cases gk with
    | zero=>exact absurd HA.out (by simp[laws_toVersionS.l0])
    | succ k1 =>
     have H:=HA.out;clear HA;simp only[laws_toVersionS.l0] at H
     by_cases c6:D < (X.length:Int)
     ·rw[if_pos c6] at H;have cv:decide (D < (X.length:Int))=true:=decide_eq_true c6;clear c6
      by_cases c7:0≤D
      ·rw[if_pos c7] at H;have dr:decide (0≤D)=true:=decide_eq_true c7;clear c7;replace H:=Option.bind_eq_some_iff.mp H;obtain⟨⟨ac,ae,af,ag,ah,ab,ai,aj,al⟩,co,H⟩:=H;(try dsimp only at H);have A8:=ak co;clear co
       by_cases c9:D < (U.length:Int)
       ·rw[if_pos c9] at H;have du:decide (D < (U.length:Int))=true:=decide_eq_true c9;clear c9;obtain⟨bg,ao⟩:∃ y_:List (S89),y_=(U.set (D:Int).toNat (⟨(⟨ac,ae,af⟩:S64),ag,(⟨ah,ab,(⟨ai,aj,al⟩:S64)⟩:S87)⟩:S89)):=⟨_,rfl⟩
        replace H:(laws_toVersionS.l0 k1 X bg (wrap64 (D+1)))=some r:=by first|(rw[ao];with_reducible exact H)|(have H2_:=(Option.bind_some _ _).symm.trans H;rw[ao];with_reducible exact H2_)|exact H
        have cj:=ak ao;clear ao;have H':=ak H;clear H;have bh:0≤(D:Int):=od;have bi:D < (X.length:Int):=od;obtain⟨dl,bu,bv,cw,au,av,aw,ax,ay,az,ba,bb,bc,bd,bf⟩:=at_T76 da.out D bh bi;cases cw;replace au:=hx_ HB au;replace av:=hx_ HB av;replace aw:=hx_ HB aw;replace ax:=hx_ HB ax;replace ay:=hx_ HB ay;replace az:=hx_ HB az;replace ba:=hx_ HB ba;replace bb:=hx_ HB bb;replace bc:=hx_ HB bc;have bo:=ak bf;have bp:=ak bd;clear bf bd;replace bh:=eq_true bh;replace bi:=eq_true bi;go_wp2_with (first|((with_reducible refine gate_callee (f:=44) rfl ?_);refine goesL_ (some 20) rfl rfl Tryz.func44 KR rfl #[.agg #[.int .i64 ((rd_T76 X D).f0.f0),.int .i64 ((rd_T76 X D).f0.f1),.int .i64 ((rd_T76 X D).f0.f2),.int .i64 ((rd_T76 X D).f1),.int .i64 ((rd_T76 X D).f2.f0),.slice bu ((rd_T76 X D).f2.f1).length bv,.int .i64 ((rd_T76 X D).f2.f2.f0),.int .i64 ((rd_T76 X D).f2.f2.f1),.int .i64 ((rd_T76 X D).f2.f2.f2)]] rfl AR ?_;(with_reducible refine(laws_toVersion.calls k1 ((rd_T76 X D).f0.f0) ((rd_T76 X D).f0.f1) ((rd_T76 X D).f0.f2) ((rd_T76 X D).f1) ((rd_T76 X D).f2.f0) _ _ ((rd_T76 X D).f2.f1) ((rd_T76 X D).f2.f2.f0) ((rd_T76 X D).f2.f2.f1) ((rd_T76 X D).f2.f2.f2) ac ae af ag ah ab ai aj al _ ?side1 ?side2 A8.out).mono ?_);(case side1=>exact CR (Kd.C_below bo.out HB.out));(case side2=>exact bp.out);rintro e Y ⟨dv,rfl,ho0,hb⟩;refine⟨_,rfl,?_⟩;replace Z:=ak (Kd.S_elder' (PS Z) (Kd.R_base ho0) hb);have ap:=Rn0 ho0 HB;replace HB:=bs HB hb;clear hb ho0;obtain⟨aq,ar,rfl⟩:=Kd.R_slice ap.out;have bw:0≤(D:Int):=od;have bx:(D:Int) < ((U.length:Int):Int):=od;obtain⟨J,bz,b0,b4,gl10,cl10,HG10⟩:=Kd.S_form Z.out (by omega);(first|cases b0|(injection b0 with ea_ en_ ec_;(first|subst ea_|(injection ea_ with ea_;subst ea_));subst ec_;clear en_));have aa:=ak b4;have GG10:=ak HG10;clear b4 gl10 HG10;obtain⟨_,ce10,hcl10,hM10,hcc10,hfr10,_,_⟩:=Kd.S_elem Z.out z89 (D:Int) bw bx;obtain⟨ve10_5,rfl,ge10_5⟩:=k89_openM hM10;have db:Y.cell? ⟨J,(D:Int).toNat * 9,none⟩=some (.int .i64 ((rd_T89 U D).f0.f0)):=hcc10 0 _ rfl;have dc:Y.cell? ⟨J,(D:Int).toNat * 9+1,none⟩=some (.int .i64 ((rd_T89 U D).f0.f1)):=hcc10 1 _ rfl;have de:Y.cell? ⟨J,(D:Int).toNat * 9+2,none⟩=some (.int .i64 ((rd_T89 U D).f0.f2)):=hcc10 2 _ rfl;have df:Y.cell? ⟨J,(D:Int).toNat * 9+3,none⟩=some (.int .i64 ((rd_T89 U D).f1)):=hcc10 3 _ rfl;have dg:Y.cell? ⟨J,(D:Int).toNat * 9+4,none⟩=some (.int .i64 ((rd_T89 U D).f2.f0)):=hcc10 4 _ rfl;have dh:Y.cell? ⟨J,(D:Int).toNat * 9+5,none⟩=some (ve10_5):=hcc10 5 _ rfl;have di:Y.cell? ⟨J,(D:Int).toNat * 9+6,none⟩=some (.int .i64 ((rd_T89 U D).f2.f2.f0)):=hcc10 6 _ rfl;have dj:Y.cell? ⟨J,(D:Int).toNat * 9+7,none⟩=some (.int .i64 ((rd_T89 U D).f2.f2.f1)):=hcc10 7 _ rfl;have dk:Y.cell? ⟨J,(D:Int).toNat * 9+8,none⟩=some (.int .i64 ((rd_T89 U D).f2.f2.f2)):=hcc10 8 _ rfl;have hf10_0:Y.frozen? ⟨J,(D:Int).toNat * 9,none⟩=false:=hfr10 0;have hf10_1:Y.frozen? ⟨J,(D:Int).toNat * 9+1,none⟩=false:=hfr10 1;have hf10_2:Y.frozen? ⟨J,(D:Int).toNat * 9+2,none⟩=false:=hfr10 2;have hf10_3:Y.frozen? ⟨J,(D:Int).toNat * 9+3,none⟩=false:=hfr10 3;have hf10_4:Y.frozen? ⟨J,(D:Int).toNat * 9+4,none⟩=false:=hfr10 4;have hf10_5:Y.frozen? ⟨J,(D:Int).toNat * 9+5,none⟩=false:=hfr10 5;have hf10_6:Y.frozen? ⟨J,(D:Int).toNat * 9+6,none⟩=false:=hfr10 6;have hf10_7:Y.frozen? ⟨J,(D:Int).toNat * 9+7,none⟩=false:=hfr10 7;have hf10_8:Y.frozen? ⟨J,(D:Int).toNat * 9+8,none⟩=false:=hfr10 8;clear hcl10 hcc10 hfr10 hM10;replace bw:=eq_true bw;replace bx:=eq_true bx;have n_:=ak (Kd.S_mono (ok':=(fun k_=>some k_≠((.slice aq ab.length ar):Value).ownBlock)) Z.out (fun k_ hk=>by first|exact hk.2 | simp_all));clear Z;have Z:=n_;clear n_;have cx:=ak (show Kd.S k89 89 Y w.heap.size (fun k_=>((fun _=>True)) k_∧¬((fun k_=>some k_=((.slice aq ab.length ar):Value).ownBlock)) k_) (.slice (some ⟨J,0,none⟩) U.length bz) U from(SX Z.out (fun k_ hk=>⟨trivial,fun e_=>hk e_⟩)));obtain⟨oki12,ce12,hcl12,hM12,hcc12,hfr12,hoki12,hH12⟩:=Kd.S_elem cx.out z89 (D:Int) (od) (by have h_:(D:Int) < ((U.length:Int):Int):=od;first|exact h_|(have e_:=(Kd.S_reads' Z.out).1;omega)|simpa using h_);obtain⟨ve12_5,rfl,ge12_5⟩:=k89_openM hM12;have HP12:=Kd.S_seg hH12 (od) (by have h_:(D:Int) < ((U.length:Int):Int):=od;first|exact h_|(have e_:=(Kd.S_reads' Z.out).1;omega)|simpa using h_) (seg:=[.int .i64 ac,.int .i64 ae,.int .i64 af,.int .i64 ag,.int .i64 ah,(.slice aq ab.length ar),.int .i64 ai,.int .i64 aj,.int .i64 al]) (j:=0) (show 9≤9 from by decide) (x':=(⟨(⟨ac,ae,af⟩:S64),ag,(⟨ah,ab,(⟨ai,aj,al⟩:S64)⟩:S87)⟩:S89)) (k89_mkM _ _ _ (⟨(⟨ac,ae,af⟩:S64),ag,(⟨ah,ab,(⟨ai,aj,al⟩:S64)⟩:S87)⟩:S89) (Kd.R_mono (Kd.R_tight rfl (Kd.R_mono (ok':=fun k_=>((fun _=>True)) k_∧k_≠J) (Kd.R_apart' (ap.out) (Kd.S_typed Z.out) (by decide)) (fun k_ hk=>⟨trivial,fun e_=>(hk.2) (by rw[e_];rfl)⟩))) (fun _ h_=>Or.inr (h_)))) (fun _ hk=>hk) (fun k_ hk_=>((Kd.R_mono (ok':=fun k_=>((fun _=>True)) k_∧k_≠J) (Kd.R_apart' (ap.out) (Kd.S_typed Z.out) (by decide)) (fun k_ hk=>⟨trivial,fun e_=>(hk.2) (by rw[e_];rfl)⟩))).1 k_ hk_.symm);have b5:=hcc12 0 _ rfl;(try simp only[show(k89).sz=9 from rfl,Nat.mul_one,Nat.add_zero] at b5);have hf12_0:=hfr12 0;(try simp only[show(k89).sz=9 from rfl,Nat.mul_one,Nat.add_zero] at hf12_0);have b6:=hcc12 1 _ rfl;(try simp only[show(k89).sz=9 from rfl,Nat.mul_one,Nat.add_zero] at b6);have hf12_1:=hfr12 1;(try simp only[show(k89).sz=9 from rfl,Nat.mul_one,Nat.add_zero] at hf12_1);have b7:=hcc12 2 _ rfl;(try simp only[show(k89).sz=9 from rfl,Nat.mul_one,Nat.add_zero] at b7);have hf12_2:=hfr12 2;(try simp only[show(k89).sz=9 from rfl,Nat.mul_one,Nat.add_zero] at hf12_2);have b8:=hcc12 3 _ rfl;(try simp only[show(k89).sz=9 from rfl,Nat.mul_one,Nat.add_zero] at b8);have hf12_3:=hfr12 3;(try simp only[show(k89).sz=9 from rfl,Nat.mul_one,Nat.add_zero] at hf12_3);have b9:=hcc12 4 _ rfl;(try simp only[show(k89).sz=9 from rfl,Nat.mul_one,Nat.add_zero] at b9);have hf12_4:=hfr12 4;(try simp only[show(k89).sz=9 from rfl,Nat.mul_one,Nat.add_zero] at hf12_4);have ca:=hcc12 5 _ rfl;(try simp only[show(k89).sz=9 from rfl,Nat.mul_one,Nat.add_zero] at ca);have hf12_5:=hfr12 5;(try simp only[show(k89).sz=9 from rfl,Nat.mul_one,Nat.add_zero] at hf12_5);have cb:=hcc12 6 _ rfl;(try simp only[show(k89).sz=9 from rfl,Nat.mul_one,Nat.add_zero] at cb);have hf12_6:=hfr12 6;(try simp only[show(k89).sz=9 from rfl,Nat.mul_one,Nat.add_zero] at hf12_6);have cd:=hcc12 7 _ rfl;(try simp only[show(k89).sz=9 from rfl,Nat.mul_one,Nat.add_zero] at cd);have hf12_7:=hfr12 7;(try simp only[show(k89).sz=9 from rfl,Nat.mul_one,Nat.add_zero] at hf12_7);have ce:=hcc12 8 _ rfl;(try simp only[show(k89).sz=9 from rfl,Nat.mul_one,Nat.add_zero] at ce);have hf12_8:=hfr12 8;(try simp only[show(k89).sz=9 from rfl,Nat.mul_one,Nat.add_zero] at hf12_8);clear hcl12 hcc12 hfr12 hM12 hoki12 hH12)|((with_reducible refine gate_store (t:=89) (p:=21) rfl ?_);refine store_event (t:=89) (p:=21) (v:=?vo_w13) (w1:=(((((((((Y.setCell ⟨J,(D:Int).toNat * 9,none⟩ (.int .i64 ac)).setCell ⟨J,(D:Int).toNat * 9+1,none⟩ (.int .i64 ae)).setCell ⟨J,(D:Int).toNat * 9+2,none⟩ (.int .i64 af)).setCell ⟨J,(D:Int).toNat * 9+3,none⟩ (.int .i64 ag)).setCell ⟨J,(D:Int).toNat * 9+4,none⟩ (.int .i64 ah)).setCell ⟨J,(D:Int).toNat * 9+5,none⟩ ((.slice aq ab.length ar))).setCell ⟨J,(D:Int).toNat * 9+6,none⟩ (.int .i64 ai)).setCell ⟨J,(D:Int).toNat * 9+7,none⟩ (.int .i64 aj)).setCell ⟨J,(D:Int).toNat * 9+8,none⟩ (.int .i64 al))) ?hg ?ho ?hn ?hr ?_;(case ho=>rfl);(case hg=>rfl);(case hn=>rfl);(case hr=>first|(go_simp;done)|(go_simp;rfl));intro cf hw;have hg:Y.grownBy cf (some J):=(by rw[hw];exact HP12.2);have hp_:Kd.S k89 89 cf w.heap.size (fun _=>True) (.slice (some ⟨J,0,none⟩) U.length bz) bg:=(by rw[hw,cj.out];exact HP12.1);clear HP12;replace Z:=ak (hp_);replace HB:=ak ((by rw[hw];exact below_set (below_set (below_set (below_set (below_set (below_set (below_set (below_set (below_set (HB.out) aa.out) aa.out) aa.out) aa.out) aa.out) aa.out) aa.out) aa.out) aa.out:Below w.heap.size w cf));clear ap;clear hg hw hp_))
        go_roundg k1
        case measure=>have:=cn.out;omega
        case rel=>exact⟨(bg),(wrap64 (D+1)),FR,H',⟨by have:=cn.out;omega⟩,⟨PS Z⟩,⟨PB⟩⟩
       ·rw[if_neg c9] at H;exact absurd H (by simp)
      ·rw[if_neg c7] at H;exact absurd H (by simp)
     ·rw[if_neg c6] at H;have cv:decide (D < (X.length:Int))=false:=decide_eq_false c6;clear c6;obtain rfl:=Option.some.inj H;go_wp2
      go_ret
      exact⟨_,RT,by(with_reducible repeat(first|apply Kd.S_alloc | apply Kd.S_drewN | apply Kd.S_drew));exact Z.out,PB⟩
  ·rw[if_neg c3] at H;exact absurd H (by simp)
 ·rw[if_neg c2] at H;exact absurd H (by simp)
def laws_toVisit.f (k:Nat)(D:List (S76))(J:Int)(U:Int)(X:List Int):Option ((List (S89))×Int×Int×List Int):=(laws_toVersionS.f k D).bind fun Y=>((laws_toIntS.f k X).bind fun Z=>(some (Y,J,U,Z)))
theorem laws_toVisit.calls (k:Nat)(ac:Option Addr)(ae:Nat)(X:List (S76))(aa:Int)(ab:Int)(af:Option Addr)(ag:Nat)(Y:List Int)(r1:List (S89))(r2:Int)(r3:Int)(r4:List Int)(w:World)(aq:Kd.C k76 w ac X.length X)(ar:X.length≤ae)(au:Kd.C (Kd.int .i64) w af Y.length Y)(av:Y.length≤ag)(h:laws_toVisit.f k X aa ab Y=some (r1,r2,r3,r4)) :
  Calls Tryz.prog 8 #[.agg #[.slice ac X.length ae,.int .i64 aa,.int .i64 ab,.slice af Y.length ag]] w fun e w'=>∃ bh ax:Value,e = .returned (.agg #[bh,.int .i64 r2,.int .i64 r3,ax])∧Kd.S k89 89 w' w.heap.size (fun k_=>some k_≠(ax:Value).ownBlock) bh r1∧Kd.R (Kd.int .i64) 3 w' w.heap.size (fun _=>True) ax r4∧Below w.heap.size w w':=by
 have dj:=Tryz.underlying26;have dk:=Tryz.underlying38;have bb:=ak aq;have bc:=ak ar;clear aq ar;have bd:=ak au;have bf:=ak av;clear au av;have HB:=ak (Below.refl w.heap.size w);have H:=h;clear h;unfold laws_toVisit.f at H;replace H:=Option.bind_eq_some_iff.mp H;obtain⟨ap,bi,H⟩:=H;(try dsimp only at H);have A2:=ak bi;clear bi;replace H:=Option.bind_eq_some_iff.mp H;obtain⟨ay,bj,H⟩:=H;(try dsimp only at H);have A3:=ak bj;clear bj;simp only[Option.some.injEq,Prod.mk.injEq] at H;obtain⟨rfl,rfl,rfl,rfl⟩:=H;go_enter Tryz.func8,Tryz.ntmps8;go_wp2_with (first|((with_reducible refine gate_dst (N:=1) rfl ?_);refine bx_ (N:=1) #[.slice ac X.length ae,.int .i64 aa,.int .i64 ab,.slice af Y.length ag] 26 ?_;intro db hg w4 hbox hb;have D:=ak hbox;have dc:=gy hg HB;replace HB:=bs HB hb;clear hb hbox hg)|((with_reducible refine gate_dst (N:=2) rfl ?_);refine bx_ (N:=2) #[.slice none 0 0,.int .i64 0,.int .i64 0,.slice none 0 0] 38 ?_;intro bg hg w5 hbox hb;have J:=ak hbox;have de:=gy hg HB;replace HB:=bs HB hb;have ah:=gm hg D;have ai:=gn hg D;replace D:=kf D hb;clear hb hbox hg)|((with_reducible refine gate_dst (N:=3) rfl ?_);refine bx_ (N:=3) #[.slice none 0 0,.int .i64 0,.int .i64 0,.slice none 0 0] 38 ?_;intro df hg w6 hbox hb;have U:=ak hbox;have dg:=gy hg HB;replace HB:=bs HB hb;have aj:=gm hg D;have al:=gn hg D;replace D:=kf D hb;have am:=gm hg J;have ao:=gn hg J;replace J:=kf J hb;clear hb hbox hg;have dp:=ah.out;have dq:=ai.out;have dr:=aj.out;have dt:=al.out;obtain⟨ct,cu,cv,cw,cx,cy,cz,da⟩:=bc4 D)|((with_reducible refine gate_callee (f:=25) rfl ?_);refine goesL_ (some 6) rfl rfl Tryz.func25 KR rfl #[.slice ac X.length ae] rfl AR ?_;(with_reducible refine(laws_toVersionS.calls k _ _ X ap _ ?side1 ?side2 A2.out).mono ?_);(case side1=>exact CR (Kd.C_below bb.out HB.out));(case side2=>exact bc.out);rintro e dw ⟨du,rfl,ho0,hb⟩;refine⟨_,rfl,?_⟩;have Z:=ak (Kd.S_lower ho0 (below_size PB));replace D:=kf D hb;replace J:=kf J hb;replace U:=kf U hb;replace HB:=bs HB hb;clear hb ho0;obtain⟨az,ba,bk⟩:=Kd.S_slice Z.out;subst bk;have dh:=ao.out;have di:=am.out;obtain⟨bo,bp,br,bu,bv,bw,bx,bz⟩:=bc4 U;obtain⟨b0,b4,b5,b6,b7,b8,b9,ca⟩:=bc4 D)|((with_reducible refine gate_callee (f:=26) rfl ?_);refine goesL_ (some 16) rfl rfl Tryz.func26 KR rfl #[.slice af Y.length ag] rfl AR ?_;(with_reducible refine(laws_toIntS.calls k _ _ Y ay _ ?side1 ?side2 A3.out).mono ?_);(case side1=>exact Kd.C_below bd.out PB);(case side2=>exact bf.out);rintro e dx ⟨dv,rfl,ho0,hb⟩;refine⟨_,rfl,?_⟩;replace Z:=ak (Kd.S_elder' (Se1 Z U) (Kd.R_base ho0) hb);have aw:=Rn0 ho0 HB;replace D:=kf D hb;replace J:=kf J hb;replace U:=kp (cs':=#[.slice az ap.length ba,.int .i64 aa,.int .i64 ab,.slice none 0 0]) U hb;replace HB:=bs HB hb;clear hb ho0;obtain⟨bl,bm,rfl⟩:=Kd.R_slice aw.out;obtain⟨cb,cd,ce,cf,cg,ch,ci,cj⟩:=bc4 U;obtain⟨ck,cl,cm,cn,co,cp,cq,cr⟩:=bc4 J));refine bodyPost_ret (results_cell_row rfl _ _ bg 38 #[.slice az ap.length ba,.int .i64 aa,.int .i64 ab,.slice bl ay.length bm] (0,0) _ rfl (PX J) Tryz.underlying38 rfl KR) rfl ?_;exact⟨_,_,RT,SX (St (St Z.out U) J) (fun _ hk=>by first|exact hk.1.1.2 | simp_all),RX (Rt (Rt aw.out U) J) (fun _ hk=>trivial),PB⟩

def impl_StartState.f  : Option (Int×List Int×List Int×List Int):=if 4≤35184372088832 then(if 3≤35184372088832 then(some (0,(List.replicate 4 0),(List.replicate 3 0),(List.replicate 4 0))) else(none)) else(none)
theorem impl_StartState.calls  (r1:Int)(r2:List Int)(r3:List Int)(r4:List Int)(w:World)(h:impl_StartState.f =some (r1,r2,r3,r4)) :
  Calls Tryz.prog 45 #[] w fun e w'=>∃ bc bd bf:Value,e = .returned (.agg #[.int .i64 r1,bc,bd,bf])∧Kd.R (Kd.int .i64) 3 w' w.heap.size (fun k_=>some k_≠(bd:Value).ownBlock∧some k_≠(bf:Value).ownBlock) bc r2∧Kd.R (Kd.int .i64) 3 w' w.heap.size (fun k_=>some k_≠(bc:Value).ownBlock∧some k_≠(bf:Value).ownBlock) bd r3∧Kd.R (Kd.int .i64) 3 w' w.heap.size (fun k_=>some k_≠(bc:Value).ownBlock∧some k_≠(bd:Value).ownBlock) bf r4∧Below w.heap.size w w':=by
 have b0:=Tryz.underlying31;have HB:=ak (Below.refl w.heap.size w);have H:=h;clear h;unfold impl_StartState.f at H
 by_cases c1:4≤35184372088832
 ·rw[if_pos c1] at H;have b4:=eq_true c1;have b5:decide (4≤35184372088832)=true:=decide_eq_true c1;clear c1;obtain⟨ac,aq⟩:∃ y_:List Int,y_=(List.replicate 4 0):=⟨_,rfl⟩
  replace H:(if 3≤35184372088832 then(some (0,ac,(List.replicate 3 0),(List.replicate 4 0))) else(none))=some (r1,r2,r3,r4):=by first|(rw[aq];with_reducible exact H)|(have H2_:=(Option.bind_some _ _).symm.trans H;rw[aq];with_reducible exact H2_)|exact H
  have ag:=ak aq;clear aq
  by_cases c2:3≤35184372088832
  ·rw[if_pos c2] at H;have b6:=eq_true c2;have b7:decide (3≤35184372088832)=true:=decide_eq_true c2;clear c2;obtain⟨ae,ar⟩:∃ y_:List Int,y_=(List.replicate 3 0):=⟨_,rfl⟩
   replace H:(some (0,ac,ae,(List.replicate 4 0)))=some (r1,r2,r3,r4):=by first|(rw[ar];with_reducible exact H)|(have H2_:=(Option.bind_some _ _).symm.trans H;rw[ar];with_reducible exact H2_)|exact H
   have ah:=ak ar;clear ar;obtain⟨af,au⟩:∃ y_:List Int,y_=(List.replicate 4 0):=⟨_,rfl⟩
   replace H:(some (0,ac,ae,af))=some (r1,r2,r3,r4):=by first|(rw[au];with_reducible exact H)|(have H2_:=(Option.bind_some _ _).symm.trans H;rw[au];with_reducible exact H2_)|exact H
   have ai:=ak au;clear au;simp only[Option.some.injEq,Prod.mk.injEq] at H;obtain⟨rfl,rfl,rfl,rfl⟩:=H;go_enter Tryz.func45,Tryz.ntmps45
   try go_wp2_with (first|((with_reducible refine gate_dst (N:=0) rfl ?_);refine bx_ (N:=0) #[.int .i64 0,.slice none 0 0,.slice none 0 0,.slice none 0 0] 31 ?_;intro Y hg w3 hbox hb;have D:=ak hbox;have bz:=gy hg HB;replace HB:=bs HB hb;clear hb hbox hg))
   replace D:=ak (blk_drew D.out);replace HB:=ak (below_drew1 HB.out);refine start_ (n:=5) (S:=fun w'=>True) (ds:=[]) #[false,false,false,false,false] KR rfl rfl trivial (fun hHeld=>?_)
   generalize w3.drew=w4 at D HB hHeld ⊢
   refine join_ (σ:=Value×Value×Value) 2 #[true,true,true,false,false] (fun s_=>[(1,s_.1),(2,s_.2.1),(3,s_.2.2)]) (fun s_ w'=>(Kd.R (Kd.int .i64) 3 w' w.heap.size (fun k_=>some k_≠(s_.2.1:Value).ownBlock∧some k_≠(s_.2.2:Value).ownBlock) s_.1 ac)∧(Kd.R (Kd.int .i64) 3 w' w.heap.size (fun k_=>some k_≠(s_.1:Value).ownBlock∧some k_≠(s_.2.2:Value).ownBlock) s_.2.1 ae)∧(Kd.R (Kd.int .i64) 3 w' w.heap.size (fun k_=>some k_≠(s_.1:Value).ownBlock∧some k_≠(s_.2.1:Value).ownBlock) s_.2.2 af)∧(w'.heap[Y]?=some (.cells #[.int .i64 0,.slice none 0 0,.slice none 0 0,.slice none 0 0] 31 (0,0)))∧(Below w.heap.size w w')) ?_ ?_;rotate_left
   ·intro hJ0_1_2;refine join_ (σ:=Value×Value) 3 #[true,true,false,false,false] (fun s_=>[(1,s_.1),(2,s_.2)]) (fun s_ w'=>(Kd.R (Kd.int .i64) 3 w' w.heap.size (fun k_=>some k_≠(s_.2:Value).ownBlock) s_.1 ac)∧(Kd.R (Kd.int .i64) 3 w' w.heap.size (fun k_=>some k_≠(s_.1:Value).ownBlock) s_.2 ae)∧(w'.heap[Y]?=some (.cells #[.int .i64 0,.slice none 0 0,.slice none 0 0,.slice none 0 0] 31 (0,0)))∧(Below w.heap.size w w')) ?_ ?_;rotate_left
    ·intro hJ0_1;refine join_ (σ:=Value×Value) 3 #[true,false,true,false,false] (fun s_=>[(1,s_.1),(3,s_.2)]) (fun s_ w'=>(Kd.R (Kd.int .i64) 3 w' w.heap.size (fun k_=>some k_≠(s_.2:Value).ownBlock) s_.1 ac)∧(Kd.R (Kd.int .i64) 3 w' w.heap.size (fun k_=>some k_≠(s_.1:Value).ownBlock) s_.2 af)∧(w'.heap[Y]?=some (.cells #[.int .i64 0,.slice none 0 0,.slice none 0 0,.slice none 0 0] 31 (0,0)))∧(Below w.heap.size w w')) ?_ ?_;rotate_left
     ·intro hJ0_2;refine join_ (σ:=Value×Value) 3 #[false,true,true,false,false] (fun s_=>[(2,s_.1),(3,s_.2)]) (fun s_ w'=>(Kd.R (Kd.int .i64) 3 w' w.heap.size (fun k_=>some k_≠(s_.2:Value).ownBlock) s_.1 ae)∧(Kd.R (Kd.int .i64) 3 w' w.heap.size (fun k_=>some k_≠(s_.1:Value).ownBlock) s_.2 af)∧(w'.heap[Y]?=some (.cells #[.int .i64 0,.slice none 0 0,.slice none 0 0,.slice none 0 0] 31 (0,0)))∧(Below w.heap.size w w')) ?_ ?_;rotate_left
      ·intro hJ1_2;refine join_ (σ:=Value) 4 #[true,false,false,false,false] (fun s_=>[(1,s_)]) (fun s_ w'=>(Kd.R (Kd.int .i64) 3 w' w.heap.size (fun _=>True) s_ ac)∧(w'.heap[Y]?=some (.cells #[.int .i64 0,.slice none 0 0,.slice none 0 0,.slice none 0 0] 31 (0,0)))∧(Below w.heap.size w w')) ?_ ?_;rotate_left
       ·intro hJ0;refine join_ (σ:=Value) 4 #[false,true,false,false,false] (fun s_=>[(2,s_)]) (fun s_ w'=>(Kd.R (Kd.int .i64) 3 w' w.heap.size (fun _=>True) s_ ae)∧(w'.heap[Y]?=some (.cells #[.int .i64 0,.slice none 0 0,.slice none 0 0,.slice none 0 0] 31 (0,0)))∧(Below w.heap.size w w')) ?_ ?_;rotate_left
        ·intro hJ1;refine join_ (σ:=Value) 4 #[false,false,true,false,false] (fun s_=>[(3,s_)]) (fun s_ w'=>(Kd.R (Kd.int .i64) 3 w' w.heap.size (fun _=>True) s_ af)∧(w'.heap[Y]?=some (.cells #[.int .i64 0,.slice none 0 0,.slice none 0 0,.slice none 0 0] 31 (0,0)))∧(Below w.heap.size w w')) ?_ ?_;rotate_left
         ·intro hJ2;refine three_ (i:=0) (j:=1) (k:=2) (Ni:=some 1) (Nj:=some 2) (Nk:=some 3) #[true,false,false,false,false] #[false,true,false,false,false] #[false,false,true,false,false] rfl rfl rfl rfl rfl rfl KR (by decide) (by decide) (by decide) (fun K hK=>?_) (fun K hK=>?_) (fun K hK=>?_)
          ·skip
           refine Kd.R_make_step (Kd.int .i64) _ 3 (by rfl) (N:=1) rfl 24 _ _ rfl 4 rfl rfl Tryz.underlying24 (.int .i64 0) 8 info3 rfl (by decide) (by omega) 0 (ok:=fun _=>True) (okp:=fun _=>True) rfl (fun _ hk=>hk) trivial (by omega) (by omega) (Below.refl _ _) (Nat.le_refl _) ?_;intro Z w5 ho6 hb hg_ hnew_;clear hg_ hnew_;(first|rw[←ag.out] at ho6|(simp only[Int.reduceToNat] at ho6;rw[←ag.out] at ho6));have J:=Rn0 ho6 HB;replace D:=kf D hb;replace HB:=bs HB hb;clear hb ho6;refine hK.out _ _ trivial (fun hHeld=>?_);clear hK K;refine nq_ (N:=(some 1)) ?_
           exact nm_ (hJ0 (Z) _ ⟨(PR J),(PK D),PB⟩)
          ·skip
           refine Kd.R_make_step (Kd.int .i64) _ 3 (by rfl) (N:=2) rfl 24 _ _ rfl 3 rfl rfl Tryz.underlying24 (.int .i64 0) 8 info3 rfl (by decide) (by omega) 0 (ok:=fun _=>True) (okp:=fun _=>True) rfl (fun _ hk=>hk) trivial (by omega) (by omega) (Below.refl _ _) (Nat.le_refl _) ?_;intro aa w5 ho6 hb hg_ hnew_;clear hg_ hnew_;(first|rw[←ah.out] at ho6|(simp only[Int.reduceToNat] at ho6;rw[←ah.out] at ho6));have U:=Rn0 ho6 HB;replace D:=kf D hb;replace HB:=bs HB hb;clear hb ho6;refine hK.out _ _ trivial (fun hHeld=>?_);clear hK K;refine nq_ (N:=(some 2)) ?_
           exact nm_ (hJ1 (aa) _ ⟨(PR U),(PK D),PB⟩)
          ·skip
           refine Kd.R_make_step (Kd.int .i64) _ 3 (by rfl) (N:=3) rfl 24 _ _ rfl 4 rfl rfl Tryz.underlying24 (.int .i64 0) 8 info3 rfl (by decide) (by omega) 0 (ok:=fun _=>True) (okp:=fun _=>True) rfl (fun _ hk=>hk) trivial (by omega) (by omega) (Below.refl _ _) (Nat.le_refl _) ?_;intro ab w5 ho6 hb hg_ hnew_;clear hg_ hnew_;(first|rw[←ai.out] at ho6|(simp only[Int.reduceToNat] at ho6;rw[←ai.out] at ho6));have X:=Rn0 ho6 HB;replace D:=kf D hb;replace HB:=bs HB hb;clear hb ho6;refine hK.out _ _ trivial (fun hHeld=>?_);clear hK K;refine nq_ (N:=(some 3)) ?_
           exact nm_ (hJ2 (ab) _ ⟨(PR X),(PK D),PB⟩)
         ·skip
          rintro ab w7 ⟨h0_,h1_,h2_⟩;have X:Aside0 (Kd.R (Kd.int .i64) 3 w7 w.heap.size (fun _=>True) ab af):=⟨h0_⟩;replace D:Aside0 (w7.heap[Y]?=some (.cells #[.int .i64 0,.slice none 0 0,.slice none 0 0,.slice none 0 0] 31 (0,0))):=⟨h1_⟩;replace HB:Aside0 (Below w.heap.size w w7):=⟨h2_⟩;clear h0_ h1_ h2_;have hHeld:=trivial;refine norm_ (a':=?_) ?_ ?_;rotate_left
          ·simp only[putAll,Act.put,List.setIfInBounds_toArray,List.set_cons_zero,List.set_cons_succ]
           rfl
          refine two_ (i:=0) (j:=1) (Ni:=some 1) (Nj:=some 2) #[true,false,true,false,false] #[false,true,true,false,false] rfl rfl rfl rfl KR (by decide) (by decide) (fun K hK=>?_) (fun K hK=>?_)
          ·skip
           refine Kd.R_make_step (Kd.int .i64) _ 3 (by rfl) (N:=1) rfl 24 _ _ rfl 4 rfl rfl Tryz.underlying24 (.int .i64 0) 8 info3 rfl (by decide) (by omega) 0 (ok:=fun _=>True) (okp:=fun _=>True) rfl (fun _ hk=>hk) trivial (by omega) (by omega) (Below.refl _ _) (Nat.le_refl _) ?_;intro Z w8 ho9 hb hg_ hnew_;clear hg_ hnew_;(first|rw[←ag.out] at ho9|(simp only[Int.reduceToNat] at ho9;rw[←ag.out] at ho9));have J:=Rn1 ho9 HB X;replace X:=ak (Kd.R_elder' (PR X) (Kd.R_base ho9) hb);replace D:=kf D hb;replace HB:=bs HB hb;clear hb ho9;refine hK.out _ _ trivial (fun hHeld=>?_);clear hK K;refine nq_ (N:=(some 1)) ?_
           exact nm_ (hJ0_2 (Z,ab) _ ⟨(RX J.out FK),(RX X.out FK),(PK D),PB⟩)
          ·skip
           refine Kd.R_make_step (Kd.int .i64) _ 3 (by rfl) (N:=2) rfl 24 _ _ rfl 3 rfl rfl Tryz.underlying24 (.int .i64 0) 8 info3 rfl (by decide) (by omega) 0 (ok:=fun _=>True) (okp:=fun _=>True) rfl (fun _ hk=>hk) trivial (by omega) (by omega) (Below.refl _ _) (Nat.le_refl _) ?_;intro aa w8 ho9 hb hg_ hnew_;clear hg_ hnew_;(first|rw[←ah.out] at ho9|(simp only[Int.reduceToNat] at ho9;rw[←ah.out] at ho9));have U:=Rn1 ho9 HB X;replace X:=ak (Kd.R_elder' (PR X) (Kd.R_base ho9) hb);replace D:=kf D hb;replace HB:=bs HB hb;clear hb ho9;refine hK.out _ _ trivial (fun hHeld=>?_);clear hK K;refine nq_ (N:=(some 2)) ?_
           exact nm_ (hJ1_2 (aa,ab) _ ⟨(RX U.out FK),(RX X.out FK),(PK D),PB⟩)
        ·skip
         rintro aa w7 ⟨h0_,h1_,h2_⟩;have U:Aside0 (Kd.R (Kd.int .i64) 3 w7 w.heap.size (fun _=>True) aa ae):=⟨h0_⟩;replace D:Aside0 (w7.heap[Y]?=some (.cells #[.int .i64 0,.slice none 0 0,.slice none 0 0,.slice none 0 0] 31 (0,0))):=⟨h1_⟩;replace HB:Aside0 (Below w.heap.size w w7):=⟨h2_⟩;clear h0_ h1_ h2_;have hHeld:=trivial;refine norm_ (a':=?_) ?_ ?_;rotate_left
         ·simp only[putAll,Act.put,List.setIfInBounds_toArray,List.set_cons_zero,List.set_cons_succ]
          rfl
         refine two_ (i:=0) (j:=2) (Ni:=some 1) (Nj:=some 3) #[true,true,false,false,false] #[false,true,true,false,false] rfl rfl rfl rfl KR (by decide) (by decide) (fun K hK=>?_) (fun K hK=>?_)
         ·skip
          refine Kd.R_make_step (Kd.int .i64) _ 3 (by rfl) (N:=1) rfl 24 _ _ rfl 4 rfl rfl Tryz.underlying24 (.int .i64 0) 8 info3 rfl (by decide) (by omega) 0 (ok:=fun _=>True) (okp:=fun _=>True) rfl (fun _ hk=>hk) trivial (by omega) (by omega) (Below.refl _ _) (Nat.le_refl _) ?_;intro Z w8 ho9 hb hg_ hnew_;clear hg_ hnew_;(first|rw[←ag.out] at ho9|(simp only[Int.reduceToNat] at ho9;rw[←ag.out] at ho9));have J:=Rn1 ho9 HB U;replace U:=ak (Kd.R_elder' (PR U) (Kd.R_base ho9) hb);replace D:=kf D hb;replace HB:=bs HB hb;clear hb ho9;refine hK.out _ _ trivial (fun hHeld=>?_);clear hK K;refine nq_ (N:=(some 1)) ?_
          exact nm_ (hJ0_1 (Z,aa) _ ⟨(RX J.out FK),(RX U.out FK),(PK D),PB⟩)
         ·skip
          refine Kd.R_make_step (Kd.int .i64) _ 3 (by rfl) (N:=3) rfl 24 _ _ rfl 4 rfl rfl Tryz.underlying24 (.int .i64 0) 8 info3 rfl (by decide) (by omega) 0 (ok:=fun _=>True) (okp:=fun _=>True) rfl (fun _ hk=>hk) trivial (by omega) (by omega) (Below.refl _ _) (Nat.le_refl _) ?_;intro ab w8 ho9 hb hg_ hnew_;clear hg_ hnew_;(first|rw[←ai.out] at ho9|(simp only[Int.reduceToNat] at ho9;rw[←ai.out] at ho9));have X:=Rn1 ho9 HB U;replace U:=ak (Kd.R_elder' (PR U) (Kd.R_base ho9) hb);replace D:=kf D hb;replace HB:=bs HB hb;clear hb ho9;refine hK.out _ _ trivial (fun hHeld=>?_);clear hK K;refine nq_ (N:=(some 3)) ?_
          exact nm_ (hJ1_2 (aa,ab) _ ⟨(RX U.out FK),(RX X.out FK),(PK D),PB⟩)
       ·skip
        rintro Z w7 ⟨h0_,h1_,h2_⟩;have J:Aside0 (Kd.R (Kd.int .i64) 3 w7 w.heap.size (fun _=>True) Z ac):=⟨h0_⟩;replace D:Aside0 (w7.heap[Y]?=some (.cells #[.int .i64 0,.slice none 0 0,.slice none 0 0,.slice none 0 0] 31 (0,0))):=⟨h1_⟩;replace HB:Aside0 (Below w.heap.size w w7):=⟨h2_⟩;clear h0_ h1_ h2_;have hHeld:=trivial;refine norm_ (a':=?_) ?_ ?_;rotate_left
        ·simp only[putAll,Act.put,List.setIfInBounds_toArray,List.set_cons_zero,List.set_cons_succ]
         rfl
        refine two_ (i:=1) (j:=2) (Ni:=some 2) (Nj:=some 3) #[true,true,false,false,false] #[true,false,true,false,false] rfl rfl rfl rfl KR (by decide) (by decide) (fun K hK=>?_) (fun K hK=>?_)
        ·skip
         refine Kd.R_make_step (Kd.int .i64) _ 3 (by rfl) (N:=2) rfl 24 _ _ rfl 3 rfl rfl Tryz.underlying24 (.int .i64 0) 8 info3 rfl (by decide) (by omega) 0 (ok:=fun _=>True) (okp:=fun _=>True) rfl (fun _ hk=>hk) trivial (by omega) (by omega) (Below.refl _ _) (Nat.le_refl _) ?_;intro aa w8 ho9 hb hg_ hnew_;clear hg_ hnew_;(first|rw[←ah.out] at ho9|(simp only[Int.reduceToNat] at ho9;rw[←ah.out] at ho9));have U:=Rn1 ho9 HB J;replace J:=ak (Kd.R_elder' (PR J) (Kd.R_base ho9) hb);replace D:=kf D hb;replace HB:=bs HB hb;clear hb ho9;refine hK.out _ _ trivial (fun hHeld=>?_);clear hK K;refine nq_ (N:=(some 2)) ?_
         exact nm_ (hJ0_1 (Z,aa) _ ⟨(RX J.out FK),(RX U.out FK),(PK D),PB⟩)
        ·skip
         refine Kd.R_make_step (Kd.int .i64) _ 3 (by rfl) (N:=3) rfl 24 _ _ rfl 4 rfl rfl Tryz.underlying24 (.int .i64 0) 8 info3 rfl (by decide) (by omega) 0 (ok:=fun _=>True) (okp:=fun _=>True) rfl (fun _ hk=>hk) trivial (by omega) (by omega) (Below.refl _ _) (Nat.le_refl _) ?_;intro ab w8 ho9 hb hg_ hnew_;clear hg_ hnew_;(first|rw[←ai.out] at ho9|(simp only[Int.reduceToNat] at ho9;rw[←ai.out] at ho9));have X:=Rn1 ho9 HB J;replace J:=ak (Kd.R_elder' (PR J) (Kd.R_base ho9) hb);replace D:=kf D hb;replace HB:=bs HB hb;clear hb ho9;refine hK.out _ _ trivial (fun hHeld=>?_);clear hK K;refine nq_ (N:=(some 3)) ?_
         exact nm_ (hJ0_2 (Z,ab) _ ⟨(RX J.out FK),(RX X.out FK),(PK D),PB⟩)
      ·skip
       rintro⟨aa,ab⟩ w9 ⟨h0_,h1_,h2_,h3_⟩;have U:Aside0 (Kd.R (Kd.int .i64) 3 w9 w.heap.size (fun k_=>some k_≠(ab:Value).ownBlock) aa ae):=⟨h0_⟩;have X:Aside0 (Kd.R (Kd.int .i64) 3 w9 w.heap.size (fun k_=>some k_≠(aa:Value).ownBlock) ab af):=⟨h1_⟩;replace D:Aside0 (w9.heap[Y]?=some (.cells #[.int .i64 0,.slice none 0 0,.slice none 0 0,.slice none 0 0] 31 (0,0))):=⟨h2_⟩;replace HB:Aside0 (Below w.heap.size w w9):=⟨h3_⟩;clear h0_ h1_ h2_ h3_;have hHeld:=trivial;refine norm_ (a':=?_) ?_ ?_;rotate_left
       ·simp only[putAll,Act.put,List.setIfInBounds_toArray,List.set_cons_zero,List.set_cons_succ]
        rfl
       refine one_ (i:=0) (N:=some 1) #[true,true,true,false,false] rfl rfl KR (by decide) (fun K hK=>?_);refine Kd.R_make_step (Kd.int .i64) _ 3 (by rfl) (N:=1) rfl 24 _ _ rfl 4 rfl rfl Tryz.underlying24 (.int .i64 0) 8 info3 rfl (by decide) (by omega) 0 (ok:=fun _=>True) (okp:=fun _=>True) rfl (fun _ hk=>hk) trivial (by omega) (by omega) (Below.refl _ _) (Nat.le_refl _) ?_;intro Z bw ho11 hb hg_ hnew_;clear hg_ hnew_;(first|rw[←ag.out] at ho11|(simp only[Int.reduceToNat] at ho11;rw[←ag.out] at ho11));have J:=Rn2 ho11 HB U X;replace U:=ak (Kd.R_elder' (PR U) (Kd.R_base ho11) hb);replace X:=ak (Kd.R_elder' (PR X) (Kd.R_base ho11) hb);replace D:=kf D hb;replace HB:=bs HB hb;clear hb ho11;obtain⟨aw,ax,aj⟩:=Kd.R_slice X.out;(first|subst aj|(injection aj with f1_ f2_ f3_;have f4_:=f1_.symm;have f5_:=f3_.symm;clear f1_ f2_ f3_;subst f4_;subst f5_));obtain⟨ay,az,al⟩:=Kd.R_slice U.out;(first|subst al|(injection al with f1_ f2_ f3_;have f4_:=f1_.symm;have f5_:=f3_.symm;clear f1_ f2_ f3_;subst f4_;subst f5_));obtain⟨ba,bb,am⟩:=Kd.R_slice J.out;(first|subst am|(injection am with f1_ f2_ f3_;have f4_:=f1_.symm;have f5_:=f3_.symm;clear f1_ f2_ f3_;subst f4_;subst f5_));refine hK.out _ _ trivial (fun hHeld=>?_);clear hK K;refine nq_ (N:=(some 1)) ?_
       exact nm_ (hJ0_1_2 (.slice ba ac.length bb,.slice ay ae.length az,.slice aw af.length ax) _ ⟨(RX J.out (fun _ hk=>by first|exact⟨hk.1.2,hk.2⟩ | simp_all)),(RX U.out (fun _ hk=>by first|exact⟨hk.2,hk.1⟩ | simp_all)),(RX X.out (fun _ hk=>by first|exact⟨hk.2,hk.1⟩ | simp_all)),(PK D),PB⟩)
     ·skip
      rintro⟨Z,ab⟩ w9 ⟨h0_,h1_,h2_,h3_⟩;have J:Aside0 (Kd.R (Kd.int .i64) 3 w9 w.heap.size (fun k_=>some k_≠(ab:Value).ownBlock) Z ac):=⟨h0_⟩;have X:Aside0 (Kd.R (Kd.int .i64) 3 w9 w.heap.size (fun k_=>some k_≠(Z:Value).ownBlock) ab af):=⟨h1_⟩;replace D:Aside0 (w9.heap[Y]?=some (.cells #[.int .i64 0,.slice none 0 0,.slice none 0 0,.slice none 0 0] 31 (0,0))):=⟨h2_⟩;replace HB:Aside0 (Below w.heap.size w w9):=⟨h3_⟩;clear h0_ h1_ h2_ h3_;have hHeld:=trivial;refine norm_ (a':=?_) ?_ ?_;rotate_left
      ·simp only[putAll,Act.put,List.setIfInBounds_toArray,List.set_cons_zero,List.set_cons_succ]
       rfl
      refine one_ (i:=1) (N:=some 2) #[true,true,true,false,false] rfl rfl KR (by decide) (fun K hK=>?_);refine Kd.R_make_step (Kd.int .i64) _ 3 (by rfl) (N:=2) rfl 24 _ _ rfl 3 rfl rfl Tryz.underlying24 (.int .i64 0) 8 info3 rfl (by decide) (by omega) 0 (ok:=fun _=>True) (okp:=fun _=>True) rfl (fun _ hk=>hk) trivial (by omega) (by omega) (Below.refl _ _) (Nat.le_refl _) ?_;intro aa bw ho11 hb hg_ hnew_;clear hg_ hnew_;(first|rw[←ah.out] at ho11|(simp only[Int.reduceToNat] at ho11;rw[←ah.out] at ho11));have U:=Rn2 ho11 HB J X;replace J:=ak (Kd.R_elder' (PR J) (Kd.R_base ho11) hb);replace X:=ak (Kd.R_elder' (PR X) (Kd.R_base ho11) hb);replace D:=kf D hb;replace HB:=bs HB hb;clear hb ho11;obtain⟨aw,ax,aj⟩:=Kd.R_slice X.out;(first|subst aj|(injection aj with f1_ f2_ f3_;have f4_:=f1_.symm;have f5_:=f3_.symm;clear f1_ f2_ f3_;subst f4_;subst f5_));obtain⟨ay,az,al⟩:=Kd.R_slice U.out;(first|subst al|(injection al with f1_ f2_ f3_;have f4_:=f1_.symm;have f5_:=f3_.symm;clear f1_ f2_ f3_;subst f4_;subst f5_));obtain⟨ba,bb,am⟩:=Kd.R_slice J.out;(first|subst am|(injection am with f1_ f2_ f3_;have f4_:=f1_.symm;have f5_:=f3_.symm;clear f1_ f2_ f3_;subst f4_;subst f5_));refine hK.out _ _ trivial (fun hHeld=>?_);clear hK K;refine nq_ (N:=(some 2)) ?_
      exact nm_ (hJ0_1_2 (.slice ba ac.length bb,.slice ay ae.length az,.slice aw af.length ax) _ ⟨(RX J.out (fun _ hk=>by first|exact⟨hk.2,hk.1⟩ | simp_all)),(RX U.out (fun _ hk=>by first|exact⟨hk.1.2,hk.2⟩ | simp_all)),(PR X),(PK D),PB⟩)
    ·skip
     rintro⟨Z,aa⟩ w9 ⟨h0_,h1_,h2_,h3_⟩;have J:Aside0 (Kd.R (Kd.int .i64) 3 w9 w.heap.size (fun k_=>some k_≠(aa:Value).ownBlock) Z ac):=⟨h0_⟩;have U:Aside0 (Kd.R (Kd.int .i64) 3 w9 w.heap.size (fun k_=>some k_≠(Z:Value).ownBlock) aa ae):=⟨h1_⟩;replace D:Aside0 (w9.heap[Y]?=some (.cells #[.int .i64 0,.slice none 0 0,.slice none 0 0,.slice none 0 0] 31 (0,0))):=⟨h2_⟩;replace HB:Aside0 (Below w.heap.size w w9):=⟨h3_⟩;clear h0_ h1_ h2_ h3_;have hHeld:=trivial;refine norm_ (a':=?_) ?_ ?_;rotate_left
     ·simp only[putAll,Act.put,List.setIfInBounds_toArray,List.set_cons_zero,List.set_cons_succ]
      rfl
     refine one_ (i:=2) (N:=some 3) #[true,true,true,false,false] rfl rfl KR (by decide) (fun K hK=>?_);refine Kd.R_make_step (Kd.int .i64) _ 3 (by rfl) (N:=3) rfl 24 _ _ rfl 4 rfl rfl Tryz.underlying24 (.int .i64 0) 8 info3 rfl (by decide) (by omega) 0 (ok:=fun _=>True) (okp:=fun _=>True) rfl (fun _ hk=>hk) trivial (by omega) (by omega) (Below.refl _ _) (Nat.le_refl _) ?_;intro ab bw ho11 hb hg_ hnew_;clear hg_ hnew_;(first|rw[←ai.out] at ho11|(simp only[Int.reduceToNat] at ho11;rw[←ai.out] at ho11));have X:=Rn2 ho11 HB J U;replace J:=ak (Kd.R_elder' (PR J) (Kd.R_base ho11) hb);replace U:=ak (Kd.R_elder' (PR U) (Kd.R_base ho11) hb);replace D:=kf D hb;replace HB:=bs HB hb;clear hb ho11;obtain⟨aw,ax,aj⟩:=Kd.R_slice X.out;(first|subst aj|(injection aj with f1_ f2_ f3_;have f4_:=f1_.symm;have f5_:=f3_.symm;clear f1_ f2_ f3_;subst f4_;subst f5_));obtain⟨ay,az,al⟩:=Kd.R_slice U.out;(first|subst al|(injection al with f1_ f2_ f3_;have f4_:=f1_.symm;have f5_:=f3_.symm;clear f1_ f2_ f3_;subst f4_;subst f5_));obtain⟨ba,bb,am⟩:=Kd.R_slice J.out;(first|subst am|(injection am with f1_ f2_ f3_;have f4_:=f1_.symm;have f5_:=f3_.symm;clear f1_ f2_ f3_;subst f4_;subst f5_));refine hK.out _ _ trivial (fun hHeld=>?_);clear hK K;refine nq_ (N:=(some 3)) ?_
     exact nm_ (hJ0_1_2 (.slice ba ac.length bb,.slice ay ae.length az,.slice aw af.length ax) _ ⟨(PR J),(PR U),(RX X.out (fun _ hk=>by first|exact⟨hk.1.2,hk.2⟩ | simp_all)),(PK D),PB⟩)
   rintro⟨Z,aa,ab⟩ ap ⟨h0_,h1_,h2_,h3_,h4_⟩;have J:Aside0 (Kd.R (Kd.int .i64) 3 ap w.heap.size (fun k_=>some k_≠(aa:Value).ownBlock∧some k_≠(ab:Value).ownBlock) Z ac):=⟨h0_⟩;have U:Aside0 (Kd.R (Kd.int .i64) 3 ap w.heap.size (fun k_=>some k_≠(Z:Value).ownBlock∧some k_≠(ab:Value).ownBlock) aa ae):=⟨h1_⟩;have X:Aside0 (Kd.R (Kd.int .i64) 3 ap w.heap.size (fun k_=>some k_≠(Z:Value).ownBlock∧some k_≠(aa:Value).ownBlock) ab af):=⟨h2_⟩;replace D:Aside0 (ap.heap[Y]?=some (.cells #[.int .i64 0,.slice none 0 0,.slice none 0 0,.slice none 0 0] 31 (0,0))):=⟨h3_⟩;replace HB:Aside0 (Below w.heap.size w ap):=⟨h4_⟩;clear h0_ h1_ h2_ h3_ h4_;have hHeld:=trivial;obtain⟨bj,bk,bl⟩:=Kd.R_slice X.out;(first|subst bl|(injection bl with f1_ f2_ f3_;have f4_:=f1_.symm;have f5_:=f3_.symm;clear f1_ f2_ f3_;subst f4_;subst f5_));obtain⟨bm,bo,bp⟩:=Kd.R_slice U.out;(first|subst bp|(injection bp with f1_ f2_ f3_;have f4_:=f1_.symm;have f5_:=f3_.symm;clear f1_ f2_ f3_;subst f4_;subst f5_));obtain⟨br,bu,bv⟩:=Kd.R_slice J.out;(first|subst bv|(injection bv with f1_ f2_ f3_;have f4_:=f1_.symm;have f5_:=f3_.symm;clear f1_ f2_ f3_;subst f4_;subst f5_));refine norm_ (a':=?_) ?_ ?_;rotate_left
   ·simp only[putAll,Act.put,List.setIfInBounds_toArray,List.set_cons_zero,List.set_cons_succ]
    rfl
   refine pq_ (i:=3) (N:=some 4) #[true,true,true,true,false] rfl rfl KR ?_
   refine one_ (i:=4) (N:=none) #[true,true,true,true,true] rfl rfl KR (by decide) (fun K hK=>?_);have hs18:ap.cell? ⟨Y,0,none⟩=some (.int .i64 0):=bq D 0;have hfs18:=blk_frozen D.out 0;have hs19:ap.cell? ⟨Y,1,none⟩=some (.slice none 0 0):=bq D 1;have hfs19:=blk_frozen D.out 1;have hs20:ap.cell? ⟨Y,2,none⟩=some (.slice none 0 0):=bq D 2;have hfs20:=blk_frozen D.out 2;have hs21:ap.cell? ⟨Y,3,none⟩=some (.slice none 0 0):=bq D 3;have hfs21:=blk_frozen D.out 3;refine skip_ (w1:=?_) (by rfl) rfl ?_ ?_;rotate_left
   ·go_simp
    rfl
   refine hK.out _ _ trivial (fun hHeld=>?_);clear hK K;refine done_ KR ?_
   try go_wp2
   refine bodyPost_ret (results_cell_row rfl _ _ Y 31 #[.int .i64 0,.slice br ac.length bu,.slice bm ae.length bo,.slice bj af.length bk] (0,0) _ rfl (PX D) Tryz.underlying31 rfl KR) rfl ?_;exact⟨.slice br ac.length bu,.slice bm ae.length bo,.slice bj af.length bk,RT,Rv (Re1 J D),Rv (Re1 U D),Rv (Re1 X D),PB⟩
  ·rw[if_neg c2] at H;exact absurd H (by simp)
 ·rw[if_neg c1] at H;exact absurd H (by simp)
def impl_InRange.f (D:Int)(J:Int)(U:Int):Option (Bool):=if J≤D then(some (decide (D≤U))) else(some false)
theorem impl_InRange.calls (J:Int)(U:Int)(Y:Int)(r:Bool)(w:World)(h:impl_InRange.f J U Y=some r) :
  Calls Tryz.prog 75 #[.int .i64 J,.int .i64 U,.int .i64 Y] w fun e w'=>e = .returned (.bool r)∧Drawn0 w w':=by
 have H:=h;clear h;unfold impl_InRange.f at H
 by_cases D:U≤J
 ·rw[if_pos D] at H;have X:decide (U≤J)=true:=decide_eq_true D;clear D;obtain rfl:=Option.some.inj H;go_enter Tryz.func75,Tryz.ntmps75;go_wp2
  go_ret
  exact⟨FR,by repeat(first|exact Drawn0.refl _ | apply Drawn0.step)⟩
 ·rw[if_neg D] at H;have X:decide (U≤J)=false:=decide_eq_false D;clear D;obtain rfl:=Option.some.inj H;go_enter Tryz.func75,Tryz.ntmps75;go_wp2
  go_ret
  exact⟨FR,by repeat(first|exact Drawn0.refl _ | apply Drawn0.step)⟩
def impl_at.f (D:Int)(J:Int):Option (Bool):=if D≥0 then(some (decide (D < J))) else(some false)
theorem impl_at.calls (J:Int)(X:Int)(r:Bool)(w:World)(h:impl_at.f J X=some r) :
  Calls Tryz.prog 91 #[.int .i64 J,.int .i64 X] w fun e w'=>e = .returned (.bool r)∧Drawn0 w w':=by
 have H:=h;clear h;unfold impl_at.f at H
 by_cases D:J≥0
 ·rw[if_pos D] at H;have U:decide (0≤J)=true:=decide_eq_true D;clear D;obtain rfl:=Option.some.inj H;go_enter Tryz.func91,Tryz.ntmps91;go_wp2
  go_ret
  exact⟨FR,by repeat(first|exact Drawn0.refl _ | apply Drawn0.step)⟩
 ·rw[if_neg D] at H;have U:decide (0≤J)=false:=decide_eq_false D;clear D;obtain rfl:=Option.some.inj H;go_enter Tryz.func91,Tryz.ntmps91;go_wp2
  go_ret
  exact⟨FR,by repeat(first|exact Drawn0.refl _ | apply Drawn0.step)⟩
def impl_isOp.j0:Nat→Int→Bool→Int→Int→Int→Int→Option (Bool)
  | 0,_,_,_,_,_,_=>none
  | k+1,U,ag,ae,af,D,J=>if ag=true then(if D=0 then(some (J == 0)) else(some false)) else(if U=5 then((impl_at.f D 4).bind fun X=>(if X=true then((impl_at.f J 4).bind fun Y=>(some Y)) else(some false))) else(if U=6 then((impl_at.f D 4).bind fun Z=>(if Z=true then(some (J == 0)) else(some false))) else(if U=7 then((impl_InRange.f D 1 3).bind fun aa=>(if aa=true then(some (J == 0)) else(some false))) else(if U=8 then((impl_at.f D 3).bind fun ab=>(if ab=true then(some (J == 0)) else(some false))) else(if U=9 then((impl_at.f D 3).bind fun ac=>(if ac=true then(some (J == 0)) else(some false))) else(some false))))))
def impl_isOp.f (k:Nat)(D:Int)(J:Int)(U:Int)(X:Int):Option (Bool):=(impl_at.f J 4).bind fun Y=>(if Y=true then(if D=1 then((impl_InRange.f U 1 9).bind fun Z=>(if Z=true then((impl_InRange.f X 0 99).bind fun aa=>(some aa)) else(some false))) else(if D=2 then(impl_isOp.j0 k D (D == 2) D J U X) else(if D=3 then(impl_isOp.j0 k D (D == 3) D J U X) else(impl_isOp.j0 k D (D == 4) D J U X)))) else(some false))
theorem impl_isOp.calls (k:Nat)(D:Int)(X:Int)(J:Int)(Y:Int)(r:Bool)(w:World)(h:impl_isOp.f k D X J Y=some r) :
  Calls Tryz.prog 73 #[.agg #[.int .i64 D,.int .i64 X,.int .i64 J,.int .i64 Y]] w fun e w'=>e = .returned (.bool r)∧Below w.heap.size w w':=by
 have dv:=Tryz.underlying56;have HB:=ak (Below.refl w.heap.size w);have H:=h;clear h;unfold impl_isOp.f at H;replace H:=Option.bind_eq_some_iff.mp H;obtain⟨dg,cx,H⟩:=H;(try dsimp only at H);have A2:=ak cx;clear cx
 by_cases c3:dg=true
 ·subst c3;rw[if_pos rfl] at H
  by_cases c4:D=1
  ·rw[if_pos c4] at H;have bx:(D == 1)=true:=beq_iff_eq.mpr c4;have bz:(D != 1)=false:=bne_eq_false_iff_eq.mpr c4;clear c4;replace H:=Option.bind_eq_some_iff.mp H;obtain⟨dh,cy,H⟩:=H;(try dsimp only at H);have A5:=ak cy;clear cy
   by_cases c6:dh=true
   ·subst c6;rw[if_pos rfl] at H;replace H:=Option.bind_eq_some_iff.mp H;obtain⟨di,cz,H⟩:=H;(try dsimp only at H);have A7:=ak cz;clear cz;obtain rfl:=Option.some.inj H;go_enter Tryz.func73,Tryz.ntmps73;go_wp2_with (first|((with_reducible refine gate_dst (N:=1) rfl ?_);refine bx_ (N:=1) #[.int .i64 D,.int .i64 X,.int .i64 J,.int .i64 Y] 56 ?_;intro ae hg w8 hbox hb;have U:=ak hbox;have am:=gy hg HB;replace HB:=bs HB hb;clear hb hbox hg;obtain⟨b4,b5,b6,b7,b8,b9,ca,cb⟩:=bc4 U)|((with_reducible refine gate_callee (f:=91) rfl ?_);refine goesL_ (some 5) rfl rfl Tryz.func91 KR rfl #[.int .i64 X,.int .i64 4] rfl AR ?_;(with_reducible refine(impl_at.calls X 4 true _ A2.out).mono ?_);rintro e w' ⟨rfl,⟨nd,rfl⟩⟩;refine⟨_,rfl,?_⟩)|((with_reducible refine gate_callee (f:=75) rfl ?_);refine goesL_ (some 13) rfl rfl Tryz.func75 KR rfl #[.int .i64 J,.int .i64 1,.int .i64 9] rfl AR ?_;(with_reducible refine(impl_InRange.calls J 1 9 true _ A5.out).mono ?_);rintro e w' ⟨rfl,⟨nd,rfl⟩⟩;refine⟨_,rfl,?_⟩)|(go_at_call 75;(with_reducible refine(impl_InRange.calls Y 0 99 di _ A7.out).mono ?_);rintro e w' ⟨rfl,⟨nd,rfl⟩⟩))
    go_ret
    exact⟨RT,PB⟩
   ·replace c6:=Bool.eq_false_iff.mpr c6;subst c6;rw[if_neg (show ¬(false=true) by decide)] at H;obtain rfl:=Option.some.inj H;go_enter Tryz.func73,Tryz.ntmps73;go_wp2_with (first|((with_reducible refine gate_dst (N:=1) rfl ?_);refine bx_ (N:=1) #[.int .i64 D,.int .i64 X,.int .i64 J,.int .i64 Y] 56 ?_;intro ae hg dy hbox hb;have U:=ak hbox;have am:=gy hg HB;replace HB:=bs HB hb;clear hb hbox hg;obtain⟨bb,bc,bd,bf,bg,bh,bi,bj⟩:=bc4 U)|((with_reducible refine gate_callee (f:=91) rfl ?_);refine goesL_ (some 5) rfl rfl Tryz.func91 KR rfl #[.int .i64 X,.int .i64 4] rfl AR ?_;(with_reducible refine(impl_at.calls X 4 true _ A2.out).mono ?_);rintro e w' ⟨rfl,⟨nd,rfl⟩⟩;refine⟨_,rfl,?_⟩)|((with_reducible refine gate_callee (f:=75) rfl ?_);refine goesL_ (some 13) rfl rfl Tryz.func75 KR rfl #[.int .i64 J,.int .i64 1,.int .i64 9] rfl AR ?_;(with_reducible refine(impl_InRange.calls J 1 9 false _ A5.out).mono ?_);rintro e w' ⟨rfl,⟨nd,rfl⟩⟩;refine⟨_,rfl,?_⟩))
    go_ret
    exact⟨RT,PB⟩
  ·rw[if_neg c4] at H;have bx:(D == 1)=false:=beq_eq_false_iff_ne.mpr c4;have bz:(D != 1)=true:=bne_iff_ne.mpr c4;have ap:=ak H;clear H;go_enter Tryz.func73,Tryz.ntmps73
   go_upto_if 19 with (first|((with_reducible refine gate_dst (N:=1) rfl ?_);refine bx_ (N:=1) #[.int .i64 D,.int .i64 X,.int .i64 J,.int .i64 Y] 56 ?_;intro ae hg dz hbox hb;have U:=ak hbox;have am:=gy hg HB;replace HB:=bs HB hb;clear hb hbox hg;obtain⟨bk,bl,bm,bo,bp,br,bu,bv⟩:=bc4 U)|((with_reducible refine gate_callee (f:=91) rfl ?_);refine goesL_ (some 5) rfl rfl Tryz.func91 KR rfl #[.int .i64 X,.int .i64 4] rfl AR ?_;(with_reducible refine(impl_at.calls X 4 true _ A2.out).mono ?_);rintro e w' ⟨rfl,⟨nd,rfl⟩⟩;refine⟨_,rfl,?_⟩))
   (try simp only[Act.put,List.setIfInBounds_toArray,List.set_cons_zero,List.set_cons_succ])
   go_cut [19] (fun dt wc=>∃(kq:Nat)(aa:Bool),dt = .bool aa∧Aside0 (impl_isOp.j0 kq D aa D X J Y=some r)∧Aside0 (kq≤k)∧Aside0 (wc.heap[ae]?=some (.cells #[.int .i64 D,.int .i64 X,.int .i64 J,.int .i64 Y] 56 (0,0)))∧Aside0 (Below w.heap.size w wc))
   case first =>
    have H:=ap.out;clear ap
    by_cases ab:D=2
    ·rw[if_pos ab] at H;have Z:(D == 2)=true:=beq_iff_eq.mpr ab;have aq:(D != 2)=false:=bne_eq_false_iff_eq.mpr ab;clear ab;(first|rw[Z]|(simp only[i64_w,i32_w];rw[Z])|skip);have H':=ak H;clear H;go_wp2
     go_meet
     case rel=>exact⟨_,((D == 2)),FR,H',⟨by first|omega | exact Nat.le_refl _⟩,⟨PK U⟩,⟨PB⟩⟩
    ·rw[if_neg ab] at H;have Z:(D == 2)=false:=beq_eq_false_iff_ne.mpr ab;have aq:(D != 2)=true:=bne_iff_ne.mpr ab;(first|rw[Z]|(simp only[i64_w,i32_w];rw[Z])|skip)
     by_cases ac:D=3
     ·rw[if_pos ac] at H;have ar:(D == 3)=true:=beq_iff_eq.mpr ac;have au:(D != 3)=false:=bne_eq_false_iff_eq.mpr ac;clear ac;have H':=ak H;clear H;go_wp2
      go_meet
      case rel=>exact⟨_,((D == 3)),FR,H',⟨by first|omega | exact Nat.le_refl _⟩,⟨PK U⟩,⟨PB⟩⟩
     ·rw[if_neg ac] at H;have ar:(D == 3)=false:=beq_eq_false_iff_ne.mpr ac;have au:(D != 3)=true:=bne_iff_ne.mpr ac;have H':=ak H;clear H;go_wp2
      go_meet
      case rel=>exact⟨_,((D == 4)),FR,H',⟨by first|omega | exact Nat.le_refl _⟩,⟨PK U⟩,⟨PB⟩⟩
   case rest =>
    clear ap;(try clear c1);(try clear p2);(try clear c3);(try clear c4);(try clear bx);(try clear bz);(try clear c6);(try clear c7);(try clear c9);(try clear ab);(try clear Z);(try clear aq);(try clear ac);(try clear ar);(try clear au);(try clear bb);(try clear bc);(try clear bd);(try clear bf);(try clear bk);(try clear bl);(try clear bm);(try clear bo);(try clear b4);(try clear b5);(try clear b6);(try clear b7);(try clear bg);(try clear bh);(try clear bi);(try clear bj);(try clear bp);(try clear br);(try clear bu);(try clear bv);(try clear b8);(try clear b9);(try clear ca);(try clear cb);obtain⟨kq,aa,rfl,HA,dx,U,HB⟩:=hcut
    cases kq with
    | zero=>exact absurd HA.out (by simp[impl_isOp.j0])
    | succ kj11 =>
     have H:=HA.out;clear HA;simp only[impl_isOp.j0] at H
     by_cases av:aa=true
     ·subst av;rw[if_pos rfl] at H
      by_cases af:J=0
      ·rw[if_pos af] at H;have ck:(J == 0)=true:=beq_iff_eq.mpr af;have cl:(J != 0)=false:=bne_eq_false_iff_eq.mpr af;clear af;obtain rfl:=Option.some.inj H;obtain⟨_,_,_,_,_,_,_,_⟩:=bc4 U;go_wp2
       go_ret
       exact⟨RT,PB⟩
      ·rw[if_neg af] at H;have ck:(J == 0)=false:=beq_eq_false_iff_ne.mpr af;have cl:(J != 0)=true:=bne_iff_ne.mpr af;obtain rfl:=Option.some.inj H;obtain⟨_,_,_,_,_,_,_,_⟩:=bc4 U;go_wp2
       go_ret
       exact⟨RT,PB⟩
     ·replace av:=Bool.eq_false_iff.mpr av;subst av;rw[if_neg (show ¬(false=true) by decide)] at H
      by_cases ag:D=5
      ·rw[if_pos ag] at H;have cm:(D == 5)=true:=beq_iff_eq.mpr ag;have cn:(D != 5)=false:=bne_eq_false_iff_eq.mpr ag;clear ag;replace H:=Option.bind_eq_some_iff.mp H;obtain⟨dj,cd,H⟩:=H;(try dsimp only at H);have da:=ak cd;clear cd
       by_cases aw:dj=true
       ·subst aw;rw[if_pos rfl] at H;replace H:=Option.bind_eq_some_iff.mp H;obtain⟨dk,ce,H⟩:=H;(try dsimp only at H);have du:=ak ce;clear ce;obtain rfl:=Option.some.inj H;obtain⟨_,_,_,_,_,_,_,_⟩:=bc4 U;go_wp2_with (first|((with_reducible refine gate_callee (f:=91) rfl ?_);refine goesL_ (some 35) rfl rfl Tryz.func91 KR rfl #[.int .i64 J,.int .i64 4] rfl AR ?_;(with_reducible refine(impl_at.calls J 4 true _ da.out).mono ?_);rintro e w' ⟨rfl,⟨nd,rfl⟩⟩;refine⟨_,rfl,?_⟩)|(go_at_call 91;(with_reducible refine(impl_at.calls Y 4 dk _ du.out).mono ?_);rintro e w' ⟨rfl,⟨nd,rfl⟩⟩))
        go_ret
        exact⟨RT,PB⟩
       ·replace aw:=Bool.eq_false_iff.mpr aw;subst aw;rw[if_neg (show ¬(false=true) by decide)] at H;obtain rfl:=Option.some.inj H;obtain⟨_,_,_,_,_,_,_,_⟩:=bc4 U;go_wp2_with (first|((with_reducible refine gate_callee (f:=91) rfl ?_);refine goesL_ (some 35) rfl rfl Tryz.func91 KR rfl #[.int .i64 J,.int .i64 4] rfl AR ?_;(with_reducible refine(impl_at.calls J 4 false _ da.out).mono ?_);rintro e w' ⟨rfl,⟨nd,rfl⟩⟩;refine⟨_,rfl,?_⟩))
        go_ret
        exact⟨RT,PB⟩
      ·rw[if_neg ag] at H;have cm:(D == 5)=false:=beq_eq_false_iff_ne.mpr ag;have cn:(D != 5)=true:=bne_iff_ne.mpr ag
       by_cases ah:D=6
       ·rw[if_pos ah] at H;have co:(D == 6)=true:=beq_iff_eq.mpr ah;have cp:(D != 6)=false:=bne_eq_false_iff_eq.mpr ah;clear ah;replace H:=Option.bind_eq_some_iff.mp H;obtain⟨dl,cf,H⟩:=H;(try dsimp only at H);have db:=ak cf;clear cf
        by_cases ax:dl=true
        ·subst ax;rw[if_pos rfl] at H;obtain rfl:=Option.some.inj H;obtain⟨_,_,_,_,_,_,_,_⟩:=bc4 U;go_wp2_with (first|((with_reducible refine gate_callee (f:=91) rfl ?_);refine goesL_ (some 45) rfl rfl Tryz.func91 KR rfl #[.int .i64 J,.int .i64 4] rfl AR ?_;(with_reducible refine(impl_at.calls J 4 true _ db.out).mono ?_);rintro e w' ⟨rfl,⟨nd,rfl⟩⟩;refine⟨_,rfl,?_⟩))
         go_ret
         exact⟨RT,PB⟩
        ·replace ax:=Bool.eq_false_iff.mpr ax;subst ax;rw[if_neg (show ¬(false=true) by decide)] at H;obtain rfl:=Option.some.inj H;obtain⟨_,_,_,_,_,_,_,_⟩:=bc4 U;go_wp2_with (first|((with_reducible refine gate_callee (f:=91) rfl ?_);refine goesL_ (some 45) rfl rfl Tryz.func91 KR rfl #[.int .i64 J,.int .i64 4] rfl AR ?_;(with_reducible refine(impl_at.calls J 4 false _ db.out).mono ?_);rintro e w' ⟨rfl,⟨nd,rfl⟩⟩;refine⟨_,rfl,?_⟩))
         go_ret
         exact⟨RT,PB⟩
       ·rw[if_neg ah] at H;have co:(D == 6)=false:=beq_eq_false_iff_ne.mpr ah;have cp:(D != 6)=true:=bne_iff_ne.mpr ah
        by_cases ai:D=7
        ·rw[if_pos ai] at H;have cq:(D == 7)=true:=beq_iff_eq.mpr ai;have cr:(D != 7)=false:=bne_eq_false_iff_eq.mpr ai;clear ai;replace H:=Option.bind_eq_some_iff.mp H;obtain⟨dn,cg,H⟩:=H;(try dsimp only at H);have dc:=ak cg;clear cg
         by_cases ay:dn=true
         ·subst ay;rw[if_pos rfl] at H;obtain rfl:=Option.some.inj H;obtain⟨_,_,_,_,_,_,_,_⟩:=bc4 U;go_wp2_with (first|((with_reducible refine gate_callee (f:=75) rfl ?_);refine goesL_ (some 55) rfl rfl Tryz.func75 KR rfl #[.int .i64 J,.int .i64 1,.int .i64 3] rfl AR ?_;(with_reducible refine(impl_InRange.calls J 1 3 true _ dc.out).mono ?_);rintro e w' ⟨rfl,⟨nd,rfl⟩⟩;refine⟨_,rfl,?_⟩))
          go_ret
          exact⟨RT,PB⟩
         ·replace ay:=Bool.eq_false_iff.mpr ay;subst ay;rw[if_neg (show ¬(false=true) by decide)] at H;obtain rfl:=Option.some.inj H;obtain⟨_,_,_,_,_,_,_,_⟩:=bc4 U;go_wp2_with (first|((with_reducible refine gate_callee (f:=75) rfl ?_);refine goesL_ (some 55) rfl rfl Tryz.func75 KR rfl #[.int .i64 J,.int .i64 1,.int .i64 3] rfl AR ?_;(with_reducible refine(impl_InRange.calls J 1 3 false _ dc.out).mono ?_);rintro e w' ⟨rfl,⟨nd,rfl⟩⟩;refine⟨_,rfl,?_⟩))
          go_ret
          exact⟨RT,PB⟩
        ·rw[if_neg ai] at H;have cq:(D == 7)=false:=beq_eq_false_iff_ne.mpr ai;have cr:(D != 7)=true:=bne_iff_ne.mpr ai
         by_cases aj:D=8
         ·rw[if_pos aj] at H;have ct:(D == 8)=true:=beq_iff_eq.mpr aj;have cu:(D != 8)=false:=bne_eq_false_iff_eq.mpr aj;clear aj;replace H:=Option.bind_eq_some_iff.mp H;obtain⟨dp,ch,H⟩:=H;(try dsimp only at H);have de:=ak ch;clear ch
          by_cases az:dp=true
          ·subst az;rw[if_pos rfl] at H;obtain rfl:=Option.some.inj H;obtain⟨_,_,_,_,_,_,_,_⟩:=bc4 U;go_wp2_with (first|((with_reducible refine gate_callee (f:=91) rfl ?_);refine goesL_ (some 66) rfl rfl Tryz.func91 KR rfl #[.int .i64 J,.int .i64 3] rfl AR ?_;(with_reducible refine(impl_at.calls J 3 true _ de.out).mono ?_);rintro e w' ⟨rfl,⟨nd,rfl⟩⟩;refine⟨_,rfl,?_⟩))
           go_ret
           exact⟨RT,PB⟩
          ·replace az:=Bool.eq_false_iff.mpr az;subst az;rw[if_neg (show ¬(false=true) by decide)] at H;obtain rfl:=Option.some.inj H;obtain⟨_,_,_,_,_,_,_,_⟩:=bc4 U;go_wp2_with (first|((with_reducible refine gate_callee (f:=91) rfl ?_);refine goesL_ (some 66) rfl rfl Tryz.func91 KR rfl #[.int .i64 J,.int .i64 3] rfl AR ?_;(with_reducible refine(impl_at.calls J 3 false _ de.out).mono ?_);rintro e w' ⟨rfl,⟨nd,rfl⟩⟩;refine⟨_,rfl,?_⟩))
           go_ret
           exact⟨RT,PB⟩
         ·rw[if_neg aj] at H;have ct:(D == 8)=false:=beq_eq_false_iff_ne.mpr aj;have cu:(D != 8)=true:=bne_iff_ne.mpr aj
          by_cases al:D=9
          ·rw[if_pos al] at H;have cv:(D == 9)=true:=beq_iff_eq.mpr al;have cw:(D != 9)=false:=bne_eq_false_iff_eq.mpr al;clear al;replace H:=Option.bind_eq_some_iff.mp H;obtain⟨dq,ci,H⟩:=H;(try dsimp only at H);have df:=ak ci;clear ci
           by_cases ba:dq=true
           ·subst ba;rw[if_pos rfl] at H;obtain rfl:=Option.some.inj H;obtain⟨_,_,_,_,_,_,_,_⟩:=bc4 U;go_wp2_with (first|((with_reducible refine gate_callee (f:=91) rfl ?_);refine goesL_ (some 66) rfl rfl Tryz.func91 KR rfl #[.int .i64 J,.int .i64 3] rfl AR ?_;(with_reducible refine(impl_at.calls J 3 true _ df.out).mono ?_);rintro e w' ⟨rfl,⟨nd,rfl⟩⟩;refine⟨_,rfl,?_⟩))
            go_ret
            exact⟨RT,PB⟩
           ·replace ba:=Bool.eq_false_iff.mpr ba;subst ba;rw[if_neg (show ¬(false=true) by decide)] at H;obtain rfl:=Option.some.inj H;obtain⟨_,_,_,_,_,_,_,_⟩:=bc4 U;go_wp2_with (first|((with_reducible refine gate_callee (f:=91) rfl ?_);refine goesL_ (some 66) rfl rfl Tryz.func91 KR rfl #[.int .i64 J,.int .i64 3] rfl AR ?_;(with_reducible refine(impl_at.calls J 3 false _ df.out).mono ?_);rintro e w' ⟨rfl,⟨nd,rfl⟩⟩;refine⟨_,rfl,?_⟩))
            go_ret
            exact⟨RT,PB⟩
          ·rw[if_neg al] at H;have cv:(D == 9)=false:=beq_eq_false_iff_ne.mpr al;have cw:(D != 9)=true:=bne_iff_ne.mpr al;obtain rfl:=Option.some.inj H;go_wp2
           go_ret
           exact⟨RT,PB⟩
 ·replace c3:=Bool.eq_false_iff.mpr c3;subst c3;rw[if_neg (show ¬(false=true) by decide)] at H;obtain rfl:=Option.some.inj H;go_enter Tryz.func73,Tryz.ntmps73;go_wp2_with (first|((with_reducible refine gate_dst (N:=1) rfl ?_);refine bx_ (N:=1) #[.int .i64 D,.int .i64 X,.int .i64 J,.int .i64 Y] 56 ?_;intro ae hg d7 hbox hb;have U:=ak hbox;have am:=gy hg HB;replace HB:=bs HB hb;clear hb hbox hg;obtain⟨_,_,_,_,_,_,_,_⟩:=bc4 U)|((with_reducible refine gate_callee (f:=91) rfl ?_);refine goesL_ (some 5) rfl rfl Tryz.func91 KR rfl #[.int .i64 X,.int .i64 4] rfl AR ?_;(with_reducible refine(impl_at.calls X 4 false _ A2.out).mono ?_);rintro e w' ⟨rfl,⟨nd,rfl⟩⟩;refine⟨_,rfl,?_⟩))
  go_ret
  exact⟨RT,PB⟩

def impl_IsScript_lit1.f (k:Nat)(D:Int)(J:Int)(U:Int)(X:Int):Option (Bool):=(impl_isOp.f k D J U X).bind fun Y=>(some (!Y))
theorem impl_IsScript_lit1.calls (k:Nat)(D:Int)(J:Int)(U:Int)(X:Int)(r:Bool)(w:World)(h:impl_IsScript_lit1.f k D J U X=some r) :
  Calls Tryz.prog 72 #[.agg #[.int .i64 D,.int .i64 J,.int .i64 U,.int .i64 X]] w fun e w'=>e = .returned (.bool r)∧Below w.heap.size w w':=by
 have ao:=Tryz.underlying56;have HB:=ak (Below.refl w.heap.size w);have H:=h;clear h;unfold impl_IsScript_lit1.f at H;replace H:=Option.bind_eq_some_iff.mp H;obtain⟨aa,Z,H⟩:=H;(try dsimp only at H);have A2:=ak Z;clear Z;obtain rfl:=Option.some.inj H;go_enter Tryz.func72,Tryz.ntmps72;go_wp2_with (first|((with_reducible refine gate_dst (N:=1) rfl ?_);refine bx_ (N:=1) #[.int .i64 D,.int .i64 J,.int .i64 U,.int .i64 X] 56 ?_;intro al hg w3 hbox hb;have Y:=ak hbox;have am:=gy hg HB;replace HB:=bs HB hb;clear hb hbox hg;obtain⟨ab,ac,ae,af,ag,ah,ai,aj⟩:=bc4 Y)|((with_reducible refine gate_callee (f:=73) rfl ?_);refine goesL_ (some 4) rfl rfl Tryz.func73 KR rfl #[.agg #[.int .i64 D,.int .i64 J,.int .i64 U,.int .i64 X]] rfl AR ?_;(with_reducible refine(impl_isOp.calls k D J U X aa _ A2.out).mono ?_);rintro e w5 ⟨rfl,hb⟩;refine⟨_,rfl,?_⟩;replace Y:=kf Y hb;replace HB:=bs HB hb;clear hb))
 go_ret
 exact⟨RT,PB⟩
def slices_IndexFunc_72.l0:Nat→List (S56)→Int→Int→Option (Int)
  | 0,_,_,_=>none
  | k+1,J,X,D=>if D < X then(if 0≤D then(if D < (J.length:Int) then((impl_IsScript_lit1.f k ((rd_T56 J D).f0) ((rd_T56 J D).f1) ((rd_T56 J D).f2) ((rd_T56 J D).f3)).bind fun U=>(if U=true then(some D) else(slices_IndexFunc_72.l0 k J X (wrap64 (D+1))))) else(none)) else(none)) else(some (-1))
def slices_IndexFunc_72.f (k:Nat)(D:List (S56))(J:Int):Option (Int):=slices_IndexFunc_72.l0 k D (D.length:Int) 0
theorem slices_IndexFunc_72.calls (k:Nat)(A0:Option Addr)(c0:Nat)(J:List (S56))(a1:Int)(r:Int)(w:World)(aj:Kd.C k56 w A0 J.length J)(al:J.length≤c0)(h:slices_IndexFunc_72.f k J a1=some r) :
  Calls Tryz.prog 90 #[.slice A0 J.length c0,.func (.func 72) #[] #[]] w fun e w'=>e = .returned (.int .i64 r)∧Below w.heap.size w w':=by
 have ay:=Tryz.underlying56;have am:=ak aj;have bc:=ak al;clear aj al;have HB:=ak (Below.refl w.heap.size w);have H:=h;clear h;unfold slices_IndexFunc_72.f at H;have H':=ak H;clear H;go_enter Tryz.func90,Tryz.ntmps90;go_wp2
 go_loopg [8] k (fun kq v8 w'=>∃(D:Int),v8 = .int .i64 D∧Aside0 (slices_IndexFunc_72.l0 kq J (J.length:Int) D=some r)∧Aside0 (kq≤k)∧Aside0 (Below w.heap.size w w'))
 case atStart=>exact⟨(0),FR,H',⟨Nat.le_refl _⟩,⟨PB⟩⟩
 case round =>
  clear H'
  try clear p2
  obtain⟨D,rfl,HA,ao,HB⟩:=hrel
  cases gk with
  | zero=>exact absurd HA.out (by simp[slices_IndexFunc_72.l0])
  | succ k1 =>
   have H:=HA.out;clear HA;simp only[slices_IndexFunc_72.l0] at H
   by_cases c3:D < (J.length:Int)
   ·rw[if_pos c3] at H;have aq:decide (D < (J.length:Int))=true:=decide_eq_true c3;clear c3
    by_cases c4:0≤D
    ·rw[if_pos c4] at H;have ba:decide (0≤D)=true:=decide_eq_true c4;clear c4
     by_cases c5:D < (J.length:Int)
     ·rw[if_pos c5] at H;have bb:decide (D < (J.length:Int))=true:=decide_eq_true c5;clear c5;replace H:=Option.bind_eq_some_iff.mp H;obtain⟨ar,ap,H⟩:=H;(try dsimp only at H);have A6:=ak ap;clear ap
      by_cases c7:ar=true
      ·subst c7;rw[if_pos rfl] at H;obtain rfl:=Option.some.inj H;have aa:0≤(D:Int):=od;have ab:D < (J.length:Int):=od;obtain⟨ai,ac,U,X,Y,Z⟩:=at_T56 am.out D aa ab;cases ac;replace U:=hx_ HB U;replace X:=hx_ HB X;replace Y:=hx_ HB Y;replace Z:=hx_ HB Z;replace aa:=eq_true aa;replace ab:=eq_true ab;go_wp2_with (first|((with_reducible refine gate_calleeV (n:=11) rfl ?_);refine goesLV_ (some 16) rfl rfl Tryz.func72 KR rfl #[.agg #[.int .i64 ((rd_T56 J D).f0),.int .i64 ((rd_T56 J D).f1),.int .i64 ((rd_T56 J D).f2),.int .i64 ((rd_T56 J D).f3)]] rfl AR ?_;(with_reducible refine(impl_IsScript_lit1.calls k1 ((rd_T56 J D).f0) ((rd_T56 J D).f1) ((rd_T56 J D).f2) ((rd_T56 J D).f3) true _ A6.out).mono ?_);rintro e w8 ⟨rfl,hb⟩;refine⟨_,rfl,?_⟩;replace HB:=bs HB hb;clear hb))
       go_ret
       exact⟨RT,PB⟩
      ·replace c7:=Bool.eq_false_iff.mpr c7;subst c7;rw[if_neg (show ¬(false=true) by decide)] at H;have H':=ak H;clear H;have aa:0≤(D:Int):=od;have ab:D < (J.length:Int):=od;obtain⟨ai,ac,U,X,Y,Z⟩:=at_T56 am.out D aa ab;cases ac;replace U:=hx_ HB U;replace X:=hx_ HB X;replace Y:=hx_ HB Y;replace Z:=hx_ HB Z;replace aa:=eq_true aa;replace ab:=eq_true ab;go_wp2_with (first|((with_reducible refine gate_calleeV (n:=11) rfl ?_);refine goesLV_ (some 16) rfl rfl Tryz.func72 KR rfl #[.agg #[.int .i64 ((rd_T56 J D).f0),.int .i64 ((rd_T56 J D).f1),.int .i64 ((rd_T56 J D).f2),.int .i64 ((rd_T56 J D).f3)]] rfl AR ?_;(with_reducible refine(impl_IsScript_lit1.calls k1 ((rd_T56 J D).f0) ((rd_T56 J D).f1) ((rd_T56 J D).f2) ((rd_T56 J D).f3) false _ A6.out).mono ?_);rintro e w9 ⟨rfl,hb⟩;refine⟨_,rfl,?_⟩;replace HB:=bs HB hb;clear hb))
       go_roundg k1
       case measure=>have:=ao.out;omega
       case rel=>exact⟨(wrap64 (D+1)),FR,H',⟨by have:=ao.out;omega⟩,⟨PB⟩⟩
     ·rw[if_neg c5] at H;exact absurd H (by simp)
    ·rw[if_neg c4] at H;exact absurd H (by simp)
   ·rw[if_neg c3] at H;have aq:decide (D < (J.length:Int))=false:=decide_eq_false c3;clear c3;obtain rfl:=Option.some.inj H;go_wp2
    go_ret
    exact⟨RT,PB⟩
def slices_ContainsFunc_72.f (k:Nat)(J:List (S56))(U:Int):Option (Bool):=(slices_IndexFunc_72.f k J U).bind fun D=>(some (decide (D≥0)))
theorem slices_ContainsFunc_72.calls (k:Nat)(Y:Option Addr)(Z:Nat)(D:List (S56))(a1:Int)(r:Bool)(w:World)(J:Kd.C k56 w Y D.length D)(U:D.length≤Z)(h:slices_ContainsFunc_72.f k D a1=some r) :
  Calls Tryz.prog 71 #[.slice Y D.length Z,.func (.func 72) #[] #[]] w fun e w'=>e = .returned (.bool r)∧Below w.heap.size w w':=by
 have ac:=ak J;have ae:=ak U;clear J U;have HB:=ak (Below.refl w.heap.size w);have H:=h;clear h;unfold slices_ContainsFunc_72.f at H;replace H:=Option.bind_eq_some_iff.mp H;obtain⟨aa,X,H⟩:=H;(try dsimp only at H);have A3:=ak X;clear X;obtain rfl:=Option.some.inj H;go_enter Tryz.func71,Tryz.ntmps71;go_wp2_with (first|((with_reducible refine gate_callee (f:=90) rfl ?_);refine goesL_ (some 7) rfl rfl Tryz.func90 KR rfl #[.slice Y D.length Z,.func (.func 72) #[] #[]] rfl AR ?_;(with_reducible refine(slices_IndexFunc_72.calls k _ _ D a1 aa _ ?side1 ?side2 A3.out).mono ?_);(case side1=>exact CR (ac.out));(case side2=>exact ae.out);rintro e w4 ⟨rfl,hb⟩;refine⟨_,rfl,?_⟩;replace HB:=bs HB hb;clear hb))
 go_ret
 exact⟨RT,PB⟩
def impl_IsScript.f (k:Nat)(J:List (S56)):Option (Bool):=if (J.length:Int)≤16 then((slices_ContainsFunc_72.f k J 90000072).bind fun D=>(some (!D))) else(some false)
theorem impl_IsScript.calls (k:Nat)(A0:Option Addr)(c0:Nat)(D:List (S56))(r:Bool)(w:World)(U:Kd.C k56 w A0 D.length D)(X:D.length≤c0)(h:impl_IsScript.f k D=some r) :
  Calls Tryz.prog 46 #[.slice A0 D.length c0] w fun e w'=>e = .returned (.bool r)∧Below w.heap.size w w':=by
 have af:=ak U;have ag:=ak X;clear U X;have HB:=ak (Below.refl w.heap.size w);have H:=h;clear h;unfold impl_IsScript.f at H
 by_cases J:(D.length:Int)≤16
 ·rw[if_pos J] at H;have Z:decide ((D.length:Int)≤16)=true:=decide_eq_true J;have aa:decide (D.length≤16)=true:=decide_eq_true (by omega);clear J;replace H:=Option.bind_eq_some_iff.mp H;obtain⟨ab,Y,H⟩:=H;(try dsimp only at H);have A3:=ak Y;clear Y;obtain rfl:=Option.some.inj H;go_enter Tryz.func46,Tryz.ntmps46;go_wp2_with (first|(go_at_call 71;(with_reducible refine(slices_ContainsFunc_72.calls k _ _ D 90000072 ab _ ?side1 ?side2 A3.out).mono ?_);(case side1=>exact CR (af.out));(case side2=>exact ag.out);rintro e w4 ⟨rfl,hb⟩;replace HB:=bs HB hb;clear hb))
  go_ret
  exact⟨RT,PB⟩
 ·rw[if_neg J] at H;have Z:decide ((D.length:Int)≤16)=false:=decide_eq_false J;have aa:decide (D.length≤16)=false:=decide_eq_false (by omega);clear J;obtain rfl:=Option.some.inj H;go_enter Tryz.func46,Tryz.ntmps46;go_wp2
  go_ret
  exact⟨RT,PB⟩
def impl_IsAddress.f (D:Int)(J:Int)(U:Int):Option (Bool):=(impl_InRange.f D 1 9).bind fun X=>(if X=true then((impl_InRange.f J 0 99).bind fun Y=>(if Y=true then((impl_InRange.f U 0 99).bind fun Z=>(some Z)) else(some false))) else(some false))
theorem impl_IsAddress.calls (D:Int)(J:Int)(X:Int)(r:Bool)(w:World)(h:impl_IsAddress.f D J X=some r) :
  Calls Tryz.prog 94 #[.agg #[.int .i64 D,.int .i64 J,.int .i64 X]] w fun e w'=>e = .returned (.bool r)∧Below w.heap.size w w':=by
 have bi:=Tryz.underlying64;have HB:=ak (Below.refl w.heap.size w);have H:=h;clear h;unfold impl_IsAddress.f at H;replace H:=Option.bind_eq_some_iff.mp H;obtain⟨ag,ac,H⟩:=H;(try dsimp only at H);have A2:=ak ac;clear ac
 by_cases c3:ag=true
 ·subst c3;rw[if_pos rfl] at H;replace H:=Option.bind_eq_some_iff.mp H;obtain⟨ai,ae,H⟩:=H;(try dsimp only at H);have A4:=ak ae;clear ae
  by_cases c5:ai=true
  ·subst c5;rw[if_pos rfl] at H;replace H:=Option.bind_eq_some_iff.mp H;obtain⟨aj,af,H⟩:=H;(try dsimp only at H);have A6:=ak af;clear af;obtain rfl:=Option.some.inj H;go_enter Tryz.func94,Tryz.ntmps94;go_wp2_with (first|((with_reducible refine gate_dst (N:=1) rfl ?_);refine bx_ (N:=1) #[.int .i64 D,.int .i64 J,.int .i64 X] 64 ?_;intro Y hg w7 hbox hb;have U:=ak hbox;have Z:=gy hg HB;replace HB:=bs HB hb;clear hb hbox hg;obtain⟨bb,bc,bd,bf,bg,bh⟩:=bc3 U)|((with_reducible refine gate_callee (f:=75) rfl ?_);refine goesL_ (some 5) rfl rfl Tryz.func75 KR rfl #[.int .i64 D,.int .i64 1,.int .i64 9] rfl AR ?_;(with_reducible refine(impl_InRange.calls D 1 9 true _ A2.out).mono ?_);rintro e w' ⟨rfl,⟨nd,rfl⟩⟩;refine⟨_,rfl,?_⟩)|(go_at_call 75;(with_reducible refine(impl_InRange.calls J 0 99 true _ A4.out).mono ?_);rintro e w' ⟨rfl,⟨nd,rfl⟩⟩)|(go_at_call 75;(with_reducible refine(impl_InRange.calls X 0 99 aj _ A6.out).mono ?_);rintro e w' ⟨rfl,⟨nd,rfl⟩⟩))
   go_ret
   exact⟨RT,PB⟩
  ·replace c5:=Bool.eq_false_iff.mpr c5;subst c5;rw[if_neg (show ¬(false=true) by decide)] at H;obtain rfl:=Option.some.inj H;go_enter Tryz.func94,Tryz.ntmps94;go_wp2_with (first|((with_reducible refine gate_dst (N:=1) rfl ?_);refine bx_ (N:=1) #[.int .i64 D,.int .i64 J,.int .i64 X] 64 ?_;intro Y hg w9 hbox hb;have U:=ak hbox;have Z:=gy hg HB;replace HB:=bs HB hb;clear hb hbox hg;obtain⟨al,am,ao,ap,aq,ar⟩:=bc3 U)|((with_reducible refine gate_callee (f:=75) rfl ?_);refine goesL_ (some 5) rfl rfl Tryz.func75 KR rfl #[.int .i64 D,.int .i64 1,.int .i64 9] rfl AR ?_;(with_reducible refine(impl_InRange.calls D 1 9 true _ A2.out).mono ?_);rintro e w' ⟨rfl,⟨nd,rfl⟩⟩;refine⟨_,rfl,?_⟩)|(go_at_call 75;(with_reducible refine(impl_InRange.calls J 0 99 false _ A4.out).mono ?_);rintro e w' ⟨rfl,⟨nd,rfl⟩⟩))
   go_ret
   exact⟨RT,PB⟩
 ·replace c3:=Bool.eq_false_iff.mpr c3;subst c3;rw[if_neg (show ¬(false=true) by decide)] at H;obtain rfl:=Option.some.inj H;go_enter Tryz.func94,Tryz.ntmps94;go_wp2_with (first|((with_reducible refine gate_dst (N:=1) rfl ?_);refine bx_ (N:=1) #[.int .i64 D,.int .i64 J,.int .i64 X] 64 ?_;intro Y hg bk hbox hb;have U:=ak hbox;have Z:=gy hg HB;replace HB:=bs HB hb;clear hb hbox hg;obtain⟨au,av,aw,ax,ay,az⟩:=bc3 U)|((with_reducible refine gate_callee (f:=75) rfl ?_);refine goesL_ (some 5) rfl rfl Tryz.func75 KR rfl #[.int .i64 D,.int .i64 1,.int .i64 9] rfl AR ?_;(with_reducible refine(impl_InRange.calls D 1 9 false _ A2.out).mono ?_);rintro e w' ⟨rfl,⟨nd,rfl⟩⟩;refine⟨_,rfl,?_⟩))
  go_ret
  exact⟨RT,PB⟩
def impl_allIn.l0:Nat→Int→Int→List Int→Int→Int→Option (Bool)
  | 0,_,_,_,_,_=>none
  | k+1,Y,Z,U,J,D=>if D < J then(if 0≤D then(if D < (U.length:Int) then((impl_InRange.f (rd U D) Y Z).bind fun X=>(if X=true then(impl_allIn.l0 k Y Z U J (wrap64 (D+1))) else(some false))) else(none)) else(none)) else(some true)
def impl_allIn.f (k:Nat)(D:List Int)(J:Int)(U:Int):Option (Bool):=impl_allIn.l0 k J U D (D.length:Int) 0
theorem impl_allIn.calls (k:Nat)(A0:Option Addr)(c0:Nat)(J:List Int)(Y:Int)(Z:Int)(r:Bool)(w:World)(ai:Kd.C (Kd.int .i64) w A0 J.length J)(aj:J.length≤c0)(h:impl_allIn.f k J Y Z=some r) :
  Calls Tryz.prog 76 #[.slice A0 J.length c0,.int .i64 Y,.int .i64 Z] w fun e w'=>e = .returned (.bool r)∧Drawn0 w w':=by
 have al:=ak ai;have az:=ak aj;clear ai aj;have H:=h;clear h;unfold impl_allIn.f at H;have H':=ak H;clear H;go_enter Tryz.func76,Tryz.ntmps76;go_wp2
 go_loopg [11] k (fun kq av w'=>∃(D:Int),av = .int .i64 D∧Aside0 (impl_allIn.l0 kq Y Z J (J.length:Int) D=some r)∧Aside0 (kq≤k)∧Drawn0 w w')
 case atStart=>exact⟨(0),FR,H',⟨Nat.le_refl _⟩,by repeat(first|exact Drawn0.refl _ | apply Drawn0.step)⟩
 case round =>
  clear H'
  try clear p2
  obtain⟨D,rfl,HA,am,⟨m1,rfl⟩⟩:=hrel
  cases gk with
  | zero=>exact absurd HA.out (by simp[impl_allIn.l0])
  | succ k1 =>
   have H:=HA.out;clear HA;simp only[impl_allIn.l0] at H
   by_cases c4:D < (J.length:Int)
   ·rw[if_pos c4] at H;have ap:decide (D < (J.length:Int))=true:=decide_eq_true c4;clear c4
    by_cases c5:0≤D
    ·rw[if_pos c5] at H;have ax:decide (0≤D)=true:=decide_eq_true c5;clear c5
     by_cases c6:D < (J.length:Int)
     ·rw[if_pos c6] at H;have ay:decide (D < (J.length:Int))=true:=decide_eq_true c6;clear c6;replace H:=Option.bind_eq_some_iff.mp H;obtain⟨aq,ao,H⟩:=H;(try dsimp only at H);have A7:=ak ao;clear ao
      by_cases c8:aq=true
      ·subst c8;rw[if_pos rfl] at H;have H':=ak H;clear H;have U:0≤(D:Int):=od;have X:D < (J.length:Int):=od;obtain⟨ah,aa,ac⟩:=Kd.at_int al.out D U X;cases aa;replace U:=eq_true U;replace X:=eq_true X;go_wp2_with (first|((with_reducible refine gate_callee (f:=75) rfl ?_);refine goesL_ (some 18) rfl rfl Tryz.func75 KR rfl #[.int .i64 (rd J D),.int .i64 Y,.int .i64 Z] rfl AR ?_;(with_reducible refine(impl_InRange.calls (rd J D) Y Z true _ A7.out).mono ?_);rintro e w' ⟨rfl,⟨nd,rfl⟩⟩;refine⟨_,rfl,?_⟩))
       go_roundg k1
       case measure=>have:=am.out;omega
       case rel=>exact⟨(wrap64 (D+1)),FR,H',⟨by have:=am.out;omega⟩,by repeat(first|exact Drawn0.refl _ | apply Drawn0.step)⟩
      ·replace c8:=Bool.eq_false_iff.mpr c8;subst c8;rw[if_neg (show ¬(false=true) by decide)] at H;obtain rfl:=Option.some.inj H;have U:0≤(D:Int):=od;have X:D < (J.length:Int):=od;obtain⟨ah,aa,ac⟩:=Kd.at_int al.out D U X;cases aa;replace U:=eq_true U;replace X:=eq_true X;go_wp2_with (first|((with_reducible refine gate_callee (f:=75) rfl ?_);refine goesL_ (some 18) rfl rfl Tryz.func75 KR rfl #[.int .i64 (rd J D),.int .i64 Y,.int .i64 Z] rfl AR ?_;(with_reducible refine(impl_InRange.calls (rd J D) Y Z false _ A7.out).mono ?_);rintro e w' ⟨rfl,⟨nd,rfl⟩⟩;refine⟨_,rfl,?_⟩))
       go_ret
       exact⟨FR,by repeat(first|exact Drawn0.refl _ | apply Drawn0.step)⟩
     ·rw[if_neg c6] at H;exact absurd H (by simp)
    ·rw[if_neg c5] at H;exact absurd H (by simp)
   ·rw[if_neg c4] at H;have ap:decide (D < (J.length:Int))=false:=decide_eq_false c4;clear c4;obtain rfl:=Option.some.inj H;go_wp2
    go_ret
    exact⟨FR,by repeat(first|exact Drawn0.refl _ | apply Drawn0.step)⟩
attribute [local go_sem high] eqA64
def impl_IsResource.j0:Nat→Int→Bool→Int→List Int→Int→Int→Int→Option (Bool)
  | 0,_,_,_,_,_,_,_=>none
  | k+1,x4,x5,aa,D,J,U,X=>if x5=true then(if (D.length:Int)≤6 then((impl_allIn.f k D 0 255).bind fun Y=>(if Y=true then(some (J == 0 && (U == 0 && (X == 0)))) else(some false))) else(some false)) else(if x4=3 then(if (D.length:Int)=0 then((impl_IsAddress.f J U X).bind fun Z=>(some Z)) else(some false)) else(if x4=4 then(if (D.length:Int)=0 then(some (J == 0 && (U == 0 && (X == 0)))) else(some false)) else(some false)))
def impl_IsResource.f (k:Nat)(D:Int)(J:List Int)(U:Int)(X:Int)(Y:Int):Option (Bool):=if D=1 then(impl_IsResource.j0 k D (D == 1) D J U X Y) else(impl_IsResource.j0 k D (D == 2) D J U X Y)
theorem impl_IsResource.calls (k:Nat)(J:Int)(ag:Option Addr)(ah:Nat)(D:List Int)(X:Int)(Y:Int)(Z:Int)(r:Bool)(w:World)(al:Kd.C (Kd.int .i64) w ag D.length D)(am:D.length≤ah)(h:impl_IsResource.f k J D X Y Z=some r) :
  Calls Tryz.prog 95 #[.agg #[.int .i64 J,.slice ag D.length ah,.int .i64 X,.int .i64 Y,.int .i64 Z]] w fun e w'=>e = .returned (.bool r)∧Below w.heap.size w w':=by
 have cr:=Tryz.underlying87;have ct:=Tryz.underlying64;have ao:=ak al;have ap:=ak am;clear al am;have HB:=ak (Below.refl w.heap.size w);have H:=h;clear h;unfold impl_IsResource.f at H;have ar:=ak H;clear H;go_enter Tryz.func95,Tryz.ntmps95
 go_upto_if 5 with (first|((with_reducible refine gate_dst (N:=1) rfl ?_);refine bx_ (N:=1) #[.int .i64 J,.slice ag D.length ah,.int .i64 X,.int .i64 Y,.int .i64 Z] 87 ?_;intro bh hg w3 hbox hb;have U:=ak hbox;have co:=gy hg HB;replace HB:=bs HB hb;clear hb hbox hg;obtain⟨au,av,aw,ax,ay,az,ba,bb,bc,bd⟩:=bc5 U))
 (try simp only[Act.put,List.setIfInBounds_toArray,List.set_cons_zero,List.set_cons_succ])
 go_cut [5] (fun v5 wc=>∃(kq:Nat)(ai:Bool),v5 = .bool ai∧Aside0 (impl_IsResource.j0 kq J ai J D X Y Z=some r)∧Aside0 (kq≤k)∧Aside0 (wc.heap[bh]?=some (.cells #[.int .i64 J,(.slice ag D.length ah),.int .i64 X,.int .i64 Y,.int .i64 Z] 87 (0,0)))∧Aside0 (Below w.heap.size w wc))
 case first =>
  have H:=ar.out;clear ar
  by_cases c5:J=1
  ·rw[if_pos c5] at H;have aa:(J == 1)=true:=beq_iff_eq.mpr c5;have bf:(J != 1)=false:=bne_eq_false_iff_eq.mpr c5;clear c5;(first|rw[aa]|(simp only[i64_w,i32_w];rw[aa])|skip);have H':=ak H;clear H;go_wp2
   go_meet
   case rel=>exact⟨_,((J == 1)),FR,H',⟨by first|omega | exact Nat.le_refl _⟩,⟨PK U⟩,⟨PB⟩⟩
  ·rw[if_neg c5] at H;have aa:(J == 1)=false:=beq_eq_false_iff_ne.mpr c5;have bf:(J != 1)=true:=bne_iff_ne.mpr c5;(first|rw[aa]|(simp only[i64_w,i32_w];rw[aa])|skip);have H':=ak H;clear H;go_wp2
   go_meet
   case rel=>exact⟨_,((J == 2)),FR,H',⟨by first|omega | exact Nat.le_refl _⟩,⟨PK U⟩,⟨PB⟩⟩
 case rest =>
  clear ar;(try clear p2);(try clear c5);(try clear aa);(try clear bf);(try clear au);(try clear av);(try clear aw);(try clear ax);(try clear ay);(try clear az);(try clear ba);(try clear bb);(try clear bc);(try clear bd);obtain⟨kq,ai,rfl,HA,cv,U,HB⟩:=hcut
  cases kq with
  | zero=>exact absurd HA.out (by simp[impl_IsResource.j0])
  | succ kj1 =>
   have H:=HA.out;clear HA;simp only[impl_IsResource.j0] at H
   by_cases c6:ai=true
   ·subst c6;rw[if_pos rfl] at H
    by_cases c7:(D.length:Int)≤6
    ·rw[if_pos c7] at H;have bx:decide ((D.length:Int)≤6)=true:=decide_eq_true c7;have bz:decide (D.length≤6)=true:=decide_eq_true (by omega);clear c7;replace H:=Option.bind_eq_some_iff.mp H;obtain⟨b0,bw,H⟩:=H;(try dsimp only at H);have A8:=ak bw;clear bw
     by_cases c9:b0=true
     ·subst c9;rw[if_pos rfl] at H;obtain rfl:=Option.some.inj H;obtain⟨b5,b6,b7,b8,b9,ca,cb,cd,ce,cf⟩:=bc5 U;go_wp2_with (first|(go_at_call 76;(with_reducible refine(impl_allIn.calls kj1 _ _ D 0 255 true _ ?side1 ?side2 A8.out).mono ?_);(case side1=>exact CR (Kd.C_below ao.out HB.out));(case side2=>exact ap.out);rintro e w' ⟨rfl,⟨nd,rfl⟩⟩))
      go_ret
      exact⟨RT,PB⟩
     ·replace c9:=Bool.eq_false_iff.mpr c9;subst c9;rw[if_neg (show ¬(false=true) by decide)] at H;obtain rfl:=Option.some.inj H;obtain⟨_,_,_,_,_,_,_,_,_,_⟩:=bc5 U;go_wp2_with (first|(go_at_call 76;(with_reducible refine(impl_allIn.calls kj1 _ _ D 0 255 false _ ?side1 ?side2 A8.out).mono ?_);(case side1=>exact CR (Kd.C_below ao.out HB.out));(case side2=>exact ap.out);rintro e w' ⟨rfl,⟨nd,rfl⟩⟩))
      go_ret
      exact⟨RT,PB⟩
    ·rw[if_neg c7] at H;have bx:decide ((D.length:Int)≤6)=false:=decide_eq_false c7;have bz:decide (D.length≤6)=false:=decide_eq_false (by omega);clear c7;obtain rfl:=Option.some.inj H;obtain⟨cg,ch,ci,_,_,cj,ck,cl,_,_⟩:=bc5 U;go_wp2
     go_ret
     exact⟨RT,PB⟩
   ·replace c6:=Bool.eq_false_iff.mpr c6;subst c6;rw[if_neg (show ¬(false=true) by decide)] at H
    by_cases ae:J=3
    ·rw[if_pos ae] at H;have bk:(J == 3)=true:=beq_iff_eq.mpr ae;have bl:(J != 3)=false:=bne_eq_false_iff_eq.mpr ae;clear ae
     by_cases ab:(D.length:Int)=0
     ·rw[if_pos ab] at H;have bm:((D.length:Int) == 0)=true:=beq_iff_eq.mpr ab;have bo:((D.length:Int) != 0)=false:=bne_eq_false_iff_eq.mpr ab;clear ab;replace H:=Option.bind_eq_some_iff.mp H;obtain⟨b4,bg,H⟩:=H;(try dsimp only at H);have cn:=ak bg;clear bg;obtain rfl:=Option.some.inj H;obtain⟨_,_,_,_,_,_,_,_,_,_⟩:=bc5 U;go_wp2_with (first|(go_at_call 94;(with_reducible refine(impl_IsAddress.calls X Y Z b4 _ cn.out).mono ?_);rintro e cw ⟨rfl,hb⟩;replace U:=kf U hb;replace HB:=bs HB hb;clear hb))
      go_ret
      exact⟨RT,PB⟩
     ·rw[if_neg ab] at H;have bm:((D.length:Int) == 0)=false:=beq_eq_false_iff_ne.mpr ab;have bo:((D.length:Int) != 0)=true:=bne_iff_ne.mpr ab
      have cp:¬(D=[]):=fun h_=>ab (by rw[h_];rfl)
      obtain rfl:=Option.some.inj H;obtain⟨_,_,_,_,_,_,_,_,_,_⟩:=bc5 U;go_wp2
      go_ret
      exact⟨RT,PB⟩
    ·rw[if_neg ae] at H;have bk:(J == 3)=false:=beq_eq_false_iff_ne.mpr ae;have bl:(J != 3)=true:=bne_iff_ne.mpr ae
     by_cases af:J=4
     ·rw[if_pos af] at H;have bp:(J == 4)=true:=beq_iff_eq.mpr af;have br:(J != 4)=false:=bne_eq_false_iff_eq.mpr af;clear af
      by_cases ac:(D.length:Int)=0
      ·rw[if_pos ac] at H;have bu:((D.length:Int) == 0)=true:=beq_iff_eq.mpr ac;have bv:((D.length:Int) != 0)=false:=bne_eq_false_iff_eq.mpr ac;clear ac;obtain rfl:=Option.some.inj H;obtain⟨_,_,_,_,_,_,_,_,_,_⟩:=bc5 U;go_wp2
       go_ret
       exact⟨RT,PB⟩
      ·rw[if_neg ac] at H;have bu:((D.length:Int) == 0)=false:=beq_eq_false_iff_ne.mpr ac;have bv:((D.length:Int) != 0)=true:=bne_iff_ne.mpr ac
       have cq:¬(D=[]):=fun h_=>ac (by rw[h_];rfl)
       obtain rfl:=Option.some.inj H;obtain⟨_,_,_,_,_,_,_,_,_,_⟩:=bc5 U;go_wp2
       go_ret
       exact⟨RT,PB⟩
     ·rw[if_neg af] at H;have bp:(J == 4)=false:=beq_eq_false_iff_ne.mpr af;have br:(J != 4)=true:=bne_iff_ne.mpr af;obtain rfl:=Option.some.inj H;go_wp2
      go_ret
      exact⟨RT,PB⟩
def impl_IsSite_lit1.f (k:Nat)(D:Int)(J:Int)(U:Int)(X:Int)(Y:Int)(Z:List Int)(aa:Int)(ab:Int)(ac:Int):Option (Bool):=(impl_IsAddress.f D J U).bind fun ae=>(if ae=true then((impl_InRange.f X 0 1000).bind fun af=>(if af=true then((impl_IsResource.f k Y Z aa ab ac).bind fun ag=>(some (!ag))) else(some true))) else(some true))
theorem impl_IsSite_lit1.calls (k:Nat)(J:Int)(U:Int)(X:Int)(Z:Int)(aa:Int)(af:Option Addr)(ag:Nat)(Y:List Int)(ab:Int)(ac:Int)(ae:Int)(r:Bool)(w:World)(ah:Kd.C (Kd.int .i64) w af Y.length Y)(ai:Y.length≤ag)(h:impl_IsSite_lit1.f k J U X Z aa Y ab ac ae=some r) :
  Calls Tryz.prog 93 #[.agg #[.int .i64 J,.int .i64 U,.int .i64 X,.int .i64 Z,.int .i64 aa,.slice af Y.length ag,.int .i64 ab,.int .i64 ac,.int .i64 ae]] w fun e w'=>e = .returned (.bool r)∧Below w.heap.size w w':=by
 have bw:=Tryz.underlying89;have bx:=Tryz.underlying64;have bz:=Tryz.underlying87;have am:=ak ah;have ao:=ak ai;clear ah ai;have HB:=ak (Below.refl w.heap.size w);have H:=h;clear h;unfold impl_IsSite_lit1.f at H;replace H:=Option.bind_eq_some_iff.mp H;obtain⟨aw,ar,H⟩:=H;(try dsimp only at H);have A2:=ak ar;clear ar
 by_cases c3:aw=true
 ·subst c3;rw[if_pos rfl] at H;replace H:=Option.bind_eq_some_iff.mp H;obtain⟨ay,au,H⟩:=H;(try dsimp only at H);have A4:=ak au;clear au
  by_cases c5:ay=true
  ·subst c5;rw[if_pos rfl] at H;replace H:=Option.bind_eq_some_iff.mp H;obtain⟨az,av,H⟩:=H;(try dsimp only at H);have A6:=ak av;clear av;obtain rfl:=Option.some.inj H;go_enter Tryz.func93,Tryz.ntmps93;go_wp2_with (first|((with_reducible refine gate_dst (N:=1) rfl ?_);refine bx_ (N:=1) #[.int .i64 J,.int .i64 U,.int .i64 X,.int .i64 Z,.int .i64 aa,.slice af Y.length ag,.int .i64 ab,.int .i64 ac,.int .i64 ae] 89 ?_;intro aj hg w7 hbox hb;have D:=ak hbox;have al:=gy hg HB;replace HB:=bs HB hb;clear hb hbox hg;obtain⟨bm,bo,bp,_,_,_,_,_,_,br,bu,bv,_,_,_,_,_,_⟩:=bc9 D)|((with_reducible refine gate_callee (f:=94) rfl ?_);refine goesL_ (some 5) rfl rfl Tryz.func94 KR rfl #[.agg #[.int .i64 J,.int .i64 U,.int .i64 X]] rfl AR ?_;(with_reducible refine(impl_IsAddress.calls J U X true _ A2.out).mono ?_);rintro e w9 ⟨rfl,hb⟩;refine⟨_,rfl,?_⟩;replace D:=kf D hb;replace HB:=bs HB hb;clear hb;obtain⟨ba,bb,bc,bd,bf,_,_,_,_,bg,bh,bi,bj,bk,_,_,_,_⟩:=bc9 D)|(go_at_call 75;(with_reducible refine(impl_InRange.calls Z 0 1000 true _ A4.out).mono ?_);rintro e w' ⟨rfl,⟨nd,rfl⟩⟩)|(go_at_call 95;(with_reducible refine(impl_IsResource.calls k aa _ _ Y ab ac ae az _ ?side1 ?side2 A6.out).mono ?_);(case side1=>repeat(first|exact(Kd.C_below am.out PB)|(with_reducible refine Kd.C_alloc ?_ _)|(with_reducible refine Kd.C_drewN ?_ _)|(with_reducible refine Kd.C_drew ?_)));(case side2=>exact ao.out);rintro e b4 ⟨rfl,hb⟩;replace D:=kf D hb;replace HB:=bs HB hb;clear hb))
   go_ret
   exact⟨RT,PB⟩
  ·replace c5:=Bool.eq_false_iff.mpr c5;subst c5;rw[if_neg (show ¬(false=true) by decide)] at H;obtain rfl:=Option.some.inj H;go_enter Tryz.func93,Tryz.ntmps93;go_wp2_with (first|((with_reducible refine gate_dst (N:=1) rfl ?_);refine bx_ (N:=1) #[.int .i64 J,.int .i64 U,.int .i64 X,.int .i64 Z,.int .i64 aa,.slice af Y.length ag,.int .i64 ab,.int .i64 ac,.int .i64 ae] 89 ?_;intro aj hg b5 hbox hb;have D:=ak hbox;have al:=gy hg HB;replace HB:=bs HB hb;clear hb hbox hg;obtain⟨_,_,_,_,_,_,_,_,_,_,_,_,_,_,_,_,_,_⟩:=bc9 D)|((with_reducible refine gate_callee (f:=94) rfl ?_);refine goesL_ (some 5) rfl rfl Tryz.func94 KR rfl #[.agg #[.int .i64 J,.int .i64 U,.int .i64 X]] rfl AR ?_;(with_reducible refine(impl_IsAddress.calls J U X true _ A2.out).mono ?_);rintro e b6 ⟨rfl,hb⟩;refine⟨_,rfl,?_⟩;replace D:=kf D hb;replace HB:=bs HB hb;clear hb;obtain⟨_,_,_,_,_,_,_,_,_,_,_,_,_,_,_,_,_,_⟩:=bc9 D)|(go_at_call 75;(with_reducible refine(impl_InRange.calls Z 0 1000 false _ A4.out).mono ?_);rintro e w' ⟨rfl,⟨nd,rfl⟩⟩))
   go_ret
   exact⟨RT,PB⟩
 ·replace c3:=Bool.eq_false_iff.mpr c3;subst c3;rw[if_neg (show ¬(false=true) by decide)] at H;obtain rfl:=Option.some.inj H;go_enter Tryz.func93,Tryz.ntmps93;go_wp2_with (first|((with_reducible refine gate_dst (N:=1) rfl ?_);refine bx_ (N:=1) #[.int .i64 J,.int .i64 U,.int .i64 X,.int .i64 Z,.int .i64 aa,.slice af Y.length ag,.int .i64 ab,.int .i64 ac,.int .i64 ae] 89 ?_;intro aj hg b7 hbox hb;have D:=ak hbox;have al:=gy hg HB;replace HB:=bs HB hb;clear hb hbox hg;obtain⟨_,_,_,_,_,_,_,_,_,_,_,_,_,_,_,_,_,_⟩:=bc9 D)|((with_reducible refine gate_callee (f:=94) rfl ?_);refine goesL_ (some 5) rfl rfl Tryz.func94 KR rfl #[.agg #[.int .i64 J,.int .i64 U,.int .i64 X]] rfl AR ?_;(with_reducible refine(impl_IsAddress.calls J U X false _ A2.out).mono ?_);rintro e b8 ⟨rfl,hb⟩;refine⟨_,rfl,?_⟩;replace D:=kf D hb;replace HB:=bs HB hb;clear hb))
  go_ret
  exact⟨RT,PB⟩
def slices_IndexFunc_93.l0:Nat→List (S89)→Int→Int→Option (Int)
  | 0,_,_,_=>none
  | k+1,J,X,D=>if D < X then(if 0≤D then(if D < (J.length:Int) then((impl_IsSite_lit1.f k ((rd_T89 J D).f0.f0) ((rd_T89 J D).f0.f1) ((rd_T89 J D).f0.f2) ((rd_T89 J D).f1) ((rd_T89 J D).f2.f0) ((rd_T89 J D).f2.f1) ((rd_T89 J D).f2.f2.f0) ((rd_T89 J D).f2.f2.f1) ((rd_T89 J D).f2.f2.f2)).bind fun U=>(if U=true then(some D) else(slices_IndexFunc_93.l0 k J X (wrap64 (D+1))))) else(none)) else(none)) else(some (-1))
def slices_IndexFunc_93.f (k:Nat)(D:List (S89))(J:Int):Option (Int):=slices_IndexFunc_93.l0 k D (D.length:Int) 0
theorem slices_IndexFunc_93.calls (k:Nat)(A0:Option Addr)(c0:Nat)(J:List (S89))(a1:Int)(r:Int)(w:World)(ay:Kd.C k89 w A0 J.length J)(az:J.length≤c0)(h:slices_IndexFunc_93.f k J a1=some r) :
  Calls Tryz.prog 102 #[.slice A0 J.length c0,.func (.func 93) #[] #[]] w fun e w'=>e = .returned (.int .i64 r)∧Below w.heap.size w w':=by
 have bk:=Tryz.underlying89;have ba:=ak ay;have bp:=ak az;clear ay az;have HB:=ak (Below.refl w.heap.size w);have H:=h;clear h;unfold slices_IndexFunc_93.f at H;have H':=ak H;clear H;go_enter Tryz.func102,Tryz.ntmps102;go_wp2
 go_loopg [8] k (fun kq v8 w'=>∃(D:Int),v8 = .int .i64 D∧Aside0 (slices_IndexFunc_93.l0 kq J (J.length:Int) D=some r)∧Aside0 (kq≤k)∧Aside0 (Below w.heap.size w w'))
 case atStart=>exact⟨(0),FR,H',⟨Nat.le_refl _⟩,⟨PB⟩⟩
 case round =>
  clear H'
  try clear p2
  obtain⟨D,rfl,HA,bb,HB⟩:=hrel
  cases gk with
  | zero=>exact absurd HA.out (by simp[slices_IndexFunc_93.l0])
  | succ k1 =>
   have H:=HA.out;clear HA;simp only[slices_IndexFunc_93.l0] at H
   by_cases c3:D < (J.length:Int)
   ·rw[if_pos c3] at H;have bd:decide (D < (J.length:Int))=true:=decide_eq_true c3;clear c3
    by_cases c4:0≤D
    ·rw[if_pos c4] at H;have bm:decide (0≤D)=true:=decide_eq_true c4;clear c4
     by_cases c5:D < (J.length:Int)
     ·rw[if_pos c5] at H;have bo:decide (D < (J.length:Int))=true:=decide_eq_true c5;clear c5;replace H:=Option.bind_eq_some_iff.mp H;obtain⟨bf,bc,H⟩:=H;(try dsimp only at H);have A6:=ak bc;clear bc
      by_cases c7:bf=true
      ·subst c7;rw[if_pos rfl] at H;obtain rfl:=Option.some.inj H;have ai:0≤(D:Int):=od;have aj:D < (J.length:Int):=od;obtain⟨ax,ao,ap,aq,U,X,Y,Z,aa,ab,ac,ae,af,ag,ah⟩:=at_T89 ba.out D ai aj;cases aq;replace U:=hx_ HB U;replace X:=hx_ HB X;replace Y:=hx_ HB Y;replace Z:=hx_ HB Z;replace aa:=hx_ HB aa;replace ab:=hx_ HB ab;replace ac:=hx_ HB ac;replace ae:=hx_ HB ae;replace af:=hx_ HB af;have al:=ak ah;have am:=ak ag;clear ah ag;replace ai:=eq_true ai;replace aj:=eq_true aj;go_wp2_with (first|((with_reducible refine gate_calleeV (n:=11) rfl ?_);refine goesLV_ (some 16) rfl rfl Tryz.func93 KR rfl #[.agg #[.int .i64 ((rd_T89 J D).f0.f0),.int .i64 ((rd_T89 J D).f0.f1),.int .i64 ((rd_T89 J D).f0.f2),.int .i64 ((rd_T89 J D).f1),.int .i64 ((rd_T89 J D).f2.f0),.slice ao ((rd_T89 J D).f2.f1).length ap,.int .i64 ((rd_T89 J D).f2.f2.f0),.int .i64 ((rd_T89 J D).f2.f2.f1),.int .i64 ((rd_T89 J D).f2.f2.f2)]] rfl AR ?_;(with_reducible refine(impl_IsSite_lit1.calls k1 ((rd_T89 J D).f0.f0) ((rd_T89 J D).f0.f1) ((rd_T89 J D).f0.f2) ((rd_T89 J D).f1) ((rd_T89 J D).f2.f0) _ _ ((rd_T89 J D).f2.f1) ((rd_T89 J D).f2.f2.f0) ((rd_T89 J D).f2.f2.f1) ((rd_T89 J D).f2.f2.f2) true _ ?side1 ?side2 A6.out).mono ?_);(case side1=>exact CR (Kd.C_below al.out HB.out));(case side2=>exact am.out);rintro e w8 ⟨rfl,hb⟩;refine⟨_,rfl,?_⟩;replace HB:=bs HB hb;clear hb))
       go_ret
       exact⟨RT,PB⟩
      ·replace c7:=Bool.eq_false_iff.mpr c7;subst c7;rw[if_neg (show ¬(false=true) by decide)] at H;have H':=ak H;clear H;have ai:0≤(D:Int):=od;have aj:D < (J.length:Int):=od;obtain⟨ax,ao,ap,aq,U,X,Y,Z,aa,ab,ac,ae,af,ag,ah⟩:=at_T89 ba.out D ai aj;cases aq;replace U:=hx_ HB U;replace X:=hx_ HB X;replace Y:=hx_ HB Y;replace Z:=hx_ HB Z;replace aa:=hx_ HB aa;replace ab:=hx_ HB ab;replace ac:=hx_ HB ac;replace ae:=hx_ HB ae;replace af:=hx_ HB af;have al:=ak ah;have am:=ak ag;clear ah ag;replace ai:=eq_true ai;replace aj:=eq_true aj;go_wp2_with (first|((with_reducible refine gate_calleeV (n:=11) rfl ?_);refine goesLV_ (some 16) rfl rfl Tryz.func93 KR rfl #[.agg #[.int .i64 ((rd_T89 J D).f0.f0),.int .i64 ((rd_T89 J D).f0.f1),.int .i64 ((rd_T89 J D).f0.f2),.int .i64 ((rd_T89 J D).f1),.int .i64 ((rd_T89 J D).f2.f0),.slice ao ((rd_T89 J D).f2.f1).length ap,.int .i64 ((rd_T89 J D).f2.f2.f0),.int .i64 ((rd_T89 J D).f2.f2.f1),.int .i64 ((rd_T89 J D).f2.f2.f2)]] rfl AR ?_;(with_reducible refine(impl_IsSite_lit1.calls k1 ((rd_T89 J D).f0.f0) ((rd_T89 J D).f0.f1) ((rd_T89 J D).f0.f2) ((rd_T89 J D).f1) ((rd_T89 J D).f2.f0) _ _ ((rd_T89 J D).f2.f1) ((rd_T89 J D).f2.f2.f0) ((rd_T89 J D).f2.f2.f1) ((rd_T89 J D).f2.f2.f2) false _ ?side1 ?side2 A6.out).mono ?_);(case side1=>exact CR (Kd.C_below al.out HB.out));(case side2=>exact am.out);rintro e w9 ⟨rfl,hb⟩;refine⟨_,rfl,?_⟩;replace HB:=bs HB hb;clear hb))
       go_roundg k1
       case measure=>have:=bb.out;omega
       case rel=>exact⟨(wrap64 (D+1)),FR,H',⟨by have:=bb.out;omega⟩,⟨PB⟩⟩
     ·rw[if_neg c5] at H;exact absurd H (by simp)
    ·rw[if_neg c4] at H;exact absurd H (by simp)
   ·rw[if_neg c3] at H;have bd:decide (D < (J.length:Int))=false:=decide_eq_false c3;clear c3;obtain rfl:=Option.some.inj H;go_wp2
    go_ret
    exact⟨RT,PB⟩
def slices_ContainsFunc_93.f (k:Nat)(J:List (S89))(U:Int):Option (Bool):=(slices_IndexFunc_93.f k J U).bind fun D=>(some (decide (D≥0)))
theorem slices_ContainsFunc_93.calls (k:Nat)(Y:Option Addr)(Z:Nat)(D:List (S89))(a1:Int)(r:Bool)(w:World)(J:Kd.C k89 w Y D.length D)(U:D.length≤Z)(h:slices_ContainsFunc_93.f k D a1=some r) :
  Calls Tryz.prog 92 #[.slice Y D.length Z,.func (.func 93) #[] #[]] w fun e w'=>e = .returned (.bool r)∧Below w.heap.size w w':=by
 have ac:=ak J;have ae:=ak U;clear J U;have HB:=ak (Below.refl w.heap.size w);have H:=h;clear h;unfold slices_ContainsFunc_93.f at H;replace H:=Option.bind_eq_some_iff.mp H;obtain⟨aa,X,H⟩:=H;(try dsimp only at H);have A3:=ak X;clear X;obtain rfl:=Option.some.inj H;go_enter Tryz.func92,Tryz.ntmps92;go_wp2_with (first|((with_reducible refine gate_callee (f:=102) rfl ?_);refine goesL_ (some 7) rfl rfl Tryz.func102 KR rfl #[.slice Y D.length Z,.func (.func 93) #[] #[]] rfl AR ?_;(with_reducible refine(slices_IndexFunc_93.calls k _ _ D a1 aa _ ?side1 ?side2 A3.out).mono ?_);(case side1=>exact CR (ac.out));(case side2=>exact ae.out);rintro e w4 ⟨rfl,hb⟩;refine⟨_,rfl,?_⟩;replace HB:=bs HB hb;clear hb))
 go_ret
 exact⟨RT,PB⟩
def impl_IsSite.f (k:Nat)(J:List (S89)):Option (Bool):=if (J.length:Int)≤12 then((slices_ContainsFunc_93.f k J 90000093).bind fun D=>(some (!D))) else(some false)
theorem impl_IsSite.calls (k:Nat)(A0:Option Addr)(c0:Nat)(D:List (S89))(r:Bool)(w:World)(U:Kd.C k89 w A0 D.length D)(X:D.length≤c0)(h:impl_IsSite.f k D=some r) :
  Calls Tryz.prog 74 #[.slice A0 D.length c0] w fun e w'=>e = .returned (.bool r)∧Below w.heap.size w w':=by
 have af:=ak U;have ag:=ak X;clear U X;have HB:=ak (Below.refl w.heap.size w);have H:=h;clear h;unfold impl_IsSite.f at H
 by_cases J:(D.length:Int)≤12
 ·rw[if_pos J] at H;have Z:decide ((D.length:Int)≤12)=true:=decide_eq_true J;have aa:decide (D.length≤12)=true:=decide_eq_true (by omega);clear J;replace H:=Option.bind_eq_some_iff.mp H;obtain⟨ab,Y,H⟩:=H;(try dsimp only at H);have A3:=ak Y;clear Y;obtain rfl:=Option.some.inj H;go_enter Tryz.func74,Tryz.ntmps74;go_wp2_with (first|(go_at_call 92;(with_reducible refine(slices_ContainsFunc_93.calls k _ _ D 90000093 ab _ ?side1 ?side2 A3.out).mono ?_);(case side1=>exact CR (af.out));(case side2=>exact ag.out);rintro e w4 ⟨rfl,hb⟩;replace HB:=bs HB hb;clear hb))
  go_ret
  exact⟨RT,PB⟩
 ·rw[if_neg J] at H;have Z:decide ((D.length:Int)≤12)=false:=decide_eq_false J;have aa:decide (D.length≤12)=false:=decide_eq_false (by omega);clear J;obtain rfl:=Option.some.inj H;go_enter Tryz.func74,Tryz.ntmps74;go_wp2
  go_ret
  exact⟨RT,PB⟩

end Go.Proofs.YtlkehcbhbflpoaaGreat.MFnExactRecordVisit
