import Derived.Test.YtenpfphghheggaaShr2
import Derived.Test.YtenpfphghheggaaMFnExactCapturesOfx0
import Derived.Test.YtenpfphghheggaaMFnExactCapturesOfx1
import Derived.Test.YtenpfphghheggaaMFnExactCapturesOfx2
namespace Go.Proofs.Ytenpfphghheggaa.MFnExactCapturesOf
open Go.RowKit Go.Proofs.YtenpfphghheggaaW.PrintWords Go.Proofs.YtenpfphghheggaaW.PrintLast Go.Proofs.YtenpfphghheggaaW.PrintMore
attribute [local go_sem] max2_int min2_int max_two min_two max_three min_three max_four min_four
set_option linter.unusedVariables false
set_option maxHeartbeats 8000000
set_option maxRecDepth 100000
set_option linter.unusedSimpArgs false

attribute [local go_sem high] eqA52
def spec_AnswerAt.l0:Nat→List (S86)→Int→Int→Int→Int→Int→Int→List Int→Int→Int→Int→Option (Int×List Int×Int×Int×Int)
  | 0,_,_,_,_,_,_,_,_,_,_,_=>none
  | k+1,Z,x2,X,D,J,U,aa,ab,ac,ae,af=>if X < (Z.length:Int) then(if 0≤X then(if (((rd_T86 Z X).f0.f0) == D && (((rd_T86 Z X).f0.f1) == J && (((rd_T86 Z X).f0.f2) == U)))=true then(if ((rd_T86 Z X).f1)≤x2 then((spec_l5Copy.f ((rd_T86 Z X).f2.f0) ((rd_T86 Z X).f2.f1) ((rd_T86 Z X).f2.f2.f0) ((rd_T86 Z X).f2.f2.f1) ((rd_T86 Z X).f2.f2.f2)).bind fun Y=>(spec_AnswerAt.l0 k Z x2 (wrap64 (X+1)) D J U Y.1 Y.2.1 Y.2.2.1 Y.2.2.2.1 Y.2.2.2.2)) else(spec_AnswerAt.l0 k Z x2 (wrap64 (X+1)) D J U aa ab ac ae af)) else(spec_AnswerAt.l0 k Z x2 (wrap64 (X+1)) D J U aa ab ac ae af)) else(none)) else(some (aa,ab,ac,ae,af))
def spec_AnswerAt.f (k:Nat)(X:List (S86))(D:Int)(J:Int)(U:Int)(Y:Int):Option (Int×List Int×Int×Int×Int):=spec_AnswerAt.l0 k X Y 0 D J U 4 ([]:List Int) 0 0 0
theorem spec_AnswerAt.calls (k:Nat)(A0:Option Addr)(c0:Nat)(X:List (S86))(az:Int)(ba:Int)(bb:Int)(a2:Int)(r1:Int)(r2:List Int)(r3:Int)(r4:Int)(r5:Int)(w:World)(ev:Kd.C k86 w A0 X.length X)(ew:X.length≤c0)(h:spec_AnswerAt.f k X az ba bb a2=some (r1,r2,r3,r4,r5)) :
  Calls Try.prog 36 #[.slice A0 X.length c0,.agg #[.int .i64 az,.int .i64 ba,.int .i64 bb],.int .i64 a2] w fun e w'=>∃ ex:Value,e = .returned (.agg #[.int .i64 r1,ex,.int .i64 r3,.int .i64 r4,.int .i64 r5])∧Kd.R (Kd.int .i64) 3 w' w.heap.size (fun _=>True) ex r2∧Below w.heap.size w w':=by
 have f9:=Try.underlying52;have ga:=Try.underlying56;have b8:=ak ev;have gh:=ak ew;clear ev ew;have HB:=ak (Below.refl w.heap.size w);have H:=h;clear h;unfold spec_AnswerAt.f at H;have H':=ak H;clear H;go_enter Try.func36,Try.ntmps36
 iterate 4 (try go_wp2_with (first|((with_reducible refine gate_dst (N:=4) rfl ?_);refine bx_ (N:=4) #[.int .i64 az,.int .i64 ba,.int .i64 bb] 52 ?_;intro dr hg w4 hbox hb;have J:=ak hbox;have ek:=gy hg HB;replace HB:=bs HB hb;clear hb hbox hg)|((with_reducible refine gate_dst (N:=6) rfl ?_);refine bx_ (N:=6) #[.int .i64 0,.slice none 0 0,.int .i64 0,.int .i64 0,.int .i64 0] 56 ?_;intro cr hg w5 hbox hb;have U:=ak hbox;have el:=gy hg HB;replace HB:=bs HB hb;have bd:=gm hg J;have bf:=gn hg J;replace J:=kf J hb;clear hb hbox hg)|((with_reducible refine gate_dst (N:=7) rfl ?_);refine bx_ (N:=7) #[.int .i64 0,.slice none 0 0,.int .i64 0,.int .i64 0,.int .i64 0] 56 ?_;intro dt hg w6 hbox hb;have Z:=ak hbox;have em:=gy hg HB;replace HB:=bs HB hb;have ab:=gm hg J;have ac:=gn hg J;replace J:=kf J hb;have ae:=gm hg U;have af:=gn hg U;replace U:=kf U hb;clear hb hbox hg;have ez:=ac.out;have e7:=ab.out;have e8:=af.out;have e9:=ae.out;obtain⟨cv,cw,cx,cy,cz,da,db,dc,de,df⟩:=bc5 Z));try go_quiet (first|((with_reducible refine gate_dst (N:=4) rfl ?_);refine bx_ (N:=4) #[.int .i64 az,.int .i64 ba,.int .i64 bb] 52 ?_;intro dr hg w4 hbox hb;have J:=ak hbox;have ek:=gy hg HB;replace HB:=bs HB hb;clear hb hbox hg)|((with_reducible refine gate_dst (N:=6) rfl ?_);refine bx_ (N:=6) #[.int .i64 0,.slice none 0 0,.int .i64 0,.int .i64 0,.int .i64 0] 56 ?_;intro cr hg w5 hbox hb;have U:=ak hbox;have el:=gy hg HB;replace HB:=bs HB hb;have bd:=gm hg J;have bf:=gn hg J;replace J:=kf J hb;clear hb hbox hg)|((with_reducible refine gate_dst (N:=7) rfl ?_);refine bx_ (N:=7) #[.int .i64 0,.slice none 0 0,.int .i64 0,.int .i64 0,.int .i64 0] 56 ?_;intro dt hg w6 hbox hb;have Z:=ak hbox;have em:=gy hg HB;replace HB:=bs HB hb;have ab:=gm hg J;have ac:=gn hg J;replace J:=kf J hb;have ae:=gm hg U;have af:=gn hg U;replace U:=kf U hb;clear hb hbox hg;have ez:=ac.out;have e7:=ab.out;have e8:=af.out;have e9:=ae.out;obtain⟨cv,cw,cx,cy,cz,da,db,dc,de,df⟩:=bc5 Z)))
 go_loopg [8] k (fun kq v8 w'=>∃(D:Int)(ag:Int)(ah:List Int)(ai:Int)(aj:Int)(al:Int)(bi:Value),v8 = .int .i64 D∧Aside0 (spec_AnswerAt.l0 kq X a2 D az ba bb ag ah ai aj al=some (r1,r2,r3,r4,r5))∧Aside0 (kq≤k)∧Aside0 (Kd.R (Kd.int .i64) 3 w' w.heap.size (fun _=>True) bi ah)∧Aside0 (w'.heap[dr]?=some (.cells #[.int .i64 az,.int .i64 ba,.int .i64 bb] 52 (0,0)))∧Aside0 (w'.heap[cr]?=some (.cells #[.int .i64 0,(.slice none 0 0),.int .i64 0,.int .i64 0,.int .i64 0] 56 (0,0)))∧Aside0 (w'.heap[dt]?=some (.cells #[.int .i64 ag,bi,.int .i64 ai,.int .i64 aj,.int .i64 al] 56 (0,0)))∧Aside0 (Below w.heap.size w w'))
 case atStart=>exact⟨(0),(4),(([]:List Int)),(0),(0),(0),(.slice none 0 0),FR,H',⟨Nat.le_refl _⟩,⟨by first|exact Kd.R_nil _ _ _ _ _ | exact Kd.N_nil _ _ _ _ _ | exact Kd.V_nil _ _ _ _ _ | exact Kd.Q_nil _ _ _ _ _ | exact Kd.S_nil _ _ _ _ _⟩,⟨PF J⟩,⟨PF U⟩,⟨PX Z⟩,⟨PB⟩⟩
 case round =>
  clear H';(try clear p2);(try clear c3);(try clear c7);(try clear c8);(try clear cv);(try clear cw);(try clear cx);(try clear cy);(try clear cz);(try clear da);(try clear db);(try clear dc);(try clear de);(try clear df);obtain⟨D,ag,ah,ai,aj,al,bi,rfl,HA,b9,Y,J,U,Z,HB⟩:=hrel
  cases gk with
  | zero=>exact absurd HA.out (by simp[spec_AnswerAt.l0])
  | succ k1 =>
   have H:=HA.out;clear HA;simp only[spec_AnswerAt.l0] at H
   by_cases ca:D < (X.length:Int)
   ·rw[if_pos ca] at H;have en:decide (D < (X.length:Int))=true:=decide_eq_true ca;clear ca
    by_cases du:0≤D
    ·rw[if_pos du] at H;have fj:decide (0≤D)=true:=decide_eq_true du;clear du
     by_cases bx:(((rd_T86 X D).f0.f0) == az && (((rd_T86 X D).f0.f1) == ba && (((rd_T86 X D).f0.f2) == bb)))=true
     ·rw[if_pos bx] at H;have eo:(((rd_T86 X D).f0.f0) == az && (((rd_T86 X D).f0.f1) == ba && (((rd_T86 X D).f0.f2) == bb)))=true:=bx;(try(have ep:decide (((rd_T86 X D).f0.f0)=az && (((rd_T86 X D).f0.f1) == ba && (((rd_T86 X D).f0.f2) == bb)))=true:=by simpa using bx));(try(have eq:(((rd_T86 X D).f0.f0) == az && (((rd_T86 X D).f0.f1) == ba && (((rd_T86 X D).f0.f2) == bb)))=true:=by simpa using bx));clear bx
      by_cases cb:((rd_T86 X D).f1)≤a2
      ·rw[if_pos cb] at H;have er:decide (((rd_T86 X D).f1)≤a2)=true:=decide_eq_true cb;clear cb;replace H:=Option.bind_eq_some_iff.mp H;obtain⟨⟨di,ct,dj,dk,dl⟩,ef,H⟩:=H;(try dsimp only at H);have ey:=ak ef;clear ef;have H':=ak H;clear H;have bg:0≤(D:Int):=od;have bh:D < (X.length:Int):=od;obtain⟨b4,dg,dh,b7,am,ao,ap,aq,ar,aa,au,av,aw,ax,ay⟩:=at_T86 b8.out D bg bh;cases b7;replace am:=hx_ HB am;replace ao:=hx_ HB ao;replace ap:=hx_ HB ap;replace aq:=hx_ HB aq;replace ar:=hx_ HB ar;replace aa:=hx_ HB aa;replace au:=hx_ HB au;replace av:=hx_ HB av;replace aw:=hx_ HB aw;have cd:=ak ay;have ce:=ak ax;clear ay ax;replace bg:=eq_true bg;replace bh:=eq_true bh;have fk:=bd.out;have fl:=bf.out;have fm:=ab.out;have fo:=ac.out;obtain⟨_,_,_,_,_,_⟩:=bc3 J;have bz:0≤(D:Int):=od;have b0:D < (X.length:Int):=od;obtain⟨cu,eg,eh,dn,bj,bk,bl,bm,bo,bc,bp,br,bu,bv,bw⟩:=at_T86 b8.out D bz b0;obtain rfl:b4=cu:=(by injection dn);replace bj:=hx_ HB bj;replace bk:=hx_ HB bk;replace bl:=hx_ HB bl;replace bm:=hx_ HB bm;replace bo:=hx_ HB bo;replace bc:=hx_ HB bc;replace bp:=hx_ HB bp;replace br:=hx_ HB br;replace bu:=hx_ HB bu;have dw:=ak bw;have dx:=ak bv;clear bw bv;replace bz:=eq_true bz;replace b0:=eq_true b0;have ea_:=Option.some.inj (aa.symm.trans bc)
       injection ea_ with ea_ en_ ec_
       subst ea_;subst ec_;clear en_;have dp:0≤(D:Int):=od;have dq:D < (X.length:Int):=od;obtain⟨es,fg,fh,fa,cf,cg,ch,ci,cj,b5,ck,cl,cm,cn,co⟩:=at_T86 b8.out D dp dq;obtain rfl:b4=es:=(by injection fa);replace cf:=hx_ HB cf;replace cg:=hx_ HB cg;replace ch:=hx_ HB ch;replace ci:=hx_ HB ci;replace cj:=hx_ HB cj;replace b5:=hx_ HB b5;replace ck:=hx_ HB ck;replace cl:=hx_ HB cl;replace cm:=hx_ HB cm;have cp:=ak co;have cq:=ak cn;clear co cn;replace dp:=eq_true dp;replace dq:=eq_true dq;have ea_:=Option.some.inj (aa.symm.trans b5)
       injection ea_ with ea_ en_ ec_
       subst ea_;subst ec_;clear en_
       iterate 4 (try go_wp2_with (first|(go_at_call 54;(with_reducible refine(spec_l5Copy.calls ((rd_T86 X D).f2.f0) _ _ ((rd_T86 X D).f2.f1) ((rd_T86 X D).f2.f2.f0) ((rd_T86 X D).f2.f2.f1) ((rd_T86 X D).f2.f2.f2) di ct dj dk dl _ ?side1 cq.out ey.out).mono ?_);(case side1=>exact Cq cp);rintro e fi ⟨fb,rfl,ho0,hb⟩;have b6:=Rn1 ho0 HB Y;replace Y:=ak (Kd.R_elder' (PR Y) (Kd.R_base ho0) hb);replace J:=kf J hb;replace U:=kf U hb;replace Z:=kf Z hb;replace HB:=bs HB hb;clear hb ho0;have et:=af.out;have eu:=ae.out;obtain⟨dy,dz,d7,d8,d9,ea,eb,ec,ed,ee⟩:=bc5 Z;obtain⟨ei,ej,rfl⟩:=Kd.R_slice b6.out));try go_quiet (first|(go_at_call 54;(with_reducible refine(spec_l5Copy.calls ((rd_T86 X D).f2.f0) _ _ ((rd_T86 X D).f2.f1) ((rd_T86 X D).f2.f2.f0) ((rd_T86 X D).f2.f2.f1) ((rd_T86 X D).f2.f2.f2) di ct dj dk dl _ ?side1 cq.out ey.out).mono ?_);(case side1=>exact Cq cp);rintro e fi ⟨fb,rfl,ho0,hb⟩;have b6:=Rn1 ho0 HB Y;replace Y:=ak (Kd.R_elder' (PR Y) (Kd.R_base ho0) hb);replace J:=kf J hb;replace U:=kf U hb;replace Z:=kf Z hb;replace HB:=bs HB hb;clear hb ho0;have et:=af.out;have eu:=ae.out;obtain⟨dy,dz,d7,d8,d9,ea,eb,ec,ed,ee⟩:=bc5 Z;obtain⟨ei,ej,rfl⟩:=Kd.R_slice b6.out)))
       go_roundg k1
       case measure=>have:=b9.out;omega
       case rel=>exact⟨(wrap64 (D+1)),(di),(ct),(dj),(dk),(dl),(.slice ei ct.length ej),FR,H',⟨by have:=b9.out;omega⟩,⟨RX (Rt b6.out Z) (fun _ hk=>trivial)⟩,⟨PF J⟩,⟨PF U⟩,⟨PX Z⟩,⟨PB⟩⟩
      ·rw[if_neg cb] at H;have er:decide (((rd_T86 X D).f1)≤a2)=false:=decide_eq_false cb;clear cb;have H':=ak H;clear H;have bg:0≤(D:Int):=od;have bh:D < (X.length:Int):=od;obtain⟨b4,dg,dh,b7,am,ao,ap,aq,ar,aa,au,av,aw,ax,ay⟩:=at_T86 b8.out D bg bh;cases b7;replace am:=hx_ HB am;replace ao:=hx_ HB ao;replace ap:=hx_ HB ap;replace aq:=hx_ HB aq;replace ar:=hx_ HB ar;replace aa:=hx_ HB aa;replace au:=hx_ HB au;replace av:=hx_ HB av;replace aw:=hx_ HB aw;have cd:=ak ay;have ce:=ak ax;clear ay ax;replace bg:=eq_true bg;replace bh:=eq_true bh;have fp:=bd.out;have fq:=bf.out;have ft:=ab.out;have fu:=ac.out;obtain⟨_,_,_,_,_,_⟩:=bc3 J;have bz:0≤(D:Int):=od;have b0:D < (X.length:Int):=od;obtain⟨cu,eg,eh,dn,bj,bk,bl,bm,bo,bc,bp,br,bu,bv,bw⟩:=at_T86 b8.out D bz b0;obtain rfl:b4=cu:=(by injection dn);replace bj:=hx_ HB bj;replace bk:=hx_ HB bk;replace bl:=hx_ HB bl;replace bm:=hx_ HB bm;replace bo:=hx_ HB bo;replace bc:=hx_ HB bc;replace bp:=hx_ HB bp;replace br:=hx_ HB br;replace bu:=hx_ HB bu;have dw:=ak bw;have dx:=ak bv;clear bw bv;replace bz:=eq_true bz;replace b0:=eq_true b0;have ea_:=Option.some.inj (aa.symm.trans bc)
       injection ea_ with ea_ en_ ec_
       subst ea_;subst ec_;clear en_;go_wp2
       repeat(go_quiet (fail);try go_wp2)
       go_roundg k1
       case measure=>have:=b9.out;omega
       case rel=>exact⟨(wrap64 (D+1)),(ag),(ah),(ai),(aj),(al),(bi),FR,H',⟨by have:=b9.out;omega⟩,⟨PR Y⟩,⟨PK J⟩,⟨PK U⟩,⟨PK Z⟩,⟨PB⟩⟩
     ·rw[if_neg bx] at H
      have eo:(((rd_T86 X D).f0.f0) == az && (((rd_T86 X D).f0.f1) == ba && (((rd_T86 X D).f0.f2) == bb)))=false:=by simpa using bx
      (try(have ep:decide (((rd_T86 X D).f0.f0)=az && (((rd_T86 X D).f0.f1) == ba && (((rd_T86 X D).f0.f2) == bb)))=false:=by simpa using bx));(try(have eq:(((rd_T86 X D).f0.f0) == az && (((rd_T86 X D).f0.f1) == ba && (((rd_T86 X D).f0.f2) == bb)))=false:=by simpa using bx));(try(have fv:¬(((rd_T86 X D).f0.f0)=az && (((rd_T86 X D).f0.f1) == ba && (((rd_T86 X D).f0.f2) == bb))):=by simpa using bx));clear bx;have H':=ak H;clear H;have bg:0≤(D:Int):=od;have bh:D < (X.length:Int):=od;obtain⟨b4,dg,dh,b7,am,ao,ap,aq,ar,aa,au,av,aw,ax,ay⟩:=at_T86 b8.out D bg bh;cases b7;replace am:=hx_ HB am;replace ao:=hx_ HB ao;replace ap:=hx_ HB ap;replace aq:=hx_ HB aq;replace ar:=hx_ HB ar;replace aa:=hx_ HB aa;replace au:=hx_ HB au;replace av:=hx_ HB av;replace aw:=hx_ HB aw;have cd:=ak ay;have ce:=ak ax;clear ay ax;replace bg:=eq_true bg;replace bh:=eq_true bh;have fw:=bd.out;have fx:=bf.out;have fy:=ab.out;have fz:=ac.out;obtain⟨_,_,_,_,_,_⟩:=bc3 J;go_wp2
      repeat(go_quiet (fail);try go_wp2)
      go_roundg k1
      case measure=>have:=b9.out;omega
      case rel=>exact⟨(wrap64 (D+1)),(ag),(ah),(ai),(aj),(al),(bi),FR,H',⟨by have:=b9.out;omega⟩,⟨PR Y⟩,⟨PK J⟩,⟨PK U⟩,⟨PK Z⟩,⟨PB⟩⟩
    ·rw[if_neg du] at H;exact absurd H (by simp)
   ·rw[if_neg ca] at H;have en:decide (D < (X.length:Int))=false:=decide_eq_false ca;clear ca;simp only[Option.some.injEq,Prod.mk.injEq] at H;obtain⟨rfl,rfl,rfl,rfl,rfl⟩:=H;have f3:=ac.out;have f4:=ab.out;have f5:=af.out;have f6:=ae.out;obtain⟨_,_,_,_,_,_,_,_,_,_⟩:=bc5 Z;have f7:=bf.out;have f8:=bd.out;obtain⟨_,_,_,_,_,_,_,_,_,_⟩:=bc5 U;obtain⟨fc,fd,rfl⟩:=Kd.R_slice Y.out;go_wp2
    repeat(go_quiet (fail);try go_wp2)
    refine bodyPost_ret (results_cell_row rfl _ _ cr 56 #[.int .i64 ag,.slice fc ah.length fd,.int .i64 ai,.int .i64 aj,.int .i64 al] (0,0) _ rfl (PX U) Try.underlying56 rfl KR) rfl ?_;exact⟨_,RT,RX (Rt Y.out U) (fun _ hk=>trivial),PB⟩
attribute [local go_sem high] eqA52
def spec_l9Has.l0:Nat→List (S52)→Int→Int→Int→Int→Option (Bool)
  | 0,_,_,_,_,_=>none
  | k+1,Y,X,D,J,U=>if X < (Y.length:Int) then(if 0≤X then(if (((rd_T52 Y X).f0) == D && (((rd_T52 Y X).f1) == J && (((rd_T52 Y X).f2) == U)))=true then(some true) else(spec_l9Has.l0 k Y (wrap64 (X+1)) D J U)) else(none)) else(some false)
def spec_l9Has.f (k:Nat)(X:List (S52))(D:Int)(J:Int)(U:Int):Option (Bool):=spec_l9Has.l0 k X 0 D J U
theorem spec_l9Has.calls (k:Nat)(A0:Option Addr)(c0:Nat)(J:List (S52))(U:Int)(X:Int)(Y:Int)(r:Bool)(w:World)(ap:Kd.C k52 w A0 J.length J)(aq:J.length≤c0)(h:spec_l9Has.f k J U X Y=some r) :
  Calls Try.prog 37 #[.slice A0 J.length c0,.agg #[.int .i64 U,.int .i64 X,.int .i64 Y]] w fun e w'=>e = .returned (.bool r)∧Below w.heap.size w w':=by
 have bb:=Try.underlying52;have ar:=ak ap;have bh:=ak aq;clear ap aq;have HB:=ak (Below.refl w.heap.size w);have H:=h;clear h;unfold spec_l9Has.f at H;have H':=ak H;clear H;go_enter Try.func37,Try.ntmps37
 iterate 4 (try go_wp2_with (first|((with_reducible refine gate_dst (N:=3) rfl ?_);refine bx_ (N:=3) #[.int .i64 U,.int .i64 X,.int .i64 Y] 52 ?_;intro ai hg w3 hbox hb;have ac:=ak hbox;have al:=gy hg HB;replace HB:=bs HB hb;clear hb hbox hg));try go_quiet (first|((with_reducible refine gate_dst (N:=3) rfl ?_);refine bx_ (N:=3) #[.int .i64 U,.int .i64 X,.int .i64 Y] 52 ?_;intro ai hg w3 hbox hb;have ac:=ak hbox;have al:=gy hg HB;replace HB:=bs HB hb;clear hb hbox hg)))
 go_loopg [5] k (fun kq v5 w'=>∃(D:Int),v5 = .int .i64 D∧Aside0 (spec_l9Has.l0 kq J D U X Y=some r)∧Aside0 (kq≤k)∧Aside0 (w'.heap[ai]?=some (.cells #[.int .i64 U,.int .i64 X,.int .i64 Y] 52 (0,0)))∧Aside0 (Below w.heap.size w w'))
 case atStart=>exact⟨(0),FR,H',⟨Nat.le_refl _⟩,⟨PK ac⟩,⟨PB⟩⟩
 case round =>
  clear H';(try clear p2);(try clear c3);obtain⟨D,rfl,HA,au,ac,HB⟩:=hrel
  cases gk with
  | zero=>exact absurd HA.out (by simp[spec_l9Has.l0])
  | succ k1 =>
   have H:=HA.out;clear HA;simp only[spec_l9Has.l0] at H
   by_cases c4:D < (J.length:Int)
   ·rw[if_pos c4] at H;have av:decide (D < (J.length:Int))=true:=decide_eq_true c4;clear c4
    by_cases c5:0≤D
    ·rw[if_pos c5] at H;have bf:decide (0≤D)=true:=decide_eq_true c5;clear c5
     by_cases c6:(((rd_T52 J D).f0) == U && (((rd_T52 J D).f1) == X && (((rd_T52 J D).f2) == Y)))=true
     ·rw[if_pos c6] at H;have aw:(((rd_T52 J D).f0) == U && (((rd_T52 J D).f1) == X && (((rd_T52 J D).f2) == Y)))=true:=c6;(try(have ax:decide (((rd_T52 J D).f0)=U && (((rd_T52 J D).f1) == X && (((rd_T52 J D).f2) == Y)))=true:=by simpa using c6));(try(have ay:(((rd_T52 J D).f0) == U && (((rd_T52 J D).f1) == X && (((rd_T52 J D).f2) == Y)))=true:=by simpa using c6));clear c6;obtain rfl:=Option.some.inj H;have ae:0≤(D:Int):=od;have af:D < (J.length:Int):=od;obtain⟨ao,ah,Z,aa,ab⟩:=at_T52 ar.out D ae af;cases ah;replace Z:=hx_ HB Z;replace aa:=hx_ HB aa;replace ab:=hx_ HB ab;replace ae:=eq_true ae;replace af:=eq_true af;obtain⟨_,_,_,_,_,_⟩:=bc3 ac;go_wp2
      repeat(go_quiet (fail);try go_wp2)
      go_ret
      exact⟨RT,PB⟩
     ·rw[if_neg c6] at H
      have aw:(((rd_T52 J D).f0) == U && (((rd_T52 J D).f1) == X && (((rd_T52 J D).f2) == Y)))=false:=by simpa using c6
      (try(have ax:decide (((rd_T52 J D).f0)=U && (((rd_T52 J D).f1) == X && (((rd_T52 J D).f2) == Y)))=false:=by simpa using c6));(try(have ay:(((rd_T52 J D).f0) == U && (((rd_T52 J D).f1) == X && (((rd_T52 J D).f2) == Y)))=false:=by simpa using c6));(try(have bg:¬(((rd_T52 J D).f0)=U && (((rd_T52 J D).f1) == X && (((rd_T52 J D).f2) == Y))):=by simpa using c6));clear c6;have H':=ak H;clear H;have ae:0≤(D:Int):=od;have af:D < (J.length:Int):=od;obtain⟨ao,ah,Z,aa,ab⟩:=at_T52 ar.out D ae af;cases ah;replace Z:=hx_ HB Z;replace aa:=hx_ HB aa;replace ab:=hx_ HB ab;replace ae:=eq_true ae;replace af:=eq_true af;obtain⟨_,_,_,_,_,_⟩:=bc3 ac;go_wp2
      repeat(go_quiet (fail);try go_wp2)
      go_roundg k1
      case measure=>have:=au.out;omega
      case rel=>exact⟨(wrap64 (D+1)),FR,H',⟨by have:=au.out;omega⟩,⟨PK ac⟩,⟨PB⟩⟩
    ·rw[if_neg c5] at H;exact absurd H (by simp)
   ·rw[if_neg c4] at H;have av:decide (D < (J.length:Int))=false:=decide_eq_false c4;clear c4;obtain rfl:=Option.some.inj H;go_wp2
    repeat(go_quiet (fail);try go_wp2)
    go_ret
    exact⟨RT,PB⟩

def spec_FollowAt.l0:Nat→List (S86)→Int→List (S52)→Int→List Int→Int→Int→Int→Option (Int×List Int×Int×Int×Int×(List (S52)))
  | 0,_,_,_,_,_,_,_,_=>none
  | k+1,x0,x2,x8,X,Z,D,J,U=>if X=3 then(if (x8.length:Int)≤4 then((spec_l9Has.f k x8 D J U).bind fun ab=>(if ab=true then(some (X,Z,D,J,U,x8)) else(if x8.length < 5864062014805 then((spec_AnswerAt.f k x0 D J U x2).bind fun Y=>(spec_FollowAt.l0 k x0 x2 (x8++[(⟨D,J,U⟩:S52)]) Y.1 Y.2.1 Y.2.2.1 Y.2.2.2.1 Y.2.2.2.2)) else(none)))) else(some (X,Z,D,J,U,x8))) else(some (X,Z,D,J,U,x8))
def spec_FollowAt.f (k:Nat)(Y:List (S86))(J:Int)(U:Int)(X:Int)(Z:Int):Option (Int×List Int×Int×Int×Int×(List (S52))):=(spec_AnswerAt.f k Y J U X Z).bind fun D=>(spec_FollowAt.l0 k Y Z (([(⟨J,U,X⟩:S52)]:List (S52))) D.1 D.2.1 D.2.2.1 D.2.2.2.1 D.2.2.2.2)
theorem spec_FollowAt.calls (k:Nat)(A0:Option Addr)(c0:Nat)(l0:List (S86))(ae:Int)(af:Int)(ag:Int)(a2:Int)(r1:Int)(r2:List Int)(r3:Int)(r4:Int)(r5:Int)(r6:List (S52))(w:World)(dg:Kd.C k86 w A0 l0.length l0)(dh:l0.length≤c0)(h:spec_FollowAt.f k l0 ae af ag a2=some (r1,r2,r3,r4,r5,r6)) :
  Calls Try.prog 20 #[.slice A0 l0.length c0,.agg #[.int .i64 ae,.int .i64 af,.int .i64 ag],.int .i64 a2] w fun e w'=>∃ di dj:Value,e = .returned (.tuple #[.agg #[.int .i64 r1,di,.int .i64 r3,.int .i64 r4,.int .i64 r5],dj])∧Kd.R (Kd.int .i64) 3 w' w.heap.size (fun _=>True) di r2∧Kd.R k52 52 w' w.heap.size (fun _=>True) dj r6∧Below w.heap.size w w':=by
 have fd:=Try.underlying52;have fe:=Try.underlying56;have dk:=ak dg;have dl:=ak dh;clear dg dh;have HB:=ak (Below.refl w.heap.size w);have H:=h;clear h;unfold spec_FollowAt.f at H;obtain⟨ce,ba⟩:∃ y_:List (S52),y_=(([(⟨ae,af,ag⟩:S52)]:List (S52))):=⟨_,rfl⟩
 replace H:((spec_AnswerAt.f k l0 ae af ag a2).bind fun aw=>(spec_FollowAt.l0 k l0 a2 ce aw.1 aw.2.1 aw.2.2.1 aw.2.2.2.1 aw.2.2.2.2))=some (r1,r2,r3,r4,r5,r6):=by first|(rw[ba];with_reducible exact H)|(have H2_:=(Option.bind_some _ _).symm.trans H;rw[ba];with_reducible exact H2_)|exact H
 have bk:=ak ba;clear ba;replace H:=Option.bind_eq_some_iff.mp H;obtain⟨⟨cf,bi,cg,ch,ci⟩,dn,H⟩:=H;(try dsimp only at H);have A4:=ak dn;clear dn;have H':=ak H;clear H;go_enter Try.func20,Try.ntmps20;go_wp2_with (first|((with_reducible refine gate_dst (N:=4) rfl ?_);(try(refine gate_guard (by rfl) ?_;dsimp only));refine bx_ (N:=4) #[.int .i64 ae,.int .i64 af,.int .i64 ag] 52 ?_;intro ar hg w5 hbox hb;have Z:=ak hbox;have ed:=gy hg HB;replace HB:=bs HB hb;clear hb hbox hg)|((with_reducible refine gate_dst (N:=6) rfl ?_);(try(refine gate_guard (by rfl) ?_;dsimp only));refine bx_ (N:=6) #[.int .i64 0,.slice none 0 0,.int .i64 0,.int .i64 0,.int .i64 0] 56 ?_;intro ax hg w6 hbox hb;have D:=ak hbox;have ee:=gy hg HB;replace HB:=bs HB hb;have ap:=gm hg Z;have aq:=gn hg Z;replace Z:=kf Z hb;clear hb hbox hg;have fg:=ap.out;have fh:=aq.out;obtain⟨cj,ck,cl,cm,cn,co⟩:=bc3 Z)|((with_reducible refine gate_dst (N:=11) rfl ?_);(try(refine gate_guard (by rfl) ?_;dsimp only));refine Kd.R_lit k52 _ 52 ?hg (N:=11) ?hd (xs:=([(⟨ae,af,ag⟩:S52)]:List (S52))) (inner:=[.int .i64 ae,.int .i64 af,.int .i64 ag]) (ok:=fun _=>True) (okp:=fun _=>True) ?hr ?hp (fun _ hk=>hk) trivial (Below.refl _ _) (Nat.le_refl _) (by simp) ?_;(case hd=>rfl);(case hg=>rfl);(case hr=>first|(go_simp;done)|(go_simp;rfl));(case hp=>exact(Reps.c3 (show Kd.M k52 _ _ _ (⟨ae,af,ag⟩:S52) [.int .i64 ae,.int .i64 af,.int .i64 ag] from(k52_mkM _ _ _ (⟨ae,af,ag⟩:S52))) (Reps.none _ _)));intro fi w9 ho10 hb hg_ hnew_;clear hg_ hnew_;(first|rw[←bk.out] at ho10|(simp only[Int.reduceToNat] at ho10;rw[←bk.out] at ho10));have ay:=ak (Kd.R_lower (Kd.R_newB ho10 (g:=ar) (o:=.cells #[.int .i64 ae,.int .i64 af,.int .i64 ag] 52 (0,0)) (PK Z)) (below_size PB));replace Z:=kf Z hb;replace D:=kf D hb;replace HB:=bs HB hb;clear hb ho10;obtain⟨br,bu,bv,bw,bx,bz⟩:=bc3 Z)|(go_at_call 36;(with_reducible refine(spec_AnswerAt.calls k _ _ l0 ae af ag a2 cf bi cg ch ci _ ?side1 dl.out A4.out).mono ?_);(case side1=>exact Cq dk);rintro e fu ⟨fj,rfl,ho0,hb⟩;replace ay:=Rb ay hb;have bb:=Rn0 ho0 HB;replace Z:=kf Z hb;replace D:=kf D hb;replace HB:=bs HB hb;clear hb ho0)|((with_reducible refine gate_dst (N:=9) rfl ?_);(try(refine gate_guard (by rfl) ?_;dsimp only));refine bx_ (N:=9) #[.int .i64 0,.slice none 0 0,.int .i64 0,.int .i64 0,.int .i64 0] 56 ?_;intro bl hg fv hbox hb;replace ay:=Rb ay hb;replace bb:=Rb bb hb;have aa:=ak hbox;have ef:=gy hg HB;replace HB:=bs HB hb;have aj:=gm hg Z;have al:=gn hg Z;replace Z:=kf Z hb;have am:=gm hg D;have ao:=gn hg D;replace D:=kf D hb;clear hb hbox hg;have eg:=al.out;have eh:=aj.out;have ei:=ao.out;have ej:=am.out;obtain⟨b0,b4,b5,b6,b7,b8,b9,ca,cb,cd⟩:=bc5 aa;obtain⟨dr,dt,rfl⟩:=Kd.R_slice bb.out))
 go_loopg [8] k (fun kq v8 w'=>∃(ai:List (S52))(ab:Int)(ah:List Int)(J:Int)(U:Int)(X:Int)(au:Value),Aside0 (spec_FollowAt.l0 kq l0 a2 ai ab ah J U X=some (r1,r2,r3,r4,r5,r6))∧Aside0 (kq≤k)∧Aside0 (Kd.R k52 52 w' w.heap.size (fun k_=>k_≠ar) v8 ai)∧Aside0 (Kd.R (Kd.int .i64) 3 w' w.heap.size (fun _=>True) au ah)∧Aside0 (w'.heap[ar]?=some (.cells #[.int .i64 ae,.int .i64 af,.int .i64 ag] 52 (0,0)))∧Aside0 (w'.heap[ax]?=some (.cells #[.int .i64 0,(.slice none 0 0),.int .i64 0,.int .i64 0,.int .i64 0] 56 (0,0)))∧Aside0 (w'.heap[bl]?=some (.cells #[.int .i64 ab,au,.int .i64 J,.int .i64 U,.int .i64 X] 56 (0,0)))∧Aside0 (Below w.heap.size w w'))
 case atStart=>exact⟨(ce),(cf),(bi),(cg),(ch),(ci),(.slice dr bi.length dt),H',⟨Nat.le_refl _⟩,⟨RX (Rt ay.out aa) (fun _ hk=>by first|exact hk.1.2 | simp_all)⟩,⟨RX (Rt bb.out aa) (fun _ hk=>trivial)⟩,⟨PF Z⟩,⟨PF D⟩,⟨PX aa⟩,⟨PB⟩⟩
 case round =>
  clear H';(try clear c1);(try clear c2);(try clear p2);(try clear c3);(try clear c7);(try clear fw);(try clear fx);(try clear br);(try clear bu);(try clear bv);(try clear b0);(try clear b4);(try clear b5);(try clear b6);(try clear b7);(try clear cj);(try clear ck);(try clear cl);(try clear bw);(try clear bx);(try clear bz);(try clear b8);(try clear b9);(try clear ca);(try clear cb);(try clear cd);(try clear cm);(try clear cn);(try clear co);obtain⟨ai,ab,ah,J,U,X,au,HA,dp,ac,Y,Z,D,aa,HB⟩:=hrel
  cases gk with
  | zero=>exact absurd HA.out (by simp[spec_FollowAt.l0])
  | succ k1 =>
   have H:=HA.out;clear HA;simp only[spec_FollowAt.l0] at H
   by_cases bf:ab=3
   ·rw[if_pos bf] at H;have cz:(ab == 3)=true:=beq_iff_eq.mpr bf;have da:(ab != 3)=false:=bne_eq_false_iff_eq.mpr bf;clear bf
    by_cases bg:(ai.length:Int)≤4
    ·rw[if_pos bg] at H;have db:decide ((ai.length:Int)≤4)=true:=decide_eq_true bg;have dc:decide (ai.length≤4)=true:=decide_eq_true (by omega);clear bg;replace H:=Option.bind_eq_some_iff.mp H;obtain⟨du,cp,H⟩:=H;(try dsimp only at H);have dq:=ak cp;clear cp
     by_cases bm:du=true
     ·subst bm;rw[if_pos rfl] at H;simp only[Option.some.injEq,Prod.mk.injEq] at H;obtain⟨rfl,rfl,rfl,rfl,rfl,rfl⟩:=H;have ek:=al.out;have el:=aj.out;have em:=ao.out;have en:=am.out;obtain⟨_,_,_,_,_,_,_,_,_,_⟩:=bc5 aa;obtain⟨fl,fm,rfl⟩:=Kd.R_slice ac.out;go_wp2_with (first|(go_at_call 37;(with_reducible refine(spec_l9Has.calls k1 _ _ ai J U X true _ ?side1 (rl ac) dq.out).mono ?_);(case side1=>exact CR (rr ac));rintro e fy ⟨rfl,hb⟩;replace ac:=Rb ac hb;replace Y:=Rb Y hb;replace Z:=kf Z hb;replace D:=kf D hb;replace aa:=kf aa hb;replace HB:=bs HB hb;clear hb;obtain⟨_,_,_,_,_,_,_,_,_,_⟩:=bc5 aa;have eo:=aq.out;have ep:=ap.out;obtain⟨_,_,_,_,_,_,_,_,_,_⟩:=bc5 D;obtain⟨dv,dw,rfl⟩:=Kd.R_slice Y.out));refine bodyPost_ret (results_ct rfl _ _ ax 56 #[.int .i64 ab,.slice dv ah.length dw,.int .i64 J,.int .i64 U,.int .i64 X] (0,0) _ rfl (PX D) Try.underlying56 rfl KR) rfl ?_;exact⟨_,_,RT,RX (Rt Y.out D) (fun _ hk=>trivial),RX (Rt ac.out D) (fun _ hk=>trivial),PB⟩
     ·replace bm:=Bool.eq_false_iff.mpr bm;subst bm;rw[if_neg (show ¬(false=true) by decide)] at H
      by_cases bo:ai.length < 5864062014805
      ·rw[if_pos bo] at H;have de:=ak bo;clear bo;obtain⟨cq,bc⟩:∃ y_:List (S52),y_=(ai++[(⟨J,U,X⟩:S52)]):=⟨_,rfl⟩
       replace H:((spec_AnswerAt.f k1 l0 J U X a2).bind fun az=>(spec_FollowAt.l0 k1 l0 a2 cq az.1 az.2.1 az.2.2.1 az.2.2.2.1 az.2.2.2.2))=some (r1,r2,r3,r4,r5,r6):=by first|(rw[bc];with_reducible exact H)|(have H2_:=(Option.bind_some _ _).symm.trans H;rw[bc];with_reducible exact H2_)|exact H
       have df:=ak bc;clear bc;replace H:=Option.bind_eq_some_iff.mp H;obtain⟨⟨cr,bj,ct,cu,cv⟩,cw,H⟩:=H;(try dsimp only at H);have ec:=ak cw;clear cw;have H':=ak H;clear H;have eq:=al.out;have er:=aj.out;have es:=ao.out;have et:=am.out;obtain⟨_,_,_,_,_,_,_,_,_,_⟩:=bc5 aa;obtain⟨dx,dy,rfl⟩:=Kd.R_slice ac.out;go_wp2_with (first|(go_at_call 37;(with_reducible refine(spec_l9Has.calls k1 _ _ ai J U X false _ ?side1 (rl ac) dq.out).mono ?_);(case side1=>exact CR (rr ac));rintro e fz ⟨rfl,hb⟩;replace ac:=Rb ac hb;replace Y:=Rb Y hb;replace Z:=kf Z hb;replace D:=kf D hb;replace aa:=kf aa hb;replace HB:=bs HB hb;clear hb;obtain⟨_,_,_,_,_,_,_,_,_,_⟩:=bc5 aa)|((with_reducible refine gate_builtin (b:=.append) (xs:=#[.tmp 31,.tmp 34]) rfl ?_);(try(refine gate_guard (by rfl) ?_;dsimp only));at_builtin;refine Kd.R_append k52 (w0:=w) w.heap.size rfl (.tmp 31) (.tmp 34) 57 52 (.agg #[(.int .i64 0),(.int .i64 0),(.int .i64 0)]) 24 rfl Try.underlying57 info52 rfl (by decide) (by omega) (.slice dx ai.length dy) ai (⟨J,U,X⟩:S52) [.int .i64 J,.int .i64 U,.int .i64 X] (fun k_=>k_≠ar) (fun _=>False) rfl rfl ?aP (fun _ hk=>hk.elim) ?aF ?aO ?aB ?aS ?aL ?_;(case aP=>exact k52_mkM _ _ _ (⟨J,U,X⟩:S52));(case aB=>exact PB);(case aF=>exact(fun k_ hk=>Kd.freshB (g:=ar) (o:=.cells #[.int .i64 ae,.int .i64 af,.int .i64 ag] 52 (0,0)) (PK Z) k_ hk));(case aO=>exact(PR ac));(case aS=>exact(below_size PB));(case aL=>have:=de.out;omega);intro fo f0 ho hb hg hat;rw[←df.out] at ho;replace Y:=ak (Kd.R_over' (PR Y) (Kd.R_typed (PR ac)) (by decide) hg);replace Z:=ak (blk_grown (g:=ar) (o:=.cells #[.int .i64 ae,.int .i64 af,.int .i64 ag] 52 (0,0)) (PK Z) hg (Kd.R_away ac.out (fun _ hk=>hk)));replace D:=ak (blk_grown (g:=ax) (o:=.cells #[.int .i64 0,.slice none 0 0,.int .i64 0,.int .i64 0,.int .i64 0] 56 (0,0)) (PK D) hg (Kd.R_ne ac.out D.out (by decide)));replace aa:=ak (blk_grown (g:=bl) (o:=.cells #[.int .i64 ab,au,.int .i64 J,.int .i64 U,.int .i64 X] 56 (0,0)) (PK aa) hg (Kd.R_ne ac.out aa.out (by decide)));replace HB:=ak hb;have bh:=ak (ho);clear ac;clear ho hb hg hat;obtain⟨_,_,_,_,_,_,_,_,_,_⟩:=bc5 aa)|(go_at_call 36;(with_reducible refine(spec_AnswerAt.calls k1 _ _ l0 J U X a2 cr bj ct cu cv _ ?side1 dl.out ec.out).mono ?_);(case side1=>exact Cq dk);rintro e f1 ⟨fp,rfl,ho0,hb⟩;replace bh:=Rb bh hb;have bp:=Rn1 ho0 HB Y;replace Y:=ak (Kd.R_elder' (PR Y) (Kd.R_base ho0) hb);replace Z:=kf Z hb;replace D:=kf D hb;replace aa:=kf aa hb;replace HB:=bs HB hb;clear hb ho0;obtain⟨_,_,_,_,_,_,_,_,_,_⟩:=bc5 aa;obtain⟨dz,d7,rfl⟩:=Kd.R_slice bp.out))
       go_roundg k1
       case measure=>have:=dp.out;omega
       case rel=>exact⟨(cq),(cr),(bj),(ct),(cu),(cv),(.slice dz bj.length d7),H',⟨by have:=dp.out;omega⟩,⟨Re1 bh aa⟩,⟨RX (Rt bp.out aa) (fun _ hk=>trivial)⟩,⟨PF Z⟩,⟨PF D⟩,⟨PX aa⟩,⟨PB⟩⟩
      ·rw[if_neg bo] at H;exact absurd H (by simp)
    ·rw[if_neg bg] at H;have db:decide ((ai.length:Int)≤4)=false:=decide_eq_false bg;have dc:decide (ai.length≤4)=false:=decide_eq_false (by omega);clear bg;simp only[Option.some.injEq,Prod.mk.injEq] at H;obtain⟨rfl,rfl,rfl,rfl,rfl,rfl⟩:=H;have eu:=al.out;have ev:=aj.out;have ew:=ao.out;have ex:=am.out;obtain⟨_,_,_,_,_,_,_,_,_,_⟩:=bc5 aa;obtain⟨fq,ft,rfl⟩:=Kd.R_slice ac.out;have ey:=aq.out;have ez:=ap.out;obtain⟨_,_,_,_,_,_,_,_,_,_⟩:=bc5 D;obtain⟨d8,d9,rfl⟩:=Kd.R_slice Y.out;go_wp2;refine bodyPost_ret (results_ct rfl _ _ ax 56 #[.int .i64 ab,.slice d8 ah.length d9,.int .i64 J,.int .i64 U,.int .i64 X] (0,0) _ rfl (PX D) Try.underlying56 rfl KR) rfl ?_;exact⟨_,_,RT,RX (Rt Y.out D) (fun _ hk=>trivial),RX (Rt ac.out D) (fun _ hk=>trivial),PB⟩
   ·rw[if_neg bf] at H;have cz:(ab == 3)=false:=beq_eq_false_iff_ne.mpr bf;have da:(ab != 3)=true:=bne_iff_ne.mpr bf;simp only[Option.some.injEq,Prod.mk.injEq] at H;obtain⟨rfl,rfl,rfl,rfl,rfl,rfl⟩:=H;have e7:=al.out;have e8:=aj.out;have e9:=ao.out;have fa:=am.out;obtain⟨_,_,_,_,_,_,_,_,_,_⟩:=bc5 aa;have fb:=aq.out;have fc:=ap.out;obtain⟨_,_,_,_,_,_,_,_,_,_⟩:=bc5 D;obtain⟨ea,eb,rfl⟩:=Kd.R_slice Y.out;go_wp2;refine bodyPost_ret (results_ct rfl _ _ ax 56 #[.int .i64 ab,.slice ea ah.length eb,.int .i64 J,.int .i64 U,.int .i64 X] (0,0) _ rfl (PX D) Try.underlying56 rfl KR) rfl ?_;exact⟨_,_,RT,RX (Rt Y.out D) (fun _ hk=>trivial),RX (Rt ac.out D) (fun _ hk=>trivial),PB⟩
def spec_Min.f (D:Int)(J:Int):Option (Int):=if J < D then(some J) else(some D)
theorem spec_Min.calls (J:Int)(U:Int)(r:Int)(w:World)(h:spec_Min.f J U=some r) :
  Calls Try.prog 75 #[.int .i64 J,.int .i64 U] w fun e w'=>e = .returned (.int .i64 r)∧Drawn0 w w':=by
 have H:=h;clear h;unfold spec_Min.f at H
 by_cases D:U < J
 ·rw[if_pos D] at H;have X:decide (U < J)=true:=decide_eq_true D;clear D;obtain rfl:=Option.some.inj H;go_enter Try.func75,Try.ntmps75;go_wp2
  go_ret
  exact⟨FR,by repeat(first|exact Drawn0.refl _ | apply Drawn0.step)⟩
 ·rw[if_neg D] at H;have X:decide (U < J)=false:=decide_eq_false D;clear D;obtain rfl:=Option.some.inj H;go_enter Try.func75,Try.ntmps75;go_wp2
  go_ret
  exact⟨FR,by repeat(first|exact Drawn0.refl _ | apply Drawn0.step)⟩
mutual
def spec_ValueOfResource.j0:Nat→Bool→Int→List Int→Int→Int→Int→Option (Int)
  | 0,_,_,_,_,_,_=>none
  | k+1,Z,D,J,U,X,Y=>if Z=true then(some 0) else(spec_ValueOfResource.l0 k 0 0 D J U X Y)
def spec_ValueOfResource.l0:Nat→Int→Int→Int→List Int→Int→Int→Int→Option (Int)
  | 0,_,_,_,_,_,_,_=>none
  | k+1,x3,Z,J,D,U,X,Y=>if Z < (D.length:Int) then(if 0≤Z then(spec_ValueOfResource.l0 k (Int.tmod (wrap64 (x3+(rd D Z))) 1000) (wrap64 (Z+1)) J D U X Y) else(none)) else((spec_Min.f 999 (wrap64 (x3+1))).bind fun aa=>(some aa))
end
def spec_ValueOfResource.f (k:Nat)(D:Int)(J:List Int)(U:Int)(X:Int)(Y:Int):Option (Int):=(spec_IsResource.f k D J U X Y).bind fun Z=>(if Z=true then(spec_ValueOfResource.j0 k (decide (D > 2)) D J U X Y) else(spec_ValueOfResource.j0 k true D J U X Y))
theorem spec_ValueOfResource.calls (k:Nat)(X:Int)(ab:Option Addr)(ac:Nat)(D:List Int)(Y:Int)(Z:Int)(aa:Int)(r:Int)(w:World)(b0:Kd.C (Kd.int .i64) w ab D.length D)(b4:D.length≤ac)(h:spec_ValueOfResource.f k X D Y Z aa=some r) :
  Calls Try.prog 74 #[.agg #[.int .i64 X,.slice ab D.length ac,.int .i64 Y,.int .i64 Z,.int .i64 aa]] w fun e w'=>e = .returned (.int .i64 r)∧Below w.heap.size w w':=by
 have db:=Try.underlying56;have ai:=ak b0;have b5:=ak b4;clear b0 b4;have HB:=ak (Below.refl w.heap.size w);have H:=h;clear h;unfold spec_ValueOfResource.f at H;have b9:=ak H;clear H;go_enter Try.func74,Try.ntmps74
 go_upto_region 1 with (first|((with_reducible refine gate_dst (N:=1) rfl ?_);refine bx_ (N:=1) #[.int .i64 X,.slice ab D.length ac,.int .i64 Y,.int .i64 Z,.int .i64 aa] 56 ?_;intro b6 hg w3 hbox hb;have J:=ak hbox;have cy:=gy hg HB;replace HB:=bs HB hb;clear hb hbox hg))
 (try simp only[Act.put,List.setIfInBounds_toArray,List.set_cons_zero,List.set_cons_succ])
 go_cut [12] (fun cu wc=>∃(kq:Nat)(af:Bool),cu = .bool af∧Aside0 (spec_ValueOfResource.j0 kq af X D Y Z aa=some r)∧Aside0 (kq≤k)∧Aside0 (wc.heap[b6]?=some (.cells #[.int .i64 X,(.slice ab D.length ac),.int .i64 Y,.int .i64 Z,.int .i64 aa] 56 (0,0)))∧Aside0 (Below w.heap.size w wc))
 case first =>
  have H:=b9.out;clear b9;replace H:=Option.bind_eq_some_iff.mp H;obtain⟨cg,cd,H⟩:=H;(try dsimp only at H);have A4:=ak cd;clear cd
  by_cases c5:cg=true
  ·subst c5;rw[if_pos rfl] at H;have H':=ak H;clear H;obtain⟨aj,al,am,ao,ap,aq,ar,au,av,aw⟩:=bc5 J;go_wp2_with (first|(go_at_call 92;(with_reducible refine(spec_IsResource.calls k X _ _ D Y Z aa true _ ?side1 b5.out A4.out).mono ?_);(case side1=>exact Cq ai);rintro e w7 ⟨rfl,hb⟩;replace J:=kf J hb;replace HB:=bs HB hb;clear hb;obtain⟨ax,ay,az,ba,bb,bc,bd,bf,bg,bh⟩:=bc5 J))
   go_meet
   case rel=>exact⟨_,(decide (X > 2)),FR,H',⟨by first|omega | exact Nat.le_refl _⟩,⟨PK J⟩,⟨PB⟩⟩
  ·replace c5:=Bool.eq_false_iff.mpr c5;subst c5;rw[if_neg (show ¬(false=true) by decide)] at H;have H':=ak H;clear H;obtain⟨bi,bj,bk,bl,bm,bo,bp,br,bu,bv⟩:=bc5 J;go_wp2_with (first|(go_at_call 92;(with_reducible refine(spec_IsResource.calls k X _ _ D Y Z aa false _ ?side1 b5.out A4.out).mono ?_);(case side1=>exact Cq ai);rintro e dh ⟨rfl,hb⟩;replace J:=kf J hb;replace HB:=bs HB hb;clear hb))
   go_meet
   case rel=>exact⟨_,(true),FR,H',⟨by first|omega | exact Nat.le_refl _⟩,⟨PK J⟩,⟨PB⟩⟩
 case rest =>
  clear b9;(try clear p2);(try clear c5);(try clear c7);(try clear c9);(try clear aj);(try clear al);(try clear am);(try clear ao);(try clear ap);(try clear ax);(try clear ay);(try clear az);(try clear ba);(try clear bb);(try clear bi);(try clear bj);(try clear bk);(try clear bl);(try clear bm);(try clear aq);(try clear ar);(try clear au);(try clear av);(try clear aw);(try clear bc);(try clear bd);(try clear bf);(try clear bg);(try clear bh);(try clear bo);(try clear bp);(try clear br);(try clear bu);(try clear bv);obtain⟨kq,af,rfl,HA,ce,J,HB⟩:=hcut
  cases kq with
  | zero=>exact absurd HA.out (by simp[spec_ValueOfResource.j0])
  | succ kj1 =>
   have H:=HA.out;clear HA;simp only[spec_ValueOfResource.j0] at H
   by_cases bw:af=true
   ·subst bw;rw[if_pos rfl] at H;obtain rfl:=Option.some.inj H;go_wp2
    go_ret
    exact⟨RT,PB⟩
   ·replace bw:=Bool.eq_false_iff.mpr bw;subst bw;rw[if_neg (show ¬(false=true) by decide)] at H;have H':=ak H;clear H;go_wp2
    go_loopg [3,4] kj1 (fun kq v3 v4 w'=>∃(ae:Int)(U:Int),v3 = .int .i64 ae∧v4 = .int .i64 U∧Aside0 (spec_ValueOfResource.l0 kq ae U X D Y Z aa=some r)∧Aside0 (kq≤kj1)∧Aside0 (w'.heap[b6]?=some (.cells #[.int .i64 X,(.slice ab D.length ac),.int .i64 Y,.int .i64 Z,.int .i64 aa] 56 (0,0)))∧Aside0 (Below w.heap.size w w'))
    case atStart=>exact⟨(0),(0),FR,FR,H',⟨Nat.le_refl _⟩,⟨PK J⟩,⟨PB⟩⟩
    case round =>
     clear H';(try clear c1);(try clear p2);(try clear c5);(try clear c7);(try clear c9);(try clear bw);(try clear aj);(try clear al);(try clear am);(try clear ao);(try clear ap);(try clear ax);(try clear ay);(try clear az);(try clear ba);(try clear bb);(try clear bi);(try clear bj);(try clear bk);(try clear bl);(try clear bm);(try clear aq);(try clear ar);(try clear au);(try clear av);(try clear aw);(try clear bc);(try clear bd);(try clear bf);(try clear bg);(try clear bh);(try clear bo);(try clear bp);(try clear br);(try clear bu);(try clear bv);(try clear p2);obtain⟨ae,U,rfl,rfl,HA,cf,J,HB⟩:=hrel
     cases gk with
     | zero=>exact absurd HA.out (by simp[spec_ValueOfResource.l0])
     | succ k2 =>
      have H:=HA.out;clear HA;simp only[spec_ValueOfResource.l0] at H
      by_cases ag:U < (D.length:Int)
      ·rw[if_pos ag] at H;have cb:decide (U < (D.length:Int))=true:=decide_eq_true ag;clear ag
       by_cases b7:0≤U
       ·rw[if_pos b7] at H;have cz:decide (0≤U)=true:=decide_eq_true b7;clear b7;have H':=ak H;clear H;obtain⟨_,_,_,_,_,_,_,_,_,_⟩:=bc5 J;have bx:0≤(U:Int):=od;have bz:U < (D.length:Int):=od;obtain⟨da,ch,ah⟩:=Kd.at_int ai.out U bx bz;cases ch;replace ah:=hx_ HB ah;replace bx:=eq_true bx;replace bz:=eq_true bz;go_wp2
        go_roundg k2
        case measure=>have:=ce.out;have:=cf.out;omega
        case rel=>exact⟨(Int.tmod (wrap64 (ae+(rd D U))) 1000),(wrap64 (U+1)),FR,FR,H',⟨by have:=ce.out;have:=cf.out;omega⟩,⟨PK J⟩,⟨PB⟩⟩
       ·rw[if_neg b7] at H;exact absurd H (by simp)
      ·rw[if_neg ag] at H;have cb:decide (U < (D.length:Int))=false:=decide_eq_false ag;clear ag;replace H:=Option.bind_eq_some_iff.mp H;obtain⟨ci,ca,H⟩:=H;(try dsimp only at H);have cx:=ak ca;clear ca;obtain rfl:=Option.some.inj H;obtain⟨cj,ck,cl,cm,cn,co,cp,cq,cr,ct⟩:=bc5 J;go_wp2_with (first|(go_at_call 75;(with_reducible refine(spec_Min.calls 999 (wrap64 (ae+1)) ci _ cx.out).mono ?_);rintro e w' ⟨rfl,⟨nd,rfl⟩⟩))
       go_ret
       exact⟨RT,PB⟩
def spec_Mod.f (U:Int)(D:Int):Option (Int):=(spec_l1In.f D 1 1000000000000).bind fun J=>(if J=true then(if D=0 then(none) else(some (Int.tmod (wrap64 ((Int.tmod U D)+D)) D))) else(some 0))
theorem spec_Mod.calls (Z:Int)(D:Int)(r:Int)(w:World)(h:spec_Mod.f Z D=some r) :
  Calls Try.prog 76 #[.int .i64 Z,.int .i64 D] w fun e w'=>e = .returned (.int .i64 r)∧Drawn0 w w':=by
 have H:=h;clear h;unfold spec_Mod.f at H;replace H:=Option.bind_eq_some_iff.mp H;obtain⟨Y,X,H⟩:=H;(try dsimp only at H);have A3:=ak X;clear X
 by_cases J:Y=true
 ·subst J;rw[if_pos rfl] at H
  by_cases U:D=0
  ·rw[if_pos U] at H;exact absurd H (by simp)
  ·rw[if_neg U] at H;have ab:(D == 0)=false:=beq_eq_false_iff_ne.mpr U;have ac:(D != 0)=true:=bne_iff_ne.mpr U;obtain rfl:=Option.some.inj H;go_enter Try.func76,Try.ntmps76;go_wp2_with (first|(go_at_call 70;(with_reducible refine(spec_l1In.calls D 1 1000000000000 true _ A3.out).mono ?_);rintro e w' ⟨rfl,⟨nd,rfl⟩⟩))
   go_ret
   exact⟨FR,by repeat(first|exact Drawn0.refl _ | apply Drawn0.step)⟩
 ·replace J:=Bool.eq_false_iff.mpr J;subst J;rw[if_neg (show ¬(false=true) by decide)] at H;obtain rfl:=Option.some.inj H;go_enter Try.func76,Try.ntmps76;go_wp2_with (first|(go_at_call 70;(with_reducible refine(spec_l1In.calls D 1 1000000000000 false _ A3.out).mono ?_);rintro e w' ⟨rfl,⟨nd,rfl⟩⟩))
  go_ret
  exact⟨FR,by repeat(first|exact Drawn0.refl _ | apply Drawn0.step)⟩
def spec_Hash.l0:Nat→List Int→Int→Int→Option (Int)
  | 0,_,_,_=>none
  | k+1,J,X,D=>if D < (J.length:Int) then(if 0≤D then((spec_Mod.f (rd J D) 2147483647).bind fun U=>(spec_Hash.l0 k J (Int.tmod (wrap64 ((wrap64 ((wrap64 (X * 1000003))+U))+13)) 2147483647) (wrap64 (D+1)))) else(none)) else(some X)
def spec_Hash.f (k:Nat)(D:List Int):Option (Int):=spec_Hash.l0 k D 11 0
theorem spec_Hash.calls (k:Nat)(A0:Option Addr)(c0:Nat)(J:List Int)(r:Int)(w:World)(ac:Kd.C (Kd.int .i64) w A0 J.length J)(ae:J.length≤c0)(h:spec_Hash.f k J=some r) :
  Calls Try.prog 77 #[.slice A0 J.length c0] w fun e w'=>e = .returned (.int .i64 r)∧Drawn0 w w':=by
 have ao:=ak ac;have aw:=ak ae;clear ac ae;have H:=h;clear h;unfold spec_Hash.f at H;have H':=ak H;clear H;go_enter Try.func77,Try.ntmps77;go_wp2
 go_loopg [3,4] k (fun kq v3 v4 w'=>∃(U:Int)(D:Int),v3 = .int .i64 U∧v4 = .int .i64 D∧Aside0 (spec_Hash.l0 kq J U D=some r)∧Aside0 (kq≤k)∧Drawn0 w w')
 case atStart=>exact⟨(11),(0),FR,FR,H',⟨Nat.le_refl _⟩,by repeat(first|exact Drawn0.refl _ | apply Drawn0.step)⟩
 case round =>
  clear H';obtain⟨U,D,rfl,rfl,HA,af,⟨m1,rfl⟩⟩:=hrel
  cases gk with
  | zero=>exact absurd HA.out (by simp[spec_Hash.l0])
  | succ k1 =>
   have H:=HA.out;clear HA;simp only[spec_Hash.l0] at H
   by_cases Z:D < (J.length:Int)
   ·rw[if_pos Z] at H;have ah:decide (D < (J.length:Int))=true:=decide_eq_true Z;clear Z
    by_cases c3:0≤D
    ·rw[if_pos c3] at H;have au:decide (0≤D)=true:=decide_eq_true c3;clear c3;replace H:=Option.bind_eq_some_iff.mp H;obtain⟨aa,ag,H⟩:=H;(try dsimp only at H);have A4:=ak ag;clear ag;have H':=ak H;clear H;have X:0≤(D:Int):=od;have Y:D < (J.length:Int):=od;obtain⟨ap,ai,aj⟩:=Kd.at_int ao.out D X Y;cases ai;replace X:=eq_true X;replace Y:=eq_true Y;go_wp2_with (first|(go_at_call 76;(with_reducible refine(spec_Mod.calls (rd J D) 2147483647 aa _ A4.out).mono ?_);rintro e w' ⟨rfl,⟨nd,rfl⟩⟩))
     go_roundg k1
     case measure=>have:=af.out;omega
     case rel=>exact⟨(Int.tmod (wrap64 ((wrap64 ((wrap64 (U * 1000003))+aa))+13)) 2147483647),(wrap64 (D+1)),FR,FR,H',⟨by have:=af.out;omega⟩,by repeat(first|exact Drawn0.refl _ | apply Drawn0.step)⟩
    ·rw[if_neg c3] at H;exact absurd H (by simp)
   ·rw[if_neg Z] at H;have ah:decide (D < (J.length:Int))=false:=decide_eq_false Z;clear Z;obtain rfl:=Option.some.inj H;go_wp2
    go_ret
    exact⟨FR,by repeat(first|exact Drawn0.refl _ | apply Drawn0.step)⟩

def spec_LiveValue.j0:Nat→Int→Bool→List (S86)→Int→Int→List Int→Int→Int→Int→Int→Option (Int)
  | 0,_,_,_,_,_,_,_,_,_,_=>none
  | k+1,Y,aj,Z,X,aa,D,J,ab,ac,ae=>if aj=true then(some 0) else(if J=1 then((spec_FollowAt.f k Z ab ac ae (wrap64 (X+Y))).bind fun U=>((spec_ValueOfResource.f k U.1 U.2.1 U.2.2.1 U.2.2.2.1 U.2.2.2.2.1).bind fun af=>(some af))) else(if J=2 then((spec_Min.f 999 (wrap64 (X+Y))).bind fun ag=>(some ag)) else(if J=3 then((spec_Hash.f k (([aa,Y]:List Int))).bind fun ah=>((spec_Mod.f ah 1000).bind fun ai=>(some ai))) else(if J=4 then(if (D.length:Int) > 0 then(if (D.length:Int)=0 then(none) else(if 0≤(Int.tmod Y (D.length:Int)) then(if (Int.tmod Y (D.length:Int)) < (D.length:Int) then(some (rd D (Int.tmod Y (D.length:Int)))) else(none)) else(none))) else(some 0)) else(some 0)))))
def spec_LiveValue.f (k:Nat)(D:List (S86))(J:Int)(U:Int)(X:List Int)(Y:Int)(Z:Int)(aa:Int)(ab:Int)(a2:Int):Option (Int):=(spec_IsVisit.f k D J U X).bind fun ae=>(if ae=true then((spec_l1In.f a2 0 100).bind fun af=>(spec_LiveValue.j0 k a2 (!af) D J U X Y Z aa ab)) else(spec_LiveValue.j0 k a2 true D J U X Y Z aa ab))
theorem spec_LiveValue.calls (k:Nat)(ay:Option Addr)(az:Nat)(ae:List (S86))(af:Int)(aa:Int)(ba:Option Addr)(bb:Nat)(U:List Int)(X:Int)(ai:Int)(aj:Int)(al:Int)(a2:Int)(r:Int)(w:World)(cd:Kd.C k86 w ay ae.length ae)(ce:ae.length≤az)(cf:Kd.C (Kd.int .i64) w ba U.length U)(cg:U.length≤bb)(h:spec_LiveValue.f k ae af aa U X ai aj al a2=some r) :
  Calls Try.prog 52 #[.agg #[.slice ay ae.length az,.int .i64 af,.int .i64 aa,.slice ba U.length bb],.agg #[.int .i64 X,.int .i64 ai,.int .i64 aj,.int .i64 al],.int .i64 a2] w fun e w'=>e = .returned (.int .i64 r)∧Below w.heap.size w w':=by
 have f9:=Try.underlying35;have ga:=Try.underlying98;have gb:=Try.underlying52;have gc:=Try.underlying56;have av:=ak cd;have aw:=ak ce;clear cd ce;have ax:=ak cf;have bj:=ak cg;clear cf cg;have HB:=ak (Below.refl w.heap.size w);have H:=h;clear h;unfold spec_LiveValue.f at H;have dq:=ak H;clear H;go_enter Try.func52,Try.ntmps52
 go_upto_region 1 with (first|((with_reducible refine gate_dst (N:=3) rfl ?_);refine bx_ (N:=3) #[.slice ay ae.length az,.int .i64 af,.int .i64 aa,.slice ba U.length bb] 35 ?_;intro bx hg w5 hbox hb;have D:=ak hbox;have ch:=gy hg HB;replace HB:=bs HB hb;clear hb hbox hg)|((with_reducible refine gate_dst (N:=4) rfl ?_);refine bx_ (N:=4) #[.int .i64 X,.int .i64 ai,.int .i64 aj,.int .i64 al] 98 ?_;intro bz hg w6 hbox hb;have J:=ak hbox;have ci:=gy hg HB;replace HB:=bs HB hb;have Y:=gm hg D;have Z:=gn hg D;replace D:=kf D hb;clear hb hbox hg))
 repeat(go_quiet (first|((with_reducible refine gate_dst (N:=3) rfl ?_);refine bx_ (N:=3) #[.slice ay ae.length az,.int .i64 af,.int .i64 aa,.slice ba U.length bb] 35 ?_;intro bx hg w5 hbox hb;have D:=ak hbox;have ch:=gy hg HB;replace HB:=bs HB hb;clear hb hbox hg)|((with_reducible refine gate_dst (N:=4) rfl ?_);refine bx_ (N:=4) #[.int .i64 X,.int .i64 ai,.int .i64 aj,.int .i64 al] 98 ?_;intro bz hg w6 hbox hb;have J:=ak hbox;have ci:=gy hg HB;replace HB:=bs HB hb;have Y:=gm hg D;have Z:=gn hg D;replace D:=kf D hb;clear hb hbox hg));go_upto_region 1 with (first|((with_reducible refine gate_dst (N:=3) rfl ?_);refine bx_ (N:=3) #[.slice ay ae.length az,.int .i64 af,.int .i64 aa,.slice ba U.length bb] 35 ?_;intro bx hg w5 hbox hb;have D:=ak hbox;have ch:=gy hg HB;replace HB:=bs HB hb;clear hb hbox hg)|((with_reducible refine gate_dst (N:=4) rfl ?_);refine bx_ (N:=4) #[.int .i64 X,.int .i64 ai,.int .i64 aj,.int .i64 al] 98 ?_;intro bz hg w6 hbox hb;have J:=ak hbox;have ci:=gy hg HB;replace HB:=bs HB hb;have Y:=gm hg D;have Z:=gn hg D;replace D:=kf D hb;clear hb hbox hg)))
 (try simp only[Act.put,List.setIfInBounds_toArray,List.set_cons_zero,List.set_cons_succ])
 go_cut [16] (fun fc wc=>∃(kq:Nat)(bk:Bool),fc = .bool bk∧Aside0 (spec_LiveValue.j0 kq a2 bk ae af aa U X ai aj al=some r)∧Aside0 (kq≤k)∧Aside0 (wc.heap[bx]?=some (.cells #[(.slice ay ae.length az),.int .i64 af,.int .i64 aa,(.slice ba U.length bb)] 35 (0,0)))∧Aside0 (wc.heap[bz]?=some (.cells #[.int .i64 X,.int .i64 ai,.int .i64 aj,.int .i64 al] 98 (0,0)))∧Aside0 (Below w.heap.size w wc))
 case first =>
  have H:=dq.out;clear dq;replace H:=Option.bind_eq_some_iff.mp H;obtain⟨ew,ep,H⟩:=H;(try dsimp only at H);have A7:=ak ep;clear ep
  by_cases c8:ew=true
  ·subst c8;rw[if_pos rfl] at H;replace H:=Option.bind_eq_some_iff.mp H;obtain⟨b6,eq,H⟩:=H;(try dsimp only at H);have A9:=ak eq;clear eq;have H':=ak H;clear H;have fk:=Y.out;have fl:=Z.out;obtain⟨cm,cn,co,cp,cq,cr,ct,cu⟩:=bc4 D
   iterate 4 (try go_wp2_with (first|(go_at_call 49;(with_reducible refine(spec_IsVisit.calls k _ _ ae af aa _ _ U true _ ?side1 aw.out ?side3 bj.out A7.out).mono ?_);(case side1=>exact Cq av);(case side3=>exact Cq ax);rintro e fe ⟨rfl,hb⟩;replace D:=kf D hb;replace J:=kf J hb;replace HB:=bs HB hb;clear hb)|(go_at_call 70;(with_reducible refine(spec_l1In.calls a2 0 100 b6 _ A9.out).mono ?_);rintro e w' ⟨rfl,⟨nd,rfl⟩⟩;(try first|exact⟨rfl,_,World.drewN_drewN _ _ _⟩ | exact⟨rfl,_,Eq.trans (World.drewN_drewN _ _ _) (congrArg (World.drewN _) (Nat.add_assoc _ _ _))⟩)));try go_quiet (first|(go_at_call 49;(with_reducible refine(spec_IsVisit.calls k _ _ ae af aa _ _ U true _ ?side1 aw.out ?side3 bj.out A7.out).mono ?_);(case side1=>exact Cq av);(case side3=>exact Cq ax);rintro e fe ⟨rfl,hb⟩;replace D:=kf D hb;replace J:=kf J hb;replace HB:=bs HB hb;clear hb)|(go_at_call 70;(with_reducible refine(spec_l1In.calls a2 0 100 b6 _ A9.out).mono ?_);rintro e w' ⟨rfl,⟨nd,rfl⟩⟩;(try first|exact⟨rfl,_,World.drewN_drewN _ _ _⟩ | exact⟨rfl,_,Eq.trans (World.drewN_drewN _ _ _) (congrArg (World.drewN _) (Nat.add_assoc _ _ _))⟩))))
   go_meet
   case rel=>exact⟨_,(!b6),FR,H',⟨by first|omega | exact Nat.le_refl _⟩,⟨PK D⟩,⟨PK J⟩,⟨PB⟩⟩
  ·replace c8:=Bool.eq_false_iff.mpr c8;subst c8;rw[if_neg (show ¬(false=true) by decide)] at H;have H':=ak H;clear H;have fm:=Y.out;have fo:=Z.out;obtain⟨cv,cw,cx,cy,cz,da,db,dc⟩:=bc4 D
   iterate 4 (try go_wp2_with (first|(go_at_call 49;(with_reducible refine(spec_IsVisit.calls k _ _ ae af aa _ _ U false _ ?side1 aw.out ?side3 bj.out A7.out).mono ?_);(case side1=>exact Cq av);(case side3=>exact Cq ax);rintro e ff ⟨rfl,hb⟩;replace D:=kf D hb;replace J:=kf J hb;replace HB:=bs HB hb;clear hb));try go_quiet (first|(go_at_call 49;(with_reducible refine(spec_IsVisit.calls k _ _ ae af aa _ _ U false _ ?side1 aw.out ?side3 bj.out A7.out).mono ?_);(case side1=>exact Cq av);(case side3=>exact Cq ax);rintro e ff ⟨rfl,hb⟩;replace D:=kf D hb;replace J:=kf J hb;replace HB:=bs HB hb;clear hb)))
   go_meet
   case rel=>exact⟨_,(true),FR,H',⟨by first|omega | exact Nat.le_refl _⟩,⟨PK D⟩,⟨PK J⟩,⟨PB⟩⟩
 case rest =>
  clear dq;(try clear c1);(try clear p2);(try clear c5);(try clear c8);(try clear gf);(try clear gg);(try clear cm);(try clear cn);(try clear co);(try clear cp);(try clear cv);(try clear cw);(try clear cx);(try clear cy);(try clear cq);(try clear cr);(try clear ct);(try clear cu);(try clear cz);(try clear da);(try clear db);(try clear dc);obtain⟨kq,bk,rfl,HA,gh,D,J,HB⟩:=hcut
  cases kq with
  | zero=>exact absurd HA.out (by simp[spec_LiveValue.j0])
  | succ kj3 =>
   have H:=HA.out;clear HA;simp only[spec_LiveValue.j0] at H
   by_cases cj:bk=true
   ·subst cj;rw[if_pos rfl] at H;obtain rfl:=Option.some.inj H;go_wp2
    repeat(go_quiet (fail);try go_wp2)
    go_ret
    exact⟨RT,PB⟩
   ·replace cj:=Bool.eq_false_iff.mpr cj;subst cj;rw[if_neg (show ¬(false=true) by decide)] at H
    by_cases bo:X=1
    ·rw[if_pos bo] at H;have d9:(X == 1)=true:=beq_iff_eq.mpr bo;have ea:(X != 1)=false:=bne_eq_false_iff_eq.mpr bo;clear bo;replace H:=Option.bind_eq_some_iff.mp H;obtain⟨⟨bc,bd,bf,bg,bh,dt⟩,du,H⟩:=H;(try dsimp only at H);have er:=ak du;clear du;replace H:=Option.bind_eq_some_iff.mp H;obtain⟨dv,dw,H⟩:=H;(try dsimp only at H);have es:=ak dw;clear dw;obtain rfl:=Option.some.inj H;have fp:=Z.out;have fq:=Y.out;obtain⟨_,_,_,_,_,_,_,_⟩:=bc4 J;obtain⟨_,_,_,_,_,_,_,_⟩:=bc4 D
     iterate 4 (try go_wp2_with (first|(go_at_call 20;(with_reducible refine(spec_FollowAt.calls kj3 _ _ ae ai aj al (wrap64 (af+a2)) bc bd bf bg bh dt _ ?side1 aw.out er.out).mono ?_);(case side1=>exact Cq av);rintro e fg ⟨ex,ey,rfl,ho0,ho1,hb⟩;have ab:=Rn0 ho0 HB;have ag:=Rn0 ho1 HB;replace D:=kf D hb;replace J:=kf J hb;replace HB:=bs HB hb;clear hb ho0 ho1)|((with_reducible refine gate_dst (N:=7) rfl ?_);refine bx_ (N:=7) #[.int .i64 0,.slice none 0 0,.int .i64 0,.int .i64 0,.int .i64 0] 56 ?_;intro eb hg fh hbox hb;replace ab:=Rb ab hb;replace ag:=Rb ag hb;have ac:=ak hbox;have ec:=gy hg HB;replace HB:=bs HB hb;have ap:=gm hg D;have aq:=gn hg D;replace D:=kf D hb;have ar:=gm hg J;have au:=gn hg J;replace J:=kf J hb;clear hb hbox hg;have ed:=aq.out;have ee:=ap.out;have ef:=au.out;have eg:=ar.out;obtain⟨de,df,dg,dh,di,dj,dk,dl,dn,dp⟩:=bc5 ac;obtain⟨b7,b8,rfl⟩:=Kd.R_slice ab.out)|(go_at_call 74;(with_reducible refine(spec_ValueOfResource.calls kj3 bc _ _ bd bf bg bh dv _ ?side1 (rl ab) es.out).mono ?_);(case side1=>exact(Kd.R_reads' (Re1 ab ac)).2.2);rintro e fi ⟨rfl,hb⟩;replace ab:=ak (Kd.R_below (Re1 ab ac) hb);replace ag:=ak (Kd.R_below (Re1 ag ac) hb);replace D:=kf D hb;replace J:=kf J hb;replace ac:=kp (cs':=#[.int .i64 bc,.slice b7 bd.length b8,.int .i64 bf,.int .i64 bg,.int .i64 bh]) ac hb;replace HB:=bs HB hb;clear hb));try go_quiet (first|(go_at_call 20;(with_reducible refine(spec_FollowAt.calls kj3 _ _ ae ai aj al (wrap64 (af+a2)) bc bd bf bg bh dt _ ?side1 aw.out er.out).mono ?_);(case side1=>exact Cq av);rintro e fg ⟨ex,ey,rfl,ho0,ho1,hb⟩;have ab:=Rn0 ho0 HB;have ag:=Rn0 ho1 HB;replace D:=kf D hb;replace J:=kf J hb;replace HB:=bs HB hb;clear hb ho0 ho1)|((with_reducible refine gate_dst (N:=7) rfl ?_);refine bx_ (N:=7) #[.int .i64 0,.slice none 0 0,.int .i64 0,.int .i64 0,.int .i64 0] 56 ?_;intro eb hg fh hbox hb;replace ab:=Rb ab hb;replace ag:=Rb ag hb;have ac:=ak hbox;have ec:=gy hg HB;replace HB:=bs HB hb;have ap:=gm hg D;have aq:=gn hg D;replace D:=kf D hb;have ar:=gm hg J;have au:=gn hg J;replace J:=kf J hb;clear hb hbox hg;have ed:=aq.out;have ee:=ap.out;have ef:=au.out;have eg:=ar.out;obtain⟨de,df,dg,dh,di,dj,dk,dl,dn,dp⟩:=bc5 ac;obtain⟨b7,b8,rfl⟩:=Kd.R_slice ab.out)|(go_at_call 74;(with_reducible refine(spec_ValueOfResource.calls kj3 bc _ _ bd bf bg bh dv _ ?side1 (rl ab) es.out).mono ?_);(case side1=>exact(Kd.R_reads' (Re1 ab ac)).2.2);rintro e fi ⟨rfl,hb⟩;replace ab:=ak (Kd.R_below (Re1 ab ac) hb);replace ag:=ak (Kd.R_below (Re1 ag ac) hb);replace D:=kf D hb;replace J:=kf J hb;replace ac:=kp (cs':=#[.int .i64 bc,.slice b7 bd.length b8,.int .i64 bf,.int .i64 bg,.int .i64 bh]) ac hb;replace HB:=bs HB hb;clear hb)))
     go_ret
     exact⟨RT,PB⟩
    ·rw[if_neg bo] at H;have d9:(X == 1)=false:=beq_eq_false_iff_ne.mpr bo;have ea:(X != 1)=true:=bne_iff_ne.mpr bo
     by_cases bp:X=2
     ·rw[if_pos bp] at H;have eh:(X == 2)=true:=beq_iff_eq.mpr bp;have ei:(X != 2)=false:=bne_eq_false_iff_eq.mpr bp;clear bp;replace H:=Option.bind_eq_some_iff.mp H;obtain⟨dx,dy,H⟩:=H;(try dsimp only at H);have et:=ak dy;clear dy;obtain rfl:=Option.some.inj H;have ft:=Z.out;have fu:=Y.out;obtain⟨_,_,_,_,_,_,_,_⟩:=bc4 J;obtain⟨_,_,_,_,_,_,_,_⟩:=bc4 D
      iterate 4 (try go_wp2_with (first|(go_at_call 75;(with_reducible refine(spec_Min.calls 999 (wrap64 (af+a2)) dx _ et.out).mono ?_);rintro e w' ⟨rfl,⟨nd,rfl⟩⟩;(try first|exact⟨rfl,_,World.drewN_drewN _ _ _⟩ | exact⟨rfl,_,Eq.trans (World.drewN_drewN _ _ _) (congrArg (World.drewN _) (Nat.add_assoc _ _ _))⟩)));try go_quiet (first|(go_at_call 75;(with_reducible refine(spec_Min.calls 999 (wrap64 (af+a2)) dx _ et.out).mono ?_);rintro e w' ⟨rfl,⟨nd,rfl⟩⟩;(try first|exact⟨rfl,_,World.drewN_drewN _ _ _⟩ | exact⟨rfl,_,Eq.trans (World.drewN_drewN _ _ _) (congrArg (World.drewN _) (Nat.add_assoc _ _ _))⟩))))
      go_ret
      exact⟨RT,PB⟩
     ·rw[if_neg bp] at H;have eh:(X == 2)=false:=beq_eq_false_iff_ne.mpr bp;have ei:(X != 2)=true:=bne_iff_ne.mpr bp
      by_cases br:X=3
      ·rw[if_pos br] at H;have ej:(X == 3)=true:=beq_iff_eq.mpr br;have ek:(X != 3)=false:=bne_eq_false_iff_eq.mpr br;clear br;obtain⟨b9,bl⟩:∃ y_:List Int,y_=(([aa,a2]:List Int)):=⟨_,rfl⟩
       replace H:((spec_Hash.f kj3 b9).bind fun bi=>((spec_Mod.f bi 1000).bind fun b0=>(some b0)))=some r:=by first|(rw[bl];with_reducible exact H)|(have H2_:=(Option.bind_some _ _).symm.trans H;rw[bl];with_reducible exact H2_)|exact H
       have bm:=ak bl;clear bl;replace H:=Option.bind_eq_some_iff.mp H;obtain⟨bi,dz,H⟩:=H;(try dsimp only at H);have eu:=ak dz;clear dz;replace H:=Option.bind_eq_some_iff.mp H;obtain⟨b0,d7,H⟩:=H;(try dsimp only at H);have ev:=ak d7;clear d7;obtain rfl:=Option.some.inj H;have fv:=Z.out;have fw:=Y.out;obtain⟨_,_,_,_,_,_,_,_⟩:=bc4 J;obtain⟨_,_,_,_,_,_,_,_⟩:=bc4 D
       iterate 4 (try go_wp2_with (first|((with_reducible refine gate_dst (N:=47) rfl ?_);refine Kd.R_lit (Kd.int .i64) _ 3 ?hg (N:=47) ?hd (xs:=([aa,a2]:List Int)) (inner:=[.int .i64 aa,.int .i64 a2]) (ok:=fun _=>True) (okp:=fun _=>True) ?hr ?hp (fun _ hk=>hk) trivial (Below.refl _ _) (Nat.le_refl _) (by simp) ?_;(case hd=>rfl);(case hg=>rfl);(case hr=>first|(go_simp;done)|(go_simp;rfl));(case hp=>exact(Reps.one (show Kd.M (Kd.int .i64) _ _ _ aa [.int .i64 aa] from rfl) (Reps.one (show Kd.M (Kd.int .i64) _ _ _ a2 [.int .i64 a2] from rfl) (Reps.none _ _))));intro ez fj ho42 hb hg_ hnew_;clear hg_ hnew_;(first|rw[←bm.out] at ho42|(simp only[Int.reduceToNat] at ho42;rw[←bm.out] at ho42));have ao:=Rn0 ho42 HB;replace D:=kf D hb;replace J:=kf J hb;replace HB:=bs HB hb;clear hb ho42;obtain⟨e7,e8,rfl⟩:=Kd.R_slice ao.out)|(go_at_call 77;(with_reducible refine(spec_Hash.calls kj3 _ _ b9 bi _ ?side1 (rl ao) eu.out).mono ?_);(case side1=>exact CR (rr ao));rintro e w' ⟨rfl,⟨nd,rfl⟩⟩;(try first|exact⟨rfl,_,World.drewN_drewN _ _ _⟩ | exact⟨rfl,_,Eq.trans (World.drewN_drewN _ _ _) (congrArg (World.drewN _) (Nat.add_assoc _ _ _))⟩))|(go_at_call 76;(with_reducible refine(spec_Mod.calls bi 1000 b0 _ ev.out).mono ?_);rintro e w' ⟨rfl,⟨nd,rfl⟩⟩;(try first|exact⟨rfl,_,World.drewN_drewN _ _ _⟩ | exact⟨rfl,_,Eq.trans (World.drewN_drewN _ _ _) (congrArg (World.drewN _) (Nat.add_assoc _ _ _))⟩)));try go_quiet (first|((with_reducible refine gate_dst (N:=47) rfl ?_);refine Kd.R_lit (Kd.int .i64) _ 3 ?hg (N:=47) ?hd (xs:=([aa,a2]:List Int)) (inner:=[.int .i64 aa,.int .i64 a2]) (ok:=fun _=>True) (okp:=fun _=>True) ?hr ?hp (fun _ hk=>hk) trivial (Below.refl _ _) (Nat.le_refl _) (by simp) ?_;(case hd=>rfl);(case hg=>rfl);(case hr=>first|(go_simp;done)|(go_simp;rfl));(case hp=>exact(Reps.one (show Kd.M (Kd.int .i64) _ _ _ aa [.int .i64 aa] from rfl) (Reps.one (show Kd.M (Kd.int .i64) _ _ _ a2 [.int .i64 a2] from rfl) (Reps.none _ _))));intro ez fj ho42 hb hg_ hnew_;clear hg_ hnew_;(first|rw[←bm.out] at ho42|(simp only[Int.reduceToNat] at ho42;rw[←bm.out] at ho42));have ao:=Rn0 ho42 HB;replace D:=kf D hb;replace J:=kf J hb;replace HB:=bs HB hb;clear hb ho42;obtain⟨e7,e8,rfl⟩:=Kd.R_slice ao.out)|(go_at_call 77;(with_reducible refine(spec_Hash.calls kj3 _ _ b9 bi _ ?side1 (rl ao) eu.out).mono ?_);(case side1=>exact CR (rr ao));rintro e w' ⟨rfl,⟨nd,rfl⟩⟩;(try first|exact⟨rfl,_,World.drewN_drewN _ _ _⟩ | exact⟨rfl,_,Eq.trans (World.drewN_drewN _ _ _) (congrArg (World.drewN _) (Nat.add_assoc _ _ _))⟩))|(go_at_call 76;(with_reducible refine(spec_Mod.calls bi 1000 b0 _ ev.out).mono ?_);rintro e w' ⟨rfl,⟨nd,rfl⟩⟩;(try first|exact⟨rfl,_,World.drewN_drewN _ _ _⟩ | exact⟨rfl,_,Eq.trans (World.drewN_drewN _ _ _) (congrArg (World.drewN _) (Nat.add_assoc _ _ _))⟩))))
       go_ret
       exact⟨RT,PB⟩
      ·rw[if_neg br] at H;have ej:(X == 3)=false:=beq_eq_false_iff_ne.mpr br;have ek:(X != 3)=true:=bne_iff_ne.mpr br
       by_cases bu:X=4
       ·rw[if_pos bu] at H;have el:(X == 4)=true:=beq_iff_eq.mpr bu;have em:(X != 4)=false:=bne_eq_false_iff_eq.mpr bu;clear bu
        by_cases bv:(U.length:Int) > 0
        ·rw[if_pos bv] at H;have en:decide (0 < (U.length:Int))=true:=decide_eq_true bv;have eo:decide (0 < U.length)=true:=decide_eq_true (by omega);clear bv
         by_cases b5:(U.length:Int)=0
         ·rw[if_pos b5] at H;exact absurd H (by simp)
         ·rw[if_neg b5] at H;have fx:((U.length:Int) == 0)=false:=beq_eq_false_iff_ne.mpr b5;have fy:((U.length:Int) != 0)=true:=bne_iff_ne.mpr b5
          have fz:¬(U=[]):=fun h_=>b5 (by rw[h_];rfl)
          obtain⟨ah,b4⟩:∃ j_:Int,(Int.tmod a2 (U.length:Int))=j_:=⟨_,rfl⟩
          replace H:(if 0≤(ah) then(if (ah) < (U.length:Int) then(some (rd U (ah))) else(none)) else(none))=some r:=by first|(rw[b4] at H;exact H)|(simp only[b4] at H ⊢;exact H)
          by_cases ck:0≤(ah)
          ·rw[if_pos ck] at H;have f0:decide (0≤(ah))=true:=decide_eq_true ck;clear ck
           by_cases cl:(ah) < (U.length:Int)
           ·rw[if_pos cl] at H;have f1:decide ((ah) < (U.length:Int))=true:=decide_eq_true cl;clear cl;obtain rfl:=Option.some.inj H;have f2:=Z.out;have f3:=Y.out;obtain⟨_,_,_,_,_,_,_,_⟩:=bc4 J;obtain⟨_,_,_,_,_,_,_,_⟩:=bc4 D;have ca:0≤((ah):Int):=od;have cb:(ah) < (U.length:Int):=od;obtain⟨f4,e9,bw⟩:=Kd.at_int ax.out (ah) ca cb;cases e9;replace bw:=hx_ HB bw;replace ca:=eq_true ca;replace cb:=eq_true cb;go_wp2
            repeat(go_quiet (fail);try go_wp2)
            go_ret
            exact⟨by first|rfl|(simp[errW_none,errW_some] <;> rfl)|(simp only[←b4];first|rfl|(simp[errW_none,errW_some] <;> rfl))|(simp[*,errW_none,errW_some] <;> rfl),PB⟩
           ·rw[if_neg cl] at H;exact absurd H (by simp)
          ·rw[if_neg ck] at H;exact absurd H (by simp)
        ·rw[if_neg bv] at H;have en:decide (0 < (U.length:Int))=false:=decide_eq_false bv;have eo:decide (0 < U.length)=false:=decide_eq_false (by omega);clear bv;obtain rfl:=Option.some.inj H;have f5:=Z.out;have f6:=Y.out;obtain⟨_,_,_,_,_,_,_,_⟩:=bc4 J;obtain⟨_,_,_,_,_,_,_,_⟩:=bc4 D;go_wp2
         repeat(go_quiet (fail);try go_wp2)
         go_ret
         exact⟨RT,PB⟩
       ·rw[if_neg bu] at H;have el:(X == 4)=false:=beq_eq_false_iff_ne.mpr bu;have em:(X != 4)=true:=bne_iff_ne.mpr bu;obtain rfl:=Option.some.inj H;have f7:=Z.out;have f8:=Y.out;obtain⟨_,_,_,_,_,_,_,_⟩:=bc4 J;go_wp2
        repeat(go_quiet (fail);try go_wp2)
        go_ret
        exact⟨RT,PB⟩

end Go.Proofs.Ytenpfphghheggaa.MFnExactCapturesOf
