-- Written by a program of this session out of the translation's own print. Not trusted: Lean checks it.
import Derived.Test.YthojdjnchhkafaaShr2
import Derived.Test.YthojdjnchhkafaaMFnExactTraceVisitx0
import Derived.Test.YthojdjnchhkafaaMFnExactTraceVisitx1
import Derived.Test.YthojdjnchhkafaaMFnExactTraceVisitx4
namespace Go.Proofs.Ythojdjnchhkafaa.MFnExactTraceVisit
open Go.RowKit Go.Proofs.YthojdjnchhkafaaW.PrintWords Go.Proofs.YthojdjnchhkafaaW.PrintLast Go.Proofs.YthojdjnchhkafaaW.PrintMore
attribute [local go_sem] max2_int min2_int max_two min_two max_three min_three max_four min_four   -- for this text's walks alone
set_option linter.unusedVariables false
set_option maxHeartbeats 8000000
set_option maxRecDepth 100000
set_option linter.unusedSimpArgs false

attribute [local go_sem high] eqA73
/-! ### spec_AnswerAt: function 83 -/
def spec_AnswerAt.l0:Nat→List (S84)→Int→Int→Int→Int→Int→Int→List Int→Int→Int→Int→Option (Int×List Int×Int×Int×Int)
  | 0,_,_,_,_,_,_,_,_,_,_,_=>none
  | k+1,X,x2,L,D,I,J,Y,Z,aa,ab,ac=>if L < (X.length:Int) then(if 0≤L then(if (((rd_T84 X L).f0.f0) == D && (((rd_T84 X L).f0.f1) == I && (((rd_T84 X L).f0.f2) == J)))=true then(if ((rd_T84 X L).f1)≤x2 then((spec_l5Copy.f ((rd_T84 X L).f2.f0) ((rd_T84 X L).f2.f1) ((rd_T84 X L).f2.f2.f0) ((rd_T84 X L).f2.f2.f1) ((rd_T84 X L).f2.f2.f2)).bind fun U=>(spec_AnswerAt.l0 k X x2 (wrap64 (L+1)) D I J U.1 U.2.1 U.2.2.1 U.2.2.2.1 U.2.2.2.2)) else(spec_AnswerAt.l0 k X x2 (wrap64 (L+1)) D I J Y Z aa ab ac)) else(spec_AnswerAt.l0 k X x2 (wrap64 (L+1)) D I J Y Z aa ab ac)) else(none)) else(some (Y,Z,aa,ab,ac))
def spec_AnswerAt.f (k:Nat)(L:List (S84))(D:Int)(I:Int)(J:Int)(U:Int):Option (Int×List Int×Int×Int×Int):=spec_AnswerAt.l0 k L U 0 D I J 4 ([]:List Int) 0 0 0
theorem spec_AnswerAt.calls (k:Nat)(A0:Option Addr)(c0:Nat)(L:List (S84))(ax:Int)(ay:Int)(az:Int)(a2:Int)(r1:Int)(r2:List Int)(r3:Int)(r4:Int)(r5:Int)(w:World)(el:Kd.C k84 w A0 L.length L)(em:L.length≤c0)(h:spec_AnswerAt.f k L ax ay az a2=some (r1,r2,r3,r4,r5)) :
  Calls Try.prog 83 #[.slice A0 L.length c0,.agg #[.int .i64 ax,.int .i64 ay,.int .i64 az],.int .i64 a2] w fun e w'=>∃ en:Value,e = .returned (.agg #[.int .i64 r1,en,.int .i64 r3,.int .i64 r4,.int .i64 r5])∧Kd.R (Kd.int .i64) 3 w' w.heap.size (fun _=>True) en r2∧Below w.heap.size w w':=by
 have ft:=Try.underlying73;have fu:=Try.underlying82;have bz:=ak el;have fz:=ak em;clear el em;have HB:=ak (Below.refl w.heap.size w);have H:=h;clear h;unfold spec_AnswerAt.f at H;have H':=ak H;clear H;go_enter Try.func83,Try.ntmps83
 iterate 4 (try go_wp2_with (first|((with_reducible refine gate_dst (N:=4) rfl ?_);refine bx_ (N:=4) #[.int .i64 ax,.int .i64 ay,.int .i64 az] 73 ?_;intro dj hg w4 hbox hb;have I:=ak hbox;have ea:=gy hg HB;replace HB:=bs HB hb;clear hb hbox hg)|((with_reducible refine gate_dst (N:=6) rfl ?_);refine bx_ (N:=6) #[.int .i64 0,.slice none 0 0,.int .i64 0,.int .i64 0,.int .i64 0] 82 ?_;intro cl hg w5 hbox hb;have J:=ak hbox;have eb:=gy hg HB;replace HB:=bs HB hb;have ba:=gm hg I;have bb:=gn hg I;replace I:=kf I hb;clear hb hbox hg)|((with_reducible refine gate_dst (N:=7) rfl ?_);refine bx_ (N:=7) #[.int .i64 0,.slice none 0 0,.int .i64 0,.int .i64 0,.int .i64 0] 82 ?_;intro dk hg w6 hbox hb;have X:=ak hbox;have ec:=gy hg HB;replace HB:=bs HB hb;have Z:=gm hg I;have aa:=gn hg I;replace I:=kf I hb;have ab:=gm hg J;have ac:=gn hg J;replace J:=kf J hb;clear hb hbox hg;have ep:=aa.out;have eq:=Z.out;have er:=ac.out;have es:=ab.out;obtain⟨co,cp,cq,cr,ct,cu,cv,cw,cx,cy⟩:=bc5 X));try go_quiet (first|((with_reducible refine gate_dst (N:=4) rfl ?_);refine bx_ (N:=4) #[.int .i64 ax,.int .i64 ay,.int .i64 az] 73 ?_;intro dj hg w4 hbox hb;have I:=ak hbox;have ea:=gy hg HB;replace HB:=bs HB hb;clear hb hbox hg)|((with_reducible refine gate_dst (N:=6) rfl ?_);refine bx_ (N:=6) #[.int .i64 0,.slice none 0 0,.int .i64 0,.int .i64 0,.int .i64 0] 82 ?_;intro cl hg w5 hbox hb;have J:=ak hbox;have eb:=gy hg HB;replace HB:=bs HB hb;have ba:=gm hg I;have bb:=gn hg I;replace I:=kf I hb;clear hb hbox hg)|((with_reducible refine gate_dst (N:=7) rfl ?_);refine bx_ (N:=7) #[.int .i64 0,.slice none 0 0,.int .i64 0,.int .i64 0,.int .i64 0] 82 ?_;intro dk hg w6 hbox hb;have X:=ak hbox;have ec:=gy hg HB;replace HB:=bs HB hb;have Z:=gm hg I;have aa:=gn hg I;replace I:=kf I hb;have ab:=gm hg J;have ac:=gn hg J;replace J:=kf J hb;clear hb hbox hg;have ep:=aa.out;have eq:=Z.out;have er:=ac.out;have es:=ab.out;obtain⟨co,cp,cq,cr,ct,cu,cv,cw,cx,cy⟩:=bc5 X)))
 go_loopg [8] k (fun kq v8 w'=>∃(D:Int)(ae:Int)(af:List Int)(ag:Int)(ah:Int)(ai:Int)(be:Value),v8 = .int .i64 D∧Aside0 (spec_AnswerAt.l0 kq L a2 D ax ay az ae af ag ah ai=some (r1,r2,r3,r4,r5))∧Aside0 (kq≤k)∧Aside0 (Kd.R (Kd.int .i64) 3 w' w.heap.size (fun _=>True) be af)∧Aside0 (w'.heap[dj]?=some (.cells #[.int .i64 ax,.int .i64 ay,.int .i64 az] 73 (0,0)))∧Aside0 (w'.heap[cl]?=some (.cells #[.int .i64 0,(.slice none 0 0),.int .i64 0,.int .i64 0,.int .i64 0] 82 (0,0)))∧Aside0 (w'.heap[dk]?=some (.cells #[.int .i64 ae,be,.int .i64 ag,.int .i64 ah,.int .i64 ai] 82 (0,0)))∧Aside0 (Below w.heap.size w w'))
 case atStart=>exact⟨(0),(4),(([]:List Int)),(0),(0),(0),(.slice none 0 0),FR,H',⟨Nat.le_refl _⟩,⟨by first|exact Kd.R_nil _ _ _ _ _ | exact Kd.N_nil _ _ _ _ _ | exact Kd.V_nil _ _ _ _ _ | exact Kd.Q_nil _ _ _ _ _ | exact Kd.S_nil _ _ _ _ _⟩,⟨PF I⟩,⟨PF J⟩,⟨PX X⟩,⟨PB⟩⟩
 case round =>
  clear H';(try clear p2);(try clear c7);(try clear c8);(try clear co);(try clear cp);(try clear cq);(try clear cr);(try clear ct);(try clear cu);(try clear cv);(try clear cw);(try clear cx);(try clear cy);obtain⟨D,ae,af,ag,ah,ai,be,rfl,HA,b0,U,I,J,X,HB⟩:=hrel
  cases gk with
  | zero=>exact absurd HA.out (by simp[spec_AnswerAt.l0])
  | succ k1 =>
   have H:=HA.out;clear HA;simp only[spec_AnswerAt.l0] at H
   by_cases b4:D < (L.length:Int)
   ·rw[if_pos b4] at H;have ed:decide (D < (L.length:Int))=true:=decide_eq_true b4;clear b4
    by_cases dl:0≤D
    ·rw[if_pos dl] at H;have e6:decide (0≤D)=true:=decide_eq_true dl;clear dl
     by_cases bp:(((rd_T84 L D).f0.f0) == ax && (((rd_T84 L D).f0.f1) == ay && (((rd_T84 L D).f0.f2) == az)))=true
     ·rw[if_pos bp] at H;have ee:(((rd_T84 L D).f0.f0) == ax && (((rd_T84 L D).f0.f1) == ay && (((rd_T84 L D).f0.f2) == az)))=true:=bp;(try(have ef:decide (((rd_T84 L D).f0.f0)=ax && (((rd_T84 L D).f0.f1) == ay && (((rd_T84 L D).f0.f2) == az)))=true:=by simpa using bp));(try(have eg:(((rd_T84 L D).f0.f0) == ax && (((rd_T84 L D).f0.f1) == ay && (((rd_T84 L D).f0.f2) == az)))=true:=by simpa using bp));clear bp
      by_cases b5:((rd_T84 L D).f1)≤a2
      ·rw[if_pos b5] at H;have eh:decide (((rd_T84 L D).f1)≤a2)=true:=decide_eq_true b5;clear b5;replace H:=Option.bind_eq_some_iff.mp H;obtain⟨⟨db,cm,dc,de,df⟩,d5,H⟩:=H;(try dsimp only at H);have eo:=ak d5;clear d5;have H':=ak H;clear H;have bc:0≤(D:Int):=od;have bd:D < (L.length:Int):=od;obtain⟨bu,cz,da,bx,aj,al,am,ao,ap,Y,aq,ar,au,av,aw⟩:=at_T84 bz.out D bc bd;cases bx;replace aj:=hx_ HB aj;replace al:=hx_ HB al;replace am:=hx_ HB am;replace ao:=hx_ HB ao;replace ap:=hx_ HB ap;replace Y:=hx_ HB Y;replace aq:=hx_ HB aq;replace ar:=hx_ HB ar;replace au:=hx_ HB au;have b6:=ak aw;have b7:=ak av;clear aw av;replace bc:=eq_true bc;replace bd:=eq_true bd;have e7:=ba.out;have e8:=bb.out;have e9:=Z.out;have fa:=aa.out;obtain⟨_,_,_,_,_,_⟩:=bc3 I;have br:0≤(D:Int):=od;have bt:D < (L.length:Int):=od;obtain⟨cn,d6,d7,dg,bf,bg,bh,bi,bj,a9,bk,bl,bm,bn,bo⟩:=at_T84 bz.out D br bt;obtain rfl:bu=cn:=(by injection dg);replace bf:=hx_ HB bf;replace bg:=hx_ HB bg;replace bh:=hx_ HB bh;replace bi:=hx_ HB bi;replace bj:=hx_ HB bj;replace a9:=hx_ HB a9;replace bk:=hx_ HB bk;replace bl:=hx_ HB bl;replace bm:=hx_ HB bm;have dn:=ak bo;have dp:=ak bn;clear bo bn;replace br:=eq_true br;replace bt:=eq_true bt;have ea_:=Option.some.inj (Y.symm.trans a9)
       injection ea_ with ea_ en_ ec_
       subst ea_;subst ec_;clear en_;have dh:0≤(D:Int):=od;have di:D < (L.length:Int):=od;obtain⟨ei,ez,e0,et,b8,b9,ca,cb,cd,bv,ce,cf,cg,ch,ci⟩:=at_T84 bz.out D dh di;obtain rfl:bu=ei:=(by injection et);replace b8:=hx_ HB b8;replace b9:=hx_ HB b9;replace ca:=hx_ HB ca;replace cb:=hx_ HB cb;replace cd:=hx_ HB cd;replace bv:=hx_ HB bv;replace ce:=hx_ HB ce;replace cf:=hx_ HB cf;replace cg:=hx_ HB cg;have cj:=ak ci;have ck:=ak ch;clear ci ch;replace dh:=eq_true dh;replace di:=eq_true di;have ea_:=Option.some.inj (Y.symm.trans bv)
       injection ea_ with ea_ en_ ec_
       subst ea_;subst ec_;clear en_
       iterate 4 (try go_wp2_with (first|(go_at_call 97;(with_reducible refine(spec_l5Copy.calls ((rd_T84 L D).f2.f0) _ _ ((rd_T84 L D).f2.f1) ((rd_T84 L D).f2.f2.f0) ((rd_T84 L D).f2.f2.f1) ((rd_T84 L D).f2.f2.f2) db cm dc de df _ ?side1 ?side2 eo.out).mono ?_);(case side1=>exact CR (Kd.C_below cj.out HB.out));(case side2=>exact ck.out);rintro e e5 ⟨eu,rfl,ho0,hb⟩;have bw:=Rn1 ho0 HB U;replace U:=ak (Kd.R_elder' (PR U) (Kd.R_base ho0) hb);replace I:=kf I hb;replace J:=kf J hb;replace X:=kf X hb;replace HB:=bs HB hb;clear hb ho0;have ej:=ac.out;have ek:=ab.out;obtain⟨dq,dr,dt,du,dv,dw,dx,dy,dz,d0⟩:=bc5 X;obtain⟨d8,d9,rfl⟩:=Kd.R_slice bw.out));try go_quiet (first|(go_at_call 97;(with_reducible refine(spec_l5Copy.calls ((rd_T84 L D).f2.f0) _ _ ((rd_T84 L D).f2.f1) ((rd_T84 L D).f2.f2.f0) ((rd_T84 L D).f2.f2.f1) ((rd_T84 L D).f2.f2.f2) db cm dc de df _ ?side1 ?side2 eo.out).mono ?_);(case side1=>exact CR (Kd.C_below cj.out HB.out));(case side2=>exact ck.out);rintro e e5 ⟨eu,rfl,ho0,hb⟩;have bw:=Rn1 ho0 HB U;replace U:=ak (Kd.R_elder' (PR U) (Kd.R_base ho0) hb);replace I:=kf I hb;replace J:=kf J hb;replace X:=kf X hb;replace HB:=bs HB hb;clear hb ho0;have ej:=ac.out;have ek:=ab.out;obtain⟨dq,dr,dt,du,dv,dw,dx,dy,dz,d0⟩:=bc5 X;obtain⟨d8,d9,rfl⟩:=Kd.R_slice bw.out)))
       go_roundg k1
       case measure=>have:=b0.out;omega
       case rel=>exact⟨(wrap64 (D+1)),(db),(cm),(dc),(de),(df),(.slice d8 cm.length d9),FR,H',⟨by have:=b0.out;omega⟩,⟨RX (Rt bw.out X) (fun _ hk=>trivial)⟩,⟨PF I⟩,⟨PF J⟩,⟨PX X⟩,⟨PB⟩⟩
      ·rw[if_neg b5] at H;have eh:decide (((rd_T84 L D).f1)≤a2)=false:=decide_eq_false b5;clear b5;have H':=ak H;clear H;have bc:0≤(D:Int):=od;have bd:D < (L.length:Int):=od;obtain⟨bu,cz,da,bx,aj,al,am,ao,ap,Y,aq,ar,au,av,aw⟩:=at_T84 bz.out D bc bd;cases bx;replace aj:=hx_ HB aj;replace al:=hx_ HB al;replace am:=hx_ HB am;replace ao:=hx_ HB ao;replace ap:=hx_ HB ap;replace Y:=hx_ HB Y;replace aq:=hx_ HB aq;replace ar:=hx_ HB ar;replace au:=hx_ HB au;have b6:=ak aw;have b7:=ak av;clear aw av;replace bc:=eq_true bc;replace bd:=eq_true bd;have fb:=ba.out;have fc:=bb.out;have fd:=Z.out;have fe:=aa.out;obtain⟨_,_,_,_,_,_⟩:=bc3 I;have br:0≤(D:Int):=od;have bt:D < (L.length:Int):=od;obtain⟨cn,d6,d7,dg,bf,bg,bh,bi,bj,a9,bk,bl,bm,bn,bo⟩:=at_T84 bz.out D br bt;obtain rfl:bu=cn:=(by injection dg);replace bf:=hx_ HB bf;replace bg:=hx_ HB bg;replace bh:=hx_ HB bh;replace bi:=hx_ HB bi;replace bj:=hx_ HB bj;replace a9:=hx_ HB a9;replace bk:=hx_ HB bk;replace bl:=hx_ HB bl;replace bm:=hx_ HB bm;have dn:=ak bo;have dp:=ak bn;clear bo bn;replace br:=eq_true br;replace bt:=eq_true bt;have ea_:=Option.some.inj (Y.symm.trans a9)
       injection ea_ with ea_ en_ ec_
       subst ea_;subst ec_;clear en_;go_wp2
       repeat(go_quiet (fail);try go_wp2)
       go_roundg k1
       case measure=>have:=b0.out;omega
       case rel=>exact⟨(wrap64 (D+1)),(ae),(af),(ag),(ah),(ai),(be),FR,H',⟨by have:=b0.out;omega⟩,⟨PR U⟩,⟨PK I⟩,⟨PK J⟩,⟨PK X⟩,⟨PB⟩⟩
     ·rw[if_neg bp] at H
      have ee:(((rd_T84 L D).f0.f0) == ax && (((rd_T84 L D).f0.f1) == ay && (((rd_T84 L D).f0.f2) == az)))=false:=by simpa using bp
      (try(have ef:decide (((rd_T84 L D).f0.f0)=ax && (((rd_T84 L D).f0.f1) == ay && (((rd_T84 L D).f0.f2) == az)))=false:=by simpa using bp));(try(have eg:(((rd_T84 L D).f0.f0) == ax && (((rd_T84 L D).f0.f1) == ay && (((rd_T84 L D).f0.f2) == az)))=false:=by simpa using bp));(try(have ff:¬(((rd_T84 L D).f0.f0)=ax && (((rd_T84 L D).f0.f1) == ay && (((rd_T84 L D).f0.f2) == az))):=by simpa using bp));clear bp;have H':=ak H;clear H;have bc:0≤(D:Int):=od;have bd:D < (L.length:Int):=od;obtain⟨bu,cz,da,bx,aj,al,am,ao,ap,Y,aq,ar,au,av,aw⟩:=at_T84 bz.out D bc bd;cases bx;replace aj:=hx_ HB aj;replace al:=hx_ HB al;replace am:=hx_ HB am;replace ao:=hx_ HB ao;replace ap:=hx_ HB ap;replace Y:=hx_ HB Y;replace aq:=hx_ HB aq;replace ar:=hx_ HB ar;replace au:=hx_ HB au;have b6:=ak aw;have b7:=ak av;clear aw av;replace bc:=eq_true bc;replace bd:=eq_true bd;have fg:=ba.out;have fh:=bb.out;have fi:=Z.out;have fj:=aa.out;obtain⟨_,_,_,_,_,_⟩:=bc3 I;go_wp2
      repeat(go_quiet (fail);try go_wp2)
      go_roundg k1
      case measure=>have:=b0.out;omega
      case rel=>exact⟨(wrap64 (D+1)),(ae),(af),(ag),(ah),(ai),(be),FR,H',⟨by have:=b0.out;omega⟩,⟨PR U⟩,⟨PK I⟩,⟨PK J⟩,⟨PK X⟩,⟨PB⟩⟩
    ·rw[if_neg dl] at H;exact absurd H (by simp)
   ·rw[if_neg b4] at H;have ed:decide (D < (L.length:Int))=false:=decide_eq_false b4;clear b4;simp only[Option.some.injEq,Prod.mk.injEq] at H;obtain⟨rfl,rfl,rfl,rfl,rfl⟩:=H;have fk:=aa.out;have fl:=Z.out;have fm:=ac.out;have fo:=ab.out;obtain⟨_,_,_,_,_,_,_,_,_,_⟩:=bc5 X;have fp:=bb.out;have fq:=ba.out;obtain⟨_,_,_,_,_,_,_,_,_,_⟩:=bc5 J;obtain⟨ev,ew,rfl⟩:=Kd.R_slice U.out;go_wp2
    repeat(go_quiet (fail);try go_wp2)
    refine bodyPost_ret (results_cell_row rfl _ _ cl 82 #[.int .i64 ae,.slice ev af.length ew,.int .i64 ag,.int .i64 ah,.int .i64 ai] (0,0) _ rfl (PX J) Try.underlying82 rfl KR) rfl ?_;exact⟨_,RT,RX (Rt U.out J) (fun _ hk=>trivial),PB⟩

attribute [local go_sem high] eqA73
/-! ### spec_l9Has: function 84 -/
def spec_l9Has.l0:Nat→List (S73)→Int→Int→Int→Int→Option (Bool)
  | 0,_,_,_,_,_=>none
  | k+1,U,L,D,I,J=>if L < (U.length:Int) then(if 0≤L then(if (((rd_T73 U L).f0) == D && (((rd_T73 U L).f1) == I && (((rd_T73 U L).f2) == J)))=true then(some true) else(spec_l9Has.l0 k U (wrap64 (L+1)) D I J)) else(none)) else(some false)
def spec_l9Has.f (k:Nat)(L:List (S73))(D:Int)(I:Int)(J:Int):Option (Bool):=spec_l9Has.l0 k L 0 D I J
theorem spec_l9Has.calls (k:Nat)(A0:Option Addr)(c0:Nat)(I:List (S73))(J:Int)(L:Int)(U:Int)(r:Bool)(w:World)(am:Kd.C k73 w A0 I.length I)(ao:I.length≤c0)(h:spec_l9Has.f k I J L U=some r) :
  Calls Try.prog 84 #[.slice A0 I.length c0,.agg #[.int .i64 J,.int .i64 L,.int .i64 U]] w fun e w'=>e = .returned (.bool r)∧Below w.heap.size w w':=by
 have az:=Try.underlying73;have ap:=ak am;have bd:=ak ao;clear am ao;have HB:=ak (Below.refl w.heap.size w);have H:=h;clear h;unfold spec_l9Has.f at H;have H':=ak H;clear H;go_enter Try.func84,Try.ntmps84
 iterate 4 (try go_wp2_with (first|((with_reducible refine gate_dst (N:=3) rfl ?_);refine bx_ (N:=3) #[.int .i64 J,.int .i64 L,.int .i64 U] 73 ?_;intro ag hg w3 hbox hb;have aa:=ak hbox;have ai:=gy hg HB;replace HB:=bs HB hb;clear hb hbox hg));try go_quiet (first|((with_reducible refine gate_dst (N:=3) rfl ?_);refine bx_ (N:=3) #[.int .i64 J,.int .i64 L,.int .i64 U] 73 ?_;intro ag hg w3 hbox hb;have aa:=ak hbox;have ai:=gy hg HB;replace HB:=bs HB hb;clear hb hbox hg)))
 go_loopg [5] k (fun kq v5 w'=>∃(D:Int),v5 = .int .i64 D∧Aside0 (spec_l9Has.l0 kq I D J L U=some r)∧Aside0 (kq≤k)∧Aside0 (w'.heap[ag]?=some (.cells #[.int .i64 J,.int .i64 L,.int .i64 U] 73 (0,0)))∧Aside0 (Below w.heap.size w w'))
 case atStart=>exact⟨(0),FR,H',⟨Nat.le_refl _⟩,⟨PK aa⟩,⟨PB⟩⟩
 case round =>
  clear H'
  try clear p2
  obtain⟨D,rfl,HA,aq,aa,HB⟩:=hrel
  cases gk with
  | zero=>exact absurd HA.out (by simp[spec_l9Has.l0])
  | succ k1 =>
   have H:=HA.out;clear HA;simp only[spec_l9Has.l0] at H
   by_cases c4:D < (I.length:Int)
   ·rw[if_pos c4] at H;have ar:decide (D < (I.length:Int))=true:=decide_eq_true c4;clear c4
    by_cases c5:0≤D
    ·rw[if_pos c5] at H;have bb:decide (0≤D)=true:=decide_eq_true c5;clear c5
     by_cases c6:(((rd_T73 I D).f0) == J && (((rd_T73 I D).f1) == L && (((rd_T73 I D).f2) == U)))=true
     ·rw[if_pos c6] at H;have au:(((rd_T73 I D).f0) == J && (((rd_T73 I D).f1) == L && (((rd_T73 I D).f2) == U)))=true:=c6;(try(have av:decide (((rd_T73 I D).f0)=J && (((rd_T73 I D).f1) == L && (((rd_T73 I D).f2) == U)))=true:=by simpa using c6));(try(have aw:(((rd_T73 I D).f0) == J && (((rd_T73 I D).f1) == L && (((rd_T73 I D).f2) == U)))=true:=by simpa using c6));clear c6;obtain rfl:=Option.some.inj H;have ab:0≤(D:Int):=od;have ac:D < (I.length:Int):=od;obtain⟨al,af,X,Y,Z⟩:=at_T73 ap.out D ab ac;cases af;replace X:=hx_ HB X;replace Y:=hx_ HB Y;replace Z:=hx_ HB Z;replace ab:=eq_true ab;replace ac:=eq_true ac;obtain⟨_,_,_,_,_,_⟩:=bc3 aa;go_wp2
      repeat(go_quiet (fail);try go_wp2)
      go_ret
      exact⟨RT,PB⟩
     ·rw[if_neg c6] at H
      have au:(((rd_T73 I D).f0) == J && (((rd_T73 I D).f1) == L && (((rd_T73 I D).f2) == U)))=false:=by simpa using c6
      (try(have av:decide (((rd_T73 I D).f0)=J && (((rd_T73 I D).f1) == L && (((rd_T73 I D).f2) == U)))=false:=by simpa using c6));(try(have aw:(((rd_T73 I D).f0) == J && (((rd_T73 I D).f1) == L && (((rd_T73 I D).f2) == U)))=false:=by simpa using c6));(try(have bc:¬(((rd_T73 I D).f0)=J && (((rd_T73 I D).f1) == L && (((rd_T73 I D).f2) == U))):=by simpa using c6));clear c6;have H':=ak H;clear H;have ab:0≤(D:Int):=od;have ac:D < (I.length:Int):=od;obtain⟨al,af,X,Y,Z⟩:=at_T73 ap.out D ab ac;cases af;replace X:=hx_ HB X;replace Y:=hx_ HB Y;replace Z:=hx_ HB Z;replace ab:=eq_true ab;replace ac:=eq_true ac;obtain⟨_,_,_,_,_,_⟩:=bc3 aa;go_wp2
      repeat(go_quiet (fail);try go_wp2)
      go_roundg k1
      case measure=>have:=aq.out;omega
      case rel=>exact⟨(wrap64 (D+1)),FR,H',⟨by have:=aq.out;omega⟩,⟨PK aa⟩,⟨PB⟩⟩
    ·rw[if_neg c5] at H;exact absurd H (by simp)
   ·rw[if_neg c4] at H;have ar:decide (D < (I.length:Int))=false:=decide_eq_false c4;clear c4;obtain rfl:=Option.some.inj H;go_wp2
    repeat(go_quiet (fail);try go_wp2)
    go_ret
    exact⟨RT,PB⟩

end Go.Proofs.Ythojdjnchhkafaa.MFnExactTraceVisit
