import Derived.Test.YteemhimikamihaaGreatShr2
import Derived.Test.YteemhimikamihaaGreatMFnReplaysx0
import Derived.Test.YteemhimikamihaaGreatMFnReplaysx12
import Derived.Test.YteemhimikamihaaGreatMFnReplaysx1
import Derived.Test.YteemhimikamihaaGreatMFnReplaysx11
namespace Go.Proofs.YteemhimikamihaaGreat.MFnReplays
open Go.RowKit Go.Proofs.YteemhimikamihaaGreatW.PrintWords Go.Proofs.YteemhimikamihaaGreatW.PrintLast Go.Proofs.YteemhimikamihaaGreatW.PrintMore
attribute [local go_sem] max2_int min2_int max_two min_two max_three min_three max_four min_four
set_option linter.unusedVariables false
set_option maxHeartbeats 8000000
set_option maxRecDepth 100000
set_option linter.unusedSimpArgs false

def spec_WantOf.j0:Nat→List (S57)→Bool→Int→List Int→List Int→List Int→Option (Int×Int×Int×Int)
  | 0,_,_,_,_,_,_=>none
  | k+1,U,Z,D,J,X,Y=>if Z=true then(some (0,0,0,0)) else(if 0≤D then(if D < (U.length:Int) then(if ((rd_T57 U D).f0)=1 then(if 0≤((rd_T57 U D).f1) then(if ((rd_T57 U D).f1) < (J.length:Int) then(some ((rd_T57 U D).f0,(rd_T57 U D).f2,(rd_T57 U D).f3,Int.tmod (rd J ((rd_T57 U D).f1)) 100)) else(none)) else(none)) else(some ((rd_T57 U D).f0,0,0,0))) else(none)) else(none))
def spec_WantOf.f (k:Nat)(Y:List (S57))(D:Int)(J:List Int)(U:List Int)(X:List Int):Option (Int×Int×Int×Int):=(spec_l11Can.f k Y D J U X).bind fun Z=>(if Z=true then(if 0≤D then(if D < (Y.length:Int) then((spec_Asks.f ((rd_T57 Y D).f0)).bind fun aa=>(spec_WantOf.j0 k Y (!aa) D J U X)) else(none)) else(none)) else(spec_WantOf.j0 k Y true D J U X))
def spec_WantOf.T6:Bool×List (List Nat×List Nat):=(true,[([],[]),([0],[0]),([],[]),([2],[2]),([],[]),([4],[4]),([],[]),([6],[6]),([5,7],[5,7]),([8],[8]),([9],[9]),([1,3,10],[1,3,10]),([0,1,2,3,4,5,6,7,8,9,10,11],[]),([12,11,0,1,2,3,4,5,6,7,8,9,10,11],[11,12])])
def spec_WantOf.B6:List Nat:=[0,1,0,4,0,16,0,64,240,496,1008,2047,4095,8191]
theorem spec_WantOf.tab6:rtab .any (opsOf Tryz.f74 6)=spec_WantOf.T6:=by kernel_rfl
theorem spec_WantOf.bits6:waitsOk spec_WantOf.T6.2 spec_WantOf.B6=true:=by kernel_rfl
theorem spec_WantOf.calls (k:Nat)(A0:Option Addr)(c0:Nat)(l0:List (S57))(D:Int)(bb:Option Addr)(aw:Nat)(ac:List Int)(ax:Option Addr)(ay:Nat)(ag:List Int)(az:Option Addr)(ba:Nat)(ah:List Int)(r1:Int)(r2:Int)(r3:Int)(r4:Int)(w:World)(ef:Kd.C k57 w A0 l0.length l0)(eg:l0.length≤c0)(ca:Kd.C (Kd.int .i64) w bb ac.length ac)(cb:ac.length≤aw)(cd:Kd.C (Kd.int .i64) w ax ag.length ag)(ce:ag.length≤ay)(cf:Kd.C (Kd.int .i64) w az ah.length ah)(cg:ah.length≤ba)(h:spec_WantOf.f k l0 D ac ag ah=some (r1,r2,r3,r4)) :
  Calls Tryz.prog 74 #[.slice A0 l0.length c0,.agg #[.int .i64 D,.slice bb ac.length aw,.slice ax ag.length ay,.slice az ah.length ba]] w fun e w'=>e = .returned (.agg #[.int .i64 r1,.int .i64 r2,.int .i64 r3,.int .i64 r4])∧Below w.heap.size w w':=by
 have f7:=Tryz.underlying35;have f8:=Tryz.underlying89;have f9:=Tryz.underlying57;have ga:=Tryz.underlying48;have b5:=ak ef;have eh:=ak eg;clear ef eg;have bz:=ak ca;have ch:=ak cb;clear ca cb;have ci:=ak cd;have cj:=ak ce;clear cd ce;have ck:=ak cf;have cl:=ak cg;clear cf cg;have HB:=ak (Below.refl w.heap.size w);have H:=h;clear h;unfold spec_WantOf.f at H;have dv:=ak H;clear H;go_enter Tryz.func74,Tryz.ntmps74
 go_upto_region 1 with (first|((with_reducible refine gate_dst (N:=3) rfl ?_);refine bx_ (N:=3) #[.int .i64 D,.slice bb ac.length aw,.slice ax ag.length ay,.slice az ah.length ba] 35 ?_;intro ai hg w4 hbox hb;have U:=ak hbox;have es:=gy hg HB;replace HB:=bs HB hb;clear hb hbox hg)|((with_reducible refine gate_dst (N:=4) rfl ?_);refine bx_ (N:=4) #[.int .i64 0,.int .i64 0,.int .i64 0,.int .i64 0] 89 ?_;intro am hg w5 hbox hb;have X:=ak hbox;have et:=gy hg HB;replace HB:=bs HB hb;have au:=gm hg U;have av:=gn hg U;replace U:=kf U hb;clear hb hbox hg))
 (try simp only[Act.put,List.setIfInBounds_toArray,List.set_cons_zero,List.set_cons_succ])
 go_cut [20] (fun eo wc=>∃(kq:Nat)(bw:Bool),eo = .bool bw∧Aside0 (spec_WantOf.j0 kq l0 bw D ac ag ah=some (r1,r2,r3,r4))∧Aside0 (kq≤k)∧Aside0 (wc.heap[ai]?=some (.cells #[.int .i64 D,(.slice bb ac.length aw),(.slice ax ag.length ay),(.slice az ah.length ba)] 35 (0,0)))∧Aside0 (wc.heap[am]?=some (.cells #[.int .i64 0,.int .i64 0,.int .i64 0,.int .i64 0] 89 (0,0)))∧Aside0 (Below w.heap.size w wc))
 case first =>
  have H:=dv.out;clear dv;obtain⟨ek,A6,H⟩:=obq H;(try dsimp only at H)
  by_cases c7:ek=true
  ·subst c7;rw[if_pos rfl] at H
   by_cases c8:0≤D
   ·rw[if_pos c8] at H;have b6:=decide_eq_true c8;clear c8;(first|rw[b6]|(simp only[i64_w,i32_w];rw[b6])|skip)
    by_cases c9:D < (l0.length:Int)
    ·rw[if_pos c9] at H;have el:=decide_eq_true c9;clear c9;obtain⟨dz,eq,H⟩:=obq H;(try dsimp only at H);have H':=ak H;clear H;have eu:=au.out;have ev:=av.out;obtain⟨ct,cu,cv,cw,cx,cy,cz,da⟩:=bc4 U;go_wp2_with (first|(go_at_call 90;(with_reducible refine(spec_l11Can.calls k _ _ l0 D _ _ ac _ _ ag _ _ ah true _ ?side1 eh.out ?side3 ch.out ?side5 cj.out ?side7 cl.out A6.out).mono ?_);(case side1=>exact Cq b5);(case side3=>exact Cq bz);(case side5=>exact Cq ci);(case side7=>exact Cq ck);rintro e gb ⟨rfl,hb⟩;replace U:=kf U hb;replace X:=kf X hb;replace HB:=bs HB hb;clear hb;obtain⟨db,dc,de,df,dg,dh,di,dj⟩:=bc4 U;have b0:0≤(D:Int):=od;have b4:D < (l0.length:Int):=od;obtain⟨ew,em,bp,br,bu,bv⟩:=at_T57 b5.out D b0 b4;cases em;replace bp:=hx_ HB bp;replace br:=hx_ HB br;replace bu:=hx_ HB bu;replace bv:=hx_ HB bv;replace b0:=eq_true b0;replace b4:=eq_true b4)|(go_at_call 91;(with_reducible refine(spec_Asks.calls ((rd_T57 l0 D).f0) dz _ eq.out).mono ?_);rintro e w' ⟨rfl,⟨nd,rfl⟩⟩))
     go_meet
     case rel=>exact⟨_,(!dz),FR,H',⟨by first|omega | exact Nat.le_refl _⟩,⟨PK U⟩,⟨PK X⟩,⟨PB⟩⟩
    ·rw[if_neg c9] at H;exact absurd H (by simp)
   ·rw[if_neg c8] at H;exact absurd H (by simp)
  ·replace c7:=Bool.eq_false_iff.mpr c7;subst c7;rw[if_neg nft] at H;have H':=ak H;clear H;have ex:=au.out;have ey:=av.out;obtain⟨dk,dl,dn,dp,dq,dr,dt,du⟩:=bc4 U;go_wp2_with (first|(go_at_call 90;(with_reducible refine(spec_l11Can.calls k _ _ l0 D _ _ ac _ _ ag _ _ ah false _ ?side1 eh.out ?side3 ch.out ?side5 cj.out ?side7 cl.out A6.out).mono ?_);(case side1=>exact Cq b5);(case side3=>exact Cq bz);(case side5=>exact Cq ci);(case side7=>exact Cq ck);rintro e gc ⟨rfl,hb⟩;replace U:=kf U hb;replace X:=kf X hb;replace HB:=bs HB hb;clear hb))
   go_meet
   case rel=>exact⟨_,(true),FR,H',⟨by first|omega | exact Nat.le_refl _⟩,⟨PK U⟩,⟨PK X⟩,⟨PB⟩⟩
 case rest =>
  clear dv;(try clear c1);(try clear p2);(try clear c7);(try clear c8);(try clear b6);(try clear c9);(try clear el);(try clear p9);(try clear q9);(try clear hx9);(try clear gf);(try clear gg);(try clear ct);(try clear cu);(try clear cv);(try clear cw);(try clear db);(try clear dc);(try clear de);(try clear df);(try clear dk);(try clear dl);(try clear dn);(try clear dp);(try clear cx);(try clear cy);(try clear cz);(try clear da);(try clear dg);(try clear dh);(try clear di);(try clear dj);(try clear dq);(try clear dr);(try clear dt);(try clear du);(try clear bp);(try clear br);(try clear bu);(try clear bv);(try clear b0);(try clear b4);obtain⟨kq,bw,rfl,HA,gh,U,X,HB⟩:=hcut
  cases kq with
  | zero=>exact absurd HA.out (by simp[spec_WantOf.j0])
  | succ kj2 =>
   have H:=HA.out;clear HA;simp only[spec_WantOf.j0] at H
   by_cases cm:bw=true
   ·subst cm;rw[if_pos rfl] at H;simp only[Option.some.injEq,Prod.mk.injEq] at H;obtain⟨rfl,rfl,rfl,rfl⟩:=H;have ez:=av.out;have e7:=au.out;obtain⟨_,_,_,_,_,_,_,_⟩:=bc4 X;go_wp2;refine bodyPost_ret (results_cell_row rfl _ _ am 89 #[.int .i64 0,.int .i64 0,.int .i64 0,.int .i64 0] (0,0) _ rfl (PX X) Tryz.underlying89 rfl KR) rfl ?_;exact⟨RT,PB⟩
   ·replace cm:=Bool.eq_false_iff.mpr cm;subst cm;rw[if_neg nft] at H
    by_cases cn:0≤D
    ·rw[if_pos cn] at H;have e8:=decide_eq_true cn;clear cn
     by_cases co:D < (l0.length:Int)
     ·rw[if_pos co] at H;have e9:=decide_eq_true co;clear co
      by_cases bx:((rd_T57 l0 D).f0)=1
      ·rw[if_pos bx] at H;obtain⟨eb,ec⟩:=eqq1 bx;clear bx
       by_cases cp:0≤((rd_T57 l0 D).f1)
       ·rw[if_pos cp] at H;have fa:=decide_eq_true cp;clear cp
        by_cases cq:((rd_T57 l0 D).f1) < (ac.length:Int)
        ·rw[if_pos cq] at H;have fb:=decide_eq_true cq;clear cq;simp only[Option.some.injEq,Prod.mk.injEq] at H;obtain⟨rfl,rfl,rfl,rfl⟩:=H;have fc:=au.out;have fd:=av.out;obtain⟨_,_,_,_,_,_,_,_⟩:=bc4 U;have bm:0≤(D:Int):=od;have bo:D < (l0.length:Int):=od;obtain⟨ed,b7,bc,bd,bf,bg⟩:=at_T57 b5.out D bm bo;cases b7;replace bc:=hx_ HB bc;replace bd:=hx_ HB bd;replace bf:=hx_ HB bf;replace bg:=hx_ HB bg;replace bm:=eq_true bm;replace bo:=eq_true bo
         try go_wp2_with (first|((with_reducible refine gate_dst (N:=5) rfl ?_);refine bx_ (N:=5) #[.int .i64 0,.int .i64 0,.int .i64 0,.int .i64 0] 57 ?_;intro aj hg gi hbox hb;have ab:=ak hbox;have ee:=gy hg HB;replace HB:=bs HB hb;have bh:=gm hg U;have bi:=gn hg U;replace U:=kf U hb;have bj:=gm hg X;have bk:=gn hg X;replace X:=kf X hb;clear hb hbox hg;have fe:=bi.out;have ff:=bh.out;have fg:=bk.out;have fh:=bj.out;obtain⟨_,_,_,_,_,_,_,_⟩:=bc4 ab)|((with_reducible refine gate_dst (N:=6) rfl ?_);refine bx_ (N:=6) #[.int .i64 0,.int .i64 0,.int .i64 0,.int .i64 0] 89 ?_;intro J hg er hbox hb;have ae:=ak hbox;have al:=gy hg HB;replace HB:=bs HB hb;have Y:=ak ((by rw[hg];exact Nat.ne_of_lt (blk_lt (g:=ai) (o:=.cells #[.int .i64 D,.slice bb ac.length aw,.slice ax ag.length ay,.slice az ah.length ba] 35 (0,0)) (PF U)):ai≠J));have ao:=ak ((by rw[hg];exact Nat.ne_of_gt (blk_lt (g:=ai) (o:=.cells #[.int .i64 D,.slice bb ac.length aw,.slice ax ag.length ay,.slice az ah.length ba] 35 (0,0)) (PF U)):J≠ai));replace U:=kf U hb;have ap:=ak ((by rw[hg];exact Nat.ne_of_lt (blk_lt (g:=am) (o:=.cells #[.int .i64 0,.int .i64 0,.int .i64 0,.int .i64 0] 89 (0,0)) (PF X)):am≠J));have aq:=ak ((by rw[hg];exact Nat.ne_of_gt (blk_lt (g:=am) (o:=.cells #[.int .i64 0,.int .i64 0,.int .i64 0,.int .i64 0] 89 (0,0)) (PF X)):J≠am));replace X:=kf X hb;have Z:=ak ((by rw[hg];exact Nat.ne_of_lt (blk_lt (g:=aj) (o:=.cells #[.int .i64 ((rd_T57 l0 D).f0),.int .i64 ((rd_T57 l0 D).f1),.int .i64 ((rd_T57 l0 D).f2),.int .i64 ((rd_T57 l0 D).f3)] 57 (0,0)) (PX ab)):aj≠J));have ar:=ak ((by rw[hg];exact Nat.ne_of_gt (blk_lt (g:=aj) (o:=.cells #[.int .i64 ((rd_T57 l0 D).f0),.int .i64 ((rd_T57 l0 D).f1),.int .i64 ((rd_T57 l0 D).f2),.int .i64 ((rd_T57 l0 D).f3)] 57 (0,0)) (PX ab)):J≠aj));replace ab:=kp (cs':=#[.int .i64 ((rd_T57 l0 D).f0),.int .i64 ((rd_T57 l0 D).f1),.int .i64 ((rd_T57 l0 D).f2),.int .i64 ((rd_T57 l0 D).f3)]) ab hb;clear hb hbox hg;have fi:=ao.out;have fj:=Y.out;have fk:=aq.out;have fl:=ap.out;have fm:=ar.out;have fo:=Z.out;obtain⟨_,_,_,_,_,_,_,_⟩:=bc4 ae;obtain⟨_,_,_,_,_,_,_,_⟩:=bc4 ab))
         generalize hW_:((((er.setCell ⟨J,0,none⟩ (.int .i64 ((rd_T57 l0 D).f0))).setCell ⟨J,1,none⟩ (.int .i64 0)).setCell ⟨J,2,none⟩ (.int .i64 0)).setCell ⟨J,3,none⟩ (.int .i64 0))=ej;replace U:=BE hW_ U;replace X:=BE hW_ X;replace ab:=BE hW_ ab;replace ae:Aside0 (ej.heap[J]?=some (.cells #[.int .i64 ((rd_T57 l0 D).f0),.int .i64 0,.int .i64 0,.int .i64 0] 89 (0,0))):=BP hW_ ae;replace HB:=BL hW_ HB;(try clear hW_);replace U:=ak (blk_drew U.out);replace X:=ak (blk_drew X.out);replace ab:=ak (blk_drew ab.out);replace ae:=ak (blk_drew ae.out);replace HB:=ak (below_drew1 HB.out);have b8:0≤(((rd_T57 l0 D).f1):Int):=od;have b9:((rd_T57 l0 D).f1) < (ac.length:Int):=od;obtain⟨cr,en,bl⟩:=Kd.at_int bz.out ((rd_T57 l0 D).f1) b8 b9;have hw966_0:=bl;cases en;replace bl:=hx_ HB bl;replace b8:=eq_true b8;replace b9:=eq_true b9;refine start_ (n:=14) (S:=fun w'=>w'.cell? ⟨aj,0,none⟩=some (.int .i64 ((rd_T57 l0 D).f0))∧w'.cell? ⟨aj,1,none⟩=some (.int .i64 ((rd_T57 l0 D).f1))∧w'.cell? ⟨aj,2,none⟩=some (.int .i64 ((rd_T57 l0 D).f2))∧w'.cell? ⟨aj,3,none⟩=some (.int .i64 ((rd_T57 l0 D).f3))∧w'.cell? ⟨ai,0,none⟩=some (.int .i64 D)∧w'.cell? ⟨ai,1,none⟩=some (.slice (some cr) ac.length aw)∧w'.cell? ⟨ai,2,none⟩=some (.slice ax ag.length ay)∧w'.cell? ⟨ai,3,none⟩=some (.slice az ah.length ba)∧w'.cell? (cr.add (((rd_T57 l0 D).f1)).toNat)=some (.int .i64 (rd ac ((rd_T57 l0 D).f1)))) (ds:=[]) #[false,false,false,false,false,false,false,false,false,false,false,false,false,false] KR rfl rfl ⟨bq ab 0,bq ab 1,bq ab 2,bq ab 3,bq U 0,bq U 1,bq U 2,bq U 3,((HB.out.cell (World.block_lt_of_cell? w _ hw966_0)).trans hw966_0)⟩ (fun hHeld=>?_);refine with_tabW spec_WantOf.tab6 spec_WantOf.bits6 (fun HT_ HW_=>?_)
         generalize ej.drew=d8 at X ae HB bl hHeld ⊢
         refine pu_ (i:=0) (N:=some 33) #[true,false,false,false,false,false,false,false,false,false,false,false,false,false] HT_ ?_;refine pu_ (i:=2) (N:=some 35) #[true,false,true,false,false,false,false,false,false,false,false,false,false,false] HT_ ?_;refine pu_ (i:=4) (N:=some 37) #[true,false,true,false,true,false,false,false,false,false,false,false,false,false] HT_ ?_;refine pu_ (i:=6) (N:=some 39) #[true,false,true,false,true,false,true,false,false,false,false,false,false,false] HT_ ?_;refine tk_ (i:=1) (N:=some 34) #[true,true,true,false,true,false,true,false,false,false,false,false,false,false] rfl rfl HT_ HW_ hHeld ?_;refine tq_ (i:=3) (N:=some 36) #[true,true,true,true,true,false,true,false,false,false,false,false,false,false] rfl rfl (take_ofW HT_.out HW_.out KR) hHeld ?_
         refine tk_ (i:=5) (N:=some 38) #[true,true,true,true,true,true,true,false,false,false,false,false,false,false] rfl rfl HT_ HW_ hHeld ?_;refine tq_ (i:=7) (N:=some 40) #[true,true,true,true,true,true,true,true,false,false,false,false,false,false] rfl rfl (take_ofW HT_.out HW_.out KR) hHeld ?_
         refine pu_ (i:=8) (N:=some 41) #[true,true,true,true,true,true,true,true,true,false,false,false,false,false] HT_ ?_;refine tk_ (i:=9) (N:=some 42) #[true,true,true,true,true,true,true,true,true,true,false,false,false,false] rfl rfl HT_ HW_ hHeld ?_;refine pu_ (i:=10) (N:=some 43) #[true,true,true,true,true,true,true,true,true,true,true,false,false,false] HT_ ?_;refine pu_ (i:=11) (N:=some 44) #[true,true,true,true,true,true,true,true,true,true,true,true,false,false] HT_ ?_;refine pu_ (i:=12) (N:=some 45) #[true,true,true,true,true,true,true,true,true,true,true,true,true,false] HT_ ?_;refine one_ (i:=13) (N:=none) #[true,true,true,true,true,true,true,true,true,true,true,true,true,true] rfl rfl (one_of HT_.out KR) (by decide) (fun K hK=>?_);have hs40:d8.cell? ⟨J,1,none⟩=some (.int .i64 0):=bq ae 1;have hfs40:=blk_frozen ae.out 1;have hns40_0:=Y.out;have hns40_1:=ap.out;have hns40_2:=Z.out;have hms40_0:=ao.out;have hms40_1:=aq.out;have hms40_2:=ar.out;have hs41:d8.cell? ⟨J,2,none⟩=some (.int .i64 0):=bq ae 2;have hfs41:=blk_frozen ae.out 2;have hns41_0:=Y.out;have hns41_1:=ap.out;have hns41_2:=Z.out;have hms41_0:=ao.out;have hms41_1:=aq.out;have hms41_2:=ar.out;have hs42:d8.cell? ⟨J,3,none⟩=some (.int .i64 0):=bq ae 3;have hfs42:=blk_frozen ae.out 3;have hns42_0:=Y.out;have hns42_1:=ap.out;have hns42_2:=Z.out;have hms42_0:=ao.out;have hms42_1:=aq.out;have hms42_2:=ar.out;refine skip_ (w1:=?_) (by rfl) rfl ?_ ?_;rotate_left
         ·go_simp
          rfl
         refine hK.out _ _ ⟨((cell_far (p:=⟨J,_,none⟩) Z.out _).trans (((cell_far (p:=⟨J,_,none⟩) Z.out _).trans (((cell_far (p:=⟨J,_,none⟩) Z.out _).trans (hHeld.1)))))),((cell_far (p:=⟨J,_,none⟩) Z.out _).trans (((cell_far (p:=⟨J,_,none⟩) Z.out _).trans (((cell_far (p:=⟨J,_,none⟩) Z.out _).trans (hHeld.2.1)))))),((cell_far (p:=⟨J,_,none⟩) Z.out _).trans (((cell_far (p:=⟨J,_,none⟩) Z.out _).trans (((cell_far (p:=⟨J,_,none⟩) Z.out _).trans (hHeld.2.2.1)))))),((cell_far (p:=⟨J,_,none⟩) Z.out _).trans (((cell_far (p:=⟨J,_,none⟩) Z.out _).trans (((cell_far (p:=⟨J,_,none⟩) Z.out _).trans (hHeld.2.2.2.1)))))),((cell_far (p:=⟨J,_,none⟩) Y.out _).trans (((cell_far (p:=⟨J,_,none⟩) Y.out _).trans (((cell_far (p:=⟨J,_,none⟩) Y.out _).trans (hHeld.2.2.2.2.1)))))),((cell_far (p:=⟨J,_,none⟩) Y.out _).trans (((cell_far (p:=⟨J,_,none⟩) Y.out _).trans (((cell_far (p:=⟨J,_,none⟩) Y.out _).trans (hHeld.2.2.2.2.2.1)))))),((cell_far (p:=⟨J,_,none⟩) Y.out _).trans (((cell_far (p:=⟨J,_,none⟩) Y.out _).trans (((cell_far (p:=⟨J,_,none⟩) Y.out _).trans (hHeld.2.2.2.2.2.2.1)))))),((cell_far (p:=⟨J,_,none⟩) Y.out _).trans (((cell_far (p:=⟨J,_,none⟩) Y.out _).trans (((cell_far (p:=⟨J,_,none⟩) Y.out _).trans (hHeld.2.2.2.2.2.2.2.1)))))),((cell_far (p:=⟨J,_,none⟩) (by first|exact Nat.ne_of_lt (Nat.lt_of_lt_of_le (by have:=World.block_lt_of_cell? _ _ hw966_0;first|rwa [add_block] at this | exact this) al.out)|(rw[add_block];exact Nat.ne_of_lt (Nat.lt_of_lt_of_le (by have:=World.block_lt_of_cell? _ _ hw966_0;first|rwa [add_block] at this | exact this) al.out))|(show(Addr.add _ _).block≠_;rw[add_block];exact Nat.ne_of_lt (Nat.lt_of_lt_of_le (by have:=World.block_lt_of_cell? _ _ hw966_0;first|rwa [add_block] at this | exact this) al.out))|(dsimp only;exact Nat.ne_of_lt (Nat.lt_of_lt_of_le (by have:=World.block_lt_of_cell? _ _ hw966_0;first|rwa [add_block] at this | exact this) al.out))) _).trans (((cell_far (p:=⟨J,_,none⟩) (by first|exact Nat.ne_of_lt (Nat.lt_of_lt_of_le (by have:=World.block_lt_of_cell? _ _ hw966_0;first|rwa [add_block] at this | exact this) al.out)|(rw[add_block];exact Nat.ne_of_lt (Nat.lt_of_lt_of_le (by have:=World.block_lt_of_cell? _ _ hw966_0;first|rwa [add_block] at this | exact this) al.out))|(show(Addr.add _ _).block≠_;rw[add_block];exact Nat.ne_of_lt (Nat.lt_of_lt_of_le (by have:=World.block_lt_of_cell? _ _ hw966_0;first|rwa [add_block] at this | exact this) al.out))|(dsimp only;exact Nat.ne_of_lt (Nat.lt_of_lt_of_le (by have:=World.block_lt_of_cell? _ _ hw966_0;first|rwa [add_block] at this | exact this) al.out))) _).trans (((cell_far (p:=⟨J,_,none⟩) (by first|exact Nat.ne_of_lt (Nat.lt_of_lt_of_le (by have:=World.block_lt_of_cell? _ _ hw966_0;first|rwa [add_block] at this | exact this) al.out)|(rw[add_block];exact Nat.ne_of_lt (Nat.lt_of_lt_of_le (by have:=World.block_lt_of_cell? _ _ hw966_0;first|rwa [add_block] at this | exact this) al.out))|(show(Addr.add _ _).block≠_;rw[add_block];exact Nat.ne_of_lt (Nat.lt_of_lt_of_le (by have:=World.block_lt_of_cell? _ _ hw966_0;first|rwa [add_block] at this | exact this) al.out))|(dsimp only;exact Nat.ne_of_lt (Nat.lt_of_lt_of_le (by have:=World.block_lt_of_cell? _ _ hw966_0;first|rwa [add_block] at this | exact this) al.out))) _).trans (hHeld.2.2.2.2.2.2.2.2))))))⟩ (fun hHeld=>?_);clear hK K;refine done_ (done_of HT_.out KR) ?_;obtain⟨_,_,_,_,_,_,_,_⟩:=bc4 ae;obtain⟨_,_,_,_,_,_,_,_⟩:=bc4 X
         try go_wp2
         refine bodyPost_ret (results_cell_row rfl _ _ am 89 #[.int .i64 ((rd_T57 l0 D).f0),.int .i64 ((rd_T57 l0 D).f2),.int .i64 ((rd_T57 l0 D).f3),.int .i64 (Int.tmod (rd ac ((rd_T57 l0 D).f1)) 100)] (0,0) _ rfl (PX X) Tryz.underlying89 rfl KR) rfl ?_;exact⟨RT,PB⟩
        ·rw[if_neg cq] at H;exact absurd H (by simp)
       ·rw[if_neg cp] at H;exact absurd H (by simp)
      ·rw[if_neg bx] at H;obtain⟨eb,ec⟩:=eqq2 bx;simp only[Option.some.injEq,Prod.mk.injEq] at H;obtain⟨rfl,rfl,rfl,rfl⟩:=H;have fp:=au.out;have fq:=av.out;obtain⟨_,_,_,_,_,_,_,_⟩:=bc4 U;have bm:0≤(D:Int):=od;have bo:D < (l0.length:Int):=od;obtain⟨ed,b7,bc,bd,bf,bg⟩:=at_T57 b5.out D bm bo;cases b7;replace bc:=hx_ HB bc;replace bd:=hx_ HB bd;replace bf:=hx_ HB bf;replace bg:=hx_ HB bg;replace bm:=eq_true bm;replace bo:=eq_true bo;go_wp2_with (first|((with_reducible refine gate_dst (N:=5) rfl ?_);refine bx_ (N:=5) #[.int .i64 0,.int .i64 0,.int .i64 0,.int .i64 0] 57 ?_;intro aj hg gj hbox hb;have ab:=ak hbox;have ee:=gy hg HB;replace HB:=bs HB hb;have bh:=gm hg U;have bi:=gn hg U;replace U:=kf U hb;have bj:=gm hg X;have bk:=gn hg X;replace X:=kf X hb;clear hb hbox hg;have ft:=bi.out;have fu:=bh.out;have fv:=bk.out;have fw:=bj.out;obtain⟨_,_,_,_,_,_,_,_⟩:=bc4 ab)|((with_reducible refine gate_dst (N:=6) rfl ?_);refine bx_ (N:=6) #[.int .i64 0,.int .i64 0,.int .i64 0,.int .i64 0] 89 ?_;intro J hg gk hbox hb;have ae:=ak hbox;have al:=gy hg HB;replace HB:=bs HB hb;have Y:=ak ((by rw[hg];exact Nat.ne_of_lt (blk_lt (g:=ai) (o:=.cells #[.int .i64 D,.slice bb ac.length aw,.slice ax ag.length ay,.slice az ah.length ba] 35 (0,0)) (PF U)):ai≠J));have ao:=ak ((by rw[hg];exact Nat.ne_of_gt (blk_lt (g:=ai) (o:=.cells #[.int .i64 D,.slice bb ac.length aw,.slice ax ag.length ay,.slice az ah.length ba] 35 (0,0)) (PF U)):J≠ai));have ap:=ak ((by rw[hg];exact Nat.ne_of_lt (blk_lt (g:=am) (o:=.cells #[.int .i64 0,.int .i64 0,.int .i64 0,.int .i64 0] 89 (0,0)) (PF X)):am≠J));have aq:=ak ((by rw[hg];exact Nat.ne_of_gt (blk_lt (g:=am) (o:=.cells #[.int .i64 0,.int .i64 0,.int .i64 0,.int .i64 0] 89 (0,0)) (PF X)):J≠am));replace X:=kf X hb;have Z:=ak ((by rw[hg];exact Nat.ne_of_lt (blk_lt (g:=aj) (o:=.cells #[.int .i64 ((rd_T57 l0 D).f0),.int .i64 ((rd_T57 l0 D).f1),.int .i64 ((rd_T57 l0 D).f2),.int .i64 ((rd_T57 l0 D).f3)] 57 (0,0)) (PX ab)):aj≠J));have ar:=ak ((by rw[hg];exact Nat.ne_of_gt (blk_lt (g:=aj) (o:=.cells #[.int .i64 ((rd_T57 l0 D).f0),.int .i64 ((rd_T57 l0 D).f1),.int .i64 ((rd_T57 l0 D).f2),.int .i64 ((rd_T57 l0 D).f3)] 57 (0,0)) (PX ab)):J≠aj));replace ab:=kp (cs':=#[.int .i64 ((rd_T57 l0 D).f0),.int .i64 ((rd_T57 l0 D).f1),.int .i64 ((rd_T57 l0 D).f2),.int .i64 ((rd_T57 l0 D).f3)]) ab hb;clear hb hbox hg;have fx:=ao.out;have fy:=Y.out;have fz:=aq.out;have f4:=ap.out;have f5:=ar.out;have f6:=Z.out;obtain⟨_,_,_,_,_,_,_,_⟩:=bc4 ae;obtain⟨_,_,_,_,_,_,_,_⟩:=bc4 ab;obtain⟨_,_,_,_,_,_,_,_⟩:=bc4 X));refine bodyPost_ret (results_cell_row rfl _ _ am 89 #[.int .i64 ((rd_T57 l0 D).f0),.int .i64 0,.int .i64 0,.int .i64 0] (0,0) _ rfl (PX X) Tryz.underlying89 rfl KR) rfl ?_;exact⟨RT,PB⟩
     ·rw[if_neg co] at H;exact absurd H (by simp)
    ·rw[if_neg cn] at H;exact absurd H (by simp)
def spec_l5Copy.f (U:Int)(D:List Int)(X:Int)(Y:Int)(Z:Int):Option (Int×List Int×Int×Int×Int):=(some (([]:List Int):List Int)).bind fun J=>(if J.length+D.length < 17592186044416 then(some (U,(J++D),X,Y,Z)) else(none))
def spec_l5Copy.T1:Bool×List (List Nat×List Nat):=(true,[([],[]),([0],[0]),([],[]),([],[]),([3],[3]),([2,4],[2,4]),([],[]),([6],[6]),([1,5,7],[1,5,7]),([8,5,0,1,2,3,4,5,6,7,8],[8])])
def spec_l5Copy.B1:List Nat:=[0,1,0,0,8,28,0,64,255,511]
theorem spec_l5Copy.tab1:rtab .any (opsOf Tryz.f107 1)=spec_l5Copy.T1:=by kernel_rfl
theorem spec_l5Copy.bits1:waitsOk spec_l5Copy.T1.2 spec_l5Copy.B1=true:=by kernel_rfl
theorem spec_l5Copy.calls (aa:Int)(al:Option Addr)(am:Nat)(Y:List Int)(ab:Int)(ac:Int)(ae:Int)(r1:Int)(r2:List Int)(r3:Int)(r4:Int)(r5:Int)(w:World)(aq:Kd.C (Kd.int .i64) w al Y.length Y)(ar:Y.length≤am)(h:spec_l5Copy.f aa Y ab ac ae=some (r1,r2,r3,r4,r5)) :
  Calls Tryz.prog 107 #[.agg #[.int .i64 aa,.slice al Y.length am,.int .i64 ab,.int .i64 ac,.int .i64 ae]] w fun e w'=>∃ ba:Value,e = .returned (.agg #[.int .i64 r1,ba,.int .i64 r3,.int .i64 r4,.int .i64 r5])∧Kd.R (Kd.int .i64) 3 w' w.heap.size (fun _=>True) ba r2∧Below w.heap.size w w':=by
 have bk:=Tryz.underlying81;have bl:=Tryz.underlying48;have ax:=ak aq;have bh:=ak ar;clear aq ar;have HB:=ak (Below.refl w.heap.size w);have H:=h;clear h;unfold spec_l5Copy.f at H;obtain⟨ao,ah⟩:∃ y_:List Int,y_=(([]:List Int)):=⟨_,rfl⟩
 first|replace H:=bnd_ H ah|rw[←ah] at H
 have au:=ak ah;clear ah
 by_cases c2:ao.length+Y.length < 17592186044416
 ·rw[if_pos c2] at H;have bf:=ak c2;clear c2;obtain⟨ap,ai⟩:∃ y_:List Int,y_=(ao++Y):=⟨_,rfl⟩
  first|replace H:=bnd_ H ai|rw[←ai] at H
  have az:=ak ai;clear ai;simp only[Option.some.injEq,Prod.mk.injEq] at H;obtain⟨rfl,rfl,rfl,rfl,rfl⟩:=H;go_enter Tryz.func107,Tryz.ntmps107
  try go_wp2_with (first|((with_reducible refine gate_dst (N:=1) rfl ?_);refine bx_ (N:=1) #[.int .i64 aa,.slice al Y.length am,.int .i64 ab,.int .i64 ac,.int .i64 ae] 81 ?_;intro ag hg w3 hbox hb;have U:=ak hbox;have bi:=gy hg HB;replace HB:=bs HB hb;clear hb hbox hg)|((with_reducible refine gate_dst (N:=2) rfl ?_);refine bx_ (N:=2) #[.int .i64 0,.slice none 0 0,.int .i64 0,.int .i64 0,.int .i64 0] 81 ?_;intro J hg w4 hbox hb;have X:=ak hbox;have bj:=gy hg HB;replace HB:=bs HB hb;have D:=gm hg U;have Z:=gn hg U;replace U:=kf U hb;clear hb hbox hg))
  replace U:=ak (blk_drew U.out);replace X:=ak (blk_drew X.out);replace HB:=ak (below_drew1 HB.out);refine start_ (n:=10) (S:=fun w'=>w'.cell? ⟨ag,0,none⟩=some (.int .i64 aa)∧w'.cell? ⟨ag,1,none⟩=some (.slice al Y.length am)∧w'.cell? ⟨ag,2,none⟩=some (.int .i64 ab)∧w'.cell? ⟨ag,3,none⟩=some (.int .i64 ac)∧w'.cell? ⟨ag,4,none⟩=some (.int .i64 ae)) (ds:=[]) #[false,false,false,false,false,false,false,false,false,false] KR rfl rfl ⟨bq U 0,bq U 1,bq U 2,bq U 3,bq U 4⟩ (fun hHeld=>?_);refine with_tabW spec_l5Copy.tab1 spec_l5Copy.bits1 (fun HT_ HW_=>?_)
  generalize w4.drew=w5 at U X HB hHeld ⊢
  refine pu_ (i:=0) (N:=some 3) #[true,false,false,false,false,false,false,false,false,false] HT_ ?_;refine pu_ (i:=3) (N:=some 6) #[true,false,false,true,false,false,false,false,false,false] HT_ ?_;refine pu_ (i:=6) (N:=some 9) #[true,false,false,true,false,false,true,false,false,false] HT_ ?_;refine tk_ (i:=1) (N:=some 4) #[true,true,false,true,false,false,true,false,false,false] rfl rfl HT_ HW_ hHeld ?_;refine tq_ (i:=4) (N:=some 7) #[true,true,false,true,true,false,true,false,false,false] rfl rfl (take_ofW HT_.out HW_.out KR) hHeld ?_
  refine tk_ (i:=7) (N:=some 10) #[true,true,false,true,true,false,true,true,false,false] rfl rfl HT_ HW_ hHeld ?_;refine one_ (i:=2) (N:=some 5) #[true,true,true,true,true,false,true,true,false,false] rfl rfl (one_of HT_.out KR) (by decide) (fun K hK=>?_);refine Kd.R_lit_step (Kd.int .i64) _ 3 ?hg (N:=5) ?hd (xs:=([]:List Int)) (inner:=[]) (ok:=fun _=>True) (okp:=fun _=>True) ?hr ?hp (fun _ hk=>hk) trivial (Below.refl _ _) (Nat.le_refl _) (by simp) ?_;(case hd=>rfl);(case hg=>rfl);(case hr=>first|(go_simp;done)|(go_simp;rfl));(case hp=>exact(Reps.none _ _));intro bg w6 ho7 hb hg_ hnew_;clear hg_ hnew_;(first|rw[←au.out] at ho7|(simp only[Int.reduceToNat] at ho7;rw[←au.out] at ho7));have aj:=Rn0 ho7 HB;replace U:=kf U hb;replace X:=kf X hb;replace HB:=bs HB hb;clear hb ho7;refine hK.out _ _ ⟨bq U 0,bq U 1,bq U 2,bq U 3,bq U 4⟩ (fun hHeld=>?_);clear hK K;refine nq_ (N:=(some 5)) ?_
  refine one_ (i:=5) (N:=some 8) #[true,true,true,true,true,true,true,true,false,false] rfl rfl (one_of HT_.out KR) (by decide) (fun K hK=>?_);refine Kd.R_append_rows_step (Kd.int .i64) (w0:=w) w.heap.size (by rfl) (.tmp 5) (.tmp 7) 26 3 (.int .i64 0) 8 rfl Tryz.underlying26 info3 rfl (by decide) (by omega) bg ao Y _ _ _ (fun _=>True) (fun _=>False) rfl rfl ?aO ?aR (fun _ _ h=>h) (fun _ h=>h.elim) ?aF ?aB ?aS ?aL ?_;(case aR=>repeat(first|exact(Kd.C_below ax.out HB.out)|(with_reducible refine Kd.C_alloc ?_ _)|(with_reducible refine Kd.C_drewN ?_ _)|(with_reducible refine Kd.C_drew ?_)));(case aB=>exact PB);(case aF=>exact(fun _ _=>trivial));(case aO=>exact(PR aj));(case aS=>exact(below_size PB));(case aL=>have:=bf.out;omega);intro bo w8 ho hb hg hat;rw[←az.out] at ho;replace U:=ak (blk_grown (g:=ag) (o:=.cells #[.int .i64 aa,.slice al Y.length am,.int .i64 ab,.int .i64 ac,.int .i64 ae] 81 (0,0)) (PK U) hg (Kd.R_ne aj.out U.out (by decide)));replace X:=ak (blk_grown (g:=J) (o:=.cells #[.int .i64 0,.slice none 0 0,.int .i64 0,.int .i64 0,.int .i64 0] 81 (0,0)) (PK X) hg (Kd.R_ne aj.out X.out (by decide)));replace HB:=ak hb;have av:=ak (ho);clear aj;clear ho hb hg hat;obtain⟨bb,bc,bd⟩:=Kd.R_slice av.out;(first|subst bd|(injection bd with f1_ f2_ f3_;have f4_:=f1_.symm;have f5_:=f3_.symm;clear f1_ f2_ f3_;subst f4_;subst f5_));refine hK.out _ _ ⟨bq U 0,bq U 1,bq U 2,bq U 3,bq U 4⟩ (fun hHeld=>?_);clear hK K;refine nq_ (N:=(some 8)) ?_
  refine pu_ (i:=8) (N:=some 11) #[true,true,true,true,true,true,true,true,true,false] HT_ ?_;refine one_ (i:=9) (N:=none) #[true,true,true,true,true,true,true,true,true,true] rfl rfl (one_of HT_.out KR) (by decide) (fun K hK=>?_);have hs10:w8.cell? ⟨J,0,none⟩=some (.int .i64 0):=bq X 0;have hfs10:=blk_frozen X.out 0;have hns10_0:=D.out;have hms10_0:=Z.out;have hs11:w8.cell? ⟨J,1,none⟩=some (.slice none 0 0):=bq X 1;have hfs11:=blk_frozen X.out 1;have hns11_0:=D.out;have hms11_0:=Z.out;have hs12:w8.cell? ⟨J,2,none⟩=some (.int .i64 0):=bq X 2;have hfs12:=blk_frozen X.out 2;have hns12_0:=D.out;have hms12_0:=Z.out;have hs13:w8.cell? ⟨J,3,none⟩=some (.int .i64 0):=bq X 3;have hfs13:=blk_frozen X.out 3;have hns13_0:=D.out;have hms13_0:=Z.out;have hs14:w8.cell? ⟨J,4,none⟩=some (.int .i64 0):=bq X 4;have hfs14:=blk_frozen X.out 4;have hns14_0:=D.out;have hms14_0:=Z.out;refine skip_ (w1:=?_) (by rfl) rfl ?_ ?_;rotate_left
  ·go_simp
   rfl
  refine hK.out _ _ ⟨((cell_far (p:=⟨J,_,none⟩) D.out _).trans (((cell_far (p:=⟨J,_,none⟩) D.out _).trans (((cell_far (p:=⟨J,_,none⟩) D.out _).trans (((cell_far (p:=⟨J,_,none⟩) D.out _).trans (((cell_far (p:=⟨J,_,none⟩) D.out _).trans (hHeld.1)))))))))),((cell_far (p:=⟨J,_,none⟩) D.out _).trans (((cell_far (p:=⟨J,_,none⟩) D.out _).trans (((cell_far (p:=⟨J,_,none⟩) D.out _).trans (((cell_far (p:=⟨J,_,none⟩) D.out _).trans (((cell_far (p:=⟨J,_,none⟩) D.out _).trans (hHeld.2.1)))))))))),((cell_far (p:=⟨J,_,none⟩) D.out _).trans (((cell_far (p:=⟨J,_,none⟩) D.out _).trans (((cell_far (p:=⟨J,_,none⟩) D.out _).trans (((cell_far (p:=⟨J,_,none⟩) D.out _).trans (((cell_far (p:=⟨J,_,none⟩) D.out _).trans (hHeld.2.2.1)))))))))),((cell_far (p:=⟨J,_,none⟩) D.out _).trans (((cell_far (p:=⟨J,_,none⟩) D.out _).trans (((cell_far (p:=⟨J,_,none⟩) D.out _).trans (((cell_far (p:=⟨J,_,none⟩) D.out _).trans (((cell_far (p:=⟨J,_,none⟩) D.out _).trans (hHeld.2.2.2.1)))))))))),((cell_far (p:=⟨J,_,none⟩) D.out _).trans (((cell_far (p:=⟨J,_,none⟩) D.out _).trans (((cell_far (p:=⟨J,_,none⟩) D.out _).trans (((cell_far (p:=⟨J,_,none⟩) D.out _).trans (((cell_far (p:=⟨J,_,none⟩) D.out _).trans (hHeld.2.2.2.2))))))))))⟩ (fun hHeld=>?_);clear hK K;refine done_ (done_of HT_.out KR) ?_
  try go_wp2
  refine bodyPost_ret (results_cell_row rfl _ _ J 81 #[.int .i64 aa,.slice bb ap.length bc,.int .i64 ab,.int .i64 ac,.int .i64 ae] (0,0) _ rfl (PX X) Tryz.underlying81 rfl KR) rfl ?_;exact⟨.slice bb ap.length bc,RT,RX (Rt av.out X) (fun _ hk=>trivial),PB⟩
 ·rw[if_neg c2] at H;exact absurd H (by simp)

attribute [local go_sem high] eqA48
def spec_AnswerAt.l0:Nat→List (S83)→Int→Int→Int→Int→Int→Int→List Int→Int→Int→Int→Option (Int×List Int×Int×Int×Int)
  | 0,_,_,_,_,_,_,_,_,_,_,_=>none
  | k+1,Z,x2,X,D,J,U,aa,ab,ac,ae,ag=>if X < (Z.length:Int) then(if 0≤X then(if (((rd_T83 Z X).f0.f0) == D && (((rd_T83 Z X).f0.f1) == J && (((rd_T83 Z X).f0.f2) == U)))=true then(if ((rd_T83 Z X).f1)≤x2 then((spec_l5Copy.f ((rd_T83 Z X).f2.f0) ((rd_T83 Z X).f2.f1) ((rd_T83 Z X).f2.f2.f0) ((rd_T83 Z X).f2.f2.f1) ((rd_T83 Z X).f2.f2.f2)).bind fun Y=>(spec_AnswerAt.l0 k Z x2 (wrap64 (X+1)) D J U Y.1 Y.2.1 Y.2.2.1 Y.2.2.2.1 Y.2.2.2.2)) else(spec_AnswerAt.l0 k Z x2 (wrap64 (X+1)) D J U aa ab ac ae ag)) else(spec_AnswerAt.l0 k Z x2 (wrap64 (X+1)) D J U aa ab ac ae ag)) else(none)) else(some (aa,ab,ac,ae,ag))
def spec_AnswerAt.f (k:Nat)(X:List (S83))(D:Int)(J:Int)(U:Int)(Y:Int):Option (Int×List Int×Int×Int×Int):=spec_AnswerAt.l0 k X Y 0 D J U 4 ([]:List Int) 0 0 0
theorem spec_AnswerAt.calls (k:Nat)(A0:Option Addr)(c0:Nat)(J:List (S83))(av:Int)(aw:Int)(ax:Int)(a2:Int)(r1:Int)(r2:List Int)(r3:Int)(r4:Int)(r5:Int)(w:World)(ef:Kd.C k83 w A0 J.length J)(eg:J.length≤c0)(h:spec_AnswerAt.f k J av aw ax a2=some (r1,r2,r3,r4,r5)) :
  Calls Tryz.prog 104 #[.slice A0 J.length c0,.agg #[.int .i64 av,.int .i64 aw,.int .i64 ax],.int .i64 a2] w fun e w'=>∃ eh:Value,e = .returned (.agg #[.int .i64 r1,eh,.int .i64 r3,.int .i64 r4,.int .i64 r5])∧Kd.R (Kd.int .i64) 3 w' w.heap.size (fun _=>True) eh r2∧Below w.heap.size w w':=by
 have f4:=Tryz.underlying48;have f5:=Tryz.underlying81;have b8:=ak ef;have gc:=ak eg;clear ef eg;have HB:=ak (Below.refl w.heap.size w);have H:=h;clear h;unfold spec_AnswerAt.f at H;have H':=ak H;clear H;go_enter Tryz.func104,Tryz.ntmps104
 iterate 4 (try go_wp2_with (first|((with_reducible refine gate_dst (N:=4) rfl ?_);refine bx_ (N:=4) #[.int .i64 av,.int .i64 aw,.int .i64 ax] 48 ?_;intro d7 hg w4 hbox hb;have U:=ak hbox;have e9:=gy hg HB;replace HB:=bs HB hb;clear hb hbox hg)|((with_reducible refine gate_dst (N:=6) rfl ?_);refine bx_ (N:=6) #[.int .i64 0,.slice none 0 0,.int .i64 0,.int .i64 0,.int .i64 0] 81 ?_;intro cx hg w5 hbox hb;have Y:=ak hbox;have fa:=gy hg HB;replace HB:=bs HB hb;have bf:=gm hg U;have bg:=gn hg U;replace U:=kf U hb;clear hb hbox hg)|((with_reducible refine gate_dst (N:=7) rfl ?_);refine bx_ (N:=7) #[.int .i64 0,.slice none 0 0,.int .i64 0,.int .i64 0,.int .i64 0] 81 ?_;intro d8 hg w6 hbox hb;have au:=ak hbox;have fb:=gy hg HB;replace HB:=bs HB hb;have az:=gm hg U;have ba:=gn hg U;replace U:=kf U hb;have bw:=gm hg Y;have bx:=gn hg Y;replace Y:=kf Y hb;clear hb hbox hg;have f6:=ba.out;have f7:=az.out;have f8:=bx.out;have f9:=bw.out;obtain⟨dg,dh,di,dj,dk,dl,dn,dp,dq,dr⟩:=bc5 au));try go_quiet (fail))
 go_loopg [8] k (fun kq v8 w'=>∃(D:Int)(Z:Int)(aa:List Int)(ab:Int)(ac:Int)(ae:Int)(bh:Value),v8 = .int .i64 D∧Aside0 (spec_AnswerAt.l0 kq J a2 D av aw ax Z aa ab ac ae=some (r1,r2,r3,r4,r5))∧Aside0 (kq≤k)∧Aside0 (Kd.R (Kd.int .i64) 3 w' w.heap.size (fun _=>True) bh aa)∧Aside0 (w'.heap[d7]?=some (.cells #[.int .i64 av,.int .i64 aw,.int .i64 ax] 48 (0,0)))∧Aside0 (w'.heap[cx]?=some (.cells #[.int .i64 0,(.slice none 0 0),.int .i64 0,.int .i64 0,.int .i64 0] 81 (0,0)))∧Aside0 (w'.heap[d8]?=some (.cells #[.int .i64 Z,bh,.int .i64 ab,.int .i64 ac,.int .i64 ae] 81 (0,0)))∧Aside0 (Below w.heap.size w w'))
 case atStart=>exact⟨(0),(4),(([]:List Int)),(0),(0),(0),(.slice none 0 0),FR,H',⟨Nat.le_refl _⟩,⟨by first|exact Kd.R_nil _ _ _ _ _ | exact Kd.N_nil _ _ _ _ _ | exact Kd.V_nil _ _ _ _ _ | exact Kd.Q_nil _ _ _ _ _ | exact Kd.S_nil _ _ _ _ _⟩,⟨PF U⟩,⟨PF Y⟩,⟨PX au⟩,⟨PB⟩⟩
 case round =>
  clear H';(try clear c1);(try clear p2);(try clear c7);(try clear c8);(try clear dg);(try clear dh);(try clear di);(try clear dj);(try clear dk);(try clear dl);(try clear dn);(try clear dp);(try clear dq);(try clear dr);obtain⟨D,Z,aa,ab,ac,ae,bh,rfl,HA,b9,bb,U,Y,au,HB⟩:=hrel
  cases gk with
  | zero=>exact absurd HA.out (by simp[spec_AnswerAt.l0])
  | succ k1 =>
   have H:=HA.out;clear HA;simp only[spec_AnswerAt.l0] at H
   by_cases ca:D < (J.length:Int)
   ·rw[if_pos ca] at H;have d9:=decide_eq_true ca;clear ca
    by_cases cy:0≤D
    ·rw[if_pos cy] at H;have fc:=decide_eq_true cy;clear cy
     by_cases bz:(((rd_T83 J D).f0.f0) == av && (((rd_T83 J D).f0.f1) == aw && (((rd_T83 J D).f0.f2) == ax)))=true
     ·rw[if_pos bz] at H;have ea:(((rd_T83 J D).f0.f0) == av && (((rd_T83 J D).f0.f1) == aw && (((rd_T83 J D).f0.f2) == ax)))=true:=bz;(try(have eb:decide (((rd_T83 J D).f0.f0)=av && (((rd_T83 J D).f0.f1) == aw && (((rd_T83 J D).f0.f2) == ax)))=true:=by simpa using bz));(try(have ec:(((rd_T83 J D).f0.f0) == av && (((rd_T83 J D).f0.f1) == aw && (((rd_T83 J D).f0.f2) == ax)))=true:=by simpa using bz));clear bz
      by_cases cb:((rd_T83 J D).f1)≤a2
      ·rw[if_pos cb] at H;have ed:=decide_eq_true cb;clear cb;obtain⟨⟨dt,ct,du,dv,dw⟩,ez,H⟩:=obq H;(try dsimp only at H);have H':=ak H;clear H;have bc:0≤(D:Int):=od;have bd:D < (J.length:Int):=od;obtain⟨b5,cq,cr,b7,ag,ah,ai,aj,al,X,am,ao,ap,aq,ar⟩:=at_T83 b8.out D bc bd;cases b7;replace ag:=hx_ HB ag;replace ah:=hx_ HB ah;replace ai:=hx_ HB ai;replace aj:=hx_ HB aj;replace al:=hx_ HB al;replace X:=hx_ HB X;replace am:=hx_ HB am;replace ao:=hx_ HB ao;replace ap:=hx_ HB ap;have cd:=ak ar;have ce:=ak aq;clear ar aq;replace bc:=eq_true bc;replace bd:=eq_true bd;have fd:=bf.out;have fe:=bg.out;have ff:=az.out;have fg:=ba.out;obtain⟨_,_,_,_,_,_⟩:=bc3 U;have b0:0≤(D:Int):=od;have b4:D < (J.length:Int):=od;obtain⟨cp,dy,dz,cu,bi,bj,bk,bl,bm,ay,bo,bp,br,bu,bv⟩:=at_T83 b8.out D b0 b4;obtain rfl:b5=cp:=(by injection cu);replace bi:=hx_ HB bi;replace bj:=hx_ HB bj;replace bk:=hx_ HB bk;replace bl:=hx_ HB bl;replace bm:=hx_ HB bm;replace ay:=hx_ HB ay;replace bo:=hx_ HB bo;replace bp:=hx_ HB bp;replace br:=hx_ HB br;have db:=ak bv;have dc:=ak bu;clear bv bu;replace b0:=eq_true b0;replace b4:=eq_true b4;have ea_:=Option.some.inj (X.symm.trans ay)
       injection ea_ with ea_ en_ ec_
       subst ea_;subst ec_;clear en_;have cv:0≤(D:Int):=od;have cw:D < (J.length:Int):=od;obtain⟨ee,e7,e8,ei,cf,cg,ch,ci,cj,b6,ck,cl,cm,cn,co⟩:=at_T83 b8.out D cv cw;obtain rfl:b5=ee:=(by injection ei);replace cf:=hx_ HB cf;replace cg:=hx_ HB cg;replace ch:=hx_ HB ch;replace ci:=hx_ HB ci;replace cj:=hx_ HB cj;replace b6:=hx_ HB b6;replace ck:=hx_ HB ck;replace cl:=hx_ HB cl;replace cm:=hx_ HB cm;have de:=ak co;have df:=ak cn;clear co cn;replace cv:=eq_true cv;replace cw:=eq_true cw;have ea_:=Option.some.inj (X.symm.trans b6)
       injection ea_ with ea_ en_ ec_
       subst ea_;subst ec_;clear en_
       iterate 4 (try go_wp2_with (first|(go_at_call 107;(with_reducible refine(spec_l5Copy.calls ((rd_T83 J D).f2.f0) _ _ ((rd_T83 J D).f2.f1) ((rd_T83 J D).f2.f2.f0) ((rd_T83 J D).f2.f2.f1) ((rd_T83 J D).f2.f2.f2) dt ct du dv dw _ ?side1 df.out ez.out).mono ?_);(case side1=>exact Cq de);rintro e gf ⟨gb,rfl,ho0,hb⟩;have cz:=Rn1 ho0 HB bb;replace U:=kf U hb;replace Y:=kf Y hb;replace au:=kf au hb;replace HB:=bs HB hb;clear hb ho0;have fh:=bx.out;have fi:=bw.out;obtain⟨en,eo,ep,eq,er,es,et,eu,ev,ew⟩:=bc5 au;obtain⟨ej,ek,rfl⟩:=Kd.R_slice cz.out));try go_quiet (fail))
       go_roundg k1
       case measure=>have:=b9.out;omega
       case rel=>exact⟨(wrap64 (D+1)),(dt),(ct),(du),(dv),(dw),(.slice ej ct.length ek),FR,H',⟨by have:=b9.out;omega⟩,⟨RX (Rt cz.out au) (fun _ hk=>trivial)⟩,⟨PF U⟩,⟨PF Y⟩,⟨PX au⟩,⟨PB⟩⟩
      ·rw[if_neg cb] at H;have ed:=decide_eq_false cb;clear cb;have H':=ak H;clear H;have bc:0≤(D:Int):=od;have bd:D < (J.length:Int):=od;obtain⟨b5,cq,cr,b7,ag,ah,ai,aj,al,X,am,ao,ap,aq,ar⟩:=at_T83 b8.out D bc bd;cases b7;replace ag:=hx_ HB ag;replace ah:=hx_ HB ah;replace ai:=hx_ HB ai;replace aj:=hx_ HB aj;replace al:=hx_ HB al;replace X:=hx_ HB X;replace am:=hx_ HB am;replace ao:=hx_ HB ao;replace ap:=hx_ HB ap;have cd:=ak ar;have ce:=ak aq;clear ar aq;replace bc:=eq_true bc;replace bd:=eq_true bd;have fj:=bf.out;have fk:=bg.out;have fl:=az.out;have fm:=ba.out;obtain⟨_,_,_,_,_,_⟩:=bc3 U;have b0:0≤(D:Int):=od;have b4:D < (J.length:Int):=od;obtain⟨cp,dy,dz,cu,bi,bj,bk,bl,bm,ay,bo,bp,br,bu,bv⟩:=at_T83 b8.out D b0 b4;obtain rfl:b5=cp:=(by injection cu);replace bi:=hx_ HB bi;replace bj:=hx_ HB bj;replace bk:=hx_ HB bk;replace bl:=hx_ HB bl;replace bm:=hx_ HB bm;replace ay:=hx_ HB ay;replace bo:=hx_ HB bo;replace bp:=hx_ HB bp;replace br:=hx_ HB br;have db:=ak bv;have dc:=ak bu;clear bv bu;replace b0:=eq_true b0;replace b4:=eq_true b4;have ea_:=Option.some.inj (X.symm.trans ay)
       injection ea_ with ea_ en_ ec_
       subst ea_;subst ec_;clear en_;go_wp2
       repeat(go_quiet (fail);try go_wp2)
       go_roundg k1
       case measure=>have:=b9.out;omega
       case rel=>exact⟨(wrap64 (D+1)),(Z),(aa),(ab),(ac),(ae),(bh),FR,H',⟨by have:=b9.out;omega⟩,⟨PR bb⟩,⟨PK U⟩,⟨PK Y⟩,⟨PK au⟩,⟨PB⟩⟩
     ·rw[if_neg bz] at H
      have ea:(((rd_T83 J D).f0.f0) == av && (((rd_T83 J D).f0.f1) == aw && (((rd_T83 J D).f0.f2) == ax)))=false:=by simpa using bz
      (try(have eb:decide (((rd_T83 J D).f0.f0)=av && (((rd_T83 J D).f0.f1) == aw && (((rd_T83 J D).f0.f2) == ax)))=false:=by simpa using bz));(try(have ec:(((rd_T83 J D).f0.f0) == av && (((rd_T83 J D).f0.f1) == aw && (((rd_T83 J D).f0.f2) == ax)))=false:=by simpa using bz));(try(have fo:¬(((rd_T83 J D).f0.f0)=av && (((rd_T83 J D).f0.f1) == aw && (((rd_T83 J D).f0.f2) == ax))):=by simpa using bz));clear bz;have H':=ak H;clear H;have bc:0≤(D:Int):=od;have bd:D < (J.length:Int):=od;obtain⟨b5,cq,cr,b7,ag,ah,ai,aj,al,X,am,ao,ap,aq,ar⟩:=at_T83 b8.out D bc bd;cases b7;replace ag:=hx_ HB ag;replace ah:=hx_ HB ah;replace ai:=hx_ HB ai;replace aj:=hx_ HB aj;replace al:=hx_ HB al;replace X:=hx_ HB X;replace am:=hx_ HB am;replace ao:=hx_ HB ao;replace ap:=hx_ HB ap;have cd:=ak ar;have ce:=ak aq;clear ar aq;replace bc:=eq_true bc;replace bd:=eq_true bd;have fp:=bf.out;have fq:=bg.out;have ft:=az.out;have fu:=ba.out;obtain⟨_,_,_,_,_,_⟩:=bc3 U;go_wp2
      repeat(go_quiet (fail);try go_wp2)
      go_roundg k1
      case measure=>have:=b9.out;omega
      case rel=>exact⟨(wrap64 (D+1)),(Z),(aa),(ab),(ac),(ae),(bh),FR,H',⟨by have:=b9.out;omega⟩,⟨PR bb⟩,⟨PK U⟩,⟨PK Y⟩,⟨PK au⟩,⟨PB⟩⟩
    ·rw[if_neg cy] at H;exact absurd H (by simp)
   ·rw[if_neg ca] at H;have d9:=decide_eq_false ca;clear ca;simp only[Option.some.injEq,Prod.mk.injEq] at H;obtain⟨rfl,rfl,rfl,rfl,rfl⟩:=H;have fv:=ba.out;have fw:=az.out;have fx:=bx.out;have fy:=bw.out;obtain⟨_,_,_,_,_,_,_,_,_,_⟩:=bc5 au;have fz:=bg.out;have f3:=bf.out;obtain⟨_,_,_,_,_,_,_,_,_,_⟩:=bc5 Y;obtain⟨el,em,rfl⟩:=Kd.R_slice bb.out;go_wp2
    repeat(go_quiet (fail);try go_wp2)
    refine bodyPost_ret (results_cell_row rfl _ _ cx 81 #[.int .i64 Z,.slice el aa.length em,.int .i64 ab,.int .i64 ac,.int .i64 ae] (0,0) _ rfl (PX Y) Tryz.underlying81 rfl KR) rfl ?_;exact⟨_,RT,RX (Rt bb.out Y) (fun _ hk=>trivial),PB⟩
attribute [local go_sem high] eqA48
def spec_l9Has.l0:Nat→List (S48)→Int→Int→Int→Int→Option (Bool)
  | 0,_,_,_,_,_=>none
  | k+1,Y,X,D,J,U=>if X < (Y.length:Int) then(if 0≤X then(if (((rd_T48 Y X).f0) == D && (((rd_T48 Y X).f1) == J && (((rd_T48 Y X).f2) == U)))=true then(some true) else(spec_l9Has.l0 k Y (wrap64 (X+1)) D J U)) else(none)) else(some false)
def spec_l9Has.f (k:Nat)(X:List (S48))(D:Int)(J:Int)(U:Int):Option (Bool):=spec_l9Has.l0 k X 0 D J U
theorem spec_l9Has.calls (k:Nat)(A0:Option Addr)(c0:Nat)(J:List (S48))(U:Int)(X:Int)(Y:Int)(r:Bool)(w:World)(ap:Kd.C k48 w A0 J.length J)(aq:J.length≤c0)(h:spec_l9Has.f k J U X Y=some r) :
  Calls Tryz.prog 105 #[.slice A0 J.length c0,.agg #[.int .i64 U,.int .i64 X,.int .i64 Y]] w fun e w'=>e = .returned (.bool r)∧Below w.heap.size w w':=by
 have bc:=Tryz.underlying48;have ar:=ak ap;have bh:=ak aq;clear ap aq;have HB:=ak (Below.refl w.heap.size w);have H:=h;clear h;unfold spec_l9Has.f at H;have H':=ak H;clear H;go_enter Tryz.func105,Tryz.ntmps105
 iterate 4 (try go_wp2_with (first|((with_reducible refine gate_dst (N:=3) rfl ?_);refine bx_ (N:=3) #[.int .i64 U,.int .i64 X,.int .i64 Y] 48 ?_;intro al hg w3 hbox hb;have ag:=ak hbox;have bb:=gy hg HB;replace HB:=bs HB hb;clear hb hbox hg));try go_quiet (fail))
 go_loopg [5] k (fun kq v5 w'=>∃(D:Int),v5 = .int .i64 D∧Aside0 (spec_l9Has.l0 kq J D U X Y=some r)∧Aside0 (kq≤k)∧Aside0 (w'.heap[al]?=some (.cells #[.int .i64 U,.int .i64 X,.int .i64 Y] 48 (0,0)))∧Aside0 (Below w.heap.size w w'))
 case atStart=>exact⟨(0),FR,H',⟨Nat.le_refl _⟩,⟨PK ag⟩,⟨PB⟩⟩
 case round =>
  clear H';(try clear c1);(try clear p2);obtain⟨D,rfl,HA,au,ag,HB⟩:=hrel
  cases gk with
  | zero=>exact absurd HA.out (by simp[spec_l9Has.l0])
  | succ k1 =>
   have H:=HA.out;clear HA;simp only[spec_l9Has.l0] at H
   by_cases c4:D < (J.length:Int)
   ·rw[if_pos c4] at H;have av:=decide_eq_true c4;clear c4
    by_cases c5:0≤D
    ·rw[if_pos c5] at H;have bf:=decide_eq_true c5;clear c5
     by_cases c6:(((rd_T48 J D).f0) == U && (((rd_T48 J D).f1) == X && (((rd_T48 J D).f2) == Y)))=true
     ·rw[if_pos c6] at H;have aw:(((rd_T48 J D).f0) == U && (((rd_T48 J D).f1) == X && (((rd_T48 J D).f2) == Y)))=true:=c6;(try(have ax:decide (((rd_T48 J D).f0)=U && (((rd_T48 J D).f1) == X && (((rd_T48 J D).f2) == Y)))=true:=by simpa using c6));(try(have ay:(((rd_T48 J D).f0) == U && (((rd_T48 J D).f1) == X && (((rd_T48 J D).f2) == Y)))=true:=by simpa using c6));clear c6;obtain rfl:=Option.some.inj H;have ac:0≤(D:Int):=od;have ae:D < (J.length:Int):=od;obtain⟨ao,ai,Z,aa,ab⟩:=at_T48 ar.out D ac ae;cases ai;replace Z:=hx_ HB Z;replace aa:=hx_ HB aa;replace ab:=hx_ HB ab;replace ac:=eq_true ac;replace ae:=eq_true ae;obtain⟨_,_,_,_,_,_⟩:=bc3 ag;go_wp2
      repeat(go_quiet (fail);try go_wp2)
      go_ret
      exact⟨RT,PB⟩
     ·rw[if_neg c6] at H
      have aw:(((rd_T48 J D).f0) == U && (((rd_T48 J D).f1) == X && (((rd_T48 J D).f2) == Y)))=false:=by simpa using c6
      (try(have ax:decide (((rd_T48 J D).f0)=U && (((rd_T48 J D).f1) == X && (((rd_T48 J D).f2) == Y)))=false:=by simpa using c6));(try(have ay:(((rd_T48 J D).f0) == U && (((rd_T48 J D).f1) == X && (((rd_T48 J D).f2) == Y)))=false:=by simpa using c6));(try(have bg:¬(((rd_T48 J D).f0)=U && (((rd_T48 J D).f1) == X && (((rd_T48 J D).f2) == Y))):=by simpa using c6));clear c6;have H':=ak H;clear H;have ac:0≤(D:Int):=od;have ae:D < (J.length:Int):=od;obtain⟨ao,ai,Z,aa,ab⟩:=at_T48 ar.out D ac ae;cases ai;replace Z:=hx_ HB Z;replace aa:=hx_ HB aa;replace ab:=hx_ HB ab;replace ac:=eq_true ac;replace ae:=eq_true ae;obtain⟨_,_,_,_,_,_⟩:=bc3 ag;go_wp2
      repeat(go_quiet (fail);try go_wp2)
      go_roundg k1
      case measure=>have:=au.out;omega
      case rel=>exact⟨(wrap64 (D+1)),FR,H',⟨by have:=au.out;omega⟩,⟨PK ag⟩,⟨PB⟩⟩
    ·rw[if_neg c5] at H;exact absurd H (by simp)
   ·rw[if_neg c4] at H;have av:=decide_eq_false c4;clear c4;obtain rfl:=Option.some.inj H;go_wp2
    repeat(go_quiet (fail);try go_wp2)
    go_ret
    exact⟨RT,PB⟩

def spec_FollowAt.l0:Nat→List (S83)→Int→List (S48)→Int→List Int→Int→Int→Int→Option (Int×List Int×Int×Int×Int×(List (S48)))
  | 0,_,_,_,_,_,_,_,_=>none
  | k+1,x0,x2,x8,X,Z,D,J,U=>if X=3 then(if (x8.length:Int)≤4 then((spec_l9Has.f k x8 D J U).bind fun ab=>(if ab=true then(some (X,Z,D,J,U,x8)) else(if x8.length < 5864062014805 then((spec_AnswerAt.f k x0 D J U x2).bind fun Y=>(spec_FollowAt.l0 k x0 x2 (x8++[(⟨D,J,U⟩:S48)]) Y.1 Y.2.1 Y.2.2.1 Y.2.2.2.1 Y.2.2.2.2)) else(none)))) else(some (X,Z,D,J,U,x8))) else(some (X,Z,D,J,U,x8))
def spec_FollowAt.f (k:Nat)(Y:List (S83))(J:Int)(U:Int)(X:Int)(Z:Int):Option (Int×List Int×Int×Int×Int×(List (S48))):=(spec_AnswerAt.f k Y J U X Z).bind fun D=>(spec_FollowAt.l0 k Y Z (([(⟨J,U,X⟩:S48)]:List (S48))) D.1 D.2.1 D.2.2.1 D.2.2.2.1 D.2.2.2.2)
theorem spec_FollowAt.calls (k:Nat)(A0:Option Addr)(c0:Nat)(l0:List (S83))(ag:Int)(ah:Int)(ai:Int)(a2:Int)(r1:Int)(r2:List Int)(r3:Int)(r4:Int)(r5:Int)(r6:List (S48))(w:World)(di:Kd.C k83 w A0 l0.length l0)(dj:l0.length≤c0)(h:spec_FollowAt.f k l0 ag ah ai a2=some (r1,r2,r3,r4,r5,r6)) :
  Calls Tryz.prog 92 #[.slice A0 l0.length c0,.agg #[.int .i64 ag,.int .i64 ah,.int .i64 ai],.int .i64 a2] w fun e w'=>∃ dk dl:Value,e = .returned (.tuple #[.agg #[.int .i64 r1,dk,.int .i64 r3,.int .i64 r4,.int .i64 r5],dl])∧Kd.R (Kd.int .i64) 3 w' w.heap.size (fun _=>True) dk r2∧Kd.R k48 48 w' w.heap.size (fun _=>True) dl r6∧Below w.heap.size w w':=by
 have fg:=Tryz.underlying48;have fh:=Tryz.underlying81;have dn:=ak di;have dp:=ak dj;clear di dj;have HB:=ak (Below.refl w.heap.size w);have H:=h;clear h;unfold spec_FollowAt.f at H;obtain⟨cm,bc⟩:∃ y_:List (S48),y_=(([(⟨ag,ah,ai⟩:S48)]:List (S48))):=⟨_,rfl⟩
 first|replace H:=bnd_ H bc|rw[←bc] at H
 have bo:=ak bc;clear bc;obtain⟨⟨cn,bm,co,bp,br⟩,A4,H⟩:=obq H;(try dsimp only at H);have H':=ak H;clear H;go_enter Tryz.func92,Tryz.ntmps92;go_wp2_with (first|((with_reducible refine gate_dst (N:=4) rfl ?_);(try(refine gate_guard (by rfl) ?_;dsimp only));refine bx_ (N:=4) #[.int .i64 ag,.int .i64 ah,.int .i64 ai] 48 ?_;intro aw hg w5 hbox hb;have aa:=ak hbox;have ef:=gy hg HB;replace HB:=bs HB hb;clear hb hbox hg)|((with_reducible refine gate_dst (N:=6) rfl ?_);(try(refine gate_guard (by rfl) ?_;dsimp only));refine bx_ (N:=6) #[.int .i64 0,.slice none 0 0,.int .i64 0,.int .i64 0,.int .i64 0] 81 ?_;intro az hg w6 hbox hb;have X:=ak hbox;have eg:=gy hg HB;replace HB:=bs HB hb;have aq:=gm hg aa;have ar:=gn hg aa;replace aa:=kf aa hb;clear hb hbox hg;have fj:=aq.out;have fk:=ar.out;obtain⟨cp,cq,cr,ct,cu,cv⟩:=bc3 aa)|((with_reducible refine gate_dst (N:=11) rfl ?_);(try(refine gate_guard (by rfl) ?_;dsimp only));refine Kd.R_lit k48 _ 48 ?hg (N:=11) ?hd (xs:=([(⟨ag,ah,ai⟩:S48)]:List (S48))) (inner:=[.int .i64 ag,.int .i64 ah,.int .i64 ai]) (ok:=fun _=>True) (okp:=fun _=>True) ?hr ?hp (fun _ hk=>hk) trivial (Below.refl _ _) (Nat.le_refl _) (by simp) ?_;(case hd=>rfl);(case hg=>rfl);(case hr=>first|(go_simp;done)|(go_simp;rfl));(case hp=>exact(Reps.c3 (show Kd.M k48 _ _ _ (⟨ag,ah,ai⟩:S48) [.int .i64 ag,.int .i64 ah,.int .i64 ai] from(k48_mkM _ _ _ (⟨ag,ah,ai⟩:S48))) (Reps.none _ _)));intro fl w9 ho10 hb hg_ hnew_;clear hg_ hnew_;(first|rw[←bo.out] at ho10|(simp only[Int.reduceToNat] at ho10;rw[←bo.out] at ho10));have ba:=ak (Kd.R_lower (Kd.R_newB ho10 (g:=aw) (o:=.cells #[.int .i64 ag,.int .i64 ah,.int .i64 ai] 48 (0,0)) (PK aa)) (below_size PB));replace aa:=kf aa hb;replace X:=kf X hb;replace HB:=bs HB hb;clear hb ho10;obtain⟨b5,b6,b7,b8,b9,ca⟩:=bc3 aa)|(go_at_call 104;(with_reducible refine(spec_AnswerAt.calls k _ _ l0 ag ah ai a2 cn bm co bp br _ ?side1 dp.out A4.out).mono ?_);(case side1=>exact Cq dn);rintro e fv ⟨fm,rfl,ho0,hb⟩;replace ba:=Rb ba hb;have bd:=Rn0 ho0 HB;replace aa:=kf aa hb;replace X:=kf X hb;replace HB:=bs HB hb;clear hb ho0)|((with_reducible refine gate_dst (N:=9) rfl ?_);(try(refine gate_guard (by rfl) ?_;dsimp only));refine bx_ (N:=9) #[.int .i64 0,.slice none 0 0,.int .i64 0,.int .i64 0,.int .i64 0] 81 ?_;intro bk hg fw hbox hb;replace ba:=Rb ba hb;replace bd:=Rb bd hb;have Y:=ak hbox;have ed:=gy hg HB;replace HB:=bs HB hb;have aj:=gm hg aa;have al:=gn hg aa;replace aa:=kf aa hb;have am:=gm hg X;have ao:=gn hg X;replace X:=kf X hb;clear hb hbox hg;have eh:=al.out;have ei:=aj.out;have ej:=ao.out;have ek:=am.out;obtain⟨cb,cd,ce,cf,cg,ch,ci,cj,ck,cl⟩:=bc5 Y;obtain⟨du,dv,rfl⟩:=Kd.R_slice bd.out))
 go_loopg [8] k (fun kq v8 w'=>∃(ap:List (S48))(ab:Int)(ae:List Int)(D:Int)(J:Int)(U:Int)(au:Value),Aside0 (spec_FollowAt.l0 kq l0 a2 ap ab ae D J U=some (r1,r2,r3,r4,r5,r6))∧Aside0 (kq≤k)∧Aside0 (Kd.R k48 48 w' w.heap.size (fun k_=>k_≠aw) v8 ap)∧Aside0 (Kd.R (Kd.int .i64) 3 w' w.heap.size (fun _=>True) au ae)∧Aside0 (w'.heap[aw]?=some (.cells #[.int .i64 ag,.int .i64 ah,.int .i64 ai] 48 (0,0)))∧Aside0 (w'.heap[az]?=some (.cells #[.int .i64 0,(.slice none 0 0),.int .i64 0,.int .i64 0,.int .i64 0] 81 (0,0)))∧Aside0 (w'.heap[bk]?=some (.cells #[.int .i64 ab,au,.int .i64 D,.int .i64 J,.int .i64 U] 81 (0,0)))∧Aside0 (Below w.heap.size w w'))
 case atStart=>exact⟨(cm),(cn),(bm),(co),(bp),(br),(.slice du bm.length dv),H',⟨Nat.le_refl _⟩,⟨RX (Rt ba.out Y) (fun _ hk=>by first|exact hk.1.2 | simp_all)⟩,⟨RX (Rt bd.out Y) (fun _ hk=>trivial)⟩,⟨PF aa⟩,⟨PF X⟩,⟨PX Y⟩,⟨PB⟩⟩
 case round =>
  clear H';(try clear c1);(try clear p2);(try clear c3);(try clear c7);(try clear c9);(try clear fx);(try clear fy);(try clear fz);(try clear b5);(try clear b6);(try clear b7);(try clear cb);(try clear cd);(try clear ce);(try clear cf);(try clear cg);(try clear cp);(try clear cq);(try clear cr);(try clear b8);(try clear b9);(try clear ca);(try clear ch);(try clear ci);(try clear cj);(try clear ck);(try clear cl);(try clear ct);(try clear cu);(try clear cv);obtain⟨ap,ab,ae,D,J,U,au,HA,dr,ac,Z,aa,X,Y,HB⟩:=hrel
  cases gk with
  | zero=>exact absurd HA.out (by simp[spec_FollowAt.l0])
  | succ k1 =>
   have H:=HA.out;clear HA;simp only[spec_FollowAt.l0] at H
   by_cases bg:ab=3
   ·rw[if_pos bg] at H;obtain⟨db,dc⟩:=eqq1 bg;clear bg
    by_cases bi:(ap.length:Int)≤4
    ·rw[if_pos bi] at H;have de:=decide_eq_true bi;have df:decide (ap.length≤4)=true:=decide_eq_true (by omega);clear bi;obtain⟨dg,dt,H⟩:=obq H;(try dsimp only at H)
     by_cases bu:dg=true
     ·subst bu;rw[if_pos rfl] at H;simp only[Option.some.injEq,Prod.mk.injEq] at H;obtain⟨rfl,rfl,rfl,rfl,rfl,rfl⟩:=H;have el:=al.out;have em:=aj.out;have en:=ao.out;have eo:=am.out;obtain⟨_,_,_,_,_,_,_,_,_,_⟩:=bc5 Y;obtain⟨fp,fq,rfl⟩:=Kd.R_slice ac.out;go_wp2_with (first|(go_at_call 105;(with_reducible refine(spec_l9Has.calls k1 _ _ ap D J U true _ ?side1 (rl ac) dt.out).mono ?_);(case side1=>exact CR (rr ac));rintro e f0 ⟨rfl,hb⟩;replace ac:=Rb ac hb;replace Z:=Rb Z hb;replace X:=kf X hb;replace Y:=kf Y hb;replace HB:=bs HB hb;clear hb;obtain⟨_,_,_,_,_,_,_,_,_,_⟩:=bc5 Y;have ep:=ar.out;have eq:=aq.out;obtain⟨_,_,_,_,_,_,_,_,_,_⟩:=bc5 X;obtain⟨dw,dx,rfl⟩:=Kd.R_slice Z.out));refine bodyPost_ret (results_ct rfl _ _ az 81 #[.int .i64 ab,.slice dw ae.length dx,.int .i64 D,.int .i64 J,.int .i64 U] (0,0) _ rfl (PX X) Tryz.underlying81 rfl KR) rfl ?_;exact⟨_,_,RT,RX (Rt Z.out X) (fun _ hk=>trivial),RX (Rt ac.out X) (fun _ hk=>trivial),PB⟩
     ·replace bu:=Bool.eq_false_iff.mpr bu;subst bu;rw[if_neg nft] at H
      by_cases bv:ap.length < 5864062014805
      ·rw[if_pos bv] at H;have dh:=ak bv;clear bv;obtain⟨bw,bb⟩:∃ y_:List (S48),y_=(ap++[(⟨D,J,U⟩:S48)]):=⟨_,rfl⟩
       first|replace H:=bnd_ H bb|rw[←bb] at H
       have cx:=ak bb;clear bb;obtain⟨⟨bx,bj,bz,b0,b4⟩,ee,H⟩:=obq H;(try dsimp only at H);have H':=ak H;clear H;have er:=al.out;have es:=aj.out;have et:=ao.out;have eu:=am.out;obtain⟨_,_,_,_,_,_,_,_,_,_⟩:=bc5 Y;obtain⟨dy,dz,rfl⟩:=Kd.R_slice ac.out;go_wp2_with (first|(go_at_call 105;(with_reducible refine(spec_l9Has.calls k1 _ _ ap D J U false _ ?side1 (rl ac) dt.out).mono ?_);(case side1=>exact CR (rr ac));rintro e f1 ⟨rfl,hb⟩;replace ac:=Rb ac hb;replace Z:=Rb Z hb;replace aa:=kf aa hb;replace X:=kf X hb;replace Y:=kf Y hb;replace HB:=bs HB hb;clear hb;obtain⟨_,_,_,_,_,_,_,_,_,_⟩:=bc5 Y)|((with_reducible refine gate_builtin (b:=.append) (xs:=#[.tmp 31,.tmp 34]) rfl ?_);(try(refine gate_guard (by rfl) ?_;dsimp only));at_builtin;refine Kd.R_append k48 (w0:=w) w.heap.size rfl (.tmp 31) (.tmp 34) 104 48 (.agg #[(.int .i64 0),(.int .i64 0),(.int .i64 0)]) 24 rfl Tryz.underlying104 info48 rfl (by decide) (by omega) (.slice dy ap.length dz) ap (⟨D,J,U⟩:S48) [.int .i64 D,.int .i64 J,.int .i64 U] (fun k_=>k_≠aw) (fun _=>False) rfl rfl ?aP (fun _ hk=>hk.elim) ?aF ?aO ?aB ?aS ?aL ?_;(case aP=>exact k48_mkM _ _ _ (⟨D,J,U⟩:S48));(case aB=>exact PB);(case aF=>exact(fun k_ hk=>Kd.freshB (g:=aw) (o:=.cells #[.int .i64 ag,.int .i64 ah,.int .i64 ai] 48 (0,0)) (PK aa) k_ hk));(case aO=>exact(PR ac));(case aS=>exact(below_size PB));(case aL=>have:=dh.out;omega);intro ev f2 ho hb hg hat;rw[←cx.out] at ho;replace Z:=ak (Kd.R_over' (PR Z) (Kd.R_typed (PR ac)) (by decide) hg);replace aa:=ak (blk_grown (g:=aw) (o:=.cells #[.int .i64 ag,.int .i64 ah,.int .i64 ai] 48 (0,0)) (PK aa) hg (Kd.R_away ac.out (fun _ hk=>hk)));replace X:=ak (blk_grown (g:=az) (o:=.cells #[.int .i64 0,.slice none 0 0,.int .i64 0,.int .i64 0,.int .i64 0] 81 (0,0)) (PK X) hg (Kd.R_ne ac.out X.out (by decide)));replace Y:=ak (blk_grown (g:=bk) (o:=.cells #[.int .i64 ab,au,.int .i64 D,.int .i64 J,.int .i64 U] 81 (0,0)) (PK Y) hg (Kd.R_ne ac.out Y.out (by decide)));replace HB:=ak hb;have bh:=ak (ho);clear ac;clear ho hb hg hat;obtain⟨_,_,_,_,_,_,_,_,_,_⟩:=bc5 Y)|(go_at_call 104;(with_reducible refine(spec_AnswerAt.calls k1 _ _ l0 D J U a2 bx bj bz b0 b4 _ ?side1 dp.out ee.out).mono ?_);(case side1=>exact Cq dn);rintro e f3 ⟨ew,rfl,ho0,hb⟩;replace bh:=Rb bh hb;have bl:=Rn1 ho0 HB Z;replace aa:=kf aa hb;replace X:=kf X hb;replace Y:=kf Y hb;replace HB:=bs HB hb;clear hb ho0;obtain⟨_,_,_,_,_,_,_,_,_,_⟩:=bc5 Y;obtain⟨d7,d8,rfl⟩:=Kd.R_slice bl.out))
       go_roundg k1
       case measure=>have:=dr.out;omega
       case rel=>exact⟨(bw),(bx),(bj),(bz),(b0),(b4),(.slice d7 bj.length d8),H',⟨by have:=dr.out;omega⟩,⟨Re1 bh Y⟩,⟨RX (Rt bl.out Y) (fun _ hk=>trivial)⟩,⟨PF aa⟩,⟨PF X⟩,⟨PX Y⟩,⟨PB⟩⟩
      ·rw[if_neg bv] at H;exact absurd H (by simp)
    ·rw[if_neg bi] at H;have de:=decide_eq_false bi;have df:decide (ap.length≤4)=false:=decide_eq_false (by omega);clear bi;simp only[Option.some.injEq,Prod.mk.injEq] at H;obtain⟨rfl,rfl,rfl,rfl,rfl,rfl⟩:=H;have ex:=al.out;have ey:=aj.out;have ez:=ao.out;have e7:=am.out;obtain⟨_,_,_,_,_,_,_,_,_,_⟩:=bc5 Y;obtain⟨ft,fu,rfl⟩:=Kd.R_slice ac.out;have e8:=ar.out;have e9:=aq.out;obtain⟨_,_,_,_,_,_,_,_,_,_⟩:=bc5 X;obtain⟨d9,ea,rfl⟩:=Kd.R_slice Z.out;go_wp2;refine bodyPost_ret (results_ct rfl _ _ az 81 #[.int .i64 ab,.slice d9 ae.length ea,.int .i64 D,.int .i64 J,.int .i64 U] (0,0) _ rfl (PX X) Tryz.underlying81 rfl KR) rfl ?_;exact⟨_,_,RT,RX (Rt Z.out X) (fun _ hk=>trivial),RX (Rt ac.out X) (fun _ hk=>trivial),PB⟩
   ·rw[if_neg bg] at H;obtain⟨db,dc⟩:=eqq2 bg;simp only[Option.some.injEq,Prod.mk.injEq] at H;obtain⟨rfl,rfl,rfl,rfl,rfl,rfl⟩:=H;have fa:=al.out;have fb:=aj.out;have fc:=ao.out;have fd:=am.out;obtain⟨_,_,_,_,_,_,_,_,_,_⟩:=bc5 Y;have fe:=ar.out;have ff:=aq.out;obtain⟨_,_,_,_,_,_,_,_,_,_⟩:=bc5 X;obtain⟨eb,ec,rfl⟩:=Kd.R_slice Z.out;go_wp2;refine bodyPost_ret (results_ct rfl _ _ az 81 #[.int .i64 ab,.slice eb ae.length ec,.int .i64 D,.int .i64 J,.int .i64 U] (0,0) _ rfl (PX X) Tryz.underlying81 rfl KR) rfl ?_;exact⟨_,_,RT,RX (Rt Z.out X) (fun _ hk=>trivial),RX (Rt ac.out X) (fun _ hk=>trivial),PB⟩
def spec_Min.f (D:Int)(J:Int):Option (Int):=if J < D then(some J) else(some D)
theorem spec_Min.calls (J:Int)(U:Int)(r:Int)(w:World)(h:spec_Min.f J U=some r) :
  Calls Tryz.prog 94 #[.int .i64 J,.int .i64 U] w fun e w'=>e = .returned (.int .i64 r)∧Drawn0 w w':=by
 have H:=h;clear h;unfold spec_Min.f at H
 by_cases D:U < J
 ·rw[if_pos D] at H;have X:=decide_eq_true D;clear D;obtain rfl:=Option.some.inj H;go_enter Tryz.func94,Tryz.ntmps94;go_wp2
  go_ret
  exact⟨FR,by repeat(first|exact Drawn0.refl _ | apply Drawn0.step)⟩
 ·rw[if_neg D] at H;have X:=decide_eq_false D;clear D;obtain rfl:=Option.some.inj H;go_enter Tryz.func94,Tryz.ntmps94;go_wp2
  go_ret
  exact⟨FR,by repeat(first|exact Drawn0.refl _ | apply Drawn0.step)⟩
mutual
def spec_ValueOfResource.j0:Nat→Bool→Int→List Int→Int→Int→Int→Option (Int)
  | 0,_,_,_,_,_,_=>none
  | k+1,Z,D,J,U,X,Y=>if Z=true then(some 0) else(spec_ValueOfResource.l0 k 0 0 D J U X Y)
def spec_ValueOfResource.l0:Nat→Int→Int→Int→List Int→Int→Int→Int→Option (Int)
  | 0,_,_,_,_,_,_,_=>none
  | k+1,x3,Z,J,D,U,X,Y=>if Z < (D.length:Int) then(if 0≤Z then(spec_ValueOfResource.l0 k (Int.tmod (wrap64 (x3+(rd D Z))) 1000) (wrap64 (Z+1)) J D U X Y) else(none)) else((spec_Min.f 999 (wrap64 (x3+1))).bind fun aa=>(some aa))
end
def spec_ValueOfResource.f (k:Nat)(D:Int)(J:List Int)(U:Int)(X:Int)(Y:Int):Option (Int):=(spec_IsResource.f k D J U X Y).bind fun Z=>(if Z=true then(spec_ValueOfResource.j0 k (decide (D > 2)) D J U X Y) else(spec_ValueOfResource.j0 k true D J U X Y))
theorem spec_ValueOfResource.calls (k:Nat)(X:Int)(ab:Option Addr)(ac:Nat)(J:List Int)(Y:Int)(Z:Int)(aa:Int)(r:Int)(w:World)(b5:Kd.C (Kd.int .i64) w ab J.length J)(b6:J.length≤ac)(h:spec_ValueOfResource.f k X J Y Z aa=some r) :
  Calls Tryz.prog 93 #[.agg #[.int .i64 X,.slice ab J.length ac,.int .i64 Y,.int .i64 Z,.int .i64 aa]] w fun e w'=>e = .returned (.int .i64 r)∧Below w.heap.size w w':=by
 have de:=Tryz.underlying81;have aj:=ak b5;have b7:=ak b6;clear b5 b6;have HB:=ak (Below.refl w.heap.size w);have H:=h;clear h;unfold spec_ValueOfResource.f at H;have ca:=ak H;clear H;go_enter Tryz.func93,Tryz.ntmps93
 go_upto_region 1 with (first|((with_reducible refine gate_dst (N:=1) rfl ?_);refine bx_ (N:=1) #[.int .i64 X,.slice ab J.length ac,.int .i64 Y,.int .i64 Z,.int .i64 aa] 81 ?_;intro ao hg w3 hbox hb;have D:=ak hbox;have cv:=gy hg HB;replace HB:=bs HB hb;clear hb hbox hg))
 (try simp only[Act.put,List.setIfInBounds_toArray,List.set_cons_zero,List.set_cons_succ])
 go_cut [12] (fun cw wc=>∃(kq:Nat)(ag:Bool),cw = .bool ag∧Aside0 (spec_ValueOfResource.j0 kq ag X J Y Z aa=some r)∧Aside0 (kq≤k)∧Aside0 (wc.heap[ao]?=some (.cells #[.int .i64 X,(.slice ab J.length ac),.int .i64 Y,.int .i64 Z,.int .i64 aa] 81 (0,0)))∧Aside0 (Below w.heap.size w wc))
 case first =>
  have H:=ca.out;clear ca;obtain⟨cd,A4,H⟩:=obq H;(try dsimp only at H)
  by_cases c5:cd=true
  ·subst c5;rw[if_pos rfl] at H;have H':=ak H;clear H;obtain⟨ap,aq,ar,au,av,aw,ax,ay,az,ba⟩:=bc5 D;go_wp2_with (first|(go_at_call 102;(with_reducible refine(spec_IsResource.calls k X _ _ J Y Z aa true _ ?side1 b7.out A4.out).mono ?_);(case side1=>exact Cq aj);rintro e w7 ⟨rfl,hb⟩;replace D:=kf D hb;replace HB:=bs HB hb;clear hb;obtain⟨bb,bc,bd,bf,bg,bh,bi,bj,bk,bl⟩:=bc5 D))
   go_meet
   case rel=>exact⟨_,(decide (X > 2)),FR,H',⟨by first|omega | exact Nat.le_refl _⟩,⟨PK D⟩,⟨PB⟩⟩
  ·replace c5:=Bool.eq_false_iff.mpr c5;subst c5;rw[if_neg nft] at H;have H':=ak H;clear H;obtain⟨bm,bo,bp,br,bu,bv,bw,bx,bz,b0⟩:=bc5 D;go_wp2_with (first|(go_at_call 102;(with_reducible refine(spec_IsResource.calls k X _ _ J Y Z aa false _ ?side1 b7.out A4.out).mono ?_);(case side1=>exact Cq aj);rintro e dj ⟨rfl,hb⟩;replace D:=kf D hb;replace HB:=bs HB hb;clear hb))
   go_meet
   case rel=>exact⟨_,(true),FR,H',⟨by first|omega | exact Nat.le_refl _⟩,⟨PK D⟩,⟨PB⟩⟩
 case rest =>
  clear ca;(try clear c1);(try clear p2);(try clear c5);(try clear c9);(try clear cz);(try clear ap);(try clear aq);(try clear ar);(try clear au);(try clear av);(try clear bb);(try clear bc);(try clear bd);(try clear bf);(try clear bg);(try clear bm);(try clear bo);(try clear bp);(try clear br);(try clear bu);(try clear aw);(try clear ax);(try clear ay);(try clear az);(try clear ba);(try clear bh);(try clear bi);(try clear bj);(try clear bk);(try clear bl);(try clear bv);(try clear bw);(try clear bx);(try clear bz);(try clear b0);obtain⟨kq,ag,rfl,HA,ci,D,HB⟩:=hcut
  cases kq with
  | zero=>exact absurd HA.out (by simp[spec_ValueOfResource.j0])
  | succ kj1 =>
   have H:=HA.out;clear HA;simp only[spec_ValueOfResource.j0] at H
   by_cases b4:ag=true
   ·subst b4;rw[if_pos rfl] at H;obtain rfl:=Option.some.inj H;go_wp2
    go_ret
    exact⟨RT,PB⟩
   ·replace b4:=Bool.eq_false_iff.mpr b4;subst b4;rw[if_neg nft] at H;have H':=ak H;clear H;go_wp2
    go_loopg [3,4] kj1 (fun kq v3 v4 w'=>∃(ae:Int)(U:Int),v3 = .int .i64 ae∧v4 = .int .i64 U∧Aside0 (spec_ValueOfResource.l0 kq ae U X J Y Z aa=some r)∧Aside0 (kq≤kj1)∧Aside0 (w'.heap[ao]?=some (.cells #[.int .i64 X,(.slice ab J.length ac),.int .i64 Y,.int .i64 Z,.int .i64 aa] 81 (0,0)))∧Aside0 (Below w.heap.size w w'))
    case atStart=>exact⟨(0),(0),FR,FR,H',⟨Nat.le_refl _⟩,⟨PK D⟩,⟨PB⟩⟩
    case round =>
     clear H';(try clear c1);(try clear p2);(try clear c5);(try clear c9);(try clear cz);(try clear b4);(try clear ap);(try clear aq);(try clear ar);(try clear au);(try clear av);(try clear bb);(try clear bc);(try clear bd);(try clear bf);(try clear bg);(try clear bm);(try clear bo);(try clear bp);(try clear br);(try clear bu);(try clear aw);(try clear ax);(try clear ay);(try clear az);(try clear ba);(try clear bh);(try clear bi);(try clear bj);(try clear bk);(try clear bl);(try clear bv);(try clear bw);(try clear bx);(try clear bz);(try clear b0);(try clear p2);obtain⟨ae,U,rfl,rfl,HA,cj,D,HB⟩:=hrel
     cases gk with
     | zero=>exact absurd HA.out (by simp[spec_ValueOfResource.l0])
     | succ k2 =>
      have H:=HA.out;clear HA;simp only[spec_ValueOfResource.l0] at H
      by_cases ai:U < (J.length:Int)
      ·rw[if_pos ai] at H;have ce:=decide_eq_true ai;clear ai
       by_cases b8:0≤U
       ·rw[if_pos b8] at H;have dc:=decide_eq_true b8;clear b8;have H':=ak H;clear H;obtain⟨_,_,_,_,_,_,_,_,_,_⟩:=bc5 D;have al:0≤(U:Int):=od;have am:U < (J.length:Int):=od;obtain⟨da,cf,ah⟩:=Kd.at_int aj.out U al am;cases cf;replace ah:=hx_ HB ah;replace al:=eq_true al;replace am:=eq_true am;go_wp2
        go_roundg k2
        case measure=>have:=ci.out;have:=cj.out;omega
        case rel=>exact⟨(Int.tmod (wrap64 (ae+(rd J U))) 1000),(wrap64 (U+1)),FR,FR,H',⟨by have:=ci.out;have:=cj.out;omega⟩,⟨PK D⟩,⟨PB⟩⟩
       ·rw[if_neg b8] at H;exact absurd H (by simp)
      ·rw[if_neg ai] at H;have ce:=decide_eq_false ai;clear ai;obtain⟨cg,db,H⟩:=obq H;(try dsimp only at H);obtain rfl:=Option.some.inj H;obtain⟨ck,cl,cm,cn,co,cp,cq,cr,ct,cu⟩:=bc5 D;go_wp2_with (first|(go_at_call 94;(with_reducible refine(spec_Min.calls 999 (wrap64 (ae+1)) cg _ db.out).mono ?_);rintro e w' ⟨rfl,⟨nd,rfl⟩⟩))
       go_ret
       exact⟨RT,PB⟩
def spec_Mod.f (U:Int)(D:Int):Option (Int):=(spec_l1In.f D 1 1000000000000).bind fun J=>(if J=true then(if D=0 then(none) else(some (Int.tmod (wrap64 ((Int.tmod U D)+D)) D))) else(some 0))
theorem spec_Mod.calls (Z:Int)(D:Int)(r:Int)(w:World)(h:spec_Mod.f Z D=some r) :
  Calls Tryz.prog 95 #[.int .i64 Z,.int .i64 D] w fun e w'=>e = .returned (.int .i64 r)∧Drawn0 w w':=by
 have H:=h;clear h;unfold spec_Mod.f at H;obtain⟨J,A3,H⟩:=obq H;(try dsimp only at H)
 by_cases U:J=true
 ·subst U;rw[if_pos rfl] at H
  by_cases X:D=0
  ·rw[if_pos X] at H;exact absurd H (by simp)
  ·rw[if_neg X] at H;obtain⟨ab,ac⟩:=eqq2 X;obtain rfl:=Option.some.inj H;go_enter Tryz.func95,Tryz.ntmps95;go_wp2_with (first|(go_at_call 88;(with_reducible refine(spec_l1In.calls D 1 1000000000000 true _ A3.out).mono ?_);rintro e w' ⟨rfl,⟨nd,rfl⟩⟩))
   go_ret
   exact⟨FR,by repeat(first|exact Drawn0.refl _ | apply Drawn0.step)⟩
 ·replace U:=Bool.eq_false_iff.mpr U;subst U;rw[if_neg nft] at H;obtain rfl:=Option.some.inj H;go_enter Tryz.func95,Tryz.ntmps95;go_wp2_with (first|(go_at_call 88;(with_reducible refine(spec_l1In.calls D 1 1000000000000 false _ A3.out).mono ?_);rintro e w' ⟨rfl,⟨nd,rfl⟩⟩))
  go_ret
  exact⟨FR,by repeat(first|exact Drawn0.refl _ | apply Drawn0.step)⟩
def spec_Hash.l0:Nat→List Int→Int→Int→Option (Int)
  | 0,_,_,_=>none
  | k+1,U,X,D=>if D < (U.length:Int) then(if 0≤D then((spec_Mod.f (rd U D) 2147483647).bind fun J=>(spec_Hash.l0 k U (Int.tmod (wrap64 ((wrap64 ((wrap64 (X * 1000003))+J))+13)) 2147483647) (wrap64 (D+1)))) else(none)) else(some X)
def spec_Hash.f (k:Nat)(D:List Int):Option (Int):=spec_Hash.l0 k D 11 0
theorem spec_Hash.calls (k:Nat)(A0:Option Addr)(c0:Nat)(J:List Int)(r:Int)(w:World)(ae:Kd.C (Kd.int .i64) w A0 J.length J)(ag:J.length≤c0)(h:spec_Hash.f k J=some r) :
  Calls Tryz.prog 96 #[.slice A0 J.length c0] w fun e w'=>e = .returned (.int .i64 r)∧Drawn0 w w':=by
 have ap:=ak ae;have ax:=ak ag;clear ae ag;have H:=h;clear h;unfold spec_Hash.f at H;have H':=ak H;clear H;go_enter Tryz.func96,Tryz.ntmps96;go_wp2
 go_loopg [3,4] k (fun kq v3 v4 w'=>∃(U:Int)(D:Int),v3 = .int .i64 U∧v4 = .int .i64 D∧Aside0 (spec_Hash.l0 kq J U D=some r)∧Aside0 (kq≤k)∧Drawn0 w w')
 case atStart=>exact⟨(11),(0),FR,FR,H',⟨Nat.le_refl _⟩,by repeat(first|exact Drawn0.refl _ | apply Drawn0.step)⟩
 case round =>
  clear H';obtain⟨U,D,rfl,rfl,HA,ah,⟨m1,rfl⟩⟩:=hrel
  cases gk with
  | zero=>exact absurd HA.out (by simp[spec_Hash.l0])
  | succ k1 =>
   have H:=HA.out;clear HA;simp only[spec_Hash.l0] at H
   by_cases c2:D < (J.length:Int)
   ·rw[if_pos c2] at H;have aj:=decide_eq_true c2;clear c2
    by_cases c3:0≤D
    ·rw[if_pos c3] at H;have av:=decide_eq_true c3;clear c3;obtain⟨Z,A4,H⟩:=obq H;(try dsimp only at H);have H':=ak H;clear H;have X:0≤(D:Int):=od;have Y:D < (J.length:Int):=od;obtain⟨aq,ac,al⟩:=Kd.at_int ap.out D X Y;cases ac;replace X:=eq_true X;replace Y:=eq_true Y;go_wp2_with (first|(go_at_call 95;(with_reducible refine(spec_Mod.calls (rd J D) 2147483647 Z _ A4.out).mono ?_);rintro e w' ⟨rfl,⟨nd,rfl⟩⟩))
     go_roundg k1
     case measure=>have:=ah.out;omega
     case rel=>exact⟨(Int.tmod (wrap64 ((wrap64 ((wrap64 (U * 1000003))+Z))+13)) 2147483647),(wrap64 (D+1)),FR,FR,H',⟨by have:=ah.out;omega⟩,by repeat(first|exact Drawn0.refl _ | apply Drawn0.step)⟩
    ·rw[if_neg c3] at H;exact absurd H (by simp)
   ·rw[if_neg c2] at H;have aj:=decide_eq_false c2;clear c2;obtain rfl:=Option.some.inj H;go_wp2
    go_ret
    exact⟨FR,by repeat(first|exact Drawn0.refl _ | apply Drawn0.step)⟩

end Go.Proofs.YteemhimikamihaaGreat.MFnReplays
