import Derived.Test.YteemhimikamihaaGreatShr2
import Derived.Test.YteemhimikamihaaGreatMFnReplaysx0
import Derived.Test.YteemhimikamihaaGreatMFnReplaysx5
import Derived.Test.YteemhimikamihaaGreatMFnReplaysx1
import Derived.Test.YteemhimikamihaaGreatMFnReplaysx4
namespace Go.Proofs.YteemhimikamihaaGreat.MFnReplays
open Go.RowKit Go.Proofs.YteemhimikamihaaGreatW.PrintWords Go.Proofs.YteemhimikamihaaGreatW.PrintLast Go.Proofs.YteemhimikamihaaGreatW.PrintMore
attribute [local go_sem] max2_int min2_int max_two min_two max_three min_three max_four min_four
set_option linter.unusedVariables false
set_option maxHeartbeats 8000000
set_option maxRecDepth 100000
set_option linter.unusedSimpArgs false

def impl_WantOf.j0:Nat→List (S57)→Bool→Int→List Int→List Int→List Int→Option (Int×Int×Int×Int)
  | 0,_,_,_,_,_,_=>none
  | k+1,U,Z,D,J,X,Y=>if Z=true then(some (0,0,0,0)) else(if 0≤D then(if D < (U.length:Int) then(if ((rd_T57 U D).f0)=1 then(if 0≤((rd_T57 U D).f1) then(if ((rd_T57 U D).f1) < (J.length:Int) then(some ((rd_T57 U D).f0,(rd_T57 U D).f2,(rd_T57 U D).f3,Int.tmod (rd J ((rd_T57 U D).f1)) 100)) else(none)) else(none)) else(some ((rd_T57 U D).f0,0,0,0))) else(none)) else(none))
def impl_WantOf.f (k:Nat)(Y:List (S57))(D:Int)(J:List Int)(U:List Int)(X:List Int):Option (Int×Int×Int×Int):=(impl_canStep.f k Y D J U X).bind fun Z=>(if Z=true then(if 0≤D then(if D < (Y.length:Int) then((impl_Asks.f ((rd_T57 Y D).f0)).bind fun aa=>(impl_WantOf.j0 k Y (!aa) D J U X)) else(none)) else(none)) else(impl_WantOf.j0 k Y true D J U X))
def impl_WantOf.T6:Bool×List (List Nat×List Nat):=(true,[([],[]),([0],[0]),([],[]),([2],[2]),([],[]),([4],[4]),([],[]),([6],[6]),([5,7],[5,7]),([8],[8]),([9],[9]),([1,3,10],[1,3,10]),([0,1,2,3,4,5,6,7,8,9,10,11],[]),([12,11,0,1,2,3,4,5,6,7,8,9,10,11],[11,12])])
def impl_WantOf.B6:List Nat:=[0,1,0,4,0,16,0,64,240,496,1008,2047,4095,8191]
theorem impl_WantOf.tab6:rtab .any (opsOf Tryz.f46 6)=impl_WantOf.T6:=by kernel_rfl
theorem impl_WantOf.bits6:waitsOk impl_WantOf.T6.2 impl_WantOf.B6=true:=by kernel_rfl
theorem impl_WantOf.calls (k:Nat)(A0:Option Addr)(c0:Nat)(l0:List (S57))(D:Int)(bb:Option Addr)(aw:Nat)(ac:List Int)(ax:Option Addr)(ay:Nat)(ag:List Int)(az:Option Addr)(ba:Nat)(ah:List Int)(r1:Int)(r2:Int)(r3:Int)(r4:Int)(w:World)(ef:Kd.C k57 w A0 l0.length l0)(eg:l0.length≤c0)(ca:Kd.C (Kd.int .i64) w bb ac.length ac)(cb:ac.length≤aw)(cd:Kd.C (Kd.int .i64) w ax ag.length ag)(ce:ag.length≤ay)(cf:Kd.C (Kd.int .i64) w az ah.length ah)(cg:ah.length≤ba)(h:impl_WantOf.f k l0 D ac ag ah=some (r1,r2,r3,r4)) :
  Calls Tryz.prog 46 #[.slice A0 l0.length c0,.agg #[.int .i64 D,.slice bb ac.length aw,.slice ax ag.length ay,.slice az ah.length ba]] w fun e w'=>e = .returned (.agg #[.int .i64 r1,.int .i64 r2,.int .i64 r3,.int .i64 r4])∧Below w.heap.size w w':=by
 have f7:=Tryz.underlying35;have f8:=Tryz.underlying89;have f9:=Tryz.underlying57;have ga:=Tryz.underlying48;have b5:=ak ef;have eh:=ak eg;clear ef eg;have bz:=ak ca;have ch:=ak cb;clear ca cb;have ci:=ak cd;have cj:=ak ce;clear cd ce;have ck:=ak cf;have cl:=ak cg;clear cf cg;have HB:=ak (Below.refl w.heap.size w);have H:=h;clear h;unfold impl_WantOf.f at H;have dv:=ak H;clear H;go_enter Tryz.func46,Tryz.ntmps46
 go_upto_region 1 with (first|((with_reducible refine gate_dst (N:=3) rfl ?_);refine bx_ (N:=3) #[.int .i64 D,.slice bb ac.length aw,.slice ax ag.length ay,.slice az ah.length ba] 35 ?_;intro ai hg w4 hbox hb;have U:=ak hbox;have es:=gy hg HB;replace HB:=bs HB hb;clear hb hbox hg)|((with_reducible refine gate_dst (N:=4) rfl ?_);refine bx_ (N:=4) #[.int .i64 0,.int .i64 0,.int .i64 0,.int .i64 0] 89 ?_;intro am hg w5 hbox hb;have X:=ak hbox;have et:=gy hg HB;replace HB:=bs HB hb;have au:=gm hg U;have av:=gn hg U;replace U:=kf U hb;clear hb hbox hg))
 (try simp only[Act.put,List.setIfInBounds_toArray,List.set_cons_zero,List.set_cons_succ])
 go_cut [20] (fun eo wc=>∃(kq:Nat)(bw:Bool),eo = .bool bw∧Aside0 (impl_WantOf.j0 kq l0 bw D ac ag ah=some (r1,r2,r3,r4))∧Aside0 (kq≤k)∧Aside0 (wc.heap[ai]?=some (.cells #[.int .i64 D,(.slice bb ac.length aw),(.slice ax ag.length ay),(.slice az ah.length ba)] 35 (0,0)))∧Aside0 (wc.heap[am]?=some (.cells #[.int .i64 0,.int .i64 0,.int .i64 0,.int .i64 0] 89 (0,0)))∧Aside0 (Below w.heap.size w wc))
 case first =>
  have H:=dv.out;clear dv;obtain⟨ek,A6,H⟩:=obq H;(try dsimp only at H)
  by_cases c7:ek=true
  ·subst c7;rw[if_pos rfl] at H
   by_cases c8:0≤D
   ·rw[if_pos c8] at H;have b6:=decide_eq_true c8;clear c8;(first|rw[b6]|(simp only[i64_w,i32_w];rw[b6])|skip)
    by_cases c9:D < (l0.length:Int)
    ·rw[if_pos c9] at H;have el:=decide_eq_true c9;clear c9;obtain⟨dz,eq,H⟩:=obq H;(try dsimp only at H);have H':=ak H;clear H;have eu:=au.out;have ev:=av.out;obtain⟨ct,cu,cv,cw,cx,cy,cz,da⟩:=bc4 U;go_wp2_with (first|(go_at_call 61;(with_reducible refine(impl_canStep.calls k _ _ l0 D _ _ ac _ _ ag _ _ ah true _ ?side1 eh.out ?side3 ch.out ?side5 cj.out ?side7 cl.out A6.out).mono ?_);(case side1=>exact Cq b5);(case side3=>exact Cq bz);(case side5=>exact Cq ci);(case side7=>exact Cq ck);rintro e gb ⟨rfl,hb⟩;replace U:=kf U hb;replace X:=kf X hb;replace HB:=bs HB hb;clear hb;obtain⟨db,dc,de,df,dg,dh,di,dj⟩:=bc4 U;have b0:0≤(D:Int):=od;have b4:D < (l0.length:Int):=od;obtain⟨ew,em,bp,br,bu,bv⟩:=at_T57 b5.out D b0 b4;cases em;replace bp:=hx_ HB bp;replace br:=hx_ HB br;replace bu:=hx_ HB bu;replace bv:=hx_ HB bv;replace b0:=eq_true b0;replace b4:=eq_true b4)|(go_at_call 62;(with_reducible refine(impl_Asks.calls ((rd_T57 l0 D).f0) dz _ eq.out).mono ?_);rintro e w' ⟨rfl,⟨nd,rfl⟩⟩))
     go_meet
     case rel=>exact⟨_,(!dz),FR,H',⟨by first|omega | exact Nat.le_refl _⟩,⟨PK U⟩,⟨PK X⟩,⟨PB⟩⟩
    ·rw[if_neg c9] at H;exact absurd H (by simp)
   ·rw[if_neg c8] at H;exact absurd H (by simp)
  ·replace c7:=Bool.eq_false_iff.mpr c7;subst c7;rw[if_neg nft] at H;have H':=ak H;clear H;have ex:=au.out;have ey:=av.out;obtain⟨dk,dl,dn,dp,dq,dr,dt,du⟩:=bc4 U;go_wp2_with (first|(go_at_call 61;(with_reducible refine(impl_canStep.calls k _ _ l0 D _ _ ac _ _ ag _ _ ah false _ ?side1 eh.out ?side3 ch.out ?side5 cj.out ?side7 cl.out A6.out).mono ?_);(case side1=>exact Cq b5);(case side3=>exact Cq bz);(case side5=>exact Cq ci);(case side7=>exact Cq ck);rintro e gc ⟨rfl,hb⟩;replace U:=kf U hb;replace X:=kf X hb;replace HB:=bs HB hb;clear hb))
   go_meet
   case rel=>exact⟨_,(true),FR,H',⟨by first|omega | exact Nat.le_refl _⟩,⟨PK U⟩,⟨PK X⟩,⟨PB⟩⟩
 case rest =>
  clear dv;(try clear c1);(try clear p2);(try clear c4);(try clear p5);(try clear q5);(try clear hx5);(try clear c6);(try clear c7);(try clear c8);(try clear b6);(try clear c9);(try clear el);(try clear gf);(try clear gg);(try clear ct);(try clear cu);(try clear cv);(try clear cw);(try clear db);(try clear dc);(try clear de);(try clear df);(try clear dk);(try clear dl);(try clear dn);(try clear dp);(try clear cx);(try clear cy);(try clear cz);(try clear da);(try clear dg);(try clear dh);(try clear di);(try clear dj);(try clear dq);(try clear dr);(try clear dt);(try clear du);(try clear bp);(try clear br);(try clear bu);(try clear bv);(try clear b0);(try clear b4);obtain⟨kq,bw,rfl,HA,gh,U,X,HB⟩:=hcut
  cases kq with
  | zero=>exact absurd HA.out (by simp[impl_WantOf.j0])
  | succ kj2 =>
   have H:=HA.out;clear HA;simp only[impl_WantOf.j0] at H
   by_cases cm:bw=true
   ·subst cm;rw[if_pos rfl] at H;simp only[Option.some.injEq,Prod.mk.injEq] at H;obtain⟨rfl,rfl,rfl,rfl⟩:=H;have ez:=av.out;have e7:=au.out;obtain⟨_,_,_,_,_,_,_,_⟩:=bc4 X;go_wp2;refine bodyPost_ret (results_cell_row rfl _ _ am 89 #[.int .i64 0,.int .i64 0,.int .i64 0,.int .i64 0] (0,0) _ rfl (PX X) Tryz.underlying89 rfl KR) rfl ?_;exact⟨RT,PB⟩
   ·replace cm:=Bool.eq_false_iff.mpr cm;subst cm;rw[if_neg nft] at H
    by_cases cn:0≤D
    ·rw[if_pos cn] at H;have e8:=decide_eq_true cn;clear cn
     by_cases co:D < (l0.length:Int)
     ·rw[if_pos co] at H;have e9:=decide_eq_true co;clear co
      by_cases bx:((rd_T57 l0 D).f0)=1
      ·rw[if_pos bx] at H;obtain⟨eb,ec⟩:=eqq1 bx;clear bx
       by_cases cp:0≤((rd_T57 l0 D).f1)
       ·rw[if_pos cp] at H;have fa:=decide_eq_true cp;clear cp
        by_cases cq:((rd_T57 l0 D).f1) < (ac.length:Int)
        ·rw[if_pos cq] at H;have fb:=decide_eq_true cq;clear cq;simp only[Option.some.injEq,Prod.mk.injEq] at H;obtain⟨rfl,rfl,rfl,rfl⟩:=H;have fc:=au.out;have fd:=av.out;obtain⟨_,_,_,_,_,_,_,_⟩:=bc4 U;have bm:0≤(D:Int):=od;have bo:D < (l0.length:Int):=od;obtain⟨ed,b7,bc,bd,bf,bg⟩:=at_T57 b5.out D bm bo;cases b7;replace bc:=hx_ HB bc;replace bd:=hx_ HB bd;replace bf:=hx_ HB bf;replace bg:=hx_ HB bg;replace bm:=eq_true bm;replace bo:=eq_true bo
         try go_wp2_with (first|((with_reducible refine gate_dst (N:=5) rfl ?_);refine bx_ (N:=5) #[.int .i64 0,.int .i64 0,.int .i64 0,.int .i64 0] 57 ?_;intro aj hg gi hbox hb;have ab:=ak hbox;have ee:=gy hg HB;replace HB:=bs HB hb;have bh:=gm hg U;have bi:=gn hg U;replace U:=kf U hb;have bj:=gm hg X;have bk:=gn hg X;replace X:=kf X hb;clear hb hbox hg;have fe:=bi.out;have ff:=bh.out;have fg:=bk.out;have fh:=bj.out;obtain⟨_,_,_,_,_,_,_,_⟩:=bc4 ab)|((with_reducible refine gate_dst (N:=6) rfl ?_);refine bx_ (N:=6) #[.int .i64 0,.int .i64 0,.int .i64 0,.int .i64 0] 89 ?_;intro J hg er hbox hb;have ae:=ak hbox;have al:=gy hg HB;replace HB:=bs HB hb;have Y:=ak ((by rw[hg];exact Nat.ne_of_lt (blk_lt (g:=ai) (o:=.cells #[.int .i64 D,.slice bb ac.length aw,.slice ax ag.length ay,.slice az ah.length ba] 35 (0,0)) (PF U)):ai≠J));have ao:=ak ((by rw[hg];exact Nat.ne_of_gt (blk_lt (g:=ai) (o:=.cells #[.int .i64 D,.slice bb ac.length aw,.slice ax ag.length ay,.slice az ah.length ba] 35 (0,0)) (PF U)):J≠ai));replace U:=kf U hb;have ap:=ak ((by rw[hg];exact Nat.ne_of_lt (blk_lt (g:=am) (o:=.cells #[.int .i64 0,.int .i64 0,.int .i64 0,.int .i64 0] 89 (0,0)) (PF X)):am≠J));have aq:=ak ((by rw[hg];exact Nat.ne_of_gt (blk_lt (g:=am) (o:=.cells #[.int .i64 0,.int .i64 0,.int .i64 0,.int .i64 0] 89 (0,0)) (PF X)):J≠am));replace X:=kf X hb;have Z:=ak ((by rw[hg];exact Nat.ne_of_lt (blk_lt (g:=aj) (o:=.cells #[.int .i64 ((rd_T57 l0 D).f0),.int .i64 ((rd_T57 l0 D).f1),.int .i64 ((rd_T57 l0 D).f2),.int .i64 ((rd_T57 l0 D).f3)] 57 (0,0)) (PX ab)):aj≠J));have ar:=ak ((by rw[hg];exact Nat.ne_of_gt (blk_lt (g:=aj) (o:=.cells #[.int .i64 ((rd_T57 l0 D).f0),.int .i64 ((rd_T57 l0 D).f1),.int .i64 ((rd_T57 l0 D).f2),.int .i64 ((rd_T57 l0 D).f3)] 57 (0,0)) (PX ab)):J≠aj));replace ab:=kp (cs':=#[.int .i64 ((rd_T57 l0 D).f0),.int .i64 ((rd_T57 l0 D).f1),.int .i64 ((rd_T57 l0 D).f2),.int .i64 ((rd_T57 l0 D).f3)]) ab hb;clear hb hbox hg;have fi:=ao.out;have fj:=Y.out;have fk:=aq.out;have fl:=ap.out;have fm:=ar.out;have fo:=Z.out;obtain⟨_,_,_,_,_,_,_,_⟩:=bc4 ae;obtain⟨_,_,_,_,_,_,_,_⟩:=bc4 ab))
         generalize hW_:((((er.setCell ⟨J,0,none⟩ (.int .i64 ((rd_T57 l0 D).f0))).setCell ⟨J,1,none⟩ (.int .i64 0)).setCell ⟨J,2,none⟩ (.int .i64 0)).setCell ⟨J,3,none⟩ (.int .i64 0))=ej;replace U:=BE hW_ U;replace X:=BE hW_ X;replace ab:=BE hW_ ab;replace ae:Aside0 (ej.heap[J]?=some (.cells #[.int .i64 ((rd_T57 l0 D).f0),.int .i64 0,.int .i64 0,.int .i64 0] 89 (0,0))):=BP hW_ ae;replace HB:=BL hW_ HB;(try clear hW_);replace U:=ak (blk_drew U.out);replace X:=ak (blk_drew X.out);replace ab:=ak (blk_drew ab.out);replace ae:=ak (blk_drew ae.out);replace HB:=ak (below_drew1 HB.out);have b8:0≤(((rd_T57 l0 D).f1):Int):=od;have b9:((rd_T57 l0 D).f1) < (ac.length:Int):=od;obtain⟨cr,en,bl⟩:=Kd.at_int bz.out ((rd_T57 l0 D).f1) b8 b9;have hw535_0:=bl;cases en;replace bl:=hx_ HB bl;replace b8:=eq_true b8;replace b9:=eq_true b9;refine start_ (n:=14) (S:=fun w'=>w'.cell? ⟨aj,0,none⟩=some (.int .i64 ((rd_T57 l0 D).f0))∧w'.cell? ⟨aj,1,none⟩=some (.int .i64 ((rd_T57 l0 D).f1))∧w'.cell? ⟨aj,2,none⟩=some (.int .i64 ((rd_T57 l0 D).f2))∧w'.cell? ⟨aj,3,none⟩=some (.int .i64 ((rd_T57 l0 D).f3))∧w'.cell? ⟨ai,0,none⟩=some (.int .i64 D)∧w'.cell? ⟨ai,1,none⟩=some (.slice (some cr) ac.length aw)∧w'.cell? ⟨ai,2,none⟩=some (.slice ax ag.length ay)∧w'.cell? ⟨ai,3,none⟩=some (.slice az ah.length ba)∧w'.cell? (cr.add (((rd_T57 l0 D).f1)).toNat)=some (.int .i64 (rd ac ((rd_T57 l0 D).f1)))) (ds:=[]) #[false,false,false,false,false,false,false,false,false,false,false,false,false,false] KR rfl rfl ⟨bq ab 0,bq ab 1,bq ab 2,bq ab 3,bq U 0,bq U 1,bq U 2,bq U 3,((HB.out.cell (World.block_lt_of_cell? w _ hw535_0)).trans hw535_0)⟩ (fun hHeld=>?_);refine with_tabW impl_WantOf.tab6 impl_WantOf.bits6 (fun HT_ HW_=>?_)
         generalize ej.drew=d8 at X ae HB bl hHeld ⊢
         refine pu_ (i:=0) (N:=some 33) #[true,false,false,false,false,false,false,false,false,false,false,false,false,false] HT_ ?_;refine pu_ (i:=2) (N:=some 35) #[true,false,true,false,false,false,false,false,false,false,false,false,false,false] HT_ ?_;refine pu_ (i:=4) (N:=some 37) #[true,false,true,false,true,false,false,false,false,false,false,false,false,false] HT_ ?_;refine pu_ (i:=6) (N:=some 39) #[true,false,true,false,true,false,true,false,false,false,false,false,false,false] HT_ ?_;refine tk_ (i:=1) (N:=some 34) #[true,true,true,false,true,false,true,false,false,false,false,false,false,false] rfl rfl HT_ HW_ hHeld ?_;refine tq_ (i:=3) (N:=some 36) #[true,true,true,true,true,false,true,false,false,false,false,false,false,false] rfl rfl (take_ofW HT_.out HW_.out KR) hHeld ?_
         refine tk_ (i:=5) (N:=some 38) #[true,true,true,true,true,true,true,false,false,false,false,false,false,false] rfl rfl HT_ HW_ hHeld ?_;refine tq_ (i:=7) (N:=some 40) #[true,true,true,true,true,true,true,true,false,false,false,false,false,false] rfl rfl (take_ofW HT_.out HW_.out KR) hHeld ?_
         refine pu_ (i:=8) (N:=some 41) #[true,true,true,true,true,true,true,true,true,false,false,false,false,false] HT_ ?_;refine tk_ (i:=9) (N:=some 42) #[true,true,true,true,true,true,true,true,true,true,false,false,false,false] rfl rfl HT_ HW_ hHeld ?_;refine pu_ (i:=10) (N:=some 43) #[true,true,true,true,true,true,true,true,true,true,true,false,false,false] HT_ ?_;refine pu_ (i:=11) (N:=some 44) #[true,true,true,true,true,true,true,true,true,true,true,true,false,false] HT_ ?_;refine pu_ (i:=12) (N:=some 45) #[true,true,true,true,true,true,true,true,true,true,true,true,true,false] HT_ ?_;refine one_ (i:=13) (N:=none) #[true,true,true,true,true,true,true,true,true,true,true,true,true,true] rfl rfl (one_of HT_.out KR) (by decide) (fun K hK=>?_);have hs40:d8.cell? ⟨J,1,none⟩=some (.int .i64 0):=bq ae 1;have hfs40:=blk_frozen ae.out 1;have hns40_0:=Y.out;have hns40_1:=ap.out;have hns40_2:=Z.out;have hms40_0:=ao.out;have hms40_1:=aq.out;have hms40_2:=ar.out;have hs41:d8.cell? ⟨J,2,none⟩=some (.int .i64 0):=bq ae 2;have hfs41:=blk_frozen ae.out 2;have hns41_0:=Y.out;have hns41_1:=ap.out;have hns41_2:=Z.out;have hms41_0:=ao.out;have hms41_1:=aq.out;have hms41_2:=ar.out;have hs42:d8.cell? ⟨J,3,none⟩=some (.int .i64 0):=bq ae 3;have hfs42:=blk_frozen ae.out 3;have hns42_0:=Y.out;have hns42_1:=ap.out;have hns42_2:=Z.out;have hms42_0:=ao.out;have hms42_1:=aq.out;have hms42_2:=ar.out;refine skip_ (w1:=?_) (by rfl) rfl ?_ ?_;rotate_left
         ·go_simp
          rfl
         refine hK.out _ _ ⟨((cell_far (p:=⟨J,_,none⟩) Z.out _).trans (((cell_far (p:=⟨J,_,none⟩) Z.out _).trans (((cell_far (p:=⟨J,_,none⟩) Z.out _).trans (hHeld.1)))))),((cell_far (p:=⟨J,_,none⟩) Z.out _).trans (((cell_far (p:=⟨J,_,none⟩) Z.out _).trans (((cell_far (p:=⟨J,_,none⟩) Z.out _).trans (hHeld.2.1)))))),((cell_far (p:=⟨J,_,none⟩) Z.out _).trans (((cell_far (p:=⟨J,_,none⟩) Z.out _).trans (((cell_far (p:=⟨J,_,none⟩) Z.out _).trans (hHeld.2.2.1)))))),((cell_far (p:=⟨J,_,none⟩) Z.out _).trans (((cell_far (p:=⟨J,_,none⟩) Z.out _).trans (((cell_far (p:=⟨J,_,none⟩) Z.out _).trans (hHeld.2.2.2.1)))))),((cell_far (p:=⟨J,_,none⟩) Y.out _).trans (((cell_far (p:=⟨J,_,none⟩) Y.out _).trans (((cell_far (p:=⟨J,_,none⟩) Y.out _).trans (hHeld.2.2.2.2.1)))))),((cell_far (p:=⟨J,_,none⟩) Y.out _).trans (((cell_far (p:=⟨J,_,none⟩) Y.out _).trans (((cell_far (p:=⟨J,_,none⟩) Y.out _).trans (hHeld.2.2.2.2.2.1)))))),((cell_far (p:=⟨J,_,none⟩) Y.out _).trans (((cell_far (p:=⟨J,_,none⟩) Y.out _).trans (((cell_far (p:=⟨J,_,none⟩) Y.out _).trans (hHeld.2.2.2.2.2.2.1)))))),((cell_far (p:=⟨J,_,none⟩) Y.out _).trans (((cell_far (p:=⟨J,_,none⟩) Y.out _).trans (((cell_far (p:=⟨J,_,none⟩) Y.out _).trans (hHeld.2.2.2.2.2.2.2.1)))))),((cell_far (p:=⟨J,_,none⟩) (by first|exact Nat.ne_of_lt (Nat.lt_of_lt_of_le (by have:=World.block_lt_of_cell? _ _ hw535_0;first|rwa [add_block] at this | exact this) al.out)|(rw[add_block];exact Nat.ne_of_lt (Nat.lt_of_lt_of_le (by have:=World.block_lt_of_cell? _ _ hw535_0;first|rwa [add_block] at this | exact this) al.out))|(show(Addr.add _ _).block≠_;rw[add_block];exact Nat.ne_of_lt (Nat.lt_of_lt_of_le (by have:=World.block_lt_of_cell? _ _ hw535_0;first|rwa [add_block] at this | exact this) al.out))|(dsimp only;exact Nat.ne_of_lt (Nat.lt_of_lt_of_le (by have:=World.block_lt_of_cell? _ _ hw535_0;first|rwa [add_block] at this | exact this) al.out))) _).trans (((cell_far (p:=⟨J,_,none⟩) (by first|exact Nat.ne_of_lt (Nat.lt_of_lt_of_le (by have:=World.block_lt_of_cell? _ _ hw535_0;first|rwa [add_block] at this | exact this) al.out)|(rw[add_block];exact Nat.ne_of_lt (Nat.lt_of_lt_of_le (by have:=World.block_lt_of_cell? _ _ hw535_0;first|rwa [add_block] at this | exact this) al.out))|(show(Addr.add _ _).block≠_;rw[add_block];exact Nat.ne_of_lt (Nat.lt_of_lt_of_le (by have:=World.block_lt_of_cell? _ _ hw535_0;first|rwa [add_block] at this | exact this) al.out))|(dsimp only;exact Nat.ne_of_lt (Nat.lt_of_lt_of_le (by have:=World.block_lt_of_cell? _ _ hw535_0;first|rwa [add_block] at this | exact this) al.out))) _).trans (((cell_far (p:=⟨J,_,none⟩) (by first|exact Nat.ne_of_lt (Nat.lt_of_lt_of_le (by have:=World.block_lt_of_cell? _ _ hw535_0;first|rwa [add_block] at this | exact this) al.out)|(rw[add_block];exact Nat.ne_of_lt (Nat.lt_of_lt_of_le (by have:=World.block_lt_of_cell? _ _ hw535_0;first|rwa [add_block] at this | exact this) al.out))|(show(Addr.add _ _).block≠_;rw[add_block];exact Nat.ne_of_lt (Nat.lt_of_lt_of_le (by have:=World.block_lt_of_cell? _ _ hw535_0;first|rwa [add_block] at this | exact this) al.out))|(dsimp only;exact Nat.ne_of_lt (Nat.lt_of_lt_of_le (by have:=World.block_lt_of_cell? _ _ hw535_0;first|rwa [add_block] at this | exact this) al.out))) _).trans (hHeld.2.2.2.2.2.2.2.2))))))⟩ (fun hHeld=>?_);clear hK K;refine done_ (done_of HT_.out KR) ?_;obtain⟨_,_,_,_,_,_,_,_⟩:=bc4 ae;obtain⟨_,_,_,_,_,_,_,_⟩:=bc4 X
         try go_wp2
         refine bodyPost_ret (results_cell_row rfl _ _ am 89 #[.int .i64 ((rd_T57 l0 D).f0),.int .i64 ((rd_T57 l0 D).f2),.int .i64 ((rd_T57 l0 D).f3),.int .i64 (Int.tmod (rd ac ((rd_T57 l0 D).f1)) 100)] (0,0) _ rfl (PX X) Tryz.underlying89 rfl KR) rfl ?_;exact⟨RT,PB⟩
        ·rw[if_neg cq] at H;exact absurd H (by simp)
       ·rw[if_neg cp] at H;exact absurd H (by simp)
      ·rw[if_neg bx] at H;obtain⟨eb,ec⟩:=eqq2 bx;simp only[Option.some.injEq,Prod.mk.injEq] at H;obtain⟨rfl,rfl,rfl,rfl⟩:=H;have fp:=au.out;have fq:=av.out;obtain⟨_,_,_,_,_,_,_,_⟩:=bc4 U;have bm:0≤(D:Int):=od;have bo:D < (l0.length:Int):=od;obtain⟨ed,b7,bc,bd,bf,bg⟩:=at_T57 b5.out D bm bo;cases b7;replace bc:=hx_ HB bc;replace bd:=hx_ HB bd;replace bf:=hx_ HB bf;replace bg:=hx_ HB bg;replace bm:=eq_true bm;replace bo:=eq_true bo;go_wp2_with (first|((with_reducible refine gate_dst (N:=5) rfl ?_);refine bx_ (N:=5) #[.int .i64 0,.int .i64 0,.int .i64 0,.int .i64 0] 57 ?_;intro aj hg gj hbox hb;have ab:=ak hbox;have ee:=gy hg HB;replace HB:=bs HB hb;have bh:=gm hg U;have bi:=gn hg U;replace U:=kf U hb;have bj:=gm hg X;have bk:=gn hg X;replace X:=kf X hb;clear hb hbox hg;have ft:=bi.out;have fu:=bh.out;have fv:=bk.out;have fw:=bj.out;obtain⟨_,_,_,_,_,_,_,_⟩:=bc4 ab)|((with_reducible refine gate_dst (N:=6) rfl ?_);refine bx_ (N:=6) #[.int .i64 0,.int .i64 0,.int .i64 0,.int .i64 0] 89 ?_;intro J hg gk hbox hb;have ae:=ak hbox;have al:=gy hg HB;replace HB:=bs HB hb;have Y:=ak ((by rw[hg];exact Nat.ne_of_lt (blk_lt (g:=ai) (o:=.cells #[.int .i64 D,.slice bb ac.length aw,.slice ax ag.length ay,.slice az ah.length ba] 35 (0,0)) (PF U)):ai≠J));have ao:=ak ((by rw[hg];exact Nat.ne_of_gt (blk_lt (g:=ai) (o:=.cells #[.int .i64 D,.slice bb ac.length aw,.slice ax ag.length ay,.slice az ah.length ba] 35 (0,0)) (PF U)):J≠ai));have ap:=ak ((by rw[hg];exact Nat.ne_of_lt (blk_lt (g:=am) (o:=.cells #[.int .i64 0,.int .i64 0,.int .i64 0,.int .i64 0] 89 (0,0)) (PF X)):am≠J));have aq:=ak ((by rw[hg];exact Nat.ne_of_gt (blk_lt (g:=am) (o:=.cells #[.int .i64 0,.int .i64 0,.int .i64 0,.int .i64 0] 89 (0,0)) (PF X)):J≠am));replace X:=kf X hb;have Z:=ak ((by rw[hg];exact Nat.ne_of_lt (blk_lt (g:=aj) (o:=.cells #[.int .i64 ((rd_T57 l0 D).f0),.int .i64 ((rd_T57 l0 D).f1),.int .i64 ((rd_T57 l0 D).f2),.int .i64 ((rd_T57 l0 D).f3)] 57 (0,0)) (PX ab)):aj≠J));have ar:=ak ((by rw[hg];exact Nat.ne_of_gt (blk_lt (g:=aj) (o:=.cells #[.int .i64 ((rd_T57 l0 D).f0),.int .i64 ((rd_T57 l0 D).f1),.int .i64 ((rd_T57 l0 D).f2),.int .i64 ((rd_T57 l0 D).f3)] 57 (0,0)) (PX ab)):J≠aj));replace ab:=kp (cs':=#[.int .i64 ((rd_T57 l0 D).f0),.int .i64 ((rd_T57 l0 D).f1),.int .i64 ((rd_T57 l0 D).f2),.int .i64 ((rd_T57 l0 D).f3)]) ab hb;clear hb hbox hg;have fx:=ao.out;have fy:=Y.out;have fz:=aq.out;have f4:=ap.out;have f5:=ar.out;have f6:=Z.out;obtain⟨_,_,_,_,_,_,_,_⟩:=bc4 ae;obtain⟨_,_,_,_,_,_,_,_⟩:=bc4 ab;obtain⟨_,_,_,_,_,_,_,_⟩:=bc4 X));refine bodyPost_ret (results_cell_row rfl _ _ am 89 #[.int .i64 ((rd_T57 l0 D).f0),.int .i64 0,.int .i64 0,.int .i64 0] (0,0) _ rfl (PX X) Tryz.underlying89 rfl KR) rfl ?_;exact⟨RT,PB⟩
     ·rw[if_neg co] at H;exact absurd H (by simp)
    ·rw[if_neg cn] at H;exact absurd H (by simp)
def slices_Clone_int_int.f (J:List Int):Option (List Int):=(some (([]:List Int):List Int)).bind fun D=>(if D.length+J.length < 17592186044416 then(some (D++J)) else(none))
theorem slices_Clone_int_int.calls (A0:Option Addr)(c0:Nat)(D:List Int)(r:List Int)(w:World)(ab:Kd.C (Kd.int .i64) w A0 D.length D)(ah:D.length≤c0)(h:slices_Clone_int_int.f D=some r) :
  Calls Tryz.prog 50 #[.slice A0 D.length c0] w fun e w'=>∃ ai:Value,e = .returned (ai)∧Kd.R (Kd.int .i64) 3 w' w.heap.size (fun _=>True) ai r∧Below w.heap.size w w':=by
 cases A0 with
 | none =>
  have hz_:D.length=0:=C_none_length ab;obtain rfl:D=[]:=List.eq_nil_of_length_eq_zero hz_
  obtain rfl:r=[]:=by
   have h2_:=h
   simp[slices_Clone_int_int.f] at h2_
   exact h2_
  have hnn_:∀ W,(binOp .eql 26 (.slice none 0 c0) (.slice none 0 0)).run Tryz.prog W = .ok (.bool true) W:=fun W=>eql_nil_none (P:=Tryz.prog) W 26 3 0 c0 Tryz.underlying26
  go_enter Tryz.func50,Tryz.ntmps50;go_wp2
  go_ret
  exact⟨_,rfl,Kd.R_nil _ _ _ _ _,Below.refl _ _⟩
 | some ad_ =>
  have hnn_:∀ W,(binOp .eql 26 (.slice (some ad_) D.length c0) (.slice none 0 0)).run Tryz.prog W = .ok (.bool false) W:=fun W=>eql_nil_some (P:=Tryz.prog) W 26 3 ad_ D.length c0 Tryz.underlying26
  have ap:=ak ab;have ar:=ak ah;clear ab ah;have HB:=ak (Below.refl w.heap.size w);have H:=h;clear h;unfold slices_Clone_int_int.f at H;obtain⟨X,J⟩:∃ y_:List Int,y_=(([]:List Int)):=⟨_,rfl⟩
  first|replace H:=bnd_ H J|rw[←J] at H
  have Y:=ak J;clear J
  by_cases c2:X.length+D.length < 17592186044416
  ·rw[if_pos c2] at H;have al:=ak c2;clear c2;obtain⟨am,U⟩:∃ y_:List Int,y_=(X++D):=⟨_,rfl⟩
   first|replace H:=bnd_ H U|rw[←U] at H
   have ae:=ak U;clear U;obtain rfl:=Option.some.inj H;go_enter Tryz.func50,Tryz.ntmps50;go_wp2_with (first|((with_reducible refine gate_dst (N:=5) rfl ?_);refine Kd.R_lit (Kd.int .i64) _ 3 ?hg (N:=5) ?hd (xs:=([]:List Int)) (inner:=[]) (ok:=fun _=>True) (okp:=fun _=>True) ?hr ?hp (fun _ hk=>hk) trivial (Below.refl _ _) (Nat.le_refl _) (by simp) ?_;(case hd=>rfl);(case hg=>rfl);(case hr=>first|(go_simp;done)|(go_simp;rfl));(case hp=>exact(Reps.none _ _));intro ao w3 ho4 hb hg_ hnew_;clear hg_ hnew_;(first|rw[←Y.out] at ho4|(simp only[Int.reduceToNat] at ho4;rw[←Y.out] at ho4));have Z:=Rn0 ho4 HB;replace HB:=bs HB hb;clear hb ho4)|((with_reducible refine gate_builtin (b:=.append) (xs:=#[.tmp 5,.tmp 6]) rfl ?_);at_builtin;refine Kd.R_append_rows (Kd.int .i64) (w0:=w) w.heap.size rfl (.tmp 5) (.tmp 6) 26 3 (.int .i64 0) 8 rfl Tryz.underlying26 info3 rfl (by decide) (by omega) ao X D _ _ _ (fun _=>True) (fun _=>False) rfl rfl ?aO ?aR (fun _ _ h=>h) (fun _ h=>h.elim) ?aF ?aB ?aS ?aL ?_;(case aR=>repeat(first|exact(Kd.C_below ap.out HB.out)|(with_reducible refine Kd.C_alloc ?_ _)|(with_reducible refine Kd.C_drewN ?_ _)|(with_reducible refine Kd.C_drew ?_)));(case aB=>exact PB);(case aF=>exact(fun _ _=>trivial));(case aO=>exact(PR Z));(case aS=>exact(below_size PB));(case aL=>have:=al.out;omega);intro aq w5 ho hb hg hat;rw[←ae.out] at ho;replace HB:=ak hb;have ag:=ak (ho);clear Z;clear ho hb hg hat))
   go_ret
   exact⟨_,RT,by(with_reducible repeat(first|apply Kd.R_alloc | apply Kd.R_drewN | apply Kd.R_drew));exact ag.out,PB⟩
  ·rw[if_neg c2] at H;exact absurd H (by simp)
def impl_copyResource.f (D:Int)(J:List Int)(U:Int)(X:Int)(Y:Int):Option (Int×List Int×Int×Int×Int):=(slices_Clone_int_int.f J).bind fun Z=>(some (D,Z,U,X,Y))
theorem impl_copyResource.calls (X:Int)(Y:Option Addr)(Z:Nat)(J:List Int)(aa:Int)(ab:Int)(ac:Int)(r1:Int)(r2:List Int)(r3:Int)(r4:Int)(r5:Int)(w:World)(ah:Kd.C (Kd.int .i64) w Y J.length J)(ai:J.length≤Z)(h:impl_copyResource.f X J aa ab ac=some (r1,r2,r3,r4,r5)) :
  Calls Tryz.prog 99 #[.agg #[.int .i64 X,.slice Y J.length Z,.int .i64 aa,.int .i64 ab,.int .i64 ac]] w fun e w'=>∃ aq:Value,e = .returned (.agg #[.int .i64 r1,aq,.int .i64 r3,.int .i64 r4,.int .i64 r5])∧Kd.R (Kd.int .i64) 3 w' w.heap.size (fun _=>True) aq r2∧Below w.heap.size w w':=by
 have az:=Tryz.underlying81;have am:=ak ah;have ao:=ak ai;clear ah ai;have HB:=ak (Below.refl w.heap.size w);have H:=h;clear h;unfold impl_copyResource.f at H;obtain⟨al,A2,H⟩:=obq H;(try dsimp only at H);simp only[Option.some.injEq,Prod.mk.injEq] at H;obtain⟨rfl,rfl,rfl,rfl,rfl⟩:=H;go_enter Tryz.func99,Tryz.ntmps99;go_wp2_with (first|((with_reducible refine gate_dst (N:=1) rfl ?_);refine bx_ (N:=1) #[.int .i64 X,.slice Y J.length Z,.int .i64 aa,.int .i64 ab,.int .i64 ac] 81 ?_;intro aw hg w3 hbox hb;have D:=ak hbox;have ax:=gy hg HB;replace HB:=bs HB hb;clear hb hbox hg)|((with_reducible refine gate_dst (N:=2) rfl ?_);refine bx_ (N:=2) #[.int .i64 0,.slice none 0 0,.int .i64 0,.int .i64 0,.int .i64 0] 81 ?_;intro ap hg w4 hbox hb;have U:=ak hbox;have ay:=gy hg HB;replace HB:=bs HB hb;have ae:=gm hg D;have ag:=gn hg D;replace D:=kf D hb;clear hb hbox hg;have bb:=ae.out;have bc:=ag.out;obtain⟨_,_,_,_,_,_,_,_,_,_⟩:=bc5 D)|(go_at_call 50;(with_reducible refine(slices_Clone_int_int.calls _ _ J al _ ?side1 ao.out A2.out).mono ?_);(case side1=>exact Cq am);rintro e w7 ⟨bd,rfl,ho0,hb⟩;have aj:=Rn0 ho0 HB;replace D:=kf D hb;replace U:=kf U hb;replace HB:=bs HB hb;clear hb ho0;obtain⟨au,av,rfl⟩:=Kd.R_slice aj.out;obtain⟨_,_,_,_,_,_,_,_,_,_⟩:=bc5 D;obtain⟨_,_,_,_,_,_,_,_,_,_⟩:=bc5 U));refine bodyPost_ret (results_cell_row rfl _ _ ap 81 #[.int .i64 X,.slice au al.length av,.int .i64 aa,.int .i64 ab,.int .i64 ac] (0,0) _ rfl (PX U) Tryz.underlying81 rfl KR) rfl ?_;exact⟨_,RT,RX (Rt (Rt aj.out D) U) (fun _ hk=>trivial),PB⟩

attribute [local go_sem high] eqA48
def impl_AnswerAt.l0:Nat→List (S83)→Int→Int→Int→Int→Int→Option (Int×List Int×Int×Int×Int)
  | 0,_,_,_,_,_,_=>none
  | k+1,Z,x2,D,U,X,Y=>if D≥0 then(if 0≤D then(if D < (Z.length:Int) then(if (((rd_T83 Z D).f0.f0) == U && (((rd_T83 Z D).f0.f1) == X && (((rd_T83 Z D).f0.f2) == Y)))=true then(if ((rd_T83 Z D).f1)≤x2 then((impl_copyResource.f ((rd_T83 Z D).f2.f0) ((rd_T83 Z D).f2.f1) ((rd_T83 Z D).f2.f2.f0) ((rd_T83 Z D).f2.f2.f1) ((rd_T83 Z D).f2.f2.f2)).bind fun J=>(some (J.1,J.2.1,J.2.2.1,J.2.2.2.1,J.2.2.2.2))) else(impl_AnswerAt.l0 k Z x2 (wrap64 (D - 1)) U X Y)) else(impl_AnswerAt.l0 k Z x2 (wrap64 (D - 1)) U X Y)) else(none)) else(none)) else(some (4,([]:List Int),0,0,0))
def impl_AnswerAt.f (k:Nat)(X:List (S83))(D:Int)(J:Int)(U:Int)(Y:Int):Option (Int×List Int×Int×Int×Int):=impl_AnswerAt.l0 k X Y (wrap64 ((X.length:Int) - 1)) D J U
theorem impl_AnswerAt.calls (k:Nat)(A0:Option Addr)(c0:Nat)(J:List (S83))(am:Int)(ao:Int)(ap:Int)(a2:Int)(r1:Int)(r2:List Int)(r3:Int)(r4:Int)(r5:Int)(w:World)(dj:Kd.C k83 w A0 J.length J)(dk:J.length≤c0)(h:impl_AnswerAt.f k J am ao ap a2=some (r1,r2,r3,r4,r5)) :
  Calls Tryz.prog 81 #[.slice A0 J.length c0,.agg #[.int .i64 am,.int .i64 ao,.int .i64 ap],.int .i64 a2] w fun e w'=>∃ dl:Value,e = .returned (.agg #[.int .i64 r1,dl,.int .i64 r3,.int .i64 r4,.int .i64 r5])∧Kd.R (Kd.int .i64) 3 w' w.heap.size (fun _=>True) dl r2∧Below w.heap.size w w':=by
 have es:=Tryz.underlying48;have et:=Tryz.underlying81;have bw:=ak dj;have ez:=ak dk;clear dj dk;have HB:=ak (Below.refl w.heap.size w);have H:=h;clear h;unfold impl_AnswerAt.f at H;have H':=ak H;clear H;go_enter Tryz.func81,Tryz.ntmps81
 iterate 4 (try go_wp2_with (first|((with_reducible refine gate_dst (N:=4) rfl ?_);refine bx_ (N:=4) #[.int .i64 am,.int .i64 ao,.int .i64 ap] 48 ?_;intro de hg w4 hbox hb;have aj:=ak hbox;have ei:=gy hg HB;replace HB:=bs HB hb;clear hb hbox hg)|((with_reducible refine gate_dst (N:=6) rfl ?_);refine bx_ (N:=6) #[.int .i64 0,.slice none 0 0,.int .i64 0,.int .i64 0,.int .i64 0] 81 ?_;intro cf hg w5 hbox hb;have al:=ak hbox;have ej:=gy hg HB;replace HB:=bs HB hb;have av:=gm hg aj;have aw:=gn hg aj;replace aj:=kf aj hb;clear hb hbox hg));try go_quiet (fail))
 go_loopg [7] k (fun kq v7 w'=>∃(D:Int)(ax:Int)(ay:Int)(az:Int)(ba:Int),v7 = .int .i64 D∧Aside0 (impl_AnswerAt.l0 kq J a2 D am ao ap=some (r1,r2,r3,r4,r5))∧Aside0 (kq≤k)∧Aside0 (w'.heap[de]?=some (.cells #[.int .i64 am,.int .i64 ao,.int .i64 ap] 48 (0,0)))∧Aside0 (w'.heap[cf]?=some (.cells #[.int .i64 ax,(.slice none 0 0),.int .i64 ay,.int .i64 az,.int .i64 ba] 81 (0,0)))∧Aside0 (Below w.heap.size w w'))
 case atStart=>exact⟨(wrap64 ((J.length:Int) - 1)),(0),(0),(0),(0),FR,H',⟨Nat.le_refl _⟩,⟨PK aj⟩,⟨PK al⟩,⟨PB⟩⟩
 case round =>
  clear H'
  try clear p2
  obtain⟨D,ax,ay,az,ba,rfl,HA,cm,aj,al,HB⟩:=hrel
  cases gk with
  | zero=>exact absurd HA.out (by simp[impl_AnswerAt.l0])
  | succ k1 =>
   have H:=HA.out;clear HA;simp only[impl_AnswerAt.l0] at H
   by_cases c6:D≥0
   ·rw[if_pos c6] at H;have dn:decide (0≤D)=true:=decide_eq_true c6;clear c6
    by_cases c7:0≤D
    ·rw[if_pos c7] at H;have ev:=decide_eq_true c7;clear c7
     by_cases c8:D < (J.length:Int)
     ·rw[if_pos c8] at H;have ew:=decide_eq_true c8;clear c8
      by_cases c9:(((rd_T83 J D).f0.f0) == am && (((rd_T83 J D).f0.f1) == ao && (((rd_T83 J D).f0.f2) == ap)))=true
      ·rw[if_pos c9] at H;have dp:(((rd_T83 J D).f0.f0) == am && (((rd_T83 J D).f0.f1) == ao && (((rd_T83 J D).f0.f2) == ap)))=true:=c9;(try(have dq:decide (((rd_T83 J D).f0.f0)=am && (((rd_T83 J D).f0.f1) == ao && (((rd_T83 J D).f0.f2) == ap)))=true:=by simpa using c9));(try(have dr:(((rd_T83 J D).f0.f0) == am && (((rd_T83 J D).f0.f1) == ao && (((rd_T83 J D).f0.f2) == ap)))=true:=by simpa using c9));clear c9
       by_cases bx:((rd_T83 J D).f1)≤a2
       ·rw[if_pos bx] at H;have dh:=decide_eq_true bx;clear bx;obtain⟨⟨cv,cw,cx,cy,cz⟩,ef,H⟩:=obq H;(try dsimp only at H);simp only[Option.some.injEq,Prod.mk.injEq] at H;obtain⟨rfl,rfl,rfl,rfl,rfl⟩:=H;have ar:0≤(D:Int):=od;have au:D < (J.length:Int):=od;obtain⟨bp,ch,ci,bv,X,Y,Z,aa,ab,U,ac,ae,ag,ah,ai⟩:=at_T83 bw.out D ar au;cases bv;replace X:=hx_ HB X;replace Y:=hx_ HB Y;replace Z:=hx_ HB Z;replace aa:=hx_ HB aa;replace ab:=hx_ HB ab;replace U:=hx_ HB U;replace ac:=hx_ HB ac;replace ae:=hx_ HB ae;replace ag:=hx_ HB ag;have bz:=ak ai;have b0:=ak ah;clear ai ah;replace ar:=eq_true ar;replace au:=eq_true au;have ek:=av.out;have el:=aw.out;obtain⟨_,_,_,_,_,_⟩:=bc3 aj;have bm:0≤(D:Int):=od;have bo:D < (J.length:Int):=od;obtain⟨cg,db,dc,cj,bb,bc,bd,bf,bg,aq,bh,bi,bj,bk,bl⟩:=at_T83 bw.out D bm bo;obtain rfl:bp=cg:=(by injection cj);replace bb:=hx_ HB bb;replace bc:=hx_ HB bc;replace bd:=hx_ HB bd;replace bf:=hx_ HB bf;replace bg:=hx_ HB bg;replace aq:=hx_ HB aq;replace bh:=hx_ HB bh;replace bi:=hx_ HB bi;replace bj:=hx_ HB bj;have cq:=ak bl;have cr:=ak bk;clear bl bk;replace bm:=eq_true bm;replace bo:=eq_true bo;have ea_:=Option.some.inj (U.symm.trans aq)
        injection ea_ with ea_ en_ ec_
        subst ea_;subst ec_;clear en_;have ck:0≤(D:Int):=od;have cl:D < (J.length:Int):=od;obtain⟨di,eg,eh,dt,b4,b5,b6,b7,b8,br,b9,ca,cb,cd,ce⟩:=at_T83 bw.out D ck cl;obtain rfl:bp=di:=(by injection dt);replace b4:=hx_ HB b4;replace b5:=hx_ HB b5;replace b6:=hx_ HB b6;replace b7:=hx_ HB b7;replace b8:=hx_ HB b8;replace br:=hx_ HB br;replace b9:=hx_ HB b9;replace ca:=hx_ HB ca;replace cb:=hx_ HB cb;have ct:=ak ce;have cu:=ak cd;clear ce cd;replace ck:=eq_true ck;replace cl:=eq_true cl;have ea_:=Option.some.inj (U.symm.trans br)
        injection ea_ with ea_ en_ ec_
        subst ea_;subst ec_;clear en_
        iterate 4 (try go_wp2_with (first|(go_at_call 99;(with_reducible refine(impl_copyResource.calls ((rd_T83 J D).f2.f0) _ _ ((rd_T83 J D).f2.f1) ((rd_T83 J D).f2.f2.f0) ((rd_T83 J D).f2.f2.f1) ((rd_T83 J D).f2.f2.f2) cv cw cx cy cz _ ?side1 cu.out ef.out).mono ?_);(case side1=>exact Cq ct);rintro e e7 ⟨ex,rfl,ho0,hb⟩;have cn:=Rn0 ho0 HB;replace al:=kf al hb;replace HB:=bs HB hb;clear hb ho0;obtain⟨dw,dx,dy,dz,d7,d8,d9,ea,eb,ec⟩:=bc5 al;obtain⟨du,dv,rfl⟩:=Kd.R_slice cn.out));try go_quiet (fail))
        refine bodyPost_ret (results_cell_row rfl _ _ cf 81 #[.int .i64 cv,.slice du cw.length dv,.int .i64 cx,.int .i64 cy,.int .i64 cz] (0,0) _ rfl (PX al) Tryz.underlying81 rfl KR) rfl ?_;exact⟨_,RT,RX (Rt cn.out al) (fun _ hk=>trivial),PB⟩
       ·rw[if_neg bx] at H;have dh:=decide_eq_false bx;clear bx;have H':=ak H;clear H;have ar:0≤(D:Int):=od;have au:D < (J.length:Int):=od;obtain⟨bp,ch,ci,bv,X,Y,Z,aa,ab,U,ac,ae,ag,ah,ai⟩:=at_T83 bw.out D ar au;cases bv;replace X:=hx_ HB X;replace Y:=hx_ HB Y;replace Z:=hx_ HB Z;replace aa:=hx_ HB aa;replace ab:=hx_ HB ab;replace U:=hx_ HB U;replace ac:=hx_ HB ac;replace ae:=hx_ HB ae;replace ag:=hx_ HB ag;have bz:=ak ai;have b0:=ak ah;clear ai ah;replace ar:=eq_true ar;replace au:=eq_true au;have em:=av.out;have en:=aw.out;obtain⟨_,_,_,_,_,_⟩:=bc3 aj;have bm:0≤(D:Int):=od;have bo:D < (J.length:Int):=od;obtain⟨cg,db,dc,cj,bb,bc,bd,bf,bg,aq,bh,bi,bj,bk,bl⟩:=at_T83 bw.out D bm bo;obtain rfl:bp=cg:=(by injection cj);replace bb:=hx_ HB bb;replace bc:=hx_ HB bc;replace bd:=hx_ HB bd;replace bf:=hx_ HB bf;replace bg:=hx_ HB bg;replace aq:=hx_ HB aq;replace bh:=hx_ HB bh;replace bi:=hx_ HB bi;replace bj:=hx_ HB bj;have cq:=ak bl;have cr:=ak bk;clear bl bk;replace bm:=eq_true bm;replace bo:=eq_true bo;have ea_:=Option.some.inj (U.symm.trans aq)
        injection ea_ with ea_ en_ ec_
        subst ea_;subst ec_;clear en_;go_wp2
        repeat(go_quiet (fail);try go_wp2)
        go_roundg k1
        case measure=>have:=cm.out;omega
        case rel=>exact⟨(wrap64 (D - 1)),(ax),(ay),(az),(ba),FR,H',⟨by have:=cm.out;omega⟩,⟨PK aj⟩,⟨PK al⟩,⟨PB⟩⟩
      ·rw[if_neg c9] at H
       have dp:(((rd_T83 J D).f0.f0) == am && (((rd_T83 J D).f0.f1) == ao && (((rd_T83 J D).f0.f2) == ap)))=false:=by simpa using c9
       (try(have dq:decide (((rd_T83 J D).f0.f0)=am && (((rd_T83 J D).f0.f1) == ao && (((rd_T83 J D).f0.f2) == ap)))=false:=by simpa using c9));(try(have dr:(((rd_T83 J D).f0.f0) == am && (((rd_T83 J D).f0.f1) == ao && (((rd_T83 J D).f0.f2) == ap)))=false:=by simpa using c9));(try(have ey:¬(((rd_T83 J D).f0.f0)=am && (((rd_T83 J D).f0.f1) == ao && (((rd_T83 J D).f0.f2) == ap))):=by simpa using c9));clear c9;have H':=ak H;clear H;have ar:0≤(D:Int):=od;have au:D < (J.length:Int):=od;obtain⟨bp,ch,ci,bv,X,Y,Z,aa,ab,U,ac,ae,ag,ah,ai⟩:=at_T83 bw.out D ar au;cases bv;replace X:=hx_ HB X;replace Y:=hx_ HB Y;replace Z:=hx_ HB Z;replace aa:=hx_ HB aa;replace ab:=hx_ HB ab;replace U:=hx_ HB U;replace ac:=hx_ HB ac;replace ae:=hx_ HB ae;replace ag:=hx_ HB ag;have bz:=ak ai;have b0:=ak ah;clear ai ah;replace ar:=eq_true ar;replace au:=eq_true au;have eo:=av.out;have ep:=aw.out;obtain⟨_,_,_,_,_,_⟩:=bc3 aj;go_wp2
       repeat(go_quiet (fail);try go_wp2)
       go_roundg k1
       case measure=>have:=cm.out;omega
       case rel=>exact⟨(wrap64 (D - 1)),(ax),(ay),(az),(ba),FR,H',⟨by have:=cm.out;omega⟩,⟨PK aj⟩,⟨PK al⟩,⟨PB⟩⟩
     ·rw[if_neg c8] at H;exact absurd H (by simp)
    ·rw[if_neg c7] at H;exact absurd H (by simp)
   ·rw[if_neg c6] at H;have dn:decide (0≤D)=false:=decide_eq_false c6;clear c6;simp only[Option.some.injEq,Prod.mk.injEq] at H;obtain⟨rfl,rfl,rfl,rfl,rfl⟩:=H;have eq:=aw.out;have er:=av.out;obtain⟨_,_,_,_,_,_,_,_,_,_⟩:=bc5 al;go_wp2
    repeat(go_quiet (fail);try go_wp2)
    refine bodyPost_ret (results_cell_row rfl _ _ cf 81 #[.int .i64 4,.slice none 0 0,.int .i64 0,.int .i64 0,.int .i64 0] (0,0) _ rfl (PX al) Tryz.underlying81 rfl KR) rfl ?_;exact⟨_,RT,by first|exact Kd.R_nil _ _ _ _ _ | exact Kd.N_nil _ _ _ _ _ | exact Kd.V_nil _ _ _ _ _ | exact Kd.Q_nil _ _ _ _ _ | exact Kd.S_nil _ _ _ _ _,PB⟩
attribute [local go_sem high] eqA48
def impl_Address_100.l0:Nat→List (S48)→Int→Int→Int→Int→Int→Option (Int)
  | 0,_,_,_,_,_,_=>none
  | k+1,Y,Z,X,D,J,U=>if X < Z then(if 0≤X then(if X < (Y.length:Int) then(if (D == ((rd_T48 Y X).f0) && (J == ((rd_T48 Y X).f1) && (U == ((rd_T48 Y X).f2))))=true then(some X) else(impl_Address_100.l0 k Y Z (wrap64 (X+1)) D J U)) else(none)) else(none)) else(some (-1))
def impl_Address_100.f (k:Nat)(X:List (S48))(D:Int)(J:Int)(U:Int):Option (Int):=impl_Address_100.l0 k X (X.length:Int) 0 D J U
theorem impl_Address_100.calls (k:Nat)(A0:Option Addr)(c0:Nat)(J:List (S48))(U:Int)(X:Int)(Y:Int)(r:Int)(w:World)(aq:Kd.C k48 w A0 J.length J)(ar:J.length≤c0)(h:impl_Address_100.f k J U X Y=some r) :
  Calls Tryz.prog 100 #[.slice A0 J.length c0,.agg #[.int .i64 U,.int .i64 X,.int .i64 Y]] w fun e w'=>e = .returned (.int .i64 r)∧Below w.heap.size w w':=by
 have bd:=Tryz.underlying48;have au:=ak aq;have bj:=ak ar;clear aq ar;have HB:=ak (Below.refl w.heap.size w);have H:=h;clear h;unfold impl_Address_100.f at H;have H':=ak H;clear H;go_enter Tryz.func100,Tryz.ntmps100
 iterate 4 (try go_wp2_with (first|((with_reducible refine gate_dst (N:=3) rfl ?_);refine bx_ (N:=3) #[.int .i64 U,.int .i64 X,.int .i64 Y] 48 ?_;intro al hg w3 hbox hb;have ag:=ak hbox;have bc:=gy hg HB;replace HB:=bs HB hb;clear hb hbox hg));try go_quiet (fail))
 go_loopg [8] k (fun kq v8 w'=>∃(D:Int),v8 = .int .i64 D∧Aside0 (impl_Address_100.l0 kq J (J.length:Int) D U X Y=some r)∧Aside0 (kq≤k)∧Aside0 (w'.heap[al]?=some (.cells #[.int .i64 U,.int .i64 X,.int .i64 Y] 48 (0,0)))∧Aside0 (Below w.heap.size w w'))
 case atStart=>exact⟨(0),FR,H',⟨Nat.le_refl _⟩,⟨PK ag⟩,⟨PB⟩⟩
 case round =>
  clear H';(try clear c1);(try clear p2);obtain⟨D,rfl,HA,av,ag,HB⟩:=hrel
  cases gk with
  | zero=>exact absurd HA.out (by simp[impl_Address_100.l0])
  | succ k1 =>
   have H:=HA.out;clear HA;simp only[impl_Address_100.l0] at H
   by_cases c4:D < (J.length:Int)
   ·rw[if_pos c4] at H;have aw:=decide_eq_true c4;clear c4
    by_cases c5:0≤D
    ·rw[if_pos c5] at H;have bg:=decide_eq_true c5;clear c5
     by_cases c6:D < (J.length:Int)
     ·rw[if_pos c6] at H;have bh:=decide_eq_true c6;clear c6
      by_cases c7:(U == ((rd_T48 J D).f0) && (X == ((rd_T48 J D).f1) && (Y == ((rd_T48 J D).f2))))=true
      ·rw[if_pos c7] at H;have ax:(U == ((rd_T48 J D).f0) && (X == ((rd_T48 J D).f1) && (Y == ((rd_T48 J D).f2))))=true:=c7;(try(have ay:decide (U=((rd_T48 J D).f0) && (X == ((rd_T48 J D).f1) && (Y == ((rd_T48 J D).f2))))=true:=by simpa using c7));(try(have az:(U == ((rd_T48 J D).f0) && (X == ((rd_T48 J D).f1) && (Y == ((rd_T48 J D).f2))))=true:=by simpa using c7));clear c7;obtain rfl:=Option.some.inj H;obtain⟨_,_,_,_,_,_⟩:=bc3 ag;have ac:0≤(D:Int):=od;have ae:D < (J.length:Int):=od;obtain⟨ap,ai,Z,aa,ab⟩:=at_T48 au.out D ac ae;cases ai;replace Z:=hx_ HB Z;replace aa:=hx_ HB aa;replace ab:=hx_ HB ab;replace ac:=eq_true ac;replace ae:=eq_true ae;go_wp2
       repeat(go_quiet (fail);try go_wp2)
       go_ret
       exact⟨RT,PB⟩
      ·rw[if_neg c7] at H
       have ax:(U == ((rd_T48 J D).f0) && (X == ((rd_T48 J D).f1) && (Y == ((rd_T48 J D).f2))))=false:=by simpa using c7
       (try(have ay:decide (U=((rd_T48 J D).f0) && (X == ((rd_T48 J D).f1) && (Y == ((rd_T48 J D).f2))))=false:=by simpa using c7));(try(have az:(U == ((rd_T48 J D).f0) && (X == ((rd_T48 J D).f1) && (Y == ((rd_T48 J D).f2))))=false:=by simpa using c7));(try(have bi:¬(U=((rd_T48 J D).f0) && (X == ((rd_T48 J D).f1) && (Y == ((rd_T48 J D).f2)))):=by simpa using c7));clear c7;have H':=ak H;clear H;obtain⟨_,_,_,_,_,_⟩:=bc3 ag;have ac:0≤(D:Int):=od;have ae:D < (J.length:Int):=od;obtain⟨ap,ai,Z,aa,ab⟩:=at_T48 au.out D ac ae;cases ai;replace Z:=hx_ HB Z;replace aa:=hx_ HB aa;replace ab:=hx_ HB ab;replace ac:=eq_true ac;replace ae:=eq_true ae;go_wp2
       repeat(go_quiet (fail);try go_wp2)
       go_roundg k1
       case measure=>have:=av.out;omega
       case rel=>exact⟨(wrap64 (D+1)),FR,H',⟨by have:=av.out;omega⟩,⟨PK ag⟩,⟨PB⟩⟩
     ·rw[if_neg c6] at H;exact absurd H (by simp)
    ·rw[if_neg c5] at H;exact absurd H (by simp)
   ·rw[if_neg c4] at H;have aw:=decide_eq_false c4;clear c4;obtain rfl:=Option.some.inj H;go_wp2
    repeat(go_quiet (fail);try go_wp2)
    go_ret
    exact⟨RT,PB⟩
def impl_Address_82.f (k:Nat)(Y:List (S48))(D:Int)(J:Int)(U:Int):Option (Bool):=(impl_Address_100.f k Y D J U).bind fun X=>(some (decide (X≥0)))
theorem impl_Address_82.calls (k:Nat)(A0:Option Addr)(c0:Nat)(X:List (S48))(D:Int)(J:Int)(U:Int)(r:Bool)(w:World)(Z:Kd.C k48 w A0 X.length X)(aa:X.length≤c0)(h:impl_Address_82.f k X D J U=some r) :
  Calls Tryz.prog 82 #[.slice A0 X.length c0,.agg #[.int .i64 D,.int .i64 J,.int .i64 U]] w fun e w'=>e = .returned (.bool r)∧Below w.heap.size w w':=by
 have am:=Tryz.underlying48;have ah:=ak Z;have ai:=ak aa;clear Z aa;have HB:=ak (Below.refl w.heap.size w);have H:=h;clear h;unfold impl_Address_82.f at H;obtain⟨ag,A3,H⟩:=obq H;(try dsimp only at H);obtain rfl:=Option.some.inj H;go_enter Tryz.func82,Tryz.ntmps82;go_wp2_with (first|((with_reducible refine gate_dst (N:=3) rfl ?_);refine bx_ (N:=3) #[.int .i64 D,.int .i64 J,.int .i64 U] 48 ?_;intro aj hg w4 hbox hb;have Y:=ak hbox;have al:=gy hg HB;replace HB:=bs HB hb;clear hb hbox hg;obtain⟨_,_,_,_,_,_⟩:=bc3 Y)|(go_at_call 100;(with_reducible refine(impl_Address_100.calls k _ _ X D J U ag _ ?side1 ai.out A3.out).mono ?_);(case side1=>exact Cq ah);rintro e w6 ⟨rfl,hb⟩;replace HB:=bs HB hb;clear hb))
 go_ret
 exact⟨RT,PB⟩

def impl_FollowAt.l0:Nat→List (S83)→Int→List (S48)→Int→List Int→Int→Int→Int→Option (Int×List Int×Int×Int×Int×(List (S48)))
  | 0,_,_,_,_,_,_,_,_=>none
  | k+1,x0,x2,x9,X,Z,D,J,U=>if X=3 then(if (x9.length:Int)≤4 then((impl_Address_82.f k x9 D J U).bind fun ab=>(if ab=true then(some (X,Z,D,J,U,x9)) else(if x9.length < 5864062014805 then((impl_AnswerAt.f k x0 D J U x2).bind fun Y=>(impl_FollowAt.l0 k x0 x2 (x9++[(⟨D,J,U⟩:S48)]) Y.1 Y.2.1 Y.2.2.1 Y.2.2.2.1 Y.2.2.2.2)) else(none)))) else(some (X,Z,D,J,U,x9))) else(some (X,Z,D,J,U,x9))
def impl_FollowAt.f (k:Nat)(Y:List (S83))(J:Int)(U:Int)(X:Int)(Z:Int):Option (Int×List Int×Int×Int×Int×(List (S48))):=(impl_AnswerAt.f k Y J U X Z).bind fun D=>(impl_FollowAt.l0 k Y Z (([(⟨J,U,X⟩:S48)]:List (S48))) D.1 D.2.1 D.2.2.1 D.2.2.2.1 D.2.2.2.2)
theorem impl_FollowAt.calls (k:Nat)(A0:Option Addr)(c0:Nat)(l0:List (S83))(ae:Int)(ag:Int)(ah:Int)(a2:Int)(r1:Int)(r2:List Int)(r3:Int)(r4:Int)(r5:Int)(r6:List (S48))(w:World)(di:Kd.C k83 w A0 l0.length l0)(dj:l0.length≤c0)(h:impl_FollowAt.f k l0 ae ag ah a2=some (r1,r2,r3,r4,r5,r6)) :
  Calls Tryz.prog 63 #[.slice A0 l0.length c0,.agg #[.int .i64 ae,.int .i64 ag,.int .i64 ah],.int .i64 a2] w fun e w'=>∃ dk dl:Value,e = .returned (.tuple #[.agg #[.int .i64 r1,dk,.int .i64 r3,.int .i64 r4,.int .i64 r5],dl])∧Kd.R (Kd.int .i64) 3 w' w.heap.size (fun _=>True) dk r2∧Kd.R k48 48 w' w.heap.size (fun _=>True) dl r6∧Below w.heap.size w w':=by
 have fd:=Tryz.underlying48;have fe:=Tryz.underlying81;have dn:=ak di;have dp:=ak dj;clear di dj;have HB:=ak (Below.refl w.heap.size w);have H:=h;clear h;unfold impl_FollowAt.f at H;obtain⟨⟨bh,bc,bi,bj,bk⟩,A4,H⟩:=obq H;(try dsimp only at H);obtain⟨ch,ba⟩:∃ y_:List (S48),y_=(([(⟨ae,ag,ah⟩:S48)]:List (S48))):=⟨_,rfl⟩
 first|replace H:=bnd_ H ba|rw[←ba] at H
 have bo:=ak ba;clear ba;have H':=ak H;clear H;go_enter Tryz.func63,Tryz.ntmps63;go_wp2_with (first|((with_reducible refine gate_dst (N:=4) rfl ?_);(try(refine gate_guard (by rfl) ?_;dsimp only));refine bx_ (N:=4) #[.int .i64 ae,.int .i64 ag,.int .i64 ah] 48 ?_;intro au hg w5 hbox hb;have Z:=ak hbox;have ed:=gy hg HB;replace HB:=bs HB hb;clear hb hbox hg)|((with_reducible refine gate_dst (N:=6) rfl ?_);(try(refine gate_guard (by rfl) ?_;dsimp only));refine bx_ (N:=6) #[.int .i64 0,.slice none 0 0,.int .i64 0,.int .i64 0,.int .i64 0] 81 ?_;intro ax hg w6 hbox hb;have D:=ak hbox;have ee:=gy hg HB;replace HB:=bs HB hb;have aq:=gm hg Z;have ar:=gn hg Z;replace Z:=kf Z hb;clear hb hbox hg;have fg:=aq.out;have fh:=ar.out;obtain⟨ci,cj,ck,cl,cm,cn⟩:=bc3 Z)|(go_at_call 81;(with_reducible refine(impl_AnswerAt.calls k _ _ l0 ae ag ah a2 bh bc bi bj bk _ ?side1 dp.out A4.out).mono ?_);(case side1=>exact Cq dn);rintro e w9 ⟨fi,rfl,ho0,hb⟩;have av:=Rn0 ho0 HB;replace Z:=kf Z hb;replace D:=kf D hb;replace HB:=bs HB hb;clear hb ho0)|((with_reducible refine gate_dst (N:=8) rfl ?_);(try(refine gate_guard (by rfl) ?_;dsimp only));refine bx_ (N:=8) #[.int .i64 0,.slice none 0 0,.int .i64 0,.int .i64 0,.int .i64 0] 81 ?_;intro bp hg fu hbox hb;replace av:=Rb av hb;have Y:=ak hbox;have ef:=gy hg HB;replace HB:=bs HB hb;have al:=gm hg Z;have am:=gn hg Z;replace Z:=kf Z hb;have ao:=gm hg D;have ap:=gn hg D;replace D:=kf D hb;clear hb hbox hg;have eg:=am.out;have eh:=al.out;have ei:=ap.out;have ej:=ao.out;obtain⟨bw,bx,bz,b0,b4,b5,b6,b7,b8,b9⟩:=bc5 Y;obtain⟨co,cp,rfl⟩:=Kd.R_slice av.out;obtain⟨ca,cb,cd,ce,cf,cg⟩:=bc3 Z)|((with_reducible refine gate_dst (N:=15) rfl ?_);(try(refine gate_guard (by rfl) ?_;dsimp only));refine Kd.R_lit k48 _ 48 ?hg (N:=15) ?hd (xs:=([(⟨ae,ag,ah⟩:S48)]:List (S48))) (inner:=[.int .i64 ae,.int .i64 ag,.int .i64 ah]) (ok:=fun _=>True) (okp:=fun _=>True) ?hr ?hp (fun _ hk=>hk) trivial (Below.refl _ _) (Nat.le_refl _) (by simp) ?_;(case hd=>rfl);(case hg=>rfl);(case hr=>first|(go_simp;done)|(go_simp;rfl));(case hp=>exact(Reps.c3 (show Kd.M k48 _ _ _ (⟨ae,ag,ah⟩:S48) [.int .i64 ae,.int .i64 ag,.int .i64 ah] from(k48_mkM _ _ _ (⟨ae,ag,ah⟩:S48))) (Reps.none _ _)));intro fj fv ho17 hb hg_ hnew_;clear hg_ hnew_;(first|rw[←bo.out] at ho17|(simp only[Int.reduceToNat] at ho17;rw[←bo.out] at ho17));replace av:=ak (Kd.R_below (Re1 av Y) hb);have da:=ak (Kd.R_lower (Kd.R_newB ho17 (g:=au) (o:=.cells #[.int .i64 ae,.int .i64 ag,.int .i64 ah] 48 (0,0)) (PF Z)) (below_size PB));replace Z:=kf Z hb;replace D:=kf D hb;replace Y:=kp (cs':=#[.int .i64 bh,.slice co bc.length cp,.int .i64 bi,.int .i64 bj,.int .i64 bk]) Y hb;replace HB:=bs HB hb;clear hb ho17))
 go_loopg [9] k (fun kq v9 w'=>∃(aj:List (S48))(ab:Int)(ai:List Int)(J:Int)(U:Int)(X:Int)(aw:Value),Aside0 (impl_FollowAt.l0 kq l0 a2 aj ab ai J U X=some (r1,r2,r3,r4,r5,r6))∧Aside0 (kq≤k)∧Aside0 (Kd.R k48 48 w' w.heap.size (fun k_=>k_≠au) v9 aj)∧Aside0 (Kd.R (Kd.int .i64) 3 w' w.heap.size (fun _=>True) aw ai)∧Aside0 (w'.heap[au]?=some (.cells #[.int .i64 ae,.int .i64 ag,.int .i64 ah] 48 (0,0)))∧Aside0 (w'.heap[ax]?=some (.cells #[.int .i64 0,(.slice none 0 0),.int .i64 0,.int .i64 0,.int .i64 0] 81 (0,0)))∧Aside0 (w'.heap[bp]?=some (.cells #[.int .i64 ab,aw,.int .i64 J,.int .i64 U,.int .i64 X] 81 (0,0)))∧Aside0 (Below w.heap.size w w'))
 case atStart=>exact⟨(ch),(bh),(bc),(bi),(bj),(bk),(.slice co bc.length cp),H',⟨Nat.le_refl _⟩,⟨RX da.out FK⟩,⟨PR av⟩,⟨PK Z⟩,⟨PK D⟩,⟨PK Y⟩,⟨PB⟩⟩
 case round =>
  clear H';(try clear c1);(try clear p2);(try clear c3);(try clear c6);(try clear c7);(try clear c8);(try clear fw);(try clear fx);(try clear bw);(try clear bx);(try clear bz);(try clear b0);(try clear b4);(try clear ca);(try clear cb);(try clear cd);(try clear ci);(try clear cj);(try clear ck);(try clear b5);(try clear b6);(try clear b7);(try clear b8);(try clear b9);(try clear ce);(try clear cf);(try clear cg);(try clear cl);(try clear cm);(try clear cn);obtain⟨aj,ab,ai,J,U,X,aw,HA,dr,ac,aa,Z,D,Y,HB⟩:=hrel
  cases gk with
  | zero=>exact absurd HA.out (by simp[impl_FollowAt.l0])
  | succ k1 =>
   have H:=HA.out;clear HA;simp only[impl_FollowAt.l0] at H
   by_cases bd:ab=3
   ·rw[if_pos bd] at H;obtain⟨db,dc⟩:=eqq1 bd;clear bd
    by_cases bg:(aj.length:Int)≤4
    ·rw[if_pos bg] at H;have de:=decide_eq_true bg;have df:decide (aj.length≤4)=true:=decide_eq_true (by omega);clear bg;obtain⟨du,dt,H⟩:=obq H;(try dsimp only at H)
     by_cases br:du=true
     ·subst br;rw[if_pos rfl] at H;simp only[Option.some.injEq,Prod.mk.injEq] at H;obtain⟨rfl,rfl,rfl,rfl,rfl,rfl⟩:=H;have ek:=am.out;have el:=al.out;have em:=ap.out;have en:=ao.out;obtain⟨_,_,_,_,_,_,_,_,_,_⟩:=bc5 Y;obtain⟨fl,fm,rfl⟩:=Kd.R_slice ac.out;go_wp2_with (first|(go_at_call 82;(with_reducible refine(impl_Address_82.calls k1 _ _ aj J U X true _ ?side1 (rl ac) dt.out).mono ?_);(case side1=>exact CR (rr ac));rintro e fy ⟨rfl,hb⟩;replace ac:=Rb ac hb;replace aa:=Rb aa hb;replace D:=kf D hb;replace Y:=kf Y hb;replace HB:=bs HB hb;clear hb;obtain⟨_,_,_,_,_,_,_,_,_,_⟩:=bc5 Y;have eo:=ar.out;have ep:=aq.out;obtain⟨_,_,_,_,_,_,_,_,_,_⟩:=bc5 D;obtain⟨dv,dw,rfl⟩:=Kd.R_slice aa.out));refine bodyPost_ret (results_ct rfl _ _ ax 81 #[.int .i64 ab,.slice dv ai.length dw,.int .i64 J,.int .i64 U,.int .i64 X] (0,0) _ rfl (PX D) Tryz.underlying81 rfl KR) rfl ?_;exact⟨_,_,RT,RX (Rt aa.out D) (fun _ hk=>trivial),RX (Rt ac.out D) (fun _ hk=>trivial),PB⟩
     ·replace br:=Bool.eq_false_iff.mpr br;subst br;rw[if_neg nft] at H
      by_cases bu:aj.length < 5864062014805
      ·rw[if_pos bu] at H;have dg:=ak bu;clear bu;obtain⟨cr,bb⟩:∃ y_:List (S48),y_=(aj++[(⟨J,U,X⟩:S48)]):=⟨_,rfl⟩
       first|replace H:=bnd_ H bb|rw[←bb] at H
       have dh:=ak bb;clear bb;obtain⟨⟨ct,bm,cu,cv,cw⟩,ec,H⟩:=obq H;(try dsimp only at H);have H':=ak H;clear H;have eq:=am.out;have er:=al.out;have es:=ap.out;have et:=ao.out;obtain⟨_,_,_,_,_,_,_,_,_,_⟩:=bc5 Y;obtain⟨dx,dy,rfl⟩:=Kd.R_slice ac.out;go_wp2_with (first|(go_at_call 82;(with_reducible refine(impl_Address_82.calls k1 _ _ aj J U X false _ ?side1 (rl ac) dt.out).mono ?_);(case side1=>exact CR (rr ac));rintro e fz ⟨rfl,hb⟩;replace ac:=Rb ac hb;replace aa:=Rb aa hb;replace Z:=kf Z hb;replace D:=kf D hb;replace Y:=kf Y hb;replace HB:=bs HB hb;clear hb;obtain⟨_,_,_,_,_,_,_,_,_,_⟩:=bc5 Y)|((with_reducible refine gate_builtin (b:=.append) (xs:=#[.tmp 31,.tmp 34]) rfl ?_);(try(refine gate_guard (by rfl) ?_;dsimp only));at_builtin;refine Kd.R_append k48 (w0:=w) w.heap.size rfl (.tmp 31) (.tmp 34) 104 48 (.agg #[(.int .i64 0),(.int .i64 0),(.int .i64 0)]) 24 rfl Tryz.underlying104 info48 rfl (by decide) (by omega) (.slice dx aj.length dy) aj (⟨J,U,X⟩:S48) [.int .i64 J,.int .i64 U,.int .i64 X] (fun k_=>k_≠au) (fun _=>False) rfl rfl ?aP (fun _ hk=>hk.elim) ?aF ?aO ?aB ?aS ?aL ?_;(case aP=>exact k48_mkM _ _ _ (⟨J,U,X⟩:S48));(case aB=>exact PB);(case aF=>exact(fun k_ hk=>Kd.freshB (g:=au) (o:=.cells #[.int .i64 ae,.int .i64 ag,.int .i64 ah] 48 (0,0)) (PK Z) k_ hk));(case aO=>exact(PR ac));(case aS=>exact(below_size PB));(case aL=>have:=dg.out;omega);intro fo f0 ho hb hg hat;rw[←dh.out] at ho;replace aa:=ak (Kd.R_over' (PR aa) (Kd.R_typed (PR ac)) (by decide) hg);replace Z:=ak (blk_grown (g:=au) (o:=.cells #[.int .i64 ae,.int .i64 ag,.int .i64 ah] 48 (0,0)) (PK Z) hg (Kd.R_away ac.out (fun _ hk=>hk)));replace D:=ak (blk_grown (g:=ax) (o:=.cells #[.int .i64 0,.slice none 0 0,.int .i64 0,.int .i64 0,.int .i64 0] 81 (0,0)) (PK D) hg (Kd.R_ne ac.out D.out (by decide)));replace Y:=ak (blk_grown (g:=bp) (o:=.cells #[.int .i64 ab,aw,.int .i64 J,.int .i64 U,.int .i64 X] 81 (0,0)) (PK Y) hg (Kd.R_ne ac.out Y.out (by decide)));replace HB:=ak hb;have bl:=ak (ho);clear ac;clear ho hb hg hat;obtain⟨_,_,_,_,_,_,_,_,_,_⟩:=bc5 Y)|(go_at_call 81;(with_reducible refine(impl_AnswerAt.calls k1 _ _ l0 J U X a2 ct bm cu cv cw _ ?side1 dp.out ec.out).mono ?_);(case side1=>exact Cq dn);rintro e f1 ⟨fp,rfl,ho0,hb⟩;replace bl:=Rb bl hb;have bv:=Rn1 ho0 HB aa;replace Z:=kf Z hb;replace D:=kf D hb;replace Y:=kf Y hb;replace HB:=bs HB hb;clear hb ho0;obtain⟨_,_,_,_,_,_,_,_,_,_⟩:=bc5 Y;obtain⟨dz,d7,rfl⟩:=Kd.R_slice bv.out))
       go_roundg k1
       case measure=>have:=dr.out;omega
       case rel=>exact⟨(cr),(ct),(bm),(cu),(cv),(cw),(.slice dz bm.length d7),H',⟨by have:=dr.out;omega⟩,⟨Re1 bl Y⟩,⟨RX (Rt bv.out Y) (fun _ hk=>trivial)⟩,⟨PF Z⟩,⟨PF D⟩,⟨PX Y⟩,⟨PB⟩⟩
      ·rw[if_neg bu] at H;exact absurd H (by simp)
    ·rw[if_neg bg] at H;have de:=decide_eq_false bg;have df:decide (aj.length≤4)=false:=decide_eq_false (by omega);clear bg;simp only[Option.some.injEq,Prod.mk.injEq] at H;obtain⟨rfl,rfl,rfl,rfl,rfl,rfl⟩:=H;have eu:=am.out;have ev:=al.out;have ew:=ap.out;have ex:=ao.out;obtain⟨_,_,_,_,_,_,_,_,_,_⟩:=bc5 Y;obtain⟨fq,ft,rfl⟩:=Kd.R_slice ac.out;have ey:=ar.out;have ez:=aq.out;obtain⟨_,_,_,_,_,_,_,_,_,_⟩:=bc5 D;obtain⟨d8,d9,rfl⟩:=Kd.R_slice aa.out;go_wp2;refine bodyPost_ret (results_ct rfl _ _ ax 81 #[.int .i64 ab,.slice d8 ai.length d9,.int .i64 J,.int .i64 U,.int .i64 X] (0,0) _ rfl (PX D) Tryz.underlying81 rfl KR) rfl ?_;exact⟨_,_,RT,RX (Rt aa.out D) (fun _ hk=>trivial),RX (Rt ac.out D) (fun _ hk=>trivial),PB⟩
   ·rw[if_neg bd] at H;obtain⟨db,dc⟩:=eqq2 bd;simp only[Option.some.injEq,Prod.mk.injEq] at H;obtain⟨rfl,rfl,rfl,rfl,rfl,rfl⟩:=H;have e7:=am.out;have e8:=al.out;have e9:=ap.out;have fa:=ao.out;obtain⟨_,_,_,_,_,_,_,_,_,_⟩:=bc5 Y;have fb:=ar.out;have fc:=aq.out;obtain⟨_,_,_,_,_,_,_,_,_,_⟩:=bc5 D;obtain⟨ea,eb,rfl⟩:=Kd.R_slice aa.out;go_wp2;refine bodyPost_ret (results_ct rfl _ _ ax 81 #[.int .i64 ab,.slice ea ai.length eb,.int .i64 J,.int .i64 U,.int .i64 X] (0,0) _ rfl (PX D) Tryz.underlying81 rfl KR) rfl ?_;exact⟨_,_,RT,RX (Rt aa.out D) (fun _ hk=>trivial),RX (Rt ac.out D) (fun _ hk=>trivial),PB⟩
def impl_hasBody.f (D:Int):Option (Bool):=if D=1 then(some true) else(some (D == 2))
theorem impl_hasBody.calls (D:Int)(r:Bool)(w:World)(h:impl_hasBody.f D=some r) :
  Calls Tryz.prog 83 #[.int .i64 D] w fun e w'=>e = .returned (.bool r)∧Drawn0 w w':=by
 have H:=h;clear h;unfold impl_hasBody.f at H
 by_cases J:D=1
 ·rw[if_pos J] at H;obtain⟨U,X⟩:=eqq1 J;clear J;obtain rfl:=Option.some.inj H;go_enter Tryz.func83,Tryz.ntmps83;go_wp2
  go_ret
  exact⟨FR,by repeat(first|exact Drawn0.refl _ | apply Drawn0.step)⟩
 ·rw[if_neg J] at H;obtain⟨U,X⟩:=eqq2 J;obtain rfl:=Option.some.inj H;go_enter Tryz.func83,Tryz.ntmps83;go_wp2
  go_ret
  exact⟨FR,by repeat(first|exact Drawn0.refl _ | apply Drawn0.step)⟩
mutual
def impl_ValueOfResource.j0:Nat→Bool→Int→List Int→Int→Int→Int→Option (Int)
  | 0,_,_,_,_,_,_=>none
  | k+1,Z,J,D,U,X,Y=>if Z=true then(some 0) else(impl_ValueOfResource.l0 k 0 D (D.length:Int) 0)
def impl_ValueOfResource.l0:Nat→Int→List Int→Int→Int→Option (Int)
  | 0,_,_,_,_=>none
  | k+1,U,J,X,D=>if D < X then(if 0≤D then(if D < (J.length:Int) then(impl_ValueOfResource.l0 k (wrap64 (U+(rd J D))) J X (wrap64 (D+1))) else(none)) else(none)) else(if (Int.tmod U 1000) < 999 then(some (wrap64 ((Int.tmod U 1000)+1))) else(some (Int.tmod U 1000)))
end
def impl_ValueOfResource.f (k:Nat)(D:Int)(J:List Int)(U:Int)(X:Int)(Y:Int):Option (Int):=(impl_IsResource.f k D J U X Y).bind fun Z=>(if Z=true then((impl_hasBody.f D).bind fun aa=>(impl_ValueOfResource.j0 k (!aa) D J U X Y)) else(impl_ValueOfResource.j0 k true D J U X Y))
theorem impl_ValueOfResource.calls (k:Nat)(X:Int)(ab:Option Addr)(ac:Nat)(D:List Int)(Y:Int)(Z:Int)(aa:Int)(r:Int)(w:World)(b5:Kd.C (Kd.int .i64) w ab D.length D)(b6:D.length≤ac)(h:impl_ValueOfResource.f k X D Y Z aa=some r) :
  Calls Tryz.prog 64 #[.agg #[.int .i64 X,.slice ab D.length ac,.int .i64 Y,.int .i64 Z,.int .i64 aa]] w fun e w'=>e = .returned (.int .i64 r)∧Below w.heap.size w w':=by
 have dh:=Tryz.underlying81;have ay:=ak b5;have b7:=ak b6;clear b5 b6;have HB:=ak (Below.refl w.heap.size w);have H:=h;clear h;unfold impl_ValueOfResource.f at H;have cn:=ak H;clear H;go_enter Tryz.func64,Tryz.ntmps64
 go_upto_region 1 with (first|((with_reducible refine gate_dst (N:=1) rfl ?_);refine bx_ (N:=1) #[.int .i64 X,.slice ab D.length ac,.int .i64 Y,.int .i64 Z,.int .i64 aa] 81 ?_;intro b8 hg w3 hbox hb;have U:=ak hbox;have dc:=gy hg HB;replace HB:=bs HB hb;clear hb hbox hg))
 (try simp only[Act.put,List.setIfInBounds_toArray,List.set_cons_zero,List.set_cons_succ])
 go_cut [14] (fun cy wc=>∃(kq:Nat)(ag:Bool),cy = .bool ag∧Aside0 (impl_ValueOfResource.j0 kq ag X D Y Z aa=some r)∧Aside0 (kq≤k)∧Aside0 (wc.heap[b8]?=some (.cells #[.int .i64 X,(.slice ab D.length ac),.int .i64 Y,.int .i64 Z,.int .i64 aa] 81 (0,0)))∧Aside0 (Below w.heap.size w wc))
 case first =>
  have H:=cn.out;clear cn;obtain⟨cw,A4,H⟩:=obq H;(try dsimp only at H)
  by_cases c5:cw=true
  ·subst c5;rw[if_pos rfl] at H;obtain⟨co,A6,H⟩:=obq H;(try dsimp only at H);have H':=ak H;clear H;obtain⟨az,ba,bb,bc,bd,bf,bg,bh,bi,bj⟩:=bc5 U;go_wp2_with (first|(go_at_call 44;(with_reducible refine(impl_IsResource.calls k X _ _ D Y Z aa true _ ?side1 b7.out A4.out).mono ?_);(case side1=>exact Cq ay);rintro e w8 ⟨rfl,hb⟩;replace U:=kf U hb;replace HB:=bs HB hb;clear hb;obtain⟨bk,bl,bm,bo,bp,br,bu,bv,bw,bx⟩:=bc5 U)|(go_at_call 83;(with_reducible refine(impl_hasBody.calls X co _ A6.out).mono ?_);rintro e w' ⟨rfl,⟨nd,rfl⟩⟩))
   go_meet
   case rel=>exact⟨_,(!co),FR,H',⟨by first|omega | exact Nat.le_refl _⟩,⟨PK U⟩,⟨PB⟩⟩
  ·replace c5:=Bool.eq_false_iff.mpr c5;subst c5;rw[if_neg nft] at H;have H':=ak H;clear H;obtain⟨ah,ai,aj,al,am,ao,ap,aq,ar,au⟩:=bc5 U;go_wp2_with (first|(go_at_call 44;(with_reducible refine(impl_IsResource.calls k X _ _ D Y Z aa false _ ?side1 b7.out A4.out).mono ?_);(case side1=>exact Cq ay);rintro e dn ⟨rfl,hb⟩;replace U:=kf U hb;replace HB:=bs HB hb;clear hb))
   go_meet
   case rel=>exact⟨_,(true),FR,H',⟨by first|omega | exact Nat.le_refl _⟩,⟨PK U⟩,⟨PB⟩⟩
 case rest =>
  clear cn;(try clear p2);(try clear c4);(try clear c5);(try clear c6);(try clear ah);(try clear ai);(try clear aj);(try clear al);(try clear am);(try clear az);(try clear ba);(try clear bb);(try clear bc);(try clear bd);(try clear bk);(try clear bl);(try clear bm);(try clear bo);(try clear bp);(try clear ao);(try clear ap);(try clear aq);(try clear ar);(try clear au);(try clear bf);(try clear bg);(try clear bh);(try clear bi);(try clear bj);(try clear br);(try clear bu);(try clear bv);(try clear bw);(try clear bx);obtain⟨kq,ag,rfl,HA,cu,U,HB⟩:=hcut
  cases kq with
  | zero=>exact absurd HA.out (by simp[impl_ValueOfResource.j0])
  | succ kj1 =>
   have H:=HA.out;clear HA;simp only[impl_ValueOfResource.j0] at H
   by_cases bz:ag=true
   ·subst bz;rw[if_pos rfl] at H;obtain rfl:=Option.some.inj H;go_wp2
    go_ret
    exact⟨RT,PB⟩
   ·replace bz:=Bool.eq_false_iff.mpr bz;subst bz;rw[if_neg nft] at H;have H':=ak H;clear H;obtain⟨cd,ce,cf,cg,ch,ci,cj,ck,cl,cm⟩:=bc5 U;go_wp2
    go_loopg [3,18] kj1 (fun kq v3 db w'=>∃(ae:Int)(J:Int),v3 = .int .i64 ae∧db = .int .i64 J∧Aside0 (impl_ValueOfResource.l0 kq ae D (D.length:Int) J=some r)∧Aside0 (kq≤kj1)∧Aside0 (w'.heap[b8]?=some (.cells #[.int .i64 X,(.slice ab D.length ac),.int .i64 Y,.int .i64 Z,.int .i64 aa] 81 (0,0)))∧Aside0 (Below w.heap.size w w'))
    case atStart=>exact⟨(0),(0),FR,FR,H',⟨Nat.le_refl _⟩,⟨PK U⟩,⟨PB⟩⟩
    case round =>
     clear H';(try clear c1);(try clear p2);(try clear c4);(try clear c5);(try clear c6);(try clear bz);(try clear ah);(try clear ai);(try clear aj);(try clear al);(try clear am);(try clear cd);(try clear ce);(try clear cf);(try clear cg);(try clear ch);(try clear az);(try clear ba);(try clear bb);(try clear bc);(try clear bd);(try clear bk);(try clear bl);(try clear bm);(try clear bo);(try clear bp);(try clear ao);(try clear ap);(try clear aq);(try clear ar);(try clear au);(try clear ci);(try clear cj);(try clear ck);(try clear cl);(try clear cm);(try clear bf);(try clear bg);(try clear bh);(try clear bi);(try clear bj);(try clear br);(try clear bu);(try clear bv);(try clear bw);(try clear bx);(try clear p2);obtain⟨ae,J,rfl,rfl,HA,cv,U,HB⟩:=hrel
     cases gk with
     | zero=>exact absurd HA.out (by simp[impl_ValueOfResource.l0])
     | succ k2 =>
      have H:=HA.out;clear HA;simp only[impl_ValueOfResource.l0] at H
      by_cases av:J < (D.length:Int)
      ·rw[if_pos av] at H;have cp:=decide_eq_true av;clear av
       by_cases b9:0≤J
       ·rw[if_pos b9] at H;have de:=decide_eq_true b9;clear b9
        by_cases ca:J < (D.length:Int)
        ·rw[if_pos ca] at H;have df:=decide_eq_true ca;clear ca;have H':=ak H;clear H;have b0:0≤(J:Int):=od;have b4:J < (D.length:Int):=od;obtain⟨dg,cx,aw⟩:=Kd.at_int ay.out J b0 b4;cases cx;replace aw:=hx_ HB aw;replace b0:=eq_true b0;replace b4:=eq_true b4;go_wp2
         go_roundg k2
         case measure=>have:=cu.out;have:=cv.out;omega
         case rel=>exact⟨(wrap64 (ae+(rd D J))),(wrap64 (J+1)),FR,FR,H',⟨by have:=cu.out;have:=cv.out;omega⟩,⟨PK U⟩,⟨PB⟩⟩
        ·rw[if_neg ca] at H;exact absurd H (by simp)
       ·rw[if_neg b9] at H;exact absurd H (by simp)
      ·rw[if_neg av] at H;have cp:=decide_eq_false av;clear av
       by_cases ax:(Int.tmod ae 1000) < 999
       ·rw[if_pos ax] at H;have cq:=decide_eq_true ax;clear ax;obtain rfl:=Option.some.inj H;go_wp2
        go_ret
        exact⟨RT,PB⟩
       ·rw[if_neg ax] at H;have cq:=decide_eq_false ax;clear ax;obtain rfl:=Option.some.inj H;go_wp2
        go_ret
        exact⟨RT,PB⟩
def impl_Mod.f (U:Int)(D:Int):Option (Int):=(impl_InRange.f D 1 1000000000000).bind fun J=>(if J=true then(if D=0 then(none) else(some (Int.tmod (wrap64 ((Int.tmod U D)+D)) D))) else(some 0))
theorem impl_Mod.calls (Z:Int)(D:Int)(r:Int)(w:World)(h:impl_Mod.f Z D=some r) :
  Calls Tryz.prog 65 #[.int .i64 Z,.int .i64 D] w fun e w'=>e = .returned (.int .i64 r)∧Drawn0 w w':=by
 have H:=h;clear h;unfold impl_Mod.f at H;obtain⟨Y,A3,H⟩:=obq H;(try dsimp only at H)
 by_cases J:Y=true
 ·subst J;rw[if_pos rfl] at H
  by_cases U:D=0
  ·rw[if_pos U] at H;exact absurd H (by simp)
  ·rw[if_neg U] at H;obtain⟨ab,ac⟩:=eqq2 U;obtain rfl:=Option.some.inj H;go_enter Tryz.func65,Tryz.ntmps65;go_wp2_with (first|(go_at_call 23;(with_reducible refine(impl_InRange.calls D 1 1000000000000 true _ A3.out).mono ?_);rintro e w' ⟨rfl,⟨nd,rfl⟩⟩))
   go_ret
   exact⟨FR,by repeat(first|exact Drawn0.refl _ | apply Drawn0.step)⟩
 ·replace J:=Bool.eq_false_iff.mpr J;subst J;rw[if_neg nft] at H;obtain rfl:=Option.some.inj H;go_enter Tryz.func65,Tryz.ntmps65;go_wp2_with (first|(go_at_call 23;(with_reducible refine(impl_InRange.calls D 1 1000000000000 false _ A3.out).mono ?_);rintro e w' ⟨rfl,⟨nd,rfl⟩⟩))
  go_ret
  exact⟨FR,by repeat(first|exact Drawn0.refl _ | apply Drawn0.step)⟩
def impl_Hash.l0:Nat→Int→List Int→Int→Int→Option (Int)
  | 0,_,_,_,_=>none
  | k+1,X,J,Y,D=>if D < Y then(if 0≤D then(if D < (J.length:Int) then((impl_Mod.f (rd J D) 2147483647).bind fun U=>(impl_Hash.l0 k (Int.tmod (wrap64 ((wrap64 ((wrap64 (X * 1000003))+U))+13)) 2147483647) J Y (wrap64 (D+1)))) else(none)) else(none)) else(some X)
def impl_Hash.f (k:Nat)(D:List Int):Option (Int):=impl_Hash.l0 k 11 D (D.length:Int) 0
theorem impl_Hash.calls (k:Nat)(A0:Option Addr)(c0:Nat)(J:List Int)(r:Int)(w:World)(ae:Kd.C (Kd.int .i64) w A0 J.length J)(ag:J.length≤c0)(h:impl_Hash.f k J=some r) :
  Calls Tryz.prog 66 #[.slice A0 J.length c0] w fun e w'=>e = .returned (.int .i64 r)∧Drawn0 w w':=by
 have aq:=ak ae;have az:=ak ag;clear ae ag;have H:=h;clear h;unfold impl_Hash.f at H;have H':=ak H;clear H;go_enter Tryz.func66,Tryz.ntmps66;go_wp2
 go_loopg [3,8] k (fun kq v3 v8 w'=>∃(U:Int)(D:Int),v3 = .int .i64 U∧v8 = .int .i64 D∧Aside0 (impl_Hash.l0 kq U J (J.length:Int) D=some r)∧Aside0 (kq≤k)∧Drawn0 w w')
 case atStart=>exact⟨(11),(0),FR,FR,H',⟨Nat.le_refl _⟩,by repeat(first|exact Drawn0.refl _ | apply Drawn0.step)⟩
 case round =>
  clear H';obtain⟨U,D,rfl,rfl,HA,ah,⟨m1,rfl⟩⟩:=hrel
  cases gk with
  | zero=>exact absurd HA.out (by simp[impl_Hash.l0])
  | succ k1 =>
   have H:=HA.out;clear HA;simp only[impl_Hash.l0] at H
   by_cases Z:D < (J.length:Int)
   ·rw[if_pos Z] at H;have aj:=decide_eq_true Z;clear Z
    by_cases c3:0≤D
    ·rw[if_pos c3] at H;have aw:=decide_eq_true c3;clear c3
     by_cases c4:D < (J.length:Int)
     ·rw[if_pos c4] at H;have ax:=decide_eq_true c4;clear c4;obtain⟨aa,A5,H⟩:=obq H;(try dsimp only at H);have H':=ak H;clear H;have X:0≤(D:Int):=od;have Y:D < (J.length:Int):=od;obtain⟨ar,al,am⟩:=Kd.at_int aq.out D X Y;cases al;replace X:=eq_true X;replace Y:=eq_true Y;go_wp2_with (first|(go_at_call 65;(with_reducible refine(impl_Mod.calls (rd J D) 2147483647 aa _ A5.out).mono ?_);rintro e w' ⟨rfl,⟨nd,rfl⟩⟩))
      go_roundg k1
      case measure=>have:=ah.out;omega
      case rel=>exact⟨(Int.tmod (wrap64 ((wrap64 ((wrap64 (U * 1000003))+aa))+13)) 2147483647),(wrap64 (D+1)),FR,FR,H',⟨by have:=ah.out;omega⟩,by repeat(first|exact Drawn0.refl _ | apply Drawn0.step)⟩
     ·rw[if_neg c4] at H;exact absurd H (by simp)
    ·rw[if_neg c3] at H;exact absurd H (by simp)
   ·rw[if_neg Z] at H;have aj:=decide_eq_false Z;clear Z;obtain rfl:=Option.some.inj H;go_wp2
    go_ret
    exact⟨FR,by repeat(first|exact Drawn0.refl _ | apply Drawn0.step)⟩

end Go.Proofs.YteemhimikamihaaGreat.MFnReplays
