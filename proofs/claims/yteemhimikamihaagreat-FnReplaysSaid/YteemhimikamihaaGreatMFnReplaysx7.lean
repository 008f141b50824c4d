import Derived.Test.YteemhimikamihaaGreatShr2
import Derived.Test.YteemhimikamihaaGreatMFnReplaysx0
import Derived.Test.YteemhimikamihaaGreatMFnReplaysx4
import Derived.Test.YteemhimikamihaaGreatMFnReplaysx5
import Derived.Test.YteemhimikamihaaGreatMFnReplaysx6
namespace Go.Proofs.YteemhimikamihaaGreat.MFnReplays
open Go.RowKit Go.Proofs.YteemhimikamihaaGreatW.PrintWords Go.Proofs.YteemhimikamihaaGreatW.PrintLast Go.Proofs.YteemhimikamihaaGreatW.PrintMore
attribute [local go_sem] max2_int min2_int max_two min_two max_three min_three max_four min_four
set_option linter.unusedVariables false
set_option maxHeartbeats 8000000
set_option maxRecDepth 100000
set_option linter.unusedSimpArgs false

def impl_LiveValue.j0:Nat→Int→Bool→List (S83)→Int→Int→List Int→Int→Int→Int→Int→Option (Int)
  | 0,_,_,_,_,_,_,_,_,_,_=>none
  | k+1,Y,aj,Z,X,aa,D,J,ab,ac,ae=>if aj=true then(some 0) else(if J=1 then((impl_FollowAt.f k Z ab ac ae (wrap64 (X+Y))).bind fun U=>((impl_ValueOfResource.f k U.1 U.2.1 U.2.2.1 U.2.2.2.1 U.2.2.2.2.1).bind fun ag=>(some ag))) else(if J=2 then(some (mn 999 (wrap64 (X+Y)))) else(if J=3 then((impl_Hash.f k (([aa,Y]:List Int))).bind fun ah=>((impl_Mod.f ah 1000).bind fun ai=>(some ai))) else(if J=4 then(if (D.length:Int) > 0 then(if (D.length:Int)=0 then(none) else(if 0≤(Int.tmod Y (D.length:Int)) then(if (Int.tmod Y (D.length:Int)) < (D.length:Int) then(some (rd D (Int.tmod Y (D.length:Int)))) else(none)) else(none))) else(some 0)) else(some 0)))))
def impl_LiveValue.f (k:Nat)(D:List (S83))(J:Int)(U:Int)(X:List Int)(Y:Int)(Z:Int)(aa:Int)(ab:Int)(a2:Int):Option (Int):=(impl_IsVisit.f k D J U X).bind fun ae=>(if ae=true then((impl_InRange.f a2 0 100).bind fun ag=>(impl_LiveValue.j0 k a2 (!ag) D J U X Y Z aa ab)) else(impl_LiveValue.j0 k a2 true D J U X Y Z aa ab))
theorem impl_LiveValue.calls (k:Nat)(am:Option Addr)(ao:Nat)(ab:List (S83))(ac:Int)(aa:Int)(ap:Option Addr)(aq:Nat)(J:List Int)(U:Int)(ag:Int)(ah:Int)(ai:Int)(a2:Int)(r:Int)(w:World)(bx:Kd.C k83 w am ab.length ab)(bz:ab.length≤ao)(b0:Kd.C (Kd.int .i64) w ap J.length J)(b4:J.length≤aq)(h:impl_LiveValue.f k ab ac aa J U ag ah ai a2=some r) :
  Calls Tryz.prog 47 #[.agg #[.slice am ab.length ao,.int .i64 ac,.int .i64 aa,.slice ap J.length aq],.agg #[.int .i64 U,.int .i64 ag,.int .i64 ah,.int .i64 ai],.int .i64 a2] w fun e w'=>e = .returned (.int .i64 r)∧Below w.heap.size w w':=by
 have fv:=Tryz.underlying28;have fw:=Tryz.underlying89;have fx:=Tryz.underlying48;have fy:=Tryz.underlying81;have bc:=ak bx;have bd:=ak bz;clear bx bz;have bf:=ak b0;have b5:=ak b4;clear b0 b4;have HB:=ak (Below.refl w.heap.size w);have H:=h;clear h;unfold impl_LiveValue.f at H;have cv:=ak H;clear H;go_enter Tryz.func47,Tryz.ntmps47
 go_upto_region 1 with (first|((with_reducible refine gate_dst (N:=3) rfl ?_);refine bx_ (N:=3) #[.slice am ab.length ao,.int .i64 ac,.int .i64 aa,.slice ap J.length aq] 28 ?_;intro bg hg w5 hbox hb;have D:=ak hbox;have b6:=gy hg HB;replace HB:=bs HB hb;clear hb hbox hg)|((with_reducible refine gate_dst (N:=4) rfl ?_);refine bx_ (N:=4) #[.int .i64 U,.int .i64 ag,.int .i64 ah,.int .i64 ai] 89 ?_;intro bh hg w6 hbox hb;have X:=ak hbox;have b7:=gy hg HB;replace HB:=bs HB hb;have Y:=gm hg D;have Z:=gn hg D;replace D:=kf D hb;clear hb hbox hg))
 repeat(go_quiet (first|((with_reducible refine gate_dst (N:=3) rfl ?_);refine bx_ (N:=3) #[.slice am ab.length ao,.int .i64 ac,.int .i64 aa,.slice ap J.length aq] 28 ?_;intro bg hg w5 hbox hb;have D:=ak hbox;have b6:=gy hg HB;replace HB:=bs HB hb;clear hb hbox hg)|((with_reducible refine gate_dst (N:=4) rfl ?_);refine bx_ (N:=4) #[.int .i64 U,.int .i64 ag,.int .i64 ah,.int .i64 ai] 89 ?_;intro bh hg w6 hbox hb;have X:=ak hbox;have b7:=gy hg HB;replace HB:=bs HB hb;have Y:=gm hg D;have Z:=gn hg D;replace D:=kf D hb;clear hb hbox hg));go_upto_region 1 with (first|((with_reducible refine gate_dst (N:=3) rfl ?_);refine bx_ (N:=3) #[.slice am ab.length ao,.int .i64 ac,.int .i64 aa,.slice ap J.length aq] 28 ?_;intro bg hg w5 hbox hb;have D:=ak hbox;have b6:=gy hg HB;replace HB:=bs HB hb;clear hb hbox hg)|((with_reducible refine gate_dst (N:=4) rfl ?_);refine bx_ (N:=4) #[.int .i64 U,.int .i64 ag,.int .i64 ah,.int .i64 ai] 89 ?_;intro bh hg w6 hbox hb;have X:=ak hbox;have b7:=gy hg HB;replace HB:=bs HB hb;have Y:=gm hg D;have Z:=gn hg D;replace D:=kf D hb;clear hb hbox hg)))
 (try simp only[Act.put,List.setIfInBounds_toArray,List.set_cons_zero,List.set_cons_succ])
 go_cut [16] (fun em wc=>∃(kq:Nat)(ar:Bool),em = .bool ar∧Aside0 (impl_LiveValue.j0 kq a2 ar ab ac aa J U ag ah ai=some r)∧Aside0 (kq≤k)∧Aside0 (wc.heap[bg]?=some (.cells #[(.slice am ab.length ao),.int .i64 ac,.int .i64 aa,(.slice ap J.length aq)] 28 (0,0)))∧Aside0 (wc.heap[bh]?=some (.cells #[.int .i64 U,.int .i64 ag,.int .i64 ah,.int .i64 ai] 89 (0,0)))∧Aside0 (Below w.heap.size w wc))
 case first =>
  have H:=cv.out;clear cv;obtain⟨dz,A7,H⟩:=obq H;(try dsimp only at H)
  by_cases c8:dz=true
  ·subst c8;rw[if_pos rfl] at H;obtain⟨cx,A9,H⟩:=obq H;(try dsimp only at H);have H':=ak H;clear H;have es:=Y.out;have et:=Z.out;obtain⟨ce,cf,cg,ch,ci,cj,ck,cl⟩:=bc4 D
   iterate 4 (try go_wp2_with (first|(go_at_call 7;(with_reducible refine(impl_IsVisit.calls k _ _ ab ac aa _ _ J true _ ?side1 bd.out ?side3 b5.out A7.out).mono ?_);(case side1=>exact Cq bc);(case side3=>exact Cq bf);rintro e f7 ⟨rfl,hb⟩;replace D:=kf D hb;replace X:=kf X hb;replace HB:=bs HB hb;clear hb)|(go_at_call 23;(with_reducible refine(impl_InRange.calls a2 0 100 cx _ A9.out).mono ?_);rintro e w' ⟨rfl,⟨nd,rfl⟩⟩;(try first|exact⟨rfl,_,World.drewN_drewN _ _ _⟩ | exact⟨rfl,_,Eq.trans (World.drewN_drewN _ _ _) (congrArg (World.drewN _) (Nat.add_assoc _ _ _))⟩)));try go_quiet (fail))
   go_meet
   case rel=>exact⟨_,(!cx),FR,H',⟨by first|omega | exact Nat.le_refl _⟩,⟨PK D⟩,⟨PK X⟩,⟨PB⟩⟩
  ·replace c8:=Bool.eq_false_iff.mpr c8;subst c8;rw[if_neg nft] at H;have H':=ak H;clear H;have eu:=Y.out;have ev:=Z.out;obtain⟨cm,cn,co,cp,cq,cr,ct,cu⟩:=bc4 D
   iterate 4 (try go_wp2_with (first|(go_at_call 7;(with_reducible refine(impl_IsVisit.calls k _ _ ab ac aa _ _ J false _ ?side1 bd.out ?side3 b5.out A7.out).mono ?_);(case side1=>exact Cq bc);(case side3=>exact Cq bf);rintro e f8 ⟨rfl,hb⟩;replace D:=kf D hb;replace X:=kf X hb;replace HB:=bs HB hb;clear hb));try go_quiet (fail))
   go_meet
   case rel=>exact⟨_,(true),FR,H',⟨by first|omega | exact Nat.le_refl _⟩,⟨PK D⟩,⟨PK X⟩,⟨PB⟩⟩
 case rest =>
  clear cv;(try clear c1);(try clear p2);(try clear c4);(try clear c8);(try clear f9);(try clear ga);(try clear ce);(try clear cf);(try clear cg);(try clear ch);(try clear cm);(try clear cn);(try clear co);(try clear cp);(try clear ci);(try clear cj);(try clear ck);(try clear cl);(try clear cq);(try clear cr);(try clear ct);(try clear cu);obtain⟨kq,ar,rfl,HA,gb,D,X,HB⟩:=hcut
  cases kq with
  | zero=>exact absurd HA.out (by simp[impl_LiveValue.j0])
  | succ kj3 =>
   have H:=HA.out;clear HA;simp only[impl_LiveValue.j0] at H
   by_cases b8:ar=true
   ·subst b8;rw[if_pos rfl] at H;obtain rfl:=Option.some.inj H;go_wp2
    repeat(go_quiet (fail);try go_wp2)
    go_ret
    exact⟨RT,PB⟩
   ·replace b8:=Bool.eq_false_iff.mpr b8;subst b8;rw[if_neg nft] at H
    by_cases aw:U=1
    ·rw[if_pos aw] at H;obtain⟨dk,dl⟩:=eqq1 aw;clear aw;obtain⟨⟨cy,cz,da,db,dc,d7⟩,eo,H⟩:=obq H;(try dsimp only at H);obtain⟨d8,ep,H⟩:=obq H;(try dsimp only at H);obtain rfl:=Option.some.inj H;have ew:=Z.out;have ex:=Y.out;obtain⟨_,_,_,_,_,_,_,_⟩:=bc4 X;obtain⟨_,_,_,_,_,_,_,_⟩:=bc4 D
     iterate 4 (try go_wp2_with (first|(go_at_call 63;(with_reducible refine(impl_FollowAt.calls kj3 _ _ ab ag ah ai (wrap64 (ac+a2)) cy cz da db dc d7 _ ?side1 bd.out eo.out).mono ?_);(case side1=>exact Cq bc);rintro e gc ⟨f0,f1,rfl,ho0,ho1,hb⟩;have al:=Rn0 ho0 HB;have ey:=Rn0 ho1 HB;replace D:=kf D hb;replace X:=kf X hb;replace HB:=bs HB hb;clear hb ho0 ho1)|((with_reducible refine gate_dst (N:=7) rfl ?_);refine bx_ (N:=7) #[.int .i64 0,.slice none 0 0,.int .i64 0,.int .i64 0,.int .i64 0] 81 ?_;intro ez hg gf hbox hb;replace al:=Rb al hb;have b9:=ak hbox;have e7:=gy hg HB;replace HB:=bs HB hb;have bl:=gm hg D;have bm:=gn hg D;have bo:=gm hg X;have bp:=gn hg X;clear hb hbox hg;have e8:=bm.out;have e9:=bl.out;have fa:=bp.out;have fb:=bo.out;obtain⟨ea,eb,ec,ed,ee,ef,eg,eh,ei,ej⟩:=bc5 b9;obtain⟨f2,f3,rfl⟩:=Kd.R_slice al.out)|(go_at_call 64;(with_reducible refine(impl_ValueOfResource.calls kj3 cy _ _ cz da db dc d8 _ ?side1 (rl al) ep.out).mono ?_);(case side1=>exact(Kd.R_reads' (Re1 al b9)).2.2);rintro e gg ⟨rfl,hb⟩;replace HB:=bs HB hb;clear hb));try go_quiet (fail))
     go_ret
     exact⟨RT,PB⟩
    ·rw[if_neg aw] at H;obtain⟨dk,dl⟩:=eqq2 aw
     by_cases ax:U=2
     ·rw[if_pos ax] at H;obtain⟨dn,dp⟩:=eqq1 ax;clear ax;obtain⟨dg,au⟩:∃ j_:Int,(mn 999 (wrap64 (ac+a2)))=j_:=⟨_,rfl⟩
      replace H:(some dg)=some r:=by first|(rw[au] at H;exact H)|(simp only[au] at H ⊢;exact H)
      have hji31_:(if (wrap64 (ac+a2)) < 999 then(wrap64 (ac+a2)) else 999)=dg:=au;obtain rfl:=Option.some.inj H;have fc:=Z.out;have fd:=Y.out;obtain⟨_,_,_,_,_,_,_,_⟩:=bc4 X;obtain⟨_,_,_,_,_,_,_,_⟩:=bc4 D;go_wp2
      repeat(go_quiet (fail);try go_wp2)
      go_ret
      exact⟨by first|rfl|(simp[errW_none,errW_some] <;> rfl)|(simp only[←au];first|rfl|(simp[errW_none,errW_some] <;> rfl))|(simp[*,errW_none,errW_some] <;> rfl),PB⟩
     ·rw[if_neg ax] at H;obtain⟨dn,dp⟩:=eqq2 ax
      by_cases ay:U=3
      ·rw[if_pos ay] at H;obtain⟨dq,dr⟩:=eqq1 ay;clear ay;obtain⟨dh,av⟩:∃ y_:List Int,y_=(([aa,a2]:List Int)):=⟨_,rfl⟩
       first|replace H:=bnd_ H av|rw[←av] at H
       have ca:=ak av;clear av;obtain⟨bi,eq,H⟩:=obq H;(try dsimp only at H);obtain⟨bu,er,H⟩:=obq H;(try dsimp only at H);obtain rfl:=Option.some.inj H;have fe:=Z.out;have ff:=Y.out;obtain⟨_,_,_,_,_,_,_,_⟩:=bc4 X;obtain⟨_,_,_,_,_,_,_,_⟩:=bc4 D
       iterate 4 (try go_wp2_with (first|((with_reducible refine gate_dst (N:=47) rfl ?_);refine Kd.R_lit (Kd.int .i64) _ 3 ?hg (N:=47) ?hd (xs:=([aa,a2]:List Int)) (inner:=[.int .i64 aa,.int .i64 a2]) (ok:=fun _=>True) (okp:=fun _=>True) ?hr ?hp (fun _ hk=>hk) trivial (Below.refl _ _) (Nat.le_refl _) (by simp) ?_;(case hd=>rfl);(case hg=>rfl);(case hr=>first|(go_simp;done)|(go_simp;rfl));(case hp=>exact(Reps.one (show Kd.M (Kd.int .i64) _ _ _ aa [.int .i64 aa] from rfl) (Reps.one (show Kd.M (Kd.int .i64) _ _ _ a2 [.int .i64 a2] from rfl) (Reps.none _ _))));intro f4 gh ho42 hb hg_ hnew_;clear hg_ hnew_;(first|rw[←ca.out] at ho42|(simp only[Int.reduceToNat] at ho42;rw[←ca.out] at ho42));have bj:=Rn0 ho42 HB;replace HB:=bs HB hb;clear hb ho42;obtain⟨f5,f6,rfl⟩:=Kd.R_slice bj.out)|(go_at_call 66;(with_reducible refine(impl_Hash.calls kj3 _ _ dh bi _ ?side1 (rl bj) eq.out).mono ?_);(case side1=>exact CR (rr bj));rintro e w' ⟨rfl,⟨nd,rfl⟩⟩;(try first|exact⟨rfl,_,World.drewN_drewN _ _ _⟩ | exact⟨rfl,_,Eq.trans (World.drewN_drewN _ _ _) (congrArg (World.drewN _) (Nat.add_assoc _ _ _))⟩))|(go_at_call 65;(with_reducible refine(impl_Mod.calls bi 1000 bu _ er.out).mono ?_);rintro e w' ⟨rfl,⟨nd,rfl⟩⟩;(try first|exact⟨rfl,_,World.drewN_drewN _ _ _⟩ | exact⟨rfl,_,Eq.trans (World.drewN_drewN _ _ _) (congrArg (World.drewN _) (Nat.add_assoc _ _ _))⟩)));try go_quiet (fail))
       go_ret
       exact⟨RT,PB⟩
      ·rw[if_neg ay] at H;obtain⟨dq,dr⟩:=eqq2 ay
       by_cases az:U=4
       ·rw[if_pos az] at H;obtain⟨dt,du⟩:=eqq1 az;clear az
        by_cases ba:(J.length:Int) > 0
        ·rw[if_pos ba] at H;have dv:decide (0 < (J.length:Int))=true:=decide_eq_true ba;have dw:decide (0 < J.length)=true:=decide_eq_true (by omega);clear ba
         by_cases br:(J.length:Int)=0
         ·rw[if_pos br] at H;exact absurd H (by simp)
         ·rw[if_neg br] at H;obtain⟨fg,fh⟩:=eqq2 br
          have fi:¬(J=[]):=fun h_=>br (by rw[h_];rfl)
          obtain⟨ae,bk⟩:∃ j_:Int,(Int.tmod a2 (J.length:Int))=j_:=⟨_,rfl⟩
          replace H:(if 0≤(ae) then(if (ae) < (J.length:Int) then(some (rd J (ae))) else(none)) else(none))=some r:=by first|(rw[bk] at H;exact H)|(simp only[bk] at H ⊢;exact H)
          by_cases cb:0≤(ae)
          ·rw[if_pos cb] at H;have fj:=decide_eq_true cb;clear cb
           by_cases cd:(ae) < (J.length:Int)
           ·rw[if_pos cd] at H;have fk:=decide_eq_true cd;clear cd;obtain rfl:=Option.some.inj H;have fl:=Z.out;have fm:=Y.out;obtain⟨_,_,_,_,_,_,_,_⟩:=bc4 X;obtain⟨_,_,_,_,_,_,_,_⟩:=bc4 D;have bv:0≤((ae):Int):=od;have bw:(ae) < (J.length:Int):=od;obtain⟨fo,d9,bb⟩:=Kd.at_int bf.out (ae) bv bw;cases d9;replace bb:=hx_ HB bb;replace bv:=eq_true bv;replace bw:=eq_true bw;go_wp2
            repeat(go_quiet (fail);try go_wp2)
            go_ret
            exact⟨by first|rfl|(simp[errW_none,errW_some] <;> rfl)|(simp only[←bk];first|rfl|(simp[errW_none,errW_some] <;> rfl))|(simp[*,errW_none,errW_some] <;> rfl),PB⟩
           ·rw[if_neg cd] at H;exact absurd H (by simp)
          ·rw[if_neg cb] at H;exact absurd H (by simp)
        ·rw[if_neg ba] at H;have dv:decide (0 < (J.length:Int))=false:=decide_eq_false ba;have dw:decide (0 < J.length)=false:=decide_eq_false (by omega);clear ba;obtain rfl:=Option.some.inj H;have fp:=Z.out;have fq:=Y.out;obtain⟨_,_,_,_,_,_,_,_⟩:=bc4 X;obtain⟨_,_,_,_,_,_,_,_⟩:=bc4 D;go_wp2
         repeat(go_quiet (fail);try go_wp2)
         go_ret
         exact⟨RT,PB⟩
       ·rw[if_neg az] at H;obtain⟨dt,du⟩:=eqq2 az;obtain rfl:=Option.some.inj H;have ft:=Z.out;have fu:=Y.out;obtain⟨_,_,_,_,_,_,_,_⟩:=bc4 X;go_wp2
        repeat(go_quiet (fail);try go_wp2)
        go_ret
        exact⟨RT,PB⟩

def impl_copyState.f (D:Int)(J:List Int)(U:List Int)(X:List Int):Option (Int×List Int×List Int×List Int):=(slices_Clone_int_int.f J).bind fun Y=>((slices_Clone_int_int.f U).bind fun Z=>((slices_Clone_int_int.f X).bind fun aa=>(some (D,Y,Z,aa))))
def impl_copyState.T1:Bool×List (List Nat×List Nat):=(true,[([],[]),([0],[0]),([],[]),([2],[2]),([3],[3]),([],[]),([5],[5]),([6,4],[6]),([],[]),([8],[8]),([9,7],[9]),([1,4,7,10],[1,4,7,10]),([11,10,0,1,2,3,4,5,6,7,8,9,10,11],[11])])
def impl_copyState.B1:List Nat:=[0,1,0,4,12,0,32,124,0,256,1020,2047,4095]
theorem impl_copyState.tab1:rtab .any (opsOf Tryz.f28 1)=impl_copyState.T1:=by kernel_rfl
theorem impl_copyState.bits1:waitsOk impl_copyState.T1.2 impl_copyState.B1=true:=by kernel_rfl
theorem impl_copyState.calls (ah:Int)(ai:Option Addr)(aj:Nat)(aa:List Int)(al:Option Addr)(am:Nat)(ab:List Int)(ao:Option Addr)(ap:Nat)(ac:List Int)(r1:Int)(r2:List Int)(r3:List Int)(r4:List Int)(w:World)(aq:Kd.C (Kd.int .i64) w ai aa.length aa)(ar:aa.length≤aj)(au:Kd.C (Kd.int .i64) w al ab.length ab)(av:ab.length≤am)(aw:Kd.C (Kd.int .i64) w ao ac.length ac)(ax:ac.length≤ap)(h:impl_copyState.f ah aa ab ac=some (r1,r2,r3,r4)) :
  Calls Tryz.prog 28 #[.agg #[.int .i64 ah,.slice ai aa.length aj,.slice al ab.length am,.slice ao ac.length ap]] w fun e w'=>∃ ay az ba:Value,e = .returned (.agg #[.int .i64 r1,ay,az,ba])∧Kd.R (Kd.int .i64) 3 w' w.heap.size (fun k_=>some k_≠(az:Value).ownBlock∧some k_≠(ba:Value).ownBlock) ay r2∧Kd.R (Kd.int .i64) 3 w' w.heap.size (fun k_=>some k_≠(ay:Value).ownBlock∧some k_≠(ba:Value).ownBlock) az r3∧Kd.R (Kd.int .i64) 3 w' w.heap.size (fun k_=>some k_≠(ay:Value).ownBlock∧some k_≠(az:Value).ownBlock) ba r4∧Below w.heap.size w w':=by
 have b9:=Tryz.underlying35;have bk:=ak aq;have bl:=ak ar;clear aq ar;have bm:=ak au;have bo:=ak av;clear au av;have bp:=ak aw;have br:=ak ax;clear aw ax;have HB:=ak (Below.refl w.heap.size w);have H:=h;clear h;unfold impl_copyState.f at H;obtain⟨bd,A2,H⟩:=obq H;(try dsimp only at H);obtain⟨bf,A3,H⟩:=obq H;(try dsimp only at H);obtain⟨bg,A4,H⟩:=obq H;(try dsimp only at H);simp only[Option.some.injEq,Prod.mk.injEq] at H;obtain⟨rfl,rfl,rfl,rfl⟩:=H;go_enter Tryz.func28,Tryz.ntmps28
 try go_wp2_with (first|((with_reducible refine gate_dst (N:=1) rfl ?_);refine bx_ (N:=1) #[.int .i64 ah,.slice ai aa.length aj,.slice al ab.length am,.slice ao ac.length ap] 35 ?_;intro ag hg w5 hbox hb;have J:=ak hbox;have b7:=gy hg HB;replace HB:=bs HB hb;clear hb hbox hg)|((with_reducible refine gate_dst (N:=2) rfl ?_);refine bx_ (N:=2) #[.int .i64 0,.slice none 0 0,.slice none 0 0,.slice none 0 0] 35 ?_;intro U hg w6 hbox hb;have X:=ak hbox;have b8:=gy hg HB;replace HB:=bs HB hb;have D:=gm hg J;have Z:=gn hg J;replace J:=kf J hb;clear hb hbox hg))
 replace J:=ak (blk_drew J.out);replace X:=ak (blk_drew X.out);replace HB:=ak (below_drew1 HB.out);refine start_ (n:=13) (S:=fun w'=>w'.cell? ⟨ag,0,none⟩=some (.int .i64 ah)∧w'.cell? ⟨ag,1,none⟩=some (.slice ai aa.length aj)∧w'.cell? ⟨ag,2,none⟩=some (.slice al ab.length am)∧w'.cell? ⟨ag,3,none⟩=some (.slice ao ac.length ap)) (ds:=[]) #[false,false,false,false,false,false,false,false,false,false,false,false,false] KR rfl rfl ⟨bq J 0,bq J 1,bq J 2,bq J 3⟩ (fun hHeld=>?_);refine with_tabW impl_copyState.tab1 impl_copyState.bits1 (fun HT_ HW_=>?_)
 generalize w6.drew=w7 at J X HB hHeld ⊢
 refine pu_ (i:=0) (N:=some 3) #[true,false,false,false,false,false,false,false,false,false,false,false,false] HT_ ?_;refine pu_ (i:=2) (N:=some 5) #[true,false,true,false,false,false,false,false,false,false,false,false,false] HT_ ?_;refine pu_ (i:=5) (N:=some 8) #[true,false,true,false,false,true,false,false,false,false,false,false,false] HT_ ?_;refine pu_ (i:=8) (N:=some 11) #[true,false,true,false,false,true,false,false,true,false,false,false,false] HT_ ?_;refine tk_ (i:=1) (N:=some 4) #[true,true,true,false,false,true,false,false,true,false,false,false,false] rfl rfl HT_ HW_ hHeld ?_;refine tq_ (i:=3) (N:=some 6) #[true,true,true,true,false,true,false,false,true,false,false,false,false] rfl rfl (take_ofW HT_.out HW_.out KR) hHeld ?_
 refine tk_ (i:=6) (N:=some 9) #[true,true,true,true,false,true,true,false,true,false,false,false,false] rfl rfl HT_ HW_ hHeld ?_;refine tq_ (i:=9) (N:=some 12) #[true,true,true,true,false,true,true,false,true,true,false,false,false] rfl rfl (take_ofW HT_.out HW_.out KR) hHeld ?_
 refine one_ (i:=4) (N:=some 7) #[true,true,true,true,true,true,true,false,true,true,false,false,false] rfl rfl (one_of HT_.out KR) (by decide) (fun K hK=>?_);refine goes_ Tryz.func50 KR rfl #[.slice ai aa.length aj] (by rfl) rfl rfl AR ?_
 with_reducible refine(slices_Clone_int_int.calls _ _ aa bd _ ?side1 ?side2 A2.out).mono ?_
 (case side1=>exact Cq bk);(case side2=>exact bl.out);rintro e w8 ⟨cf,rfl,ho0,hb⟩;refine⟨_,rfl,?_⟩;have Y:=Rn0 ho0 HB;replace J:=kf J hb;replace X:=kf X hb;replace HB:=bs HB hb;(try clear hb);(try clear hb2);(try clear hk);(try clear hi);(try clear ho0);obtain⟨Ao619_,co619_,eo619_⟩:=Kd.R_slice Y.out;subst eo619_;refine hK.out _ _ ⟨bq J 0,bq J 1,bq J 2,bq J 3⟩ (fun hHeld=>?_);clear hK K;refine nq_ (N:=(some 7)) ?_
 refine one_ (i:=7) (N:=some 10) #[true,true,true,true,true,true,true,true,true,true,false,false,false] rfl rfl (one_of HT_.out KR) (by decide) (fun K hK=>?_);refine goes_ Tryz.func50 KR rfl #[.slice al ab.length am] (by rfl) rfl rfl AR ?_
 with_reducible refine(slices_Clone_int_int.calls _ _ ab bf _ ?side1 ?side2 A3.out).mono ?_
 (case side1=>exact Cq bm);(case side2=>exact bo.out);rintro e w9 ⟨cg,rfl,ho0,hb⟩;refine⟨_,rfl,?_⟩;have ae:=Rn1 ho0 HB Y;replace Y:=ak (Kd.R_elder' (PR Y) (Kd.R_base ho0) hb);replace J:=kf J hb;replace X:=kf X hb;replace HB:=bs HB hb;(try clear hb);(try clear hb2);(try clear hk);(try clear hi);(try clear ho0);refine hK.out _ _ ⟨bq J 0,bq J 1,bq J 2,bq J 3⟩ (fun hHeld=>?_);clear hK K;refine nq_ (N:=(some 10)) ?_
 refine one_ (i:=10) (N:=some 13) #[true,true,true,true,true,true,true,true,true,true,true,false,false] rfl rfl (one_of HT_.out KR) (by decide) (fun K hK=>?_);refine goes_ Tryz.func50 KR rfl #[.slice ao ac.length ap] (by rfl) rfl rfl AR ?_
 with_reducible refine(slices_Clone_int_int.calls _ _ ac bg _ ?side1 ?side2 A4.out).mono ?_
 (case side1=>exact Cq bp);(case side2=>exact br.out);rintro e bb ⟨ch,rfl,ho0,hb⟩;refine⟨_,rfl,?_⟩;have bc:=Rn2 ho0 HB Y ae;replace Y:=ak (Kd.R_elder' (PR Y) (Kd.R_base ho0) hb);replace ae:=ak (Kd.R_elder' (PR ae) (Kd.R_base ho0) hb);replace J:=kf J hb;replace X:=kf X hb;replace HB:=bs HB hb;(try clear hb);(try clear hb2);(try clear hk);(try clear hi);(try clear ho0);obtain⟨bx,bz,bh⟩:=Kd.R_slice bc.out;(first|subst bh|(injection bh with f1_ f2_ f3_;have f4_:=f1_.symm;have f5_:=f3_.symm;clear f1_ f2_ f3_;subst f4_;subst f5_));obtain⟨b0,b4,bi⟩:=Kd.R_slice ae.out;(first|subst bi|(injection bi with f1_ f2_ f3_;have f4_:=f1_.symm;have f5_:=f3_.symm;clear f1_ f2_ f3_;subst f4_;subst f5_));obtain⟨b5,b6,bj⟩:=Kd.R_slice Y.out;(first|subst bj|(injection bj with f1_ f2_ f3_;have f4_:=f1_.symm;have f5_:=f3_.symm;clear f1_ f2_ f3_;subst f4_;subst f5_));refine hK.out _ _ ⟨bq J 0,bq J 1,bq J 2,bq J 3⟩ (fun hHeld=>?_);clear hK K;refine nq_ (N:=(some 13)) ?_
 refine pu_ (i:=11) (N:=some 14) #[true,true,true,true,true,true,true,true,true,true,true,true,false] HT_ ?_;refine one_ (i:=12) (N:=none) #[true,true,true,true,true,true,true,true,true,true,true,true,true] rfl rfl (one_of HT_.out KR) (by decide) (fun K hK=>?_);have hs14:bb.cell? ⟨U,0,none⟩=some (.int .i64 0):=bq X 0;have hfs14:=blk_frozen X.out 0;have hns14_0:=D.out;have hms14_0:=Z.out;have hs15:bb.cell? ⟨U,1,none⟩=some (.slice none 0 0):=bq X 1;have hfs15:=blk_frozen X.out 1;have hns15_0:=D.out;have hms15_0:=Z.out;have hs16:bb.cell? ⟨U,2,none⟩=some (.slice none 0 0):=bq X 2;have hfs16:=blk_frozen X.out 2;have hns16_0:=D.out;have hms16_0:=Z.out;have hs17:bb.cell? ⟨U,3,none⟩=some (.slice none 0 0):=bq X 3;have hfs17:=blk_frozen X.out 3;have hns17_0:=D.out;have hms17_0:=Z.out;refine skip_ (w1:=?_) (by rfl) rfl ?_ ?_;rotate_left
 ·go_simp
  rfl
 refine hK.out _ _ ⟨((cell_far (p:=⟨U,_,none⟩) D.out _).trans (((cell_far (p:=⟨U,_,none⟩) D.out _).trans (((cell_far (p:=⟨U,_,none⟩) D.out _).trans (((cell_far (p:=⟨U,_,none⟩) D.out _).trans (hHeld.1)))))))),((cell_far (p:=⟨U,_,none⟩) D.out _).trans (((cell_far (p:=⟨U,_,none⟩) D.out _).trans (((cell_far (p:=⟨U,_,none⟩) D.out _).trans (((cell_far (p:=⟨U,_,none⟩) D.out _).trans (hHeld.2.1)))))))),((cell_far (p:=⟨U,_,none⟩) D.out _).trans (((cell_far (p:=⟨U,_,none⟩) D.out _).trans (((cell_far (p:=⟨U,_,none⟩) D.out _).trans (((cell_far (p:=⟨U,_,none⟩) D.out _).trans (hHeld.2.2.1)))))))),((cell_far (p:=⟨U,_,none⟩) D.out _).trans (((cell_far (p:=⟨U,_,none⟩) D.out _).trans (((cell_far (p:=⟨U,_,none⟩) D.out _).trans (((cell_far (p:=⟨U,_,none⟩) D.out _).trans (hHeld.2.2.2))))))))⟩ (fun hHeld=>?_);clear hK K;refine done_ (done_of HT_.out KR) ?_
 try go_wp2
 refine bodyPost_ret (results_cell_row rfl _ _ U 35 #[.int .i64 ah,.slice b5 bd.length b6,.slice b0 bf.length b4,.slice bx bg.length bz] (0,0) _ rfl (PX X) Tryz.underlying35 rfl KR) rfl ?_;exact⟨_,_,_,RT,RX (Rt Y.out X) (fun _ hk=>by first|exact⟨hk.1.1.2,hk.1.2⟩ | simp_all),RX (Rt ae.out X) (fun _ hk=>by first|exact⟨hk.1.1.2,hk.1.2⟩ | simp_all),RX (Rt bc.out X) (fun _ hk=>by first|exact⟨hk.1.1.2,hk.1.2⟩ | simp_all),PB⟩

end Go.Proofs.YteemhimikamihaaGreat.MFnReplays
