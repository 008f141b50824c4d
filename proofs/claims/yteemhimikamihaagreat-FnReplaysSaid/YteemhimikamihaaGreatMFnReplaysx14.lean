import Derived.Test.YteemhimikamihaaGreatShr2
import Derived.Test.YteemhimikamihaaGreatMFnReplaysx0
import Derived.Test.YteemhimikamihaaGreatMFnReplaysx11
import Derived.Test.YteemhimikamihaaGreatMFnReplaysx12
import Derived.Test.YteemhimikamihaaGreatMFnReplaysx13
namespace Go.Proofs.YteemhimikamihaaGreat.MFnReplays
open Go.RowKit Go.Proofs.YteemhimikamihaaGreatW.PrintWords Go.Proofs.YteemhimikamihaaGreatW.PrintLast Go.Proofs.YteemhimikamihaaGreatW.PrintMore
attribute [local go_sem] max2_int min2_int max_two min_two max_three min_three max_four min_four
set_option linter.unusedVariables false
set_option maxHeartbeats 8000000
set_option maxRecDepth 100000
set_option linter.unusedSimpArgs false

def spec_LiveValue.j0:Nat→Int→Bool→List (S83)→Int→Int→List Int→Int→Int→Int→Int→Option (Int)
  | 0,_,_,_,_,_,_,_,_,_,_=>none
  | k+1,x2,al,Y,X,Z,D,J,aa,ab,ac=>if al=true then(some 0) else(if J=1 then((spec_FollowAt.f k Y aa ab ac (wrap64 (X+x2))).bind fun U=>((spec_ValueOfResource.f k U.1 U.2.1 U.2.2.1 U.2.2.2.1 U.2.2.2.2.1).bind fun ag=>(some ag))) else(if J=2 then((spec_Min.f 999 (wrap64 (X+x2))).bind fun ah=>(some ah)) else(if J=3 then((spec_Hash.f k (([Z,x2]:List Int))).bind fun ai=>((spec_Mod.f ai 1000).bind fun aj=>(some aj))) else(if J=4 then(if (D.length:Int) > 0 then(if (D.length:Int)=0 then(none) else(if 0≤(Int.tmod x2 (D.length:Int)) then(if (Int.tmod x2 (D.length:Int)) < (D.length:Int) then(some (rd D (Int.tmod x2 (D.length:Int)))) else(none)) else(none))) else(some 0)) else(some 0)))))
def spec_LiveValue.f (k:Nat)(D:List (S83))(J:Int)(U:Int)(X:List Int)(Y:Int)(Z:Int)(aa:Int)(ab:Int)(a2:Int):Option (Int):=(spec_IsVisit.f k D J U X).bind fun ac=>(if ac=true then((spec_l1In.f a2 0 100).bind fun ae=>(spec_LiveValue.j0 k a2 (!ae) D J U X Y Z aa ab)) else(spec_LiveValue.j0 k a2 true D J U X Y Z aa ab))
theorem spec_LiveValue.calls (k:Nat)(am:Option Addr)(ao:Nat)(ab:List (S83))(ac:Int)(aa:Int)(ap:Option Addr)(aq:Nat)(Y:List Int)(Z:Int)(ag:Int)(ah:Int)(ai:Int)(a2:Int)(r:Int)(w:World)(b4:Kd.C k83 w am ab.length ab)(b5:ab.length≤ao)(b6:Kd.C (Kd.int .i64) w ap Y.length Y)(b7:Y.length≤aq)(h:spec_LiveValue.f k ab ac aa Y Z ag ah ai a2=some r) :
  Calls Tryz.prog 75 #[.agg #[.slice am ab.length ao,.int .i64 ac,.int .i64 aa,.slice ap Y.length aq],.agg #[.int .i64 Z,.int .i64 ag,.int .i64 ah,.int .i64 ai],.int .i64 a2] w fun e w'=>e = .returned (.int .i64 r)∧Below w.heap.size w w':=by
 have fz:=Tryz.underlying28;have f0:=Tryz.underlying89;have f1:=Tryz.underlying48;have f2:=Tryz.underlying81;have bk:=ak b4;have bl:=ak b5;clear b4 b5;have bm:=ak b6;have b8:=ak b7;clear b6 b7;have HB:=ak (Below.refl w.heap.size w);have H:=h;clear h;unfold spec_LiveValue.f at H;have db:=ak H;clear H;go_enter Tryz.func75,Tryz.ntmps75
 go_upto_region 1 with (first|((with_reducible refine gate_dst (N:=3) rfl ?_);refine bx_ (N:=3) #[.slice am ab.length ao,.int .i64 ac,.int .i64 aa,.slice ap Y.length aq] 28 ?_;intro aw hg w5 hbox hb;have D:=ak hbox;have bv:=gy hg HB;replace HB:=bs HB hb;clear hb hbox hg)|((with_reducible refine gate_dst (N:=4) rfl ?_);refine bx_ (N:=4) #[.int .i64 Z,.int .i64 ag,.int .i64 ah,.int .i64 ai] 89 ?_;intro ax hg w6 hbox hb;have X:=ak hbox;have bw:=gy hg HB;replace HB:=bs HB hb;have J:=gm hg D;have U:=gn hg D;replace D:=kf D hb;clear hb hbox hg))
 repeat(go_quiet (first|((with_reducible refine gate_dst (N:=3) rfl ?_);refine bx_ (N:=3) #[.slice am ab.length ao,.int .i64 ac,.int .i64 aa,.slice ap Y.length aq] 28 ?_;intro aw hg w5 hbox hb;have D:=ak hbox;have bv:=gy hg HB;replace HB:=bs HB hb;clear hb hbox hg)|((with_reducible refine gate_dst (N:=4) rfl ?_);refine bx_ (N:=4) #[.int .i64 Z,.int .i64 ag,.int .i64 ah,.int .i64 ai] 89 ?_;intro ax hg w6 hbox hb;have X:=ak hbox;have bw:=gy hg HB;replace HB:=bs HB hb;have J:=gm hg D;have U:=gn hg D;replace D:=kf D hb;clear hb hbox hg));go_upto_region 1 with (first|((with_reducible refine gate_dst (N:=3) rfl ?_);refine bx_ (N:=3) #[.slice am ab.length ao,.int .i64 ac,.int .i64 aa,.slice ap Y.length aq] 28 ?_;intro aw hg w5 hbox hb;have D:=ak hbox;have bv:=gy hg HB;replace HB:=bs HB hb;clear hb hbox hg)|((with_reducible refine gate_dst (N:=4) rfl ?_);refine bx_ (N:=4) #[.int .i64 Z,.int .i64 ag,.int .i64 ah,.int .i64 ai] 89 ?_;intro ax hg w6 hbox hb;have X:=ak hbox;have bw:=gy hg HB;replace HB:=bs HB hb;have J:=gm hg D;have U:=gn hg D;replace D:=kf D hb;clear hb hbox hg)))
 (try simp only[Act.put,List.setIfInBounds_toArray,List.set_cons_zero,List.set_cons_succ])
 go_cut [16] (fun em wc=>∃(kq:Nat)(au:Bool),em = .bool au∧Aside0 (spec_LiveValue.j0 kq a2 au ab ac aa Y Z ag ah ai=some r)∧Aside0 (kq≤k)∧Aside0 (wc.heap[aw]?=some (.cells #[(.slice am ab.length ao),.int .i64 ac,.int .i64 aa,(.slice ap Y.length aq)] 28 (0,0)))∧Aside0 (wc.heap[ax]?=some (.cells #[.int .i64 Z,.int .i64 ag,.int .i64 ah,.int .i64 ai] 89 (0,0)))∧Aside0 (Below w.heap.size w wc))
 case first =>
  have H:=db.out;clear db;obtain⟨dj,A7,H⟩:=obq H;(try dsimp only at H)
  by_cases c8:dj=true
  ·subst c8;rw[if_pos rfl] at H;obtain⟨b9,A9,H⟩:=obq H;(try dsimp only at H);have H':=ak H;clear H;have ex:=J.out;have ey:=U.out;obtain⟨ck,cl,cm,cn,co,cp,cq,cr⟩:=bc4 D
   iterate 4 (try go_wp2_with (first|(go_at_call 72;(with_reducible refine(spec_IsVisit.calls k _ _ ab ac aa _ _ Y true _ ?side1 bl.out ?side3 b8.out A7.out).mono ?_);(case side1=>exact Cq bk);(case side3=>exact Cq bm);rintro e f8 ⟨rfl,hb⟩;replace D:=kf D hb;replace X:=kf X hb;replace HB:=bs HB hb;clear hb)|(go_at_call 88;(with_reducible refine(spec_l1In.calls a2 0 100 b9 _ A9.out).mono ?_);rintro e w' ⟨rfl,⟨nd,rfl⟩⟩;(try first|exact⟨rfl,_,World.drewN_drewN _ _ _⟩ | exact⟨rfl,_,Eq.trans (World.drewN_drewN _ _ _) (congrArg (World.drewN _) (Nat.add_assoc _ _ _))⟩)));try go_quiet (fail))
   go_meet
   case rel=>exact⟨_,(!b9),FR,H',⟨by first|omega | exact Nat.le_refl _⟩,⟨PK D⟩,⟨PK X⟩,⟨PB⟩⟩
  ·replace c8:=Bool.eq_false_iff.mpr c8;subst c8;rw[if_neg nft] at H;have H':=ak H;clear H;have ez:=J.out;have e7:=U.out;obtain⟨ct,cu,cv,cw,cx,cy,cz,da⟩:=bc4 D
   iterate 4 (try go_wp2_with (first|(go_at_call 72;(with_reducible refine(spec_IsVisit.calls k _ _ ab ac aa _ _ Y false _ ?side1 bl.out ?side3 b8.out A7.out).mono ?_);(case side1=>exact Cq bk);(case side3=>exact Cq bm);rintro e f9 ⟨rfl,hb⟩;replace D:=kf D hb;replace X:=kf X hb;replace HB:=bs HB hb;clear hb));try go_quiet (fail))
   go_meet
   case rel=>exact⟨_,(true),FR,H',⟨by first|omega | exact Nat.le_refl _⟩,⟨PK D⟩,⟨PK X⟩,⟨PB⟩⟩
 case rest =>
  clear db;(try clear c1);(try clear p2);(try clear c7);(try clear c8);(try clear ga);(try clear gb);(try clear ck);(try clear cl);(try clear cm);(try clear cn);(try clear ct);(try clear cu);(try clear cv);(try clear cw);(try clear co);(try clear cp);(try clear cq);(try clear cr);(try clear cx);(try clear cy);(try clear cz);(try clear da);obtain⟨kq,au,rfl,HA,gc,D,X,HB⟩:=hcut
  cases kq with
  | zero=>exact absurd HA.out (by simp[spec_LiveValue.j0])
  | succ kj3 =>
   have H:=HA.out;clear HA;simp only[spec_LiveValue.j0] at H
   by_cases ca:au=true
   ·subst ca;rw[if_pos rfl] at H;obtain rfl:=Option.some.inj H;go_wp2
    repeat(go_quiet (fail);try go_wp2)
    go_ret
    exact⟨RT,PB⟩
   ·replace ca:=Bool.eq_false_iff.mpr ca;subst ca;rw[if_neg nft] at H
    by_cases ay:Z=1
    ·rw[if_pos ay] at H;obtain⟨dk,dl⟩:=eqq1 ay;clear ay;obtain⟨⟨cb,cd,ce,cf,cg,dn⟩,eo,H⟩:=obq H;(try dsimp only at H);obtain⟨dp,ep,H⟩:=obq H;(try dsimp only at H);obtain rfl:=Option.some.inj H;have e8:=U.out;have e9:=J.out;obtain⟨_,_,_,_,_,_,_,_⟩:=bc4 X;obtain⟨_,_,_,_,_,_,_,_⟩:=bc4 D
     iterate 4 (try go_wp2_with (first|(go_at_call 92;(with_reducible refine(spec_FollowAt.calls kj3 _ _ ab ag ah ai (wrap64 (ac+a2)) cb cd ce cf cg dn _ ?side1 bl.out eo.out).mono ?_);(case side1=>exact Cq bk);rintro e gf ⟨fa,fb,rfl,ho0,ho1,hb⟩;have aj:=Rn0 ho0 HB;have eq:=Rn0 ho1 HB;replace D:=kf D hb;replace X:=kf X hb;replace HB:=bs HB hb;clear hb ho0 ho1)|((with_reducible refine gate_dst (N:=7) rfl ?_);refine bx_ (N:=7) #[.int .i64 0,.slice none 0 0,.int .i64 0,.int .i64 0,.int .i64 0] 81 ?_;intro er hg gg hbox hb;replace aj:=Rb aj hb;have bx:=ak hbox;have es:=gy hg HB;replace HB:=bs HB hb;have bf:=gm hg D;have bg:=gn hg D;have bh:=gm hg X;have bi:=gn hg X;clear hb hbox hg;have fc:=bg.out;have fd:=bf.out;have fe:=bi.out;have ff:=bh.out;obtain⟨ea,eb,ec,ed,ee,ef,eg,eh,ei,ej⟩:=bc5 bx;obtain⟨f4,f5,rfl⟩:=Kd.R_slice aj.out)|(go_at_call 93;(with_reducible refine(spec_ValueOfResource.calls kj3 cb _ _ cd ce cf cg dp _ ?side1 (rl aj) ep.out).mono ?_);(case side1=>exact(Kd.R_reads' (Re1 aj bx)).2.2);rintro e gh ⟨rfl,hb⟩;replace HB:=bs HB hb;clear hb));try go_quiet (fail))
     go_ret
     exact⟨RT,PB⟩
    ·rw[if_neg ay] at H;obtain⟨dk,dl⟩:=eqq2 ay
     by_cases az:Z=2
     ·rw[if_pos az] at H;obtain⟨dq,dr⟩:=eqq1 az;clear az;obtain⟨dt,et,H⟩:=obq H;(try dsimp only at H);obtain rfl:=Option.some.inj H;have fg:=U.out;have fh:=J.out;obtain⟨_,_,_,_,_,_,_,_⟩:=bc4 X;obtain⟨_,_,_,_,_,_,_,_⟩:=bc4 D
      iterate 4 (try go_wp2_with (first|(go_at_call 94;(with_reducible refine(spec_Min.calls 999 (wrap64 (ac+a2)) dt _ et.out).mono ?_);rintro e w' ⟨rfl,⟨nd,rfl⟩⟩;(try first|exact⟨rfl,_,World.drewN_drewN _ _ _⟩ | exact⟨rfl,_,Eq.trans (World.drewN_drewN _ _ _) (congrArg (World.drewN _) (Nat.add_assoc _ _ _))⟩)));try go_quiet (fail))
      go_ret
      exact⟨RT,PB⟩
     ·rw[if_neg az] at H;obtain⟨dq,dr⟩:=eqq2 az
      by_cases ba:Z=3
      ·rw[if_pos ba] at H;obtain⟨du,dv⟩:=eqq1 ba;clear ba;obtain⟨ch,al⟩:∃ y_:List Int,y_=(([aa,a2]:List Int)):=⟨_,rfl⟩
       first|replace H:=bnd_ H al|rw[←al] at H
       have bz:=ak al;clear al;obtain⟨av,eu,H⟩:=obq H;(try dsimp only at H);obtain⟨bo,ev,H⟩:=obq H;(try dsimp only at H);obtain rfl:=Option.some.inj H;have fi:=U.out;have fj:=J.out;obtain⟨_,_,_,_,_,_,_,_⟩:=bc4 X;obtain⟨_,_,_,_,_,_,_,_⟩:=bc4 D
       iterate 4 (try go_wp2_with (first|((with_reducible refine gate_dst (N:=47) rfl ?_);refine Kd.R_lit (Kd.int .i64) _ 3 ?hg (N:=47) ?hd (xs:=([aa,a2]:List Int)) (inner:=[.int .i64 aa,.int .i64 a2]) (ok:=fun _=>True) (okp:=fun _=>True) ?hr ?hp (fun _ hk=>hk) trivial (Below.refl _ _) (Nat.le_refl _) (by simp) ?_;(case hd=>rfl);(case hg=>rfl);(case hr=>first|(go_simp;done)|(go_simp;rfl));(case hp=>exact(Reps.one (show Kd.M (Kd.int .i64) _ _ _ aa [.int .i64 aa] from rfl) (Reps.one (show Kd.M (Kd.int .i64) _ _ _ a2 [.int .i64 a2] from rfl) (Reps.none _ _))));intro fk gi ho42 hb hg_ hnew_;clear hg_ hnew_;(first|rw[←bz.out] at ho42|(simp only[Int.reduceToNat] at ho42;rw[←bz.out] at ho42));have bb:=Rn0 ho42 HB;replace HB:=bs HB hb;clear hb ho42;obtain⟨f6,f7,rfl⟩:=Kd.R_slice bb.out)|(go_at_call 96;(with_reducible refine(spec_Hash.calls kj3 _ _ ch av _ ?side1 (rl bb) eu.out).mono ?_);(case side1=>exact CR (rr bb));rintro e w' ⟨rfl,⟨nd,rfl⟩⟩;(try first|exact⟨rfl,_,World.drewN_drewN _ _ _⟩ | exact⟨rfl,_,Eq.trans (World.drewN_drewN _ _ _) (congrArg (World.drewN _) (Nat.add_assoc _ _ _))⟩))|(go_at_call 95;(with_reducible refine(spec_Mod.calls av 1000 bo _ ev.out).mono ?_);rintro e w' ⟨rfl,⟨nd,rfl⟩⟩;(try first|exact⟨rfl,_,World.drewN_drewN _ _ _⟩ | exact⟨rfl,_,Eq.trans (World.drewN_drewN _ _ _) (congrArg (World.drewN _) (Nat.add_assoc _ _ _))⟩)));try go_quiet (fail))
       go_ret
       exact⟨RT,PB⟩
      ·rw[if_neg ba] at H;obtain⟨du,dv⟩:=eqq2 ba
       by_cases bc:Z=4
       ·rw[if_pos bc] at H;obtain⟨dw,dx⟩:=eqq1 bc;clear bc
        by_cases bj:(Y.length:Int) > 0
        ·rw[if_pos bj] at H;have dy:decide (0 < (Y.length:Int))=true:=decide_eq_true bj;have dz:decide (0 < Y.length)=true:=decide_eq_true (by omega);clear bj
         by_cases b0:(Y.length:Int)=0
         ·rw[if_pos b0] at H;exact absurd H (by simp)
         ·rw[if_neg b0] at H;obtain⟨fl,fm⟩:=eqq2 b0
          have fo:¬(Y=[]):=fun h_=>b0 (by rw[h_];rfl)
          obtain⟨ae,bp⟩:∃ j_:Int,(Int.tmod a2 (Y.length:Int))=j_:=⟨_,rfl⟩
          replace H:(if 0≤(ae) then(if (ae) < (Y.length:Int) then(some (rd Y (ae))) else(none)) else(none))=some r:=by first|(rw[bp] at H;exact H)|(simp only[bp] at H ⊢;exact H)
          by_cases ci:0≤(ae)
          ·rw[if_pos ci] at H;have fp:=decide_eq_true ci;clear ci
           by_cases cj:(ae) < (Y.length:Int)
           ·rw[if_pos cj] at H;have fq:=decide_eq_true cj;clear cj;obtain rfl:=Option.some.inj H;have ft:=U.out;have fu:=J.out;obtain⟨_,_,_,_,_,_,_,_⟩:=bc4 X;obtain⟨_,_,_,_,_,_,_,_⟩:=bc4 D;have br:0≤((ae):Int):=od;have bu:(ae) < (Y.length:Int):=od;obtain⟨ew,d7,bd⟩:=Kd.at_int bm.out (ae) br bu;cases d7;replace bd:=hx_ HB bd;replace br:=eq_true br;replace bu:=eq_true bu;go_wp2
            repeat(go_quiet (fail);try go_wp2)
            go_ret
            exact⟨by first|rfl|(simp[errW_none,errW_some] <;> rfl)|(simp only[←bp];first|rfl|(simp[errW_none,errW_some] <;> rfl))|(simp[*,errW_none,errW_some] <;> rfl),PB⟩
           ·rw[if_neg cj] at H;exact absurd H (by simp)
          ·rw[if_neg ci] at H;exact absurd H (by simp)
        ·rw[if_neg bj] at H;have dy:decide (0 < (Y.length:Int))=false:=decide_eq_false bj;have dz:decide (0 < Y.length)=false:=decide_eq_false (by omega);clear bj;obtain rfl:=Option.some.inj H;have fv:=U.out;have fw:=J.out;obtain⟨_,_,_,_,_,_,_,_⟩:=bc4 X;obtain⟨_,_,_,_,_,_,_,_⟩:=bc4 D;go_wp2
         repeat(go_quiet (fail);try go_wp2)
         go_ret
         exact⟨RT,PB⟩
       ·rw[if_neg bc] at H;obtain⟨dw,dx⟩:=eqq2 bc;obtain rfl:=Option.some.inj H;have fx:=U.out;have fy:=J.out;obtain⟨_,_,_,_,_,_,_,_⟩:=bc4 X;go_wp2
        repeat(go_quiet (fail);try go_wp2)
        go_ret
        exact⟨RT,PB⟩

end Go.Proofs.YteemhimikamihaaGreat.MFnReplays
