import Derived.Test.YtenpfphghheggaaShr2
import Derived.Test.YtenpfphghheggaaMFnExactCapturesOfx0
import Derived.Test.YtenpfphghheggaaMFnExactCapturesOfx8
import Derived.Test.YtenpfphghheggaaMFnExactCapturesOfx9
import Derived.Test.YtenpfphghheggaaMFnExactCapturesOfx10
namespace Go.Proofs.Ytenpfphghheggaa.MFnExactCapturesOf
open Go.RowKit Go.Proofs.YtenpfphghheggaaW.PrintWords Go.Proofs.YtenpfphghheggaaW.PrintLast Go.Proofs.YtenpfphghheggaaW.PrintMore
attribute [local go_sem] max2_int min2_int max_two min_two max_three min_three max_four min_four
set_option linter.unusedVariables false
set_option maxHeartbeats 8000000
set_option maxRecDepth 100000
set_option linter.unusedSimpArgs false

def impl_LiveValue.j0:Nat→Int→Bool→List (S86)→Int→Int→List Int→Int→Int→Int→Int→Option (Int)
  | 0,_,_,_,_,_,_,_,_,_,_=>none
  | k+1,Y,ai,Z,X,aa,D,J,ab,ac,ae=>if ai=true then(some 0) else(if J=1 then((impl_FollowAt.f k Z ab ac ae (wrap64 (X+Y))).bind fun U=>((impl_ValueOfResource.f k U.1 U.2.1 U.2.2.1 U.2.2.2.1 U.2.2.2.2.1).bind fun af=>(some af))) else(if J=2 then(some (mn 999 (wrap64 (X+Y)))) else(if J=3 then((impl_Hash.f k (([aa,Y]:List Int))).bind fun ag=>((impl_Mod.f ag 1000).bind fun ah=>(some ah))) else(if J=4 then(if (D.length:Int) > 0 then(if (D.length:Int)=0 then(none) else(if 0≤(Int.tmod Y (D.length:Int)) then(if (Int.tmod Y (D.length:Int)) < (D.length:Int) then(some (rd D (Int.tmod Y (D.length:Int)))) else(none)) else(none))) else(some 0)) else(some 0)))))
def impl_LiveValue.f (k:Nat)(D:List (S86))(J:Int)(U:Int)(X:List Int)(Y:Int)(Z:Int)(aa:Int)(ab:Int)(a2:Int):Option (Int):=(impl_IsVisit.f k D J U X).bind fun ae=>(if ae=true then((impl_InRange.f a2 0 100).bind fun af=>(impl_LiveValue.j0 k a2 (!af) D J U X Y Z aa ab)) else(impl_LiveValue.j0 k a2 true D J U X Y Z aa ab))
theorem impl_LiveValue.calls (k:Nat)(ay:Option Addr)(az:Nat)(ae:List (S86))(af:Int)(aa:Int)(ba:Option Addr)(bb:Nat)(U:List Int)(X:Int)(aj:Int)(al:Int)(am:Int)(a2:Int)(r:Int)(w:World)(ce:Kd.C k86 w ay ae.length ae)(cf:ae.length≤az)(cg:Kd.C (Kd.int .i64) w ba U.length U)(ch:U.length≤bb)(h:impl_LiveValue.f k ae af aa U X aj al am a2=some r) :
  Calls Try.prog 62 #[.agg #[.slice ay ae.length az,.int .i64 af,.int .i64 aa,.slice ba U.length bb],.agg #[.int .i64 X,.int .i64 aj,.int .i64 al,.int .i64 am],.int .i64 a2] w fun e w'=>e = .returned (.int .i64 r)∧Below w.heap.size w w':=by
 have f8:=Try.underlying35;have f9:=Try.underlying98;have ga:=Try.underlying52;have gb:=Try.underlying56;have av:=ak ce;have aw:=ak cf;clear ce cf;have ax:=ak cg;have bj:=ak ch;clear cg ch;have HB:=ak (Below.refl w.heap.size w);have H:=h;clear h;unfold impl_LiveValue.f at H;have dr:=ak H;clear H;go_enter Try.func62,Try.ntmps62
 go_upto_region 1 with (first|((with_reducible refine gate_dst (N:=3) rfl ?_);refine bx_ (N:=3) #[.slice ay ae.length az,.int .i64 af,.int .i64 aa,.slice ba U.length bb] 35 ?_;intro bz hg w5 hbox hb;have D:=ak hbox;have ci:=gy hg HB;replace HB:=bs HB hb;clear hb hbox hg)|((with_reducible refine gate_dst (N:=4) rfl ?_);refine bx_ (N:=4) #[.int .i64 X,.int .i64 aj,.int .i64 al,.int .i64 am] 98 ?_;intro b0 hg w6 hbox hb;have J:=ak hbox;have cj:=gy hg HB;replace HB:=bs HB hb;have Y:=gm hg D;have Z:=gn hg D;replace D:=kf D hb;clear hb hbox hg))
 repeat(go_quiet (first|((with_reducible refine gate_dst (N:=3) rfl ?_);refine bx_ (N:=3) #[.slice ay ae.length az,.int .i64 af,.int .i64 aa,.slice ba U.length bb] 35 ?_;intro bz hg w5 hbox hb;have D:=ak hbox;have ci:=gy hg HB;replace HB:=bs HB hb;clear hb hbox hg)|((with_reducible refine gate_dst (N:=4) rfl ?_);refine bx_ (N:=4) #[.int .i64 X,.int .i64 aj,.int .i64 al,.int .i64 am] 98 ?_;intro b0 hg w6 hbox hb;have J:=ak hbox;have cj:=gy hg HB;replace HB:=bs HB hb;have Y:=gm hg D;have Z:=gn hg D;replace D:=kf D hb;clear hb hbox hg));go_upto_region 1 with (first|((with_reducible refine gate_dst (N:=3) rfl ?_);refine bx_ (N:=3) #[.slice ay ae.length az,.int .i64 af,.int .i64 aa,.slice ba U.length bb] 35 ?_;intro bz hg w5 hbox hb;have D:=ak hbox;have ci:=gy hg HB;replace HB:=bs HB hb;clear hb hbox hg)|((with_reducible refine gate_dst (N:=4) rfl ?_);refine bx_ (N:=4) #[.int .i64 X,.int .i64 aj,.int .i64 al,.int .i64 am] 98 ?_;intro b0 hg w6 hbox hb;have J:=ak hbox;have cj:=gy hg HB;replace HB:=bs HB hb;have Y:=gm hg D;have Z:=gn hg D;replace D:=kf D hb;clear hb hbox hg)))
 (try simp only[Act.put,List.setIfInBounds_toArray,List.set_cons_zero,List.set_cons_succ])
 go_cut [16] (fun fb wc=>∃(kq:Nat)(bk:Bool),fb = .bool bk∧Aside0 (impl_LiveValue.j0 kq a2 bk ae af aa U X aj al am=some r)∧Aside0 (kq≤k)∧Aside0 (wc.heap[bz]?=some (.cells #[(.slice ay ae.length az),.int .i64 af,.int .i64 aa,(.slice ba U.length bb)] 35 (0,0)))∧Aside0 (wc.heap[b0]?=some (.cells #[.int .i64 X,.int .i64 aj,.int .i64 al,.int .i64 am] 98 (0,0)))∧Aside0 (Below w.heap.size w wc))
 case first =>
  have H:=dr.out;clear dr;replace H:=Option.bind_eq_some_iff.mp H;obtain⟨ev,ep,H⟩:=H;(try dsimp only at H);have A7:=ak ep;clear ep
  by_cases c8:ev=true
  ·subst c8;rw[if_pos rfl] at H;replace H:=Option.bind_eq_some_iff.mp H;obtain⟨b7,eq,H⟩:=H;(try dsimp only at H);have A9:=ak eq;clear eq;have H':=ak H;clear H;have fj:=Y.out;have fk:=Z.out;obtain⟨cn,co,cp,cq,cr,ct,cu,cv⟩:=bc4 D
   iterate 4 (try go_wp2_with (first|(go_at_call 59;(with_reducible refine(impl_IsVisit.calls k _ _ ae af aa _ _ U true _ ?side1 aw.out ?side3 bj.out A7.out).mono ?_);(case side1=>exact Cq av);(case side3=>exact Cq ax);rintro e fd ⟨rfl,hb⟩;replace D:=kf D hb;replace J:=kf J hb;replace HB:=bs HB hb;clear hb)|(go_at_call 83;(with_reducible refine(impl_InRange.calls a2 0 100 b7 _ A9.out).mono ?_);rintro e w' ⟨rfl,⟨nd,rfl⟩⟩;(try first|exact⟨rfl,_,World.drewN_drewN _ _ _⟩ | exact⟨rfl,_,Eq.trans (World.drewN_drewN _ _ _) (congrArg (World.drewN _) (Nat.add_assoc _ _ _))⟩)));try go_quiet (first|(go_at_call 59;(with_reducible refine(impl_IsVisit.calls k _ _ ae af aa _ _ U true _ ?side1 aw.out ?side3 bj.out A7.out).mono ?_);(case side1=>exact Cq av);(case side3=>exact Cq ax);rintro e fd ⟨rfl,hb⟩;replace D:=kf D hb;replace J:=kf J hb;replace HB:=bs HB hb;clear hb)|(go_at_call 83;(with_reducible refine(impl_InRange.calls a2 0 100 b7 _ A9.out).mono ?_);rintro e w' ⟨rfl,⟨nd,rfl⟩⟩;(try first|exact⟨rfl,_,World.drewN_drewN _ _ _⟩ | exact⟨rfl,_,Eq.trans (World.drewN_drewN _ _ _) (congrArg (World.drewN _) (Nat.add_assoc _ _ _))⟩))))
   go_meet
   case rel=>exact⟨_,(!b7),FR,H',⟨by first|omega | exact Nat.le_refl _⟩,⟨PK D⟩,⟨PK J⟩,⟨PB⟩⟩
  ·replace c8:=Bool.eq_false_iff.mpr c8;subst c8;rw[if_neg (show ¬(false=true) by decide)] at H;have H':=ak H;clear H;have fl:=Y.out;have fm:=Z.out;obtain⟨cw,cx,cy,cz,da,db,dc,de⟩:=bc4 D
   iterate 4 (try go_wp2_with (first|(go_at_call 59;(with_reducible refine(impl_IsVisit.calls k _ _ ae af aa _ _ U false _ ?side1 aw.out ?side3 bj.out A7.out).mono ?_);(case side1=>exact Cq av);(case side3=>exact Cq ax);rintro e fe ⟨rfl,hb⟩;replace D:=kf D hb;replace J:=kf J hb;replace HB:=bs HB hb;clear hb));try go_quiet (first|(go_at_call 59;(with_reducible refine(impl_IsVisit.calls k _ _ ae af aa _ _ U false _ ?side1 aw.out ?side3 bj.out A7.out).mono ?_);(case side1=>exact Cq av);(case side3=>exact Cq ax);rintro e fe ⟨rfl,hb⟩;replace D:=kf D hb;replace J:=kf J hb;replace HB:=bs HB hb;clear hb)))
   go_meet
   case rel=>exact⟨_,(true),FR,H',⟨by first|omega | exact Nat.le_refl _⟩,⟨PK D⟩,⟨PK J⟩,⟨PB⟩⟩
 case rest =>
  clear dr;(try clear c1);(try clear p2);(try clear c6);(try clear c8);(try clear gc);(try clear gf);(try clear cn);(try clear co);(try clear cp);(try clear cq);(try clear cw);(try clear cx);(try clear cy);(try clear cz);(try clear cr);(try clear ct);(try clear cu);(try clear cv);(try clear da);(try clear db);(try clear dc);(try clear de);obtain⟨kq,bk,rfl,HA,gg,D,J,HB⟩:=hcut
  cases kq with
  | zero=>exact absurd HA.out (by simp[impl_LiveValue.j0])
  | succ kj3 =>
   have H:=HA.out;clear HA;simp only[impl_LiveValue.j0] at H
   by_cases ck:bk=true
   ·subst ck;rw[if_pos rfl] at H;obtain rfl:=Option.some.inj H;go_wp2
    repeat(go_quiet (fail);try go_wp2)
    go_ret
    exact⟨RT,PB⟩
   ·replace ck:=Bool.eq_false_iff.mpr ck;subst ck;rw[if_neg (show ¬(false=true) by decide)] at H
    by_cases bp:X=1
    ·rw[if_pos bp] at H;have d9:(X == 1)=true:=beq_iff_eq.mpr bp;have ea:(X != 1)=false:=bne_eq_false_iff_eq.mpr bp;clear bp;replace H:=Option.bind_eq_some_iff.mp H;obtain⟨⟨bc,bd,bf,bg,bh,du⟩,dv,H⟩:=H;(try dsimp only at H);have er:=ak dv;clear dv;replace H:=Option.bind_eq_some_iff.mp H;obtain⟨dw,dx,H⟩:=H;(try dsimp only at H);have es:=ak dx;clear dx;obtain rfl:=Option.some.inj H;have fo:=Z.out;have fp:=Y.out;obtain⟨_,_,_,_,_,_,_,_⟩:=bc4 J;obtain⟨_,_,_,_,_,_,_,_⟩:=bc4 D
     iterate 4 (try go_wp2_with (first|(go_at_call 25;(with_reducible refine(impl_FollowAt.calls kj3 _ _ ae aj al am (wrap64 (af+a2)) bc bd bf bg bh du _ ?side1 aw.out er.out).mono ?_);(case side1=>exact Cq av);rintro e ff ⟨ew,ex,rfl,ho0,ho1,hb⟩;have ab:=Rn0 ho0 HB;have ag:=Rn0 ho1 HB;replace D:=kf D hb;replace J:=kf J hb;replace HB:=bs HB hb;clear hb ho0 ho1)|((with_reducible refine gate_dst (N:=7) rfl ?_);refine bx_ (N:=7) #[.int .i64 0,.slice none 0 0,.int .i64 0,.int .i64 0,.int .i64 0] 56 ?_;intro eb hg fg hbox hb;replace ab:=Rb ab hb;replace ag:=Rb ag hb;have ac:=ak hbox;have ec:=gy hg HB;replace HB:=bs HB hb;have ap:=gm hg D;have aq:=gn hg D;replace D:=kf D hb;have ar:=gm hg J;have au:=gn hg J;replace J:=kf J hb;clear hb hbox hg;have ed:=aq.out;have ee:=ap.out;have ef:=au.out;have eg:=ar.out;obtain⟨df,dg,dh,di,dj,dk,dl,dn,dp,dq⟩:=bc5 ac;obtain⟨b8,b9,rfl⟩:=Kd.R_slice ab.out)|(go_at_call 87;(with_reducible refine(impl_ValueOfResource.calls kj3 bc _ _ bd bf bg bh dw _ ?side1 (rl ab) es.out).mono ?_);(case side1=>exact(Kd.R_reads' (Re1 ab ac)).2.2);rintro e fh ⟨rfl,hb⟩;replace ab:=ak (Kd.R_below (Re1 ab ac) hb);replace ag:=ak (Kd.R_below (Re1 ag ac) hb);replace D:=kf D hb;replace J:=kf J hb;replace ac:=kp (cs':=#[.int .i64 bc,.slice b8 bd.length b9,.int .i64 bf,.int .i64 bg,.int .i64 bh]) ac hb;replace HB:=bs HB hb;clear hb));try go_quiet (first|(go_at_call 25;(with_reducible refine(impl_FollowAt.calls kj3 _ _ ae aj al am (wrap64 (af+a2)) bc bd bf bg bh du _ ?side1 aw.out er.out).mono ?_);(case side1=>exact Cq av);rintro e ff ⟨ew,ex,rfl,ho0,ho1,hb⟩;have ab:=Rn0 ho0 HB;have ag:=Rn0 ho1 HB;replace D:=kf D hb;replace J:=kf J hb;replace HB:=bs HB hb;clear hb ho0 ho1)|((with_reducible refine gate_dst (N:=7) rfl ?_);refine bx_ (N:=7) #[.int .i64 0,.slice none 0 0,.int .i64 0,.int .i64 0,.int .i64 0] 56 ?_;intro eb hg fg hbox hb;replace ab:=Rb ab hb;replace ag:=Rb ag hb;have ac:=ak hbox;have ec:=gy hg HB;replace HB:=bs HB hb;have ap:=gm hg D;have aq:=gn hg D;replace D:=kf D hb;have ar:=gm hg J;have au:=gn hg J;replace J:=kf J hb;clear hb hbox hg;have ed:=aq.out;have ee:=ap.out;have ef:=au.out;have eg:=ar.out;obtain⟨df,dg,dh,di,dj,dk,dl,dn,dp,dq⟩:=bc5 ac;obtain⟨b8,b9,rfl⟩:=Kd.R_slice ab.out)|(go_at_call 87;(with_reducible refine(impl_ValueOfResource.calls kj3 bc _ _ bd bf bg bh dw _ ?side1 (rl ab) es.out).mono ?_);(case side1=>exact(Kd.R_reads' (Re1 ab ac)).2.2);rintro e fh ⟨rfl,hb⟩;replace ab:=ak (Kd.R_below (Re1 ab ac) hb);replace ag:=ak (Kd.R_below (Re1 ag ac) hb);replace D:=kf D hb;replace J:=kf J hb;replace ac:=kp (cs':=#[.int .i64 bc,.slice b8 bd.length b9,.int .i64 bf,.int .i64 bg,.int .i64 bh]) ac hb;replace HB:=bs HB hb;clear hb)))
     go_ret
     exact⟨RT,PB⟩
    ·rw[if_neg bp] at H;have d9:(X == 1)=false:=beq_eq_false_iff_ne.mpr bp;have ea:(X != 1)=true:=bne_iff_ne.mpr bp
     by_cases br:X=2
     ·rw[if_pos br] at H;have eh:(X == 2)=true:=beq_iff_eq.mpr br;have ei:(X != 2)=false:=bne_eq_false_iff_eq.mpr br;clear br;obtain⟨dy,bl⟩:∃ j_:Int,(mn 999 (wrap64 (af+a2)))=j_:=⟨_,rfl⟩
      replace H:(some dy)=some r:=by first|(rw[bl] at H;exact H)|(simp only[bl] at H ⊢;exact H)
      have hji31_:(if (wrap64 (af+a2)) < 999 then(wrap64 (af+a2)) else 999)=dy:=bl;obtain rfl:=Option.some.inj H;have fq:=Z.out;have ft:=Y.out;obtain⟨_,_,_,_,_,_,_,_⟩:=bc4 J;obtain⟨_,_,_,_,_,_,_,_⟩:=bc4 D;go_wp2
      repeat(go_quiet (fail);try go_wp2)
      go_ret
      exact⟨by first|rfl|(simp[errW_none,errW_some] <;> rfl)|(simp only[←bl];first|rfl|(simp[errW_none,errW_some] <;> rfl))|(simp[*,errW_none,errW_some] <;> rfl),PB⟩
     ·rw[if_neg br] at H;have eh:(X == 2)=false:=beq_eq_false_iff_ne.mpr br;have ei:(X != 2)=true:=bne_iff_ne.mpr br
      by_cases bu:X=3
      ·rw[if_pos bu] at H;have ej:(X == 3)=true:=beq_iff_eq.mpr bu;have ek:(X != 3)=false:=bne_eq_false_iff_eq.mpr bu;clear bu;obtain⟨ca,bm⟩:∃ y_:List Int,y_=(([aa,a2]:List Int)):=⟨_,rfl⟩
       replace H:((impl_Hash.f kj3 ca).bind fun bi=>((impl_Mod.f bi 1000).bind fun b4=>(some b4)))=some r:=by first|(rw[bm];with_reducible exact H)|(have H2_:=(Option.bind_some _ _).symm.trans H;rw[bm];with_reducible exact H2_)|exact H
       have bo:=ak bm;clear bm;replace H:=Option.bind_eq_some_iff.mp H;obtain⟨bi,dz,H⟩:=H;(try dsimp only at H);have et:=ak dz;clear dz;replace H:=Option.bind_eq_some_iff.mp H;obtain⟨b4,d7,H⟩:=H;(try dsimp only at H);have eu:=ak d7;clear d7;obtain rfl:=Option.some.inj H;have fu:=Z.out;have fv:=Y.out;obtain⟨_,_,_,_,_,_,_,_⟩:=bc4 J;obtain⟨_,_,_,_,_,_,_,_⟩:=bc4 D
       iterate 4 (try go_wp2_with (first|((with_reducible refine gate_dst (N:=47) rfl ?_);refine Kd.R_lit (Kd.int .i64) _ 3 ?hg (N:=47) ?hd (xs:=([aa,a2]:List Int)) (inner:=[.int .i64 aa,.int .i64 a2]) (ok:=fun _=>True) (okp:=fun _=>True) ?hr ?hp (fun _ hk=>hk) trivial (Below.refl _ _) (Nat.le_refl _) (by simp) ?_;(case hd=>rfl);(case hg=>rfl);(case hr=>first|(go_simp;done)|(go_simp;rfl));(case hp=>exact(Reps.one (show Kd.M (Kd.int .i64) _ _ _ aa [.int .i64 aa] from rfl) (Reps.one (show Kd.M (Kd.int .i64) _ _ _ a2 [.int .i64 a2] from rfl) (Reps.none _ _))));intro ey fi ho42 hb hg_ hnew_;clear hg_ hnew_;(first|rw[←bo.out] at ho42|(simp only[Int.reduceToNat] at ho42;rw[←bo.out] at ho42));have ao:=Rn0 ho42 HB;replace D:=kf D hb;replace J:=kf J hb;replace HB:=bs HB hb;clear hb ho42;obtain⟨ez,e7,rfl⟩:=Kd.R_slice ao.out)|(go_at_call 89;(with_reducible refine(impl_Hash.calls kj3 _ _ ca bi _ ?side1 (rl ao) et.out).mono ?_);(case side1=>exact CR (rr ao));rintro e w' ⟨rfl,⟨nd,rfl⟩⟩;(try first|exact⟨rfl,_,World.drewN_drewN _ _ _⟩ | exact⟨rfl,_,Eq.trans (World.drewN_drewN _ _ _) (congrArg (World.drewN _) (Nat.add_assoc _ _ _))⟩))|(go_at_call 88;(with_reducible refine(impl_Mod.calls bi 1000 b4 _ eu.out).mono ?_);rintro e w' ⟨rfl,⟨nd,rfl⟩⟩;(try first|exact⟨rfl,_,World.drewN_drewN _ _ _⟩ | exact⟨rfl,_,Eq.trans (World.drewN_drewN _ _ _) (congrArg (World.drewN _) (Nat.add_assoc _ _ _))⟩)));try go_quiet (first|((with_reducible refine gate_dst (N:=47) rfl ?_);refine Kd.R_lit (Kd.int .i64) _ 3 ?hg (N:=47) ?hd (xs:=([aa,a2]:List Int)) (inner:=[.int .i64 aa,.int .i64 a2]) (ok:=fun _=>True) (okp:=fun _=>True) ?hr ?hp (fun _ hk=>hk) trivial (Below.refl _ _) (Nat.le_refl _) (by simp) ?_;(case hd=>rfl);(case hg=>rfl);(case hr=>first|(go_simp;done)|(go_simp;rfl));(case hp=>exact(Reps.one (show Kd.M (Kd.int .i64) _ _ _ aa [.int .i64 aa] from rfl) (Reps.one (show Kd.M (Kd.int .i64) _ _ _ a2 [.int .i64 a2] from rfl) (Reps.none _ _))));intro ey fi ho42 hb hg_ hnew_;clear hg_ hnew_;(first|rw[←bo.out] at ho42|(simp only[Int.reduceToNat] at ho42;rw[←bo.out] at ho42));have ao:=Rn0 ho42 HB;replace D:=kf D hb;replace J:=kf J hb;replace HB:=bs HB hb;clear hb ho42;obtain⟨ez,e7,rfl⟩:=Kd.R_slice ao.out)|(go_at_call 89;(with_reducible refine(impl_Hash.calls kj3 _ _ ca bi _ ?side1 (rl ao) et.out).mono ?_);(case side1=>exact CR (rr ao));rintro e w' ⟨rfl,⟨nd,rfl⟩⟩;(try first|exact⟨rfl,_,World.drewN_drewN _ _ _⟩ | exact⟨rfl,_,Eq.trans (World.drewN_drewN _ _ _) (congrArg (World.drewN _) (Nat.add_assoc _ _ _))⟩))|(go_at_call 88;(with_reducible refine(impl_Mod.calls bi 1000 b4 _ eu.out).mono ?_);rintro e w' ⟨rfl,⟨nd,rfl⟩⟩;(try first|exact⟨rfl,_,World.drewN_drewN _ _ _⟩ | exact⟨rfl,_,Eq.trans (World.drewN_drewN _ _ _) (congrArg (World.drewN _) (Nat.add_assoc _ _ _))⟩))))
       go_ret
       exact⟨RT,PB⟩
      ·rw[if_neg bu] at H;have ej:(X == 3)=false:=beq_eq_false_iff_ne.mpr bu;have ek:(X != 3)=true:=bne_iff_ne.mpr bu
       by_cases bv:X=4
       ·rw[if_pos bv] at H;have el:(X == 4)=true:=beq_iff_eq.mpr bv;have em:(X != 4)=false:=bne_eq_false_iff_eq.mpr bv;clear bv
        by_cases bw:(U.length:Int) > 0
        ·rw[if_pos bw] at H;have en:decide (0 < (U.length:Int))=true:=decide_eq_true bw;have eo:decide (0 < U.length)=true:=decide_eq_true (by omega);clear bw
         by_cases b6:(U.length:Int)=0
         ·rw[if_pos b6] at H;exact absurd H (by simp)
         ·rw[if_neg b6] at H;have fw:((U.length:Int) == 0)=false:=beq_eq_false_iff_ne.mpr b6;have fx:((U.length:Int) != 0)=true:=bne_iff_ne.mpr b6
          have fy:¬(U=[]):=fun h_=>b6 (by rw[h_];rfl)
          obtain⟨ah,b5⟩:∃ j_:Int,(Int.tmod a2 (U.length:Int))=j_:=⟨_,rfl⟩
          replace H:(if 0≤(ah) then(if (ah) < (U.length:Int) then(some (rd U (ah))) else(none)) else(none))=some r:=by first|(rw[b5] at H;exact H)|(simp only[b5] at H ⊢;exact H)
          by_cases cl:0≤(ah)
          ·rw[if_pos cl] at H;have fz:decide (0≤(ah))=true:=decide_eq_true cl;clear cl
           by_cases cm:(ah) < (U.length:Int)
           ·rw[if_pos cm] at H;have f0:decide ((ah) < (U.length:Int))=true:=decide_eq_true cm;clear cm;obtain rfl:=Option.some.inj H;have f1:=Z.out;have f2:=Y.out;obtain⟨_,_,_,_,_,_,_,_⟩:=bc4 J;obtain⟨_,_,_,_,_,_,_,_⟩:=bc4 D;have cb:0≤((ah):Int):=od;have cd:(ah) < (U.length:Int):=od;obtain⟨f3,e8,bx⟩:=Kd.at_int ax.out (ah) cb cd;cases e8;replace bx:=hx_ HB bx;replace cb:=eq_true cb;replace cd:=eq_true cd;go_wp2
            repeat(go_quiet (fail);try go_wp2)
            go_ret
            exact⟨by first|rfl|(simp[errW_none,errW_some] <;> rfl)|(simp only[←b5];first|rfl|(simp[errW_none,errW_some] <;> rfl))|(simp[*,errW_none,errW_some] <;> rfl),PB⟩
           ·rw[if_neg cm] at H;exact absurd H (by simp)
          ·rw[if_neg cl] at H;exact absurd H (by simp)
        ·rw[if_neg bw] at H;have en:decide (0 < (U.length:Int))=false:=decide_eq_false bw;have eo:decide (0 < U.length)=false:=decide_eq_false (by omega);clear bw;obtain rfl:=Option.some.inj H;have f4:=Z.out;have f5:=Y.out;obtain⟨_,_,_,_,_,_,_,_⟩:=bc4 J;obtain⟨_,_,_,_,_,_,_,_⟩:=bc4 D;go_wp2
         repeat(go_quiet (fail);try go_wp2)
         go_ret
         exact⟨RT,PB⟩
       ·rw[if_neg bv] at H;have el:(X == 4)=false:=beq_eq_false_iff_ne.mpr bv;have em:(X != 4)=true:=bne_iff_ne.mpr bv;obtain rfl:=Option.some.inj H;have f6:=Z.out;have f7:=Y.out;obtain⟨_,_,_,_,_,_,_,_⟩:=bc4 J;go_wp2
        repeat(go_quiet (fail);try go_wp2)
        go_ret
        exact⟨RT,PB⟩

end Go.Proofs.Ytenpfphghheggaa.MFnExactCapturesOf
