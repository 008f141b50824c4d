-- Written by a program of this session out of the translation's own print. Not trusted: Lean checks it.
import Derived.Test.YthojdjnchhkafaaShr2
import Derived.Test.YthojdjnchhkafaaMFnExactTraceVisitx0
import Derived.Test.YthojdjnchhkafaaMFnExactTraceVisitx13
import Derived.Test.YthojdjnchhkafaaMFnExactTraceVisitx15
import Derived.Test.YthojdjnchhkafaaMFnExactTraceVisitx18
namespace Go.Proofs.Ythojdjnchhkafaa.MFnExactTraceVisit
open Go.RowKit Go.Proofs.YthojdjnchhkafaaW.PrintWords Go.Proofs.YthojdjnchhkafaaW.PrintLast Go.Proofs.YthojdjnchhkafaaW.PrintMore
attribute [local go_sem] max2_int min2_int max_two min_two max_three min_three max_four min_four   -- for this text's walks alone
set_option linter.unusedVariables false
set_option maxHeartbeats 8000000
set_option maxRecDepth 100000
set_option linter.unusedSimpArgs false

/-! ### impl_LiveValue: function 45 -/
def impl_LiveValue.j0:Nat→Int→Bool→List (S84)→Int→Int→List Int→Int→Int→Int→Int→Option (Int)
  | 0,_,_,_,_,_,_,_,_,_,_=>none
  | k+1,U,ag,X,L,Y,D,I,Z,aa,ab=>if ag=true then(some 0) else(if I=1 then((impl_FollowAt.f k X Z aa ab (wrap64 (L+U))).bind fun J=>((impl_ValueOfResource.f k J.1 J.2.1 J.2.2.1 J.2.2.2.1 J.2.2.2.2.1).bind fun ac=>(some ac))) else(if I=2 then(some (mn 999 (wrap64 (L+U)))) else(if I=3 then((impl_Hash.f k (([Y,U]:List Int))).bind fun ae=>((impl_Mod.f ae 1000).bind fun af=>(some af))) else(if I=4 then(if (D.length:Int) > 0 then(if (D.length:Int)=0 then(none) else(if 0≤(Int.tmod U (D.length:Int)) then(if (Int.tmod U (D.length:Int)) < (D.length:Int) then(some (rd D (Int.tmod U (D.length:Int)))) else(none)) else(none))) else(some 0)) else(some 0)))))
def impl_LiveValue.f (k:Nat)(D:List (S84))(I:Int)(J:Int)(L:List Int)(U:Int)(X:Int)(Y:Int)(Z:Int)(a2:Int):Option (Int):=(impl_IsVisit.f k D I J L).bind fun ab=>(if ab=true then((impl_InRange.f a2 0 100).bind fun ac=>(impl_LiveValue.j0 k a2 (!ac) D I J L U X Y Z)) else(impl_LiveValue.j0 k a2 true D I J L U X Y Z))
theorem impl_LiveValue.calls (k:Nat)(aw:Option Addr)(ax:Nat)(ab:List (S84))(ac:Int)(Y:Int)(ay:Option Addr)(az:Nat)(J:List Int)(L:Int)(ah:Int)(ai:Int)(aj:Int)(a2:Int)(r:Int)(w:World)(b7:Kd.C k84 w aw ab.length ab)(b8:ab.length≤ax)(b9:Kd.C (Kd.int .i64) w ay J.length J)(ca:J.length≤az)(h:impl_LiveValue.f k ab ac Y J L ah ai aj a2=some r) :
  Calls Try.prog 45 #[.agg #[.slice aw ab.length ax,.int .i64 ac,.int .i64 Y,.slice ay J.length az],.agg #[.int .i64 L,.int .i64 ah,.int .i64 ai,.int .i64 aj],.int .i64 a2] w fun e w'=>e = .returned (.int .i64 r)∧Below w.heap.size w w':=by
 have fv:=Try.underlying35;have fw:=Try.underlying75;have fx:=Try.underlying73;have fy:=Try.underlying82;have ar:=ak b7;have au:=ak b8;clear b7 b8;have av:=ak b9;have bf:=ak ca;clear b9 ca;have HB:=ak (Below.refl w.heap.size w);have H:=h;clear h;unfold impl_LiveValue.f at H;have dj:=ak H;clear H;go_enter Try.func45,Try.ntmps45
 go_upto_region 1 with (first|((with_reducible refine gate_dst (N:=3) rfl ?_);refine bx_ (N:=3) #[.slice aw ab.length ax,.int .i64 ac,.int .i64 Y,.slice ay J.length az] 35 ?_;intro br hg w5 hbox hb;have D:=ak hbox;have cb:=gy hg HB;replace HB:=bs HB hb;clear hb hbox hg)|((with_reducible refine gate_dst (N:=4) rfl ?_);refine bx_ (N:=4) #[.int .i64 L,.int .i64 ah,.int .i64 ai,.int .i64 aj] 75 ?_;intro bt hg w6 hbox hb;have I:=ak hbox;have cd:=gy hg HB;replace HB:=bs HB hb;have U:=gm hg D;have X:=gn hg D;replace D:=kf D hb;clear hb hbox hg))
 repeat(go_quiet (first|((with_reducible refine gate_dst (N:=3) rfl ?_);refine bx_ (N:=3) #[.slice aw ab.length ax,.int .i64 ac,.int .i64 Y,.slice ay J.length az] 35 ?_;intro br hg w5 hbox hb;have D:=ak hbox;have cb:=gy hg HB;replace HB:=bs HB hb;clear hb hbox hg)|((with_reducible refine gate_dst (N:=4) rfl ?_);refine bx_ (N:=4) #[.int .i64 L,.int .i64 ah,.int .i64 ai,.int .i64 aj] 75 ?_;intro bt hg w6 hbox hb;have I:=ak hbox;have cd:=gy hg HB;replace HB:=bs HB hb;have U:=gm hg D;have X:=gn hg D;replace D:=kf D hb;clear hb hbox hg));go_upto_region 1 with (first|((with_reducible refine gate_dst (N:=3) rfl ?_);refine bx_ (N:=3) #[.slice aw ab.length ax,.int .i64 ac,.int .i64 Y,.slice ay J.length az] 35 ?_;intro br hg w5 hbox hb;have D:=ak hbox;have cb:=gy hg HB;replace HB:=bs HB hb;clear hb hbox hg)|((with_reducible refine gate_dst (N:=4) rfl ?_);refine bx_ (N:=4) #[.int .i64 L,.int .i64 ah,.int .i64 ai,.int .i64 aj] 75 ?_;intro bt hg w6 hbox hb;have I:=ak hbox;have cd:=gy hg HB;replace HB:=bs HB hb;have U:=gm hg D;have X:=gn hg D;replace D:=kf D hb;clear hb hbox hg)))
 (try simp only[Act.put,List.setIfInBounds_toArray,List.set_cons_zero,List.set_cons_succ])
 go_cut [16] (fun eu wc=>∃(kq:Nat)(bg:Bool),eu = .bool bg∧Aside0 (impl_LiveValue.j0 kq a2 bg ab ac Y J L ah ai aj=some r)∧Aside0 (kq≤k)∧Aside0 (wc.heap[br]?=some (.cells #[(.slice aw ab.length ax),.int .i64 ac,.int .i64 Y,(.slice ay J.length az)] 35 (0,0)))∧Aside0 (wc.heap[bt]?=some (.cells #[.int .i64 L,.int .i64 ah,.int .i64 ai,.int .i64 aj] 75 (0,0)))∧Aside0 (Below w.heap.size w wc))
 case first =>
  have H:=dj.out;clear dj;replace H:=Option.bind_eq_some_iff.mp H;obtain⟨el,ef,H⟩:=H;(try dsimp only at H);have A7:=ak ef;clear ef
  by_cases c8:el=true
  ·subst c8;rw[if_pos rfl] at H;replace H:=Option.bind_eq_some_iff.mp H;obtain⟨bx,eg,H⟩:=H;(try dsimp only at H);have A9:=ak eg;clear eg;have H':=ak H;clear H;have e6:=U.out;have e7:=X.out;obtain⟨ch,ci,cj,ck,cl,cm,cn,co⟩:=bc4 D
   iterate 4 (try go_wp2_with (first|(go_at_call 42;(with_reducible refine(impl_IsVisit.calls k _ _ ab ac Y _ _ J true _ ?side1 ?side2 ?side3 ?side4 A7.out).mono ?_);(case side1=>exact CR (Kd.C_below ar.out HB.out));(case side2=>exact au.out);(case side3=>exact CR (Kd.C_below av.out HB.out));(case side4=>exact bf.out);rintro e ew ⟨rfl,hb⟩;replace D:=kf D hb;replace I:=kf I hb;replace HB:=bs HB hb;clear hb)|(go_at_call 69;(with_reducible refine(impl_InRange.calls a2 0 100 bx _ A9.out).mono ?_);rintro e w' ⟨rfl,⟨nd,rfl⟩⟩;(try first|exact⟨rfl,_,World.drewN_drewN _ _ _⟩ | exact⟨rfl,_,Eq.trans (World.drewN_drewN _ _ _) (congrArg (World.drewN _) (Nat.add_assoc _ _ _))⟩)));try go_quiet (first|(go_at_call 42;(with_reducible refine(impl_IsVisit.calls k _ _ ab ac Y _ _ J true _ ?side1 ?side2 ?side3 ?side4 A7.out).mono ?_);(case side1=>exact CR (Kd.C_below ar.out HB.out));(case side2=>exact au.out);(case side3=>exact CR (Kd.C_below av.out HB.out));(case side4=>exact bf.out);rintro e ew ⟨rfl,hb⟩;replace D:=kf D hb;replace I:=kf I hb;replace HB:=bs HB hb;clear hb)|(go_at_call 69;(with_reducible refine(impl_InRange.calls a2 0 100 bx _ A9.out).mono ?_);rintro e w' ⟨rfl,⟨nd,rfl⟩⟩;(try first|exact⟨rfl,_,World.drewN_drewN _ _ _⟩ | exact⟨rfl,_,Eq.trans (World.drewN_drewN _ _ _) (congrArg (World.drewN _) (Nat.add_assoc _ _ _))⟩))))
   go_meet
   case rel=>exact⟨_,(!bx),FR,H',⟨by first|omega | exact Nat.le_refl _⟩,⟨PK D⟩,⟨PK I⟩,⟨PB⟩⟩
  ·replace c8:=Bool.eq_false_iff.mpr c8;subst c8;rw[if_neg (show ¬(false=true) by decide)] at H;have H':=ak H;clear H;have e8:=U.out;have e9:=X.out;obtain⟨cp,cq,cr,ct,cu,cv,cw,cx⟩:=bc4 D
   iterate 4 (try go_wp2_with (first|(go_at_call 42;(with_reducible refine(impl_IsVisit.calls k _ _ ab ac Y _ _ J false _ ?side1 ?side2 ?side3 ?side4 A7.out).mono ?_);(case side1=>exact CR (Kd.C_below ar.out HB.out));(case side2=>exact au.out);(case side3=>exact CR (Kd.C_below av.out HB.out));(case side4=>exact bf.out);rintro e ex ⟨rfl,hb⟩;replace D:=kf D hb;replace I:=kf I hb;replace HB:=bs HB hb;clear hb));try go_quiet (first|(go_at_call 42;(with_reducible refine(impl_IsVisit.calls k _ _ ab ac Y _ _ J false _ ?side1 ?side2 ?side3 ?side4 A7.out).mono ?_);(case side1=>exact CR (Kd.C_below ar.out HB.out));(case side2=>exact au.out);(case side3=>exact CR (Kd.C_below av.out HB.out));(case side4=>exact bf.out);rintro e ex ⟨rfl,hb⟩;replace D:=kf D hb;replace I:=kf I hb;replace HB:=bs HB hb;clear hb)))
   go_meet
   case rel=>exact⟨_,(true),FR,H',⟨by first|omega | exact Nat.le_refl _⟩,⟨PK D⟩,⟨PK I⟩,⟨PB⟩⟩
 case rest =>
  clear dj;(try clear c1);(try clear p2);(try clear c4);(try clear c8);(try clear fz);(try clear f0);(try clear ch);(try clear ci);(try clear cj);(try clear ck);(try clear cp);(try clear cq);(try clear cr);(try clear ct);(try clear cl);(try clear cm);(try clear cn);(try clear co);(try clear cu);(try clear cv);(try clear cw);(try clear cx);obtain⟨kq,bg,rfl,HA,f1,D,I,HB⟩:=hcut
  cases kq with
  | zero=>exact absurd HA.out (by simp[impl_LiveValue.j0])
  | succ kj3 =>
   have H:=HA.out;clear HA;simp only[impl_LiveValue.j0] at H
   by_cases ce:bg=true
   ·subst ce;rw[if_pos rfl] at H;obtain rfl:=Option.some.inj H;go_wp2
    repeat(go_quiet (fail);try go_wp2)
    go_ret
    exact⟨RT,PB⟩
   ·replace ce:=Bool.eq_false_iff.mpr ce;subst ce;rw[if_neg (show ¬(false=true) by decide)] at H
    by_cases bk:L=1
    ·rw[if_pos bk] at H;have dv:(L == 1)=true:=beq_iff_eq.mpr bk;have dw:(L != 1)=false:=bne_eq_false_iff_eq.mpr bk;clear bk;replace H:=Option.bind_eq_some_iff.mp H;obtain⟨⟨a9,ba,bb,bc,bd,dl⟩,dm,H⟩:=H;(try dsimp only at H);have eh:=ak dm;clear dm;replace H:=Option.bind_eq_some_iff.mp H;obtain⟨dn,dp,H⟩:=H;(try dsimp only at H);have ei:=ak dp;clear dp;obtain rfl:=Option.some.inj H;have fa:=X.out;have fb:=U.out;obtain⟨_,_,_,_,_,_,_,_⟩:=bc4 I;obtain⟨_,_,_,_,_,_,_,_⟩:=bc4 D
     iterate 4 (try go_wp2_with (first|(go_at_call 73;(with_reducible refine(impl_FollowAt.calls kj3 _ _ ab ah ai aj (wrap64 (ac+a2)) a9 ba bb bc bd dl _ ?side1 ?side2 eh.out).mono ?_);(case side1=>exact CR (Kd.C_below ar.out HB.out));(case side2=>exact au.out);rintro e ey ⟨em,en,rfl,ho0,ho1,hb⟩;have Z:=Rn0 ho0 HB;have ae:=Rn0 ho1 HB;replace D:=kf D hb;replace I:=kf I hb;replace HB:=bs HB hb;clear hb ho0 ho1)|((with_reducible refine gate_dst (N:=7) rfl ?_);refine bx_ (N:=7) #[.int .i64 0,.slice none 0 0,.int .i64 0,.int .i64 0,.int .i64 0] 82 ?_;intro dx hg ez hbox hb;replace Z:=Rb Z hb;replace ae:=Rb ae hb;have aa:=ak hbox;have dy:=gy hg HB;replace HB:=bs HB hb;have am:=gm hg D;have ao:=gn hg D;replace D:=kf D hb;have ap:=gm hg I;have aq:=gn hg I;replace I:=kf I hb;clear hb hbox hg;have dz:=ao.out;have d0:=am.out;have d5:=aq.out;have d6:=ap.out;obtain⟨cy,cz,da,db,dc,de,df,dg,dh,di⟩:=bc5 aa;obtain⟨bz,b0,rfl⟩:=Kd.R_slice Z.out)|(go_at_call 74;(with_reducible refine(impl_ValueOfResource.calls kj3 a9 _ _ ba bb bc bd dn _ ?side1 ?side2 ei.out).mono ?_);(case side1=>exact(Kd.R_reads' (Re1 Z aa)).2.2);(case side2=>exact rl Z);rintro e e0 ⟨rfl,hb⟩;replace Z:=ak (Kd.R_below (Re1 Z aa) hb);replace ae:=ak (Kd.R_below (Re1 ae aa) hb);replace D:=kf D hb;replace I:=kf I hb;replace aa:=kp (cs':=#[.int .i64 a9,.slice bz ba.length b0,.int .i64 bb,.int .i64 bc,.int .i64 bd]) aa hb;replace HB:=bs HB hb;clear hb));try go_quiet (first|(go_at_call 73;(with_reducible refine(impl_FollowAt.calls kj3 _ _ ab ah ai aj (wrap64 (ac+a2)) a9 ba bb bc bd dl _ ?side1 ?side2 eh.out).mono ?_);(case side1=>exact CR (Kd.C_below ar.out HB.out));(case side2=>exact au.out);rintro e ey ⟨em,en,rfl,ho0,ho1,hb⟩;have Z:=Rn0 ho0 HB;have ae:=Rn0 ho1 HB;replace D:=kf D hb;replace I:=kf I hb;replace HB:=bs HB hb;clear hb ho0 ho1)|((with_reducible refine gate_dst (N:=7) rfl ?_);refine bx_ (N:=7) #[.int .i64 0,.slice none 0 0,.int .i64 0,.int .i64 0,.int .i64 0] 82 ?_;intro dx hg ez hbox hb;replace Z:=Rb Z hb;replace ae:=Rb ae hb;have aa:=ak hbox;have dy:=gy hg HB;replace HB:=bs HB hb;have am:=gm hg D;have ao:=gn hg D;replace D:=kf D hb;have ap:=gm hg I;have aq:=gn hg I;replace I:=kf I hb;clear hb hbox hg;have dz:=ao.out;have d0:=am.out;have d5:=aq.out;have d6:=ap.out;obtain⟨cy,cz,da,db,dc,de,df,dg,dh,di⟩:=bc5 aa;obtain⟨bz,b0,rfl⟩:=Kd.R_slice Z.out)|(go_at_call 74;(with_reducible refine(impl_ValueOfResource.calls kj3 a9 _ _ ba bb bc bd dn _ ?side1 ?side2 ei.out).mono ?_);(case side1=>exact(Kd.R_reads' (Re1 Z aa)).2.2);(case side2=>exact rl Z);rintro e e0 ⟨rfl,hb⟩;replace Z:=ak (Kd.R_below (Re1 Z aa) hb);replace ae:=ak (Kd.R_below (Re1 ae aa) hb);replace D:=kf D hb;replace I:=kf I hb;replace aa:=kp (cs':=#[.int .i64 a9,.slice bz ba.length b0,.int .i64 bb,.int .i64 bc,.int .i64 bd]) aa hb;replace HB:=bs HB hb;clear hb)))
     go_ret
     exact⟨RT,PB⟩
    ·rw[if_neg bk] at H;have dv:(L == 1)=false:=beq_eq_false_iff_ne.mpr bk;have dw:(L != 1)=true:=bne_iff_ne.mpr bk
     by_cases bl:L=2
     ·rw[if_pos bl] at H;have d7:(L == 2)=true:=beq_iff_eq.mpr bl;have d8:(L != 2)=false:=bne_eq_false_iff_eq.mpr bl;clear bl;obtain⟨dq,bh⟩:∃ j_:Int,(mn 999 (wrap64 (ac+a2)))=j_:=⟨_,rfl⟩
      replace H:(some dq)=some r:=by first|(rw[bh] at H;exact H)|(simp only[bh] at H ⊢;exact H)
      have hji31_:(if (wrap64 (ac+a2)) < 999 then(wrap64 (ac+a2)) else 999)=dq:=bh;obtain rfl:=Option.some.inj H;have fc:=X.out;have fd:=U.out;obtain⟨_,_,_,_,_,_,_,_⟩:=bc4 I;obtain⟨_,_,_,_,_,_,_,_⟩:=bc4 D;go_wp2
      repeat(go_quiet (fail);try go_wp2)
      go_ret
      exact⟨by first|rfl|(simp[errW_none,errW_some] <;> rfl)|(simp only[←bh];first|rfl|(simp[errW_none,errW_some] <;> rfl))|(simp[*,errW_none,errW_some] <;> rfl),PB⟩
     ·rw[if_neg bl] at H;have d7:(L == 2)=false:=beq_eq_false_iff_ne.mpr bl;have d8:(L != 2)=true:=bne_iff_ne.mpr bl
      by_cases bm:L=3
      ·rw[if_pos bm] at H;have d9:(L == 3)=true:=beq_iff_eq.mpr bm;have ea:(L != 3)=false:=bne_eq_false_iff_eq.mpr bm;clear bm;obtain⟨b4,bi⟩:∃ y_:List Int,y_=(([Y,a2]:List Int)):=⟨_,rfl⟩
       replace H:((impl_Hash.f kj3 b4).bind fun be=>((impl_Mod.f be 1000).bind fun bu=>(some bu)))=some r:=by first|(rw[bi];with_reducible exact H)|(have H2_:=(Option.bind_some _ _).symm.trans H;rw[bi];with_reducible exact H2_)|exact H
       have bj:=ak bi;clear bi;replace H:=Option.bind_eq_some_iff.mp H;obtain⟨be,dr,H⟩:=H;(try dsimp only at H);have ej:=ak dr;clear dr;replace H:=Option.bind_eq_some_iff.mp H;obtain⟨bu,dt,H⟩:=H;(try dsimp only at H);have ek:=ak dt;clear dt;obtain rfl:=Option.some.inj H;have fe:=X.out;have ff:=U.out;obtain⟨_,_,_,_,_,_,_,_⟩:=bc4 I;obtain⟨_,_,_,_,_,_,_,_⟩:=bc4 D
       iterate 4 (try go_wp2_with (first|((with_reducible refine gate_dst (N:=47) rfl ?_);refine Kd.R_lit (Kd.int .i64) _ 3 ?hg (N:=47) ?hd (xs:=([Y,a2]:List Int)) (inner:=[.int .i64 Y,.int .i64 a2]) (ok:=fun _=>True) (okp:=fun _=>True) ?hr ?hp (fun _ hk=>hk) trivial (Below.refl _ _) (Nat.le_refl _) (by simp) ?_;(case hd=>rfl);(case hg=>rfl);(case hr=>first|(go_simp;done)|(go_simp;rfl));(case hp=>exact(Reps.one (show Kd.M (Kd.int .i64) _ _ _ Y [.int .i64 Y] from rfl) (Reps.one (show Kd.M (Kd.int .i64) _ _ _ a2 [.int .i64 a2] from rfl) (Reps.none _ _))));intro eo e5 ho42 hb hg_ hnew_;clear hg_ hnew_;(first|rw[←bj.out] at ho42|(simp only[Int.reduceToNat] at ho42;rw[←bj.out] at ho42));have al:=Rn0 ho42 HB;replace D:=kf D hb;replace I:=kf I hb;replace HB:=bs HB hb;clear hb ho42;obtain⟨ep,eq,rfl⟩:=Kd.R_slice al.out)|(go_at_call 76;(with_reducible refine(impl_Hash.calls kj3 _ _ b4 be _ ?side1 ?side2 ej.out).mono ?_);(case side1=>exact CR (rr al));(case side2=>exact rl al);rintro e w' ⟨rfl,⟨nd,rfl⟩⟩;(try first|exact⟨rfl,_,World.drewN_drewN _ _ _⟩ | exact⟨rfl,_,Eq.trans (World.drewN_drewN _ _ _) (congrArg (World.drewN _) (Nat.add_assoc _ _ _))⟩))|(go_at_call 75;(with_reducible refine(impl_Mod.calls be 1000 bu _ ek.out).mono ?_);rintro e w' ⟨rfl,⟨nd,rfl⟩⟩;(try first|exact⟨rfl,_,World.drewN_drewN _ _ _⟩ | exact⟨rfl,_,Eq.trans (World.drewN_drewN _ _ _) (congrArg (World.drewN _) (Nat.add_assoc _ _ _))⟩)));try go_quiet (first|((with_reducible refine gate_dst (N:=47) rfl ?_);refine Kd.R_lit (Kd.int .i64) _ 3 ?hg (N:=47) ?hd (xs:=([Y,a2]:List Int)) (inner:=[.int .i64 Y,.int .i64 a2]) (ok:=fun _=>True) (okp:=fun _=>True) ?hr ?hp (fun _ hk=>hk) trivial (Below.refl _ _) (Nat.le_refl _) (by simp) ?_;(case hd=>rfl);(case hg=>rfl);(case hr=>first|(go_simp;done)|(go_simp;rfl));(case hp=>exact(Reps.one (show Kd.M (Kd.int .i64) _ _ _ Y [.int .i64 Y] from rfl) (Reps.one (show Kd.M (Kd.int .i64) _ _ _ a2 [.int .i64 a2] from rfl) (Reps.none _ _))));intro eo e5 ho42 hb hg_ hnew_;clear hg_ hnew_;(first|rw[←bj.out] at ho42|(simp only[Int.reduceToNat] at ho42;rw[←bj.out] at ho42));have al:=Rn0 ho42 HB;replace D:=kf D hb;replace I:=kf I hb;replace HB:=bs HB hb;clear hb ho42;obtain⟨ep,eq,rfl⟩:=Kd.R_slice al.out)|(go_at_call 76;(with_reducible refine(impl_Hash.calls kj3 _ _ b4 be _ ?side1 ?side2 ej.out).mono ?_);(case side1=>exact CR (rr al));(case side2=>exact rl al);rintro e w' ⟨rfl,⟨nd,rfl⟩⟩;(try first|exact⟨rfl,_,World.drewN_drewN _ _ _⟩ | exact⟨rfl,_,Eq.trans (World.drewN_drewN _ _ _) (congrArg (World.drewN _) (Nat.add_assoc _ _ _))⟩))|(go_at_call 75;(with_reducible refine(impl_Mod.calls be 1000 bu _ ek.out).mono ?_);rintro e w' ⟨rfl,⟨nd,rfl⟩⟩;(try first|exact⟨rfl,_,World.drewN_drewN _ _ _⟩ | exact⟨rfl,_,Eq.trans (World.drewN_drewN _ _ _) (congrArg (World.drewN _) (Nat.add_assoc _ _ _))⟩))))
       go_ret
       exact⟨RT,PB⟩
      ·rw[if_neg bm] at H;have d9:(L == 3)=false:=beq_eq_false_iff_ne.mpr bm;have ea:(L != 3)=true:=bne_iff_ne.mpr bm
       by_cases bn:L=4
       ·rw[if_pos bn] at H;have eb:(L == 4)=true:=beq_iff_eq.mpr bn;have ec:(L != 4)=false:=bne_eq_false_iff_eq.mpr bn;clear bn
        by_cases bo:(J.length:Int) > 0
        ·rw[if_pos bo] at H;have ed:decide (0 < (J.length:Int))=true:=decide_eq_true bo;have ee:decide (0 < J.length)=true:=decide_eq_true (by omega);clear bo
         by_cases bw:(J.length:Int)=0
         ·rw[if_pos bw] at H;exact absurd H (by simp)
         ·rw[if_neg bw] at H;have fg:((J.length:Int) == 0)=false:=beq_eq_false_iff_ne.mpr bw;have fh:((J.length:Int) != 0)=true:=bne_iff_ne.mpr bw
          have fi:¬(J=[]):=fun h_=>bw (by rw[h_];rfl)
          obtain⟨af,bv⟩:∃ j_:Int,(Int.tmod a2 (J.length:Int))=j_:=⟨_,rfl⟩
          replace H:(if 0≤(af) then(if (af) < (J.length:Int) then(some (rd J (af))) else(none)) else(none))=some r:=by first|(rw[bv] at H;exact H)|(simp only[bv] at H ⊢;exact H)
          by_cases cf:0≤(af)
          ·rw[if_pos cf] at H;have fj:decide (0≤(af))=true:=decide_eq_true cf;clear cf
           by_cases cg:(af) < (J.length:Int)
           ·rw[if_pos cg] at H;have fk:decide ((af) < (J.length:Int))=true:=decide_eq_true cg;clear cg;obtain rfl:=Option.some.inj H;have fl:=X.out;have fm:=U.out;obtain⟨_,_,_,_,_,_,_,_⟩:=bc4 I;obtain⟨_,_,_,_,_,_,_,_⟩:=bc4 D;have b5:0≤((af):Int):=od;have b6:(af) < (J.length:Int):=od;obtain⟨fo,er,bp⟩:=Kd.at_int av.out (af) b5 b6;cases er;replace bp:=hx_ HB bp;replace b5:=eq_true b5;replace b6:=eq_true b6;go_wp2
            repeat(go_quiet (fail);try go_wp2)
            go_ret
            exact⟨by first|rfl|(simp[errW_none,errW_some] <;> rfl)|(simp only[←bv];first|rfl|(simp[errW_none,errW_some] <;> rfl))|(simp[*,errW_none,errW_some] <;> rfl),PB⟩
           ·rw[if_neg cg] at H;exact absurd H (by simp)
          ·rw[if_neg cf] at H;exact absurd H (by simp)
        ·rw[if_neg bo] at H;have ed:decide (0 < (J.length:Int))=false:=decide_eq_false bo;have ee:decide (0 < J.length)=false:=decide_eq_false (by omega);clear bo;obtain rfl:=Option.some.inj H;have fp:=X.out;have fq:=U.out;obtain⟨_,_,_,_,_,_,_,_⟩:=bc4 I;obtain⟨_,_,_,_,_,_,_,_⟩:=bc4 D;go_wp2
         repeat(go_quiet (fail);try go_wp2)
         go_ret
         exact⟨RT,PB⟩
       ·rw[if_neg bn] at H;have eb:(L == 4)=false:=beq_eq_false_iff_ne.mpr bn;have ec:(L != 4)=true:=bne_iff_ne.mpr bn;obtain rfl:=Option.some.inj H;have ft:=X.out;have fu:=U.out;obtain⟨_,_,_,_,_,_,_,_⟩:=bc4 I;go_wp2
        repeat(go_quiet (fail);try go_wp2)
        go_ret
        exact⟨RT,PB⟩

end Go.Proofs.Ythojdjnchhkafaa.MFnExactTraceVisit
