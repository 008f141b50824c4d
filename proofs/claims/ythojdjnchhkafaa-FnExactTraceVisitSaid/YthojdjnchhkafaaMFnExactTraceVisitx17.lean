-- Written by a program of this session out of the translation's own print. Not trusted: Lean checks it.
import Derived.Test.YthojdjnchhkafaaShr2
import Derived.Test.YthojdjnchhkafaaMFnExactTraceVisitx0
import Derived.Test.YthojdjnchhkafaaMFnExactTraceVisitx1
namespace Go.Proofs.Ythojdjnchhkafaa.MFnExactTraceVisit
open Go.RowKit Go.Proofs.YthojdjnchhkafaaW.PrintWords Go.Proofs.YthojdjnchhkafaaW.PrintLast Go.Proofs.YthojdjnchhkafaaW.PrintMore
attribute [local go_sem] max2_int min2_int max_two min_two max_three min_three max_four min_four   -- for this text's walks alone
set_option linter.unusedVariables false
set_option maxHeartbeats 8000000
set_option maxRecDepth 100000
set_option linter.unusedSimpArgs false

/-! ### slices_Clone_int_int: function 95 -/
def slices_Clone_int_int.f (I:List Int):Option (List Int):=(some (([]:List Int):List Int)).bind fun D=>(if D.length+I.length < 17592186044416 then(some (D++I)) else(none))
theorem slices_Clone_int_int.calls (A0:Option Addr)(Y:Nat)(D:List Int)(r:List Int)(w:World)(Z:Kd.C (Kd.int .i64) w A0 D.length D)(ae:D.length≤Y)(h:slices_Clone_int_int.f D=some r) :
  Calls Try.prog 95 #[.slice A0 D.length Y] w fun e w'=>∃ af:Value,e = .returned (af)∧Kd.R (Kd.int .i64) 3 w' w.heap.size (fun _=>True) af r∧Below w.heap.size w w':=by
 cases A0 with
 | none =>
  have hz_:D.length=0:=C_none_length Z;obtain rfl:D=[]:=List.eq_nil_of_length_eq_zero hz_
  obtain rfl:r=[]:=by
   have h2_:=h
   simp[slices_Clone_int_int.f] at h2_
   exact h2_
  have hnn_:∀ W,(binOp .eql 24 (.slice none 0 Y) (.slice none 0 0)).run Try.prog W = .ok (.bool true) W:=fun W=>eql_nil_none (P:=Try.prog) W 24 3 0 Y Try.underlying24
  go_enter Try.func95,Try.ntmps95;go_wp2
  go_ret
  exact⟨_,rfl,Kd.R_nil _ _ _ _ _,Below.refl _ _⟩
 | some ad_ =>
  have hnn_:∀ W,(binOp .eql 24 (.slice (some ad_) D.length Y) (.slice none 0 0)).run Try.prog W = .ok (.bool false) W:=fun W=>eql_nil_some (P:=Try.prog) W 24 3 ad_ D.length Y Try.underlying24
  have al:=ak Z;have ao:=ak ae;clear Z ae;have HB:=ak (Below.refl w.heap.size w);have H:=h;clear h;unfold slices_Clone_int_int.f at H;obtain⟨L,I⟩:∃ y_:List Int,y_=(([]:List Int)):=⟨_,rfl⟩
  replace H:(if L.length+D.length < 17592186044416 then(some (L++D)) else(none))=some r:=by first|(rw[I];with_reducible exact H)|(have H2_:=(Option.bind_some _ _).symm.trans H;rw[I];with_reducible exact H2_)|exact H
  have U:=ak I;clear I
  by_cases c2:L.length+D.length < 17592186044416
  ·rw[if_pos c2] at H;have ah:=ak c2;clear c2;obtain⟨ai,J⟩:∃ y_:List Int,y_=(L++D):=⟨_,rfl⟩
   replace H:(some ai)=some r:=by first|(rw[J];with_reducible exact H)|(have H2_:=(Option.bind_some _ _).symm.trans H;rw[J];with_reducible exact H2_)|exact H
   have ab:=ak J;clear J;obtain rfl:=Option.some.inj H;go_enter Try.func95,Try.ntmps95;go_wp2_with (first|((with_reducible refine gate_dst (N:=5) rfl ?_);refine Kd.R_lit (Kd.int .i64) _ 3 ?hg (N:=5) ?hd (xs:=([]:List Int)) (inner:=[]) (ok:=fun _=>True) (okp:=fun _=>True) ?hr ?hp (fun _ hk=>hk) trivial (Below.refl _ _) (Nat.le_refl _) (by simp) ?_;(case hd=>rfl);(case hg=>rfl);(case hr=>first|(go_simp;done)|(go_simp;rfl));(case hp=>exact(Reps.none _ _));intro aj w3 ho4 hb hg_ hnew_;clear hg_ hnew_;(first|rw[←U.out] at ho4|(simp only[Int.reduceToNat] at ho4;rw[←U.out] at ho4));have X:=Rn0 ho4 HB;replace HB:=bs HB hb;clear hb ho4)|((with_reducible refine gate_builtin (b:=.append) (xs:=#[.tmp 5,.tmp 6]) rfl ?_);at_builtin;refine Kd.R_append_rows (Kd.int .i64) (w0:=w) w.heap.size rfl (.tmp 5) (.tmp 6) 24 3 (.int .i64 0) 8 rfl Try.underlying24 info3 rfl (by decide) (by omega) aj L D _ _ _ (fun _=>True) (fun _=>False) rfl rfl ?aO ?aR (fun _ _ h=>h) (fun _ h=>h.elim) ?aF ?aB ?aS ?aL ?_;(case aR=>repeat(first|exact(Kd.C_below al.out HB.out)|(with_reducible refine Kd.C_alloc ?_ _)|(with_reducible refine Kd.C_drewN ?_ _)|(with_reducible refine Kd.C_drew ?_)));(case aB=>exact PB);(case aF=>exact(fun _ _=>trivial));(case aO=>exact(PR X));(case aS=>exact(below_size PB));(case aL=>have:=ah.out;omega);intro am w5 ho hb hg hat;rw[←ab.out] at ho;replace HB:=ak hb;have ac:=ak (ho);clear X;clear ho hb hg hat))
   go_ret
   exact⟨_,RT,by(with_reducible repeat(first|apply Kd.R_alloc | apply Kd.R_drewN | apply Kd.R_drew));exact ac.out,PB⟩
  ·rw[if_neg c2] at H;exact absurd H (by simp)

/-! ### impl_copyResource: function 99 -/
def impl_copyResource.f (D:Int)(I:List Int)(J:Int)(L:Int)(U:Int):Option (Int×List Int×Int×Int×Int):=(slices_Clone_int_int.f I).bind fun X=>(some (D,X,J,L,U))
theorem impl_copyResource.calls (L:Int)(U:Option Addr)(X:Nat)(I:List Int)(Y:Int)(Z:Int)(aa:Int)(r1:Int)(r2:List Int)(r3:Int)(r4:Int)(r5:Int)(w:World)(ae:Kd.C (Kd.int .i64) w U I.length I)(af:I.length≤X)(h:impl_copyResource.f L I Y Z aa=some (r1,r2,r3,r4,r5)) :
  Calls Try.prog 99 #[.agg #[.int .i64 L,.slice U I.length X,.int .i64 Y,.int .i64 Z,.int .i64 aa]] w fun e w'=>∃ am:Value,e = .returned (.agg #[.int .i64 r1,am,.int .i64 r3,.int .i64 r4,.int .i64 r5])∧Kd.R (Kd.int .i64) 3 w' w.heap.size (fun _=>True) am r2∧Below w.heap.size w w':=by
 have bb:=Try.underlying82;have ai:=ak ae;have aj:=ak af;clear ae af;have HB:=ak (Below.refl w.heap.size w);have H:=h;clear h;unfold impl_copyResource.f at H;replace H:=Option.bind_eq_some_iff.mp H;obtain⟨ah,ao,H⟩:=H;(try dsimp only at H);have A2:=ak ao;clear ao;simp only[Option.some.injEq,Prod.mk.injEq] at H;obtain⟨rfl,rfl,rfl,rfl,rfl⟩:=H;go_enter Try.func99,Try.ntmps99;go_wp2_with (first|((with_reducible refine gate_dst (N:=1) rfl ?_);refine bx_ (N:=1) #[.int .i64 L,.slice U I.length X,.int .i64 Y,.int .i64 Z,.int .i64 aa] 82 ?_;intro az hg w3 hbox hb;have D:=ak hbox;have a9:=gy hg HB;replace HB:=bs HB hb;clear hb hbox hg)|((with_reducible refine gate_dst (N:=2) rfl ?_);refine bx_ (N:=2) #[.int .i64 0,.slice none 0 0,.int .i64 0,.int .i64 0,.int .i64 0] 82 ?_;intro al hg w4 hbox hb;have J:=ak hbox;have ba:=gy hg HB;replace HB:=bs HB hb;have ab:=gm hg D;have ac:=gn hg D;replace D:=kf D hb;clear hb hbox hg;have bd:=ab.out;have be:=ac.out;obtain⟨_,_,_,_,_,_,_,_,_,_⟩:=bc5 D)|((with_reducible refine gate_callee (f:=95) rfl ?_);refine goesL_ (some 5) rfl rfl Try.func95 KR rfl #[.slice U I.length X] rfl AR ?_;(with_reducible refine(slices_Clone_int_int.calls _ _ I ah _ ?side1 ?side2 A2.out).mono ?_);(case side1=>exact CR (Kd.C_below ai.out HB.out));(case side2=>exact aj.out);rintro e w7 ⟨bf,rfl,ho0,hb⟩;refine⟨_,rfl,?_⟩;have ag:=Rn0 ho0 HB;replace D:=kf D hb;replace J:=kf J hb;replace HB:=bs HB hb;clear hb ho0;obtain⟨ap,aq,rfl⟩:=Kd.R_slice ag.out;obtain⟨ar,au,av,_,_,aw,ax,ay,_,_⟩:=bc5 D;obtain⟨_,_,_,_,_,_,_,_,_,_⟩:=bc5 J));refine bodyPost_ret (results_cell_row rfl _ _ al 82 #[.int .i64 L,.slice ap ah.length aq,.int .i64 Y,.int .i64 Z,.int .i64 aa] (0,0) _ rfl (PX J) Try.underlying82 rfl KR) rfl ?_;exact⟨_,RT,RX (Rt (Rt ag.out D) J) (fun _ hk=>trivial),PB⟩

attribute [local go_sem high] eqA73
/-! ### impl_AnswerAt: function 92 -/
def impl_AnswerAt.l0:Nat→List (S84)→Int→Int→Int→Int→Int→Option (Int×List Int×Int×Int×Int)
  | 0,_,_,_,_,_,_=>none
  | k+1,X,Y,D,J,L,U=>if D≥0 then(if 0≤D then(if D < (X.length:Int) then(if (((rd_T84 X D).f0.f0) == J && (((rd_T84 X D).f0.f1) == L && (((rd_T84 X D).f0.f2) == U)))=true then(if ((rd_T84 X D).f1)≤Y then((impl_copyResource.f ((rd_T84 X D).f2.f0) ((rd_T84 X D).f2.f1) ((rd_T84 X D).f2.f2.f0) ((rd_T84 X D).f2.f2.f1) ((rd_T84 X D).f2.f2.f2)).bind fun I=>(some (I.1,I.2.1,I.2.2.1,I.2.2.2.1,I.2.2.2.2))) else(impl_AnswerAt.l0 k X Y (wrap64 (D - 1)) J L U)) else(impl_AnswerAt.l0 k X Y (wrap64 (D - 1)) J L U)) else(none)) else(none)) else(some (4,([]:List Int),0,0,0))
def impl_AnswerAt.f (k:Nat)(L:List (S84))(D:Int)(I:Int)(J:Int)(U:Int):Option (Int×List Int×Int×Int×Int):=impl_AnswerAt.l0 k L U (wrap64 ((L.length:Int) - 1)) D I J
theorem impl_AnswerAt.calls (k:Nat)(A0:Option Addr)(c0:Nat)(I:List (S84))(ai:Int)(aj:Int)(al:Int)(a2:Int)(r1:Int)(r2:List Int)(r3:Int)(r4:Int)(r5:Int)(w:World)(dr:Kd.C k84 w A0 I.length I)(dt:I.length≤c0)(h:impl_AnswerAt.f k I ai aj al a2=some (r1,r2,r3,r4,r5)) :
  Calls Try.prog 92 #[.slice A0 I.length c0,.agg #[.int .i64 ai,.int .i64 aj,.int .i64 al],.int .i64 a2] w fun e w'=>∃ du:Value,e = .returned (.agg #[.int .i64 r1,du,.int .i64 r3,.int .i64 r4,.int .i64 r5])∧Kd.R (Kd.int .i64) 3 w' w.heap.size (fun _=>True) du r2∧Below w.heap.size w w':=by
 have ej:=Try.underlying73;have ek:=Try.underlying82;have bp:=ak dr;have er:=ak dt;clear dr dt;have HB:=ak (Below.refl w.heap.size w);have H:=h;clear h;unfold impl_AnswerAt.f at H;have H':=ak H;clear H;go_enter Try.func92,Try.ntmps92
 iterate 4 (try go_wp2_with (first|((with_reducible refine gate_dst (N:=4) rfl ?_);refine bx_ (N:=4) #[.int .i64 ai,.int .i64 aj,.int .i64 al] 73 ?_;intro cn hg w4 hbox hb;have J:=ak hbox;have dk:=gy hg HB;replace HB:=bs HB hb;clear hb hbox hg)|((with_reducible refine gate_dst (N:=6) rfl ?_);refine bx_ (N:=6) #[.int .i64 0,.slice none 0 0,.int .i64 0,.int .i64 0,.int .i64 0] 82 ?_;intro bl hg w5 hbox hb;have U:=ak hbox;have dl:=gy hg HB;replace HB:=bs HB hb;have ao:=gm hg J;have ap:=gn hg J;replace J:=kf J hb;clear hb hbox hg));try go_quiet (first|((with_reducible refine gate_dst (N:=4) rfl ?_);refine bx_ (N:=4) #[.int .i64 ai,.int .i64 aj,.int .i64 al] 73 ?_;intro cn hg w4 hbox hb;have J:=ak hbox;have dk:=gy hg HB;replace HB:=bs HB hb;clear hb hbox hg)|((with_reducible refine gate_dst (N:=6) rfl ?_);refine bx_ (N:=6) #[.int .i64 0,.slice none 0 0,.int .i64 0,.int .i64 0,.int .i64 0] 82 ?_;intro bl hg w5 hbox hb;have U:=ak hbox;have dl:=gy hg HB;replace HB:=bs HB hb;have ao:=gm hg J;have ap:=gn hg J;replace J:=kf J hb;clear hb hbox hg)))
 go_loopg [7] k (fun kq v7 w'=>∃(D:Int)(au:Int)(av:Int)(aw:Int)(ax:Int),v7 = .int .i64 D∧Aside0 (impl_AnswerAt.l0 kq I a2 D ai aj al=some (r1,r2,r3,r4,r5))∧Aside0 (kq≤k)∧Aside0 (w'.heap[cn]?=some (.cells #[.int .i64 ai,.int .i64 aj,.int .i64 al] 73 (0,0)))∧Aside0 (w'.heap[bl]?=some (.cells #[.int .i64 au,(.slice none 0 0),.int .i64 av,.int .i64 aw,.int .i64 ax] 82 (0,0)))∧Aside0 (Below w.heap.size w w'))
 case atStart=>exact⟨(wrap64 ((I.length:Int) - 1)),(0),(0),(0),(0),FR,H',⟨Nat.le_refl _⟩,⟨PK J⟩,⟨PK U⟩,⟨PB⟩⟩
 case round =>
  clear H'
  try clear p2
  obtain⟨D,au,av,aw,ax,rfl,HA,co,J,U,HB⟩:=hrel
  cases gk with
  | zero=>exact absurd HA.out (by simp[impl_AnswerAt.l0])
  | succ k1 =>
   have H:=HA.out;clear HA;simp only[impl_AnswerAt.l0] at H
   by_cases c6:D≥0
   ·rw[if_pos c6] at H;have dw:decide (0≤D)=true:=decide_eq_true c6;clear c6
    by_cases c7:0≤D
    ·rw[if_pos c7] at H;have eo:decide (0≤D)=true:=decide_eq_true c7;clear c7
     by_cases c8:D < (I.length:Int)
     ·rw[if_pos c8] at H;have ep:decide (D < (I.length:Int))=true:=decide_eq_true c8;clear c8
      by_cases c9:(((rd_T84 I D).f0.f0) == ai && (((rd_T84 I D).f0.f1) == aj && (((rd_T84 I D).f0.f2) == al)))=true
      ·rw[if_pos c9] at H;have dx:(((rd_T84 I D).f0.f0) == ai && (((rd_T84 I D).f0.f1) == aj && (((rd_T84 I D).f0.f2) == al)))=true:=c9;(try(have dy:decide (((rd_T84 I D).f0.f0)=ai && (((rd_T84 I D).f0.f1) == aj && (((rd_T84 I D).f0.f2) == al)))=true:=by simpa using c9));(try(have dz:(((rd_T84 I D).f0.f0) == ai && (((rd_T84 I D).f0.f1) == aj && (((rd_T84 I D).f0.f2) == al)))=true:=by simpa using c9));clear c9
       by_cases br:((rd_T84 I D).f1)≤a2
       ·rw[if_pos br] at H;have dp:decide (((rd_T84 I D).f1)≤a2)=true:=decide_eq_true br;clear br;replace H:=Option.bind_eq_some_iff.mp H;obtain⟨⟨cf,cg,ch,ci,cj⟩,df,H⟩:=H;(try dsimp only at H);have dv:=ak df;clear df;simp only[Option.some.injEq,Prod.mk.injEq] at H;obtain⟨rfl,rfl,rfl,rfl,rfl⟩:=H;have aq:0≤(D:Int):=od;have ar:D < (I.length:Int):=od;obtain⟨bj,cd,ce,bo,X,Y,Z,aa,ab,L,ac,ae,af,ag,ah⟩:=at_T84 bp.out D aq ar;cases bo;replace X:=hx_ HB X;replace Y:=hx_ HB Y;replace Z:=hx_ HB Z;replace aa:=hx_ HB aa;replace ab:=hx_ HB ab;replace L:=hx_ HB L;replace ac:=hx_ HB ac;replace ae:=hx_ HB ae;replace af:=hx_ HB af;have bt:=ak ah;have bu:=ak ag;clear ah ag;replace aq:=eq_true aq;replace ar:=eq_true ar;have eb:=ao.out;have ec:=ap.out;obtain⟨_,_,_,_,_,_⟩:=bc3 J;have bh:0≤(D:Int):=od;have bi:D < (I.length:Int):=od;obtain⟨cb,dg,dh,ck,ay,az,a9,ba,bb,am,bc,bd,be,bf,bg⟩:=at_T84 bp.out D bh bi;obtain rfl:bj=cb:=(by injection ck);replace ay:=hx_ HB ay;replace az:=hx_ HB az;replace a9:=hx_ HB a9;replace ba:=hx_ HB ba;replace bb:=hx_ HB bb;replace am:=hx_ HB am;replace bc:=hx_ HB bc;replace bd:=hx_ HB bd;replace be:=hx_ HB be;have cr:=ak bg;have ct:=ak bf;clear bg bf;replace bh:=eq_true bh;replace bi:=eq_true bi;have ea_:=Option.some.inj (L.symm.trans am)
        injection ea_ with ea_ en_ ec_
        subst ea_;subst ec_;clear en_;have cl:0≤(D:Int):=od;have cm:D < (I.length:Int):=od;obtain⟨dq,d8,d9,d0,bv,bw,bx,bz,b0,bk,b4,b5,b6,b7,b8⟩:=at_T84 bp.out D cl cm;obtain rfl:bj=dq:=(by injection d0);replace bv:=hx_ HB bv;replace bw:=hx_ HB bw;replace bx:=hx_ HB bx;replace bz:=hx_ HB bz;replace b0:=hx_ HB b0;replace bk:=hx_ HB bk;replace b4:=hx_ HB b4;replace b5:=hx_ HB b5;replace b6:=hx_ HB b6;have b9:=ak b8;have ca:=ak b7;clear b8 b7;replace cl:=eq_true cl;replace cm:=eq_true cm;have ea_:=Option.some.inj (L.symm.trans bk)
        injection ea_ with ea_ en_ ec_
        subst ea_;subst ec_;clear en_
        iterate 4 (try go_wp2_with (first|(go_at_call 99;(with_reducible refine(impl_copyResource.calls ((rd_T84 I D).f2.f0) _ _ ((rd_T84 I D).f2.f1) ((rd_T84 I D).f2.f2.f0) ((rd_T84 I D).f2.f2.f1) ((rd_T84 I D).f2.f2.f2) cf cg ch ci cj _ ?side1 ?side2 dv.out).mono ?_);(case side1=>exact CR (Kd.C_below b9.out HB.out));(case side2=>exact ca.out);rintro e ea ⟨d5,rfl,ho0,hb⟩;have bm:=Rn0 ho0 HB;replace J:=kf J hb;replace U:=kf U hb;replace HB:=bs HB hb;clear hb ho0;obtain⟨cu,cv,cw,cx,cy,cz,da,db,dc,de⟩:=bc5 U;obtain⟨di,dj,rfl⟩:=Kd.R_slice bm.out));try go_quiet (first|(go_at_call 99;(with_reducible refine(impl_copyResource.calls ((rd_T84 I D).f2.f0) _ _ ((rd_T84 I D).f2.f1) ((rd_T84 I D).f2.f2.f0) ((rd_T84 I D).f2.f2.f1) ((rd_T84 I D).f2.f2.f2) cf cg ch ci cj _ ?side1 ?side2 dv.out).mono ?_);(case side1=>exact CR (Kd.C_below b9.out HB.out));(case side2=>exact ca.out);rintro e ea ⟨d5,rfl,ho0,hb⟩;have bm:=Rn0 ho0 HB;replace J:=kf J hb;replace U:=kf U hb;replace HB:=bs HB hb;clear hb ho0;obtain⟨cu,cv,cw,cx,cy,cz,da,db,dc,de⟩:=bc5 U;obtain⟨di,dj,rfl⟩:=Kd.R_slice bm.out)))
        refine bodyPost_ret (results_cell_row rfl _ _ bl 82 #[.int .i64 cf,.slice di cg.length dj,.int .i64 ch,.int .i64 ci,.int .i64 cj] (0,0) _ rfl (PX U) Try.underlying82 rfl KR) rfl ?_;exact⟨_,RT,RX (Rt bm.out U) (fun _ hk=>trivial),PB⟩
       ·rw[if_neg br] at H;have dp:decide (((rd_T84 I D).f1)≤a2)=false:=decide_eq_false br;clear br;have H':=ak H;clear H;have aq:0≤(D:Int):=od;have ar:D < (I.length:Int):=od;obtain⟨bj,cd,ce,bo,X,Y,Z,aa,ab,L,ac,ae,af,ag,ah⟩:=at_T84 bp.out D aq ar;cases bo;replace X:=hx_ HB X;replace Y:=hx_ HB Y;replace Z:=hx_ HB Z;replace aa:=hx_ HB aa;replace ab:=hx_ HB ab;replace L:=hx_ HB L;replace ac:=hx_ HB ac;replace ae:=hx_ HB ae;replace af:=hx_ HB af;have bt:=ak ah;have bu:=ak ag;clear ah ag;replace aq:=eq_true aq;replace ar:=eq_true ar;have ed:=ao.out;have ee:=ap.out;obtain⟨_,_,_,_,_,_⟩:=bc3 J;have bh:0≤(D:Int):=od;have bi:D < (I.length:Int):=od;obtain⟨cb,dg,dh,ck,ay,az,a9,ba,bb,am,bc,bd,be,bf,bg⟩:=at_T84 bp.out D bh bi;obtain rfl:bj=cb:=(by injection ck);replace ay:=hx_ HB ay;replace az:=hx_ HB az;replace a9:=hx_ HB a9;replace ba:=hx_ HB ba;replace bb:=hx_ HB bb;replace am:=hx_ HB am;replace bc:=hx_ HB bc;replace bd:=hx_ HB bd;replace be:=hx_ HB be;have cr:=ak bg;have ct:=ak bf;clear bg bf;replace bh:=eq_true bh;replace bi:=eq_true bi;have ea_:=Option.some.inj (L.symm.trans am)
        injection ea_ with ea_ en_ ec_
        subst ea_;subst ec_;clear en_;go_wp2
        repeat(go_quiet (fail);try go_wp2)
        go_roundg k1
        case measure=>have:=co.out;omega
        case rel=>exact⟨(wrap64 (D - 1)),(au),(av),(aw),(ax),FR,H',⟨by have:=co.out;omega⟩,⟨PK J⟩,⟨PK U⟩,⟨PB⟩⟩
      ·rw[if_neg c9] at H
       have dx:(((rd_T84 I D).f0.f0) == ai && (((rd_T84 I D).f0.f1) == aj && (((rd_T84 I D).f0.f2) == al)))=false:=by simpa using c9
       (try(have dy:decide (((rd_T84 I D).f0.f0)=ai && (((rd_T84 I D).f0.f1) == aj && (((rd_T84 I D).f0.f2) == al)))=false:=by simpa using c9));(try(have dz:(((rd_T84 I D).f0.f0) == ai && (((rd_T84 I D).f0.f1) == aj && (((rd_T84 I D).f0.f2) == al)))=false:=by simpa using c9));(try(have eq:¬(((rd_T84 I D).f0.f0)=ai && (((rd_T84 I D).f0.f1) == aj && (((rd_T84 I D).f0.f2) == al))):=by simpa using c9));clear c9;have H':=ak H;clear H;have aq:0≤(D:Int):=od;have ar:D < (I.length:Int):=od;obtain⟨bj,cd,ce,bo,X,Y,Z,aa,ab,L,ac,ae,af,ag,ah⟩:=at_T84 bp.out D aq ar;cases bo;replace X:=hx_ HB X;replace Y:=hx_ HB Y;replace Z:=hx_ HB Z;replace aa:=hx_ HB aa;replace ab:=hx_ HB ab;replace L:=hx_ HB L;replace ac:=hx_ HB ac;replace ae:=hx_ HB ae;replace af:=hx_ HB af;have bt:=ak ah;have bu:=ak ag;clear ah ag;replace aq:=eq_true aq;replace ar:=eq_true ar;have ef:=ao.out;have eg:=ap.out;obtain⟨_,_,_,_,_,_⟩:=bc3 J;go_wp2
       repeat(go_quiet (fail);try go_wp2)
       go_roundg k1
       case measure=>have:=co.out;omega
       case rel=>exact⟨(wrap64 (D - 1)),(au),(av),(aw),(ax),FR,H',⟨by have:=co.out;omega⟩,⟨PK J⟩,⟨PK U⟩,⟨PB⟩⟩
     ·rw[if_neg c8] at H;exact absurd H (by simp)
    ·rw[if_neg c7] at H;exact absurd H (by simp)
   ·rw[if_neg c6] at H;have dw:decide (0≤D)=false:=decide_eq_false c6;clear c6;simp only[Option.some.injEq,Prod.mk.injEq] at H;obtain⟨rfl,rfl,rfl,rfl,rfl⟩:=H;have eh:=ap.out;have ei:=ao.out;obtain⟨_,_,_,_,_,_,_,_,_,_⟩:=bc5 U;go_wp2
    repeat(go_quiet (fail);try go_wp2)
    refine bodyPost_ret (results_cell_row rfl _ _ bl 82 #[.int .i64 4,.slice none 0 0,.int .i64 0,.int .i64 0,.int .i64 0] (0,0) _ rfl (PX U) Try.underlying82 rfl KR) rfl ?_;exact⟨_,RT,by first|exact Kd.R_nil _ _ _ _ _ | exact Kd.N_nil _ _ _ _ _ | exact Kd.V_nil _ _ _ _ _ | exact Kd.Q_nil _ _ _ _ _ | exact Kd.S_nil _ _ _ _ _,PB⟩

attribute [local go_sem high] eqA73
/-! ### impl_Address_100: function 100 -/
def impl_Address_100.l0:Nat→List (S73)→Int→Int→Int→Int→Int→Option (Int)
  | 0,_,_,_,_,_,_=>none
  | k+1,U,X,L,D,I,J=>if L < X then(if 0≤L then(if L < (U.length:Int) then(if (D == ((rd_T73 U L).f0) && (I == ((rd_T73 U L).f1) && (J == ((rd_T73 U L).f2))))=true then(some L) else(impl_Address_100.l0 k U X (wrap64 (L+1)) D I J)) else(none)) else(none)) else(some (-1))
def impl_Address_100.f (k:Nat)(L:List (S73))(D:Int)(I:Int)(J:Int):Option (Int):=impl_Address_100.l0 k L (L.length:Int) 0 D I J
theorem impl_Address_100.calls (k:Nat)(A0:Option Addr)(c0:Nat)(I:List (S73))(J:Int)(L:Int)(U:Int)(r:Int)(w:World)(ao:Kd.C k73 w A0 I.length I)(ap:I.length≤c0)(h:impl_Address_100.f k I J L U=some r) :
  Calls Try.prog 100 #[.slice A0 I.length c0,.agg #[.int .i64 J,.int .i64 L,.int .i64 U]] w fun e w'=>e = .returned (.int .i64 r)∧Below w.heap.size w w':=by
 have bf:=Try.underlying73;have aq:=ak ao;have bl:=ak ap;clear ao ap;have HB:=ak (Below.refl w.heap.size w);have H:=h;clear h;unfold impl_Address_100.f at H;have H':=ak H;clear H;go_enter Try.func100,Try.ntmps100
 iterate 4 (try go_wp2_with (first|((with_reducible refine gate_dst (N:=3) rfl ?_);refine bx_ (N:=3) #[.int .i64 J,.int .i64 L,.int .i64 U] 73 ?_;intro ag hg w3 hbox hb;have aa:=ak hbox;have ai:=gy hg HB;replace HB:=bs HB hb;clear hb hbox hg));try go_quiet (first|((with_reducible refine gate_dst (N:=3) rfl ?_);refine bx_ (N:=3) #[.int .i64 J,.int .i64 L,.int .i64 U] 73 ?_;intro ag hg w3 hbox hb;have aa:=ak hbox;have ai:=gy hg HB;replace HB:=bs HB hb;clear hb hbox hg)))
 go_loopg [8] k (fun kq v8 w'=>∃(D:Int),v8 = .int .i64 D∧Aside0 (impl_Address_100.l0 kq I (I.length:Int) D J L U=some r)∧Aside0 (kq≤k)∧Aside0 (w'.heap[ag]?=some (.cells #[.int .i64 J,.int .i64 L,.int .i64 U] 73 (0,0)))∧Aside0 (Below w.heap.size w w'))
 case atStart=>exact⟨(0),FR,H',⟨Nat.le_refl _⟩,⟨PK aa⟩,⟨PB⟩⟩
 case round =>
  clear H';(try clear c1);(try clear p2);obtain⟨D,rfl,HA,ar,aa,HB⟩:=hrel
  cases gk with
  | zero=>exact absurd HA.out (by simp[impl_Address_100.l0])
  | succ k1 =>
   have H:=HA.out;clear HA;simp only[impl_Address_100.l0] at H
   by_cases c4:D < (I.length:Int)
   ·rw[if_pos c4] at H;have au:decide (D < (I.length:Int))=true:=decide_eq_true c4;clear c4
    by_cases c5:0≤D
    ·rw[if_pos c5] at H;have bi:decide (0≤D)=true:=decide_eq_true c5;clear c5
     by_cases c6:D < (I.length:Int)
     ·rw[if_pos c6] at H;have bj:decide (D < (I.length:Int))=true:=decide_eq_true c6;clear c6
      by_cases c7:(J == ((rd_T73 I D).f0) && (L == ((rd_T73 I D).f1) && (U == ((rd_T73 I D).f2))))=true
      ·rw[if_pos c7] at H;have av:(J == ((rd_T73 I D).f0) && (L == ((rd_T73 I D).f1) && (U == ((rd_T73 I D).f2))))=true:=c7;(try(have aw:decide (J=((rd_T73 I D).f0) && (L == ((rd_T73 I D).f1) && (U == ((rd_T73 I D).f2))))=true:=by simpa using c7));(try(have ax:(J == ((rd_T73 I D).f0) && (L == ((rd_T73 I D).f1) && (U == ((rd_T73 I D).f2))))=true:=by simpa using c7));clear c7;obtain rfl:=Option.some.inj H;obtain⟨_,_,_,_,_,_⟩:=bc3 aa;have ab:0≤(D:Int):=od;have ac:D < (I.length:Int):=od;obtain⟨am,af,X,Y,Z⟩:=at_T73 aq.out D ab ac;cases af;replace X:=hx_ HB X;replace Y:=hx_ HB Y;replace Z:=hx_ HB Z;replace ab:=eq_true ab;replace ac:=eq_true ac;go_wp2
       repeat(go_quiet (fail);try go_wp2)
       go_ret
       exact⟨RT,PB⟩
      ·rw[if_neg c7] at H
       have av:(J == ((rd_T73 I D).f0) && (L == ((rd_T73 I D).f1) && (U == ((rd_T73 I D).f2))))=false:=by simpa using c7
       (try(have aw:decide (J=((rd_T73 I D).f0) && (L == ((rd_T73 I D).f1) && (U == ((rd_T73 I D).f2))))=false:=by simpa using c7));(try(have ax:(J == ((rd_T73 I D).f0) && (L == ((rd_T73 I D).f1) && (U == ((rd_T73 I D).f2))))=false:=by simpa using c7));(try(have bk:¬(J=((rd_T73 I D).f0) && (L == ((rd_T73 I D).f1) && (U == ((rd_T73 I D).f2)))):=by simpa using c7));clear c7;have H':=ak H;clear H;obtain⟨a9,ba,bb,bc,bd,be⟩:=bc3 aa;have ab:0≤(D:Int):=od;have ac:D < (I.length:Int):=od;obtain⟨am,af,X,Y,Z⟩:=at_T73 aq.out D ab ac;cases af;replace X:=hx_ HB X;replace Y:=hx_ HB Y;replace Z:=hx_ HB Z;replace ab:=eq_true ab;replace ac:=eq_true ac;go_wp2
       repeat(go_quiet (fail);try go_wp2)
       go_roundg k1
       case measure=>have:=ar.out;omega
       case rel=>exact⟨(wrap64 (D+1)),FR,H',⟨by have:=ar.out;omega⟩,⟨PK aa⟩,⟨PB⟩⟩
     ·rw[if_neg c6] at H;exact absurd H (by simp)
    ·rw[if_neg c5] at H;exact absurd H (by simp)
   ·rw[if_neg c4] at H;have au:decide (D < (I.length:Int))=false:=decide_eq_false c4;clear c4;obtain rfl:=Option.some.inj H;go_wp2
    repeat(go_quiet (fail);try go_wp2)
    go_ret
    exact⟨RT,PB⟩

/-! ### impl_Address_93: function 93 -/
def impl_Address_93.f (k:Nat)(U:List (S73))(D:Int)(I:Int)(J:Int):Option (Bool):=(impl_Address_100.f k U D I J).bind fun L=>(some (decide (L≥0)))
theorem impl_Address_93.calls (k:Nat)(A0:Option Addr)(c0:Nat)(U:List (S73))(D:Int)(I:Int)(J:Int)(r:Bool)(w:World)(X:Kd.C k73 w A0 U.length U)(Y:U.length≤c0)(h:impl_Address_93.f k U D I J=some r) :
  Calls Try.prog 93 #[.slice A0 U.length c0,.agg #[.int .i64 D,.int .i64 I,.int .i64 J]] w fun e w'=>e = .returned (.bool r)∧Below w.heap.size w w':=by
 have ai:=Try.underlying73;have ae:=ak X;have af:=ak Y;clear X Y;have HB:=ak (Below.refl w.heap.size w);have H:=h;clear h;unfold impl_Address_93.f at H;replace H:=Option.bind_eq_some_iff.mp H;obtain⟨ac,Z,H⟩:=H;(try dsimp only at H);have A3:=ak Z;clear Z;obtain rfl:=Option.some.inj H;go_enter Try.func93,Try.ntmps93;go_wp2_with (first|((with_reducible refine gate_dst (N:=3) rfl ?_);refine bx_ (N:=3) #[.int .i64 D,.int .i64 I,.int .i64 J] 73 ?_;intro ag hg w4 hbox hb;have L:=ak hbox;have ah:=gy hg HB;replace HB:=bs HB hb;clear hb hbox hg;obtain⟨_,_,_,_,_,_⟩:=bc3 L)|((with_reducible refine gate_callee (f:=100) rfl ?_);refine goesL_ (some 7) rfl rfl Try.func100 KR rfl #[.slice A0 U.length c0,.agg #[.int .i64 D,.int .i64 I,.int .i64 J]] rfl AR ?_;(with_reducible refine(impl_Address_100.calls k _ _ U D I J ac _ ?side1 ?side2 A3.out).mono ?_);(case side1=>exact CR (Kd.C_below ae.out HB.out));(case side2=>exact af.out);rintro e w6 ⟨rfl,hb⟩;refine⟨_,rfl,?_⟩;replace L:=kf L hb;replace HB:=bs HB hb;clear hb))
 go_ret
 exact⟨RT,PB⟩

end Go.Proofs.Ythojdjnchhkafaa.MFnExactTraceVisit
