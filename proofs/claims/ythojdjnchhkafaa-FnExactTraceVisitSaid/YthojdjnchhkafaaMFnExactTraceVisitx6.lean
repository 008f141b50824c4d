-- Written by a program of this session out of the translation's own print. Not trusted: Lean checks it.
import Derived.Test.YthojdjnchhkafaaShr2
import Derived.Test.YthojdjnchhkafaaMFnExactTraceVisitx0
import Derived.Test.YthojdjnchhkafaaMFnExactTraceVisitx5
import Derived.Test.YthojdjnchhkafaaMFnExactTraceVisitx2
import Derived.Test.YthojdjnchhkafaaMFnExactTraceVisitx1
namespace Go.Proofs.Ythojdjnchhkafaa.MFnExactTraceVisit
open Go.RowKit Go.Proofs.YthojdjnchhkafaaW.PrintWords Go.Proofs.YthojdjnchhkafaaW.PrintLast Go.Proofs.YthojdjnchhkafaaW.PrintMore
attribute [local go_sem] max2_int min2_int max_two min_two max_three min_three max_four min_four   -- for this text's walks alone
set_option linter.unusedVariables false
set_option maxHeartbeats 8000000
set_option maxRecDepth 100000
set_option linter.unusedSimpArgs false

/-! ### spec_FollowAt: function 56 -/
def spec_FollowAt.l0:Nat→List (S84)→Int→List (S73)→Int→List Int→Int→Int→Int→Option (Int×List Int×Int×Int×Int×(List (S73)))
  | 0,_,_,_,_,_,_,_,_=>none
  | k+1,x0,x2,Y,L,X,D,I,J=>if L=3 then(if (Y.length:Int)≤4 then((spec_l9Has.f k Y D I J).bind fun Z=>(if Z=true then(some (L,X,D,I,J,Y)) else(if Y.length < 5864062014805 then((spec_AnswerAt.f k x0 D I J x2).bind fun U=>(spec_FollowAt.l0 k x0 x2 (Y++[(⟨D,I,J⟩:S73)]) U.1 U.2.1 U.2.2.1 U.2.2.2.1 U.2.2.2.2)) else(none)))) else(some (L,X,D,I,J,Y))) else(some (L,X,D,I,J,Y))
def spec_FollowAt.f (k:Nat)(U:List (S84))(I:Int)(J:Int)(L:Int)(X:Int):Option (Int×List Int×Int×Int×Int×(List (S73))):=(spec_AnswerAt.f k U I J L X).bind fun D=>(spec_FollowAt.l0 k U X (([(⟨I,J,L⟩:S73)]:List (S73))) D.1 D.2.1 D.2.2.1 D.2.2.2.1 D.2.2.2.2)
theorem spec_FollowAt.calls (k:Nat)(A0:Option Addr)(c0:Nat)(l0:List (S84))(ab:Int)(ac:Int)(ae:Int)(a2:Int)(r1:Int)(r2:List Int)(r3:Int)(r4:Int)(r5:Int)(r6:List (S73))(w:World)(cz:Kd.C k84 w A0 l0.length l0)(da:l0.length≤c0)(h:spec_FollowAt.f k l0 ab ac ae a2=some (r1,r2,r3,r4,r5,r6)) :
  Calls Try.prog 56 #[.slice A0 l0.length c0,.agg #[.int .i64 ab,.int .i64 ac,.int .i64 ae],.int .i64 a2] w fun e w'=>∃ db dc:Value,e = .returned (.tuple #[.agg #[.int .i64 r1,db,.int .i64 r3,.int .i64 r4,.int .i64 r5],dc])∧Kd.R (Kd.int .i64) 3 w' w.heap.size (fun _=>True) db r2∧Kd.R k73 73 w' w.heap.size (fun _=>True) dc r6∧Below w.heap.size w w':=by
 have ew:=Try.underlying73;have ex:=Try.underlying82;have de:=ak cz;have df:=ak da;clear cz da;have HB:=ak (Below.refl w.heap.size w);have H:=h;clear h;unfold spec_FollowAt.f at H;obtain⟨b7,ay⟩:∃ y_:List (S73),y_=(([(⟨ab,ac,ae⟩:S73)]:List (S73))):=⟨_,rfl⟩
 replace H:((spec_AnswerAt.f k l0 ab ac ae a2).bind fun au=>(spec_FollowAt.l0 k l0 a2 b7 au.1 au.2.1 au.2.2.1 au.2.2.2.1 au.2.2.2.2))=some (r1,r2,r3,r4,r5,r6):=by first|(rw[ay];with_reducible exact H)|(have H2_:=(Option.bind_some _ _).symm.trans H;rw[ay];with_reducible exact H2_)|exact H
 have bg:=ak ay;clear ay;replace H:=Option.bind_eq_some_iff.mp H;obtain⟨⟨b8,be,b9,ca,cb⟩,dg,H⟩:=H;(try dsimp only at H);have A4:=ak dg;clear dg;have H':=ak H;clear H;go_enter Try.func56,Try.ntmps56;go_wp2_with (first|((with_reducible refine gate_dst (N:=4) rfl ?_);(try(refine gate_guard (by rfl) ?_;dsimp only));refine bx_ (N:=4) #[.int .i64 ab,.int .i64 ac,.int .i64 ae] 73 ?_;intro ap hg w5 hbox hb;have X:=ak hbox;have dz:=gy hg HB;replace HB:=bs HB hb;clear hb hbox hg)|((with_reducible refine gate_dst (N:=6) rfl ?_);(try(refine gate_guard (by rfl) ?_;dsimp only));refine bx_ (N:=6) #[.int .i64 0,.slice none 0 0,.int .i64 0,.int .i64 0,.int .i64 0] 82 ?_;intro av hg w6 hbox hb;have D:=ak hbox;have d0:=gy hg HB;replace HB:=bs HB hb;have am:=gm hg X;have ao:=gn hg X;replace X:=kf X hb;clear hb hbox hg;have ez:=am.out;have e0:=ao.out;obtain⟨cd,ce,cf,cg,ch,ci⟩:=bc3 X)|((with_reducible refine gate_dst (N:=11) rfl ?_);(try(refine gate_guard (by rfl) ?_;dsimp only));refine Kd.R_lit k73 _ 73 ?hg (N:=11) ?hd (xs:=([(⟨ab,ac,ae⟩:S73)]:List (S73))) (inner:=[.int .i64 ab,.int .i64 ac,.int .i64 ae]) (ok:=fun _=>True) (okp:=fun _=>True) ?hr ?hp (fun _ hk=>hk) trivial (Below.refl _ _) (Nat.le_refl _) (by simp) ?_;(case hd=>rfl);(case hg=>rfl);(case hr=>first|(go_simp;done)|(go_simp;rfl));(case hp=>exact(Reps.c3 (show Kd.M k73 _ _ _ (⟨ab,ac,ae⟩:S73) [.int .i64 ab,.int .i64 ac,.int .i64 ae] from(k73_mkM _ _ _ (⟨ab,ac,ae⟩:S73))) (Reps.none _ _)));intro e5 w9 ho10 hb hg_ hnew_;clear hg_ hnew_;(first|rw[←bg.out] at ho10|(simp only[Int.reduceToNat] at ho10;rw[←bg.out] at ho10));have aw:=ak (Kd.R_lower (Kd.R_newB ho10 (g:=ap) (o:=.cells #[.int .i64 ab,.int .i64 ac,.int .i64 ae] 73 (0,0)) (PK X)) (below_size PB));replace X:=kf X hb;replace D:=kf D hb;replace HB:=bs HB hb;clear hb ho10;obtain⟨bl,bm,bn,bo,bp,br⟩:=bc3 X)|((with_reducible refine gate_callee (f:=83) rfl ?_);refine goesL_ (some 15) rfl rfl Try.func83 KR rfl #[.slice A0 l0.length c0,.agg #[.int .i64 ab,.int .i64 ac,.int .i64 ae],.int .i64 a2] rfl AR ?_;(with_reducible refine(spec_AnswerAt.calls k _ _ l0 ab ac ae a2 b8 be b9 ca cb _ ?side1 ?side2 A4.out).mono ?_);(case side1=>exact CR (Kd.C_below de.out HB.out));(case side2=>exact df.out);rintro e fe ⟨e6,rfl,ho0,hb⟩;refine⟨_,rfl,?_⟩;replace aw:=Rb aw hb;have az:=Rn0 ho0 HB;replace X:=kf X hb;replace D:=kf D hb;replace HB:=bs HB hb;clear hb ho0)|((with_reducible refine gate_dst (N:=9) rfl ?_);(try(refine gate_guard (by rfl) ?_;dsimp only));refine bx_ (N:=9) #[.int .i64 0,.slice none 0 0,.int .i64 0,.int .i64 0,.int .i64 0] 82 ?_;intro bh hg ff hbox hb;replace aw:=Rb aw hb;replace az:=Rb az hb;have Y:=ak hbox;have d5:=gy hg HB;replace HB:=bs HB hb;have ah:=gm hg X;have ai:=gn hg X;replace X:=kf X hb;have aj:=gm hg D;have al:=gn hg D;replace D:=kf D hb;clear hb hbox hg;have d6:=ai.out;have d7:=ah.out;have d8:=al.out;have d9:=aj.out;obtain⟨bt,bu,bv,bw,bx,bz,b0,b4,b5,b6⟩:=bc5 Y;obtain⟨dj,dk,rfl⟩:=Kd.R_slice az.out))
 go_loopg [8] k (fun kq v8 w'=>∃(ag:List (S73))(Z:Int)(af:List Int)(I:Int)(J:Int)(L:Int)(aq:Value),Aside0 (spec_FollowAt.l0 kq l0 a2 ag Z af I J L=some (r1,r2,r3,r4,r5,r6))∧Aside0 (kq≤k)∧Aside0 (Kd.R k73 73 w' w.heap.size (fun k_=>k_≠ap) v8 ag)∧Aside0 (Kd.R (Kd.int .i64) 3 w' w.heap.size (fun _=>True) aq af)∧Aside0 (w'.heap[ap]?=some (.cells #[.int .i64 ab,.int .i64 ac,.int .i64 ae] 73 (0,0)))∧Aside0 (w'.heap[av]?=some (.cells #[.int .i64 0,(.slice none 0 0),.int .i64 0,.int .i64 0,.int .i64 0] 82 (0,0)))∧Aside0 (w'.heap[bh]?=some (.cells #[.int .i64 Z,aq,.int .i64 I,.int .i64 J,.int .i64 L] 82 (0,0)))∧Aside0 (Below w.heap.size w w'))
 case atStart=>exact⟨(b7),(b8),(be),(b9),(ca),(cb),(.slice dj be.length dk),H',⟨Nat.le_refl _⟩,⟨RX (Rt aw.out Y) (fun _ hk=>by first|exact hk.1.2 | simp_all)⟩,⟨RX (Rt az.out Y) (fun _ hk=>trivial)⟩,⟨PF X⟩,⟨PF D⟩,⟨PX Y⟩,⟨PB⟩⟩
 case round =>
  clear H';(try clear c1);(try clear p2);(try clear c3);(try clear c5);(try clear c7);(try clear c8);(try clear fg);(try clear fh);(try clear bl);(try clear bm);(try clear bn);(try clear bt);(try clear bu);(try clear bv);(try clear bw);(try clear bx);(try clear cd);(try clear ce);(try clear cf);(try clear bo);(try clear bp);(try clear br);(try clear bz);(try clear b0);(try clear b4);(try clear b5);(try clear b6);(try clear cg);(try clear ch);(try clear ci);obtain⟨ag,Z,af,I,J,L,aq,HA,dh,aa,U,X,D,Y,HB⟩:=hrel
  cases gk with
  | zero=>exact absurd HA.out (by simp[spec_FollowAt.l0])
  | succ k1 =>
   have H:=HA.out;clear HA;simp only[spec_FollowAt.l0] at H
   by_cases bb:Z=3
   ·rw[if_pos bb] at H;have ct:(Z == 3)=true:=beq_iff_eq.mpr bb;have cu:(Z != 3)=false:=bne_eq_false_iff_eq.mpr bb;clear bb
    by_cases bc:(ag.length:Int)≤4
    ·rw[if_pos bc] at H;have cv:decide ((ag.length:Int)≤4)=true:=decide_eq_true bc;have cw:decide (ag.length≤4)=true:=decide_eq_true (by omega);clear bc;replace H:=Option.bind_eq_some_iff.mp H;obtain⟨dl,cj,H⟩:=H;(try dsimp only at H);have di:=ak cj;clear cj
     by_cases bi:dl=true
     ·subst bi;rw[if_pos rfl] at H;simp only[Option.some.injEq,Prod.mk.injEq] at H;obtain⟨rfl,rfl,rfl,rfl,rfl,rfl⟩:=H;have ea:=ai.out;have eb:=ah.out;have ec:=al.out;have ed:=aj.out;obtain⟨_,_,_,_,_,_,_,_,_,_⟩:=bc5 Y;obtain⟨e8,e9,rfl⟩:=Kd.R_slice aa.out;go_wp2_with (first|(go_at_call 84;(with_reducible refine(spec_l9Has.calls k1 _ _ ag I J L true _ ?side1 ?side2 di.out).mono ?_);(case side1=>exact CR (rr aa));(case side2=>exact rl aa);rintro e fi ⟨rfl,hb⟩;replace aa:=Rb aa hb;replace U:=Rb U hb;replace X:=kf X hb;replace D:=kf D hb;replace Y:=kf Y hb;replace HB:=bs HB hb;clear hb;obtain⟨_,_,_,_,_,_,_,_,_,_⟩:=bc5 Y;have ee:=ao.out;have ef:=am.out;obtain⟨_,_,_,_,_,_,_,_,_,_⟩:=bc5 D;obtain⟨dm,dn,rfl⟩:=Kd.R_slice U.out));refine bodyPost_ret (results_ct rfl _ _ av 82 #[.int .i64 Z,.slice dm af.length dn,.int .i64 I,.int .i64 J,.int .i64 L] (0,0) _ rfl (PX D) Try.underlying82 rfl KR) rfl ?_;exact⟨_,_,RT,RX (Rt U.out D) (fun _ hk=>trivial),RX (Rt aa.out D) (fun _ hk=>trivial),PB⟩
     ·replace bi:=Bool.eq_false_iff.mpr bi;subst bi;rw[if_neg (show ¬(false=true) by decide)] at H
      by_cases bj:ag.length < 5864062014805
      ·rw[if_pos bj] at H;have cx:=ak bj;clear bj;obtain⟨ck,a9⟩:∃ y_:List (S73),y_=(ag++[(⟨I,J,L⟩:S73)]):=⟨_,rfl⟩
       replace H:((spec_AnswerAt.f k1 l0 I J L a2).bind fun ax=>(spec_FollowAt.l0 k1 l0 a2 ck ax.1 ax.2.1 ax.2.2.1 ax.2.2.2.1 ax.2.2.2.2))=some (r1,r2,r3,r4,r5,r6):=by first|(rw[a9];with_reducible exact H)|(have H2_:=(Option.bind_some _ _).symm.trans H;rw[a9];with_reducible exact H2_)|exact H
       have cy:=ak a9;clear a9;replace H:=Option.bind_eq_some_iff.mp H;obtain⟨⟨cl,bf,cm,cn,co⟩,cp,H⟩:=H;(try dsimp only at H);have dy:=ak cp;clear cp;have H':=ak H;clear H;have eg:=ai.out;have eh:=ah.out;have ei:=al.out;have ej:=aj.out;obtain⟨_,_,_,_,_,_,_,_,_,_⟩:=bc5 Y;obtain⟨dp,dq,rfl⟩:=Kd.R_slice aa.out;go_wp2_with (first|(go_at_call 84;(with_reducible refine(spec_l9Has.calls k1 _ _ ag I J L false _ ?side1 ?side2 di.out).mono ?_);(case side1=>exact CR (rr aa));(case side2=>exact rl aa);rintro e fj ⟨rfl,hb⟩;replace aa:=Rb aa hb;replace U:=Rb U hb;replace X:=kf X hb;replace D:=kf D hb;replace Y:=kf Y hb;replace HB:=bs HB hb;clear hb;obtain⟨_,_,_,_,_,_,_,_,_,_⟩:=bc5 Y)|((with_reducible refine gate_builtin (b:=.append) (xs:=#[.tmp 31,.tmp 34]) rfl ?_);(try(refine gate_guard (by rfl) ?_;dsimp only));at_builtin;refine Kd.R_append k73 (w0:=w) w.heap.size rfl (.tmp 31) (.tmp 34) 94 73 (.agg #[(.int .i64 0),(.int .i64 0),(.int .i64 0)]) 24 rfl Try.underlying94 info73 rfl (by decide) (by omega) (.slice dp ag.length dq) ag (⟨I,J,L⟩:S73) [.int .i64 I,.int .i64 J,.int .i64 L] (fun k_=>k_≠ap) (fun _=>False) rfl rfl ?aP (fun _ hk=>hk.elim) ?aF ?aO ?aB ?aS ?aL ?_;(case aP=>exact k73_mkM _ _ _ (⟨I,J,L⟩:S73));(case aB=>exact PB);(case aF=>exact(fun k_ hk=>Kd.freshB (g:=ap) (o:=.cells #[.int .i64 ab,.int .i64 ac,.int .i64 ae] 73 (0,0)) (PK X) k_ hk));(case aO=>exact(PR aa));(case aS=>exact(below_size PB));(case aL=>have:=cx.out;omega);intro fa fk ho hb hg hat;rw[←cy.out] at ho;replace U:=ak (Kd.R_over' (PR U) (Kd.R_typed (PR aa)) (by decide) hg);replace X:=ak (blk_grown (g:=ap) (o:=.cells #[.int .i64 ab,.int .i64 ac,.int .i64 ae] 73 (0,0)) (PK X) hg (Kd.R_away aa.out (fun _ hk=>hk)));replace D:=ak (blk_grown (g:=av) (o:=.cells #[.int .i64 0,.slice none 0 0,.int .i64 0,.int .i64 0,.int .i64 0] 82 (0,0)) (PK D) hg (Kd.R_ne aa.out D.out (by decide)));replace Y:=ak (blk_grown (g:=bh) (o:=.cells #[.int .i64 Z,aq,.int .i64 I,.int .i64 J,.int .i64 L] 82 (0,0)) (PK Y) hg (Kd.R_ne aa.out Y.out (by decide)));replace HB:=ak hb;have bd:=ak (ho);clear aa;clear ho hb hg hat;obtain⟨_,_,_,_,_,_,_,_,_,_⟩:=bc5 Y)|((with_reducible refine gate_callee (f:=83) rfl ?_);refine goesL_ (some 40) rfl rfl Try.func83 KR rfl #[.slice A0 l0.length c0,.agg #[.int .i64 I,.int .i64 J,.int .i64 L],.int .i64 a2] rfl AR ?_;(with_reducible refine(spec_AnswerAt.calls k1 _ _ l0 I J L a2 cl bf cm cn co _ ?side1 ?side2 dy.out).mono ?_);(case side1=>exact CR (Kd.C_below de.out HB.out));(case side2=>exact df.out);rintro e fl ⟨fb,rfl,ho0,hb⟩;refine⟨_,rfl,?_⟩;replace bd:=Rb bd hb;have bk:=Rn1 ho0 HB U;replace U:=ak (Kd.R_elder' (PR U) (Kd.R_base ho0) hb);replace X:=kf X hb;replace D:=kf D hb;replace Y:=kf Y hb;replace HB:=bs HB hb;clear hb ho0;obtain⟨_,_,_,_,_,_,_,_,_,_⟩:=bc5 Y;obtain⟨dr,dt,rfl⟩:=Kd.R_slice bk.out))
       go_roundg k1
       case measure=>have:=dh.out;omega
       case rel=>exact⟨(ck),(cl),(bf),(cm),(cn),(co),(.slice dr bf.length dt),H',⟨by have:=dh.out;omega⟩,⟨Re1 bd Y⟩,⟨RX (Rt bk.out Y) (fun _ hk=>trivial)⟩,⟨PF X⟩,⟨PF D⟩,⟨PX Y⟩,⟨PB⟩⟩
      ·rw[if_neg bj] at H;exact absurd H (by simp)
    ·rw[if_neg bc] at H;have cv:decide ((ag.length:Int)≤4)=false:=decide_eq_false bc;have cw:decide (ag.length≤4)=false:=decide_eq_false (by omega);clear bc;simp only[Option.some.injEq,Prod.mk.injEq] at H;obtain⟨rfl,rfl,rfl,rfl,rfl,rfl⟩:=H;have ek:=ai.out;have el:=ah.out;have em:=al.out;have en:=aj.out;obtain⟨_,_,_,_,_,_,_,_,_,_⟩:=bc5 Y;obtain⟨fc,fd,rfl⟩:=Kd.R_slice aa.out;have eo:=ao.out;have ep:=am.out;obtain⟨_,_,_,_,_,_,_,_,_,_⟩:=bc5 D;obtain⟨du,dv,rfl⟩:=Kd.R_slice U.out;go_wp2;refine bodyPost_ret (results_ct rfl _ _ av 82 #[.int .i64 Z,.slice du af.length dv,.int .i64 I,.int .i64 J,.int .i64 L] (0,0) _ rfl (PX D) Try.underlying82 rfl KR) rfl ?_;exact⟨_,_,RT,RX (Rt U.out D) (fun _ hk=>trivial),RX (Rt aa.out D) (fun _ hk=>trivial),PB⟩
   ·rw[if_neg bb] at H;have ct:(Z == 3)=false:=beq_eq_false_iff_ne.mpr bb;have cu:(Z != 3)=true:=bne_iff_ne.mpr bb;simp only[Option.some.injEq,Prod.mk.injEq] at H;obtain⟨rfl,rfl,rfl,rfl,rfl,rfl⟩:=H;have eq:=ai.out;have er:=ah.out;have es:=al.out;have et:=aj.out;obtain⟨_,_,_,_,_,_,_,_,_,_⟩:=bc5 Y;have eu:=ao.out;have ev:=am.out;obtain⟨_,_,_,_,_,_,_,_,_,_⟩:=bc5 D;obtain⟨dw,dx,rfl⟩:=Kd.R_slice U.out;go_wp2;refine bodyPost_ret (results_ct rfl _ _ av 82 #[.int .i64 Z,.slice dw af.length dx,.int .i64 I,.int .i64 J,.int .i64 L] (0,0) _ rfl (PX D) Try.underlying82 rfl KR) rfl ?_;exact⟨_,_,RT,RX (Rt U.out D) (fun _ hk=>trivial),RX (Rt aa.out D) (fun _ hk=>trivial),PB⟩

/-! ### spec_Min: function 58 -/
def spec_Min.f (D:Int)(I:Int):Option (Int):=if I < D then(some I) else(some D)
theorem spec_Min.calls (I:Int)(J:Int)(r:Int)(w:World)(h:spec_Min.f I J=some r) :
  Calls Try.prog 58 #[.int .i64 I,.int .i64 J] w fun e w'=>e = .returned (.int .i64 r)∧Drawn0 w w':=by
 have H:=h;clear h;unfold spec_Min.f at H
 by_cases D:J < I
 ·rw[if_pos D] at H;have L:decide (J < I)=true:=decide_eq_true D;clear D;obtain rfl:=Option.some.inj H;go_enter Try.func58,Try.ntmps58;go_wp2
  go_ret
  exact⟨FR,by repeat(first|exact Drawn0.refl _ | apply Drawn0.step)⟩
 ·rw[if_neg D] at H;have L:decide (J < I)=false:=decide_eq_false D;clear D;obtain rfl:=Option.some.inj H;go_enter Try.func58,Try.ntmps58;go_wp2
  go_ret
  exact⟨FR,by repeat(first|exact Drawn0.refl _ | apply Drawn0.step)⟩

/-! ### spec_ValueOfResource: function 57 -/
mutual
def spec_ValueOfResource.j0:Nat→Bool→Int→List Int→Int→Int→Int→Option (Int)
  | 0,_,_,_,_,_,_=>none
  | k+1,X,D,I,J,L,U=>if X=true then(some 0) else(spec_ValueOfResource.l0 k 0 0 D I J L U)
def spec_ValueOfResource.l0:Nat→Int→Int→Int→List Int→Int→Int→Int→Option (Int)
  | 0,_,_,_,_,_,_,_=>none
  | k+1,Z,X,I,D,J,L,U=>if X < (D.length:Int) then(if 0≤X then(spec_ValueOfResource.l0 k (Int.tmod (wrap64 (Z+(rd D X))) 1000) (wrap64 (X+1)) I D J L U) else(none)) else((spec_Min.f 999 (wrap64 (Z+1))).bind fun Y=>(some Y))
end
def spec_ValueOfResource.f (k:Nat)(D:Int)(I:List Int)(J:Int)(L:Int)(U:Int):Option (Int):=(spec_IsResource.f k D I J L U).bind fun X=>(if X=true then(spec_ValueOfResource.j0 k (decide (D > 2)) D I J L U) else(spec_ValueOfResource.j0 k true D I J L U))
theorem spec_ValueOfResource.calls (k:Nat)(L:Int)(Z:Option Addr)(aa:Nat)(D:List Int)(U:Int)(X:Int)(Y:Int)(r:Int)(w:World)(bt:Kd.C (Kd.int .i64) w Z D.length D)(bu:D.length≤aa)(h:spec_ValueOfResource.f k L D U X Y=some r) :
  Calls Try.prog 57 #[.agg #[.int .i64 L,.slice Z D.length aa,.int .i64 U,.int .i64 X,.int .i64 Y]] w fun e w'=>e = .returned (.int .i64 r)∧Below w.heap.size w w':=by
 have cv:=Try.underlying82;have ag:=ak bt;have bv:=ak bu;clear bt bu;have HB:=ak (Below.refl w.heap.size w);have H:=h;clear h;unfold spec_ValueOfResource.f at H;have b0:=ak H;clear H;go_enter Try.func57,Try.ntmps57
 go_upto_region 1 with (first|((with_reducible refine gate_dst (N:=1) rfl ?_);refine bx_ (N:=1) #[.int .i64 L,.slice Z D.length aa,.int .i64 U,.int .i64 X,.int .i64 Y] 82 ?_;intro bw hg w3 hbox hb;have I:=ak hbox;have cr:=gy hg HB;replace HB:=bs HB hb;clear hb hbox hg))
 (try simp only[Act.put,List.setIfInBounds_toArray,List.set_cons_zero,List.set_cons_succ])
 go_cut [12] (fun cn wc=>∃(kq:Nat)(ac:Bool),cn = .bool ac∧Aside0 (spec_ValueOfResource.j0 kq ac L D U X Y=some r)∧Aside0 (kq≤k)∧Aside0 (wc.heap[bw]?=some (.cells #[.int .i64 L,(.slice Z D.length aa),.int .i64 U,.int .i64 X,.int .i64 Y] 82 (0,0)))∧Aside0 (Below w.heap.size w wc))
 case first =>
  have H:=b0.out;clear b0;replace H:=Option.bind_eq_some_iff.mp H;obtain⟨b9,b6,H⟩:=H;(try dsimp only at H);have A4:=ak b6;clear b6
  by_cases c5:b9=true
  ·subst c5;rw[if_pos rfl] at H;have H':=ak H;clear H;obtain⟨ah,ai,aj,al,am,ao,ap,aq,ar,au⟩:=bc5 I;go_wp2_with (first|((with_reducible refine gate_callee (f:=81) rfl ?_);refine goesL_ (some 6) rfl rfl Try.func81 KR rfl #[.agg #[.int .i64 L,.slice Z D.length aa,.int .i64 U,.int .i64 X,.int .i64 Y]] rfl AR ?_;(with_reducible refine(spec_IsResource.calls k L _ _ D U X Y true _ ?side1 ?side2 A4.out).mono ?_);(case side1=>exact CR (Kd.C_below ag.out HB.out));(case side2=>exact bv.out);rintro e w7 ⟨rfl,hb⟩;refine⟨_,rfl,?_⟩;replace I:=kf I hb;replace HB:=bs HB hb;clear hb;obtain⟨av,aw,ax,ay,az,a9,ba,bb,bc,bd⟩:=bc5 I))
   go_meet
   case rel=>exact⟨_,(decide (L > 2)),FR,H',⟨by first|omega | exact Nat.le_refl _⟩,⟨PK I⟩,⟨PB⟩⟩
  ·replace c5:=Bool.eq_false_iff.mpr c5;subst c5;rw[if_neg (show ¬(false=true) by decide)] at H;have H':=ak H;clear H;obtain⟨be,bf,bg,bh,bi,bj,bk,bl,bm,bn⟩:=bc5 I;go_wp2_with (first|((with_reducible refine gate_callee (f:=81) rfl ?_);refine goesL_ (some 6) rfl rfl Try.func81 KR rfl #[.agg #[.int .i64 L,.slice Z D.length aa,.int .i64 U,.int .i64 X,.int .i64 Y]] rfl AR ?_;(with_reducible refine(spec_IsResource.calls k L _ _ D U X Y false _ ?side1 ?side2 A4.out).mono ?_);(case side1=>exact CR (Kd.C_below ag.out HB.out));(case side2=>exact bv.out);rintro e cz ⟨rfl,hb⟩;refine⟨_,rfl,?_⟩;replace I:=kf I hb;replace HB:=bs HB hb;clear hb))
   go_meet
   case rel=>exact⟨_,(true),FR,H',⟨by first|omega | exact Nat.le_refl _⟩,⟨PK I⟩,⟨PB⟩⟩
 case rest =>
  clear b0;(try clear p2);(try clear c5);(try clear c8);(try clear ah);(try clear ai);(try clear aj);(try clear al);(try clear am);(try clear av);(try clear aw);(try clear ax);(try clear ay);(try clear az);(try clear be);(try clear bf);(try clear bg);(try clear bh);(try clear bi);(try clear ao);(try clear ap);(try clear aq);(try clear ar);(try clear au);(try clear a9);(try clear ba);(try clear bb);(try clear bc);(try clear bd);(try clear bj);(try clear bk);(try clear bl);(try clear bm);(try clear bn);obtain⟨kq,ac,rfl,HA,b7,I,HB⟩:=hcut
  cases kq with
  | zero=>exact absurd HA.out (by simp[spec_ValueOfResource.j0])
  | succ kj1 =>
   have H:=HA.out;clear HA;simp only[spec_ValueOfResource.j0] at H
   by_cases bo:ac=true
   ·subst bo;rw[if_pos rfl] at H;obtain rfl:=Option.some.inj H;go_wp2
    go_ret
    exact⟨RT,PB⟩
   ·replace bo:=Bool.eq_false_iff.mpr bo;subst bo;rw[if_neg (show ¬(false=true) by decide)] at H;have H':=ak H;clear H;go_wp2
    go_loopg [3,4] kj1 (fun kq v3 v4 w'=>∃(ab:Int)(J:Int),v3 = .int .i64 ab∧v4 = .int .i64 J∧Aside0 (spec_ValueOfResource.l0 kq ab J L D U X Y=some r)∧Aside0 (kq≤kj1)∧Aside0 (w'.heap[bw]?=some (.cells #[.int .i64 L,(.slice Z D.length aa),.int .i64 U,.int .i64 X,.int .i64 Y] 82 (0,0)))∧Aside0 (Below w.heap.size w w'))
    case atStart=>exact⟨(0),(0),FR,FR,H',⟨Nat.le_refl _⟩,⟨PK I⟩,⟨PB⟩⟩
    case round =>
     clear H';(try clear c1);(try clear p2);(try clear c5);(try clear c8);(try clear bo);(try clear ah);(try clear ai);(try clear aj);(try clear al);(try clear am);(try clear av);(try clear aw);(try clear ax);(try clear ay);(try clear az);(try clear be);(try clear bf);(try clear bg);(try clear bh);(try clear bi);(try clear ao);(try clear ap);(try clear aq);(try clear ar);(try clear au);(try clear a9);(try clear ba);(try clear bb);(try clear bc);(try clear bd);(try clear bj);(try clear bk);(try clear bl);(try clear bm);(try clear bn);(try clear p2);obtain⟨ab,J,rfl,rfl,HA,b8,I,HB⟩:=hrel
     cases gk with
     | zero=>exact absurd HA.out (by simp[spec_ValueOfResource.l0])
     | succ k2 =>
      have H:=HA.out;clear HA;simp only[spec_ValueOfResource.l0] at H
      by_cases ae:J < (D.length:Int)
      ·rw[if_pos ae] at H;have b5:decide (J < (D.length:Int))=true:=decide_eq_true ae;clear ae
       by_cases bx:0≤J
       ·rw[if_pos bx] at H;have ct:decide (0≤J)=true:=decide_eq_true bx;clear bx;have H':=ak H;clear H;obtain⟨_,_,_,_,_,_,_,_,_,_⟩:=bc5 I;have bp:0≤(J:Int):=od;have br:J < (D.length:Int):=od;obtain⟨cu,ca,af⟩:=Kd.at_int ag.out J bp br;cases ca;replace af:=hx_ HB af;replace bp:=eq_true bp;replace br:=eq_true br;go_wp2
        go_roundg k2
        case measure=>have:=b7.out;have:=b8.out;omega
        case rel=>exact⟨(Int.tmod (wrap64 (ab+(rd D J))) 1000),(wrap64 (J+1)),FR,FR,H',⟨by have:=b7.out;have:=b8.out;omega⟩,⟨PK I⟩,⟨PB⟩⟩
       ·rw[if_neg bx] at H;exact absurd H (by simp)
      ·rw[if_neg ae] at H;have b5:decide (J < (D.length:Int))=false:=decide_eq_false ae;clear ae;replace H:=Option.bind_eq_some_iff.mp H;obtain⟨cb,b4,H⟩:=H;(try dsimp only at H);have cq:=ak b4;clear b4;obtain rfl:=Option.some.inj H;obtain⟨cd,ce,cf,cg,ch,ci,cj,ck,cl,cm⟩:=bc5 I;go_wp2_with (first|((with_reducible refine gate_callee (f:=58) rfl ?_);refine goesL_ (some 30) rfl rfl Try.func58 KR rfl #[.int .i64 999,.int .i64 (wrap64 (ab+1))] rfl AR ?_;(with_reducible refine(spec_Min.calls 999 (wrap64 (ab+1)) cb _ cq.out).mono ?_);rintro e w' ⟨rfl,⟨nd,rfl⟩⟩;refine⟨_,rfl,?_⟩))
       go_ret
       exact⟨RT,PB⟩

/-! ### spec_Mod: function 59 -/
def spec_Mod.f (J:Int)(D:Int):Option (Int):=(spec_l1In.f D 1 1000000000000).bind fun I=>(if I=true then(if D=0 then(none) else(some (Int.tmod (wrap64 ((Int.tmod J D)+D)) D))) else(some 0))
theorem spec_Mod.calls (X:Int)(D:Int)(r:Int)(w:World)(h:spec_Mod.f X D=some r) :
  Calls Try.prog 59 #[.int .i64 X,.int .i64 D] w fun e w'=>e = .returned (.int .i64 r)∧Drawn0 w w':=by
 have H:=h;clear h;unfold spec_Mod.f at H;replace H:=Option.bind_eq_some_iff.mp H;obtain⟨U,L,H⟩:=H;(try dsimp only at H);have Y:=ak L;clear L
 by_cases I:U=true
 ·subst I;rw[if_pos rfl] at H
  by_cases J:D=0
  ·rw[if_pos J] at H;exact absurd H (by simp)
  ·rw[if_neg J] at H;have Z:(D == 0)=false:=beq_eq_false_iff_ne.mpr J;have aa:(D != 0)=true:=bne_iff_ne.mpr J;obtain rfl:=Option.some.inj H;go_enter Try.func59,Try.ntmps59;go_wp2_with (first|((with_reducible refine gate_callee (f:=52) rfl ?_);refine goesL_ (some 6) rfl rfl Try.func52 KR rfl #[.int .i64 D,.int .i64 1,.int .i64 1000000000000] rfl AR ?_;(with_reducible refine(spec_l1In.calls D 1 1000000000000 true _ Y.out).mono ?_);rintro e w' ⟨rfl,⟨nd,rfl⟩⟩;refine⟨_,rfl,?_⟩))
   go_ret
   exact⟨FR,by repeat(first|exact Drawn0.refl _ | apply Drawn0.step)⟩
 ·replace I:=Bool.eq_false_iff.mpr I;subst I;rw[if_neg (show ¬(false=true) by decide)] at H;obtain rfl:=Option.some.inj H;go_enter Try.func59,Try.ntmps59;go_wp2_with (first|((with_reducible refine gate_callee (f:=52) rfl ?_);refine goesL_ (some 6) rfl rfl Try.func52 KR rfl #[.int .i64 D,.int .i64 1,.int .i64 1000000000000] rfl AR ?_;(with_reducible refine(spec_l1In.calls D 1 1000000000000 false _ Y.out).mono ?_);rintro e w' ⟨rfl,⟨nd,rfl⟩⟩;refine⟨_,rfl,?_⟩))
  go_ret
  exact⟨FR,by repeat(first|exact Drawn0.refl _ | apply Drawn0.step)⟩

/-! ### spec_Hash: function 60 -/
def spec_Hash.l0:Nat→List Int→Int→Int→Option (Int)
  | 0,_,_,_=>none
  | k+1,I,L,D=>if D < (I.length:Int) then(if 0≤D then((spec_Mod.f (rd I D) 2147483647).bind fun J=>(spec_Hash.l0 k I (Int.tmod (wrap64 ((wrap64 ((wrap64 (L * 1000003))+J))+13)) 2147483647) (wrap64 (D+1)))) else(none)) else(some L)
def spec_Hash.f (k:Nat)(D:List Int):Option (Int):=spec_Hash.l0 k D 11 0
theorem spec_Hash.calls (k:Nat)(A0:Option Addr)(c0:Nat)(I:List Int)(r:Int)(w:World)(aa:Kd.C (Kd.int .i64) w A0 I.length I)(ab:I.length≤c0)(h:spec_Hash.f k I=some r) :
  Calls Try.prog 60 #[.slice A0 I.length c0] w fun e w'=>e = .returned (.int .i64 r)∧Drawn0 w w':=by
 have al:=ak aa;have au:=ak ab;clear aa ab;have H:=h;clear h;unfold spec_Hash.f at H;have H':=ak H;clear H;go_enter Try.func60,Try.ntmps60;go_wp2
 go_loopg [3,4] k (fun kq v3 v4 w'=>∃(J:Int)(D:Int),v3 = .int .i64 J∧v4 = .int .i64 D∧Aside0 (spec_Hash.l0 kq I J D=some r)∧Aside0 (kq≤k)∧Drawn0 w w')
 case atStart=>exact⟨(11),(0),FR,FR,H',⟨Nat.le_refl _⟩,by repeat(first|exact Drawn0.refl _ | apply Drawn0.step)⟩
 case round =>
  clear H';obtain⟨J,D,rfl,rfl,HA,ac,⟨m1,rfl⟩⟩:=hrel
  cases gk with
  | zero=>exact absurd HA.out (by simp[spec_Hash.l0])
  | succ k1 =>
   have H:=HA.out;clear HA;simp only[spec_Hash.l0] at H
   by_cases X:D < (I.length:Int)
   ·rw[if_pos X] at H;have af:decide (D < (I.length:Int))=true:=decide_eq_true X;clear X
    by_cases Z:0≤D
    ·rw[if_pos Z] at H;have aq:decide (0≤D)=true:=decide_eq_true Z;clear Z;replace H:=Option.bind_eq_some_iff.mp H;obtain⟨Y,ae,H⟩:=H;(try dsimp only at H);have A4:=ak ae;clear ae;have H':=ak H;clear H;have L:0≤(D:Int):=od;have U:D < (I.length:Int):=od;obtain⟨am,ag,ah⟩:=Kd.at_int al.out D L U;cases ag;replace L:=eq_true L;replace U:=eq_true U;go_wp2_with (first|((with_reducible refine gate_callee (f:=59) rfl ?_);refine goesL_ (some 17) rfl rfl Try.func59 KR rfl #[.int .i64 (rd I D),.int .i64 2147483647] rfl AR ?_;(with_reducible refine(spec_Mod.calls (rd I D) 2147483647 Y _ A4.out).mono ?_);rintro e w' ⟨rfl,⟨nd,rfl⟩⟩;refine⟨_,rfl,?_⟩))
     go_roundg k1
     case measure=>have:=ac.out;omega
     case rel=>exact⟨(Int.tmod (wrap64 ((wrap64 ((wrap64 (J * 1000003))+Y))+13)) 2147483647),(wrap64 (D+1)),FR,FR,H',⟨by have:=ac.out;omega⟩,by repeat(first|exact Drawn0.refl _ | apply Drawn0.step)⟩
    ·rw[if_neg Z] at H;exact absurd H (by simp)
   ·rw[if_neg X] at H;have af:decide (D < (I.length:Int))=false:=decide_eq_false X;clear X;obtain rfl:=Option.some.inj H;go_wp2
    go_ret
    exact⟨FR,by repeat(first|exact Drawn0.refl _ | apply Drawn0.step)⟩

end Go.Proofs.Ythojdjnchhkafaa.MFnExactTraceVisit
