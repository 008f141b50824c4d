-- Written by a program of this session out of the translation's own print. Not trusted: Lean checks it.
import Derived.Test.YthojdjnchhkafaaShr2
import Derived.Test.YthojdjnchhkafaaMFnExactTraceVisitx0
import Derived.Test.YthojdjnchhkafaaMFnExactTraceVisitx17
import Derived.Test.YthojdjnchhkafaaMFnExactTraceVisitx14
import Derived.Test.YthojdjnchhkafaaMFnExactTraceVisitx13
namespace Go.Proofs.Ythojdjnchhkafaa.MFnExactTraceVisit
open Go.RowKit Go.Proofs.YthojdjnchhkafaaW.PrintWords Go.Proofs.YthojdjnchhkafaaW.PrintLast Go.Proofs.YthojdjnchhkafaaW.PrintMore
attribute [local go_sem] max2_int min2_int max_two min_two max_three min_three max_four min_four   -- for this text's walks alone
set_option linter.unusedVariables false
set_option maxHeartbeats 8000000
set_option maxRecDepth 100000
set_option linter.unusedSimpArgs false

/-! ### impl_FollowAt: function 73 -/
def impl_FollowAt.l0:Nat→List (S84)→Int→List (S73)→Int→List Int→Int→Int→Int→Option (Int×List Int×Int×Int×Int×(List (S73)))
  | 0,_,_,_,_,_,_,_,_=>none
  | k+1,x0,x2,Y,L,X,D,I,J=>if L=3 then(if (Y.length:Int)≤4 then((impl_Address_93.f k Y D I J).bind fun Z=>(if Z=true then(some (L,X,D,I,J,Y)) else(if Y.length < 5864062014805 then((impl_AnswerAt.f k x0 D I J x2).bind fun U=>(impl_FollowAt.l0 k x0 x2 (Y++[(⟨D,I,J⟩:S73)]) U.1 U.2.1 U.2.2.1 U.2.2.2.1 U.2.2.2.2)) else(none)))) else(some (L,X,D,I,J,Y))) else(some (L,X,D,I,J,Y))
def impl_FollowAt.f (k:Nat)(U:List (S84))(I:Int)(J:Int)(L:Int)(X:Int):Option (Int×List Int×Int×Int×Int×(List (S73))):=(impl_AnswerAt.f k U I J L X).bind fun D=>(impl_FollowAt.l0 k U X (([(⟨I,J,L⟩:S73)]:List (S73))) D.1 D.2.1 D.2.2.1 D.2.2.2.1 D.2.2.2.2)
theorem impl_FollowAt.calls (k:Nat)(A0:Option Addr)(c0:Nat)(l0:List (S84))(ab:Int)(ac:Int)(ae:Int)(a2:Int)(r1:Int)(r2:List Int)(r3:Int)(r4:Int)(r5:Int)(r6:List (S73))(w:World)(da:Kd.C k84 w A0 l0.length l0)(db:l0.length≤c0)(h:impl_FollowAt.f k l0 ab ac ae a2=some (r1,r2,r3,r4,r5,r6)) :
  Calls Try.prog 73 #[.slice A0 l0.length c0,.agg #[.int .i64 ab,.int .i64 ac,.int .i64 ae],.int .i64 a2] w fun e w'=>∃ dc de:Value,e = .returned (.tuple #[.agg #[.int .i64 r1,dc,.int .i64 r3,.int .i64 r4,.int .i64 r5],de])∧Kd.R (Kd.int .i64) 3 w' w.heap.size (fun _=>True) dc r2∧Kd.R k73 73 w' w.heap.size (fun _=>True) de r6∧Below w.heap.size w w':=by
 have ev:=Try.underlying73;have ew:=Try.underlying82;have df:=ak da;have dg:=ak db;clear da db;have HB:=ak (Below.refl w.heap.size w);have H:=h;clear h;unfold impl_FollowAt.f at H;replace H:=Option.bind_eq_some_iff.mp H;obtain⟨⟨bc,az,bd,be,bf⟩,dh,H⟩:=H;(try dsimp only at H);have A4:=ak dh;clear dh;obtain⟨b9,ax⟩:∃ y_:List (S73),y_=(([(⟨ab,ac,ae⟩:S73)]:List (S73))):=⟨_,rfl⟩
 replace H:(impl_FollowAt.l0 k l0 a2 b9 bc az bd be bf)=some (r1,r2,r3,r4,r5,r6):=by first|(rw[ax];with_reducible exact H)|(have H2_:=(Option.bind_some _ _).symm.trans H;rw[ax];with_reducible exact H2_)|exact H
 have bi:=ak ax;clear ax;have H':=ak H;clear H;go_enter Try.func73,Try.ntmps73;go_wp2_with (first|((with_reducible refine gate_dst (N:=4) rfl ?_);(try(refine gate_guard (by rfl) ?_;dsimp only));refine bx_ (N:=4) #[.int .i64 ab,.int .i64 ac,.int .i64 ae] 73 ?_;intro ap hg w5 hbox hb;have X:=ak hbox;have dy:=gy hg HB;replace HB:=bs HB hb;clear hb hbox hg)|((with_reducible refine gate_dst (N:=6) rfl ?_);(try(refine gate_guard (by rfl) ?_;dsimp only));refine bx_ (N:=6) #[.int .i64 0,.slice none 0 0,.int .i64 0,.int .i64 0,.int .i64 0] 82 ?_;intro au hg w6 hbox hb;have D:=ak hbox;have dz:=gy hg HB;replace HB:=bs HB hb;have am:=gm hg X;have ao:=gn hg X;replace X:=kf X hb;clear hb hbox hg;have ey:=am.out;have ez:=ao.out;obtain⟨ca,cb,cd,ce,cf,cg⟩:=bc3 X)|((with_reducible refine gate_callee (f:=92) rfl ?_);refine goesL_ (some 13) rfl rfl Try.func92 KR rfl #[.slice A0 l0.length c0,.agg #[.int .i64 ab,.int .i64 ac,.int .i64 ae],.int .i64 a2] rfl AR ?_;(with_reducible refine(impl_AnswerAt.calls k _ _ l0 ab ac ae a2 bc az bd be bf _ ?side1 ?side2 A4.out).mono ?_);(case side1=>exact CR (Kd.C_below df.out HB.out));(case side2=>exact dg.out);rintro e w9 ⟨e0,rfl,ho0,hb⟩;refine⟨_,rfl,?_⟩;have aq:=Rn0 ho0 HB;replace X:=kf X hb;replace D:=kf D hb;replace HB:=bs HB hb;clear hb ho0)|((with_reducible refine gate_dst (N:=8) rfl ?_);(try(refine gate_guard (by rfl) ?_;dsimp only));refine bx_ (N:=8) #[.int .i64 0,.slice none 0 0,.int .i64 0,.int .i64 0,.int .i64 0] 82 ?_;intro bj hg fd hbox hb;replace aq:=Rb aq hb;have Y:=ak hbox;have d0:=gy hg HB;replace HB:=bs HB hb;have ah:=gm hg X;have ai:=gn hg X;replace X:=kf X hb;have aj:=gm hg D;have al:=gn hg D;replace D:=kf D hb;clear hb hbox hg;have d5:=ai.out;have d6:=ah.out;have d7:=al.out;have d8:=aj.out;obtain⟨bn,bo,bp,br,bt,bu,bv,bw,bx,bz⟩:=bc5 Y;obtain⟨ch,ci,rfl⟩:=Kd.R_slice aq.out;obtain⟨b0,b4,b5,b6,b7,b8⟩:=bc3 X)|((with_reducible refine gate_dst (N:=15) rfl ?_);(try(refine gate_guard (by rfl) ?_;dsimp only));refine Kd.R_lit k73 _ 73 ?hg (N:=15) ?hd (xs:=([(⟨ab,ac,ae⟩:S73)]:List (S73))) (inner:=[.int .i64 ab,.int .i64 ac,.int .i64 ae]) (ok:=fun _=>True) (okp:=fun _=>True) ?hr ?hp (fun _ hk=>hk) trivial (Below.refl _ _) (Nat.le_refl _) (by simp) ?_;(case hd=>rfl);(case hg=>rfl);(case hr=>first|(go_simp;done)|(go_simp;rfl));(case hp=>exact(Reps.c3 (show Kd.M k73 _ _ _ (⟨ab,ac,ae⟩:S73) [.int .i64 ab,.int .i64 ac,.int .i64 ae] from(k73_mkM _ _ _ (⟨ab,ac,ae⟩:S73))) (Reps.none _ _)));intro e5 fe ho17 hb hg_ hnew_;clear hg_ hnew_;(first|rw[←bi.out] at ho17|(simp only[Int.reduceToNat] at ho17;rw[←bi.out] at ho17));replace aq:=ak (Kd.R_below (Re1 aq Y) hb);have ct:=ak (Kd.R_lower (Kd.R_newB ho17 (g:=ap) (o:=.cells #[.int .i64 ab,.int .i64 ac,.int .i64 ae] 73 (0,0)) (PF X)) (below_size PB));replace X:=kf X hb;replace D:=kf D hb;replace Y:=kp (cs':=#[.int .i64 bc,.slice ch az.length ci,.int .i64 bd,.int .i64 be,.int .i64 bf]) Y hb;replace HB:=bs HB hb;clear hb ho17))
 go_loopg [9] k (fun kq v9 w'=>∃(ag:List (S73))(Z:Int)(af:List Int)(I:Int)(J:Int)(L:Int)(ar:Value),Aside0 (impl_FollowAt.l0 kq l0 a2 ag Z af I J L=some (r1,r2,r3,r4,r5,r6))∧Aside0 (kq≤k)∧Aside0 (Kd.R k73 73 w' w.heap.size (fun k_=>k_≠ap) v9 ag)∧Aside0 (Kd.R (Kd.int .i64) 3 w' w.heap.size (fun _=>True) ar af)∧Aside0 (w'.heap[ap]?=some (.cells #[.int .i64 ab,.int .i64 ac,.int .i64 ae] 73 (0,0)))∧Aside0 (w'.heap[au]?=some (.cells #[.int .i64 0,(.slice none 0 0),.int .i64 0,.int .i64 0,.int .i64 0] 82 (0,0)))∧Aside0 (w'.heap[bj]?=some (.cells #[.int .i64 Z,ar,.int .i64 I,.int .i64 J,.int .i64 L] 82 (0,0)))∧Aside0 (Below w.heap.size w w'))
 case atStart=>exact⟨(b9),(bc),(az),(bd),(be),(bf),(.slice ch az.length ci),H',⟨Nat.le_refl _⟩,⟨RX ct.out FK⟩,⟨PR aq⟩,⟨PK X⟩,⟨PK D⟩,⟨PK Y⟩,⟨PB⟩⟩
 case round =>
  clear H';(try clear c1);(try clear p2);(try clear c3);(try clear c7);(try clear c9);(try clear ff);(try clear fg);(try clear bn);(try clear bo);(try clear bp);(try clear br);(try clear bt);(try clear b0);(try clear b4);(try clear b5);(try clear ca);(try clear cb);(try clear cd);(try clear bu);(try clear bv);(try clear bw);(try clear bx);(try clear bz);(try clear b6);(try clear b7);(try clear b8);(try clear ce);(try clear cf);(try clear cg);obtain⟨ag,Z,af,I,J,L,ar,HA,di,aa,U,X,D,Y,HB⟩:=hrel
  cases gk with
  | zero=>exact absurd HA.out (by simp[impl_FollowAt.l0])
  | succ k1 =>
   have H:=HA.out;clear HA;simp only[impl_FollowAt.l0] at H
   by_cases a9:Z=3
   ·rw[if_pos a9] at H;have cu:(Z == 3)=true:=beq_iff_eq.mpr a9;have cv:(Z != 3)=false:=bne_eq_false_iff_eq.mpr a9;clear a9
    by_cases bb:(ag.length:Int)≤4
    ·rw[if_pos bb] at H;have cw:decide ((ag.length:Int)≤4)=true:=decide_eq_true bb;have cx:decide (ag.length≤4)=true:=decide_eq_true (by omega);clear bb;replace H:=Option.bind_eq_some_iff.mp H;obtain⟨dk,cj,H⟩:=H;(try dsimp only at H);have dj:=ak cj;clear cj
     by_cases bk:dk=true
     ·subst bk;rw[if_pos rfl] at H;simp only[Option.some.injEq,Prod.mk.injEq] at H;obtain⟨rfl,rfl,rfl,rfl,rfl,rfl⟩:=H;have d9:=ai.out;have ea:=ah.out;have eb:=al.out;have ec:=aj.out;obtain⟨_,_,_,_,_,_,_,_,_,_⟩:=bc5 Y;obtain⟨e7,e8,rfl⟩:=Kd.R_slice aa.out;go_wp2_with (first|(go_at_call 93;(with_reducible refine(impl_Address_93.calls k1 _ _ ag I J L true _ ?side1 ?side2 dj.out).mono ?_);(case side1=>exact CR (rr aa));(case side2=>exact rl aa);rintro e fh ⟨rfl,hb⟩;replace aa:=Rb aa hb;replace U:=Rb U hb;replace X:=kf X hb;replace D:=kf D hb;replace Y:=kf Y hb;replace HB:=bs HB hb;clear hb;obtain⟨_,_,_,_,_,_,_,_,_,_⟩:=bc5 Y;have ed:=ao.out;have ee:=am.out;obtain⟨_,_,_,_,_,_,_,_,_,_⟩:=bc5 D;obtain⟨dl,dm,rfl⟩:=Kd.R_slice U.out));refine bodyPost_ret (results_ct rfl _ _ au 82 #[.int .i64 Z,.slice dl af.length dm,.int .i64 I,.int .i64 J,.int .i64 L] (0,0) _ rfl (PX D) Try.underlying82 rfl KR) rfl ?_;exact⟨_,_,RT,RX (Rt U.out D) (fun _ hk=>trivial),RX (Rt aa.out D) (fun _ hk=>trivial),PB⟩
     ·replace bk:=Bool.eq_false_iff.mpr bk;subst bk;rw[if_neg (show ¬(false=true) by decide)] at H
      by_cases bl:ag.length < 5864062014805
      ·rw[if_pos bl] at H;have cy:=ak bl;clear bl;obtain⟨ck,ay⟩:∃ y_:List (S73),y_=(ag++[(⟨I,J,L⟩:S73)]):=⟨_,rfl⟩
       replace H:((impl_AnswerAt.f k1 l0 I J L a2).bind fun av=>(impl_FollowAt.l0 k1 l0 a2 ck av.1 av.2.1 av.2.2.1 av.2.2.2.1 av.2.2.2.2))=some (r1,r2,r3,r4,r5,r6):=by first|(rw[ay];with_reducible exact H)|(have H2_:=(Option.bind_some _ _).symm.trans H;rw[ay];with_reducible exact H2_)|exact H
       have cz:=ak ay;clear ay;replace H:=Option.bind_eq_some_iff.mp H;obtain⟨⟨cl,bh,cm,cn,co⟩,cp,H⟩:=H;(try dsimp only at H);have dx:=ak cp;clear cp;have H':=ak H;clear H;have ef:=ai.out;have eg:=ah.out;have eh:=al.out;have ei:=aj.out;obtain⟨_,_,_,_,_,_,_,_,_,_⟩:=bc5 Y;obtain⟨dn,dp,rfl⟩:=Kd.R_slice aa.out;go_wp2_with (first|(go_at_call 93;(with_reducible refine(impl_Address_93.calls k1 _ _ ag I J L false _ ?side1 ?side2 dj.out).mono ?_);(case side1=>exact CR (rr aa));(case side2=>exact rl aa);rintro e fi ⟨rfl,hb⟩;replace aa:=Rb aa hb;replace U:=Rb U hb;replace X:=kf X hb;replace D:=kf D hb;replace Y:=kf Y hb;replace HB:=bs HB hb;clear hb;obtain⟨_,_,_,_,_,_,_,_,_,_⟩:=bc5 Y)|((with_reducible refine gate_builtin (b:=.append) (xs:=#[.tmp 31,.tmp 34]) rfl ?_);(try(refine gate_guard (by rfl) ?_;dsimp only));at_builtin;refine Kd.R_append k73 (w0:=w) w.heap.size rfl (.tmp 31) (.tmp 34) 94 73 (.agg #[(.int .i64 0),(.int .i64 0),(.int .i64 0)]) 24 rfl Try.underlying94 info73 rfl (by decide) (by omega) (.slice dn ag.length dp) ag (⟨I,J,L⟩:S73) [.int .i64 I,.int .i64 J,.int .i64 L] (fun k_=>k_≠ap) (fun _=>False) rfl rfl ?aP (fun _ hk=>hk.elim) ?aF ?aO ?aB ?aS ?aL ?_;(case aP=>exact k73_mkM _ _ _ (⟨I,J,L⟩:S73));(case aB=>exact PB);(case aF=>exact(fun k_ hk=>Kd.freshB (g:=ap) (o:=.cells #[.int .i64 ab,.int .i64 ac,.int .i64 ae] 73 (0,0)) (PK X) k_ hk));(case aO=>exact(PR aa));(case aS=>exact(below_size PB));(case aL=>have:=cy.out;omega);intro e9 fj ho hb hg hat;rw[←cz.out] at ho;replace U:=ak (Kd.R_over' (PR U) (Kd.R_typed (PR aa)) (by decide) hg);replace X:=ak (blk_grown (g:=ap) (o:=.cells #[.int .i64 ab,.int .i64 ac,.int .i64 ae] 73 (0,0)) (PK X) hg (Kd.R_away aa.out (fun _ hk=>hk)));replace D:=ak (blk_grown (g:=au) (o:=.cells #[.int .i64 0,.slice none 0 0,.int .i64 0,.int .i64 0,.int .i64 0] 82 (0,0)) (PK D) hg (Kd.R_ne aa.out D.out (by decide)));replace Y:=ak (blk_grown (g:=bj) (o:=.cells #[.int .i64 Z,ar,.int .i64 I,.int .i64 J,.int .i64 L] 82 (0,0)) (PK Y) hg (Kd.R_ne aa.out Y.out (by decide)));replace HB:=ak hb;have bg:=ak (ho);clear aa;clear ho hb hg hat;obtain⟨_,_,_,_,_,_,_,_,_,_⟩:=bc5 Y)|((with_reducible refine gate_callee (f:=92) rfl ?_);refine goesL_ (some 40) rfl rfl Try.func92 KR rfl #[.slice A0 l0.length c0,.agg #[.int .i64 I,.int .i64 J,.int .i64 L],.int .i64 a2] rfl AR ?_;(with_reducible refine(impl_AnswerAt.calls k1 _ _ l0 I J L a2 cl bh cm cn co _ ?side1 ?side2 dx.out).mono ?_);(case side1=>exact CR (Kd.C_below df.out HB.out));(case side2=>exact dg.out);rintro e fk ⟨fa,rfl,ho0,hb⟩;refine⟨_,rfl,?_⟩;replace bg:=Rb bg hb;have bm:=Rn1 ho0 HB U;replace U:=ak (Kd.R_elder' (PR U) (Kd.R_base ho0) hb);replace X:=kf X hb;replace D:=kf D hb;replace Y:=kf Y hb;replace HB:=bs HB hb;clear hb ho0;obtain⟨_,_,_,_,_,_,_,_,_,_⟩:=bc5 Y;obtain⟨dq,dr,rfl⟩:=Kd.R_slice bm.out))
       go_roundg k1
       case measure=>have:=di.out;omega
       case rel=>exact⟨(ck),(cl),(bh),(cm),(cn),(co),(.slice dq bh.length dr),H',⟨by have:=di.out;omega⟩,⟨Re1 bg Y⟩,⟨RX (Rt bm.out Y) (fun _ hk=>trivial)⟩,⟨PF X⟩,⟨PF D⟩,⟨PX Y⟩,⟨PB⟩⟩
      ·rw[if_neg bl] at H;exact absurd H (by simp)
    ·rw[if_neg bb] at H;have cw:decide ((ag.length:Int)≤4)=false:=decide_eq_false bb;have cx:decide (ag.length≤4)=false:=decide_eq_false (by omega);clear bb;simp only[Option.some.injEq,Prod.mk.injEq] at H;obtain⟨rfl,rfl,rfl,rfl,rfl,rfl⟩:=H;have ej:=ai.out;have ek:=ah.out;have el:=al.out;have em:=aj.out;obtain⟨_,_,_,_,_,_,_,_,_,_⟩:=bc5 Y;obtain⟨fb,fc,rfl⟩:=Kd.R_slice aa.out;have en:=ao.out;have eo:=am.out;obtain⟨_,_,_,_,_,_,_,_,_,_⟩:=bc5 D;obtain⟨dt,du,rfl⟩:=Kd.R_slice U.out;go_wp2;refine bodyPost_ret (results_ct rfl _ _ au 82 #[.int .i64 Z,.slice dt af.length du,.int .i64 I,.int .i64 J,.int .i64 L] (0,0) _ rfl (PX D) Try.underlying82 rfl KR) rfl ?_;exact⟨_,_,RT,RX (Rt U.out D) (fun _ hk=>trivial),RX (Rt aa.out D) (fun _ hk=>trivial),PB⟩
   ·rw[if_neg a9] at H;have cu:(Z == 3)=false:=beq_eq_false_iff_ne.mpr a9;have cv:(Z != 3)=true:=bne_iff_ne.mpr a9;simp only[Option.some.injEq,Prod.mk.injEq] at H;obtain⟨rfl,rfl,rfl,rfl,rfl,rfl⟩:=H;have ep:=ai.out;have eq:=ah.out;have er:=al.out;have es:=aj.out;obtain⟨_,_,_,_,_,_,_,_,_,_⟩:=bc5 Y;have et:=ao.out;have eu:=am.out;obtain⟨_,_,_,_,_,_,_,_,_,_⟩:=bc5 D;obtain⟨dv,dw,rfl⟩:=Kd.R_slice U.out;go_wp2;refine bodyPost_ret (results_ct rfl _ _ au 82 #[.int .i64 Z,.slice dv af.length dw,.int .i64 I,.int .i64 J,.int .i64 L] (0,0) _ rfl (PX D) Try.underlying82 rfl KR) rfl ?_;exact⟨_,_,RT,RX (Rt U.out D) (fun _ hk=>trivial),RX (Rt aa.out D) (fun _ hk=>trivial),PB⟩

/-! ### impl_hasBody: function 94 -/
def impl_hasBody.f (D:Int):Option (Bool):=if D=1 then(some true) else(some (D == 2))
theorem impl_hasBody.calls (D:Int)(r:Bool)(w:World)(h:impl_hasBody.f D=some r) :
  Calls Try.prog 94 #[.int .i64 D] w fun e w'=>e = .returned (.bool r)∧Drawn0 w w':=by
 have H:=h;clear h;unfold impl_hasBody.f at H
 by_cases I:D=1
 ·rw[if_pos I] at H;have J:(D == 1)=true:=beq_iff_eq.mpr I;have L:(D != 1)=false:=bne_eq_false_iff_eq.mpr I;clear I;obtain rfl:=Option.some.inj H;go_enter Try.func94,Try.ntmps94;go_wp2
  go_ret
  exact⟨FR,by repeat(first|exact Drawn0.refl _ | apply Drawn0.step)⟩
 ·rw[if_neg I] at H;have J:(D == 1)=false:=beq_eq_false_iff_ne.mpr I;have L:(D != 1)=true:=bne_iff_ne.mpr I;obtain rfl:=Option.some.inj H;go_enter Try.func94,Try.ntmps94;go_wp2
  go_ret
  exact⟨FR,by repeat(first|exact Drawn0.refl _ | apply Drawn0.step)⟩

/-! ### impl_ValueOfResource: function 74 -/
mutual
def impl_ValueOfResource.j0:Nat→Bool→Int→List Int→Int→Int→Int→Option (Int)
  | 0,_,_,_,_,_,_=>none
  | k+1,X,I,D,J,L,U=>if X=true then(some 0) else(impl_ValueOfResource.l0 k 0 D (D.length:Int) 0)
def impl_ValueOfResource.l0:Nat→Int→List Int→Int→Int→Option (Int)
  | 0,_,_,_,_=>none
  | k+1,J,I,L,D=>if D < L then(if 0≤D then(if D < (I.length:Int) then(impl_ValueOfResource.l0 k (wrap64 (J+(rd I D))) I L (wrap64 (D+1))) else(none)) else(none)) else(if (Int.tmod J 1000) < 999 then(some (wrap64 ((Int.tmod J 1000)+1))) else(some (Int.tmod J 1000)))
end
def impl_ValueOfResource.f (k:Nat)(D:Int)(I:List Int)(J:Int)(L:Int)(U:Int):Option (Int):=(impl_IsResource.f k D I J L U).bind fun X=>(if X=true then((impl_hasBody.f D).bind fun Y=>(impl_ValueOfResource.j0 k (!Y) D I J L U)) else(impl_ValueOfResource.j0 k true D I J L U))
theorem impl_ValueOfResource.calls (k:Nat)(L:Int)(Z:Option Addr)(aa:Nat)(D:List Int)(U:Int)(X:Int)(Y:Int)(r:Int)(w:World)(bu:Kd.C (Kd.int .i64) w Z D.length D)(bv:D.length≤aa)(h:impl_ValueOfResource.f k L D U X Y=some r) :
  Calls Try.prog 74 #[.agg #[.int .i64 L,.slice Z D.length aa,.int .i64 U,.int .i64 X,.int .i64 Y]] w fun e w'=>e = .returned (.int .i64 r)∧Below w.heap.size w w':=by
 have cz:=Try.underlying82;have av:=ak bu;have bw:=ak bv;clear bu bv;have HB:=ak (Below.refl w.heap.size w);have H:=h;clear h;unfold impl_ValueOfResource.f at H;have cg:=ak H;clear H;go_enter Try.func74,Try.ntmps74
 go_upto_region 1 with (first|((with_reducible refine gate_dst (N:=1) rfl ?_);refine bx_ (N:=1) #[.int .i64 L,.slice Z D.length aa,.int .i64 U,.int .i64 X,.int .i64 Y] 82 ?_;intro bx hg w3 hbox hb;have J:=ak hbox;have cv:=gy hg HB;replace HB:=bs HB hb;clear hb hbox hg))
 (try simp only[Act.put,List.setIfInBounds_toArray,List.set_cons_zero,List.set_cons_succ])
 go_cut [14] (fun cq wc=>∃(kq:Nat)(ac:Bool),cq = .bool ac∧Aside0 (impl_ValueOfResource.j0 kq ac L D U X Y=some r)∧Aside0 (kq≤k)∧Aside0 (wc.heap[bx]?=some (.cells #[.int .i64 L,(.slice Z D.length aa),.int .i64 U,.int .i64 X,.int .i64 Y] 82 (0,0)))∧Aside0 (Below w.heap.size w wc))
 case first =>
  have H:=cg.out;clear cg;replace H:=Option.bind_eq_some_iff.mp H;obtain⟨co,ck,H⟩:=H;(try dsimp only at H);have A4:=ak ck;clear ck
  by_cases c5:co=true
  ·subst c5;rw[if_pos rfl] at H;replace H:=Option.bind_eq_some_iff.mp H;obtain⟨ch,cl,H⟩:=H;(try dsimp only at H);have A6:=ak cl;clear cl;have H':=ak H;clear H;obtain⟨aw,ax,ay,az,a9,ba,bb,bc,bd,be⟩:=bc5 J;go_wp2_with (first|((with_reducible refine gate_callee (f:=90) rfl ?_);refine goesL_ (some 7) rfl rfl Try.func90 KR rfl #[.agg #[.int .i64 L,.slice Z D.length aa,.int .i64 U,.int .i64 X,.int .i64 Y]] rfl AR ?_;(with_reducible refine(impl_IsResource.calls k L _ _ D U X Y true _ ?side1 ?side2 A4.out).mono ?_);(case side1=>exact CR (Kd.C_below av.out HB.out));(case side2=>exact bw.out);rintro e w8 ⟨rfl,hb⟩;refine⟨_,rfl,?_⟩;replace J:=kf J hb;replace HB:=bs HB hb;clear hb;obtain⟨bf,bg,bh,bi,bj,bk,bl,bm,bn,bo⟩:=bc5 J)|(go_at_call 94;(with_reducible refine(impl_hasBody.calls L ch _ A6.out).mono ?_);rintro e w' ⟨rfl,⟨nd,rfl⟩⟩))
   go_meet
   case rel=>exact⟨_,(!ch),FR,H',⟨by first|omega | exact Nat.le_refl _⟩,⟨PK J⟩,⟨PB⟩⟩
  ·replace c5:=Bool.eq_false_iff.mpr c5;subst c5;rw[if_neg (show ¬(false=true) by decide)] at H;have H':=ak H;clear H;obtain⟨ae,af,ag,ah,ai,aj,al,am,ao,ap⟩:=bc5 J;go_wp2_with (first|((with_reducible refine gate_callee (f:=90) rfl ?_);refine goesL_ (some 7) rfl rfl Try.func90 KR rfl #[.agg #[.int .i64 L,.slice Z D.length aa,.int .i64 U,.int .i64 X,.int .i64 Y]] rfl AR ?_;(with_reducible refine(impl_IsResource.calls k L _ _ D U X Y false _ ?side1 ?side2 A4.out).mono ?_);(case side1=>exact CR (Kd.C_below av.out HB.out));(case side2=>exact bw.out);rintro e df ⟨rfl,hb⟩;refine⟨_,rfl,?_⟩;replace J:=kf J hb;replace HB:=bs HB hb;clear hb))
   go_meet
   case rel=>exact⟨_,(true),FR,H',⟨by first|omega | exact Nat.le_refl _⟩,⟨PK J⟩,⟨PB⟩⟩
 case rest =>
  clear cg;(try clear p2);(try clear c5);(try clear c7);(try clear c9);(try clear ae);(try clear af);(try clear ag);(try clear ah);(try clear ai);(try clear aw);(try clear ax);(try clear ay);(try clear az);(try clear a9);(try clear bf);(try clear bg);(try clear bh);(try clear bi);(try clear bj);(try clear aj);(try clear al);(try clear am);(try clear ao);(try clear ap);(try clear ba);(try clear bb);(try clear bc);(try clear bd);(try clear be);(try clear bk);(try clear bl);(try clear bm);(try clear bn);(try clear bo);obtain⟨kq,ac,rfl,HA,cm,J,HB⟩:=hcut
  cases kq with
  | zero=>exact absurd HA.out (by simp[impl_ValueOfResource.j0])
  | succ kj1 =>
   have H:=HA.out;clear HA;simp only[impl_ValueOfResource.j0] at H
   by_cases bp:ac=true
   ·subst bp;rw[if_pos rfl] at H;obtain rfl:=Option.some.inj H;go_wp2
    go_ret
    exact⟨RT,PB⟩
   ·replace bp:=Bool.eq_false_iff.mpr bp;subst bp;rw[if_neg (show ¬(false=true) by decide)] at H;have H':=ak H;clear H;obtain⟨b5,b6,b7,b8,b9,ca,cb,cd,ce,cf⟩:=bc5 J;go_wp2
    go_loopg [3,18] kj1 (fun kq v3 cu w'=>∃(ab:Int)(I:Int),v3 = .int .i64 ab∧cu = .int .i64 I∧Aside0 (impl_ValueOfResource.l0 kq ab D (D.length:Int) I=some r)∧Aside0 (kq≤kj1)∧Aside0 (w'.heap[bx]?=some (.cells #[.int .i64 L,(.slice Z D.length aa),.int .i64 U,.int .i64 X,.int .i64 Y] 82 (0,0)))∧Aside0 (Below w.heap.size w w'))
    case atStart=>exact⟨(0),(0),FR,FR,H',⟨Nat.le_refl _⟩,⟨PK J⟩,⟨PB⟩⟩
    case round =>
     clear H';(try clear c1);(try clear p2);(try clear c5);(try clear c7);(try clear c9);(try clear bp);(try clear ae);(try clear af);(try clear ag);(try clear ah);(try clear ai);(try clear b5);(try clear b6);(try clear b7);(try clear b8);(try clear b9);(try clear aw);(try clear ax);(try clear ay);(try clear az);(try clear a9);(try clear bf);(try clear bg);(try clear bh);(try clear bi);(try clear bj);(try clear aj);(try clear al);(try clear am);(try clear ao);(try clear ap);(try clear ca);(try clear cb);(try clear cd);(try clear ce);(try clear cf);(try clear ba);(try clear bb);(try clear bc);(try clear bd);(try clear be);(try clear bk);(try clear bl);(try clear bm);(try clear bn);(try clear bo);(try clear p2);obtain⟨ab,I,rfl,rfl,HA,cn,J,HB⟩:=hrel
     cases gk with
     | zero=>exact absurd HA.out (by simp[impl_ValueOfResource.l0])
     | succ k2 =>
      have H:=HA.out;clear HA;simp only[impl_ValueOfResource.l0] at H
      by_cases aq:I < (D.length:Int)
      ·rw[if_pos aq] at H;have ci:decide (I < (D.length:Int))=true:=decide_eq_true aq;clear aq
       by_cases bz:0≤I
       ·rw[if_pos bz] at H;have cw:decide (0≤I)=true:=decide_eq_true bz;clear bz
        by_cases b0:I < (D.length:Int)
        ·rw[if_pos b0] at H;have cx:decide (I < (D.length:Int))=true:=decide_eq_true b0;clear b0;have H':=ak H;clear H;have br:0≤(I:Int):=od;have bt:I < (D.length:Int):=od;obtain⟨cy,cp,ar⟩:=Kd.at_int av.out I br bt;cases cp;replace ar:=hx_ HB ar;replace br:=eq_true br;replace bt:=eq_true bt;go_wp2
         go_roundg k2
         case measure=>have:=cm.out;have:=cn.out;omega
         case rel=>exact⟨(wrap64 (ab+(rd D I))),(wrap64 (I+1)),FR,FR,H',⟨by have:=cm.out;have:=cn.out;omega⟩,⟨PK J⟩,⟨PB⟩⟩
        ·rw[if_neg b0] at H;exact absurd H (by simp)
       ·rw[if_neg bz] at H;exact absurd H (by simp)
      ·rw[if_neg aq] at H;have ci:decide (I < (D.length:Int))=false:=decide_eq_false aq;clear aq
       by_cases au:(Int.tmod ab 1000) < 999
       ·rw[if_pos au] at H;have cj:decide ((Int.tmod ab 1000) < 999)=true:=decide_eq_true au;clear au;obtain rfl:=Option.some.inj H;go_wp2
        go_ret
        exact⟨RT,PB⟩
       ·rw[if_neg au] at H;have cj:decide ((Int.tmod ab 1000) < 999)=false:=decide_eq_false au;clear au;obtain rfl:=Option.some.inj H;go_wp2
        go_ret
        exact⟨RT,PB⟩

/-! ### impl_Mod: function 75 -/
def impl_Mod.f (J:Int)(D:Int):Option (Int):=(impl_InRange.f D 1 1000000000000).bind fun I=>(if I=true then(if D=0 then(none) else(some (Int.tmod (wrap64 ((Int.tmod J D)+D)) D))) else(some 0))
theorem impl_Mod.calls (X:Int)(D:Int)(r:Int)(w:World)(h:impl_Mod.f X D=some r) :
  Calls Try.prog 75 #[.int .i64 X,.int .i64 D] w fun e w'=>e = .returned (.int .i64 r)∧Drawn0 w w':=by
 have H:=h;clear h;unfold impl_Mod.f at H;replace H:=Option.bind_eq_some_iff.mp H;obtain⟨U,L,H⟩:=H;(try dsimp only at H);have Y:=ak L;clear L
 by_cases I:U=true
 ·subst I;rw[if_pos rfl] at H
  by_cases J:D=0
  ·rw[if_pos J] at H;exact absurd H (by simp)
  ·rw[if_neg J] at H;have Z:(D == 0)=false:=beq_eq_false_iff_ne.mpr J;have aa:(D != 0)=true:=bne_iff_ne.mpr J;obtain rfl:=Option.some.inj H;go_enter Try.func75,Try.ntmps75;go_wp2_with (first|((with_reducible refine gate_callee (f:=69) rfl ?_);refine goesL_ (some 6) rfl rfl Try.func69 KR rfl #[.int .i64 D,.int .i64 1,.int .i64 1000000000000] rfl AR ?_;(with_reducible refine(impl_InRange.calls D 1 1000000000000 true _ Y.out).mono ?_);rintro e w' ⟨rfl,⟨nd,rfl⟩⟩;refine⟨_,rfl,?_⟩))
   go_ret
   exact⟨FR,by repeat(first|exact Drawn0.refl _ | apply Drawn0.step)⟩
 ·replace I:=Bool.eq_false_iff.mpr I;subst I;rw[if_neg (show ¬(false=true) by decide)] at H;obtain rfl:=Option.some.inj H;go_enter Try.func75,Try.ntmps75;go_wp2_with (first|((with_reducible refine gate_callee (f:=69) rfl ?_);refine goesL_ (some 6) rfl rfl Try.func69 KR rfl #[.int .i64 D,.int .i64 1,.int .i64 1000000000000] rfl AR ?_;(with_reducible refine(impl_InRange.calls D 1 1000000000000 false _ Y.out).mono ?_);rintro e w' ⟨rfl,⟨nd,rfl⟩⟩;refine⟨_,rfl,?_⟩))
  go_ret
  exact⟨FR,by repeat(first|exact Drawn0.refl _ | apply Drawn0.step)⟩

/-! ### impl_Hash: function 76 -/
def impl_Hash.l0:Nat→Int→List Int→Int→Int→Option (Int)
  | 0,_,_,_,_=>none
  | k+1,L,I,U,D=>if D < U then(if 0≤D then(if D < (I.length:Int) then((impl_Mod.f (rd I D) 2147483647).bind fun J=>(impl_Hash.l0 k (Int.tmod (wrap64 ((wrap64 ((wrap64 (L * 1000003))+J))+13)) 2147483647) I U (wrap64 (D+1)))) else(none)) else(none)) else(some L)
def impl_Hash.f (k:Nat)(D:List Int):Option (Int):=impl_Hash.l0 k 11 D (D.length:Int) 0
theorem impl_Hash.calls (k:Nat)(A0:Option Addr)(c0:Nat)(I:List Int)(r:Int)(w:World)(ab:Kd.C (Kd.int .i64) w A0 I.length I)(ac:I.length≤c0)(h:impl_Hash.f k I=some r) :
  Calls Try.prog 76 #[.slice A0 I.length c0] w fun e w'=>e = .returned (.int .i64 r)∧Drawn0 w w':=by
 have am:=ak ab;have aw:=ak ac;clear ab ac;have H:=h;clear h;unfold impl_Hash.f at H;have H':=ak H;clear H;go_enter Try.func76,Try.ntmps76;go_wp2
 go_loopg [3,8] k (fun kq v3 v8 w'=>∃(J:Int)(D:Int),v3 = .int .i64 J∧v8 = .int .i64 D∧Aside0 (impl_Hash.l0 kq J I (I.length:Int) D=some r)∧Aside0 (kq≤k)∧Drawn0 w w')
 case atStart=>exact⟨(11),(0),FR,FR,H',⟨Nat.le_refl _⟩,by repeat(first|exact Drawn0.refl _ | apply Drawn0.step)⟩
 case round =>
  clear H';obtain⟨J,D,rfl,rfl,HA,ae,⟨m1,rfl⟩⟩:=hrel
  cases gk with
  | zero=>exact absurd HA.out (by simp[impl_Hash.l0])
  | succ k1 =>
   have H:=HA.out;clear HA;simp only[impl_Hash.l0] at H
   by_cases X:D < (I.length:Int)
   ·rw[if_pos X] at H;have ag:decide (D < (I.length:Int))=true:=decide_eq_true X;clear X
    by_cases Z:0≤D
    ·rw[if_pos Z] at H;have ar:decide (0≤D)=true:=decide_eq_true Z;clear Z
     by_cases c4:D < (I.length:Int)
     ·rw[if_pos c4] at H;have au:decide (D < (I.length:Int))=true:=decide_eq_true c4;clear c4;replace H:=Option.bind_eq_some_iff.mp H;obtain⟨Y,af,H⟩:=H;(try dsimp only at H);have A5:=ak af;clear af;have H':=ak H;clear H;have L:0≤(D:Int):=od;have U:D < (I.length:Int):=od;obtain⟨ao,ah,ai⟩:=Kd.at_int am.out D L U;cases ah;replace L:=eq_true L;replace U:=eq_true U;go_wp2_with (first|((with_reducible refine gate_callee (f:=75) rfl ?_);refine goesL_ (some 15) rfl rfl Try.func75 KR rfl #[.int .i64 (rd I D),.int .i64 2147483647] rfl AR ?_;(with_reducible refine(impl_Mod.calls (rd I D) 2147483647 Y _ A5.out).mono ?_);rintro e w' ⟨rfl,⟨nd,rfl⟩⟩;refine⟨_,rfl,?_⟩))
      go_roundg k1
      case measure=>have:=ae.out;omega
      case rel=>exact⟨(Int.tmod (wrap64 ((wrap64 ((wrap64 (J * 1000003))+Y))+13)) 2147483647),(wrap64 (D+1)),FR,FR,H',⟨by have:=ae.out;omega⟩,by repeat(first|exact Drawn0.refl _ | apply Drawn0.step)⟩
     ·rw[if_neg c4] at H;exact absurd H (by simp)
    ·rw[if_neg Z] at H;exact absurd H (by simp)
   ·rw[if_neg X] at H;have ag:decide (D < (I.length:Int))=false:=decide_eq_false X;clear X;obtain rfl:=Option.some.inj H;go_wp2
    go_ret
    exact⟨FR,by repeat(first|exact Drawn0.refl _ | apply Drawn0.step)⟩

end Go.Proofs.Ythojdjnchhkafaa.MFnExactTraceVisit
