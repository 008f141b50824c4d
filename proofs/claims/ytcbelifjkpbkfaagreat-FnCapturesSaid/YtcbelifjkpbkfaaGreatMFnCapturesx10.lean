import Derived.Test.YtcbelifjkpbkfaaGreatShr2
import Derived.Test.YtcbelifjkpbkfaaGreatMFnCapturesx0
import Derived.Test.YtcbelifjkpbkfaaGreatMFnCapturesx8
import Derived.Test.YtcbelifjkpbkfaaGreatMFnCapturesx9
import Derived.Test.YtcbelifjkpbkfaaGreatMFnCapturesx1
import Derived.Test.YtcbelifjkpbkfaaGreatMFnCapturesx7
namespace Go.Proofs.YtcbelifjkpbkfaaGreat.MFnCaptures
open Go.RowKit Go.Proofs.YtcbelifjkpbkfaaGreatW.PrintWords Go.Proofs.YtcbelifjkpbkfaaGreatW.PrintLast Go.Proofs.YtcbelifjkpbkfaaGreatW.PrintMore
attribute [local go_sem] max2_int min2_int max_two min_two max_three min_three max_four min_four
set_option linter.unusedVariables false
set_option maxHeartbeats 8000000
set_option maxRecDepth 100000
set_option linter.unusedSimpArgs false

mutual
def impl_ValueOfResource.j0:Nat→Bool→Int→List Int→Int→Int→Int→Option (Int)
  | 0,_,_,_,_,_,_=>none
  | k+1,Z,J,D,U,X,Y=>if Z=true then(some 0) else(impl_ValueOfResource.l0 k 0 D (D.length:Int) 0)
def impl_ValueOfResource.l0:Nat→Int→List Int→Int→Int→Option (Int)
  | 0,_,_,_,_=>none
  | k+1,U,J,X,D=>if D < X then(if 0≤D then(if D < (J.length:Int) then(impl_ValueOfResource.l0 k (wrap64 (U+(rd J D))) J X (wrap64 (D+1))) else(none)) else(none)) else(if (Int.tmod U 1000) < 999 then(some (wrap64 ((Int.tmod U 1000)+1))) else(some (Int.tmod U 1000)))
end
def impl_ValueOfResource.f (k:Nat)(D:Int)(J:List Int)(U:Int)(X:Int)(Y:Int):Option (Int):=(impl_IsResource.f k D J U X Y).bind fun Z=>(if Z=true then((impl_hasBody.f D).bind fun aa=>(impl_ValueOfResource.j0 k (!aa) D J U X Y)) else(impl_ValueOfResource.j0 k true D J U X Y))
theorem impl_ValueOfResource.calls (k:Nat)(X:Int)(ab:Option Addr)(ac:Nat)(D:List Int)(Y:Int)(Z:Int)(aa:Int)(r:Int)(w:World)(b4:Kd.C (Kd.int .i64) w ab D.length D)(b5:D.length≤ac)(h:impl_ValueOfResource.f k X D Y Z aa=some r) :
  Calls Tryz.prog 8 #[.agg #[.int .i64 X,.slice ab D.length ac,.int .i64 Y,.int .i64 Z,.int .i64 aa]] w fun e w'=>e = .returned (.int .i64 r)∧Below w.heap.size w w':=by
 have dg:=Tryz.underlying43;have ax:=ak b4;have b6:=ak b5;clear b4 b5;have HB:=ak (Below.refl w.heap.size w);have H:=h;clear h;unfold impl_ValueOfResource.f at H;have cm:=ak H;clear H;go_enter Tryz.func8,Tryz.ntmps8
 go_upto_region 1 with (first|((with_reducible refine gate_dst (N:=1) rfl ?_);refine bx_ (N:=1) #[.int .i64 X,.slice ab D.length ac,.int .i64 Y,.int .i64 Z,.int .i64 aa] 43 ?_;intro b7 hg w3 hbox hb;have U:=ak hbox;have db:=gy hg HB;replace HB:=bs HB hb;clear hb hbox hg))
 (try simp only[Act.put,List.setIfInBounds_toArray,List.set_cons_zero,List.set_cons_succ])
 go_cut [14] (fun cx wc=>∃(kq:Nat)(af:Bool),cx = .bool af∧Aside0 (impl_ValueOfResource.j0 kq af X D Y Z aa=some r)∧Aside0 (kq≤k)∧Aside0 (wc.heap[b7]?=some (.cells #[.int .i64 X,(.slice ab D.length ac),.int .i64 Y,.int .i64 Z,.int .i64 aa] 43 (0,0)))∧Aside0 (Below w.heap.size w wc))
 case first =>
  have H:=cm.out;clear cm;replace H:=Option.bind_eq_some_iff.mp H;obtain⟨cv,cq,H⟩:=H;(try dsimp only at H);have A4:=ak cq;clear cq
  by_cases c5:cv=true
  ·subst c5;rw[if_pos rfl] at H;replace H:=Option.bind_eq_some_iff.mp H;obtain⟨cn,cr,H⟩:=H;(try dsimp only at H);have A6:=ak cr;clear cr;have H':=ak H;clear H;obtain⟨ay,az,ba,bb,bc,bd,bf,bg,bh,bi⟩:=bc5 U;go_wp2_with (first|(go_at_call 22;(with_reducible refine(impl_IsResource.calls k X _ _ D Y Z aa true _ ?side1 b6.out A4.out).mono ?_);(case side1=>exact Cq ax);rintro e w8 ⟨rfl,hb⟩;replace U:=kf U hb;replace HB:=bs HB hb;clear hb;obtain⟨bj,bk,bl,bm,bo,bp,br,bu,bv,bw⟩:=bc5 U)|(go_at_call 23;(with_reducible refine(impl_hasBody.calls X cn _ A6.out).mono ?_);rintro e w' ⟨rfl,⟨nd,rfl⟩⟩))
   go_meet
   case rel=>exact⟨_,(!cn),FR,H',⟨by first|omega | exact Nat.le_refl _⟩,⟨PK U⟩,⟨PB⟩⟩
  ·replace c5:=Bool.eq_false_iff.mpr c5;subst c5;rw[if_neg (show ¬(false=true) by decide)] at H;have H':=ak H;clear H;obtain⟨ag,ah,ai,aj,al,am,ao,ap,aq,ar⟩:=bc5 U;go_wp2_with (first|(go_at_call 22;(with_reducible refine(impl_IsResource.calls k X _ _ D Y Z aa false _ ?side1 b6.out A4.out).mono ?_);(case side1=>exact Cq ax);rintro e dl ⟨rfl,hb⟩;replace U:=kf U hb;replace HB:=bs HB hb;clear hb))
   go_meet
   case rel=>exact⟨_,(true),FR,H',⟨by first|omega | exact Nat.le_refl _⟩,⟨PK U⟩,⟨PB⟩⟩
 case rest =>
  clear cm;(try clear c2);(try clear p2);(try clear c5);(try clear c8);(try clear ag);(try clear ah);(try clear ai);(try clear aj);(try clear al);(try clear ay);(try clear az);(try clear ba);(try clear bb);(try clear bc);(try clear bj);(try clear bk);(try clear bl);(try clear bm);(try clear bo);(try clear am);(try clear ao);(try clear ap);(try clear aq);(try clear ar);(try clear bd);(try clear bf);(try clear bg);(try clear bh);(try clear bi);(try clear bp);(try clear br);(try clear bu);(try clear bv);(try clear bw);obtain⟨kq,af,rfl,HA,ct,U,HB⟩:=hcut
  cases kq with
  | zero=>exact absurd HA.out (by simp[impl_ValueOfResource.j0])
  | succ kj1 =>
   have H:=HA.out;clear HA;simp only[impl_ValueOfResource.j0] at H
   by_cases bx:af=true
   ·subst bx;rw[if_pos rfl] at H;obtain rfl:=Option.some.inj H;go_wp2
    go_ret
    exact⟨RT,PB⟩
   ·replace bx:=Bool.eq_false_iff.mpr bx;subst bx;rw[if_neg (show ¬(false=true) by decide)] at H;have H':=ak H;clear H;obtain⟨cb,cd,ce,cf,cg,ch,ci,cj,ck,cl⟩:=bc5 U;go_wp2
    go_loopg [3,18] kj1 (fun kq v3 da w'=>∃(ae:Int)(J:Int),v3 = .int .i64 ae∧da = .int .i64 J∧Aside0 (impl_ValueOfResource.l0 kq ae D (D.length:Int) J=some r)∧Aside0 (kq≤kj1)∧Aside0 (w'.heap[b7]?=some (.cells #[.int .i64 X,(.slice ab D.length ac),.int .i64 Y,.int .i64 Z,.int .i64 aa] 43 (0,0)))∧Aside0 (Below w.heap.size w w'))
    case atStart=>exact⟨(0),(0),FR,FR,H',⟨Nat.le_refl _⟩,⟨PK U⟩,⟨PB⟩⟩
    case round =>
     clear H';(try clear c1);(try clear c2);(try clear p2);(try clear c5);(try clear c8);(try clear bx);(try clear ag);(try clear ah);(try clear ai);(try clear aj);(try clear al);(try clear cb);(try clear cd);(try clear ce);(try clear cf);(try clear cg);(try clear ay);(try clear az);(try clear ba);(try clear bb);(try clear bc);(try clear bj);(try clear bk);(try clear bl);(try clear bm);(try clear bo);(try clear am);(try clear ao);(try clear ap);(try clear aq);(try clear ar);(try clear ch);(try clear ci);(try clear cj);(try clear ck);(try clear cl);(try clear bd);(try clear bf);(try clear bg);(try clear bh);(try clear bi);(try clear bp);(try clear br);(try clear bu);(try clear bv);(try clear bw);(try clear p2);obtain⟨ae,J,rfl,rfl,HA,cu,U,HB⟩:=hrel
     cases gk with
     | zero=>exact absurd HA.out (by simp[impl_ValueOfResource.l0])
     | succ k2 =>
      have H:=HA.out;clear HA;simp only[impl_ValueOfResource.l0] at H
      by_cases au:J < (D.length:Int)
      ·rw[if_pos au] at H;have co:decide (J < (D.length:Int))=true:=decide_eq_true au;clear au
       by_cases b8:0≤J
       ·rw[if_pos b8] at H;have dc:decide (0≤J)=true:=decide_eq_true b8;clear b8
        by_cases b9:J < (D.length:Int)
        ·rw[if_pos b9] at H;have de:decide (J < (D.length:Int))=true:=decide_eq_true b9;clear b9;have H':=ak H;clear H;have bz:0≤(J:Int):=od;have b0:J < (D.length:Int):=od;obtain⟨df,cw,av⟩:=Kd.at_int ax.out J bz b0;cases cw;replace av:=hx_ HB av;replace bz:=eq_true bz;replace b0:=eq_true b0;go_wp2
         go_roundg k2
         case measure=>have:=ct.out;have:=cu.out;omega
         case rel=>exact⟨(wrap64 (ae+(rd D J))),(wrap64 (J+1)),FR,FR,H',⟨by have:=ct.out;have:=cu.out;omega⟩,⟨PK U⟩,⟨PB⟩⟩
        ·rw[if_neg b9] at H;exact absurd H (by simp)
       ·rw[if_neg b8] at H;exact absurd H (by simp)
      ·rw[if_neg au] at H;have co:decide (J < (D.length:Int))=false:=decide_eq_false au;clear au
       by_cases aw:(Int.tmod ae 1000) < 999
       ·rw[if_pos aw] at H;have cp:decide ((Int.tmod ae 1000) < 999)=true:=decide_eq_true aw;clear aw;obtain rfl:=Option.some.inj H;go_wp2
        go_ret
        exact⟨RT,PB⟩
       ·rw[if_neg aw] at H;have cp:decide ((Int.tmod ae 1000) < 999)=false:=decide_eq_false aw;clear aw;obtain rfl:=Option.some.inj H;go_wp2
        go_ret
        exact⟨RT,PB⟩
def slices_Clone_int_int.f (J:List Int):Option (List Int):=(some (([]:List Int):List Int)).bind fun D=>(if D.length+J.length < 17592186044416 then(some (D++J)) else(none))
theorem slices_Clone_int_int.calls (A0:Option Addr)(c0:Nat)(D:List Int)(r:List Int)(w:World)(ab:Kd.C (Kd.int .i64) w A0 D.length D)(ag:D.length≤c0)(h:slices_Clone_int_int.f D=some r) :
  Calls Tryz.prog 52 #[.slice A0 D.length c0] w fun e w'=>∃ ah:Value,e = .returned (ah)∧Kd.R (Kd.int .i64) 3 w' w.heap.size (fun _=>True) ah r∧Below w.heap.size w w':=by
 cases A0 with
 | none =>
  have hz_:D.length=0:=C_none_length ab;obtain rfl:D=[]:=List.eq_nil_of_length_eq_zero hz_
  obtain rfl:r=[]:=by
   have h2_:=h
   simp[slices_Clone_int_int.f] at h2_
   exact h2_
  have hnn_:∀ W,(binOp .eql 26 (.slice none 0 c0) (.slice none 0 0)).run Tryz.prog W = .ok (.bool true) W:=fun W=>eql_nil_none (P:=Tryz.prog) W 26 3 0 c0 Tryz.underlying26
  go_enter Tryz.func52,Tryz.ntmps52;go_wp2
  go_ret
  exact⟨_,rfl,Kd.R_nil _ _ _ _ _,Below.refl _ _⟩
 | some ad_ =>
  have hnn_:∀ W,(binOp .eql 26 (.slice (some ad_) D.length c0) (.slice none 0 0)).run Tryz.prog W = .ok (.bool false) W:=fun W=>eql_nil_some (P:=Tryz.prog) W 26 3 ad_ D.length c0 Tryz.underlying26
  have ao:=ak ab;have aq:=ak ag;clear ab ag;have HB:=ak (Below.refl w.heap.size w);have H:=h;clear h;unfold slices_Clone_int_int.f at H;obtain⟨X,J⟩:∃ y_:List Int,y_=(([]:List Int)):=⟨_,rfl⟩
  replace H:(if X.length+D.length < 17592186044416 then(some (X++D)) else(none))=some r:=by first|(rw[J];with_reducible exact H)|(have H2_:=(Option.bind_some _ _).symm.trans H;rw[J];with_reducible exact H2_)|exact H
  have Y:=ak J;clear J
  by_cases c2:X.length+D.length < 17592186044416
  ·rw[if_pos c2] at H;have aj:=ak c2;clear c2;obtain⟨al,U⟩:∃ y_:List Int,y_=(X++D):=⟨_,rfl⟩
   replace H:(some al)=some r:=by first|(rw[U];with_reducible exact H)|(have H2_:=(Option.bind_some _ _).symm.trans H;rw[U];with_reducible exact H2_)|exact H
   have ae:=ak U;clear U;obtain rfl:=Option.some.inj H;go_enter Tryz.func52,Tryz.ntmps52;go_wp2_with (first|((with_reducible refine gate_dst (N:=5) rfl ?_);refine Kd.R_lit (Kd.int .i64) _ 3 ?hg (N:=5) ?hd (xs:=([]:List Int)) (inner:=[]) (ok:=fun _=>True) (okp:=fun _=>True) ?hr ?hp (fun _ hk=>hk) trivial (Below.refl _ _) (Nat.le_refl _) (by simp) ?_;(case hd=>rfl);(case hg=>rfl);(case hr=>first|(go_simp;done)|(go_simp;rfl));(case hp=>exact(Reps.none _ _));intro am w3 ho4 hb hg_ hnew_;clear hg_ hnew_;(first|rw[←Y.out] at ho4|(simp only[Int.reduceToNat] at ho4;rw[←Y.out] at ho4));have Z:=Rn0 ho4 HB;replace HB:=bs HB hb;clear hb ho4)|((with_reducible refine gate_builtin (b:=.append) (xs:=#[.tmp 5,.tmp 6]) rfl ?_);at_builtin;refine Kd.R_append_rows (Kd.int .i64) (w0:=w) w.heap.size rfl (.tmp 5) (.tmp 6) 26 3 (.int .i64 0) 8 rfl Tryz.underlying26 info3 rfl (by decide) (by omega) am X D _ _ _ (fun _=>True) (fun _=>False) rfl rfl ?aO ?aR (fun _ _ h=>h) (fun _ h=>h.elim) ?aF ?aB ?aS ?aL ?_;(case aR=>repeat(first|exact(Kd.C_below ao.out HB.out)|(with_reducible refine Kd.C_alloc ?_ _)|(with_reducible refine Kd.C_drewN ?_ _)|(with_reducible refine Kd.C_drew ?_)));(case aB=>exact PB);(case aF=>exact(fun _ _=>trivial));(case aO=>exact(PR Z));(case aS=>exact(below_size PB));(case aL=>have:=aj.out;omega);intro ap w5 ho hb hg hat;rw[←ae.out] at ho;replace HB:=ak hb;have af:=ak (ho);clear Z;clear ho hb hg hat))
   go_ret
   exact⟨_,RT,by(with_reducible repeat(first|apply Kd.R_alloc | apply Kd.R_drewN | apply Kd.R_drew));exact af.out,PB⟩
  ·rw[if_neg c2] at H;exact absurd H (by simp)
def impl_copyResource.f (D:Int)(J:List Int)(U:Int)(X:Int)(Y:Int):Option (Int×List Int×Int×Int×Int):=(slices_Clone_int_int.f J).bind fun Z=>(some (D,Z,U,X,Y))
theorem impl_copyResource.calls (X:Int)(Y:Option Addr)(Z:Nat)(J:List Int)(aa:Int)(ab:Int)(ac:Int)(r1:Int)(r2:List Int)(r3:Int)(r4:Int)(r5:Int)(w:World)(ag:Kd.C (Kd.int .i64) w Y J.length J)(ah:J.length≤Z)(h:impl_copyResource.f X J aa ab ac=some (r1,r2,r3,r4,r5)) :
  Calls Tryz.prog 36 #[.agg #[.int .i64 X,.slice Y J.length Z,.int .i64 aa,.int .i64 ab,.int .i64 ac]] w fun e w'=>∃ ap:Value,e = .returned (.agg #[.int .i64 r1,ap,.int .i64 r3,.int .i64 r4,.int .i64 r5])∧Kd.R (Kd.int .i64) 3 w' w.heap.size (fun _=>True) ap r2∧Below w.heap.size w w':=by
 have bx:=Tryz.underlying43;have al:=ak ag;have am:=ak ah;clear ag ah;have HB:=ak (Below.refl w.heap.size w);have H:=h;clear h;unfold impl_copyResource.f at H;replace H:=Option.bind_eq_some_iff.mp H;obtain⟨aj,aq,H⟩:=H;(try dsimp only at H);have A2:=ak aq;clear aq;simp only[Option.some.injEq,Prod.mk.injEq] at H;obtain⟨rfl,rfl,rfl,rfl,rfl⟩:=H;go_enter Tryz.func36,Tryz.ntmps36;go_wp2_with (first|((with_reducible refine gate_dst (N:=1) rfl ?_);refine bx_ (N:=1) #[.int .i64 X,.slice Y J.length Z,.int .i64 aa,.int .i64 ab,.int .i64 ac] 43 ?_;intro bu hg w3 hbox hb;have D:=ak hbox;have bv:=gy hg HB;replace HB:=bs HB hb;clear hb hbox hg)|((with_reducible refine gate_dst (N:=2) rfl ?_);refine bx_ (N:=2) #[.int .i64 0,.slice none 0 0,.int .i64 0,.int .i64 0,.int .i64 0] 43 ?_;intro ao hg w4 hbox hb;have U:=ak hbox;have bw:=gy hg HB;replace HB:=bs HB hb;have ae:=gm hg D;have af:=gn hg D;replace D:=kf D hb;clear hb hbox hg;have b0:=ae.out;have b4:=af.out;obtain⟨_,_,_,_,_,_,_,_,_,_⟩:=bc5 D)|(go_at_call 52;(with_reducible refine(slices_Clone_int_int.calls _ _ J aj _ ?side1 am.out A2.out).mono ?_);(case side1=>exact Cq al);rintro e w7 ⟨b5,rfl,ho0,hb⟩;have ai:=Rn0 ho0 HB;replace D:=kf D hb;replace U:=kf U hb;replace HB:=bs HB hb;clear hb ho0;obtain⟨bd,bf,rfl⟩:=Kd.R_slice ai.out;obtain⟨bg,bh,bi,bj,bk,bl,bm,bo,bp,br⟩:=bc5 D;obtain⟨ar,au,av,aw,ax,ay,az,ba,bb,bc⟩:=bc5 U));refine bodyPost_ret (results_cell_row rfl _ _ ao 43 #[.int .i64 X,.slice bd aj.length bf,.int .i64 aa,.int .i64 ab,.int .i64 ac] (0,0) _ rfl (PX U) Tryz.underlying43 rfl KR) rfl ?_;exact⟨_,RT,RX (Rt (Rt ai.out D) U) (fun _ hk=>trivial),PB⟩
attribute [local go_sem high] eqA39
def impl_AnswerAt.l0:Nat→List (S110)→Int→Int→Int→Int→Int→Option (Int×List Int×Int×Int×Int)
  | 0,_,_,_,_,_,_=>none
  | k+1,Z,x2,D,U,X,Y=>if D≥0 then(if 0≤D then(if D < (Z.length:Int) then(if (((rd_T110 Z D).f0.f0) == U && (((rd_T110 Z D).f0.f1) == X && (((rd_T110 Z D).f0.f2) == Y)))=true then(if ((rd_T110 Z D).f1)≤x2 then((impl_copyResource.f ((rd_T110 Z D).f2.f0) ((rd_T110 Z D).f2.f1) ((rd_T110 Z D).f2.f2.f0) ((rd_T110 Z D).f2.f2.f1) ((rd_T110 Z D).f2.f2.f2)).bind fun J=>(some (J.1,J.2.1,J.2.2.1,J.2.2.2.1,J.2.2.2.2))) else(impl_AnswerAt.l0 k Z x2 (wrap64 (D - 1)) U X Y)) else(impl_AnswerAt.l0 k Z x2 (wrap64 (D - 1)) U X Y)) else(none)) else(none)) else(some (4,([]:List Int),0,0,0))
def impl_AnswerAt.f (k:Nat)(X:List (S110))(D:Int)(J:Int)(U:Int)(Y:Int):Option (Int×List Int×Int×Int×Int):=impl_AnswerAt.l0 k X Y (wrap64 ((X.length:Int) - 1)) D J U
theorem impl_AnswerAt.calls (k:Nat)(A0:Option Addr)(c0:Nat)(J:List (S110))(al:Int)(am:Int)(ao:Int)(a2:Int)(r1:Int)(r2:List Int)(r3:Int)(r4:Int)(r5:Int)(w:World)(dz:Kd.C k110 w A0 J.length J)(d7:J.length≤c0)(h:impl_AnswerAt.f k J al am ao a2=some (r1,r2,r3,r4,r5)) :
  Calls Tryz.prog 41 #[.slice A0 J.length c0,.agg #[.int .i64 al,.int .i64 am,.int .i64 ao],.int .i64 a2] w fun e w'=>∃ d8:Value,e = .returned (.agg #[.int .i64 r1,d8,.int .i64 r3,.int .i64 r4,.int .i64 r5])∧Kd.R (Kd.int .i64) 3 w' w.heap.size (fun _=>True) d8 r2∧Below w.heap.size w w':=by
 have ez:=Tryz.underlying39;have e7:=Tryz.underlying43;have bx:=ak dz;have fe:=ak d7;clear dz d7;have HB:=ak (Below.refl w.heap.size w);have H:=h;clear h;unfold impl_AnswerAt.f at H;have H':=ak H;clear H;go_enter Tryz.func41,Tryz.ntmps41
 iterate 4 (try go_wp2_with (first|((with_reducible refine gate_dst (N:=4) rfl ?_);refine bx_ (N:=4) #[.int .i64 al,.int .i64 am,.int .i64 ao] 39 ?_;intro cu hg w4 hbox hb;have U:=ak hbox;have dt:=gy hg HB;replace HB:=bs HB hb;clear hb hbox hg)|((with_reducible refine gate_dst (N:=6) rfl ?_);refine bx_ (N:=6) #[.int .i64 0,.slice none 0 0,.int .i64 0,.int .i64 0,.int .i64 0] 43 ?_;intro br hg w5 hbox hb;have Y:=ak hbox;have du:=gy hg HB;replace HB:=bs HB hb;have aq:=gm hg U;have ar:=gn hg U;replace U:=kf U hb;clear hb hbox hg));try go_quiet (first|((with_reducible refine gate_dst (N:=4) rfl ?_);refine bx_ (N:=4) #[.int .i64 al,.int .i64 am,.int .i64 ao] 39 ?_;intro cu hg w4 hbox hb;have U:=ak hbox;have dt:=gy hg HB;replace HB:=bs HB hb;clear hb hbox hg)|((with_reducible refine gate_dst (N:=6) rfl ?_);refine bx_ (N:=6) #[.int .i64 0,.slice none 0 0,.int .i64 0,.int .i64 0,.int .i64 0] 43 ?_;intro br hg w5 hbox hb;have Y:=ak hbox;have du:=gy hg HB;replace HB:=bs HB hb;have aq:=gm hg U;have ar:=gn hg U;replace U:=kf U hb;clear hb hbox hg)))
 go_loopg [7] k (fun kq v7 w'=>∃(D:Int)(aw:Int)(ax:Int)(ay:Int)(az:Int),v7 = .int .i64 D∧Aside0 (impl_AnswerAt.l0 kq J a2 D al am ao=some (r1,r2,r3,r4,r5))∧Aside0 (kq≤k)∧Aside0 (w'.heap[cu]?=some (.cells #[.int .i64 al,.int .i64 am,.int .i64 ao] 39 (0,0)))∧Aside0 (w'.heap[br]?=some (.cells #[.int .i64 aw,(.slice none 0 0),.int .i64 ax,.int .i64 ay,.int .i64 az] 43 (0,0)))∧Aside0 (Below w.heap.size w w'))
 case atStart=>exact⟨(wrap64 ((J.length:Int) - 1)),(0),(0),(0),(0),FR,H',⟨Nat.le_refl _⟩,⟨PK U⟩,⟨PK Y⟩,⟨PB⟩⟩
 case round =>
  clear H';(try clear p2);(try clear c4);obtain⟨D,aw,ax,ay,az,rfl,HA,cv,U,Y,HB⟩:=hrel
  cases gk with
  | zero=>exact absurd HA.out (by simp[impl_AnswerAt.l0])
  | succ k1 =>
   have H:=HA.out;clear HA;simp only[impl_AnswerAt.l0] at H
   by_cases c6:D≥0
   ·rw[if_pos c6] at H;have ea:decide (0≤D)=true:=decide_eq_true c6;clear c6
    by_cases c7:0≤D
    ·rw[if_pos c7] at H;have fb:decide (0≤D)=true:=decide_eq_true c7;clear c7
     by_cases c8:D < (J.length:Int)
     ·rw[if_pos c8] at H;have fc:decide (D < (J.length:Int))=true:=decide_eq_true c8;clear c8
      by_cases c9:(((rd_T110 J D).f0.f0) == al && (((rd_T110 J D).f0.f1) == am && (((rd_T110 J D).f0.f2) == ao)))=true
      ·rw[if_pos c9] at H;have eb:(((rd_T110 J D).f0.f0) == al && (((rd_T110 J D).f0.f1) == am && (((rd_T110 J D).f0.f2) == ao)))=true:=c9;(try(have ec:decide (((rd_T110 J D).f0.f0)=al && (((rd_T110 J D).f0.f1) == am && (((rd_T110 J D).f0.f2) == ao)))=true:=by simpa using c9));(try(have ed:(((rd_T110 J D).f0.f0) == al && (((rd_T110 J D).f0.f1) == am && (((rd_T110 J D).f0.f2) == ao)))=true:=by simpa using c9));clear c9
       by_cases bz:((rd_T110 J D).f1)≤a2
       ·rw[if_pos bz] at H;have dx:decide (((rd_T110 J D).f1)≤a2)=true:=decide_eq_true bz;clear bz;replace H:=Option.bind_eq_some_iff.mp H;obtain⟨⟨cl,cm,cn,co,cp⟩,dl,H⟩:=H;(try dsimp only at H);have d9:=ak dl;clear dl;simp only[Option.some.injEq,Prod.mk.injEq] at H;obtain⟨rfl,rfl,rfl,rfl,rfl⟩:=H;have au:0≤(D:Int):=od;have av:D < (J.length:Int):=od;obtain⟨bo,cj,ck,bw,Z,aa,ab,ac,ae,X,af,ag,ah,ai,aj⟩:=at_T110 bx.out D au av;cases bw;replace Z:=hx_ HB Z;replace aa:=hx_ HB aa;replace ab:=hx_ HB ab;replace ac:=hx_ HB ac;replace ae:=hx_ HB ae;replace X:=hx_ HB X;replace af:=hx_ HB af;replace ag:=hx_ HB ag;replace ah:=hx_ HB ah;have b0:=ak aj;have b4:=ak ai;clear aj ai;replace au:=eq_true au;replace av:=eq_true av;have er:=aq.out;have es:=ar.out;obtain⟨eg,eh,ei,ej,ek,el⟩:=bc3 U;have bl:0≤(D:Int):=od;have bm:D < (J.length:Int):=od;obtain⟨ci,dn,dp,cq,ba,bb,bc,bd,bf,ap,bg,bh,bi,bj,bk⟩:=at_T110 bx.out D bl bm;obtain rfl:bo=ci:=(by injection cq);replace ba:=hx_ HB ba;replace bb:=hx_ HB bb;replace bc:=hx_ HB bc;replace bd:=hx_ HB bd;replace bf:=hx_ HB bf;replace ap:=hx_ HB ap;replace bg:=hx_ HB bg;replace bh:=hx_ HB bh;replace bi:=hx_ HB bi;have cy:=ak bk;have cz:=ak bj;clear bk bj;replace bl:=eq_true bl;replace bm:=eq_true bm;have ea_:=Option.some.inj (X.symm.trans ap)
        injection ea_ with ea_ en_ ec_
        (first|subst ea_ | clear ea_);(first|subst ec_ | clear ec_);clear en_;have cr:0≤(D:Int):=od;have ct:D < (J.length:Int):=od;obtain⟨dy,eo,ep,ee,b5,b6,b7,b8,b9,bp,ca,cb,cd,ce,cf⟩:=at_T110 bx.out D cr ct;obtain rfl:bo=dy:=(by injection ee);replace b5:=hx_ HB b5;replace b6:=hx_ HB b6;replace b7:=hx_ HB b7;replace b8:=hx_ HB b8;replace b9:=hx_ HB b9;replace bp:=hx_ HB bp;replace ca:=hx_ HB ca;replace cb:=hx_ HB cb;replace cd:=hx_ HB cd;have cg:=ak cf;have ch:=ak ce;clear cf ce;replace cr:=eq_true cr;replace ct:=eq_true ct;have ea_:=Option.some.inj (X.symm.trans bp)
        injection ea_ with ea_ en_ ec_
        (first|subst ea_ | clear ea_);(first|subst ec_ | clear ec_);clear en_
        iterate 4 (try go_wp2_with (first|(go_at_call 36;(with_reducible refine(impl_copyResource.calls ((rd_T110 J D).f2.f0) _ _ ((rd_T110 J D).f2.f1) ((rd_T110 J D).f2.f2.f0) ((rd_T110 J D).f2.f2.f1) ((rd_T110 J D).f2.f2.f2) cl cm cn co cp _ ?side1 ch.out d9.out).mono ?_);(case side1=>exact Cq cg);rintro e eq ⟨ef,rfl,ho0,hb⟩;have bu:=Rn0 ho0 HB;replace U:=kf U hb;replace Y:=kf Y hb;replace HB:=bs HB hb;clear hb ho0;obtain⟨da,db,dc,de,df,dg,dh,di,dj,dk⟩:=bc5 Y;obtain⟨dq,dr,rfl⟩:=Kd.R_slice bu.out));try go_quiet (first|(go_at_call 36;(with_reducible refine(impl_copyResource.calls ((rd_T110 J D).f2.f0) _ _ ((rd_T110 J D).f2.f1) ((rd_T110 J D).f2.f2.f0) ((rd_T110 J D).f2.f2.f1) ((rd_T110 J D).f2.f2.f2) cl cm cn co cp _ ?side1 ch.out d9.out).mono ?_);(case side1=>exact Cq cg);rintro e eq ⟨ef,rfl,ho0,hb⟩;have bu:=Rn0 ho0 HB;replace U:=kf U hb;replace Y:=kf Y hb;replace HB:=bs HB hb;clear hb ho0;obtain⟨da,db,dc,de,df,dg,dh,di,dj,dk⟩:=bc5 Y;obtain⟨dq,dr,rfl⟩:=Kd.R_slice bu.out)))
        refine bodyPost_ret (results_cell_row rfl _ _ br 43 #[.int .i64 cl,.slice dq cm.length dr,.int .i64 cn,.int .i64 co,.int .i64 cp] (0,0) _ rfl (PX Y) Tryz.underlying43 rfl KR) rfl ?_;exact⟨_,RT,RX (Rt bu.out Y) (fun _ hk=>trivial),PB⟩
       ·rw[if_neg bz] at H;have dx:decide (((rd_T110 J D).f1)≤a2)=false:=decide_eq_false bz;clear bz;have H':=ak H;clear H;have au:0≤(D:Int):=od;have av:D < (J.length:Int):=od;obtain⟨bo,cj,ck,bw,Z,aa,ab,ac,ae,X,af,ag,ah,ai,aj⟩:=at_T110 bx.out D au av;cases bw;replace Z:=hx_ HB Z;replace aa:=hx_ HB aa;replace ab:=hx_ HB ab;replace ac:=hx_ HB ac;replace ae:=hx_ HB ae;replace X:=hx_ HB X;replace af:=hx_ HB af;replace ag:=hx_ HB ag;replace ah:=hx_ HB ah;have b0:=ak aj;have b4:=ak ai;clear aj ai;replace au:=eq_true au;replace av:=eq_true av;have et:=aq.out;have eu:=ar.out;obtain⟨_,_,_,_,_,_⟩:=bc3 U;have bl:0≤(D:Int):=od;have bm:D < (J.length:Int):=od;obtain⟨ci,dn,dp,cq,ba,bb,bc,bd,bf,ap,bg,bh,bi,bj,bk⟩:=at_T110 bx.out D bl bm;obtain rfl:bo=ci:=(by injection cq);replace ba:=hx_ HB ba;replace bb:=hx_ HB bb;replace bc:=hx_ HB bc;replace bd:=hx_ HB bd;replace bf:=hx_ HB bf;replace ap:=hx_ HB ap;replace bg:=hx_ HB bg;replace bh:=hx_ HB bh;replace bi:=hx_ HB bi;have cy:=ak bk;have cz:=ak bj;clear bk bj;replace bl:=eq_true bl;replace bm:=eq_true bm;have ea_:=Option.some.inj (X.symm.trans ap)
        injection ea_ with ea_ en_ ec_
        (first|subst ea_ | clear ea_);(first|subst ec_ | clear ec_);clear en_;go_wp2
        repeat(go_quiet (fail);try go_wp2)
        go_roundg k1
        case measure=>have:=cv.out;omega
        case rel=>exact⟨(wrap64 (D - 1)),(aw),(ax),(ay),(az),FR,H',⟨by have:=cv.out;omega⟩,⟨PK U⟩,⟨PK Y⟩,⟨PB⟩⟩
      ·rw[if_neg c9] at H
       have eb:(((rd_T110 J D).f0.f0) == al && (((rd_T110 J D).f0.f1) == am && (((rd_T110 J D).f0.f2) == ao)))=false:=by simpa using c9
       (try(have ec:decide (((rd_T110 J D).f0.f0)=al && (((rd_T110 J D).f0.f1) == am && (((rd_T110 J D).f0.f2) == ao)))=false:=by simpa using c9));(try(have ed:(((rd_T110 J D).f0.f0) == al && (((rd_T110 J D).f0.f1) == am && (((rd_T110 J D).f0.f2) == ao)))=false:=by simpa using c9));(try(have fd:¬(((rd_T110 J D).f0.f0)=al && (((rd_T110 J D).f0.f1) == am && (((rd_T110 J D).f0.f2) == ao))):=by simpa using c9));clear c9;have H':=ak H;clear H;have au:0≤(D:Int):=od;have av:D < (J.length:Int):=od;obtain⟨bo,cj,ck,bw,Z,aa,ab,ac,ae,X,af,ag,ah,ai,aj⟩:=at_T110 bx.out D au av;cases bw;replace Z:=hx_ HB Z;replace aa:=hx_ HB aa;replace ab:=hx_ HB ab;replace ac:=hx_ HB ac;replace ae:=hx_ HB ae;replace X:=hx_ HB X;replace af:=hx_ HB af;replace ag:=hx_ HB ag;replace ah:=hx_ HB ah;have b0:=ak aj;have b4:=ak ai;clear aj ai;replace au:=eq_true au;replace av:=eq_true av;have ev:=aq.out;have ew:=ar.out;obtain⟨_,_,_,_,_,_⟩:=bc3 U;go_wp2
       repeat(go_quiet (fail);try go_wp2)
       go_roundg k1
       case measure=>have:=cv.out;omega
       case rel=>exact⟨(wrap64 (D - 1)),(aw),(ax),(ay),(az),FR,H',⟨by have:=cv.out;omega⟩,⟨PK U⟩,⟨PK Y⟩,⟨PB⟩⟩
     ·rw[if_neg c8] at H;exact absurd H (by simp)
    ·rw[if_neg c7] at H;exact absurd H (by simp)
   ·rw[if_neg c6] at H;have ea:decide (0≤D)=false:=decide_eq_false c6;clear c6;simp only[Option.some.injEq,Prod.mk.injEq] at H;obtain⟨rfl,rfl,rfl,rfl,rfl⟩:=H;have ex:=ar.out;have ey:=aq.out;obtain⟨_,_,_,_,_,_,_,_,_,_⟩:=bc5 Y;go_wp2
    repeat(go_quiet (fail);try go_wp2)
    refine bodyPost_ret (results_cell_row rfl _ _ br 43 #[.int .i64 4,.slice none 0 0,.int .i64 0,.int .i64 0,.int .i64 0] (0,0) _ rfl (PX Y) Tryz.underlying43 rfl KR) rfl ?_;exact⟨_,RT,by first|exact Kd.R_nil _ _ _ _ _ | exact Kd.N_nil _ _ _ _ _ | exact Kd.V_nil _ _ _ _ _ | exact Kd.Q_nil _ _ _ _ _ | exact Kd.S_nil _ _ _ _ _,PB⟩
attribute [local go_sem high] eqA39
def impl_Address_69.l0:Nat→List (S39)→Int→Int→Int→Int→Int→Option (Int)
  | 0,_,_,_,_,_,_=>none
  | k+1,Y,Z,X,D,J,U=>if X < Z then(if 0≤X then(if X < (Y.length:Int) then(if (D == ((rd_T39 Y X).f0) && (J == ((rd_T39 Y X).f1) && (U == ((rd_T39 Y X).f2))))=true then(some X) else(impl_Address_69.l0 k Y Z (wrap64 (X+1)) D J U)) else(none)) else(none)) else(some (-1))
def impl_Address_69.f (k:Nat)(X:List (S39))(D:Int)(J:Int)(U:Int):Option (Int):=impl_Address_69.l0 k X (X.length:Int) 0 D J U
theorem impl_Address_69.calls (k:Nat)(A0:Option Addr)(c0:Nat)(J:List (S39))(U:Int)(X:Int)(Y:Int)(r:Int)(w:World)(aq:Kd.C k39 w A0 J.length J)(ar:J.length≤c0)(h:impl_Address_69.f k J U X Y=some r) :
  Calls Tryz.prog 69 #[.slice A0 J.length c0,.agg #[.int .i64 U,.int .i64 X,.int .i64 Y]] w fun e w'=>e = .returned (.int .i64 r)∧Below w.heap.size w w':=by
 have bj:=Tryz.underlying39;have au:=ak aq;have br:=ak ar;clear aq ar;have HB:=ak (Below.refl w.heap.size w);have H:=h;clear h;unfold impl_Address_69.f at H;have H':=ak H;clear H;go_enter Tryz.func69,Tryz.ntmps69
 iterate 4 (try go_wp2_with (first|((with_reducible refine gate_dst (N:=3) rfl ?_);refine bx_ (N:=3) #[.int .i64 U,.int .i64 X,.int .i64 Y] 39 ?_;intro ai hg w3 hbox hb;have ac:=ak hbox;have al:=gy hg HB;replace HB:=bs HB hb;clear hb hbox hg));try go_quiet (first|((with_reducible refine gate_dst (N:=3) rfl ?_);refine bx_ (N:=3) #[.int .i64 U,.int .i64 X,.int .i64 Y] 39 ?_;intro ai hg w3 hbox hb;have ac:=ak hbox;have al:=gy hg HB;replace HB:=bs HB hb;clear hb hbox hg)))
 go_loopg [8] k (fun kq v8 w'=>∃(D:Int),v8 = .int .i64 D∧Aside0 (impl_Address_69.l0 kq J (J.length:Int) D U X Y=some r)∧Aside0 (kq≤k)∧Aside0 (w'.heap[ai]?=some (.cells #[.int .i64 U,.int .i64 X,.int .i64 Y] 39 (0,0)))∧Aside0 (Below w.heap.size w w'))
 case atStart=>exact⟨(0),FR,H',⟨Nat.le_refl _⟩,⟨PK ac⟩,⟨PB⟩⟩
 case round =>
  clear H'
  try clear p2
  obtain⟨D,rfl,HA,av,ac,HB⟩:=hrel
  cases gk with
  | zero=>exact absurd HA.out (by simp[impl_Address_69.l0])
  | succ k1 =>
   have H:=HA.out;clear HA;simp only[impl_Address_69.l0] at H
   by_cases c4:D < (J.length:Int)
   ·rw[if_pos c4] at H;have aw:decide (D < (J.length:Int))=true:=decide_eq_true c4;clear c4
    by_cases c5:0≤D
    ·rw[if_pos c5] at H;have bm:decide (0≤D)=true:=decide_eq_true c5;clear c5
     by_cases c6:D < (J.length:Int)
     ·rw[if_pos c6] at H;have bo:decide (D < (J.length:Int))=true:=decide_eq_true c6;clear c6
      by_cases c7:(U == ((rd_T39 J D).f0) && (X == ((rd_T39 J D).f1) && (Y == ((rd_T39 J D).f2))))=true
      ·rw[if_pos c7] at H;have ax:(U == ((rd_T39 J D).f0) && (X == ((rd_T39 J D).f1) && (Y == ((rd_T39 J D).f2))))=true:=c7;(try(have ay:decide (U=((rd_T39 J D).f0) && (X == ((rd_T39 J D).f1) && (Y == ((rd_T39 J D).f2))))=true:=by simpa using c7));(try(have az:(U == ((rd_T39 J D).f0) && (X == ((rd_T39 J D).f1) && (Y == ((rd_T39 J D).f2))))=true:=by simpa using c7));clear c7;obtain rfl:=Option.some.inj H;obtain⟨_,_,_,_,_,_⟩:=bc3 ac;have ae:0≤(D:Int):=od;have af:D < (J.length:Int):=od;obtain⟨ap,ah,Z,aa,ab⟩:=at_T39 au.out D ae af;cases ah;replace Z:=hx_ HB Z;replace aa:=hx_ HB aa;replace ab:=hx_ HB ab;replace ae:=eq_true ae;replace af:=eq_true af;go_wp2
       repeat(go_quiet (fail);try go_wp2)
       go_ret
       exact⟨RT,PB⟩
      ·rw[if_neg c7] at H
       have ax:(U == ((rd_T39 J D).f0) && (X == ((rd_T39 J D).f1) && (Y == ((rd_T39 J D).f2))))=false:=by simpa using c7
       (try(have ay:decide (U=((rd_T39 J D).f0) && (X == ((rd_T39 J D).f1) && (Y == ((rd_T39 J D).f2))))=false:=by simpa using c7));(try(have az:(U == ((rd_T39 J D).f0) && (X == ((rd_T39 J D).f1) && (Y == ((rd_T39 J D).f2))))=false:=by simpa using c7));(try(have bp:¬(U=((rd_T39 J D).f0) && (X == ((rd_T39 J D).f1) && (Y == ((rd_T39 J D).f2)))):=by simpa using c7));clear c7;have H':=ak H;clear H;obtain⟨bc,bd,bf,bg,bh,bi⟩:=bc3 ac;have ae:0≤(D:Int):=od;have af:D < (J.length:Int):=od;obtain⟨ap,ah,Z,aa,ab⟩:=at_T39 au.out D ae af;cases ah;replace Z:=hx_ HB Z;replace aa:=hx_ HB aa;replace ab:=hx_ HB ab;replace ae:=eq_true ae;replace af:=eq_true af;go_wp2
       repeat(go_quiet (fail);try go_wp2)
       go_roundg k1
       case measure=>have:=av.out;omega
       case rel=>exact⟨(wrap64 (D+1)),FR,H',⟨by have:=av.out;omega⟩,⟨PK ac⟩,⟨PB⟩⟩
     ·rw[if_neg c6] at H;exact absurd H (by simp)
    ·rw[if_neg c5] at H;exact absurd H (by simp)
   ·rw[if_neg c4] at H;have aw:decide (D < (J.length:Int))=false:=decide_eq_false c4;clear c4;obtain rfl:=Option.some.inj H;go_wp2
    repeat(go_quiet (fail);try go_wp2)
    go_ret
    exact⟨RT,PB⟩
def impl_Address_42.f (k:Nat)(Y:List (S39))(D:Int)(J:Int)(U:Int):Option (Bool):=(impl_Address_69.f k Y D J U).bind fun X=>(some (decide (X≥0)))
theorem impl_Address_42.calls (k:Nat)(A0:Option Addr)(c0:Nat)(Y:List (S39))(D:Int)(J:Int)(U:Int)(r:Bool)(w:World)(Z:Kd.C k39 w A0 Y.length Y)(aa:Y.length≤c0)(h:impl_Address_42.f k Y D J U=some r) :
  Calls Tryz.prog 42 #[.slice A0 Y.length c0,.agg #[.int .i64 D,.int .i64 J,.int .i64 U]] w fun e w'=>e = .returned (.bool r)∧Below w.heap.size w w':=by
 have al:=Tryz.underlying39;have ag:=ak Z;have ah:=ak aa;clear Z aa;have HB:=ak (Below.refl w.heap.size w);have H:=h;clear h;unfold impl_Address_42.f at H;replace H:=Option.bind_eq_some_iff.mp H;obtain⟨af,ab,H⟩:=H;(try dsimp only at H);have A3:=ak ab;clear ab;obtain rfl:=Option.some.inj H;go_enter Tryz.func42,Tryz.ntmps42;go_wp2_with (first|((with_reducible refine gate_dst (N:=3) rfl ?_);refine bx_ (N:=3) #[.int .i64 D,.int .i64 J,.int .i64 U] 39 ?_;intro ai hg w4 hbox hb;have X:=ak hbox;have aj:=gy hg HB;replace HB:=bs HB hb;clear hb hbox hg;obtain⟨_,_,_,_,_,_⟩:=bc3 X)|(go_at_call 69;(with_reducible refine(impl_Address_69.calls k _ _ Y D J U af _ ?side1 ah.out A3.out).mono ?_);(case side1=>exact Cq ag);rintro e w6 ⟨rfl,hb⟩;replace X:=kf X hb;replace HB:=bs HB hb;clear hb))
 go_ret
 exact⟨RT,PB⟩

def impl_FollowAt.l0:Nat→List (S110)→Int→List (S39)→Int→List Int→Int→Int→Int→Option (Int×List Int×Int×Int×Int×(List (S39)))
  | 0,_,_,_,_,_,_,_,_=>none
  | k+1,x0,x2,x9,X,Z,D,J,U=>if X=3 then(if (x9.length:Int)≤4 then((impl_Address_42.f k x9 D J U).bind fun ab=>(if ab=true then(some (X,Z,D,J,U,x9)) else(if x9.length < 5864062014805 then((impl_AnswerAt.f k x0 D J U x2).bind fun Y=>(impl_FollowAt.l0 k x0 x2 (x9++[(⟨D,J,U⟩:S39)]) Y.1 Y.2.1 Y.2.2.1 Y.2.2.2.1 Y.2.2.2.2)) else(none)))) else(some (X,Z,D,J,U,x9))) else(some (X,Z,D,J,U,x9))
def impl_FollowAt.f (k:Nat)(Y:List (S110))(J:Int)(U:Int)(X:Int)(Z:Int):Option (Int×List Int×Int×Int×Int×(List (S39))):=(impl_AnswerAt.f k Y J U X Z).bind fun D=>(impl_FollowAt.l0 k Y Z (([(⟨J,U,X⟩:S39)]:List (S39))) D.1 D.2.1 D.2.2.1 D.2.2.2.1 D.2.2.2.2)
theorem impl_FollowAt.calls (k:Nat)(A0:Option Addr)(c0:Nat)(l0:List (S110))(ae:Int)(af:Int)(ag:Int)(a2:Int)(r1:Int)(r2:List Int)(r3:Int)(r4:Int)(r5:Int)(r6:List (S39))(w:World)(dn:Kd.C k110 w A0 l0.length l0)(dp:l0.length≤c0)(h:impl_FollowAt.f k l0 ae af ag a2=some (r1,r2,r3,r4,r5,r6)) :
  Calls Tryz.prog 19 #[.slice A0 l0.length c0,.agg #[.int .i64 ae,.int .i64 af,.int .i64 ag],.int .i64 a2] w fun e w'=>∃ dq dr:Value,e = .returned (.tuple #[.agg #[.int .i64 r1,dq,.int .i64 r3,.int .i64 r4,.int .i64 r5],dr])∧Kd.R (Kd.int .i64) 3 w' w.heap.size (fun _=>True) dq r2∧Kd.R k39 39 w' w.heap.size (fun _=>True) dr r6∧Below w.heap.size w w':=by
 have fh:=Tryz.underlying39;have fi:=Tryz.underlying43;have dt:=ak dn;have du:=ak dp;clear dn dp;have HB:=ak (Below.refl w.heap.size w);have H:=h;clear h;unfold impl_FollowAt.f at H;replace H:=Option.bind_eq_some_iff.mp H;obtain⟨⟨bg,bb,bh,bi,bj⟩,dv,H⟩:=H;(try dsimp only at H);have A4:=ak dv;clear dv;obtain⟨cg,az⟩:∃ y_:List (S39),y_=(([(⟨ae,af,ag⟩:S39)]:List (S39))):=⟨_,rfl⟩
 replace H:(impl_FollowAt.l0 k l0 a2 cg bg bb bh bi bj)=some (r1,r2,r3,r4,r5,r6):=by first|(rw[az];with_reducible exact H)|(have H2_:=(Option.bind_some _ _).symm.trans H;rw[az];with_reducible exact H2_)|exact H
 have bm:=ak az;clear az;have H':=ak H;clear H;go_enter Tryz.func19,Tryz.ntmps19;go_wp2_with (first|((with_reducible refine gate_dst (N:=4) rfl ?_);(try(refine gate_guard (by rfl) ?_;dsimp only));refine bx_ (N:=4) #[.int .i64 ae,.int .i64 af,.int .i64 ag] 39 ?_;intro ar hg w5 hbox hb;have Z:=ak hbox;have eh:=gy hg HB;replace HB:=bs HB hb;clear hb hbox hg)|((with_reducible refine gate_dst (N:=6) rfl ?_);(try(refine gate_guard (by rfl) ?_;dsimp only));refine bx_ (N:=6) #[.int .i64 0,.slice none 0 0,.int .i64 0,.int .i64 0,.int .i64 0] 43 ?_;intro aw hg w6 hbox hb;have D:=ak hbox;have ei:=gy hg HB;replace HB:=bs HB hb;have ap:=gm hg Z;have aq:=gn hg Z;replace Z:=kf Z hb;clear hb hbox hg;have fk:=ap.out;have fl:=aq.out;obtain⟨ch,ci,cj,ck,cl,cm⟩:=bc3 Z)|(go_at_call 41;(with_reducible refine(impl_AnswerAt.calls k _ _ l0 ae af ag a2 bg bb bh bi bj _ ?side1 du.out A4.out).mono ?_);(case side1=>exact Cq dt);rintro e w9 ⟨fm,rfl,ho0,hb⟩;have au:=Rn0 ho0 HB;replace Z:=kf Z hb;replace D:=kf D hb;replace HB:=bs HB hb;clear hb ho0)|((with_reducible refine gate_dst (N:=8) rfl ?_);(try(refine gate_guard (by rfl) ?_;dsimp only));refine bx_ (N:=8) #[.int .i64 0,.slice none 0 0,.int .i64 0,.int .i64 0,.int .i64 0] 43 ?_;intro bo hg fy hbox hb;replace au:=Rb au hb;have aa:=ak hbox;have ej:=gy hg HB;replace HB:=bs HB hb;have aj:=gm hg Z;have al:=gn hg Z;replace Z:=kf Z hb;have am:=gm hg D;have ao:=gn hg D;replace D:=kf D hb;clear hb hbox hg;have ek:=al.out;have el:=aj.out;have em:=ao.out;have en:=am.out;obtain⟨bv,bw,bx,bz,b0,b4,b5,b6,b7,b8⟩:=bc5 aa;obtain⟨cn,co,rfl⟩:=Kd.R_slice au.out;obtain⟨b9,ca,cb,cd,ce,cf⟩:=bc3 Z)|((with_reducible refine gate_dst (N:=15) rfl ?_);(try(refine gate_guard (by rfl) ?_;dsimp only));refine Kd.R_lit k39 _ 39 ?hg (N:=15) ?hd (xs:=([(⟨ae,af,ag⟩:S39)]:List (S39))) (inner:=[.int .i64 ae,.int .i64 af,.int .i64 ag]) (ok:=fun _=>True) (okp:=fun _=>True) ?hr ?hp (fun _ hk=>hk) trivial (Below.refl _ _) (Nat.le_refl _) (by simp) ?_;(case hd=>rfl);(case hg=>rfl);(case hr=>first|(go_simp;done)|(go_simp;rfl));(case hp=>exact(Reps.c3 (show Kd.M k39 _ _ _ (⟨ae,af,ag⟩:S39) [.int .i64 ae,.int .i64 af,.int .i64 ag] from(k39_mkM _ _ _ (⟨ae,af,ag⟩:S39))) (Reps.none _ _)));intro fo fz ho17 hb hg_ hnew_;clear hg_ hnew_;(first|rw[←bm.out] at ho17|(simp only[Int.reduceToNat] at ho17;rw[←bm.out] at ho17));replace au:=ak (Kd.R_below (Re1 au aa) hb);have df:=ak (Kd.R_lower (Kd.R_newB ho17 (g:=ar) (o:=.cells #[.int .i64 ae,.int .i64 af,.int .i64 ag] 39 (0,0)) (PF Z)) (below_size PB));replace Z:=kf Z hb;replace D:=kf D hb;replace aa:=kp (cs':=#[.int .i64 bg,.slice cn bb.length co,.int .i64 bh,.int .i64 bi,.int .i64 bj]) aa hb;replace HB:=bs HB hb;clear hb ho17))
 go_loopg [9] k (fun kq v9 w'=>∃(ai:List (S39))(ab:Int)(ah:List Int)(J:Int)(U:Int)(X:Int)(av:Value),Aside0 (impl_FollowAt.l0 kq l0 a2 ai ab ah J U X=some (r1,r2,r3,r4,r5,r6))∧Aside0 (kq≤k)∧Aside0 (Kd.R k39 39 w' w.heap.size (fun k_=>k_≠ar) v9 ai)∧Aside0 (Kd.R (Kd.int .i64) 3 w' w.heap.size (fun _=>True) av ah)∧Aside0 (w'.heap[ar]?=some (.cells #[.int .i64 ae,.int .i64 af,.int .i64 ag] 39 (0,0)))∧Aside0 (w'.heap[aw]?=some (.cells #[.int .i64 0,(.slice none 0 0),.int .i64 0,.int .i64 0,.int .i64 0] 43 (0,0)))∧Aside0 (w'.heap[bo]?=some (.cells #[.int .i64 ab,av,.int .i64 J,.int .i64 U,.int .i64 X] 43 (0,0)))∧Aside0 (Below w.heap.size w w'))
 case atStart=>exact⟨(cg),(bg),(bb),(bh),(bi),(bj),(.slice cn bb.length co),H',⟨Nat.le_refl _⟩,⟨RX df.out FK⟩,⟨PR au⟩,⟨PK Z⟩,⟨PK D⟩,⟨PK aa⟩,⟨PB⟩⟩
 case round =>
  clear H';(try clear c1);(try clear p2);(try clear c3);(try clear c4);(try clear c7);(try clear f0);(try clear f1);(try clear bv);(try clear bw);(try clear bx);(try clear bz);(try clear b0);(try clear b9);(try clear ca);(try clear cb);(try clear ch);(try clear ci);(try clear cj);(try clear b4);(try clear b5);(try clear b6);(try clear b7);(try clear b8);(try clear cd);(try clear ce);(try clear cf);(try clear ck);(try clear cl);(try clear cm);obtain⟨ai,ab,ah,J,U,X,av,HA,dw,ac,Y,Z,D,aa,HB⟩:=hrel
  cases gk with
  | zero=>exact absurd HA.out (by simp[impl_FollowAt.l0])
  | succ k1 =>
   have H:=HA.out;clear HA;simp only[impl_FollowAt.l0] at H
   by_cases bc:ab=3
   ·rw[if_pos bc] at H;have dg:(ab == 3)=true:=beq_iff_eq.mpr bc;have dh:(ab != 3)=false:=bne_eq_false_iff_eq.mpr bc;clear bc
    by_cases bf:(ai.length:Int)≤4
    ·rw[if_pos bf] at H;have di:decide ((ai.length:Int)≤4)=true:=decide_eq_true bf;have dj:decide (ai.length≤4)=true:=decide_eq_true (by omega);clear bf;replace H:=Option.bind_eq_some_iff.mp H;obtain⟨dy,cp,H⟩:=H;(try dsimp only at H);have dx:=ak cp;clear cp
     by_cases bp:dy=true
     ·subst bp;rw[if_pos rfl] at H;simp only[Option.some.injEq,Prod.mk.injEq] at H;obtain⟨rfl,rfl,rfl,rfl,rfl,rfl⟩:=H;have eo:=al.out;have ep:=aj.out;have eq:=ao.out;have er:=am.out;obtain⟨_,_,_,_,_,_,_,_,_,_⟩:=bc5 aa;obtain⟨fq,ft,cq⟩:=Kd.R_slice ac.out;(first|subst cq|(injection cq with f1_ f2_ f3_;have f4_:=f1_.symm;have f5_:=f3_.symm;clear f1_ f2_ f3_;subst f4_;subst f5_));go_wp2_with (first|(go_at_call 42;(with_reducible refine(impl_Address_42.calls k1 _ _ ai J U X true _ ?side1 (rl ac) dx.out).mono ?_);(case side1=>exact CR (rr ac));rintro e f2 ⟨rfl,hb⟩;replace ac:=Rb ac hb;replace Y:=Rb Y hb;replace Z:=kf Z hb;replace D:=kf D hb;replace aa:=kf aa hb;replace HB:=bs HB hb;clear hb;obtain⟨_,_,_,_,_,_,_,_,_,_⟩:=bc5 aa;have es:=aq.out;have et:=ap.out;obtain⟨_,_,_,_,_,_,_,_,_,_⟩:=bc5 D;obtain⟨dz,d7,rfl⟩:=Kd.R_slice Y.out));refine bodyPost_ret (results_ct rfl _ _ aw 43 #[.int .i64 ab,.slice dz ah.length d7,.int .i64 J,.int .i64 U,.int .i64 X] (0,0) _ rfl (PX D) Tryz.underlying43 rfl KR) rfl ?_;exact⟨_,_,RT,RX (Rt Y.out D) (fun _ hk=>trivial),RX (Rt ac.out D) (fun _ hk=>trivial),PB⟩
     ·replace bp:=Bool.eq_false_iff.mpr bp;subst bp;rw[if_neg (show ¬(false=true) by decide)] at H
      by_cases br:ai.length < 5864062014805
      ·rw[if_pos br] at H;have dk:=ak br;clear br;obtain⟨cr,ba⟩:∃ y_:List (S39),y_=(ai++[(⟨J,U,X⟩:S39)]):=⟨_,rfl⟩
       replace H:((impl_AnswerAt.f k1 l0 J U X a2).bind fun ax=>(impl_FollowAt.l0 k1 l0 a2 cr ax.1 ax.2.1 ax.2.2.1 ax.2.2.2.1 ax.2.2.2.2))=some (r1,r2,r3,r4,r5,r6):=by first|(rw[ba];with_reducible exact H)|(have H2_:=(Option.bind_some _ _).symm.trans H;rw[ba];with_reducible exact H2_)|exact H
       have dl:=ak ba;clear ba;replace H:=Option.bind_eq_some_iff.mp H;obtain⟨⟨ct,bl,cu,cv,cw⟩,cx,H⟩:=H;(try dsimp only at H);have eg:=ak cx;clear cx;have H':=ak H;clear H;have eu:=al.out;have ev:=aj.out;have ew:=ao.out;have ex:=am.out;obtain⟨_,_,_,_,_,_,_,_,_,_⟩:=bc5 aa;obtain⟨d8,d9,cy⟩:=Kd.R_slice ac.out;(first|subst cy|(injection cy with f1_ f2_ f3_;have f4_:=f1_.symm;have f5_:=f3_.symm;clear f1_ f2_ f3_;subst f4_;subst f5_));go_wp2_with (first|(go_at_call 42;(with_reducible refine(impl_Address_42.calls k1 _ _ ai J U X false _ ?side1 (rl ac) dx.out).mono ?_);(case side1=>exact CR (rr ac));rintro e f3 ⟨rfl,hb⟩;replace ac:=Rb ac hb;replace Y:=Rb Y hb;replace Z:=kf Z hb;replace D:=kf D hb;replace aa:=kf aa hb;replace HB:=bs HB hb;clear hb;obtain⟨_,_,_,_,_,_,_,_,_,_⟩:=bc5 aa)|((with_reducible refine gate_builtin (b:=.append) (xs:=#[.tmp 31,.tmp 34]) rfl ?_);(try(refine gate_guard (by rfl) ?_;dsimp only));at_builtin;refine Kd.R_append k39 (w0:=w) w.heap.size rfl (.tmp 31) (.tmp 34) 58 39 (.agg #[(.int .i64 0),(.int .i64 0),(.int .i64 0)]) 24 rfl Tryz.underlying58 info39 rfl (by decide) (by omega) (.slice d8 ai.length d9) ai (⟨J,U,X⟩:S39) [.int .i64 J,.int .i64 U,.int .i64 X] (fun k_=>k_≠ar) (fun _=>False) rfl rfl ?aP (fun _ hk=>hk.elim) ?aF ?aO ?aB ?aS ?aL ?_;(case aP=>exact k39_mkM _ _ _ (⟨J,U,X⟩:S39));(case aB=>exact PB);(case aF=>exact(fun k_ hk=>Kd.freshB (g:=ar) (o:=.cells #[.int .i64 ae,.int .i64 af,.int .i64 ag] 39 (0,0)) (PK Z) k_ hk));(case aO=>exact(PR ac));(case aS=>exact(below_size PB));(case aL=>have:=dk.out;omega);intro fu f4 ho hb hg hat;rw[←dl.out] at ho;replace Y:=ak (Kd.R_over' (PR Y) (Kd.R_typed (PR ac)) (by decide) hg);replace Z:=ak (blk_grown (g:=ar) (o:=.cells #[.int .i64 ae,.int .i64 af,.int .i64 ag] 39 (0,0)) (PK Z) hg (Kd.R_away ac.out (fun _ hk=>hk)));replace D:=ak (blk_grown (g:=aw) (o:=.cells #[.int .i64 0,.slice none 0 0,.int .i64 0,.int .i64 0,.int .i64 0] 43 (0,0)) (PK D) hg (Kd.R_ne ac.out D.out (by decide)));replace aa:=ak (blk_grown (g:=bo) (o:=.cells #[.int .i64 ab,av,.int .i64 J,.int .i64 U,.int .i64 X] 43 (0,0)) (PK aa) hg (Kd.R_ne ac.out aa.out (by decide)));replace HB:=ak hb;have bk:=ak (ho);clear ac;clear ho hb hg hat;obtain⟨_,_,_,_,_,_,_,_,_,_⟩:=bc5 aa)|(go_at_call 41;(with_reducible refine(impl_AnswerAt.calls k1 _ _ l0 J U X a2 ct bl cu cv cw _ ?side1 du.out eg.out).mono ?_);(case side1=>exact Cq dt);rintro e f5 ⟨fv,rfl,ho0,hb⟩;replace bk:=Rb bk hb;have bu:=Rn1 ho0 HB Y;replace Y:=ak (Kd.R_elder' (PR Y) (Kd.R_base ho0) hb);replace Z:=kf Z hb;replace D:=kf D hb;replace aa:=kf aa hb;replace HB:=bs HB hb;clear hb ho0;obtain⟨_,_,_,_,_,_,_,_,_,_⟩:=bc5 aa;obtain⟨ea,eb,rfl⟩:=Kd.R_slice bu.out))
       go_roundg k1
       case measure=>have:=dw.out;omega
       case rel=>exact⟨(cr),(ct),(bl),(cu),(cv),(cw),(.slice ea bl.length eb),H',⟨by have:=dw.out;omega⟩,⟨Re1 bk aa⟩,⟨RX (Rt bu.out aa) (fun _ hk=>trivial)⟩,⟨PF Z⟩,⟨PF D⟩,⟨PX aa⟩,⟨PB⟩⟩
      ·rw[if_neg br] at H;exact absurd H (by simp)
    ·rw[if_neg bf] at H;have di:decide ((ai.length:Int)≤4)=false:=decide_eq_false bf;have dj:decide (ai.length≤4)=false:=decide_eq_false (by omega);clear bf;simp only[Option.some.injEq,Prod.mk.injEq] at H;obtain⟨rfl,rfl,rfl,rfl,rfl,rfl⟩:=H;have ey:=al.out;have ez:=aj.out;have e7:=ao.out;have e8:=am.out;obtain⟨_,_,_,_,_,_,_,_,_,_⟩:=bc5 aa;obtain⟨fw,fx,cz⟩:=Kd.R_slice ac.out;(first|subst cz|(injection cz with f1_ f2_ f3_;have f4_:=f1_.symm;have f5_:=f3_.symm;clear f1_ f2_ f3_;subst f4_;subst f5_));have e9:=aq.out;have fa:=ap.out;obtain⟨_,_,_,_,_,_,_,_,_,_⟩:=bc5 D;obtain⟨ec,ed,da⟩:=Kd.R_slice Y.out;(first|subst da|(injection da with f1_ f2_ f3_;have f4_:=f1_.symm;have f5_:=f3_.symm;clear f1_ f2_ f3_;subst f4_;subst f5_));go_wp2;refine bodyPost_ret (results_ct rfl _ _ aw 43 #[.int .i64 ab,.slice ec ah.length ed,.int .i64 J,.int .i64 U,.int .i64 X] (0,0) _ rfl (PX D) Tryz.underlying43 rfl KR) rfl ?_;exact⟨_,_,RT,RX (Rt Y.out D) (fun _ hk=>trivial),RX (Rt ac.out D) (fun _ hk=>trivial),PB⟩
   ·rw[if_neg bc] at H;have dg:(ab == 3)=false:=beq_eq_false_iff_ne.mpr bc;have dh:(ab != 3)=true:=bne_iff_ne.mpr bc;simp only[Option.some.injEq,Prod.mk.injEq] at H;obtain⟨rfl,rfl,rfl,rfl,rfl,rfl⟩:=H;have fb:=al.out;have fc:=aj.out;have fd:=ao.out;have fe:=am.out;obtain⟨_,_,_,_,_,_,_,_,_,_⟩:=bc5 aa;have ff:=aq.out;have fg:=ap.out;obtain⟨_,_,_,_,_,_,_,_,_,_⟩:=bc5 D;obtain⟨ee,ef,db⟩:=Kd.R_slice Y.out;(first|subst db|(injection db with f1_ f2_ f3_;have f4_:=f1_.symm;have f5_:=f3_.symm;clear f1_ f2_ f3_;subst f4_;subst f5_));go_wp2;refine bodyPost_ret (results_ct rfl _ _ aw 43 #[.int .i64 ab,.slice ee ah.length ef,.int .i64 J,.int .i64 U,.int .i64 X] (0,0) _ rfl (PX D) Tryz.underlying43 rfl KR) rfl ?_;exact⟨_,_,RT,RX (Rt Y.out D) (fun _ hk=>trivial),RX (Rt ac.out D) (fun _ hk=>trivial),PB⟩
def impl_Mod.f (U:Int)(D:Int):Option (Int):=(impl_InRange.f D 1 1000000000000).bind fun J=>(if J=true then(if D=0 then(none) else(some (Int.tmod (wrap64 ((Int.tmod U D)+D)) D))) else(some 0))
theorem impl_Mod.calls (Z:Int)(D:Int)(r:Int)(w:World)(h:impl_Mod.f Z D=some r) :
  Calls Tryz.prog 76 #[.int .i64 Z,.int .i64 D] w fun e w'=>e = .returned (.int .i64 r)∧Drawn0 w w':=by
 have H:=h;clear h;unfold impl_Mod.f at H;replace H:=Option.bind_eq_some_iff.mp H;obtain⟨Y,X,H⟩:=H;(try dsimp only at H);have A3:=ak X;clear X
 by_cases J:Y=true
 ·subst J;rw[if_pos rfl] at H
  by_cases U:D=0
  ·rw[if_pos U] at H;exact absurd H (by simp)
  ·rw[if_neg U] at H;have ab:(D == 0)=false:=beq_eq_false_iff_ne.mpr U;have ac:(D != 0)=true:=bne_iff_ne.mpr U;obtain rfl:=Option.some.inj H;go_enter Tryz.func76,Tryz.ntmps76;go_wp2_with (first|(go_at_call 28;(with_reducible refine(impl_InRange.calls D 1 1000000000000 true _ A3.out).mono ?_);rintro e w' ⟨rfl,⟨nd,rfl⟩⟩))
   go_ret
   exact⟨FR,by repeat(first|exact Drawn0.refl _ | apply Drawn0.step)⟩
 ·replace J:=Bool.eq_false_iff.mpr J;subst J;rw[if_neg (show ¬(false=true) by decide)] at H;obtain rfl:=Option.some.inj H;go_enter Tryz.func76,Tryz.ntmps76;go_wp2_with (first|(go_at_call 28;(with_reducible refine(impl_InRange.calls D 1 1000000000000 false _ A3.out).mono ?_);rintro e w' ⟨rfl,⟨nd,rfl⟩⟩))
  go_ret
  exact⟨FR,by repeat(first|exact Drawn0.refl _ | apply Drawn0.step)⟩
def impl_Hash.l0:Nat→Int→List Int→Int→Int→Option (Int)
  | 0,_,_,_,_=>none
  | k+1,X,J,Y,D=>if D < Y then(if 0≤D then(if D < (J.length:Int) then((impl_Mod.f (rd J D) 2147483647).bind fun U=>(impl_Hash.l0 k (Int.tmod (wrap64 ((wrap64 ((wrap64 (X * 1000003))+U))+13)) 2147483647) J Y (wrap64 (D+1)))) else(none)) else(none)) else(some X)
def impl_Hash.f (k:Nat)(D:List Int):Option (Int):=impl_Hash.l0 k 11 D (D.length:Int) 0
theorem impl_Hash.calls (k:Nat)(A0:Option Addr)(c0:Nat)(J:List Int)(r:Int)(w:World)(ae:Kd.C (Kd.int .i64) w A0 J.length J)(af:J.length≤c0)(h:impl_Hash.f k J=some r) :
  Calls Tryz.prog 77 #[.slice A0 J.length c0] w fun e w'=>e = .returned (.int .i64 r)∧Drawn0 w w':=by
 have ap:=ak ae;have ay:=ak af;clear ae af;have H:=h;clear h;unfold impl_Hash.f at H;have H':=ak H;clear H;go_enter Tryz.func77,Tryz.ntmps77;go_wp2
 go_loopg [3,8] k (fun kq v3 v8 w'=>∃(U:Int)(D:Int),v3 = .int .i64 U∧v8 = .int .i64 D∧Aside0 (impl_Hash.l0 kq U J (J.length:Int) D=some r)∧Aside0 (kq≤k)∧Drawn0 w w')
 case atStart=>exact⟨(11),(0),FR,FR,H',⟨Nat.le_refl _⟩,by repeat(first|exact Drawn0.refl _ | apply Drawn0.step)⟩
 case round =>
  clear H';obtain⟨U,D,rfl,rfl,HA,ag,⟨m1,rfl⟩⟩:=hrel
  cases gk with
  | zero=>exact absurd HA.out (by simp[impl_Hash.l0])
  | succ k1 =>
   have H:=HA.out;clear HA;simp only[impl_Hash.l0] at H
   by_cases Z:D < (J.length:Int)
   ·rw[if_pos Z] at H;have ai:decide (D < (J.length:Int))=true:=decide_eq_true Z;clear Z
    by_cases c3:0≤D
    ·rw[if_pos c3] at H;have av:decide (0≤D)=true:=decide_eq_true c3;clear c3
     by_cases c4:D < (J.length:Int)
     ·rw[if_pos c4] at H;have aw:decide (D < (J.length:Int))=true:=decide_eq_true c4;clear c4;replace H:=Option.bind_eq_some_iff.mp H;obtain⟨aa,ah,H⟩:=H;(try dsimp only at H);have A5:=ak ah;clear ah;have H':=ak H;clear H;have X:0≤(D:Int):=od;have Y:D < (J.length:Int):=od;obtain⟨aq,aj,al⟩:=Kd.at_int ap.out D X Y;cases aj;replace X:=eq_true X;replace Y:=eq_true Y;go_wp2_with (first|(go_at_call 76;(with_reducible refine(impl_Mod.calls (rd J D) 2147483647 aa _ A5.out).mono ?_);rintro e w' ⟨rfl,⟨nd,rfl⟩⟩))
      go_roundg k1
      case measure=>have:=ag.out;omega
      case rel=>exact⟨(Int.tmod (wrap64 ((wrap64 ((wrap64 (U * 1000003))+aa))+13)) 2147483647),(wrap64 (D+1)),FR,FR,H',⟨by have:=ag.out;omega⟩,by repeat(first|exact Drawn0.refl _ | apply Drawn0.step)⟩
     ·rw[if_neg c4] at H;exact absurd H (by simp)
    ·rw[if_neg c3] at H;exact absurd H (by simp)
   ·rw[if_neg Z] at H;have ai:decide (D < (J.length:Int))=false:=decide_eq_false Z;clear Z;obtain rfl:=Option.some.inj H;go_wp2
    go_ret
    exact⟨FR,by repeat(first|exact Drawn0.refl _ | apply Drawn0.step)⟩

end Go.Proofs.YtcbelifjkpbkfaaGreat.MFnCaptures
