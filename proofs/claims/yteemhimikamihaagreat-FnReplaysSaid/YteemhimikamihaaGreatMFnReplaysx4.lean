import Derived.Test.YteemhimikamihaaGreatShr2
import Derived.Test.YteemhimikamihaaGreatMFnReplaysx0
import Derived.Test.YteemhimikamihaaGreatMFnReplaysx1
import Derived.Test.YteemhimikamihaaGreatMFnReplaysx2
import Derived.Test.YteemhimikamihaaGreatMFnReplaysx3
namespace Go.Proofs.YteemhimikamihaaGreat.MFnReplays
open Go.RowKit Go.Proofs.YteemhimikamihaaGreatW.PrintWords Go.Proofs.YteemhimikamihaaGreatW.PrintLast Go.Proofs.YteemhimikamihaaGreatW.PrintMore
attribute [local go_sem] max2_int min2_int max_two min_two max_three min_three max_four min_four
set_option linter.unusedVariables false
set_option maxHeartbeats 8000000
set_option maxRecDepth 100000
set_option linter.unusedSimpArgs false

def spec_l12Any.l0:Nat→List Int→Int→Int→List (S83)→Int→Int→List Int→Option ((List (S83))×Int×Int×List Int×Int×Int)
  | 0,_,_,_,_,_,_,_=>none
  | k+1,aa,Y,Z,J,U,X,D=>if (D.length:Int) < 9 then(if D.length < 17592186044416 then(spec_l12Any.l0 k aa Y Z J U X (D++[1])) else(none)) else(some (J,U,X,D,Y,Z))
def spec_l12Any.f (k:Nat)(s0_0:List Int)(s0_1:Int)(s0_2:Int):Option ((List (S83))×Int×Int×List Int×Int×Int):=(spec_l12Draw.f k s0_0 s0_1 s0_2).bind fun D=>((spec_l1Below.f s0_0 D.2.2.2.2.1 D.2.2.2.2.2 9).bind fun J=>(if J.1=0 then((spec_l1Int.f s0_0 J.2.1 J.2.2 (([(-1),1000,1001]:List Int))).bind fun U=>(some (D.1,U.1,D.2.2.1,D.2.2.2.1,U.2.1,U.2.2))) else(if J.1=1 then((spec_l1Int.f s0_0 J.2.1 J.2.2 (([(-1),9999,10000]:List Int))).bind fun X=>(some (D.1,D.2.1,X.1,D.2.2.2.1,X.2.1,X.2.2))) else(if J.1=2 then((spec_l1Int.f s0_0 J.2.1 J.2.2 (([(-1),999,1000]:List Int))).bind fun Y=>(if D.2.2.2.1.length < 17592186044416 then(some (D.1,D.2.1,D.2.2.1,(D.2.2.2.1++[Y.1]),Y.2.1,Y.2.2)) else(none))) else(if J.1=3 then((spec_l9Any.f k s0_0 J.2.1 J.2.2).bind fun Z=>(some (Z.1,D.2.1,D.2.2.1,D.2.2.2.1,Z.2.1,Z.2.2))) else(if J.1=4 then(spec_l12Any.l0 k s0_0 J.2.1 J.2.2 D.1 D.2.1 D.2.2.1 D.2.2.2.1) else(some (D.1,D.2.1,D.2.2.1,D.2.2.2.1,J.2.1,J.2.2))))))))
def spec_l12Any.T8:Bool×List (List Nat×List Nat):=(true,[([],[]),([0],[0]),([],[]),([],[]),([2,3],[2,3]),([4],[4]),([1,5,4],[1,5]),([0,1,2,3,4,5,6],[]),([7,6,6,0,1,2,3,4,5,6],[6,7])])
def spec_l12Any.B8:List Nat:=[0,1,0,0,12,28,63,127,255]
theorem spec_l12Any.tab8:rtab .any (opsOf Tryz.f39 8)=spec_l12Any.T8:=by kernel_rfl
theorem spec_l12Any.bits8:waitsOk spec_l12Any.T8.2 spec_l12Any.B8=true:=by kernel_rfl
theorem spec_l12Any.calls (k:Nat)(g:Nat)(s0_0:List Int)(s0_1:Int)(s0_2:Int)(r1:List (S83))(r2:Int)(r3:Int)(r4:List Int)(r5:Int)(r6:Int)(w0 w:World)(hI:IsS96 w0 w g s0_0 s0_1 s0_2)(hB:Below w0.heap.size w0 w)(h:spec_l12Any.f k s0_0 s0_1 s0_2=some (r1,r2,r3,r4,r5,r6)) :
  Calls Tryz.prog 39 #[.pointer (some ⟨g,0,none⟩)] w fun e w'=>∃ jd g5:Value,e = .returned (.agg #[jd,.int .i64 r2,.int .i64 r3,g5])∧Kd.S k83 83 w' w.heap.size (fun k_=>some k_≠(g5:Value).ownBlock) jd r1∧Kd.R (Kd.int .i64) 3 w' w.heap.size (fun _=>True) g5 r4∧IsS96 w0 w' g s0_0 r5 r6∧Below w0.heap.size w0 w'∧KeepBut w w' g none:=by
 have l8:=Tryz.underlying28;have HI0:=ak hI;have HK:=ak (KeepBut.refl w g none);have HL:=ak hB.size;clear hI;have HW0:=ak hB.size;have HB:=ak hB;clear hB;have H:=h;clear h;unfold spec_l12Any.f at H;obtain⟨⟨ai,aq,ar,aj,ac,ae⟩,A2,H⟩:=obq H;(try dsimp only at H);obtain⟨⟨ag,al,am⟩,A3,H⟩:=obq H;(try dsimp only at H);go_enter Tryz.func39,Tryz.ntmps39
 try go_wp2_with (first|((with_reducible refine gate_dst (N:=2) rfl ?_);refine bx_ (N:=2) #[.slice none 0 0,.int .i64 0,.int .i64 0,.slice none 0 0] 28 ?_;intro av hg w6 hbox hb;replace HB:=bs HB hb;have J:=ak hbox;have kn:=ak (kz hg HK);have ko:=ak (Nat.le_trans HW0.out (kz hg HK));replace HK:=kt HK (KeepBut.of_below hb g none);have aw:=ak (nh hg (IsS96.lt (show IsS96 w0 _ g s0_0 s0_1 s0_2 from PI)));have ah:=ak (ng hg (IsS96.lt (show IsS96 w0 _ g s0_0 s0_1 s0_2 from PI)));replace HI0:=ak (IsS96.below PI hb);clear hb hbox hg)|((with_reducible refine gate_callee (f:=34) rfl ?_);refine hold_ ?_))
 (refine unhold_ ?_;refine goesL_ (some 5) rfl rfl Tryz.func34 KR rfl #[.pointer (some ⟨g,0,none⟩)] rfl AR ?_;(with_reducible refine(spec_l12Draw.calls k g s0_0 s0_1 s0_2 ai aq ar aj ac ae w0 _ ?side1 ?side2 A2.out).mono ?_);(case side1=>exact PI);(case side2=>exact PL);rintro e w7 ⟨ma,mb,rfl,ho0,ho1,hi,hb,hk⟩;refine⟨_,rfl,?_⟩;replace J:=kq hk J ah;have X:=ak (Kd.S_lower ho0 (keep_size (w:=w) (g:=g) (row:=none) PH));have U:=ak (Kd.R_lower ho1 (keep_size (w:=w) (g:=g) (row:=none) PH));replace HK:=kt HK hk;replace HB:=ak hb;replace HI0:=ak (hi);clear hb hk hi ho0 ho1)
 by_cases c4:ag=0
 ·rw[if_pos c4] at H;obtain⟨g6,g7⟩:=eqq1 c4;clear c4;obtain⟨ca,bh⟩:∃ y_:List Int,y_=(([(-1),1000,1001]:List Int)):=⟨_,rfl⟩
  first|replace H:=bnd_ H bh|rw[←bh] at H
  have ch:=ak bh;clear bh;obtain⟨⟨g8,jk,jl⟩,A5,H⟩:=obq H;(try dsimp only at H);simp only[Option.some.injEq,Prod.mk.injEq] at H;obtain⟨rfl,rfl,rfl,rfl,rfl,rfl⟩:=H;go_wp2_with (first|((with_reducible refine gate_dst (N:=3) rfl ?_);refine bx_ (N:=3) #[.slice none 0 0,.int .i64 0,.int .i64 0,.slice none 0 0] 28 ?_;intro au hg w8 hbox hb;replace X:=Sb X hb;replace U:=Rb U hb;replace HB:=bs HB hb;have D:=ak hbox;have ba:=ak (kz hg HK);have bb:=ak (Nat.le_trans HW0.out (kz hg HK));replace HK:=kt HK (KeepBut.of_below hb g none);have Z:=gm hg J;have aa:=gn hg J;replace J:=kf J hb;have ao:=ak (nh hg (IsS96.lt (show IsS96 w0 _ g s0_0 ac ae from PI)));have Y:=ak (ng hg (IsS96.lt (show IsS96 w0 _ g s0_0 ac ae from PI)));replace HI0:=ak (IsS96.below PI hb);clear hb hbox hg;obtain⟨jh,ji,j5⟩:=Kd.S_slice X.out;subst j5;have ks:=aa.out;have ku:=Z.out;have kv:=Y.out;have kw:=ao.out;obtain⟨dc,de,df,dg,dh,di,dj,dk⟩:=bc4 D;obtain⟨g9,ia,rfl⟩:=Kd.R_slice U.out)|(go_at_call 35;(with_reducible refine(spec_l1Below.calls g s0_0 ac ae 9 ag al am w0 _ ?side1 ?side2 A3.out).mono ?_);(case side1=>exact PI);(case side2=>exact PL);rintro e mo ⟨rfl,hi,hb,hk⟩;replace J:=kq hk J ah;replace X:=Sk (IsS96.apartS (show IsS96 w0 _ g s0_0 ac ae from PI) (Se1 X D) (by decide)) hk;replace U:=Rk (IsS96.apart (show IsS96 w0 _ g s0_0 ac ae from PI) (Re1 U D) (by decide)) hk;replace D:=kr (cs':=#[.slice jh ai.length ji,.int .i64 aq,.int .i64 ar,.slice g9 aj.length ia]) hk D Y;replace HK:=kt HK hk;replace HB:=ak hb;replace HI0:=ak (hi);clear hb hk hi)|((with_reducible refine gate_dst (N:=11) rfl ?_);refine Kd.R_lit (Kd.int .i64) _ 3 ?hg (N:=11) ?hd (xs:=([(-1),1000,1001]:List Int)) (inner:=[.int .i64 (-1),.int .i64 1000,.int .i64 1001]) (ok:=fun _=>True) (okp:=fun _=>True) ?hr ?hp (fun _ hk=>hk) trivial (Below.refl _ _) (Nat.le_refl _) (by simp) ?_;(case hd=>rfl);(case hg=>rfl);(case hr=>first|(go_simp;done)|(go_simp;rfl));(case hp=>exact(Reps.one (show Kd.M (Kd.int .i64) _ _ _ (-1) [.int .i64 (-1)] from rfl) (Reps.one (show Kd.M (Kd.int .i64) _ _ _ 1000 [.int .i64 1000] from rfl) (Reps.one (show Kd.M (Kd.int .i64) _ _ _ 1001 [.int .i64 1001] from rfl) (Reps.none _ _)))));intro me mq ho16 hb hg_ hnew_;clear hg_ hnew_;(first|rw[←ch.out] at ho16|(simp only[Int.reduceToNat] at ho16;rw[←ch.out] at ho16));replace X:=ak (Kd.S_elder' (PS X) (Kd.R_base ho16) hb);have bi:=ak (Kd.R_lower (Kd.R_new' ho16 (Kd.R_lt (PR U))) (keep_size (w:=w) (g:=g) (row:=none) PH));replace U:=ak (Kd.R_elder' (PR U) (Kd.R_base ho16) hb);replace HI0:=ak (IsS96.below PI hb);replace J:=kf J hb;replace D:=kf D hb;replace HK:=kt HK (KeepBut.of_below hb g none);replace HB:=bs HB hb;clear hb ho16;obtain⟨jm,jn,rfl⟩:=Kd.R_slice bi.out)|(go_at_call 56;(with_reducible refine(spec_l1Int.calls g s0_0 al am _ _ ca g8 jk jl w0 _ ?side1 ?side2 ?side3 (rl bi) ?side5 A5.out).mono ?_);(case side1=>exact PI);(case side2=>exact PL);(case side3=>exact CR (rr bi));(case side5=>exact far_slice (IsS96.own_ne HI0.out bi.out (by decide)));rintro e mr ⟨rfl,hi,hb,hk⟩;replace J:=kq hk J ah;replace X:=Sk (IsS96.apartS (show IsS96 w0 _ g s0_0 al am from PI) (PS X) (by decide)) hk;replace U:=Rk (IsS96.apart (show IsS96 w0 _ g s0_0 al am from PI) (PR U) (by decide)) hk;replace D:=kq hk D Y;replace HK:=kt HK hk;replace HB:=ak hb;replace HI0:=ak (hi);clear hb hk hi;obtain⟨dl,dn,dp,dq,dr,dt,du,dv⟩:=bc4 D;have ky:=ah.out;have k0:=aw.out;obtain⟨dw,dx,dy,dz,d7,d8,d9,ea⟩:=bc4 J));refine bodyPost_ret (results_cell_row rfl _ _ av 28 #[.slice jh ai.length ji,.int .i64 g8,.int .i64 ar,.slice g9 aj.length ia] (0,0) _ rfl (PX J) Tryz.underlying28 rfl KR) rfl ?_;exact⟨_,_,RT,SX (St (St X.out D) J) (fun _ hk=>by first|exact hk.1.1.1 | simp_all),RX (Rt (Rt U.out D) J) (fun _ hk=>trivial),PI,PL,PH⟩
 ·rw[if_neg c4] at H;obtain⟨g6,g7⟩:=eqq2 c4
  by_cases bc:ag=1
  ·rw[if_pos bc] at H;obtain⟨ci,cj⟩:=eqq1 bc;clear bc;obtain⟨cb,bj⟩:∃ y_:List Int,y_=(([(-1),9999,10000]:List Int)):=⟨_,rfl⟩
   first|replace H:=bnd_ H bj|rw[←bj] at H
   have ck:=ak bj;clear bj;obtain⟨⟨ib,jo,jp⟩,j6,H⟩:=obq H;(try dsimp only at H);simp only[Option.some.injEq,Prod.mk.injEq] at H;obtain⟨rfl,rfl,rfl,rfl,rfl,rfl⟩:=H;go_wp2_with (first|((with_reducible refine gate_dst (N:=3) rfl ?_);refine bx_ (N:=3) #[.slice none 0 0,.int .i64 0,.int .i64 0,.slice none 0 0] 28 ?_;intro au hg ms hbox hb;replace X:=Sb X hb;replace U:=Rb U hb;replace HB:=bs HB hb;have D:=ak hbox;have ba:=ak (kz hg HK);have bb:=ak (Nat.le_trans HW0.out (kz hg HK));replace HK:=kt HK (KeepBut.of_below hb g none);have Z:=gm hg J;have aa:=gn hg J;replace J:=kf J hb;have ao:=ak (nh hg (IsS96.lt (show IsS96 w0 _ g s0_0 ac ae from PI)));have Y:=ak (ng hg (IsS96.lt (show IsS96 w0 _ g s0_0 ac ae from PI)));replace HI0:=ak (IsS96.below PI hb);clear hb hbox hg;obtain⟨ie,ig,jq⟩:=Kd.S_slice X.out;subst jq;have k2:=aa.out;have k3:=Z.out;have k4:=Y.out;have k5:=ao.out;obtain⟨eb,ec,ed,ee,ef,eg,eh,ei⟩:=bc4 D;obtain⟨ii,ij,rfl⟩:=Kd.R_slice U.out)|(go_at_call 35;(with_reducible refine(spec_l1Below.calls g s0_0 ac ae 9 ag al am w0 _ ?side1 ?side2 A3.out).mono ?_);(case side1=>exact PI);(case side2=>exact PL);rintro e mt ⟨rfl,hi,hb,hk⟩;replace J:=kq hk J ah;replace X:=Sk (IsS96.apartS (show IsS96 w0 _ g s0_0 ac ae from PI) (Se1 X D) (by decide)) hk;replace U:=Rk (IsS96.apart (show IsS96 w0 _ g s0_0 ac ae from PI) (Re1 U D) (by decide)) hk;replace D:=kr (cs':=#[.slice ie ai.length ig,.int .i64 aq,.int .i64 ar,.slice ii aj.length ij]) hk D Y;replace HK:=kt HK hk;replace HB:=ak hb;replace HI0:=ak (hi);clear hb hk hi)|((with_reducible refine gate_dst (N:=17) rfl ?_);refine Kd.R_lit (Kd.int .i64) _ 3 ?hg (N:=17) ?hd (xs:=([(-1),9999,10000]:List Int)) (inner:=[.int .i64 (-1),.int .i64 9999,.int .i64 10000]) (ok:=fun _=>True) (okp:=fun _=>True) ?hr ?hp (fun _ hk=>hk) trivial (Below.refl _ _) (Nat.le_refl _) (by simp) ?_;(case hd=>rfl);(case hg=>rfl);(case hr=>first|(go_simp;done)|(go_simp;rfl));(case hp=>exact(Reps.one (show Kd.M (Kd.int .i64) _ _ _ (-1) [.int .i64 (-1)] from rfl) (Reps.one (show Kd.M (Kd.int .i64) _ _ _ 9999 [.int .i64 9999] from rfl) (Reps.one (show Kd.M (Kd.int .i64) _ _ _ 10000 [.int .i64 10000] from rfl) (Reps.none _ _)))));intro mf mu ho34 hb hg_ hnew_;clear hg_ hnew_;(first|rw[←ck.out] at ho34|(simp only[Int.reduceToNat] at ho34;rw[←ck.out] at ho34));replace X:=ak (Kd.S_elder' (PS X) (Kd.R_base ho34) hb);have bk:=ak (Kd.R_lower (Kd.R_new' ho34 (Kd.R_lt (PR U))) (keep_size (w:=w) (g:=g) (row:=none) PH));replace U:=ak (Kd.R_elder' (PR U) (Kd.R_base ho34) hb);replace HI0:=ak (IsS96.below PI hb);replace J:=kf J hb;replace D:=kf D hb;replace HK:=kt HK (KeepBut.of_below hb g none);replace HB:=bs HB hb;clear hb ho34;obtain⟨jr,js,rfl⟩:=Kd.R_slice bk.out)|(go_at_call 56;(with_reducible refine(spec_l1Int.calls g s0_0 al am _ _ cb ib jo jp w0 _ ?side1 ?side2 ?side3 (rl bk) ?side5 j6.out).mono ?_);(case side1=>exact PI);(case side2=>exact PL);(case side3=>exact CR (rr bk));(case side5=>exact far_slice (IsS96.own_ne HI0.out bk.out (by decide)));rintro e mv ⟨rfl,hi,hb,hk⟩;replace J:=kq hk J ah;replace X:=Sk (IsS96.apartS (show IsS96 w0 _ g s0_0 al am from PI) (PS X) (by decide)) hk;replace U:=Rk (IsS96.apart (show IsS96 w0 _ g s0_0 al am from PI) (PR U) (by decide)) hk;replace D:=kq hk D Y;replace HK:=kt HK hk;replace HB:=ak hb;replace HI0:=ak (hi);clear hb hk hi;obtain⟨ej,ek,el,em,en,eo,ep,eq⟩:=bc4 D;have k6:=ah.out;have k7:=aw.out;obtain⟨er,es,et,eu,ev,ew,ex,ey⟩:=bc4 J));refine bodyPost_ret (results_cell_row rfl _ _ av 28 #[.slice ie ai.length ig,.int .i64 aq,.int .i64 ib,.slice ii aj.length ij] (0,0) _ rfl (PX J) Tryz.underlying28 rfl KR) rfl ?_;exact⟨_,_,RT,SX (St (St X.out D) J) (fun _ hk=>by first|exact hk.1.1.1 | simp_all),RX (Rt (Rt U.out D) J) (fun _ hk=>trivial),PI,PL,PH⟩
  ·rw[if_neg bc] at H;obtain⟨ci,cj⟩:=eqq2 bc
   by_cases bd:ag=2
   ·rw[if_pos bd] at H;obtain⟨cl,cm⟩:=eqq1 bd;clear bd;obtain⟨bp,bl⟩:∃ y_:List Int,y_=(([(-1),999,1000]:List Int)):=⟨_,rfl⟩
    first|replace H:=bnd_ H bl|rw[←bl] at H
    have cn:=ak bl;clear bl;obtain⟨⟨b7,ik,il⟩,j7,H⟩:=obq H;(try dsimp only at H)
    by_cases b9:aj.length < 17592186044416
    ·rw[if_pos b9] at H;have i4:=ak b9;clear b9;obtain⟨cd,bm⟩:∃ y_:List Int,y_=(aj++[b7]):=⟨_,rfl⟩
     first|replace H:=bnd_ H bm|rw[←bm] at H
     have i5:=ak bm;clear bm;simp only[Option.some.injEq,Prod.mk.injEq] at H;obtain⟨rfl,rfl,rfl,rfl,rfl,rfl⟩:=H
     try go_wp2_with (first|((with_reducible refine gate_dst (N:=3) rfl ?_);refine bx_ (N:=3) #[.slice none 0 0,.int .i64 0,.int .i64 0,.slice none 0 0] 28 ?_;intro au hg mw hbox hb;replace X:=Sb X hb;replace U:=Rb U hb;replace HB:=bs HB hb;have D:=ak hbox;have ba:=ak (kz hg HK);have bb:=ak (Nat.le_trans HW0.out (kz hg HK));replace HK:=kt HK (KeepBut.of_below hb g none);have Z:=gm hg J;have aa:=gn hg J;replace J:=kf J hb;have ao:=ak (nh hg (IsS96.lt (show IsS96 w0 _ g s0_0 ac ae from PI)));have Y:=ak (ng hg (IsS96.lt (show IsS96 w0 _ g s0_0 ac ae from PI)));replace HI0:=ak (IsS96.below PI hb);clear hb hbox hg;obtain⟨br,bu,jt⟩:=Kd.S_slice X.out;subst jt;have k8:=aa.out;have k9:=Z.out;have la:=Y.out;have lb:=ao.out;obtain⟨ez,e7,e8,e9,fa,fb,fc,fd⟩:=bc4 D;obtain⟨bv,bw,rfl⟩:=Kd.R_slice U.out)|(go_at_call 35;(with_reducible refine(spec_l1Below.calls g s0_0 ac ae 9 ag al am w0 _ ?side1 ?side2 A3.out).mono ?_);(case side1=>exact PI);(case side2=>exact PL);rintro e j8 ⟨rfl,hi,hb,hk⟩;replace J:=kq hk J ah;replace X:=Sk (IsS96.apartS (show IsS96 w0 _ g s0_0 ac ae from PI) (Se1 X D) (by decide)) hk;replace U:=Rk (IsS96.apart (show IsS96 w0 _ g s0_0 ac ae from PI) (Re1 U D) (by decide)) hk;replace D:=kr (cs':=#[.slice br ai.length bu,.int .i64 aq,.int .i64 ar,.slice bv aj.length bw]) hk D Y;replace HK:=kt HK hk;replace HB:=ak hb;replace HI0:=ak (hi);clear hb hk hi))
     replace X:=ak (Kd.S_drew X.out);replace U:=ak (Kd.R_drew U.out);replace J:=ak (blk_drew J.out);replace D:=ak (blk_drew D.out);replace HI0:=ak (IsS96.drew HI0.out);replace HK:=ak (keep_drew HK.out);replace HB:=ak (below_drew1 HB.out);refine start_ (n:=9) (S:=fun w'=>w'.cell? ⟨au,0,none⟩=some (.slice br ai.length bu)∧w'.cell? ⟨au,1,none⟩=some (.int .i64 aq)∧w'.cell? ⟨au,2,none⟩=some (.int .i64 ar)∧w'.cell? ⟨au,3,none⟩=some (.slice bv aj.length bw)) (ds:=[8]) #[false,false,false,false,false,false,false,false,false] KR rfl rfl ⟨bq D 0,bq D 1,bq D 2,bq D 3⟩ (fun hHeld=>?_);refine with_tabW spec_l12Any.tab8 spec_l12Any.bits8 (fun HT_ HW_=>?_)
     generalize j8.drew=my at X U J D HI0 HK HB hHeld ⊢
     refine pu_ (i:=0) (N:=some 22) #[true,false,false,false,false,false,false,false,false] HT_ ?_;refine pu_ (i:=2) (N:=some 24) #[true,false,true,false,false,false,false,false,false] HT_ ?_;refine tk_ (i:=1) (N:=some 23) #[true,true,true,false,false,false,false,false,false] rfl rfl HT_ HW_ hHeld ?_;refine one_ (i:=3) (N:=some 25) #[true,true,true,true,false,false,false,false,false] rfl rfl (one_of HT_.out KR) (by decide) (fun K hK=>?_);refine Kd.R_lit_step (Kd.int .i64) _ 3 ?hg (N:=25) ?hd (xs:=([(-1),999,1000]:List Int)) (inner:=[.int .i64 (-1),.int .i64 999,.int .i64 1000]) (ok:=fun _=>True) (okp:=fun _=>True) ?hr ?hp (fun _ hk=>hk) trivial (Below.refl _ _) (Nat.le_refl _) (by simp) ?_;(case hd=>rfl);(case hg=>rfl);(case hr=>first|(go_simp;done)|(go_simp;rfl));(case hp=>exact(Reps.one (show Kd.M (Kd.int .i64) _ _ _ (-1) [.int .i64 (-1)] from rfl) (Reps.one (show Kd.M (Kd.int .i64) _ _ _ 999 [.int .i64 999] from rfl) (Reps.one (show Kd.M (Kd.int .i64) _ _ _ 1000 [.int .i64 1000] from rfl) (Reps.none _ _)))));intro mg mz ho54 hb hg_ hnew_;clear hg_ hnew_;(first|rw[←cn.out] at ho54|(simp only[Int.reduceToNat] at ho54;rw[←cn.out] at ho54));replace X:=ak (Kd.S_elder' (PS X) (Kd.R_base ho54) hb);have ay:=ak (Kd.R_lower (Kd.R_new' ho54 (Kd.R_lt (PR U))) (keep_size (w:=w) (g:=g) (row:=none) PH));replace U:=ak (Kd.R_elder' (PR U) (Kd.R_base ho54) hb);replace HI0:=ak (IsS96.below PI hb);replace J:=kf J hb;replace D:=kf D hb;replace HK:=kt HK (KeepBut.of_below hb g none);replace HB:=bs HB hb;clear hb ho54;obtain⟨ce,cf,io⟩:=Kd.R_slice ay.out;(first|subst io|(injection io with f1_ f2_ f3_;have f4_:=f1_.symm;have f5_:=f3_.symm;clear f1_ f2_ f3_;subst f4_;subst f5_));refine hK.out _ _ ⟨bq D 0,bq D 1,bq D 2,bq D 3⟩ (fun hHeld=>?_);clear hK K;refine nq_ (N:=(some 25)) ?_
     refine one_ (i:=4) (N:=some 26) #[true,true,true,true,true,false,false,false,false] rfl rfl (one_of HT_.out KR) (by decide) (fun K hK=>?_);refine goes_ Tryz.func56 KR rfl #[.pointer (some ⟨g,0,none⟩),.slice ce bp.length cf] (by rfl) rfl rfl AR ?_
     with_reducible refine(spec_l1Int.calls g s0_0 al am _ _ bp b7 ik il w0 _ ?side1 ?side2 ?side3 ?side4 ?side5 j7.out).mono ?_
     (case side1=>exact PI);(case side2=>exact PL);(case side3=>exact CR (rr ay));(case side4=>exact rl ay);(case side5=>exact far_slice (IsS96.own_ne HI0.out ay.out (by decide)));rintro e m0 ⟨rfl,hi,hb,hk⟩;refine⟨_,rfl,?_⟩;replace J:=kq hk J ah;replace X:=Sk (IsS96.apartS (show IsS96 w0 _ g s0_0 al am from PI) (PS X) (by decide)) hk;replace U:=Rk (IsS96.apart (show IsS96 w0 _ g s0_0 al am from PI) (PR U) (by decide)) hk;replace D:=kq hk D Y;replace ay:=Rk (IsS96.apart (show IsS96 w0 _ g s0_0 al am from PI) (PR ay) (by decide)) hk;replace HK:=kt HK hk;replace HB:=ak hb;replace HI0:=ak (hi);(try clear hb);(try clear hb2);(try clear hk);(try clear hi);refine hK.out _ _ ⟨bq D 0,bq D 1,bq D 2,bq D 3⟩ (fun hHeld=>?_);clear hK K;refine nq_ (N:=(some 26)) ?_
     refine one_ (i:=5) (N:=some 27) #[true,true,true,true,true,true,false,false,false] rfl rfl (one_of HT_.out KR) (by decide) (fun K hK=>?_);refine value_ (w1:=?_) (v:=?_) (by rfl) rfl ?_ ?_
     rotate_left 2
     ·go_simp
      constructor
      ·rfl
      ·rfl
     refine hK.out _ _ ⟨(blk_cell (blk_alloc D.out _) 0).trans rfl,(blk_cell (blk_alloc D.out _) 1).trans rfl,(blk_cell (blk_alloc D.out _) 2).trans rfl,(blk_cell (blk_alloc D.out _) 3).trans rfl⟩ (fun hHeld=>?_);clear hK K;refine nq_ (N:=(some 27)) ?_
     refine one_ (i:=6) (N:=some 28) #[true,true,true,true,true,true,true,false,false] rfl rfl (one_of HT_.out KR) (by decide) (fun K hK=>?_);refine Kd.R_append_step (Kd.int .i64) w.heap.size (by rfl) (.tmp 23) (.tmp 27) 26 3 (.int .i64 0) 8 rfl Tryz.underlying26 info3 rfl (by decide) (by omega) (.slice bv aj.length bw) aj b7 [.int .i64 b7] (fun k_=>some k_≠(.slice ce bp.length cf:Value).ownBlock) (fun _=>False) rfl rfl ?aP (fun _ hk=>hk.elim) ?aF ?aO (Below.refl _ _) ?aS ?aL ?_;(case aP=>exact rfl);(case aF=>exact(fun k_ hk=>Kd.fresh' (Kd.R_lt (PR ay)) k_ hk));(case aO=>exact(RX U.out FK));(case aS=>exact(keep_size (w:=w) (g:=g) (row:=none) PH));(case aL=>have:=i4.out;omega);intro mh j9 ho hb hg hat;rw[←i5.out] at ho;replace HI0:=ak (IsS96.grown PI hg (IsS96.own_ne HI0.out U.out (by decide)));replace J:=ak (blk_grown (g:=av) (o:=.cells #[.slice none 0 0,.int .i64 0,.int .i64 0,.slice none 0 0] 28 (0,0)) (PK J) hg (Kd.R_ne U.out J.out (by decide)));replace X:=ak (Kd.S_after (ok:=(fun k_=>some k_≠(.slice ce bp.length cf:Value).ownBlock)) (SX X.out (fun _ hk=>by first|exact⟨hk.2,hk.1⟩ | simp_all)) hg hat);replace D:=ak (blk_grown (g:=au) (o:=.cells #[.slice br ai.length bu,.int .i64 aq,.int .i64 ar,.slice bv aj.length bw] 28 (0,0)) (PK D) hg (Kd.R_ne U.out D.out (by decide)));replace HB:=ak (below_weaken PL HL.out hb);replace HK:=ak (KeepBut.trans PH (KeepBut.of_grown hg g) (Kd.R_base2 U.out));have co:=ak (ho);clear U;clear ho hb hg hat;obtain⟨ip,iq,ir⟩:=Kd.R_slice co.out;(first|subst ir|(injection ir with f1_ f2_ f3_;have f4_:=f1_.symm;have f5_:=f3_.symm;clear f1_ f2_ f3_;subst f4_;subst f5_));refine hK.out _ _ ⟨bq D 0,bq D 1,bq D 2,bq D 3⟩ (fun hHeld=>?_);clear hK K;refine nq_ (N:=(some 28)) ?_
     refine pu_ (i:=7) (N:=some 29) #[true,true,true,true,true,true,true,true,false] HT_ ?_;refine last_ (i:=8) (N:=none) #[true,true,true,true,true,true,true,true,true] rfl rfl (one_of HT_.out KR) (by decide) (fun K hK=>?_);have hs59:j9.cell? ⟨au,3,none⟩=some (.slice bv aj.length bw):=bq D 3;have hfs59:=blk_frozen D.out 3;have hns59_0:=Z.out;have hms59_0:=aa.out;refine skip_ (w1:=?_) (by rfl) rfl ?_ ?_;rotate_left
     ·go_simp
      rfl
     refine hK.out _ _ ?_;clear hK K;refine done_ (done_of HT_.out KR) ?_;obtain⟨fe,ff,fg,fh,fi,fj,fk,fl⟩:=bc4 D;have lc:=ah.out;have ld:=aw.out;obtain⟨fm,fo,fp,fq,ft,fu,fv,fw⟩:=bc4 J
     try go_wp2
     refine bodyPost_ret (results_cell_row rfl _ _ av 28 #[.slice br ai.length bu,.int .i64 aq,.int .i64 ar,.slice ip cd.length iq] (0,0) _ rfl (PX J) Tryz.underlying28 rfl KR) rfl ?_;exact⟨.slice br ai.length bu,.slice ip cd.length iq,RT,SX (St (St X.out D) J) (fun _ hk=>by first|exact hk.1.1.2 | simp_all),RX (Rt (Rt co.out D) J) (fun _ hk=>trivial),PI,PL,PH⟩
    ·rw[if_neg b9] at H;exact absurd H (by simp)
   ·rw[if_neg bd] at H;obtain⟨cl,cm⟩:=eqq2 bd
    by_cases bf:ag=3
    ·rw[if_pos bf] at H;obtain⟨cp,cq⟩:=eqq1 bf;clear bf;obtain⟨⟨iu,ju,jv⟩,ka,H⟩:=obq H;(try dsimp only at H);simp only[Option.some.injEq,Prod.mk.injEq] at H;obtain⟨rfl,rfl,rfl,rfl,rfl,rfl⟩:=H;go_wp2_with (first|((with_reducible refine gate_dst (N:=3) rfl ?_);refine bx_ (N:=3) #[.slice none 0 0,.int .i64 0,.int .i64 0,.slice none 0 0] 28 ?_;intro au hg m1 hbox hb;replace X:=Sb X hb;replace U:=Rb U hb;replace HB:=bs HB hb;have D:=ak hbox;have ba:=ak (kz hg HK);have bb:=ak (Nat.le_trans HW0.out (kz hg HK));replace HK:=kt HK (KeepBut.of_below hb g none);have Z:=gm hg J;have aa:=gn hg J;replace J:=kf J hb;have ao:=ak (nh hg (IsS96.lt (show IsS96 w0 _ g s0_0 ac ae from PI)));have Y:=ak (ng hg (IsS96.lt (show IsS96 w0 _ g s0_0 ac ae from PI)));replace HI0:=ak (IsS96.below PI hb);clear hb hbox hg;obtain⟨jw,jx,jy⟩:=Kd.S_slice X.out;subst jy;have le:=aa.out;have lf:=Z.out;have lg:=Y.out;have lh:=ao.out;obtain⟨fx,fy,fz,f0,f1,f2,f3,f4⟩:=bc4 D;obtain⟨iw,ix,rfl⟩:=Kd.R_slice U.out)|(go_at_call 35;(with_reducible refine(spec_l1Below.calls g s0_0 ac ae 9 ag al am w0 _ ?side1 ?side2 A3.out).mono ?_);(case side1=>exact PI);(case side2=>exact PL);rintro e m2 ⟨rfl,hi,hb,hk⟩;replace J:=kq hk J ah;replace X:=Sk (IsS96.apartS (show IsS96 w0 _ g s0_0 ac ae from PI) (Se1 X D) (by decide)) hk;replace U:=Rk (IsS96.apart (show IsS96 w0 _ g s0_0 ac ae from PI) (Re1 U D) (by decide)) hk;replace D:=kr (cs':=#[.slice jw ai.length jx,.int .i64 aq,.int .i64 ar,.slice iw aj.length ix]) hk D Y;replace HK:=kt HK hk;replace HB:=ak hb;replace HI0:=ak (hi);clear hb hk hi)|(go_at_call 59;(with_reducible refine(spec_l9Any.calls k g s0_0 al am iu ju jv w0 _ ?side1 ?side2 ka.out).mono ?_);(case side1=>exact PI);(case side2=>exact PL);rintro e m3 ⟨mi,rfl,ho0,hi,hb,hk⟩;replace J:=kq hk J ah;replace D:=kq hk D Y;have cr:=ak (Kd.S_lower (Kd.S_new' (Kd.S_new' ho0 (Kd.S_lt (PS X))) (Kd.R_lt (PR U))) (keep_size (w:=w) (g:=g) (row:=none) PH));replace U:=Rk (IsS96.apart (show IsS96 w0 _ g s0_0 al am from PI) (PR U) (by decide)) hk;replace HK:=kt HK hk;replace HB:=ak hb;replace HI0:=ak (hi);clear hb hk hi ho0;obtain⟨jz,j0,j1⟩:=Kd.S_slice cr.out;subst j1;obtain⟨f5,f6,f7,f8,f9,ga,gb,gc⟩:=bc4 D;have ll:=ah.out;have lp:=aw.out;obtain⟨gf,gg,gh,gi,gj,gp,gq,gr⟩:=bc4 J));refine bodyPost_ret (results_cell_row rfl _ _ av 28 #[.slice jz iu.length j0,.int .i64 aq,.int .i64 ar,.slice iw aj.length ix] (0,0) _ rfl (PX J) Tryz.underlying28 rfl KR) rfl ?_;exact⟨_,_,RT,SX (St (St cr.out D) J) (fun _ hk=>by first|exact hk.1.1.2 | simp_all),RX (Rt (Rt U.out D) J) (fun _ hk=>trivial),PI,PL,PH⟩
    ·rw[if_neg bf] at H;obtain⟨cp,cq⟩:=eqq2 bf
     by_cases bg:ag=4
     ·rw[if_pos bg] at H;obtain⟨ct,cu⟩:=eqq1 bg;clear bg;have H':=ak H;clear H;go_wp2_with (first|((with_reducible refine gate_dst (N:=3) rfl ?_);refine bx_ (N:=3) #[.slice none 0 0,.int .i64 0,.int .i64 0,.slice none 0 0] 28 ?_;intro au hg m4 hbox hb;replace X:=Sb X hb;replace U:=Rb U hb;replace HB:=bs HB hb;have D:=ak hbox;have ba:=ak (kz hg HK);have bb:=ak (Nat.le_trans HW0.out (kz hg HK));replace HK:=kt HK (KeepBut.of_below hb g none);have Z:=gm hg J;have aa:=gn hg J;replace J:=kf J hb;have ao:=ak (nh hg (IsS96.lt (show IsS96 w0 _ g s0_0 ac ae from PI)));have Y:=ak (ng hg (IsS96.lt (show IsS96 w0 _ g s0_0 ac ae from PI)));replace HI0:=ak (IsS96.below PI hb);clear hb hbox hg;obtain⟨bx,bz,j2⟩:=Kd.S_slice X.out;subst j2;have lr:=aa.out;have ls:=Z.out;have lu:=Y.out;have lv:=ao.out;obtain⟨gs,gt,gu,gv,gw,gx,g0,g4⟩:=bc4 D;obtain⟨iy,i1,rfl⟩:=Kd.R_slice U.out)|(go_at_call 35;(with_reducible refine(spec_l1Below.calls g s0_0 ac ae 9 ag al am w0 _ ?side1 ?side2 A3.out).mono ?_);(case side1=>exact PI);(case side2=>exact PL);rintro e m5 ⟨rfl,hi,hb,hk⟩;replace J:=kq hk J ah;replace X:=Sk (IsS96.apartS (show IsS96 w0 _ g s0_0 ac ae from PI) (Se1 X D) (by decide)) hk;replace U:=Rk (IsS96.apart (show IsS96 w0 _ g s0_0 ac ae from PI) (Re1 U D) (by decide)) hk;replace D:=kr (cs':=#[.slice bx ai.length bz,.int .i64 aq,.int .i64 ar,.slice iy aj.length i1]) hk D Y;replace HK:=kt HK hk;replace HB:=ak hb;replace HI0:=ak (hi);clear hb hk hi))
      go_loopg [] k (fun kq w'=>∃(ab:List Int)(az:Value),Aside0 (spec_l12Any.l0 kq s0_0 al am ai aq ar ab=some (r1,r2,r3,r4,r5,r6))∧Aside0 (kq≤k)∧Aside0 (Kd.S k83 83 w' w.heap.size (fun k_=>some k_≠(az:Value).ownBlock) (.slice bx ai.length bz) ai)∧Aside0 (Kd.R (Kd.int .i64) 3 w' w.heap.size (fun _=>True) az ab)∧Aside0 (w'.heap[av]?=some (.cells #[(.slice none 0 0),.int .i64 0,.int .i64 0,(.slice none 0 0)] 28 (0,0)))∧Aside0 (w'.heap[au]?=some (.cells #[(.slice bx ai.length bz),.int .i64 aq,.int .i64 ar,az] 28 (0,0)))∧Aside0 (IsS96 w0 w' g s0_0 al am)∧Aside0 (KeepBut w w' g none)∧Aside0 (Below w0.heap.size w0 w'))
      case atStart=>exact⟨(aj),(.slice iy aj.length i1),H',⟨Nat.le_refl _⟩,⟨PS X⟩,⟨PR U⟩,⟨PK J⟩,⟨PK D⟩,⟨PI⟩,⟨PH⟩,⟨PL⟩⟩
      case round =>
       clear H';(try clear c1);(try clear c2);(try clear p2);(try clear c3);(try clear c4);(try clear g6);(try clear g7);(try clear c5);(try clear c6);(try clear c7);(try clear c8);(try clear m6);(try clear m7);(try clear m8);(try clear bc);(try clear ci);(try clear cj);(try clear m9);(try clear na);(try clear nb);(try clear nc);(try clear nd);(try clear ne);(try clear bd);(try clear cl);(try clear cm);(try clear b9);(try clear nf);(try clear ni);(try clear nj);(try clear nk);(try clear nl);(try clear bf);(try clear cp);(try clear cq);(try clear nm);(try clear nn);(try clear np);(try clear bg);(try clear ct);(try clear cu);(try clear nq);(try clear nr);(try clear dc);(try clear de);(try clear df);(try clear dg);(try clear dl);(try clear dn);(try clear dp);(try clear dq);(try clear dw);(try clear dx);(try clear dy);(try clear dz);(try clear eb);(try clear ec);(try clear ed);(try clear ee);(try clear ej);(try clear ek);(try clear el);(try clear em);(try clear er);(try clear es);(try clear et);(try clear eu);(try clear ez);(try clear e7);(try clear e8);(try clear e9);(try clear fe);(try clear ff);(try clear fg);(try clear fh);(try clear fm);(try clear fo);(try clear fp);(try clear fq);(try clear fx);(try clear fy);(try clear fz);(try clear f0);(try clear f5);(try clear f6);(try clear f7);(try clear f8);(try clear gf);(try clear gg);(try clear gh);(try clear gi);(try clear gs);(try clear gt);(try clear gu);(try clear gv);(try clear dh);(try clear di);(try clear dj);(try clear dk);(try clear dr);(try clear dt);(try clear du);(try clear dv);(try clear d7);(try clear d8);(try clear d9);(try clear ea);(try clear ef);(try clear eg);(try clear eh);(try clear ei);(try clear en);(try clear eo);(try clear ep);(try clear eq);(try clear ev);(try clear ew);(try clear ex);(try clear ey);(try clear fa);(try clear fb);(try clear fc);(try clear fd);(try clear fi);(try clear fj);(try clear fk);(try clear fl);(try clear ft);(try clear fu);(try clear fv);(try clear fw);(try clear f1);(try clear f2);(try clear f3);(try clear f4);(try clear f9);(try clear ga);(try clear gb);(try clear gc);(try clear gj);(try clear gp);(try clear gq);(try clear gr);(try clear gw);(try clear gx);(try clear g0);(try clear g4);obtain⟨ab,az,HA,jj,ax,ap,J,D,HI0,HK,HB⟩:=hrel
       cases gk with
       | zero=>exact absurd HA.out (by simp[spec_l12Any.l0])
       | succ k1 =>
        have H:=HA.out;clear HA;simp only[spec_l12Any.l0] at H
        by_cases b0:(ab.length:Int) < 9
        ·rw[if_pos b0] at H;have i6:=decide_eq_true b0;have i7:decide (ab.length < 9)=true:=decide_eq_true (by omega);clear b0
         by_cases cv:ab.length < 17592186044416
         ·rw[if_pos cv] at H;have i8:=ak cv;clear cv;obtain⟨cg,bo⟩:∃ y_:List Int,y_=(ab++[1]):=⟨_,rfl⟩
          first|replace H:=bnd_ H bo|rw[←bo] at H
          have i9:=ak bo;clear bo;have H':=ak H;clear H;have lw:=aa.out;have lx:=Z.out;have ly:=Y.out;have lz:=ao.out;obtain⟨_,_,_,_,_,_,_,_⟩:=bc4 D;obtain⟨i2,i3,rfl⟩:=Kd.R_slice ap.out;go_wp2_with (first|((with_reducible refine gate_builtin (b:=.append) (xs:=#[.tmp 42,.tmp 43]) rfl ?_);at_builtin;refine Kd.R_append (Kd.int .i64) w.heap.size rfl (.tmp 42) (.tmp 43) 26 3 (.int .i64 0) 8 rfl Tryz.underlying26 info3 rfl (by decide) (by omega) (.slice i2 ab.length i3) ab 1 [.int .i64 1] (fun _=>True) (fun _=>False) rfl rfl ?aP (fun _ hk=>hk.elim) ?aF ?aO (Below.refl _ _) ?aS ?aL ?_;(case aP=>exact rfl);(case aF=>exact(fun _ _=>trivial));(case aO=>exact(PR ap));(case aS=>exact(keep_size (w:=w) (g:=g) (row:=none) PH));(case aL=>have:=i8.out;omega);intro mj nt ho hb hg hat;rw[←i9.out] at ho;replace ax:=ak (Kd.S_after (ok:=(fun _=>True)) (SX ax.out (fun _ hk=>⟨trivial,hk⟩)) hg hat);replace J:=ak (blk_grown (g:=av) (o:=.cells #[.slice none 0 0,.int .i64 0,.int .i64 0,.slice none 0 0] 28 (0,0)) (PK J) hg (Kd.R_ne ap.out J.out (by decide)));replace D:=ak (blk_grown (g:=au) (o:=.cells #[.slice bx ai.length bz,.int .i64 aq,.int .i64 ar,.slice i2 ab.length i3] 28 (0,0)) (PK D) hg (Kd.R_ne ap.out D.out (by decide)));replace HI0:=ak (IsS96.grown PI hg (IsS96.own_ne HI0.out ap.out (by decide)));replace HB:=ak (below_weaken PL HL.out hb);replace HK:=ak (KeepBut.trans PH (KeepBut.of_grown hg g) (Kd.R_base2 ap.out));have cw:=ak (ho);clear ap;clear ho hb hg hat;obtain⟨j3,j4,rfl⟩:=Kd.R_slice cw.out;obtain⟨_,_,_,_,_,_,_,_⟩:=bc4 D))
          go_roundg k1
          case measure=>have:=jj.out;omega
          case rel=>exact⟨(cg),(.slice j3 cg.length j4),H',⟨by have:=jj.out;omega⟩,⟨SX (St ax.out D) (fun _ hk=>by first|exact hk.1.2 | simp_all)⟩,⟨RX (Rt cw.out D) (fun _ hk=>trivial)⟩,⟨PF J⟩,⟨PX D⟩,⟨PI⟩,⟨PH⟩,⟨PL⟩⟩
         ·rw[if_neg cv] at H;exact absurd H (by simp)
        ·rw[if_neg b0] at H;have i6:=decide_eq_false b0;have i7:decide (ab.length < 9)=false:=decide_eq_false (by omega);clear b0;simp only[Option.some.injEq,Prod.mk.injEq] at H;obtain⟨rfl,rfl,rfl,rfl,rfl,rfl⟩:=H;have l4:=aa.out;have l5:=Z.out;have l6:=Y.out;have l7:=ao.out;obtain⟨_,_,_,_,_,_,_,_⟩:=bc4 D;obtain⟨ja,jb,rfl⟩:=Kd.R_slice ap.out;have kc:=ah.out;have kd:=aw.out;obtain⟨_,_,_,_,_,_,_,_⟩:=bc4 J;go_wp2;refine bodyPost_ret (results_cell_row rfl _ _ av 28 #[.slice bx ai.length bz,.int .i64 aq,.int .i64 ar,.slice ja ab.length jb] (0,0) _ rfl (PX J) Tryz.underlying28 rfl KR) rfl ?_;exact⟨_,_,RT,Se1 ax J,RX (Rt ap.out J) (fun _ hk=>trivial),PI,PL,PH⟩
     ·rw[if_neg bg] at H;obtain⟨ct,cu⟩:=eqq2 bg;simp only[Option.some.injEq,Prod.mk.injEq] at H;obtain⟨rfl,rfl,rfl,rfl,rfl,rfl⟩:=H;go_wp2_with (first|((with_reducible refine gate_dst (N:=3) rfl ?_);refine bx_ (N:=3) #[.slice none 0 0,.int .i64 0,.int .i64 0,.slice none 0 0] 28 ?_;intro au hg ml hbox hb;replace X:=Sb X hb;replace U:=Rb U hb;replace HB:=bs HB hb;have D:=ak hbox;have ba:=ak (kz hg HK);have bb:=ak (Nat.le_trans HW0.out (kz hg HK));replace HK:=kt HK (KeepBut.of_below hb g none);have Z:=gm hg J;have aa:=gn hg J;replace J:=kf J hb;have ao:=ak (nh hg (IsS96.lt (show IsS96 w0 _ g s0_0 ac ae from PI)));have Y:=ak (ng hg (IsS96.lt (show IsS96 w0 _ g s0_0 ac ae from PI)));replace HI0:=ak (IsS96.below PI hb);clear hb hbox hg;obtain⟨cx,cy,jc⟩:=Kd.S_slice X.out;subst jc;have ke:=aa.out;have kg:=Z.out;have ki:=Y.out;have kj:=ao.out;obtain⟨_,_,_,_,_,_,_,_⟩:=bc4 D;obtain⟨cz,da,rfl⟩:=Kd.R_slice U.out)|(go_at_call 35;(with_reducible refine(spec_l1Below.calls g s0_0 ac ae 9 ag al am w0 _ ?side1 ?side2 A3.out).mono ?_);(case side1=>exact PI);(case side2=>exact PL);rintro e mm ⟨rfl,hi,hb,hk⟩;replace J:=kq hk J ah;replace X:=Sk (IsS96.apartS (show IsS96 w0 _ g s0_0 ac ae from PI) (Se1 X D) (by decide)) hk;replace U:=Rk (IsS96.apart (show IsS96 w0 _ g s0_0 ac ae from PI) (Re1 U D) (by decide)) hk;replace D:=kr (cs':=#[.slice cx ai.length cy,.int .i64 aq,.int .i64 ar,.slice cz aj.length da]) hk D Y;replace HK:=kt HK hk;replace HB:=ak hb;replace HI0:=ak (hi);clear hb hk hi;obtain⟨_,_,_,_,_,_,_,_⟩:=bc4 D;have kk:=ah.out;have km:=aw.out;obtain⟨_,_,_,_,_,_,_,_⟩:=bc4 J));refine bodyPost_ret (results_cell_row rfl _ _ av 28 #[.slice cx ai.length cy,.int .i64 aq,.int .i64 ar,.slice cz aj.length da] (0,0) _ rfl (PX J) Tryz.underlying28 rfl KR) rfl ?_;exact⟨_,_,RT,Se1 X J,RX (Rt U.out J) (fun _ hk=>trivial),PI,PL,PH⟩

def spec_DrawRecordVisit.f (k:Nat)(X:List Int):Option ((List (S57))×(List (S83))×Int×Int×List Int):=(spec_l1New.f k X).bind fun D=>((spec_l10Any.f k D.1 D.2.1 D.2.2).bind fun U=>((spec_l12Any.f k D.1 U.2.1 U.2.2).bind fun J=>(some (U.1,J.1,J.2.1,J.2.2.1,J.2.2.2.1))))
theorem spec_DrawRecordVisit.calls (k:Nat)(A0:Option Addr)(c0:Nat)(l0:List Int)(r1:List (S57))(r2:List (S83))(r3:Int)(r4:Int)(r5:List Int)(w:World)(ar:Kd.C (Kd.int .u8) w A0 l0.length l0)(au:l0.length≤c0)(h:spec_DrawRecordVisit.f k l0=some (r1,r2,r3,r4,r5)) :
  Calls Tryz.prog 18 #[.slice A0 l0.length c0] w fun e w'=>∃ av aw ai:Value,e = .returned (.tuple #[av,.agg #[aw,.int .i64 r3,.int .i64 r4,ai]])∧Kd.R k57 57 w' w.heap.size (fun _=>True) av r1∧Kd.S k83 83 w' w.heap.size (fun k_=>some k_≠(ai:Value).ownBlock) aw r2∧Kd.R (Kd.int .i64) 3 w' w.heap.size (fun _=>True) ai r5∧Below w.heap.size w w':=by
 have b5:=Tryz.underlying28;have bu:=ak ar;have bv:=ak au;clear ar au;have HB:=ak (Below.refl w.heap.size w);have H:=h;clear h;unfold spec_DrawRecordVisit.f at H;obtain⟨⟨Z,aj,al⟩,A2,H⟩:=obq H;(try dsimp only at H);obtain⟨⟨bc,ac,ae⟩,A3,H⟩:=obq H;(try dsimp only at H);obtain⟨⟨am,ao,ap,aq,bd,bf⟩,A4,H⟩:=obq H;(try dsimp only at H);simp only[Option.some.injEq,Prod.mk.injEq] at H;obtain⟨rfl,rfl,rfl,rfl,rfl⟩:=H;go_enter Tryz.func18,Tryz.ntmps18;go_wp2_with (first|((with_reducible refine gate_dst (N:=3) rfl ?_);refine bx_ (N:=3) #[.slice none 0 0,.int .i64 0,.int .i64 0,.slice none 0 0] 28 ?_;intro Y hg w5 hbox hb;have D:=ak hbox;have X:=gy hg HB;replace HB:=bs HB hb;clear hb hbox hg)|(go_at_call 31;(with_reducible refine(spec_l1New.calls k _ _ l0 Z aj al w _ ?side1 bu.out bv.out A2.out).mono ?_);(case side1=>exact PL);rintro e w6 ⟨g441,rfl,hi,hb,hb2⟩;replace HB:=ak hb;have HI441:=ak (hi);have J:=ak (IsS96.ne_blk hi (blk_below (g:=Y) (o:=.cells #[.slice none 0 0,.int .i64 0,.int .i64 0,.slice none 0 0] 28 (0,0)) (PK D) hb2) (by decide));have U:=ak (Ne.symm (IsS96.ne_blk hi (blk_below (g:=Y) (o:=.cells #[.slice none 0 0,.int .i64 0,.int .i64 0,.slice none 0 0] 28 (0,0)) (PK D) hb2) (by decide)));replace D:=ak (blk_below (g:=Y) (o:=.cells #[.slice none 0 0,.int .i64 0,.int .i64 0,.slice none 0 0] 28 (0,0)) (PK D) hb2);clear hb hb2 hi)|(go_at_call 37;(with_reducible refine(spec_l10Any.calls k g441 Z aj al bc ac ae w _ ?side1 ?side2 A3.out).mono ?_);(case side1=>repeat(first|(with_reducible first|exact HI441.out | apply IsS96.alloc | apply IsS96.drewN | apply IsS96.drew | apply IsS96.set_1 | apply IsS96.set_2 | refine IsS96.far ?_ J.out _)|exact HI441.out));(case side2=>repeat(first|(with_reducible first|exact HB.out | apply below_alloc | apply pw_below_drewN | apply below_drew1 | refine below_set ?_ (IsS96.ge HI441.out)|refine below_set ?_ X.out)|exact HB.out));rintro e w7 ⟨b9,rfl,ho0,hi,hb,hk⟩;replace D:=kq hk D U;have aa:=ak (Kd.R_lower ho0 (below_size (by repeat(first|(with_reducible first|exact HB.out | apply below_alloc | apply pw_below_drewN | apply below_drew1 | refine below_set ?_ (IsS96.ge HI441.out)|refine below_set ?_ X.out)|exact HB.out))));replace HB:=ak hb;replace HI441:=ak (hi);clear hb hk hi ho0)|(go_at_call 39;(with_reducible refine(spec_l12Any.calls k g441 Z ac ae am ao ap aq bd bf w _ ?side1 ?side2 A4.out).mono ?_);(case side1=>repeat(first|(with_reducible first|exact HI441.out | apply IsS96.alloc | apply IsS96.drewN | apply IsS96.drew | apply IsS96.set_1 | apply IsS96.set_2 | refine IsS96.far ?_ J.out _)|exact HI441.out));(case side2=>repeat(first|(with_reducible first|exact HB.out | apply below_alloc | apply pw_below_drewN | apply below_drew1 | refine below_set ?_ (IsS96.ge HI441.out)|refine below_set ?_ X.out)|exact HB.out));rintro e w8 ⟨ca,cb,rfl,ho0,ho1,hi,hb,hk⟩;replace D:=kq hk D U;replace aa:=Rk (IsS96.apart (show IsS96 w _ g441 Z ac ae from by repeat(first|(with_reducible first|exact HI441.out | apply IsS96.alloc | apply IsS96.drewN | apply IsS96.drew | apply IsS96.set_1 | apply IsS96.set_2 | refine IsS96.far ?_ J.out _)|exact HI441.out)) (PR aa) (by decide)) hk;have ag:=ak (Kd.S_lower ho0 (below_size (by repeat(first|(with_reducible first|exact HB.out | apply below_alloc | apply pw_below_drewN | apply below_drew1 | refine below_set ?_ (IsS96.ge HI441.out)|refine below_set ?_ X.out)|exact HB.out))));have ah:=ak (Kd.R_lower ho1 (below_size (by repeat(first|(with_reducible first|exact HB.out | apply below_alloc | apply pw_below_drewN | apply below_drew1 | refine below_set ?_ (IsS96.ge HI441.out)|refine below_set ?_ X.out)|exact HB.out))));replace HB:=ak hb;replace HI441:=ak (hi);clear hb hk hi ho0 ho1;obtain⟨bw,bx,bz⟩:=Kd.S_slice ag.out;subst bz;have b0:=U.out;have b4:=J.out;obtain⟨bi,bj,bk,bl,bm,bo,bp,br⟩:=bc4 D;obtain⟨bg,bh,rfl⟩:=Kd.R_slice ah.out));refine bodyPost_ret (results_tc rfl _ _ Y 28 #[.slice bw am.length bx,.int .i64 ao,.int .i64 ap,.slice bg aq.length bh] (0,0) _ rfl (PX D) Tryz.underlying28 rfl KR) rfl ?_;exact⟨_,_,_,RT,RX (Rt aa.out D) (fun _ hk=>trivial),Se1 ag D,RX (Rt ah.out D) (fun _ hk=>trivial),by repeat(first|(with_reducible first|exact HB.out | apply below_alloc | apply pw_below_drewN | apply below_drew1 | refine below_set ?_ (IsS96.ge HI441.out)|refine below_set ?_ X.out)|exact HB.out)⟩
def spec_DrawIsFaithful.f (k:Nat)(J:List Int):Option ((List (S57))×(List (S83))×Int×Int×List Int):=(spec_DrawRecordVisit.f k J).bind fun D=>(some (D.1,D.2.1,D.2.2.1,D.2.2.2.1,D.2.2.2.2))
theorem spec_DrawIsFaithful.calls (k:Nat)(A0:Option Addr)(c0:Nat)(J:List Int)(r1:List (S57))(r2:List (S83))(r3:Int)(r4:Int)(r5:List Int)(w:World)(ah:Kd.C (Kd.int .u8) w A0 J.length J)(ai:J.length≤c0)(h:spec_DrawIsFaithful.f k J=some (r1,r2,r3,r4,r5)) :
  Calls Tryz.prog 5 #[.slice A0 J.length c0] w fun e w'=>∃ aj al Y:Value,e = .returned (.tuple #[aj,.agg #[al,.int .i64 r3,.int .i64 r4,Y]])∧Kd.R k57 57 w' w.heap.size (fun _=>True) aj r1∧Kd.S k83 83 w' w.heap.size (fun k_=>some k_≠(Y:Value).ownBlock) al r2∧Kd.R (Kd.int .i64) 3 w' w.heap.size (fun _=>True) Y r5∧Below w.heap.size w w':=by
 have bb:=Tryz.underlying28;have ar:=ak ah;have au:=ak ai;clear ah ai;have HB:=ak (Below.refl w.heap.size w);have H:=h;clear h;unfold spec_DrawIsFaithful.f at H;obtain⟨⟨aq,Z,aa,ab,ac⟩,A2,H⟩:=obq H;(try dsimp only at H);simp only[Option.some.injEq,Prod.mk.injEq] at H;obtain⟨rfl,rfl,rfl,rfl,rfl⟩:=H;go_enter Tryz.func5,Tryz.ntmps5;go_wp2_with (first|((with_reducible refine gate_dst (N:=3) rfl ?_);refine bx_ (N:=3) #[.slice none 0 0,.int .i64 0,.int .i64 0,.slice none 0 0] 28 ?_;intro ae hg w3 hbox hb;have D:=ak hbox;have ba:=gy hg HB;replace HB:=bs HB hb;clear hb hbox hg)|(go_at_call 18;(with_reducible refine(spec_DrawRecordVisit.calls k _ _ J aq Z aa ab ac _ ?side1 au.out A2.out).mono ?_);(case side1=>exact Cq ar);rintro e w4 ⟨bd,bf,bg,rfl,ho0,ho1,ho2,hb⟩;have ag:=Rn0 ho0 HB;have U:=ak (Kd.S_lower ho1 (below_size PB));have X:=Rn0 ho2 HB;replace D:=kf D hb;replace HB:=bs HB hb;clear hb ho0 ho1 ho2;obtain⟨av,aw,ax⟩:=Kd.S_slice U.out;subst ax;obtain⟨_,_,_,_,_,_,_,_⟩:=bc4 D;obtain⟨ay,az,rfl⟩:=Kd.R_slice X.out));refine bodyPost_ret (results_tc rfl _ _ ae 28 #[.slice av Z.length aw,.int .i64 aa,.int .i64 ab,.slice ay ac.length az] (0,0) _ rfl (PX D) Tryz.underlying28 rfl KR) rfl ?_;exact⟨_,_,_,RT,RX (Rt ag.out D) (fun _ hk=>trivial),Se1 U D,RX (Rt X.out D) (fun _ hk=>trivial),PB⟩
def impl_InRange.f (D:Int)(J:Int)(U:Int):Option (Bool):=if J≤D then(some (decide (D≤U))) else(some false)
theorem impl_InRange.calls (J:Int)(U:Int)(Y:Int)(r:Bool)(w:World)(h:impl_InRange.f J U Y=some r) :
  Calls Tryz.prog 23 #[.int .i64 J,.int .i64 U,.int .i64 Y] w fun e w'=>e = .returned (.bool r)∧Drawn0 w w':=by
 have H:=h;clear h;unfold impl_InRange.f at H
 by_cases D:U≤J
 ·rw[if_pos D] at H;have X:=decide_eq_true D;clear D;obtain rfl:=Option.some.inj H;go_enter Tryz.func23,Tryz.ntmps23;go_wp2
  go_ret
  exact⟨FR,by repeat(first|exact Drawn0.refl _ | apply Drawn0.step)⟩
 ·rw[if_neg D] at H;have X:=decide_eq_false D;clear D;obtain rfl:=Option.some.inj H;go_enter Tryz.func23,Tryz.ntmps23;go_wp2
  go_ret
  exact⟨FR,by repeat(first|exact Drawn0.refl _ | apply Drawn0.step)⟩
def impl_at.f (D:Int)(J:Int):Option (Bool):=if D≥0 then(some (decide (D < J))) else(some false)
theorem impl_at.calls (J:Int)(X:Int)(r:Bool)(w:World)(h:impl_at.f J X=some r) :
  Calls Tryz.prog 38 #[.int .i64 J,.int .i64 X] w fun e w'=>e = .returned (.bool r)∧Drawn0 w w':=by
 have H:=h;clear h;unfold impl_at.f at H
 by_cases D:J≥0
 ·rw[if_pos D] at H;have U:decide (0≤J)=true:=decide_eq_true D;clear D;obtain rfl:=Option.some.inj H;go_enter Tryz.func38,Tryz.ntmps38;go_wp2
  go_ret
  exact⟨FR,by repeat(first|exact Drawn0.refl _ | apply Drawn0.step)⟩
 ·rw[if_neg D] at H;have U:decide (0≤J)=false:=decide_eq_false D;clear D;obtain rfl:=Option.some.inj H;go_enter Tryz.func38,Tryz.ntmps38;go_wp2
  go_ret
  exact⟨FR,by repeat(first|exact Drawn0.refl _ | apply Drawn0.step)⟩
def impl_isOp.j0:Nat→Int→Bool→Int→Int→Int→Int→Option (Bool)
  | 0,_,_,_,_,_,_=>none
  | k+1,U,ah,ae,ag,D,J=>if ah=true then(if D=0 then(some (J == 0)) else(some false)) else(if U=5 then((impl_at.f D 4).bind fun X=>(if X=true then((impl_at.f J 4).bind fun Y=>(some Y)) else(some false))) else(if U=6 then((impl_at.f D 4).bind fun Z=>(if Z=true then(some (J == 0)) else(some false))) else(if U=7 then((impl_InRange.f D 1 3).bind fun aa=>(if aa=true then(some (J == 0)) else(some false))) else(if U=8 then((impl_at.f D 3).bind fun ab=>(if ab=true then(some (J == 0)) else(some false))) else(if U=9 then((impl_at.f D 3).bind fun ac=>(if ac=true then(some (J == 0)) else(some false))) else(some false))))))
def impl_isOp.f (k:Nat)(D:Int)(J:Int)(U:Int)(X:Int):Option (Bool):=(impl_at.f J 4).bind fun Y=>(if Y=true then(if D=1 then((impl_InRange.f U 1 9).bind fun Z=>(if Z=true then((impl_InRange.f X 0 99).bind fun aa=>(some aa)) else(some false))) else(if D=2 then(impl_isOp.j0 k D (D == 2) D J U X) else(if D=3 then(impl_isOp.j0 k D (D == 3) D J U X) else(impl_isOp.j0 k D (D == 4) D J U X)))) else(some false))
theorem impl_isOp.calls (k:Nat)(D:Int)(X:Int)(J:Int)(Y:Int)(r:Bool)(w:World)(h:impl_isOp.f k D X J Y=some r) :
  Calls Tryz.prog 21 #[.agg #[.int .i64 D,.int .i64 X,.int .i64 J,.int .i64 Y]] w fun e w'=>e = .returned (.bool r)∧Below w.heap.size w w':=by
 have dw:=Tryz.underlying57;have HB:=ak (Below.refl w.heap.size w);have H:=h;clear h;unfold impl_isOp.f at H;obtain⟨cx,A2,H⟩:=obq H;(try dsimp only at H)
 by_cases c3:cx=true
 ·subst c3;rw[if_pos rfl] at H
  by_cases c4:D=1
  ·rw[if_pos c4] at H;obtain⟨bm,bo⟩:=eqq1 c4;clear c4;obtain⟨cz,A5,H⟩:=obq H;(try dsimp only at H);go_enter Tryz.func21,Tryz.ntmps21
   try go_wp2_with (first|((with_reducible refine gate_dst (N:=1) rfl ?_);refine bx_ (N:=1) #[.int .i64 D,.int .i64 X,.int .i64 J,.int .i64 Y] 57 ?_;intro am hg w8 hbox hb;have U:=ak hbox;have aq:=gy hg HB;replace HB:=bs HB hb;clear hb hbox hg;obtain⟨bp,br,bu,bv,bw,bx,bz,b0⟩:=bc4 U)|((with_reducible refine gate_callee (f:=38) rfl ?_);refine hold_ ?_))
   (refine unhold_ ?_;refine goesL_ (some 5) rfl rfl Tryz.func38 KR rfl #[.int .i64 X,.int .i64 4] rfl AR ?_;(with_reducible refine(impl_at.calls X 4 true _ A2.out).mono ?_);rintro e w' ⟨rfl,⟨nd,rfl⟩⟩;refine⟨_,rfl,?_⟩)
   by_cases c6:cz=true
   ·subst c6;rw[if_pos rfl] at H;obtain⟨da,A7,H⟩:=obq H;(try dsimp only at H);obtain rfl:=Option.some.inj H;go_wp2_with (first|(go_at_call 23;(with_reducible refine(impl_InRange.calls J 1 9 true _ A5.out).mono ?_);rintro e w' ⟨rfl,⟨nd,rfl⟩⟩)|(go_at_call 23;(with_reducible refine(impl_InRange.calls Y 0 99 da _ A7.out).mono ?_);rintro e w' ⟨rfl,⟨nd,rfl⟩⟩))
    go_ret
    exact⟨RT,PB⟩
   ·replace c6:=Bool.eq_false_iff.mpr c6;subst c6;rw[if_neg nft] at H;obtain rfl:=Option.some.inj H;go_wp2_with (first|(go_at_call 23;(with_reducible refine(impl_InRange.calls J 1 9 false _ A5.out).mono ?_);rintro e w' ⟨rfl,⟨nd,rfl⟩⟩))
    go_ret
    exact⟨RT,PB⟩
  ·rw[if_neg c4] at H;obtain⟨bm,bo⟩:=eqq2 c4;have ap:=ak H;clear H;go_enter Tryz.func21,Tryz.ntmps21
   go_upto_if 19 with (first|((with_reducible refine gate_dst (N:=1) rfl ?_);refine bx_ (N:=1) #[.int .i64 D,.int .i64 X,.int .i64 J,.int .i64 Y] 57 ?_;intro am hg dz hbox hb;have U:=ak hbox;have aq:=gy hg HB;replace HB:=bs HB hb;clear hb hbox hg;obtain⟨bc,bd,bf,bg,bh,bi,bj,bk⟩:=bc4 U)|((with_reducible refine gate_callee (f:=38) rfl ?_);refine goesL_ (some 5) rfl rfl Tryz.func38 KR rfl #[.int .i64 X,.int .i64 4] rfl AR ?_;(with_reducible refine(impl_at.calls X 4 true _ A2.out).mono ?_);rintro e w' ⟨rfl,⟨nd,rfl⟩⟩;refine⟨_,rfl,?_⟩))
   (try simp only[Act.put,List.setIfInBounds_toArray,List.set_cons_zero,List.set_cons_succ])
   go_cut [19] (fun du wc=>∃(kq:Nat)(aa:Bool),du = .bool aa∧Aside0 (impl_isOp.j0 kq D aa D X J Y=some r)∧Aside0 (kq≤k)∧Aside0 (wc.heap[am]?=some (.cells #[.int .i64 D,.int .i64 X,.int .i64 J,.int .i64 Y] 57 (0,0)))∧Aside0 (Below w.heap.size w wc))
   case first =>
    have H:=ap.out;clear ap
    by_cases ab:D=2
    ·rw[if_pos ab] at H;obtain⟨Z,ar⟩:=eqq1 ab;clear ab;(first|rw[Z]|(simp only[i64_w,i32_w];rw[Z])|skip);have H':=ak H;clear H;go_wp2
     go_meet
     case rel=>exact⟨_,((D == 2)),FR,H',⟨by first|omega | exact Nat.le_refl _⟩,⟨PK U⟩,⟨PB⟩⟩
    ·rw[if_neg ab] at H;obtain⟨Z,ar⟩:=eqq2 ab;(first|rw[Z]|(simp only[i64_w,i32_w];rw[Z])|skip)
     by_cases ac:D=3
     ·rw[if_pos ac] at H;obtain⟨au,av⟩:=eqq1 ac;clear ac;have H':=ak H;clear H;go_wp2
      go_meet
      case rel=>exact⟨_,((D == 3)),FR,H',⟨by first|omega | exact Nat.le_refl _⟩,⟨PK U⟩,⟨PB⟩⟩
     ·rw[if_neg ac] at H;obtain⟨au,av⟩:=eqq2 ac;have H':=ak H;clear H;go_wp2
      go_meet
      case rel=>exact⟨_,((D == 4)),FR,H',⟨by first|omega | exact Nat.le_refl _⟩,⟨PK U⟩,⟨PB⟩⟩
   case rest =>
    clear ap;(try clear c1);(try clear c2);(try clear p2);(try clear c3);(try clear c4);(try clear bm);(try clear bo);(try clear c6);(try clear ab);(try clear Z);(try clear ar);(try clear ac);(try clear au);(try clear av);(try clear di);(try clear dj);(try clear dk);(try clear dl);(try clear bc);(try clear bd);(try clear bf);(try clear bg);(try clear bp);(try clear br);(try clear bu);(try clear bv);(try clear dn);(try clear dp);(try clear dq);(try clear dr);(try clear bh);(try clear bi);(try clear bj);(try clear bk);(try clear bw);(try clear bx);(try clear bz);(try clear b0);obtain⟨kq,aa,rfl,HA,dy,U,HB⟩:=hcut
    cases kq with
    | zero=>exact absurd HA.out (by simp[impl_isOp.j0])
    | succ kj11 =>
     have H:=HA.out;clear HA;simp only[impl_isOp.j0] at H
     by_cases aw:aa=true
     ·subst aw;rw[if_pos rfl] at H
      by_cases ae:J=0
      ·rw[if_pos ae] at H;obtain⟨cb,cd⟩:=eqq1 ae;clear ae;obtain rfl:=Option.some.inj H;obtain⟨_,_,_,_,_,_,_,_⟩:=bc4 U;go_wp2
       go_ret
       exact⟨RT,PB⟩
      ·rw[if_neg ae] at H;obtain⟨cb,cd⟩:=eqq2 ae;obtain rfl:=Option.some.inj H;obtain⟨_,_,_,_,_,_,_,_⟩:=bc4 U;go_wp2
       go_ret
       exact⟨RT,PB⟩
     ·replace aw:=Bool.eq_false_iff.mpr aw;subst aw;rw[if_neg nft] at H
      by_cases ag:D=5
      ·rw[if_pos ag] at H;obtain⟨ce,cf⟩:=eqq1 ag;clear ag;obtain⟨db,cr,H⟩:=obq H;(try dsimp only at H)
       by_cases ax:db=true
       ·subst ax;rw[if_pos rfl] at H;obtain⟨dc,dv,H⟩:=obq H;(try dsimp only at H);obtain rfl:=Option.some.inj H;obtain⟨_,_,_,_,_,_,_,_⟩:=bc4 U;go_wp2_with (first|(go_at_call 38;(with_reducible refine(impl_at.calls J 4 true _ cr.out).mono ?_);rintro e w' ⟨rfl,⟨nd,rfl⟩⟩)|(go_at_call 38;(with_reducible refine(impl_at.calls Y 4 dc _ dv.out).mono ?_);rintro e w' ⟨rfl,⟨nd,rfl⟩⟩))
        go_ret
        exact⟨RT,PB⟩
       ·replace ax:=Bool.eq_false_iff.mpr ax;subst ax;rw[if_neg nft] at H;obtain rfl:=Option.some.inj H;obtain⟨_,_,_,_,_,_,_,_⟩:=bc4 U;go_wp2_with (first|(go_at_call 38;(with_reducible refine(impl_at.calls J 4 false _ cr.out).mono ?_);rintro e w' ⟨rfl,⟨nd,rfl⟩⟩))
        go_ret
        exact⟨RT,PB⟩
      ·rw[if_neg ag] at H;obtain⟨ce,cf⟩:=eqq2 ag
       by_cases ah:D=6
       ·rw[if_pos ah] at H;obtain⟨cg,ch⟩:=eqq1 ah;clear ah;obtain⟨de,ct,H⟩:=obq H;(try dsimp only at H)
        by_cases ay:de=true
        ·subst ay;rw[if_pos rfl] at H;obtain rfl:=Option.some.inj H;obtain⟨_,_,_,_,_,_,_,_⟩:=bc4 U;go_wp2_with (first|(go_at_call 38;(with_reducible refine(impl_at.calls J 4 true _ ct.out).mono ?_);rintro e w' ⟨rfl,⟨nd,rfl⟩⟩))
         go_ret
         exact⟨RT,PB⟩
        ·replace ay:=Bool.eq_false_iff.mpr ay;subst ay;rw[if_neg nft] at H;obtain rfl:=Option.some.inj H;obtain⟨_,_,_,_,_,_,_,_⟩:=bc4 U;go_wp2_with (first|(go_at_call 38;(with_reducible refine(impl_at.calls J 4 false _ ct.out).mono ?_);rintro e w' ⟨rfl,⟨nd,rfl⟩⟩))
         go_ret
         exact⟨RT,PB⟩
       ·rw[if_neg ah] at H;obtain⟨cg,ch⟩:=eqq2 ah
        by_cases ai:D=7
        ·rw[if_pos ai] at H;obtain⟨ci,cj⟩:=eqq1 ai;clear ai;obtain⟨df,cu,H⟩:=obq H;(try dsimp only at H)
         by_cases az:df=true
         ·subst az;rw[if_pos rfl] at H;obtain rfl:=Option.some.inj H;obtain⟨_,_,_,_,_,_,_,_⟩:=bc4 U;go_wp2_with (first|(go_at_call 23;(with_reducible refine(impl_InRange.calls J 1 3 true _ cu.out).mono ?_);rintro e w' ⟨rfl,⟨nd,rfl⟩⟩))
          go_ret
          exact⟨RT,PB⟩
         ·replace az:=Bool.eq_false_iff.mpr az;subst az;rw[if_neg nft] at H;obtain rfl:=Option.some.inj H;obtain⟨_,_,_,_,_,_,_,_⟩:=bc4 U;go_wp2_with (first|(go_at_call 23;(with_reducible refine(impl_InRange.calls J 1 3 false _ cu.out).mono ?_);rintro e w' ⟨rfl,⟨nd,rfl⟩⟩))
          go_ret
          exact⟨RT,PB⟩
        ·rw[if_neg ai] at H;obtain⟨ci,cj⟩:=eqq2 ai
         by_cases aj:D=8
         ·rw[if_pos aj] at H;obtain⟨ck,cl⟩:=eqq1 aj;clear aj;obtain⟨dg,cv,H⟩:=obq H;(try dsimp only at H)
          by_cases ba:dg=true
          ·subst ba;rw[if_pos rfl] at H;obtain rfl:=Option.some.inj H;obtain⟨_,_,_,_,_,_,_,_⟩:=bc4 U;go_wp2_with (first|(go_at_call 38;(with_reducible refine(impl_at.calls J 3 true _ cv.out).mono ?_);rintro e w' ⟨rfl,⟨nd,rfl⟩⟩))
           go_ret
           exact⟨RT,PB⟩
          ·replace ba:=Bool.eq_false_iff.mpr ba;subst ba;rw[if_neg nft] at H;obtain rfl:=Option.some.inj H;obtain⟨_,_,_,_,_,_,_,_⟩:=bc4 U;go_wp2_with (first|(go_at_call 38;(with_reducible refine(impl_at.calls J 3 false _ cv.out).mono ?_);rintro e w' ⟨rfl,⟨nd,rfl⟩⟩))
           go_ret
           exact⟨RT,PB⟩
         ·rw[if_neg aj] at H;obtain⟨ck,cl⟩:=eqq2 aj
          by_cases al:D=9
          ·rw[if_pos al] at H;obtain⟨cm,cn⟩:=eqq1 al;clear al;obtain⟨dh,cw,H⟩:=obq H;(try dsimp only at H)
           by_cases bb:dh=true
           ·subst bb;rw[if_pos rfl] at H;obtain rfl:=Option.some.inj H;obtain⟨_,_,_,_,_,_,_,_⟩:=bc4 U;go_wp2_with (first|(go_at_call 38;(with_reducible refine(impl_at.calls J 3 true _ cw.out).mono ?_);rintro e w' ⟨rfl,⟨nd,rfl⟩⟩))
            go_ret
            exact⟨RT,PB⟩
           ·replace bb:=Bool.eq_false_iff.mpr bb;subst bb;rw[if_neg nft] at H;obtain rfl:=Option.some.inj H;obtain⟨_,_,_,_,_,_,_,_⟩:=bc4 U;go_wp2_with (first|(go_at_call 38;(with_reducible refine(impl_at.calls J 3 false _ cw.out).mono ?_);rintro e w' ⟨rfl,⟨nd,rfl⟩⟩))
            go_ret
            exact⟨RT,PB⟩
          ·rw[if_neg al] at H;obtain⟨cm,cn⟩:=eqq2 al;obtain rfl:=Option.some.inj H;go_wp2
           go_ret
           exact⟨RT,PB⟩
 ·replace c3:=Bool.eq_false_iff.mpr c3;subst c3;rw[if_neg nft] at H;obtain rfl:=Option.some.inj H;go_enter Tryz.func21,Tryz.ntmps21;go_wp2_with (first|((with_reducible refine gate_dst (N:=1) rfl ?_);refine bx_ (N:=1) #[.int .i64 D,.int .i64 X,.int .i64 J,.int .i64 Y] 57 ?_;intro am hg d7 hbox hb;have U:=ak hbox;have aq:=gy hg HB;replace HB:=bs HB hb;clear hb hbox hg;obtain⟨_,_,_,_,_,_,_,_⟩:=bc4 U)|(go_at_call 38;(with_reducible refine(impl_at.calls X 4 false _ A2.out).mono ?_);rintro e w' ⟨rfl,⟨nd,rfl⟩⟩))
  go_ret
  exact⟨RT,PB⟩
def impl_IsScript_lit1.f (k:Nat)(D:Int)(J:Int)(U:Int)(X:Int):Option (Bool):=(impl_isOp.f k D J U X).bind fun Y=>(some (!Y))
theorem impl_IsScript_lit1.calls (k:Nat)(D:Int)(J:Int)(U:Int)(X:Int)(r:Bool)(w:World)(h:impl_IsScript_lit1.f k D J U X=some r) :
  Calls Tryz.prog 20 #[.agg #[.int .i64 D,.int .i64 J,.int .i64 U,.int .i64 X]] w fun e w'=>e = .returned (.bool r)∧Below w.heap.size w w':=by
 have ae:=Tryz.underlying57;have HB:=ak (Below.refl w.heap.size w);have H:=h;clear h;unfold impl_IsScript_lit1.f at H;obtain⟨aa,A2,H⟩:=obq H;(try dsimp only at H);obtain rfl:=Option.some.inj H;go_enter Tryz.func20,Tryz.ntmps20;go_wp2_with (first|((with_reducible refine gate_dst (N:=1) rfl ?_);refine bx_ (N:=1) #[.int .i64 D,.int .i64 J,.int .i64 U,.int .i64 X] 57 ?_;intro ab hg w3 hbox hb;have Y:=ak hbox;have ac:=gy hg HB;replace HB:=bs HB hb;clear hb hbox hg;obtain⟨_,_,_,_,_,_,_,_⟩:=bc4 Y)|(go_at_call 21;(with_reducible refine(impl_isOp.calls k D J U X aa _ A2.out).mono ?_);rintro e w5 ⟨rfl,hb⟩;replace HB:=bs HB hb;clear hb))
 go_ret
 exact⟨RT,PB⟩
def slices_IndexFunc_20.l0:Nat→List (S57)→Int→Int→Option (Int)
  | 0,_,_,_=>none
  | k+1,J,X,D=>if D < X then(if 0≤D then(if D < (J.length:Int) then((impl_IsScript_lit1.f k ((rd_T57 J D).f0) ((rd_T57 J D).f1) ((rd_T57 J D).f2) ((rd_T57 J D).f3)).bind fun U=>(if U=true then(some D) else(slices_IndexFunc_20.l0 k J X (wrap64 (D+1))))) else(none)) else(none)) else(some (-1))
def slices_IndexFunc_20.f (k:Nat)(D:List (S57))(J:Int):Option (Int):=slices_IndexFunc_20.l0 k D (D.length:Int) 0
theorem slices_IndexFunc_20.calls (k:Nat)(A0:Option Addr)(c0:Nat)(J:List (S57))(a1:Int)(r:Int)(w:World)(al:Kd.C k57 w A0 J.length J)(am:J.length≤c0)(h:slices_IndexFunc_20.f k J a1=some r) :
  Calls Tryz.prog 40 #[.slice A0 J.length c0,.func (.func 20) #[] #[]] w fun e w'=>e = .returned (.int .i64 r)∧Below w.heap.size w w':=by
 have az:=Tryz.underlying57;have ao:=ak al;have bd:=ak am;clear al am;have HB:=ak (Below.refl w.heap.size w);have H:=h;clear h;unfold slices_IndexFunc_20.f at H;have H':=ak H;clear H;go_enter Tryz.func40,Tryz.ntmps40;go_wp2
 go_loopg [8] k (fun kq v8 w'=>∃(D:Int),v8 = .int .i64 D∧Aside0 (slices_IndexFunc_20.l0 kq J (J.length:Int) D=some r)∧Aside0 (kq≤k)∧Aside0 (Below w.heap.size w w'))
 case atStart=>exact⟨(0),FR,H',⟨Nat.le_refl _⟩,⟨PB⟩⟩
 case round =>
  clear H'
  try clear p2
  obtain⟨D,rfl,HA,ap,HB⟩:=hrel
  cases gk with
  | zero=>exact absurd HA.out (by simp[slices_IndexFunc_20.l0])
  | succ k1 =>
   have H:=HA.out;clear HA;simp only[slices_IndexFunc_20.l0] at H
   by_cases c3:D < (J.length:Int)
   ·rw[if_pos c3] at H;have ar:=decide_eq_true c3;clear c3
    by_cases c4:0≤D
    ·rw[if_pos c4] at H;have bb:=decide_eq_true c4;clear c4
     by_cases c5:D < (J.length:Int)
     ·rw[if_pos c5] at H;have bc:=decide_eq_true c5;clear c5;obtain⟨au,A6,H⟩:=obq H;(try dsimp only at H)
      by_cases c7:au=true
      ·subst c7;rw[if_pos rfl] at H;obtain rfl:=Option.some.inj H;have aa:0≤(D:Int):=od;have ab:D < (J.length:Int):=od;obtain⟨aj,ac,U,X,Y,Z⟩:=at_T57 ao.out D aa ab;cases ac;replace U:=hx_ HB U;replace X:=hx_ HB X;replace Y:=hx_ HB Y;replace Z:=hx_ HB Z;replace aa:=eq_true aa;replace ab:=eq_true ab;go_wp2_with (first|((with_reducible refine gate_calleeV (n:=11) rfl ?_);refine goesLV_ (some 16) rfl rfl Tryz.func20 KR rfl #[.agg #[.int .i64 ((rd_T57 J D).f0),.int .i64 ((rd_T57 J D).f1),.int .i64 ((rd_T57 J D).f2),.int .i64 ((rd_T57 J D).f3)]] rfl AR ?_;(with_reducible refine(impl_IsScript_lit1.calls k1 ((rd_T57 J D).f0) ((rd_T57 J D).f1) ((rd_T57 J D).f2) ((rd_T57 J D).f3) true _ A6.out).mono ?_);rintro e w8 ⟨rfl,hb⟩;refine⟨_,rfl,?_⟩;replace HB:=bs HB hb;clear hb))
       go_ret
       exact⟨RT,PB⟩
      ·replace c7:=Bool.eq_false_iff.mpr c7;subst c7;rw[if_neg nft] at H;have H':=ak H;clear H;have aa:0≤(D:Int):=od;have ab:D < (J.length:Int):=od;obtain⟨aj,ac,U,X,Y,Z⟩:=at_T57 ao.out D aa ab;cases ac;replace U:=hx_ HB U;replace X:=hx_ HB X;replace Y:=hx_ HB Y;replace Z:=hx_ HB Z;replace aa:=eq_true aa;replace ab:=eq_true ab;go_wp2_with (first|((with_reducible refine gate_calleeV (n:=11) rfl ?_);refine goesLV_ (some 16) rfl rfl Tryz.func20 KR rfl #[.agg #[.int .i64 ((rd_T57 J D).f0),.int .i64 ((rd_T57 J D).f1),.int .i64 ((rd_T57 J D).f2),.int .i64 ((rd_T57 J D).f3)]] rfl AR ?_;(with_reducible refine(impl_IsScript_lit1.calls k1 ((rd_T57 J D).f0) ((rd_T57 J D).f1) ((rd_T57 J D).f2) ((rd_T57 J D).f3) false _ A6.out).mono ?_);rintro e w9 ⟨rfl,hb⟩;refine⟨_,rfl,?_⟩;replace HB:=bs HB hb;clear hb))
       go_roundg k1
       case measure=>have:=ap.out;omega
       case rel=>exact⟨(wrap64 (D+1)),FR,H',⟨by have:=ap.out;omega⟩,⟨PB⟩⟩
     ·rw[if_neg c5] at H;exact absurd H (by simp)
    ·rw[if_neg c4] at H;exact absurd H (by simp)
   ·rw[if_neg c3] at H;have ar:=decide_eq_false c3;clear c3;obtain rfl:=Option.some.inj H;go_wp2
    go_ret
    exact⟨RT,PB⟩
def slices_ContainsFunc_20.f (k:Nat)(J:List (S57))(U:Int):Option (Bool):=(slices_IndexFunc_20.f k J U).bind fun D=>(some (decide (D≥0)))
theorem slices_ContainsFunc_20.calls (k:Nat)(Y:Option Addr)(Z:Nat)(D:List (S57))(a1:Int)(r:Bool)(w:World)(J:Kd.C k57 w Y D.length D)(U:D.length≤Z)(h:slices_ContainsFunc_20.f k D a1=some r) :
  Calls Tryz.prog 19 #[.slice Y D.length Z,.func (.func 20) #[] #[]] w fun e w'=>e = .returned (.bool r)∧Below w.heap.size w w':=by
 have ac:=ak J;have ae:=ak U;clear J U;have HB:=ak (Below.refl w.heap.size w);have H:=h;clear h;unfold slices_ContainsFunc_20.f at H;obtain⟨aa,A3,H⟩:=obq H;(try dsimp only at H);obtain rfl:=Option.some.inj H;go_enter Tryz.func19,Tryz.ntmps19;go_wp2_with (first|(go_at_call 40;(with_reducible refine(slices_IndexFunc_20.calls k _ _ D a1 aa _ ?side1 ae.out A3.out).mono ?_);(case side1=>exact CR (ac.out));rintro e w4 ⟨rfl,hb⟩;replace HB:=bs HB hb;clear hb))
 go_ret
 exact⟨RT,PB⟩
def impl_IsScript.f (k:Nat)(J:List (S57)):Option (Bool):=if (J.length:Int)≤16 then((slices_ContainsFunc_20.f k J 90000020).bind fun D=>(some (!D))) else(some false)
theorem impl_IsScript.calls (k:Nat)(A0:Option Addr)(c0:Nat)(D:List (S57))(r:Bool)(w:World)(U:Kd.C k57 w A0 D.length D)(X:D.length≤c0)(h:impl_IsScript.f k D=some r) :
  Calls Tryz.prog 6 #[.slice A0 D.length c0] w fun e w'=>e = .returned (.bool r)∧Below w.heap.size w w':=by
 have ag:=ak U;have ah:=ak X;clear U X;have HB:=ak (Below.refl w.heap.size w);have H:=h;clear h;unfold impl_IsScript.f at H
 by_cases J:(D.length:Int)≤16
 ·rw[if_pos J] at H;have Z:=decide_eq_true J;have aa:decide (D.length≤16)=true:=decide_eq_true (by omega);clear J;obtain⟨ab,A3,H⟩:=obq H;(try dsimp only at H);obtain rfl:=Option.some.inj H;go_enter Tryz.func6,Tryz.ntmps6;go_wp2_with (first|(go_at_call 19;(with_reducible refine(slices_ContainsFunc_20.calls k _ _ D 90000020 ab _ ?side1 ah.out A3.out).mono ?_);(case side1=>exact CR (ag.out));rintro e w4 ⟨rfl,hb⟩;replace HB:=bs HB hb;clear hb))
  go_ret
  exact⟨RT,PB⟩
 ·rw[if_neg J] at H;have Z:=decide_eq_false J;have aa:decide (D.length≤16)=false:=decide_eq_false (by omega);clear J;obtain rfl:=Option.some.inj H;go_enter Tryz.func6,Tryz.ntmps6;go_wp2
  go_ret
  exact⟨RT,PB⟩
def impl_IsAddress.f (D:Int)(J:Int)(U:Int):Option (Bool):=(impl_InRange.f D 1 9).bind fun X=>(if X=true then((impl_InRange.f J 0 99).bind fun Y=>(if Y=true then((impl_InRange.f U 0 99).bind fun Z=>(some Z)) else(some false))) else(some false))
theorem impl_IsAddress.calls (D:Int)(J:Int)(U:Int)(r:Bool)(w:World)(h:impl_IsAddress.f D J U=some r) :
  Calls Tryz.prog 43 #[.agg #[.int .i64 D,.int .i64 J,.int .i64 U]] w fun e w'=>e = .returned (.bool r)∧Below w.heap.size w w':=by
 have ao:=Tryz.underlying48;have HB:=ak (Below.refl w.heap.size w);have H:=h;clear h;unfold impl_IsAddress.f at H;obtain⟨ah,A2,H⟩:=obq H;(try dsimp only at H)
 by_cases Y:ah=true
 ·subst Y;rw[if_pos rfl] at H;obtain⟨ai,A4,H⟩:=obq H;(try dsimp only at H);go_enter Tryz.func43,Tryz.ntmps43
  try go_wp2_with (first|((with_reducible refine gate_dst (N:=1) rfl ?_);refine bx_ (N:=1) #[.int .i64 D,.int .i64 J,.int .i64 U] 48 ?_;intro Z hg w7 hbox hb;have X:=ak hbox;have aa:=gy hg HB;replace HB:=bs HB hb;clear hb hbox hg;obtain⟨_,_,_,_,_,_⟩:=bc3 X)|((with_reducible refine gate_callee (f:=23) rfl ?_);refine hold_ ?_))
  (refine unhold_ ?_;refine goesL_ (some 5) rfl rfl Tryz.func23 KR rfl #[.int .i64 D,.int .i64 1,.int .i64 9] rfl AR ?_;(with_reducible refine(impl_InRange.calls D 1 9 true _ A2.out).mono ?_);rintro e w' ⟨rfl,⟨nd,rfl⟩⟩;refine⟨_,rfl,?_⟩)
  by_cases c5:ai=true
  ·subst c5;rw[if_pos rfl] at H;obtain⟨aj,A6,H⟩:=obq H;(try dsimp only at H);obtain rfl:=Option.some.inj H;go_wp2_with (first|(go_at_call 23;(with_reducible refine(impl_InRange.calls J 0 99 true _ A4.out).mono ?_);rintro e w' ⟨rfl,⟨nd,rfl⟩⟩)|(go_at_call 23;(with_reducible refine(impl_InRange.calls U 0 99 aj _ A6.out).mono ?_);rintro e w' ⟨rfl,⟨nd,rfl⟩⟩))
   go_ret
   exact⟨RT,PB⟩
  ·replace c5:=Bool.eq_false_iff.mpr c5;subst c5;rw[if_neg nft] at H;obtain rfl:=Option.some.inj H;go_wp2_with (first|(go_at_call 23;(with_reducible refine(impl_InRange.calls J 0 99 false _ A4.out).mono ?_);rintro e w' ⟨rfl,⟨nd,rfl⟩⟩))
   go_ret
   exact⟨RT,PB⟩
 ·replace Y:=Bool.eq_false_iff.mpr Y;subst Y;rw[if_neg nft] at H;obtain rfl:=Option.some.inj H;go_enter Tryz.func43,Tryz.ntmps43;go_wp2_with (first|((with_reducible refine gate_dst (N:=1) rfl ?_);refine bx_ (N:=1) #[.int .i64 D,.int .i64 J,.int .i64 U] 48 ?_;intro Z hg aq hbox hb;have X:=ak hbox;have aa:=gy hg HB;replace HB:=bs HB hb;clear hb hbox hg;obtain⟨_,_,_,_,_,_⟩:=bc3 X)|(go_at_call 23;(with_reducible refine(impl_InRange.calls D 1 9 false _ A2.out).mono ?_);rintro e w' ⟨rfl,⟨nd,rfl⟩⟩))
  go_ret
  exact⟨RT,PB⟩
def impl_allIn.l0:Nat→Int→Int→List Int→Int→Int→Option (Bool)
  | 0,_,_,_,_,_=>none
  | k+1,Y,Z,U,J,D=>if D < J then(if 0≤D then(if D < (U.length:Int) then((impl_InRange.f (rd U D) Y Z).bind fun X=>(if X=true then(impl_allIn.l0 k Y Z U J (wrap64 (D+1))) else(some false))) else(none)) else(none)) else(some true)
def impl_allIn.f (k:Nat)(D:List Int)(J:Int)(U:Int):Option (Bool):=impl_allIn.l0 k J U D (D.length:Int) 0
theorem impl_allIn.calls (k:Nat)(A0:Option Addr)(c0:Nat)(J:List Int)(Y:Int)(Z:Int)(r:Bool)(w:World)(aj:Kd.C (Kd.int .i64) w A0 J.length J)(al:J.length≤c0)(h:impl_allIn.f k J Y Z=some r) :
  Calls Tryz.prog 24 #[.slice A0 J.length c0,.int .i64 Y,.int .i64 Z] w fun e w'=>e = .returned (.bool r)∧Drawn0 w w':=by
 have am:=ak aj;have ba:=ak al;clear aj al;have H:=h;clear h;unfold impl_allIn.f at H;have H':=ak H;clear H;go_enter Tryz.func24,Tryz.ntmps24;go_wp2
 go_loopg [11] k (fun kq aw w'=>∃(D:Int),aw = .int .i64 D∧Aside0 (impl_allIn.l0 kq Y Z J (J.length:Int) D=some r)∧Aside0 (kq≤k)∧Drawn0 w w')
 case atStart=>exact⟨(0),FR,H',⟨Nat.le_refl _⟩,by repeat(first|exact Drawn0.refl _ | apply Drawn0.step)⟩
 case round =>
  clear H';(try clear c2);(try clear p2);obtain⟨D,rfl,HA,ao,⟨m1,rfl⟩⟩:=hrel
  cases gk with
  | zero=>exact absurd HA.out (by simp[impl_allIn.l0])
  | succ k1 =>
   have H:=HA.out;clear HA;simp only[impl_allIn.l0] at H
   by_cases c4:D < (J.length:Int)
   ·rw[if_pos c4] at H;have aq:=decide_eq_true c4;clear c4
    by_cases c5:0≤D
    ·rw[if_pos c5] at H;have ay:=decide_eq_true c5;clear c5
     by_cases c6:D < (J.length:Int)
     ·rw[if_pos c6] at H;have az:=decide_eq_true c6;clear c6;obtain⟨ar,A7,H⟩:=obq H;(try dsimp only at H)
      by_cases c8:ar=true
      ·subst c8;rw[if_pos rfl] at H;have H':=ak H;clear H;have U:0≤(D:Int):=od;have X:D < (J.length:Int):=od;obtain⟨ai,aa,ac⟩:=Kd.at_int am.out D U X;cases aa;replace U:=eq_true U;replace X:=eq_true X;go_wp2_with (first|(go_at_call 23;(with_reducible refine(impl_InRange.calls (rd J D) Y Z true _ A7.out).mono ?_);rintro e w' ⟨rfl,⟨nd,rfl⟩⟩))
       go_roundg k1
       case measure=>have:=ao.out;omega
       case rel=>exact⟨(wrap64 (D+1)),FR,H',⟨by have:=ao.out;omega⟩,by repeat(first|exact Drawn0.refl _ | apply Drawn0.step)⟩
      ·replace c8:=Bool.eq_false_iff.mpr c8;subst c8;rw[if_neg nft] at H;obtain rfl:=Option.some.inj H;have U:0≤(D:Int):=od;have X:D < (J.length:Int):=od;obtain⟨ai,aa,ac⟩:=Kd.at_int am.out D U X;cases aa;replace U:=eq_true U;replace X:=eq_true X;go_wp2_with (first|(go_at_call 23;(with_reducible refine(impl_InRange.calls (rd J D) Y Z false _ A7.out).mono ?_);rintro e w' ⟨rfl,⟨nd,rfl⟩⟩))
       go_ret
       exact⟨FR,by repeat(first|exact Drawn0.refl _ | apply Drawn0.step)⟩
     ·rw[if_neg c6] at H;exact absurd H (by simp)
    ·rw[if_neg c5] at H;exact absurd H (by simp)
   ·rw[if_neg c4] at H;have aq:=decide_eq_false c4;clear c4;obtain rfl:=Option.some.inj H;go_wp2
    go_ret
    exact⟨FR,by repeat(first|exact Drawn0.refl _ | apply Drawn0.step)⟩

end Go.Proofs.YteemhimikamihaaGreat.MFnReplays
