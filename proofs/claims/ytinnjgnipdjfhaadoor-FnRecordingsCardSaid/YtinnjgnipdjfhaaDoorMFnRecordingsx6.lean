import Derived.Test.YtinnjgnipdjfhaaDoorShr2
import Derived.Test.YtinnjgnipdjfhaaDoorMFnRecordingsx0
import Derived.Test.YtinnjgnipdjfhaaDoorMFnRecordingsx5
import Derived.Test.YtinnjgnipdjfhaaDoorMFnRecordingsx1
import Derived.Test.YtinnjgnipdjfhaaDoorMFnRecordingsx4
namespace Go.Proofs.YtinnjgnipdjfhaaDoor.MFnRecordings
open Go.RowKit Go.Proofs.YtinnjgnipdjfhaaDoorW.PrintWords Go.Proofs.YtinnjgnipdjfhaaDoorW.PrintLast Go.Proofs.YtinnjgnipdjfhaaDoorW.PrintMore
attribute [local go_sem] max2_int min2_int max_two min_two max_three min_three max_four min_four
set_option linter.unusedVariables false
set_option maxHeartbeats 8000000
set_option maxRecDepth 100000
set_option linter.unusedSimpArgs false

def impl_canStep.f (k:Nat)(l0:List (S66))(D:Int)(J:List Int)(U:List Int)(X:List Int):Option (Bool):=(impl_IsScript.f k l0).bind fun Y=>(if Y=true then((impl_IsState.f k D J U X).bind fun Z=>(if Z=true then(some (decide (D < (l0.length:Int)))) else(some false))) else(some false))
theorem impl_canStep.calls (k:Nat)(A0:Option Addr)(c0:Nat)(Z:List (S66))(Y:Int)(aa:Option Addr)(ab:Nat)(J:List Int)(ac:Option Addr)(ae:Nat)(U:List Int)(af:Option Addr)(ag:Nat)(X:List Int)(r:Bool)(w:World)(bg:Kd.C k66 w A0 Z.length Z)(bh:Z.length≤c0)(ah:Kd.C (Kd.int .i64) w aa J.length J)(ai:J.length≤ab)(aj:Kd.C (Kd.int .i64) w ac U.length U)(al:U.length≤ae)(am:Kd.C (Kd.int .i64) w af X.length X)(ao:X.length≤ag)(h:impl_canStep.f k Z Y J U X=some r) :
  Calls Tryd.prog 36 #[.slice A0 Z.length c0,.agg #[.int .i64 Y,.slice aa J.length ab,.slice ac U.length ae,.slice af X.length ag]] w fun e w'=>e = .returned (.bool r)∧Below w.heap.size w w':=by
 have b4:=Tryd.underlying33;have bb:=ak bg;have bc:=ak bh;clear bg bh;have ap:=ak ah;have aq:=ak ai;clear ah ai;have ar:=ak aj;have au:=ak al;clear aj al;have av:=ak am;have aw:=ak ao;clear am ao;have HB:=ak (Below.refl w.heap.size w);have H:=h;clear h;unfold impl_canStep.f at H;replace H:=Option.bind_eq_some_iff.mp H;obtain⟨bk,bi,H⟩:=H;(try dsimp only at H);have A3:=ak bi;clear bi
 by_cases c4:bk=true
 ·subst c4;rw[if_pos rfl] at H;replace H:=Option.bind_eq_some_iff.mp H;obtain⟨bm,bj,H⟩:=H;(try dsimp only at H);have A5:=ak bj;clear bj
  by_cases c6:bm=true
  ·subst c6;rw[if_pos rfl] at H;obtain rfl:=Option.some.inj H;go_enter Tryd.func36,Tryd.ntmps36;go_wp2_with (first|((with_reducible refine gate_dst (N:=3) rfl ?_);(try(refine gate_guard (by rfl) ?_;dsimp only));refine bx_ (N:=3) #[.int .i64 Y,.slice aa J.length ab,.slice ac U.length ae,.slice af X.length ag] 33 ?_;intro ax hg w7 hbox hb;have D:=ak hbox;have ay:=gy hg HB;replace HB:=bs HB hb;clear hb hbox hg)|(go_at_call 10;(with_reducible refine(impl_IsScript.calls k _ _ Z true _ ?side1 bc.out A3.out).mono ?_);(case side1=>exact Cq bb);rintro e w8 ⟨rfl,hb⟩;replace D:=kf D hb;replace HB:=bs HB hb;clear hb;obtain⟨_,_,_,_,_,_,_,_⟩:=bc4 D)|(go_at_call 58;(with_reducible refine(impl_IsState.calls k Y _ _ J _ _ U _ _ X true _ ?side1 aq.out ?side3 au.out ?side5 aw.out A5.out).mono ?_);(case side1=>exact Cq ap);(case side3=>exact Cq ar);(case side5=>exact Cq av);rintro e b5 ⟨rfl,hb⟩;replace D:=kf D hb;replace HB:=bs HB hb;clear hb;obtain⟨_,_,_,_,_,_,_,_⟩:=bc4 D))
   go_ret
   exact⟨RT,PB⟩
  ·replace c6:=Bool.eq_false_iff.mpr c6;subst c6;rw[if_neg (show ¬(false=true) by decide)] at H;obtain rfl:=Option.some.inj H;go_enter Tryd.func36,Tryd.ntmps36;go_wp2_with (first|((with_reducible refine gate_dst (N:=3) rfl ?_);(try(refine gate_guard (by rfl) ?_;dsimp only));refine bx_ (N:=3) #[.int .i64 Y,.slice aa J.length ab,.slice ac U.length ae,.slice af X.length ag] 33 ?_;intro ax hg b6 hbox hb;have D:=ak hbox;have ay:=gy hg HB;replace HB:=bs HB hb;clear hb hbox hg)|(go_at_call 10;(with_reducible refine(impl_IsScript.calls k _ _ Z true _ ?side1 bc.out A3.out).mono ?_);(case side1=>exact Cq bb);rintro e b7 ⟨rfl,hb⟩;replace D:=kf D hb;replace HB:=bs HB hb;clear hb;obtain⟨bo,bp,br,bu,bv,bw,bx,bz⟩:=bc4 D)|(go_at_call 58;(with_reducible refine(impl_IsState.calls k Y _ _ J _ _ U _ _ X false _ ?side1 aq.out ?side3 au.out ?side5 aw.out A5.out).mono ?_);(case side1=>exact Cq ap);(case side3=>exact Cq ar);(case side5=>exact Cq av);rintro e b8 ⟨rfl,hb⟩;replace D:=kf D hb;replace HB:=bs HB hb;clear hb))
   go_ret
   exact⟨RT,PB⟩
 ·replace c4:=Bool.eq_false_iff.mpr c4;subst c4;rw[if_neg (show ¬(false=true) by decide)] at H;obtain rfl:=Option.some.inj H;go_enter Tryd.func36,Tryd.ntmps36;go_wp2_with (first|((with_reducible refine gate_dst (N:=3) rfl ?_);(try(refine gate_guard (by rfl) ?_;dsimp only));refine bx_ (N:=3) #[.int .i64 Y,.slice aa J.length ab,.slice ac U.length ae,.slice af X.length ag] 33 ?_;intro ax hg b9 hbox hb;have D:=ak hbox;have ay:=gy hg HB;replace HB:=bs HB hb;clear hb hbox hg)|(go_at_call 10;(with_reducible refine(impl_IsScript.calls k _ _ Z false _ ?side1 bc.out A3.out).mono ?_);(case side1=>exact Cq bb);rintro e ca ⟨rfl,hb⟩;replace D:=kf D hb;replace HB:=bs HB hb;clear hb))
  go_ret
  exact⟨RT,PB⟩
def impl_WantOf.j0:Nat→List (S66)→Bool→Int→List Int→List Int→List Int→Option (Int×Int×Int×Int)
  | 0,_,_,_,_,_,_=>none
  | k+1,U,Z,D,J,X,Y=>if Z=true then(some (0,0,0,0)) else(if 0≤D then(if D < (U.length:Int) then(if ((rd_T66 U D).f0)=1 then(if 0≤((rd_T66 U D).f1) then(if ((rd_T66 U D).f1) < (J.length:Int) then(some ((rd_T66 U D).f0,(rd_T66 U D).f2,(rd_T66 U D).f3,Int.tmod (rd J ((rd_T66 U D).f1)) 100)) else(none)) else(none)) else(some ((rd_T66 U D).f0,0,0,0))) else(none)) else(none))
def impl_WantOf.f (k:Nat)(Y:List (S66))(D:Int)(J:List Int)(U:List Int)(X:List Int):Option (Int×Int×Int×Int):=(impl_canStep.f k Y D J U X).bind fun Z=>(if Z=true then(if 0≤D then(if D < (Y.length:Int) then((impl_Asks.f ((rd_T66 Y D).f0)).bind fun aa=>(impl_WantOf.j0 k Y (!aa) D J U X)) else(none)) else(none)) else(impl_WantOf.j0 k Y true D J U X))
def impl_WantOf.T6:Bool×List (List Nat×List Nat):=(true,[([],[]),([0],[0]),([],[]),([2],[2]),([],[]),([4],[4]),([],[]),([6],[6]),([5,7],[5,7]),([8],[8]),([9],[9]),([1,3,10],[1,3,10]),([0,1,2,3,4,5,6,7,8,9,10,11],[]),([12,11,0,1,2,3,4,5,6,7,8,9,10,11],[11,12])])
def impl_WantOf.B6:List Nat:=[0,1,0,4,0,16,0,64,240,496,1008,2047,4095,8191]
theorem impl_WantOf.tab6:rtab .any (opsOf Tryd.f15 6)=impl_WantOf.T6:=by kernel_rfl
theorem impl_WantOf.bits6:waitsOk impl_WantOf.T6.2 impl_WantOf.B6=true:=by kernel_rfl
theorem impl_WantOf.calls (k:Nat)(A0:Option Addr)(c0:Nat)(l0:List (S66))(D:Int)(ba:Option Addr)(av:Nat)(ac:List Int)(aw:Option Addr)(ax:Nat)(af:List Int)(ay:Option Addr)(az:Nat)(ag:List Int)(r1:Int)(r2:Int)(r3:Int)(r4:Int)(w:World)(ee:Kd.C k66 w A0 l0.length l0)(ef:l0.length≤c0)(b9:Kd.C (Kd.int .i64) w ba ac.length ac)(ca:ac.length≤av)(cb:Kd.C (Kd.int .i64) w aw af.length af)(cd:af.length≤ax)(ce:Kd.C (Kd.int .i64) w ay ag.length ag)(cf:ag.length≤az)(h:impl_WantOf.f k l0 D ac af ag=some (r1,r2,r3,r4)) :
  Calls Tryd.prog 15 #[.slice A0 l0.length c0,.agg #[.int .i64 D,.slice ba ac.length av,.slice aw af.length ax,.slice ay ag.length az]] w fun e w'=>e = .returned (.agg #[.int .i64 r1,.int .i64 r2,.int .i64 r3,.int .i64 r4])∧Below w.heap.size w w':=by
 have f6:=Tryd.underlying33;have f7:=Tryd.underlying48;have f8:=Tryd.underlying66;have f9:=Tryd.underlying46;have b4:=ak ee;have eg:=ak ef;clear ee ef;have bx:=ak b9;have cg:=ak ca;clear b9 ca;have ch:=ak cb;have ci:=ak cd;clear cb cd;have cj:=ak ce;have ck:=ak cf;clear ce cf;have HB:=ak (Below.refl w.heap.size w);have H:=h;clear h;unfold impl_WantOf.f at H;have du:=ak H;clear H;go_enter Tryd.func15,Tryd.ntmps15
 go_upto_region 1 with (first|((with_reducible refine gate_dst (N:=3) rfl ?_);refine bx_ (N:=3) #[.int .i64 D,.slice ba ac.length av,.slice aw af.length ax,.slice ay ag.length az] 33 ?_;intro ah hg w4 hbox hb;have U:=ak hbox;have er:=gy hg HB;replace HB:=bs HB hb;clear hb hbox hg)|((with_reducible refine gate_dst (N:=4) rfl ?_);refine bx_ (N:=4) #[.int .i64 0,.int .i64 0,.int .i64 0,.int .i64 0] 48 ?_;intro al hg w5 hbox hb;have X:=ak hbox;have es:=gy hg HB;replace HB:=bs HB hb;have ar:=gm hg U;have au:=gn hg U;replace U:=kf U hb;clear hb hbox hg))
 (try simp only[Act.put,List.setIfInBounds_toArray,List.set_cons_zero,List.set_cons_succ])
 go_cut [20] (fun en wc=>∃(kq:Nat)(bv:Bool),en = .bool bv∧Aside0 (impl_WantOf.j0 kq l0 bv D ac af ag=some (r1,r2,r3,r4))∧Aside0 (kq≤k)∧Aside0 (wc.heap[ah]?=some (.cells #[.int .i64 D,(.slice ba ac.length av),(.slice aw af.length ax),(.slice ay ag.length az)] 33 (0,0)))∧Aside0 (wc.heap[al]?=some (.cells #[.int .i64 0,.int .i64 0,.int .i64 0,.int .i64 0] 48 (0,0)))∧Aside0 (Below w.heap.size w wc))
 case first =>
  have H:=du.out;clear du;replace H:=Option.bind_eq_some_iff.mp H;obtain⟨ej,eh,H⟩:=H;(try dsimp only at H);have A6:=ak eh;clear eh
  by_cases c7:ej=true
  ·subst c7;rw[if_pos rfl] at H
   by_cases c8:0≤D
   ·rw[if_pos c8] at H;have b5:decide (0≤D)=true:=decide_eq_true c8;clear c8;(first|rw[b5]|(simp only[i64_w,i32_w];rw[b5])|skip)
    by_cases c9:D < (l0.length:Int)
    ·rw[if_pos c9] at H;have ek:decide (D < (l0.length:Int))=true:=decide_eq_true c9;clear c9;replace H:=Option.bind_eq_some_iff.mp H;obtain⟨dy,dz,H⟩:=H;(try dsimp only at H);have ep:=ak dz;clear dz;have H':=ak H;clear H;have et:=ar.out;have eu:=au.out;obtain⟨cr,ct,cu,cv,cw,cx,cy,cz⟩:=bc4 U;go_wp2_with (first|(go_at_call 36;(with_reducible refine(impl_canStep.calls k _ _ l0 D _ _ ac _ _ af _ _ ag true _ ?side1 eg.out ?side3 cg.out ?side5 ci.out ?side7 ck.out A6.out).mono ?_);(case side1=>exact Cq b4);(case side3=>exact Cq bx);(case side5=>exact Cq ch);(case side7=>exact Cq cj);rintro e ga ⟨rfl,hb⟩;replace U:=kf U hb;replace X:=kf X hb;replace HB:=bs HB hb;clear hb;obtain⟨da,db,dc,de,df,dg,dh,di⟩:=bc4 U;have bz:0≤(D:Int):=od;have b0:D < (l0.length:Int):=od;obtain⟨ev,el,bo,bp,br,bu⟩:=at_T66 b4.out D bz b0;cases el;replace bo:=hx_ HB bo;replace bp:=hx_ HB bp;replace br:=hx_ HB br;replace bu:=hx_ HB bu;replace bz:=eq_true bz;replace b0:=eq_true b0)|(go_at_call 35;(with_reducible refine(impl_Asks.calls ((rd_T66 l0 D).f0) dy _ ep.out).mono ?_);rintro e w' ⟨rfl,⟨nd,rfl⟩⟩))
     go_meet
     case rel=>exact⟨_,(!dy),FR,H',⟨by first|omega | exact Nat.le_refl _⟩,⟨PK U⟩,⟨PK X⟩,⟨PB⟩⟩
    ·rw[if_neg c9] at H;exact absurd H (by simp)
   ·rw[if_neg c8] at H;exact absurd H (by simp)
  ·replace c7:=Bool.eq_false_iff.mpr c7;subst c7;rw[if_neg (show ¬(false=true) by decide)] at H;have H':=ak H;clear H;have ew:=ar.out;have ex:=au.out;obtain⟨dj,dk,dl,dn,dp,dq,dr,dt⟩:=bc4 U;go_wp2_with (first|(go_at_call 36;(with_reducible refine(impl_canStep.calls k _ _ l0 D _ _ ac _ _ af _ _ ag false _ ?side1 eg.out ?side3 cg.out ?side5 ci.out ?side7 ck.out A6.out).mono ?_);(case side1=>exact Cq b4);(case side3=>exact Cq bx);(case side5=>exact Cq ch);(case side7=>exact Cq cj);rintro e gb ⟨rfl,hb⟩;replace U:=kf U hb;replace X:=kf X hb;replace HB:=bs HB hb;clear hb))
   go_meet
   case rel=>exact⟨_,(true),FR,H',⟨by first|omega | exact Nat.le_refl _⟩,⟨PK U⟩,⟨PK X⟩,⟨PB⟩⟩
 case rest =>
  clear du;(try clear c1);(try clear p2);(try clear c3);(try clear p5);(try clear q5);(try clear hx5);(try clear c7);(try clear c8);(try clear b5);(try clear c9);(try clear ek);(try clear gc);(try clear gf);(try clear cr);(try clear ct);(try clear cu);(try clear cv);(try clear da);(try clear db);(try clear dc);(try clear de);(try clear dj);(try clear dk);(try clear dl);(try clear dn);(try clear cw);(try clear cx);(try clear cy);(try clear cz);(try clear df);(try clear dg);(try clear dh);(try clear di);(try clear dp);(try clear dq);(try clear dr);(try clear dt);(try clear bo);(try clear bp);(try clear br);(try clear bu);(try clear bz);(try clear b0);obtain⟨kq,bv,rfl,HA,gg,U,X,HB⟩:=hcut
  cases kq with
  | zero=>exact absurd HA.out (by simp[impl_WantOf.j0])
  | succ kj2 =>
   have H:=HA.out;clear HA;simp only[impl_WantOf.j0] at H
   by_cases cl:bv=true
   ·subst cl;rw[if_pos rfl] at H;simp only[Option.some.injEq,Prod.mk.injEq] at H;obtain⟨rfl,rfl,rfl,rfl⟩:=H;have ey:=au.out;have ez:=ar.out;obtain⟨_,_,_,_,_,_,_,_⟩:=bc4 X;go_wp2;refine bodyPost_ret (results_cell_row rfl _ _ al 48 #[.int .i64 0,.int .i64 0,.int .i64 0,.int .i64 0] (0,0) _ rfl (PX X) Tryd.underlying48 rfl KR) rfl ?_;exact⟨RT,PB⟩
   ·replace cl:=Bool.eq_false_iff.mpr cl;subst cl;rw[if_neg (show ¬(false=true) by decide)] at H
    by_cases cm:0≤D
    ·rw[if_pos cm] at H;have e7:decide (0≤D)=true:=decide_eq_true cm;clear cm
     by_cases cn:D < (l0.length:Int)
     ·rw[if_pos cn] at H;have e8:decide (D < (l0.length:Int))=true:=decide_eq_true cn;clear cn
      by_cases bw:((rd_T66 l0 D).f0)=1
      ·rw[if_pos bw] at H;have ea:(((rd_T66 l0 D).f0) == 1)=true:=beq_iff_eq.mpr bw;have eb:(((rd_T66 l0 D).f0) != 1)=false:=bne_eq_false_iff_eq.mpr bw;clear bw
       by_cases co:0≤((rd_T66 l0 D).f1)
       ·rw[if_pos co] at H;have e9:decide (0≤((rd_T66 l0 D).f1))=true:=decide_eq_true co;clear co
        by_cases cp:((rd_T66 l0 D).f1) < (ac.length:Int)
        ·rw[if_pos cp] at H;have fa:decide (((rd_T66 l0 D).f1) < (ac.length:Int))=true:=decide_eq_true cp;clear cp;simp only[Option.some.injEq,Prod.mk.injEq] at H;obtain⟨rfl,rfl,rfl,rfl⟩:=H;have fb:=ar.out;have fc:=au.out;obtain⟨_,_,_,_,_,_,_,_⟩:=bc4 U;have bl:0≤(D:Int):=od;have bm:D < (l0.length:Int):=od;obtain⟨ec,b6,bb,bc,bd,bf⟩:=at_T66 b4.out D bl bm;cases b6;replace bb:=hx_ HB bb;replace bc:=hx_ HB bc;replace bd:=hx_ HB bd;replace bf:=hx_ HB bf;replace bl:=eq_true bl;replace bm:=eq_true bm
         try go_wp2_with (first|((with_reducible refine gate_dst (N:=5) rfl ?_);refine bx_ (N:=5) #[.int .i64 0,.int .i64 0,.int .i64 0,.int .i64 0] 66 ?_;intro ai hg gh hbox hb;have ab:=ak hbox;have ed:=gy hg HB;replace HB:=bs HB hb;have bg:=gm hg U;have bh:=gn hg U;replace U:=kf U hb;have bi:=gm hg X;have bj:=gn hg X;replace X:=kf X hb;clear hb hbox hg;have fd:=bh.out;have fe:=bg.out;have ff:=bj.out;have fg:=bi.out;obtain⟨_,_,_,_,_,_,_,_⟩:=bc4 ab)|((with_reducible refine gate_dst (N:=6) rfl ?_);refine bx_ (N:=6) #[.int .i64 0,.int .i64 0,.int .i64 0,.int .i64 0] 48 ?_;intro J hg eq hbox hb;have ae:=ak hbox;have aj:=gy hg HB;replace HB:=bs HB hb;have Y:=ak ((by rw[hg];exact Nat.ne_of_lt (blk_lt (g:=ah) (o:=.cells #[.int .i64 D,.slice ba ac.length av,.slice aw af.length ax,.slice ay ag.length az] 33 (0,0)) (PF U)):ah≠J));have am:=ak ((by rw[hg];exact Nat.ne_of_gt (blk_lt (g:=ah) (o:=.cells #[.int .i64 D,.slice ba ac.length av,.slice aw af.length ax,.slice ay ag.length az] 33 (0,0)) (PF U)):J≠ah));replace U:=kf U hb;have ao:=ak ((by rw[hg];exact Nat.ne_of_lt (blk_lt (g:=al) (o:=.cells #[.int .i64 0,.int .i64 0,.int .i64 0,.int .i64 0] 48 (0,0)) (PF X)):al≠J));have ap:=ak ((by rw[hg];exact Nat.ne_of_gt (blk_lt (g:=al) (o:=.cells #[.int .i64 0,.int .i64 0,.int .i64 0,.int .i64 0] 48 (0,0)) (PF X)):J≠al));replace X:=kf X hb;have Z:=ak ((by rw[hg];exact Nat.ne_of_lt (blk_lt (g:=ai) (o:=.cells #[.int .i64 ((rd_T66 l0 D).f0),.int .i64 ((rd_T66 l0 D).f1),.int .i64 ((rd_T66 l0 D).f2),.int .i64 ((rd_T66 l0 D).f3)] 66 (0,0)) (PX ab)):ai≠J));have aq:=ak ((by rw[hg];exact Nat.ne_of_gt (blk_lt (g:=ai) (o:=.cells #[.int .i64 ((rd_T66 l0 D).f0),.int .i64 ((rd_T66 l0 D).f1),.int .i64 ((rd_T66 l0 D).f2),.int .i64 ((rd_T66 l0 D).f3)] 66 (0,0)) (PX ab)):J≠ai));replace ab:=kp (cs':=#[.int .i64 ((rd_T66 l0 D).f0),.int .i64 ((rd_T66 l0 D).f1),.int .i64 ((rd_T66 l0 D).f2),.int .i64 ((rd_T66 l0 D).f3)]) ab hb;clear hb hbox hg;have fh:=am.out;have fi:=Y.out;have fj:=ap.out;have fk:=ao.out;have fl:=aq.out;have fm:=Z.out;obtain⟨_,_,_,_,_,_,_,_⟩:=bc4 ae;obtain⟨_,_,_,_,_,_,_,_⟩:=bc4 ab))
         generalize hW_:((((eq.setCell ⟨J,0,none⟩ (.int .i64 ((rd_T66 l0 D).f0))).setCell ⟨J,1,none⟩ (.int .i64 0)).setCell ⟨J,2,none⟩ (.int .i64 0)).setCell ⟨J,3,none⟩ (.int .i64 0))=ei;replace U:=BE hW_ U;replace X:=BE hW_ X;replace ab:=BE hW_ ab;replace ae:Aside0 (ei.heap[J]?=some (.cells #[.int .i64 ((rd_T66 l0 D).f0),.int .i64 0,.int .i64 0,.int .i64 0] 48 (0,0))):=BP hW_ ae;replace HB:=BL hW_ HB;(try clear hW_);replace U:=ak (blk_drew U.out);replace X:=ak (blk_drew X.out);replace ab:=ak (blk_drew ab.out);replace ae:=ak (blk_drew ae.out);replace HB:=ak (below_drew1 HB.out);have b7:0≤(((rd_T66 l0 D).f1):Int):=od;have b8:((rd_T66 l0 D).f1) < (ac.length:Int):=od;obtain⟨cq,em,bk⟩:=Kd.at_int bx.out ((rd_T66 l0 D).f1) b7 b8;have hw523_0:=bk;cases em;replace bk:=hx_ HB bk;replace b7:=eq_true b7;replace b8:=eq_true b8;refine start_ (n:=14) (S:=fun w'=>w'.cell? ⟨ai,0,none⟩=some (.int .i64 ((rd_T66 l0 D).f0))∧w'.cell? ⟨ai,1,none⟩=some (.int .i64 ((rd_T66 l0 D).f1))∧w'.cell? ⟨ai,2,none⟩=some (.int .i64 ((rd_T66 l0 D).f2))∧w'.cell? ⟨ai,3,none⟩=some (.int .i64 ((rd_T66 l0 D).f3))∧w'.cell? ⟨ah,0,none⟩=some (.int .i64 D)∧w'.cell? ⟨ah,1,none⟩=some (.slice (some cq) ac.length av)∧w'.cell? ⟨ah,2,none⟩=some (.slice aw af.length ax)∧w'.cell? ⟨ah,3,none⟩=some (.slice ay ag.length az)∧w'.cell? (cq.add (((rd_T66 l0 D).f1)).toNat)=some (.int .i64 (rd ac ((rd_T66 l0 D).f1)))) (ds:=[]) #[false,false,false,false,false,false,false,false,false,false,false,false,false,false] KR rfl rfl ⟨bq ab 0,bq ab 1,bq ab 2,bq ab 3,bq U 0,bq U 1,bq U 2,bq U 3,((HB.out.cell (World.block_lt_of_cell? w _ hw523_0)).trans hw523_0)⟩ (fun hHeld=>?_);refine with_tabW impl_WantOf.tab6 impl_WantOf.bits6 (fun HT_ HW_=>?_)
         generalize ei.drew=d7 at U X ab ae HB bk hHeld ⊢
         refine pu_ (i:=0) (N:=some 33) #[true,false,false,false,false,false,false,false,false,false,false,false,false,false] HT_ ?_;refine pu_ (i:=2) (N:=some 35) #[true,false,true,false,false,false,false,false,false,false,false,false,false,false] HT_ ?_;refine pu_ (i:=4) (N:=some 37) #[true,false,true,false,true,false,false,false,false,false,false,false,false,false] HT_ ?_;refine pu_ (i:=6) (N:=some 39) #[true,false,true,false,true,false,true,false,false,false,false,false,false,false] HT_ ?_;refine tk_ (i:=1) (N:=some 34) #[true,true,true,false,true,false,true,false,false,false,false,false,false,false] rfl rfl HT_ HW_ hHeld ?_;refine tq_ (i:=3) (N:=some 36) #[true,true,true,true,true,false,true,false,false,false,false,false,false,false] rfl rfl (take_ofW HT_.out HW_.out KR) hHeld ?_
         refine tk_ (i:=5) (N:=some 38) #[true,true,true,true,true,true,true,false,false,false,false,false,false,false] rfl rfl HT_ HW_ hHeld ?_;refine tq_ (i:=7) (N:=some 40) #[true,true,true,true,true,true,true,true,false,false,false,false,false,false] rfl rfl (take_ofW HT_.out HW_.out KR) hHeld ?_
         refine pu_ (i:=8) (N:=some 41) #[true,true,true,true,true,true,true,true,true,false,false,false,false,false] HT_ ?_;refine tk_ (i:=9) (N:=some 42) #[true,true,true,true,true,true,true,true,true,true,false,false,false,false] rfl rfl HT_ HW_ hHeld ?_;refine pu_ (i:=10) (N:=some 43) #[true,true,true,true,true,true,true,true,true,true,true,false,false,false] HT_ ?_;refine pu_ (i:=11) (N:=some 44) #[true,true,true,true,true,true,true,true,true,true,true,true,false,false] HT_ ?_;refine pu_ (i:=12) (N:=some 45) #[true,true,true,true,true,true,true,true,true,true,true,true,true,false] HT_ ?_;refine one_ (i:=13) (N:=none) #[true,true,true,true,true,true,true,true,true,true,true,true,true,true] rfl rfl (one_of HT_.out KR) (by decide) (fun K hK=>?_);have hs40:d7.cell? ⟨J,1,none⟩=some (.int .i64 0):=bq ae 1;have hfs40:=blk_frozen ae.out 1;have hns40_0:=Y.out;have hns40_1:=ao.out;have hns40_2:=Z.out;have hms40_0:=am.out;have hms40_1:=ap.out;have hms40_2:=aq.out;have hs41:d7.cell? ⟨J,2,none⟩=some (.int .i64 0):=bq ae 2;have hfs41:=blk_frozen ae.out 2;have hns41_0:=Y.out;have hns41_1:=ao.out;have hns41_2:=Z.out;have hms41_0:=am.out;have hms41_1:=ap.out;have hms41_2:=aq.out;have hs42:d7.cell? ⟨J,3,none⟩=some (.int .i64 0):=bq ae 3;have hfs42:=blk_frozen ae.out 3;have hns42_0:=Y.out;have hns42_1:=ao.out;have hns42_2:=Z.out;have hms42_0:=am.out;have hms42_1:=ap.out;have hms42_2:=aq.out;refine skip_ (w1:=?_) (by rfl) rfl ?_ ?_;rotate_left
         ·go_simp
          rfl
         refine hK.out _ _ ⟨((cell_far (p:=⟨J,_,none⟩) Z.out _).trans (((cell_far (p:=⟨J,_,none⟩) Z.out _).trans (((cell_far (p:=⟨J,_,none⟩) Z.out _).trans (hHeld.1)))))),((cell_far (p:=⟨J,_,none⟩) Z.out _).trans (((cell_far (p:=⟨J,_,none⟩) Z.out _).trans (((cell_far (p:=⟨J,_,none⟩) Z.out _).trans (hHeld.2.1)))))),((cell_far (p:=⟨J,_,none⟩) Z.out _).trans (((cell_far (p:=⟨J,_,none⟩) Z.out _).trans (((cell_far (p:=⟨J,_,none⟩) Z.out _).trans (hHeld.2.2.1)))))),((cell_far (p:=⟨J,_,none⟩) Z.out _).trans (((cell_far (p:=⟨J,_,none⟩) Z.out _).trans (((cell_far (p:=⟨J,_,none⟩) Z.out _).trans (hHeld.2.2.2.1)))))),((cell_far (p:=⟨J,_,none⟩) Y.out _).trans (((cell_far (p:=⟨J,_,none⟩) Y.out _).trans (((cell_far (p:=⟨J,_,none⟩) Y.out _).trans (hHeld.2.2.2.2.1)))))),((cell_far (p:=⟨J,_,none⟩) Y.out _).trans (((cell_far (p:=⟨J,_,none⟩) Y.out _).trans (((cell_far (p:=⟨J,_,none⟩) Y.out _).trans (hHeld.2.2.2.2.2.1)))))),((cell_far (p:=⟨J,_,none⟩) Y.out _).trans (((cell_far (p:=⟨J,_,none⟩) Y.out _).trans (((cell_far (p:=⟨J,_,none⟩) Y.out _).trans (hHeld.2.2.2.2.2.2.1)))))),((cell_far (p:=⟨J,_,none⟩) Y.out _).trans (((cell_far (p:=⟨J,_,none⟩) Y.out _).trans (((cell_far (p:=⟨J,_,none⟩) Y.out _).trans (hHeld.2.2.2.2.2.2.2.1)))))),((cell_far (p:=⟨J,_,none⟩) (by first|exact Nat.ne_of_lt (Nat.lt_of_lt_of_le (by have:=World.block_lt_of_cell? _ _ hw523_0;first|rwa [add_block] at this | exact this) aj.out)|(rw[add_block];exact Nat.ne_of_lt (Nat.lt_of_lt_of_le (by have:=World.block_lt_of_cell? _ _ hw523_0;first|rwa [add_block] at this | exact this) aj.out))|(show(Addr.add _ _).block≠_;rw[add_block];exact Nat.ne_of_lt (Nat.lt_of_lt_of_le (by have:=World.block_lt_of_cell? _ _ hw523_0;first|rwa [add_block] at this | exact this) aj.out))|(dsimp only;exact Nat.ne_of_lt (Nat.lt_of_lt_of_le (by have:=World.block_lt_of_cell? _ _ hw523_0;first|rwa [add_block] at this | exact this) aj.out))) _).trans (((cell_far (p:=⟨J,_,none⟩) (by first|exact Nat.ne_of_lt (Nat.lt_of_lt_of_le (by have:=World.block_lt_of_cell? _ _ hw523_0;first|rwa [add_block] at this | exact this) aj.out)|(rw[add_block];exact Nat.ne_of_lt (Nat.lt_of_lt_of_le (by have:=World.block_lt_of_cell? _ _ hw523_0;first|rwa [add_block] at this | exact this) aj.out))|(show(Addr.add _ _).block≠_;rw[add_block];exact Nat.ne_of_lt (Nat.lt_of_lt_of_le (by have:=World.block_lt_of_cell? _ _ hw523_0;first|rwa [add_block] at this | exact this) aj.out))|(dsimp only;exact Nat.ne_of_lt (Nat.lt_of_lt_of_le (by have:=World.block_lt_of_cell? _ _ hw523_0;first|rwa [add_block] at this | exact this) aj.out))) _).trans (((cell_far (p:=⟨J,_,none⟩) (by first|exact Nat.ne_of_lt (Nat.lt_of_lt_of_le (by have:=World.block_lt_of_cell? _ _ hw523_0;first|rwa [add_block] at this | exact this) aj.out)|(rw[add_block];exact Nat.ne_of_lt (Nat.lt_of_lt_of_le (by have:=World.block_lt_of_cell? _ _ hw523_0;first|rwa [add_block] at this | exact this) aj.out))|(show(Addr.add _ _).block≠_;rw[add_block];exact Nat.ne_of_lt (Nat.lt_of_lt_of_le (by have:=World.block_lt_of_cell? _ _ hw523_0;first|rwa [add_block] at this | exact this) aj.out))|(dsimp only;exact Nat.ne_of_lt (Nat.lt_of_lt_of_le (by have:=World.block_lt_of_cell? _ _ hw523_0;first|rwa [add_block] at this | exact this) aj.out))) _).trans (hHeld.2.2.2.2.2.2.2.2))))))⟩ (fun hHeld=>?_);clear hK K;refine done_ (done_of HT_.out KR) ?_;obtain⟨_,_,_,_,_,_,_,_⟩:=bc4 ae;obtain⟨_,_,_,_,_,_,_,_⟩:=bc4 X
         try go_wp2
         refine bodyPost_ret (results_cell_row rfl _ _ al 48 #[.int .i64 ((rd_T66 l0 D).f0),.int .i64 ((rd_T66 l0 D).f2),.int .i64 ((rd_T66 l0 D).f3),.int .i64 (Int.tmod (rd ac ((rd_T66 l0 D).f1)) 100)] (0,0) _ rfl (PX X) Tryd.underlying48 rfl KR) rfl ?_;exact⟨RT,PB⟩
        ·rw[if_neg cp] at H;exact absurd H (by simp)
       ·rw[if_neg co] at H;exact absurd H (by simp)
      ·rw[if_neg bw] at H;have ea:(((rd_T66 l0 D).f0) == 1)=false:=beq_eq_false_iff_ne.mpr bw;have eb:(((rd_T66 l0 D).f0) != 1)=true:=bne_iff_ne.mpr bw;simp only[Option.some.injEq,Prod.mk.injEq] at H;obtain⟨rfl,rfl,rfl,rfl⟩:=H;have fo:=ar.out;have fp:=au.out;obtain⟨_,_,_,_,_,_,_,_⟩:=bc4 U;have bl:0≤(D:Int):=od;have bm:D < (l0.length:Int):=od;obtain⟨ec,b6,bb,bc,bd,bf⟩:=at_T66 b4.out D bl bm;cases b6;replace bb:=hx_ HB bb;replace bc:=hx_ HB bc;replace bd:=hx_ HB bd;replace bf:=hx_ HB bf;replace bl:=eq_true bl;replace bm:=eq_true bm;go_wp2_with (first|((with_reducible refine gate_dst (N:=5) rfl ?_);refine bx_ (N:=5) #[.int .i64 0,.int .i64 0,.int .i64 0,.int .i64 0] 66 ?_;intro ai hg gi hbox hb;have ab:=ak hbox;have ed:=gy hg HB;replace HB:=bs HB hb;have bg:=gm hg U;have bh:=gn hg U;replace U:=kf U hb;have bi:=gm hg X;have bj:=gn hg X;replace X:=kf X hb;clear hb hbox hg;have fq:=bh.out;have ft:=bg.out;have fu:=bj.out;have fv:=bi.out;obtain⟨_,_,_,_,_,_,_,_⟩:=bc4 ab)|((with_reducible refine gate_dst (N:=6) rfl ?_);refine bx_ (N:=6) #[.int .i64 0,.int .i64 0,.int .i64 0,.int .i64 0] 48 ?_;intro J hg gj hbox hb;have ae:=ak hbox;have aj:=gy hg HB;replace HB:=bs HB hb;have Y:=ak ((by rw[hg];exact Nat.ne_of_lt (blk_lt (g:=ah) (o:=.cells #[.int .i64 D,.slice ba ac.length av,.slice aw af.length ax,.slice ay ag.length az] 33 (0,0)) (PF U)):ah≠J));have am:=ak ((by rw[hg];exact Nat.ne_of_gt (blk_lt (g:=ah) (o:=.cells #[.int .i64 D,.slice ba ac.length av,.slice aw af.length ax,.slice ay ag.length az] 33 (0,0)) (PF U)):J≠ah));replace U:=kf U hb;have ao:=ak ((by rw[hg];exact Nat.ne_of_lt (blk_lt (g:=al) (o:=.cells #[.int .i64 0,.int .i64 0,.int .i64 0,.int .i64 0] 48 (0,0)) (PF X)):al≠J));have ap:=ak ((by rw[hg];exact Nat.ne_of_gt (blk_lt (g:=al) (o:=.cells #[.int .i64 0,.int .i64 0,.int .i64 0,.int .i64 0] 48 (0,0)) (PF X)):J≠al));replace X:=kf X hb;have Z:=ak ((by rw[hg];exact Nat.ne_of_lt (blk_lt (g:=ai) (o:=.cells #[.int .i64 ((rd_T66 l0 D).f0),.int .i64 ((rd_T66 l0 D).f1),.int .i64 ((rd_T66 l0 D).f2),.int .i64 ((rd_T66 l0 D).f3)] 66 (0,0)) (PX ab)):ai≠J));have aq:=ak ((by rw[hg];exact Nat.ne_of_gt (blk_lt (g:=ai) (o:=.cells #[.int .i64 ((rd_T66 l0 D).f0),.int .i64 ((rd_T66 l0 D).f1),.int .i64 ((rd_T66 l0 D).f2),.int .i64 ((rd_T66 l0 D).f3)] 66 (0,0)) (PX ab)):J≠ai));replace ab:=kp (cs':=#[.int .i64 ((rd_T66 l0 D).f0),.int .i64 ((rd_T66 l0 D).f1),.int .i64 ((rd_T66 l0 D).f2),.int .i64 ((rd_T66 l0 D).f3)]) ab hb;clear hb hbox hg;have fw:=am.out;have fx:=Y.out;have fy:=ap.out;have fz:=ao.out;have f4:=aq.out;have f5:=Z.out;obtain⟨_,_,_,_,_,_,_,_⟩:=bc4 ae;obtain⟨_,_,_,_,_,_,_,_⟩:=bc4 ab;obtain⟨_,_,_,_,_,_,_,_⟩:=bc4 X));refine bodyPost_ret (results_cell_row rfl _ _ al 48 #[.int .i64 ((rd_T66 l0 D).f0),.int .i64 0,.int .i64 0,.int .i64 0] (0,0) _ rfl (PX X) Tryd.underlying48 rfl KR) rfl ?_;exact⟨RT,PB⟩
     ·rw[if_neg cn] at H;exact absurd H (by simp)
    ·rw[if_neg cm] at H;exact absurd H (by simp)

def slices_Clone_int_int.f (J:List Int):Option (List Int):=(some (([]:List Int):List Int)).bind fun D=>(if D.length+J.length < 17592186044416 then(some (D++J)) else(none))
theorem slices_Clone_int_int.calls (A0:Option Addr)(c0:Nat)(D:List Int)(r:List Int)(w:World)(ab:Kd.C (Kd.int .i64) w A0 D.length D)(ag:D.length≤c0)(h:slices_Clone_int_int.f D=some r) :
  Calls Tryd.prog 62 #[.slice A0 D.length c0] w fun e w'=>∃ ah:Value,e = .returned (ah)∧Kd.R (Kd.int .i64) 3 w' w.heap.size (fun _=>True) ah r∧Below w.heap.size w w':=by
 cases A0 with
 | none =>
  have hz_:D.length=0:=C_none_length ab;obtain rfl:D=[]:=List.eq_nil_of_length_eq_zero hz_
  obtain rfl:r=[]:=by
   have h2_:=h
   simp[slices_Clone_int_int.f] at h2_
   exact h2_
  have hnn_:∀ W,(binOp .eql 26 (.slice none 0 c0) (.slice none 0 0)).run Tryd.prog W = .ok (.bool true) W:=fun W=>eql_nil_none (P:=Tryd.prog) W 26 3 0 c0 Tryd.underlying26
  go_enter Tryd.func62,Tryd.ntmps62;go_wp2
  go_ret
  exact⟨_,rfl,Kd.R_nil _ _ _ _ _,Below.refl _ _⟩
 | some ad_ =>
  have hnn_:∀ W,(binOp .eql 26 (.slice (some ad_) D.length c0) (.slice none 0 0)).run Tryd.prog W = .ok (.bool false) W:=fun W=>eql_nil_some (P:=Tryd.prog) W 26 3 ad_ D.length c0 Tryd.underlying26
  have ao:=ak ab;have aq:=ak ag;clear ab ag;have HB:=ak (Below.refl w.heap.size w);have H:=h;clear h;unfold slices_Clone_int_int.f at H;obtain⟨X,J⟩:∃ y_:List Int,y_=(([]:List Int)):=⟨_,rfl⟩
  replace H:(if X.length+D.length < 17592186044416 then(some (X++D)) else(none))=some r:=by first|(rw[J];with_reducible exact H)|(have H2_:=(Option.bind_some _ _).symm.trans H;rw[J];with_reducible exact H2_)|exact H
  have Y:=ak J;clear J
  by_cases c2:X.length+D.length < 17592186044416
  ·rw[if_pos c2] at H;have aj:=ak c2;clear c2;obtain⟨al,U⟩:∃ y_:List Int,y_=(X++D):=⟨_,rfl⟩
   replace H:(some al)=some r:=by first|(rw[U];with_reducible exact H)|(have H2_:=(Option.bind_some _ _).symm.trans H;rw[U];with_reducible exact H2_)|exact H
   have ae:=ak U;clear U;obtain rfl:=Option.some.inj H;go_enter Tryd.func62,Tryd.ntmps62;go_wp2_with (first|((with_reducible refine gate_dst (N:=5) rfl ?_);refine Kd.R_lit (Kd.int .i64) _ 3 ?hg (N:=5) ?hd (xs:=([]:List Int)) (inner:=[]) (ok:=fun _=>True) (okp:=fun _=>True) ?hr ?hp (fun _ hk=>hk) trivial (Below.refl _ _) (Nat.le_refl _) (by simp) ?_;(case hd=>rfl);(case hg=>rfl);(case hr=>first|(go_simp;done)|(go_simp;rfl));(case hp=>exact(Reps.none _ _));intro am w3 ho4 hb hg_ hnew_;clear hg_ hnew_;(first|rw[←Y.out] at ho4|(simp only[Int.reduceToNat] at ho4;rw[←Y.out] at ho4));have Z:=Rn0 ho4 HB;replace HB:=bs HB hb;clear hb ho4)|((with_reducible refine gate_builtin (b:=.append) (xs:=#[.tmp 5,.tmp 6]) rfl ?_);at_builtin;refine Kd.R_append_rows (Kd.int .i64) (w0:=w) w.heap.size rfl (.tmp 5) (.tmp 6) 26 3 (.int .i64 0) 8 rfl Tryd.underlying26 info3 rfl (by decide) (by omega) am X D _ _ _ (fun _=>True) (fun _=>False) rfl rfl ?aO ?aR (fun _ _ h=>h) (fun _ h=>h.elim) ?aF ?aB ?aS ?aL ?_;(case aR=>repeat(first|exact(Kd.C_below ao.out HB.out)|(with_reducible refine Kd.C_alloc ?_ _)|(with_reducible refine Kd.C_drewN ?_ _)|(with_reducible refine Kd.C_drew ?_)));(case aB=>exact PB);(case aF=>exact(fun _ _=>trivial));(case aO=>exact(PR Z));(case aS=>exact(below_size PB));(case aL=>have:=aj.out;omega);intro ap w5 ho hb hg hat;rw[←ae.out] at ho;replace HB:=ak hb;have af:=ak (ho);clear Z;clear ho hb hg hat))
   go_ret
   exact⟨_,RT,by(with_reducible repeat(first|apply Kd.R_alloc | apply Kd.R_drewN | apply Kd.R_drew));exact af.out,PB⟩
  ·rw[if_neg c2] at H;exact absurd H (by simp)
def impl_copyResource.f (D:Int)(J:List Int)(U:Int)(X:Int)(Y:Int):Option (Int×List Int×Int×Int×Int):=(slices_Clone_int_int.f J).bind fun Z=>(some (D,Z,U,X,Y))
theorem impl_copyResource.calls (X:Int)(Y:Option Addr)(Z:Nat)(J:List Int)(aa:Int)(ab:Int)(ac:Int)(r1:Int)(r2:List Int)(r3:Int)(r4:Int)(r5:Int)(w:World)(ag:Kd.C (Kd.int .i64) w Y J.length J)(ah:J.length≤Z)(h:impl_copyResource.f X J aa ab ac=some (r1,r2,r3,r4,r5)) :
  Calls Tryd.prog 70 #[.agg #[.int .i64 X,.slice Y J.length Z,.int .i64 aa,.int .i64 ab,.int .i64 ac]] w fun e w'=>∃ ap:Value,e = .returned (.agg #[.int .i64 r1,ap,.int .i64 r3,.int .i64 r4,.int .i64 r5])∧Kd.R (Kd.int .i64) 3 w' w.heap.size (fun _=>True) ap r2∧Below w.heap.size w w':=by
 have bf:=Tryd.underlying76;have al:=ak ag;have am:=ak ah;clear ag ah;have HB:=ak (Below.refl w.heap.size w);have H:=h;clear h;unfold impl_copyResource.f at H;replace H:=Option.bind_eq_some_iff.mp H;obtain⟨aj,aq,H⟩:=H;(try dsimp only at H);have A2:=ak aq;clear aq;simp only[Option.some.injEq,Prod.mk.injEq] at H;obtain⟨rfl,rfl,rfl,rfl,rfl⟩:=H;go_enter Tryd.func70,Tryd.ntmps70;go_wp2_with (first|((with_reducible refine gate_dst (N:=1) rfl ?_);refine bx_ (N:=1) #[.int .i64 X,.slice Y J.length Z,.int .i64 aa,.int .i64 ab,.int .i64 ac] 76 ?_;intro bb hg w3 hbox hb;have D:=ak hbox;have bc:=gy hg HB;replace HB:=bs HB hb;clear hb hbox hg)|((with_reducible refine gate_dst (N:=2) rfl ?_);refine bx_ (N:=2) #[.int .i64 0,.slice none 0 0,.int .i64 0,.int .i64 0,.int .i64 0] 76 ?_;intro ao hg w4 hbox hb;have U:=ak hbox;have bd:=gy hg HB;replace HB:=bs HB hb;have ae:=gm hg D;have af:=gn hg D;replace D:=kf D hb;clear hb hbox hg;have bh:=ae.out;have bi:=af.out;obtain⟨_,_,_,_,_,_,_,_,_,_⟩:=bc5 D)|(go_at_call 62;(with_reducible refine(slices_Clone_int_int.calls _ _ J aj _ ?side1 am.out A2.out).mono ?_);(case side1=>exact Cq al);rintro e w7 ⟨bj,rfl,ho0,hb⟩;have ai:=Rn0 ho0 HB;replace D:=kf D hb;replace U:=kf U hb;replace HB:=bs HB hb;clear hb ho0;obtain⟨ar,au,rfl⟩:=Kd.R_slice ai.out;obtain⟨av,aw,ax,_,_,ay,az,ba,_,_⟩:=bc5 D;obtain⟨_,_,_,_,_,_,_,_,_,_⟩:=bc5 U));refine bodyPost_ret (results_cell_row rfl _ _ ao 76 #[.int .i64 X,.slice ar aj.length au,.int .i64 aa,.int .i64 ab,.int .i64 ac] (0,0) _ rfl (PX U) Tryd.underlying76 rfl KR) rfl ?_;exact⟨_,RT,RX (Rt (Rt ai.out D) U) (fun _ hk=>trivial),PB⟩
attribute [local go_sem high] eqA46
def impl_AnswerAt.l0:Nat→List (S96)→Int→Int→Int→Int→Int→Option (Int×List Int×Int×Int×Int)
  | 0,_,_,_,_,_,_=>none
  | k+1,Z,x2,D,U,X,Y=>if D≥0 then(if 0≤D then(if D < (Z.length:Int) then(if (((rd_T96 Z D).f0.f0) == U && (((rd_T96 Z D).f0.f1) == X && (((rd_T96 Z D).f0.f2) == Y)))=true then(if ((rd_T96 Z D).f1)≤x2 then((impl_copyResource.f ((rd_T96 Z D).f2.f0) ((rd_T96 Z D).f2.f1) ((rd_T96 Z D).f2.f2.f0) ((rd_T96 Z D).f2.f2.f1) ((rd_T96 Z D).f2.f2.f2)).bind fun J=>(some (J.1,J.2.1,J.2.2.1,J.2.2.2.1,J.2.2.2.2))) else(impl_AnswerAt.l0 k Z x2 (wrap64 (D - 1)) U X Y)) else(impl_AnswerAt.l0 k Z x2 (wrap64 (D - 1)) U X Y)) else(none)) else(none)) else(some (4,([]:List Int),0,0,0))
def impl_AnswerAt.f (k:Nat)(X:List (S96))(D:Int)(J:Int)(U:Int)(Y:Int):Option (Int×List Int×Int×Int×Int):=impl_AnswerAt.l0 k X Y (wrap64 ((X.length:Int) - 1)) D J U
theorem impl_AnswerAt.calls (k:Nat)(A0:Option Addr)(c0:Nat)(J:List (S96))(al:Int)(am:Int)(ao:Int)(a2:Int)(r1:Int)(r2:List Int)(r3:Int)(r4:Int)(r5:Int)(w:World)(dz:Kd.C k96 w A0 J.length J)(d7:J.length≤c0)(h:impl_AnswerAt.f k J al am ao a2=some (r1,r2,r3,r4,r5)) :
  Calls Tryd.prog 59 #[.slice A0 J.length c0,.agg #[.int .i64 al,.int .i64 am,.int .i64 ao],.int .i64 a2] w fun e w'=>∃ d8:Value,e = .returned (.agg #[.int .i64 r1,d8,.int .i64 r3,.int .i64 r4,.int .i64 r5])∧Kd.R (Kd.int .i64) 3 w' w.heap.size (fun _=>True) d8 r2∧Below w.heap.size w w':=by
 have et:=Tryd.underlying46;have eu:=Tryd.underlying76;have bx:=ak dz;have e8:=ak d7;clear dz d7;have HB:=ak (Below.refl w.heap.size w);have H:=h;clear h;unfold impl_AnswerAt.f at H;have H':=ak H;clear H;go_enter Tryd.func59,Tryd.ntmps59
 iterate 4 (try go_wp2_with (first|((with_reducible refine gate_dst (N:=4) rfl ?_);refine bx_ (N:=4) #[.int .i64 al,.int .i64 am,.int .i64 ao] 46 ?_;intro cu hg w4 hbox hb;have U:=ak hbox;have dt:=gy hg HB;replace HB:=bs HB hb;clear hb hbox hg)|((with_reducible refine gate_dst (N:=6) rfl ?_);refine bx_ (N:=6) #[.int .i64 0,.slice none 0 0,.int .i64 0,.int .i64 0,.int .i64 0] 76 ?_;intro br hg w5 hbox hb;have Y:=ak hbox;have du:=gy hg HB;replace HB:=bs HB hb;have aq:=gm hg U;have ar:=gn hg U;replace U:=kf U hb;clear hb hbox hg));try go_quiet (first|((with_reducible refine gate_dst (N:=4) rfl ?_);refine bx_ (N:=4) #[.int .i64 al,.int .i64 am,.int .i64 ao] 46 ?_;intro cu hg w4 hbox hb;have U:=ak hbox;have dt:=gy hg HB;replace HB:=bs HB hb;clear hb hbox hg)|((with_reducible refine gate_dst (N:=6) rfl ?_);refine bx_ (N:=6) #[.int .i64 0,.slice none 0 0,.int .i64 0,.int .i64 0,.int .i64 0] 76 ?_;intro br hg w5 hbox hb;have Y:=ak hbox;have du:=gy hg HB;replace HB:=bs HB hb;have aq:=gm hg U;have ar:=gn hg U;replace U:=kf U hb;clear hb hbox hg)))
 go_loopg [7] k (fun kq v7 w'=>∃(D:Int)(aw:Int)(ax:Int)(ay:Int)(az:Int),v7 = .int .i64 D∧Aside0 (impl_AnswerAt.l0 kq J a2 D al am ao=some (r1,r2,r3,r4,r5))∧Aside0 (kq≤k)∧Aside0 (w'.heap[cu]?=some (.cells #[.int .i64 al,.int .i64 am,.int .i64 ao] 46 (0,0)))∧Aside0 (w'.heap[br]?=some (.cells #[.int .i64 aw,(.slice none 0 0),.int .i64 ax,.int .i64 ay,.int .i64 az] 76 (0,0)))∧Aside0 (Below w.heap.size w w'))
 case atStart=>exact⟨(wrap64 ((J.length:Int) - 1)),(0),(0),(0),(0),FR,H',⟨Nat.le_refl _⟩,⟨PK U⟩,⟨PK Y⟩,⟨PB⟩⟩
 case round =>
  clear H';(try clear p2);(try clear c5);obtain⟨D,aw,ax,ay,az,rfl,HA,cv,U,Y,HB⟩:=hrel
  cases gk with
  | zero=>exact absurd HA.out (by simp[impl_AnswerAt.l0])
  | succ k1 =>
   have H:=HA.out;clear HA;simp only[impl_AnswerAt.l0] at H
   by_cases c6:D≥0
   ·rw[if_pos c6] at H;have ea:decide (0≤D)=true:=decide_eq_true c6;clear c6
    by_cases c7:0≤D
    ·rw[if_pos c7] at H;have ey:decide (0≤D)=true:=decide_eq_true c7;clear c7
     by_cases c8:D < (J.length:Int)
     ·rw[if_pos c8] at H;have ez:decide (D < (J.length:Int))=true:=decide_eq_true c8;clear c8
      by_cases c9:(((rd_T96 J D).f0.f0) == al && (((rd_T96 J D).f0.f1) == am && (((rd_T96 J D).f0.f2) == ao)))=true
      ·rw[if_pos c9] at H;have eb:(((rd_T96 J D).f0.f0) == al && (((rd_T96 J D).f0.f1) == am && (((rd_T96 J D).f0.f2) == ao)))=true:=c9;(try(have ec:decide (((rd_T96 J D).f0.f0)=al && (((rd_T96 J D).f0.f1) == am && (((rd_T96 J D).f0.f2) == ao)))=true:=by simpa using c9));(try(have ed:(((rd_T96 J D).f0.f0) == al && (((rd_T96 J D).f0.f1) == am && (((rd_T96 J D).f0.f2) == ao)))=true:=by simpa using c9));clear c9
       by_cases bz:((rd_T96 J D).f1)≤a2
       ·rw[if_pos bz] at H;have dx:decide (((rd_T96 J D).f1)≤a2)=true:=decide_eq_true bz;clear bz;replace H:=Option.bind_eq_some_iff.mp H;obtain⟨⟨cl,cm,cn,co,cp⟩,dl,H⟩:=H;(try dsimp only at H);have d9:=ak dl;clear dl;simp only[Option.some.injEq,Prod.mk.injEq] at H;obtain⟨rfl,rfl,rfl,rfl,rfl⟩:=H;have au:0≤(D:Int):=od;have av:D < (J.length:Int):=od;obtain⟨bo,cj,ck,bw,Z,aa,ab,ac,ae,X,af,ag,ah,ai,aj⟩:=at_T96 bx.out D au av;cases bw;replace Z:=hx_ HB Z;replace aa:=hx_ HB aa;replace ab:=hx_ HB ab;replace ac:=hx_ HB ac;replace ae:=hx_ HB ae;replace X:=hx_ HB X;replace af:=hx_ HB af;replace ag:=hx_ HB ag;replace ah:=hx_ HB ah;have b0:=ak aj;have b4:=ak ai;clear aj ai;replace au:=eq_true au;replace av:=eq_true av;have el:=aq.out;have em:=ar.out;obtain⟨_,_,_,_,_,_⟩:=bc3 U;have bl:0≤(D:Int):=od;have bm:D < (J.length:Int):=od;obtain⟨ci,dn,dp,cq,ba,bb,bc,bd,bf,ap,bg,bh,bi,bj,bk⟩:=at_T96 bx.out D bl bm;obtain rfl:bo=ci:=(by injection cq);replace ba:=hx_ HB ba;replace bb:=hx_ HB bb;replace bc:=hx_ HB bc;replace bd:=hx_ HB bd;replace bf:=hx_ HB bf;replace ap:=hx_ HB ap;replace bg:=hx_ HB bg;replace bh:=hx_ HB bh;replace bi:=hx_ HB bi;have cy:=ak bk;have cz:=ak bj;clear bk bj;replace bl:=eq_true bl;replace bm:=eq_true bm;have ea_:=Option.some.inj (X.symm.trans ap)
        injection ea_ with ea_ en_ ec_
        subst ea_;subst ec_;clear en_;have cr:0≤(D:Int):=od;have ct:D < (J.length:Int):=od;obtain⟨dy,ei,ej,ee,b5,b6,b7,b8,b9,bp,ca,cb,cd,ce,cf⟩:=at_T96 bx.out D cr ct;obtain rfl:bo=dy:=(by injection ee);replace b5:=hx_ HB b5;replace b6:=hx_ HB b6;replace b7:=hx_ HB b7;replace b8:=hx_ HB b8;replace b9:=hx_ HB b9;replace bp:=hx_ HB bp;replace ca:=hx_ HB ca;replace cb:=hx_ HB cb;replace cd:=hx_ HB cd;have cg:=ak cf;have ch:=ak ce;clear cf ce;replace cr:=eq_true cr;replace ct:=eq_true ct;have ea_:=Option.some.inj (X.symm.trans bp)
        injection ea_ with ea_ en_ ec_
        subst ea_;subst ec_;clear en_
        iterate 4 (try go_wp2_with (first|(go_at_call 70;(with_reducible refine(impl_copyResource.calls ((rd_T96 J D).f2.f0) _ _ ((rd_T96 J D).f2.f1) ((rd_T96 J D).f2.f2.f0) ((rd_T96 J D).f2.f2.f1) ((rd_T96 J D).f2.f2.f2) cl cm cn co cp _ ?side1 ch.out d9.out).mono ?_);(case side1=>exact Cq cg);rintro e ek ⟨ef,rfl,ho0,hb⟩;have bu:=Rn0 ho0 HB;replace U:=kf U hb;replace Y:=kf Y hb;replace HB:=bs HB hb;clear hb ho0;obtain⟨da,db,dc,de,df,dg,dh,di,dj,dk⟩:=bc5 Y;obtain⟨dq,dr,rfl⟩:=Kd.R_slice bu.out));try go_quiet (first|(go_at_call 70;(with_reducible refine(impl_copyResource.calls ((rd_T96 J D).f2.f0) _ _ ((rd_T96 J D).f2.f1) ((rd_T96 J D).f2.f2.f0) ((rd_T96 J D).f2.f2.f1) ((rd_T96 J D).f2.f2.f2) cl cm cn co cp _ ?side1 ch.out d9.out).mono ?_);(case side1=>exact Cq cg);rintro e ek ⟨ef,rfl,ho0,hb⟩;have bu:=Rn0 ho0 HB;replace U:=kf U hb;replace Y:=kf Y hb;replace HB:=bs HB hb;clear hb ho0;obtain⟨da,db,dc,de,df,dg,dh,di,dj,dk⟩:=bc5 Y;obtain⟨dq,dr,rfl⟩:=Kd.R_slice bu.out)))
        refine bodyPost_ret (results_cell_row rfl _ _ br 76 #[.int .i64 cl,.slice dq cm.length dr,.int .i64 cn,.int .i64 co,.int .i64 cp] (0,0) _ rfl (PX Y) Tryd.underlying76 rfl KR) rfl ?_;exact⟨_,RT,RX (Rt bu.out Y) (fun _ hk=>trivial),PB⟩
       ·rw[if_neg bz] at H;have dx:decide (((rd_T96 J D).f1)≤a2)=false:=decide_eq_false bz;clear bz;have H':=ak H;clear H;have au:0≤(D:Int):=od;have av:D < (J.length:Int):=od;obtain⟨bo,cj,ck,bw,Z,aa,ab,ac,ae,X,af,ag,ah,ai,aj⟩:=at_T96 bx.out D au av;cases bw;replace Z:=hx_ HB Z;replace aa:=hx_ HB aa;replace ab:=hx_ HB ab;replace ac:=hx_ HB ac;replace ae:=hx_ HB ae;replace X:=hx_ HB X;replace af:=hx_ HB af;replace ag:=hx_ HB ag;replace ah:=hx_ HB ah;have b0:=ak aj;have b4:=ak ai;clear aj ai;replace au:=eq_true au;replace av:=eq_true av;have en:=aq.out;have eo:=ar.out;obtain⟨_,_,_,_,_,_⟩:=bc3 U;have bl:0≤(D:Int):=od;have bm:D < (J.length:Int):=od;obtain⟨ci,dn,dp,cq,ba,bb,bc,bd,bf,ap,bg,bh,bi,bj,bk⟩:=at_T96 bx.out D bl bm;obtain rfl:bo=ci:=(by injection cq);replace ba:=hx_ HB ba;replace bb:=hx_ HB bb;replace bc:=hx_ HB bc;replace bd:=hx_ HB bd;replace bf:=hx_ HB bf;replace ap:=hx_ HB ap;replace bg:=hx_ HB bg;replace bh:=hx_ HB bh;replace bi:=hx_ HB bi;have cy:=ak bk;have cz:=ak bj;clear bk bj;replace bl:=eq_true bl;replace bm:=eq_true bm;have ea_:=Option.some.inj (X.symm.trans ap)
        injection ea_ with ea_ en_ ec_
        subst ea_;subst ec_;clear en_;go_wp2
        repeat(go_quiet (fail);try go_wp2)
        go_roundg k1
        case measure=>have:=cv.out;omega
        case rel=>exact⟨(wrap64 (D - 1)),(aw),(ax),(ay),(az),FR,H',⟨by have:=cv.out;omega⟩,⟨PK U⟩,⟨PK Y⟩,⟨PB⟩⟩
      ·rw[if_neg c9] at H
       have eb:(((rd_T96 J D).f0.f0) == al && (((rd_T96 J D).f0.f1) == am && (((rd_T96 J D).f0.f2) == ao)))=false:=by simpa using c9
       (try(have ec:decide (((rd_T96 J D).f0.f0)=al && (((rd_T96 J D).f0.f1) == am && (((rd_T96 J D).f0.f2) == ao)))=false:=by simpa using c9));(try(have ed:(((rd_T96 J D).f0.f0) == al && (((rd_T96 J D).f0.f1) == am && (((rd_T96 J D).f0.f2) == ao)))=false:=by simpa using c9));(try(have e7:¬(((rd_T96 J D).f0.f0)=al && (((rd_T96 J D).f0.f1) == am && (((rd_T96 J D).f0.f2) == ao))):=by simpa using c9));clear c9;have H':=ak H;clear H;have au:0≤(D:Int):=od;have av:D < (J.length:Int):=od;obtain⟨bo,cj,ck,bw,Z,aa,ab,ac,ae,X,af,ag,ah,ai,aj⟩:=at_T96 bx.out D au av;cases bw;replace Z:=hx_ HB Z;replace aa:=hx_ HB aa;replace ab:=hx_ HB ab;replace ac:=hx_ HB ac;replace ae:=hx_ HB ae;replace X:=hx_ HB X;replace af:=hx_ HB af;replace ag:=hx_ HB ag;replace ah:=hx_ HB ah;have b0:=ak aj;have b4:=ak ai;clear aj ai;replace au:=eq_true au;replace av:=eq_true av;have ep:=aq.out;have eq:=ar.out;obtain⟨_,_,_,_,_,_⟩:=bc3 U;go_wp2
       repeat(go_quiet (fail);try go_wp2)
       go_roundg k1
       case measure=>have:=cv.out;omega
       case rel=>exact⟨(wrap64 (D - 1)),(aw),(ax),(ay),(az),FR,H',⟨by have:=cv.out;omega⟩,⟨PK U⟩,⟨PK Y⟩,⟨PB⟩⟩
     ·rw[if_neg c8] at H;exact absurd H (by simp)
    ·rw[if_neg c7] at H;exact absurd H (by simp)
   ·rw[if_neg c6] at H;have ea:decide (0≤D)=false:=decide_eq_false c6;clear c6;simp only[Option.some.injEq,Prod.mk.injEq] at H;obtain⟨rfl,rfl,rfl,rfl,rfl⟩:=H;have er:=ar.out;have es:=aq.out;obtain⟨_,_,_,_,_,_,_,_,_,_⟩:=bc5 Y;go_wp2
    repeat(go_quiet (fail);try go_wp2)
    refine bodyPost_ret (results_cell_row rfl _ _ br 76 #[.int .i64 4,.slice none 0 0,.int .i64 0,.int .i64 0,.int .i64 0] (0,0) _ rfl (PX Y) Tryd.underlying76 rfl KR) rfl ?_;exact⟨_,RT,by first|exact Kd.R_nil _ _ _ _ _ | exact Kd.N_nil _ _ _ _ _ | exact Kd.V_nil _ _ _ _ _ | exact Kd.Q_nil _ _ _ _ _ | exact Kd.S_nil _ _ _ _ _,PB⟩
attribute [local go_sem high] eqA46
def impl_Address_71.l0:Nat→List (S46)→Int→Int→Int→Int→Int→Option (Int)
  | 0,_,_,_,_,_,_=>none
  | k+1,Y,Z,X,D,J,U=>if X < Z then(if 0≤X then(if X < (Y.length:Int) then(if (D == ((rd_T46 Y X).f0) && (J == ((rd_T46 Y X).f1) && (U == ((rd_T46 Y X).f2))))=true then(some X) else(impl_Address_71.l0 k Y Z (wrap64 (X+1)) D J U)) else(none)) else(none)) else(some (-1))
def impl_Address_71.f (k:Nat)(X:List (S46))(D:Int)(J:Int)(U:Int):Option (Int):=impl_Address_71.l0 k X (X.length:Int) 0 D J U
theorem impl_Address_71.calls (k:Nat)(A0:Option Addr)(c0:Nat)(J:List (S46))(U:Int)(X:Int)(Y:Int)(r:Int)(w:World)(aq:Kd.C k46 w A0 J.length J)(ar:J.length≤c0)(h:impl_Address_71.f k J U X Y=some r) :
  Calls Tryd.prog 71 #[.slice A0 J.length c0,.agg #[.int .i64 U,.int .i64 X,.int .i64 Y]] w fun e w'=>e = .returned (.int .i64 r)∧Below w.heap.size w w':=by
 have bj:=Tryd.underlying46;have au:=ak aq;have br:=ak ar;clear aq ar;have HB:=ak (Below.refl w.heap.size w);have H:=h;clear h;unfold impl_Address_71.f at H;have H':=ak H;clear H;go_enter Tryd.func71,Tryd.ntmps71
 iterate 4 (try go_wp2_with (first|((with_reducible refine gate_dst (N:=3) rfl ?_);refine bx_ (N:=3) #[.int .i64 U,.int .i64 X,.int .i64 Y] 46 ?_;intro ai hg w3 hbox hb;have ac:=ak hbox;have al:=gy hg HB;replace HB:=bs HB hb;clear hb hbox hg));try go_quiet (first|((with_reducible refine gate_dst (N:=3) rfl ?_);refine bx_ (N:=3) #[.int .i64 U,.int .i64 X,.int .i64 Y] 46 ?_;intro ai hg w3 hbox hb;have ac:=ak hbox;have al:=gy hg HB;replace HB:=bs HB hb;clear hb hbox hg)))
 go_loopg [8] k (fun kq v8 w'=>∃(D:Int),v8 = .int .i64 D∧Aside0 (impl_Address_71.l0 kq J (J.length:Int) D U X Y=some r)∧Aside0 (kq≤k)∧Aside0 (w'.heap[ai]?=some (.cells #[.int .i64 U,.int .i64 X,.int .i64 Y] 46 (0,0)))∧Aside0 (Below w.heap.size w w'))
 case atStart=>exact⟨(0),FR,H',⟨Nat.le_refl _⟩,⟨PK ac⟩,⟨PB⟩⟩
 case round =>
  clear H'
  try clear p2
  obtain⟨D,rfl,HA,av,ac,HB⟩:=hrel
  cases gk with
  | zero=>exact absurd HA.out (by simp[impl_Address_71.l0])
  | succ k1 =>
   have H:=HA.out;clear HA;simp only[impl_Address_71.l0] at H
   by_cases c4:D < (J.length:Int)
   ·rw[if_pos c4] at H;have aw:decide (D < (J.length:Int))=true:=decide_eq_true c4;clear c4
    by_cases c5:0≤D
    ·rw[if_pos c5] at H;have bm:decide (0≤D)=true:=decide_eq_true c5;clear c5
     by_cases c6:D < (J.length:Int)
     ·rw[if_pos c6] at H;have bo:decide (D < (J.length:Int))=true:=decide_eq_true c6;clear c6
      by_cases c7:(U == ((rd_T46 J D).f0) && (X == ((rd_T46 J D).f1) && (Y == ((rd_T46 J D).f2))))=true
      ·rw[if_pos c7] at H;have ax:(U == ((rd_T46 J D).f0) && (X == ((rd_T46 J D).f1) && (Y == ((rd_T46 J D).f2))))=true:=c7;(try(have ay:decide (U=((rd_T46 J D).f0) && (X == ((rd_T46 J D).f1) && (Y == ((rd_T46 J D).f2))))=true:=by simpa using c7));(try(have az:(U == ((rd_T46 J D).f0) && (X == ((rd_T46 J D).f1) && (Y == ((rd_T46 J D).f2))))=true:=by simpa using c7));clear c7;obtain rfl:=Option.some.inj H;obtain⟨_,_,_,_,_,_⟩:=bc3 ac;have ae:0≤(D:Int):=od;have af:D < (J.length:Int):=od;obtain⟨ap,ah,Z,aa,ab⟩:=at_T46 au.out D ae af;cases ah;replace Z:=hx_ HB Z;replace aa:=hx_ HB aa;replace ab:=hx_ HB ab;replace ae:=eq_true ae;replace af:=eq_true af;go_wp2
       repeat(go_quiet (fail);try go_wp2)
       go_ret
       exact⟨RT,PB⟩
      ·rw[if_neg c7] at H
       have ax:(U == ((rd_T46 J D).f0) && (X == ((rd_T46 J D).f1) && (Y == ((rd_T46 J D).f2))))=false:=by simpa using c7
       (try(have ay:decide (U=((rd_T46 J D).f0) && (X == ((rd_T46 J D).f1) && (Y == ((rd_T46 J D).f2))))=false:=by simpa using c7));(try(have az:(U == ((rd_T46 J D).f0) && (X == ((rd_T46 J D).f1) && (Y == ((rd_T46 J D).f2))))=false:=by simpa using c7));(try(have bp:¬(U=((rd_T46 J D).f0) && (X == ((rd_T46 J D).f1) && (Y == ((rd_T46 J D).f2)))):=by simpa using c7));clear c7;have H':=ak H;clear H;obtain⟨bc,bd,bf,bg,bh,bi⟩:=bc3 ac;have ae:0≤(D:Int):=od;have af:D < (J.length:Int):=od;obtain⟨ap,ah,Z,aa,ab⟩:=at_T46 au.out D ae af;cases ah;replace Z:=hx_ HB Z;replace aa:=hx_ HB aa;replace ab:=hx_ HB ab;replace ae:=eq_true ae;replace af:=eq_true af;go_wp2
       repeat(go_quiet (fail);try go_wp2)
       go_roundg k1
       case measure=>have:=av.out;omega
       case rel=>exact⟨(wrap64 (D+1)),FR,H',⟨by have:=av.out;omega⟩,⟨PK ac⟩,⟨PB⟩⟩
     ·rw[if_neg c6] at H;exact absurd H (by simp)
    ·rw[if_neg c5] at H;exact absurd H (by simp)
   ·rw[if_neg c4] at H;have aw:decide (D < (J.length:Int))=false:=decide_eq_false c4;clear c4;obtain rfl:=Option.some.inj H;go_wp2
    repeat(go_quiet (fail);try go_wp2)
    go_ret
    exact⟨RT,PB⟩
def impl_Address_60.f (k:Nat)(Y:List (S46))(D:Int)(J:Int)(U:Int):Option (Bool):=(impl_Address_71.f k Y D J U).bind fun X=>(some (decide (X≥0)))
theorem impl_Address_60.calls (k:Nat)(A0:Option Addr)(c0:Nat)(Y:List (S46))(D:Int)(J:Int)(U:Int)(r:Bool)(w:World)(Z:Kd.C k46 w A0 Y.length Y)(aa:Y.length≤c0)(h:impl_Address_60.f k Y D J U=some r) :
  Calls Tryd.prog 60 #[.slice A0 Y.length c0,.agg #[.int .i64 D,.int .i64 J,.int .i64 U]] w fun e w'=>e = .returned (.bool r)∧Below w.heap.size w w':=by
 have al:=Tryd.underlying46;have ag:=ak Z;have ah:=ak aa;clear Z aa;have HB:=ak (Below.refl w.heap.size w);have H:=h;clear h;unfold impl_Address_60.f at H;replace H:=Option.bind_eq_some_iff.mp H;obtain⟨af,ab,H⟩:=H;(try dsimp only at H);have A3:=ak ab;clear ab;obtain rfl:=Option.some.inj H;go_enter Tryd.func60,Tryd.ntmps60;go_wp2_with (first|((with_reducible refine gate_dst (N:=3) rfl ?_);refine bx_ (N:=3) #[.int .i64 D,.int .i64 J,.int .i64 U] 46 ?_;intro ai hg w4 hbox hb;have X:=ak hbox;have aj:=gy hg HB;replace HB:=bs HB hb;clear hb hbox hg;obtain⟨_,_,_,_,_,_⟩:=bc3 X)|(go_at_call 71;(with_reducible refine(impl_Address_71.calls k _ _ Y D J U af _ ?side1 ah.out A3.out).mono ?_);(case side1=>exact Cq ag);rintro e w6 ⟨rfl,hb⟩;replace X:=kf X hb;replace HB:=bs HB hb;clear hb))
 go_ret
 exact⟨RT,PB⟩

def impl_FollowAt.l0:Nat→List (S96)→Int→List (S46)→Int→List Int→Int→Int→Int→Option (Int×List Int×Int×Int×Int×(List (S46)))
  | 0,_,_,_,_,_,_,_,_=>none
  | k+1,x0,x2,x9,X,Z,D,J,U=>if X=3 then(if (x9.length:Int)≤4 then((impl_Address_60.f k x9 D J U).bind fun ab=>(if ab=true then(some (X,Z,D,J,U,x9)) else(if x9.length < 5864062014805 then((impl_AnswerAt.f k x0 D J U x2).bind fun Y=>(impl_FollowAt.l0 k x0 x2 (x9++[(⟨D,J,U⟩:S46)]) Y.1 Y.2.1 Y.2.2.1 Y.2.2.2.1 Y.2.2.2.2)) else(none)))) else(some (X,Z,D,J,U,x9))) else(some (X,Z,D,J,U,x9))
def impl_FollowAt.f (k:Nat)(Y:List (S96))(J:Int)(U:Int)(X:Int)(Z:Int):Option (Int×List Int×Int×Int×Int×(List (S46))):=(impl_AnswerAt.f k Y J U X Z).bind fun D=>(impl_FollowAt.l0 k Y Z (([(⟨J,U,X⟩:S46)]:List (S46))) D.1 D.2.1 D.2.2.1 D.2.2.2.1 D.2.2.2.2)
theorem impl_FollowAt.calls (k:Nat)(A0:Option Addr)(c0:Nat)(l0:List (S96))(ae:Int)(af:Int)(ag:Int)(a2:Int)(r1:Int)(r2:List Int)(r3:Int)(r4:Int)(r5:Int)(r6:List (S46))(w:World)(dh:Kd.C k96 w A0 l0.length l0)(di:l0.length≤c0)(h:impl_FollowAt.f k l0 ae af ag a2=some (r1,r2,r3,r4,r5,r6)) :
  Calls Tryd.prog 37 #[.slice A0 l0.length c0,.agg #[.int .i64 ae,.int .i64 af,.int .i64 ag],.int .i64 a2] w fun e w'=>∃ dj dk:Value,e = .returned (.tuple #[.agg #[.int .i64 r1,dj,.int .i64 r3,.int .i64 r4,.int .i64 r5],dk])∧Kd.R (Kd.int .i64) 3 w' w.heap.size (fun _=>True) dj r2∧Kd.R k46 46 w' w.heap.size (fun _=>True) dk r6∧Below w.heap.size w w':=by
 have fc:=Tryd.underlying46;have fd:=Tryd.underlying76;have dl:=ak dh;have dn:=ak di;clear dh di;have HB:=ak (Below.refl w.heap.size w);have H:=h;clear h;unfold impl_FollowAt.f at H;replace H:=Option.bind_eq_some_iff.mp H;obtain⟨⟨bg,bb,bh,bi,bj⟩,dp,H⟩:=H;(try dsimp only at H);have A4:=ak dp;clear dp;obtain⟨cg,az⟩:∃ y_:List (S46),y_=(([(⟨ae,af,ag⟩:S46)]:List (S46))):=⟨_,rfl⟩
 replace H:(impl_FollowAt.l0 k l0 a2 cg bg bb bh bi bj)=some (r1,r2,r3,r4,r5,r6):=by first|(rw[az];with_reducible exact H)|(have H2_:=(Option.bind_some _ _).symm.trans H;rw[az];with_reducible exact H2_)|exact H
 have bm:=ak az;clear az;have H':=ak H;clear H;go_enter Tryd.func37,Tryd.ntmps37;go_wp2_with (first|((with_reducible refine gate_dst (N:=4) rfl ?_);(try(refine gate_guard (by rfl) ?_;dsimp only));refine bx_ (N:=4) #[.int .i64 ae,.int .i64 af,.int .i64 ag] 46 ?_;intro ar hg w5 hbox hb;have Z:=ak hbox;have ec:=gy hg HB;replace HB:=bs HB hb;clear hb hbox hg)|((with_reducible refine gate_dst (N:=6) rfl ?_);(try(refine gate_guard (by rfl) ?_;dsimp only));refine bx_ (N:=6) #[.int .i64 0,.slice none 0 0,.int .i64 0,.int .i64 0,.int .i64 0] 76 ?_;intro aw hg w6 hbox hb;have D:=ak hbox;have ed:=gy hg HB;replace HB:=bs HB hb;have ap:=gm hg Z;have aq:=gn hg Z;replace Z:=kf Z hb;clear hb hbox hg;have ff:=ap.out;have fg:=aq.out;obtain⟨ch,ci,cj,ck,cl,cm⟩:=bc3 Z)|(go_at_call 59;(with_reducible refine(impl_AnswerAt.calls k _ _ l0 ae af ag a2 bg bb bh bi bj _ ?side1 dn.out A4.out).mono ?_);(case side1=>exact Cq dl);rintro e w9 ⟨fh,rfl,ho0,hb⟩;have au:=Rn0 ho0 HB;replace Z:=kf Z hb;replace D:=kf D hb;replace HB:=bs HB hb;clear hb ho0)|((with_reducible refine gate_dst (N:=8) rfl ?_);(try(refine gate_guard (by rfl) ?_;dsimp only));refine bx_ (N:=8) #[.int .i64 0,.slice none 0 0,.int .i64 0,.int .i64 0,.int .i64 0] 76 ?_;intro bo hg ft hbox hb;replace au:=Rb au hb;have aa:=ak hbox;have ee:=gy hg HB;replace HB:=bs HB hb;have aj:=gm hg Z;have al:=gn hg Z;replace Z:=kf Z hb;have am:=gm hg D;have ao:=gn hg D;replace D:=kf D hb;clear hb hbox hg;have ef:=al.out;have eg:=aj.out;have eh:=ao.out;have ei:=am.out;obtain⟨bv,bw,bx,bz,b0,b4,b5,b6,b7,b8⟩:=bc5 aa;obtain⟨cn,co,rfl⟩:=Kd.R_slice au.out;obtain⟨b9,ca,cb,cd,ce,cf⟩:=bc3 Z)|((with_reducible refine gate_dst (N:=15) rfl ?_);(try(refine gate_guard (by rfl) ?_;dsimp only));refine Kd.R_lit k46 _ 46 ?hg (N:=15) ?hd (xs:=([(⟨ae,af,ag⟩:S46)]:List (S46))) (inner:=[.int .i64 ae,.int .i64 af,.int .i64 ag]) (ok:=fun _=>True) (okp:=fun _=>True) ?hr ?hp (fun _ hk=>hk) trivial (Below.refl _ _) (Nat.le_refl _) (by simp) ?_;(case hd=>rfl);(case hg=>rfl);(case hr=>first|(go_simp;done)|(go_simp;rfl));(case hp=>exact(Reps.c3 (show Kd.M k46 _ _ _ (⟨ae,af,ag⟩:S46) [.int .i64 ae,.int .i64 af,.int .i64 ag] from(k46_mkM _ _ _ (⟨ae,af,ag⟩:S46))) (Reps.none _ _)));intro fi fu ho17 hb hg_ hnew_;clear hg_ hnew_;(first|rw[←bm.out] at ho17|(simp only[Int.reduceToNat] at ho17;rw[←bm.out] at ho17));replace au:=ak (Kd.R_below (Re1 au aa) hb);have cz:=ak (Kd.R_lower (Kd.R_newB ho17 (g:=ar) (o:=.cells #[.int .i64 ae,.int .i64 af,.int .i64 ag] 46 (0,0)) (PF Z)) (below_size PB));replace Z:=kf Z hb;replace D:=kf D hb;replace aa:=kp (cs':=#[.int .i64 bg,.slice cn bb.length co,.int .i64 bh,.int .i64 bi,.int .i64 bj]) aa hb;replace HB:=bs HB hb;clear hb ho17))
 go_loopg [9] k (fun kq v9 w'=>∃(ai:List (S46))(ab:Int)(ah:List Int)(J:Int)(U:Int)(X:Int)(av:Value),Aside0 (impl_FollowAt.l0 kq l0 a2 ai ab ah J U X=some (r1,r2,r3,r4,r5,r6))∧Aside0 (kq≤k)∧Aside0 (Kd.R k46 46 w' w.heap.size (fun k_=>k_≠ar) v9 ai)∧Aside0 (Kd.R (Kd.int .i64) 3 w' w.heap.size (fun _=>True) av ah)∧Aside0 (w'.heap[ar]?=some (.cells #[.int .i64 ae,.int .i64 af,.int .i64 ag] 46 (0,0)))∧Aside0 (w'.heap[aw]?=some (.cells #[.int .i64 0,(.slice none 0 0),.int .i64 0,.int .i64 0,.int .i64 0] 76 (0,0)))∧Aside0 (w'.heap[bo]?=some (.cells #[.int .i64 ab,av,.int .i64 J,.int .i64 U,.int .i64 X] 76 (0,0)))∧Aside0 (Below w.heap.size w w'))
 case atStart=>exact⟨(cg),(bg),(bb),(bh),(bi),(bj),(.slice cn bb.length co),H',⟨Nat.le_refl _⟩,⟨RX cz.out FK⟩,⟨PR au⟩,⟨PK Z⟩,⟨PK D⟩,⟨PK aa⟩,⟨PB⟩⟩
 case round =>
  clear H';(try clear c1);(try clear p2);(try clear c3);(try clear c5);(try clear c7);(try clear fv);(try clear fw);(try clear bv);(try clear bw);(try clear bx);(try clear bz);(try clear b0);(try clear b9);(try clear ca);(try clear cb);(try clear ch);(try clear ci);(try clear cj);(try clear b4);(try clear b5);(try clear b6);(try clear b7);(try clear b8);(try clear cd);(try clear ce);(try clear cf);(try clear ck);(try clear cl);(try clear cm);obtain⟨ai,ab,ah,J,U,X,av,HA,dq,ac,Y,Z,D,aa,HB⟩:=hrel
  cases gk with
  | zero=>exact absurd HA.out (by simp[impl_FollowAt.l0])
  | succ k1 =>
   have H:=HA.out;clear HA;simp only[impl_FollowAt.l0] at H
   by_cases bc:ab=3
   ·rw[if_pos bc] at H;have da:(ab == 3)=true:=beq_iff_eq.mpr bc;have db:(ab != 3)=false:=bne_eq_false_iff_eq.mpr bc;clear bc
    by_cases bf:(ai.length:Int)≤4
    ·rw[if_pos bf] at H;have dc:decide ((ai.length:Int)≤4)=true:=decide_eq_true bf;have de:decide (ai.length≤4)=true:=decide_eq_true (by omega);clear bf;replace H:=Option.bind_eq_some_iff.mp H;obtain⟨dt,cp,H⟩:=H;(try dsimp only at H);have dr:=ak cp;clear cp
     by_cases bp:dt=true
     ·subst bp;rw[if_pos rfl] at H;simp only[Option.some.injEq,Prod.mk.injEq] at H;obtain⟨rfl,rfl,rfl,rfl,rfl,rfl⟩:=H;have ej:=al.out;have ek:=aj.out;have el:=ao.out;have em:=am.out;obtain⟨_,_,_,_,_,_,_,_,_,_⟩:=bc5 aa;obtain⟨fk,fl,rfl⟩:=Kd.R_slice ac.out;go_wp2_with (first|(go_at_call 60;(with_reducible refine(impl_Address_60.calls k1 _ _ ai J U X true _ ?side1 (rl ac) dr.out).mono ?_);(case side1=>exact CR (rr ac));rintro e fx ⟨rfl,hb⟩;replace ac:=Rb ac hb;replace Y:=Rb Y hb;replace Z:=kf Z hb;replace D:=kf D hb;replace aa:=kf aa hb;replace HB:=bs HB hb;clear hb;obtain⟨_,_,_,_,_,_,_,_,_,_⟩:=bc5 aa;have en:=aq.out;have eo:=ap.out;obtain⟨_,_,_,_,_,_,_,_,_,_⟩:=bc5 D;obtain⟨du,dv,rfl⟩:=Kd.R_slice Y.out));refine bodyPost_ret (results_ct rfl _ _ aw 76 #[.int .i64 ab,.slice du ah.length dv,.int .i64 J,.int .i64 U,.int .i64 X] (0,0) _ rfl (PX D) Tryd.underlying76 rfl KR) rfl ?_;exact⟨_,_,RT,RX (Rt Y.out D) (fun _ hk=>trivial),RX (Rt ac.out D) (fun _ hk=>trivial),PB⟩
     ·replace bp:=Bool.eq_false_iff.mpr bp;subst bp;rw[if_neg (show ¬(false=true) by decide)] at H
      by_cases br:ai.length < 5864062014805
      ·rw[if_pos br] at H;have df:=ak br;clear br;obtain⟨cq,ba⟩:∃ y_:List (S46),y_=(ai++[(⟨J,U,X⟩:S46)]):=⟨_,rfl⟩
       replace H:((impl_AnswerAt.f k1 l0 J U X a2).bind fun ax=>(impl_FollowAt.l0 k1 l0 a2 cq ax.1 ax.2.1 ax.2.2.1 ax.2.2.2.1 ax.2.2.2.2))=some (r1,r2,r3,r4,r5,r6):=by first|(rw[ba];with_reducible exact H)|(have H2_:=(Option.bind_some _ _).symm.trans H;rw[ba];with_reducible exact H2_)|exact H
       have dg:=ak ba;clear ba;replace H:=Option.bind_eq_some_iff.mp H;obtain⟨⟨cr,bl,ct,cu,cv⟩,cw,H⟩:=H;(try dsimp only at H);have eb:=ak cw;clear cw;have H':=ak H;clear H;have ep:=al.out;have eq:=aj.out;have er:=ao.out;have es:=am.out;obtain⟨_,_,_,_,_,_,_,_,_,_⟩:=bc5 aa;obtain⟨dw,dx,rfl⟩:=Kd.R_slice ac.out;go_wp2_with (first|(go_at_call 60;(with_reducible refine(impl_Address_60.calls k1 _ _ ai J U X false _ ?side1 (rl ac) dr.out).mono ?_);(case side1=>exact CR (rr ac));rintro e fy ⟨rfl,hb⟩;replace ac:=Rb ac hb;replace Y:=Rb Y hb;replace Z:=kf Z hb;replace D:=kf D hb;replace aa:=kf aa hb;replace HB:=bs HB hb;clear hb;obtain⟨_,_,_,_,_,_,_,_,_,_⟩:=bc5 aa)|((with_reducible refine gate_builtin (b:=.append) (xs:=#[.tmp 31,.tmp 34]) rfl ?_);(try(refine gate_guard (by rfl) ?_;dsimp only));at_builtin;refine Kd.R_append k46 (w0:=w) w.heap.size rfl (.tmp 31) (.tmp 34) 77 46 (.agg #[(.int .i64 0),(.int .i64 0),(.int .i64 0)]) 24 rfl Tryd.underlying77 info46 rfl (by decide) (by omega) (.slice dw ai.length dx) ai (⟨J,U,X⟩:S46) [.int .i64 J,.int .i64 U,.int .i64 X] (fun k_=>k_≠ar) (fun _=>False) rfl rfl ?aP (fun _ hk=>hk.elim) ?aF ?aO ?aB ?aS ?aL ?_;(case aP=>exact k46_mkM _ _ _ (⟨J,U,X⟩:S46));(case aB=>exact PB);(case aF=>exact(fun k_ hk=>Kd.freshB (g:=ar) (o:=.cells #[.int .i64 ae,.int .i64 af,.int .i64 ag] 46 (0,0)) (PK Z) k_ hk));(case aO=>exact(PR ac));(case aS=>exact(below_size PB));(case aL=>have:=df.out;omega);intro fm fz ho hb hg hat;rw[←dg.out] at ho;replace Y:=ak (Kd.R_over' (PR Y) (Kd.R_typed (PR ac)) (by decide) hg);replace Z:=ak (blk_grown (g:=ar) (o:=.cells #[.int .i64 ae,.int .i64 af,.int .i64 ag] 46 (0,0)) (PK Z) hg (Kd.R_away ac.out (fun _ hk=>hk)));replace D:=ak (blk_grown (g:=aw) (o:=.cells #[.int .i64 0,.slice none 0 0,.int .i64 0,.int .i64 0,.int .i64 0] 76 (0,0)) (PK D) hg (Kd.R_ne ac.out D.out (by decide)));replace aa:=ak (blk_grown (g:=bo) (o:=.cells #[.int .i64 ab,av,.int .i64 J,.int .i64 U,.int .i64 X] 76 (0,0)) (PK aa) hg (Kd.R_ne ac.out aa.out (by decide)));replace HB:=ak hb;have bk:=ak (ho);clear ac;clear ho hb hg hat;obtain⟨_,_,_,_,_,_,_,_,_,_⟩:=bc5 aa)|(go_at_call 59;(with_reducible refine(impl_AnswerAt.calls k1 _ _ l0 J U X a2 cr bl ct cu cv _ ?side1 dn.out eb.out).mono ?_);(case side1=>exact Cq dl);rintro e f0 ⟨fo,rfl,ho0,hb⟩;replace bk:=Rb bk hb;have bu:=Rn1 ho0 HB Y;replace Y:=ak (Kd.R_elder' (PR Y) (Kd.R_base ho0) hb);replace Z:=kf Z hb;replace D:=kf D hb;replace aa:=kf aa hb;replace HB:=bs HB hb;clear hb ho0;obtain⟨_,_,_,_,_,_,_,_,_,_⟩:=bc5 aa;obtain⟨dy,dz,rfl⟩:=Kd.R_slice bu.out))
       go_roundg k1
       case measure=>have:=dq.out;omega
       case rel=>exact⟨(cq),(cr),(bl),(ct),(cu),(cv),(.slice dy bl.length dz),H',⟨by have:=dq.out;omega⟩,⟨Re1 bk aa⟩,⟨RX (Rt bu.out aa) (fun _ hk=>trivial)⟩,⟨PF Z⟩,⟨PF D⟩,⟨PX aa⟩,⟨PB⟩⟩
      ·rw[if_neg br] at H;exact absurd H (by simp)
    ·rw[if_neg bf] at H;have dc:decide ((ai.length:Int)≤4)=false:=decide_eq_false bf;have de:decide (ai.length≤4)=false:=decide_eq_false (by omega);clear bf;simp only[Option.some.injEq,Prod.mk.injEq] at H;obtain⟨rfl,rfl,rfl,rfl,rfl,rfl⟩:=H;have et:=al.out;have eu:=aj.out;have ev:=ao.out;have ew:=am.out;obtain⟨_,_,_,_,_,_,_,_,_,_⟩:=bc5 aa;obtain⟨fp,fq,rfl⟩:=Kd.R_slice ac.out;have ex:=aq.out;have ey:=ap.out;obtain⟨_,_,_,_,_,_,_,_,_,_⟩:=bc5 D;obtain⟨d7,d8,rfl⟩:=Kd.R_slice Y.out;go_wp2;refine bodyPost_ret (results_ct rfl _ _ aw 76 #[.int .i64 ab,.slice d7 ah.length d8,.int .i64 J,.int .i64 U,.int .i64 X] (0,0) _ rfl (PX D) Tryd.underlying76 rfl KR) rfl ?_;exact⟨_,_,RT,RX (Rt Y.out D) (fun _ hk=>trivial),RX (Rt ac.out D) (fun _ hk=>trivial),PB⟩
   ·rw[if_neg bc] at H;have da:(ab == 3)=false:=beq_eq_false_iff_ne.mpr bc;have db:(ab != 3)=true:=bne_iff_ne.mpr bc;simp only[Option.some.injEq,Prod.mk.injEq] at H;obtain⟨rfl,rfl,rfl,rfl,rfl,rfl⟩:=H;have ez:=al.out;have e7:=aj.out;have e8:=ao.out;have e9:=am.out;obtain⟨_,_,_,_,_,_,_,_,_,_⟩:=bc5 aa;have fa:=aq.out;have fb:=ap.out;obtain⟨_,_,_,_,_,_,_,_,_,_⟩:=bc5 D;obtain⟨d9,ea,rfl⟩:=Kd.R_slice Y.out;go_wp2;refine bodyPost_ret (results_ct rfl _ _ aw 76 #[.int .i64 ab,.slice d9 ah.length ea,.int .i64 J,.int .i64 U,.int .i64 X] (0,0) _ rfl (PX D) Tryd.underlying76 rfl KR) rfl ?_;exact⟨_,_,RT,RX (Rt Y.out D) (fun _ hk=>trivial),RX (Rt ac.out D) (fun _ hk=>trivial),PB⟩
def impl_hasBody.f (D:Int):Option (Bool):=if D=1 then(some true) else(some (D == 2))
theorem impl_hasBody.calls (D:Int)(r:Bool)(w:World)(h:impl_hasBody.f D=some r) :
  Calls Tryd.prog 61 #[.int .i64 D] w fun e w'=>e = .returned (.bool r)∧Drawn0 w w':=by
 have H:=h;clear h;unfold impl_hasBody.f at H
 by_cases J:D=1
 ·rw[if_pos J] at H;have U:(D == 1)=true:=beq_iff_eq.mpr J;have X:(D != 1)=false:=bne_eq_false_iff_eq.mpr J;clear J;obtain rfl:=Option.some.inj H;go_enter Tryd.func61,Tryd.ntmps61;go_wp2
  go_ret
  exact⟨FR,by repeat(first|exact Drawn0.refl _ | apply Drawn0.step)⟩
 ·rw[if_neg J] at H;have U:(D == 1)=false:=beq_eq_false_iff_ne.mpr J;have X:(D != 1)=true:=bne_iff_ne.mpr J;obtain rfl:=Option.some.inj H;go_enter Tryd.func61,Tryd.ntmps61;go_wp2
  go_ret
  exact⟨FR,by repeat(first|exact Drawn0.refl _ | apply Drawn0.step)⟩
mutual
def impl_ValueOfResource.j0:Nat→Bool→Int→List Int→Int→Int→Int→Option (Int)
  | 0,_,_,_,_,_,_=>none
  | k+1,Z,J,D,U,X,Y=>if Z=true then(some 0) else(impl_ValueOfResource.l0 k 0 D (D.length:Int) 0)
def impl_ValueOfResource.l0:Nat→Int→List Int→Int→Int→Option (Int)
  | 0,_,_,_,_=>none
  | k+1,U,J,X,D=>if D < X then(if 0≤D then(if D < (J.length:Int) then(impl_ValueOfResource.l0 k (wrap64 (U+(rd J D))) J X (wrap64 (D+1))) else(none)) else(none)) else(if (Int.tmod U 1000) < 999 then(some (wrap64 ((Int.tmod U 1000)+1))) else(some (Int.tmod U 1000)))
end
def impl_ValueOfResource.f (k:Nat)(D:Int)(J:List Int)(U:Int)(X:Int)(Y:Int):Option (Int):=(impl_IsResource.f k D J U X Y).bind fun Z=>(if Z=true then((impl_hasBody.f D).bind fun aa=>(impl_ValueOfResource.j0 k (!aa) D J U X Y)) else(impl_ValueOfResource.j0 k true D J U X Y))
theorem impl_ValueOfResource.calls (k:Nat)(X:Int)(ab:Option Addr)(ac:Nat)(D:List Int)(Y:Int)(Z:Int)(aa:Int)(r:Int)(w:World)(b4:Kd.C (Kd.int .i64) w ab D.length D)(b5:D.length≤ac)(h:impl_ValueOfResource.f k X D Y Z aa=some r) :
  Calls Tryd.prog 38 #[.agg #[.int .i64 X,.slice ab D.length ac,.int .i64 Y,.int .i64 Z,.int .i64 aa]] w fun e w'=>e = .returned (.int .i64 r)∧Below w.heap.size w w':=by
 have dg:=Tryd.underlying76;have ax:=ak b4;have b6:=ak b5;clear b4 b5;have HB:=ak (Below.refl w.heap.size w);have H:=h;clear h;unfold impl_ValueOfResource.f at H;have cm:=ak H;clear H;go_enter Tryd.func38,Tryd.ntmps38
 go_upto_region 1 with (first|((with_reducible refine gate_dst (N:=1) rfl ?_);refine bx_ (N:=1) #[.int .i64 X,.slice ab D.length ac,.int .i64 Y,.int .i64 Z,.int .i64 aa] 76 ?_;intro b7 hg w3 hbox hb;have U:=ak hbox;have db:=gy hg HB;replace HB:=bs HB hb;clear hb hbox hg))
 (try simp only[Act.put,List.setIfInBounds_toArray,List.set_cons_zero,List.set_cons_succ])
 go_cut [14] (fun cx wc=>∃(kq:Nat)(af:Bool),cx = .bool af∧Aside0 (impl_ValueOfResource.j0 kq af X D Y Z aa=some r)∧Aside0 (kq≤k)∧Aside0 (wc.heap[b7]?=some (.cells #[.int .i64 X,(.slice ab D.length ac),.int .i64 Y,.int .i64 Z,.int .i64 aa] 76 (0,0)))∧Aside0 (Below w.heap.size w wc))
 case first =>
  have H:=cm.out;clear cm;replace H:=Option.bind_eq_some_iff.mp H;obtain⟨cv,cq,H⟩:=H;(try dsimp only at H);have A4:=ak cq;clear cq
  by_cases c5:cv=true
  ·subst c5;rw[if_pos rfl] at H;replace H:=Option.bind_eq_some_iff.mp H;obtain⟨cn,cr,H⟩:=H;(try dsimp only at H);have A6:=ak cr;clear cr;have H':=ak H;clear H;obtain⟨ay,az,ba,bb,bc,bd,bf,bg,bh,bi⟩:=bc5 U;go_wp2_with (first|(go_at_call 56;(with_reducible refine(impl_IsResource.calls k X _ _ D Y Z aa true _ ?side1 b6.out A4.out).mono ?_);(case side1=>exact Cq ax);rintro e w8 ⟨rfl,hb⟩;replace U:=kf U hb;replace HB:=bs HB hb;clear hb;obtain⟨bj,bk,bl,bm,bo,bp,br,bu,bv,bw⟩:=bc5 U)|(go_at_call 61;(with_reducible refine(impl_hasBody.calls X cn _ A6.out).mono ?_);rintro e w' ⟨rfl,⟨nd,rfl⟩⟩))
   go_meet
   case rel=>exact⟨_,(!cn),FR,H',⟨by first|omega | exact Nat.le_refl _⟩,⟨PK U⟩,⟨PB⟩⟩
  ·replace c5:=Bool.eq_false_iff.mpr c5;subst c5;rw[if_neg (show ¬(false=true) by decide)] at H;have H':=ak H;clear H;obtain⟨ag,ah,ai,aj,al,am,ao,ap,aq,ar⟩:=bc5 U;go_wp2_with (first|(go_at_call 56;(with_reducible refine(impl_IsResource.calls k X _ _ D Y Z aa false _ ?side1 b6.out A4.out).mono ?_);(case side1=>exact Cq ax);rintro e dk ⟨rfl,hb⟩;replace U:=kf U hb;replace HB:=bs HB hb;clear hb))
   go_meet
   case rel=>exact⟨_,(true),FR,H',⟨by first|omega | exact Nat.le_refl _⟩,⟨PK U⟩,⟨PB⟩⟩
 case rest =>
  clear cm;(try clear p2);(try clear c3);(try clear c5);(try clear ag);(try clear ah);(try clear ai);(try clear aj);(try clear al);(try clear ay);(try clear az);(try clear ba);(try clear bb);(try clear bc);(try clear bj);(try clear bk);(try clear bl);(try clear bm);(try clear bo);(try clear am);(try clear ao);(try clear ap);(try clear aq);(try clear ar);(try clear bd);(try clear bf);(try clear bg);(try clear bh);(try clear bi);(try clear bp);(try clear br);(try clear bu);(try clear bv);(try clear bw);obtain⟨kq,af,rfl,HA,ct,U,HB⟩:=hcut
  cases kq with
  | zero=>exact absurd HA.out (by simp[impl_ValueOfResource.j0])
  | succ kj1 =>
   have H:=HA.out;clear HA;simp only[impl_ValueOfResource.j0] at H
   by_cases bx:af=true
   ·subst bx;rw[if_pos rfl] at H;obtain rfl:=Option.some.inj H;go_wp2
    go_ret
    exact⟨RT,PB⟩
   ·replace bx:=Bool.eq_false_iff.mpr bx;subst bx;rw[if_neg (show ¬(false=true) by decide)] at H;have H':=ak H;clear H;obtain⟨cb,cd,ce,cf,cg,ch,ci,cj,ck,cl⟩:=bc5 U;go_wp2
    go_loopg [3,18] kj1 (fun kq v3 da w'=>∃(ae:Int)(J:Int),v3 = .int .i64 ae∧da = .int .i64 J∧Aside0 (impl_ValueOfResource.l0 kq ae D (D.length:Int) J=some r)∧Aside0 (kq≤kj1)∧Aside0 (w'.heap[b7]?=some (.cells #[.int .i64 X,(.slice ab D.length ac),.int .i64 Y,.int .i64 Z,.int .i64 aa] 76 (0,0)))∧Aside0 (Below w.heap.size w w'))
    case atStart=>exact⟨(0),(0),FR,FR,H',⟨Nat.le_refl _⟩,⟨PK U⟩,⟨PB⟩⟩
    case round =>
     clear H';(try clear c1);(try clear p2);(try clear c3);(try clear c5);(try clear bx);(try clear ag);(try clear ah);(try clear ai);(try clear aj);(try clear al);(try clear cb);(try clear cd);(try clear ce);(try clear cf);(try clear cg);(try clear ay);(try clear az);(try clear ba);(try clear bb);(try clear bc);(try clear bj);(try clear bk);(try clear bl);(try clear bm);(try clear bo);(try clear am);(try clear ao);(try clear ap);(try clear aq);(try clear ar);(try clear ch);(try clear ci);(try clear cj);(try clear ck);(try clear cl);(try clear bd);(try clear bf);(try clear bg);(try clear bh);(try clear bi);(try clear bp);(try clear br);(try clear bu);(try clear bv);(try clear bw);(try clear p2);obtain⟨ae,J,rfl,rfl,HA,cu,U,HB⟩:=hrel
     cases gk with
     | zero=>exact absurd HA.out (by simp[impl_ValueOfResource.l0])
     | succ k2 =>
      have H:=HA.out;clear HA;simp only[impl_ValueOfResource.l0] at H
      by_cases au:J < (D.length:Int)
      ·rw[if_pos au] at H;have co:decide (J < (D.length:Int))=true:=decide_eq_true au;clear au
       by_cases b8:0≤J
       ·rw[if_pos b8] at H;have dc:decide (0≤J)=true:=decide_eq_true b8;clear b8
        by_cases b9:J < (D.length:Int)
        ·rw[if_pos b9] at H;have de:decide (J < (D.length:Int))=true:=decide_eq_true b9;clear b9;have H':=ak H;clear H;have bz:0≤(J:Int):=od;have b0:J < (D.length:Int):=od;obtain⟨df,cw,av⟩:=Kd.at_int ax.out J bz b0;cases cw;replace av:=hx_ HB av;replace bz:=eq_true bz;replace b0:=eq_true b0;go_wp2
         go_roundg k2
         case measure=>have:=ct.out;have:=cu.out;omega
         case rel=>exact⟨(wrap64 (ae+(rd D J))),(wrap64 (J+1)),FR,FR,H',⟨by have:=ct.out;have:=cu.out;omega⟩,⟨PK U⟩,⟨PB⟩⟩
        ·rw[if_neg b9] at H;exact absurd H (by simp)
       ·rw[if_neg b8] at H;exact absurd H (by simp)
      ·rw[if_neg au] at H;have co:decide (J < (D.length:Int))=false:=decide_eq_false au;clear au
       by_cases aw:(Int.tmod ae 1000) < 999
       ·rw[if_pos aw] at H;have cp:decide ((Int.tmod ae 1000) < 999)=true:=decide_eq_true aw;clear aw;obtain rfl:=Option.some.inj H;go_wp2
        go_ret
        exact⟨RT,PB⟩
       ·rw[if_neg aw] at H;have cp:decide ((Int.tmod ae 1000) < 999)=false:=decide_eq_false aw;clear aw;obtain rfl:=Option.some.inj H;go_wp2
        go_ret
        exact⟨RT,PB⟩
def impl_Mod.f (U:Int)(D:Int):Option (Int):=(impl_InRange.f D 1 1000000000000).bind fun J=>(if J=true then(if D=0 then(none) else(some (Int.tmod (wrap64 ((Int.tmod U D)+D)) D))) else(some 0))
theorem impl_Mod.calls (Z:Int)(D:Int)(r:Int)(w:World)(h:impl_Mod.f Z D=some r) :
  Calls Tryd.prog 39 #[.int .i64 Z,.int .i64 D] w fun e w'=>e = .returned (.int .i64 r)∧Drawn0 w w':=by
 have H:=h;clear h;unfold impl_Mod.f at H;replace H:=Option.bind_eq_some_iff.mp H;obtain⟨Y,X,H⟩:=H;(try dsimp only at H);have A3:=ak X;clear X
 by_cases J:Y=true
 ·subst J;rw[if_pos rfl] at H
  by_cases U:D=0
  ·rw[if_pos U] at H;exact absurd H (by simp)
  ·rw[if_neg U] at H;have ab:(D == 0)=false:=beq_eq_false_iff_ne.mpr U;have ac:(D != 0)=true:=bne_iff_ne.mpr U;obtain rfl:=Option.some.inj H;go_enter Tryd.func39,Tryd.ntmps39;go_wp2_with (first|(go_at_call 30;(with_reducible refine(impl_InRange.calls D 1 1000000000000 true _ A3.out).mono ?_);rintro e w' ⟨rfl,⟨nd,rfl⟩⟩))
   go_ret
   exact⟨FR,by repeat(first|exact Drawn0.refl _ | apply Drawn0.step)⟩
 ·replace J:=Bool.eq_false_iff.mpr J;subst J;rw[if_neg (show ¬(false=true) by decide)] at H;obtain rfl:=Option.some.inj H;go_enter Tryd.func39,Tryd.ntmps39;go_wp2_with (first|(go_at_call 30;(with_reducible refine(impl_InRange.calls D 1 1000000000000 false _ A3.out).mono ?_);rintro e w' ⟨rfl,⟨nd,rfl⟩⟩))
  go_ret
  exact⟨FR,by repeat(first|exact Drawn0.refl _ | apply Drawn0.step)⟩
def impl_Hash.l0:Nat→Int→List Int→Int→Int→Option (Int)
  | 0,_,_,_,_=>none
  | k+1,X,J,Y,D=>if D < Y then(if 0≤D then(if D < (J.length:Int) then((impl_Mod.f (rd J D) 2147483647).bind fun U=>(impl_Hash.l0 k (Int.tmod (wrap64 ((wrap64 ((wrap64 (X * 1000003))+U))+13)) 2147483647) J Y (wrap64 (D+1)))) else(none)) else(none)) else(some X)
def impl_Hash.f (k:Nat)(D:List Int):Option (Int):=impl_Hash.l0 k 11 D (D.length:Int) 0
theorem impl_Hash.calls (k:Nat)(A0:Option Addr)(c0:Nat)(J:List Int)(r:Int)(w:World)(ae:Kd.C (Kd.int .i64) w A0 J.length J)(af:J.length≤c0)(h:impl_Hash.f k J=some r) :
  Calls Tryd.prog 40 #[.slice A0 J.length c0] w fun e w'=>e = .returned (.int .i64 r)∧Drawn0 w w':=by
 have ap:=ak ae;have ay:=ak af;clear ae af;have H:=h;clear h;unfold impl_Hash.f at H;have H':=ak H;clear H;go_enter Tryd.func40,Tryd.ntmps40;go_wp2
 go_loopg [3,8] k (fun kq v3 v8 w'=>∃(U:Int)(D:Int),v3 = .int .i64 U∧v8 = .int .i64 D∧Aside0 (impl_Hash.l0 kq U J (J.length:Int) D=some r)∧Aside0 (kq≤k)∧Drawn0 w w')
 case atStart=>exact⟨(11),(0),FR,FR,H',⟨Nat.le_refl _⟩,by repeat(first|exact Drawn0.refl _ | apply Drawn0.step)⟩
 case round =>
  clear H';obtain⟨U,D,rfl,rfl,HA,ag,⟨m1,rfl⟩⟩:=hrel
  cases gk with
  | zero=>exact absurd HA.out (by simp[impl_Hash.l0])
  | succ k1 =>
   have H:=HA.out;clear HA;simp only[impl_Hash.l0] at H
   by_cases Z:D < (J.length:Int)
   ·rw[if_pos Z] at H;have ai:decide (D < (J.length:Int))=true:=decide_eq_true Z;clear Z
    by_cases c3:0≤D
    ·rw[if_pos c3] at H;have av:decide (0≤D)=true:=decide_eq_true c3;clear c3
     by_cases c4:D < (J.length:Int)
     ·rw[if_pos c4] at H;have aw:decide (D < (J.length:Int))=true:=decide_eq_true c4;clear c4;replace H:=Option.bind_eq_some_iff.mp H;obtain⟨aa,ah,H⟩:=H;(try dsimp only at H);have A5:=ak ah;clear ah;have H':=ak H;clear H;have X:0≤(D:Int):=od;have Y:D < (J.length:Int):=od;obtain⟨aq,aj,al⟩:=Kd.at_int ap.out D X Y;cases aj;replace X:=eq_true X;replace Y:=eq_true Y;go_wp2_with (first|(go_at_call 39;(with_reducible refine(impl_Mod.calls (rd J D) 2147483647 aa _ A5.out).mono ?_);rintro e w' ⟨rfl,⟨nd,rfl⟩⟩))
      go_roundg k1
      case measure=>have:=ag.out;omega
      case rel=>exact⟨(Int.tmod (wrap64 ((wrap64 ((wrap64 (U * 1000003))+aa))+13)) 2147483647),(wrap64 (D+1)),FR,FR,H',⟨by have:=ag.out;omega⟩,by repeat(first|exact Drawn0.refl _ | apply Drawn0.step)⟩
     ·rw[if_neg c4] at H;exact absurd H (by simp)
    ·rw[if_neg c3] at H;exact absurd H (by simp)
   ·rw[if_neg Z] at H;have ai:decide (D < (J.length:Int))=false:=decide_eq_false Z;clear Z;obtain rfl:=Option.some.inj H;go_wp2
    go_ret
    exact⟨FR,by repeat(first|exact Drawn0.refl _ | apply Drawn0.step)⟩

end Go.Proofs.YtinnjgnipdjfhaaDoor.MFnRecordings
