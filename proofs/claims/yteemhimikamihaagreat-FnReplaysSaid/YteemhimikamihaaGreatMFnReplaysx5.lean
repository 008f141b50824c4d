import Derived.Test.YteemhimikamihaaGreatShr2
import Derived.Test.YteemhimikamihaaGreatMFnReplaysx0
import Derived.Test.YteemhimikamihaaGreatMFnReplaysx1
import Derived.Test.YteemhimikamihaaGreatMFnReplaysx4
namespace Go.Proofs.YteemhimikamihaaGreat.MFnReplays
open Go.RowKit Go.Proofs.YteemhimikamihaaGreatW.PrintWords Go.Proofs.YteemhimikamihaaGreatW.PrintLast Go.Proofs.YteemhimikamihaaGreatW.PrintMore
attribute [local go_sem] max2_int min2_int max_two min_two max_three min_three max_four min_four
set_option linter.unusedVariables false
set_option maxHeartbeats 8000000
set_option maxRecDepth 100000
set_option linter.unusedSimpArgs false

attribute [local go_sem high] eqA48
def impl_IsResource.j0:Nat→Int→Bool→Int→List Int→Int→Int→Int→Option (Bool)
  | 0,_,_,_,_,_,_,_=>none
  | k+1,x4,x5,aa,D,J,U,X=>if x5=true then(if (D.length:Int)≤6 then((impl_allIn.f k D 0 255).bind fun Y=>(if Y=true then(some (J == 0 && (U == 0 && (X == 0)))) else(some false))) else(some false)) else(if x4=3 then(if (D.length:Int)=0 then((impl_IsAddress.f J U X).bind fun Z=>(some Z)) else(some false)) else(if x4=4 then(if (D.length:Int)=0 then(some (J == 0 && (U == 0 && (X == 0)))) else(some false)) else(some false)))
def impl_IsResource.f (k:Nat)(D:Int)(J:List Int)(U:Int)(X:Int)(Y:Int):Option (Bool):=if D=1 then(impl_IsResource.j0 k D (D == 1) D J U X Y) else(impl_IsResource.j0 k D (D == 2) D J U X Y)
theorem impl_IsResource.calls (k:Nat)(J:Int)(ah:Option Addr)(ai:Nat)(D:List Int)(X:Int)(Y:Int)(Z:Int)(r:Bool)(w:World)(am:Kd.C (Kd.int .i64) w ah D.length D)(ao:D.length≤ai)(h:impl_IsResource.f k J D X Y Z=some r) :
  Calls Tryz.prog 44 #[.agg #[.int .i64 J,.slice ah D.length ai,.int .i64 X,.int .i64 Y,.int .i64 Z]] w fun e w'=>e = .returned (.bool r)∧Below w.heap.size w w':=by
 have de:=Tryz.underlying81;have df:=Tryz.underlying48;have ap:=ak am;have aq:=ak ao;clear am ao;have HB:=ak (Below.refl w.heap.size w);have H:=h;clear h;unfold impl_IsResource.f at H;have au:=ak H;clear H;go_enter Tryz.func44,Tryz.ntmps44
 go_upto_if 5 with (first|((with_reducible refine gate_dst (N:=1) rfl ?_);refine bx_ (N:=1) #[.int .i64 J,.slice ah D.length ai,.int .i64 X,.int .i64 Y,.int .i64 Z] 81 ?_;intro bi hg w3 hbox hb;have U:=ak hbox;have da:=gy hg HB;replace HB:=bs HB hb;clear hb hbox hg;obtain⟨av,aw,ax,ay,az,ba,bb,bc,bd,bf⟩:=bc5 U))
 (try simp only[Act.put,List.setIfInBounds_toArray,List.set_cons_zero,List.set_cons_succ])
 go_cut [5] (fun v5 wc=>∃(kq:Nat)(aj:Bool),v5 = .bool aj∧Aside0 (impl_IsResource.j0 kq J aj J D X Y Z=some r)∧Aside0 (kq≤k)∧Aside0 (wc.heap[bi]?=some (.cells #[.int .i64 J,(.slice ah D.length ai),.int .i64 X,.int .i64 Y,.int .i64 Z] 81 (0,0)))∧Aside0 (Below w.heap.size w wc))
 case first =>
  have H:=au.out;clear au
  by_cases c5:J=1
  ·rw[if_pos c5] at H;obtain⟨aa,bg⟩:=eqq1 c5;clear c5;(first|rw[aa]|(simp only[i64_w,i32_w];rw[aa])|skip);have H':=ak H;clear H;go_wp2
   go_meet
   case rel=>exact⟨_,((J == 1)),FR,H',⟨by first|omega | exact Nat.le_refl _⟩,⟨PK U⟩,⟨PB⟩⟩
  ·rw[if_neg c5] at H;obtain⟨aa,bg⟩:=eqq2 c5;(first|rw[aa]|(simp only[i64_w,i32_w];rw[aa])|skip);have H':=ak H;clear H;go_wp2
   go_meet
   case rel=>exact⟨_,((J == 2)),FR,H',⟨by first|omega | exact Nat.le_refl _⟩,⟨PK U⟩,⟨PB⟩⟩
 case rest =>
  clear au;(try clear p2);(try clear c4);(try clear c5);(try clear aa);(try clear bg);(try clear av);(try clear aw);(try clear ax);(try clear ay);(try clear az);(try clear ba);(try clear bb);(try clear bc);(try clear bd);(try clear bf);obtain⟨kq,aj,rfl,HA,dh,U,HB⟩:=hcut
  cases kq with
  | zero=>exact absurd HA.out (by simp[impl_IsResource.j0])
  | succ kj1 =>
   have H:=HA.out;clear HA;simp only[impl_IsResource.j0] at H
   by_cases c6:aj=true
   ·subst c6;rw[if_pos rfl] at H
    by_cases c7:(D.length:Int)≤6
    ·rw[if_pos c7] at H;have bz:=decide_eq_true c7;have b0:decide (D.length≤6)=true:=decide_eq_true (by omega);clear c7;obtain⟨b4,A8,H⟩:=obq H;(try dsimp only at H)
     by_cases c9:b4=true
     ·subst c9;rw[if_pos rfl] at H;obtain rfl:=Option.some.inj H;obtain⟨b6,b7,b8,b9,ca,cb,cd,ce,cf,cg⟩:=bc5 U;go_wp2_with (first|(go_at_call 24;(with_reducible refine(impl_allIn.calls kj1 _ _ D 0 255 true _ ?side1 aq.out A8.out).mono ?_);(case side1=>exact Cq ap);rintro e w' ⟨rfl,⟨nd,rfl⟩⟩))
      go_ret
      exact⟨RT,PB⟩
     ·replace c9:=Bool.eq_false_iff.mpr c9;subst c9;rw[if_neg nft] at H;obtain rfl:=Option.some.inj H;obtain⟨ch,ci,cj,ck,_,cl,cm,cn,co,_⟩:=bc5 U;go_wp2_with (first|(go_at_call 24;(with_reducible refine(impl_allIn.calls kj1 _ _ D 0 255 false _ ?side1 aq.out A8.out).mono ?_);(case side1=>exact Cq ap);rintro e w' ⟨rfl,⟨nd,rfl⟩⟩))
      go_ret
      exact⟨RT,PB⟩
    ·rw[if_neg c7] at H;have bz:=decide_eq_false c7;have b0:decide (D.length≤6)=false:=decide_eq_false (by omega);clear c7;obtain rfl:=Option.some.inj H;obtain⟨_,_,_,_,_,_,_,_,_,_⟩:=bc5 U;go_wp2
     go_ret
     exact⟨RT,PB⟩
   ·replace c6:=Bool.eq_false_iff.mpr c6;subst c6;rw[if_neg nft] at H
    by_cases ae:J=3
    ·rw[if_pos ae] at H;obtain⟨bl,bm⟩:=eqq1 ae;clear ae
     by_cases ab:(D.length:Int)=0
     ·rw[if_pos ab] at H;obtain⟨bo,bp⟩:=eqq1 ab;clear ab;obtain⟨b5,cz,H⟩:=obq H;(try dsimp only at H);obtain rfl:=Option.some.inj H;obtain⟨_,_,_,_,_,_,_,_,_,_⟩:=bc5 U;go_wp2_with (first|(go_at_call 43;(with_reducible refine(impl_IsAddress.calls X Y Z b5 _ cz.out).mono ?_);rintro e di ⟨rfl,hb⟩;replace HB:=bs HB hb;clear hb))
      go_ret
      exact⟨RT,PB⟩
     ·rw[if_neg ab] at H;obtain⟨bo,bp⟩:=eqq2 ab
      have db:¬(D=[]):=fun h_=>ab (by rw[h_];rfl)
      obtain rfl:=Option.some.inj H;obtain⟨_,_,_,_,_,_,_,_,_,_⟩:=bc5 U;go_wp2
      go_ret
      exact⟨RT,PB⟩
    ·rw[if_neg ae] at H;obtain⟨bl,bm⟩:=eqq2 ae
     by_cases ag:J=4
     ·rw[if_pos ag] at H;obtain⟨br,bu⟩:=eqq1 ag;clear ag
      by_cases ac:(D.length:Int)=0
      ·rw[if_pos ac] at H;obtain⟨bv,bw⟩:=eqq1 ac;clear ac;obtain rfl:=Option.some.inj H;obtain⟨cp,cq,cr,ct,_,cu,cv,cw,cx,_⟩:=bc5 U;go_wp2
       go_ret
       exact⟨RT,PB⟩
      ·rw[if_neg ac] at H;obtain⟨bv,bw⟩:=eqq2 ac
       have dc:¬(D=[]):=fun h_=>ac (by rw[h_];rfl)
       obtain rfl:=Option.some.inj H;obtain⟨_,_,_,_,_,_,_,_,_,_⟩:=bc5 U;go_wp2
       go_ret
       exact⟨RT,PB⟩
     ·rw[if_neg ag] at H;obtain⟨br,bu⟩:=eqq2 ag;obtain rfl:=Option.some.inj H;go_wp2
      go_ret
      exact⟨RT,PB⟩
def impl_IsSite_lit1.f (k:Nat)(D:Int)(J:Int)(U:Int)(X:Int)(Y:Int)(Z:List Int)(aa:Int)(ab:Int)(ac:Int):Option (Bool):=(impl_IsAddress.f D J U).bind fun ae=>(if ae=true then((impl_InRange.f X 0 1000).bind fun ag=>(if ag=true then((impl_IsResource.f k Y Z aa ab ac).bind fun ah=>(some (!ah))) else(some true))) else(some true))
theorem impl_IsSite_lit1.calls (k:Nat)(J:Int)(U:Int)(X:Int)(Z:Int)(aa:Int)(ag:Option Addr)(ah:Nat)(Y:List Int)(ab:Int)(ac:Int)(ae:Int)(r:Bool)(w:World)(ai:Kd.C (Kd.int .i64) w ag Y.length Y)(aj:Y.length≤ah)(h:impl_IsSite_lit1.f k J U X Z aa Y ab ac ae=some r) :
  Calls Tryz.prog 42 #[.agg #[.int .i64 J,.int .i64 U,.int .i64 X,.int .i64 Z,.int .i64 aa,.slice ag Y.length ah,.int .i64 ab,.int .i64 ac,.int .i64 ae]] w fun e w'=>e = .returned (.bool r)∧Below w.heap.size w w':=by
 have ck:=Tryz.underlying83;have cl:=Tryz.underlying48;have cm:=Tryz.underlying81;have ao:=ak ai;have ap:=ak aj;clear ai aj;have HB:=ak (Below.refl w.heap.size w);have H:=h;clear h;unfold impl_IsSite_lit1.f at H;obtain⟨ax,A2,H⟩:=obq H;(try dsimp only at H)
 by_cases c3:ax=true
 ·subst c3;rw[if_pos rfl] at H;obtain⟨az,A4,H⟩:=obq H;(try dsimp only at H)
  by_cases c5:az=true
  ·subst c5;rw[if_pos rfl] at H;obtain⟨ba,A6,H⟩:=obq H;(try dsimp only at H);obtain rfl:=Option.some.inj H;go_enter Tryz.func42,Tryz.ntmps42;go_wp2_with (first|((with_reducible refine gate_dst (N:=1) rfl ?_);refine bx_ (N:=1) #[.int .i64 J,.int .i64 U,.int .i64 X,.int .i64 Z,.int .i64 aa,.slice ag Y.length ah,.int .i64 ab,.int .i64 ac,.int .i64 ae] 83 ?_;intro al hg w7 hbox hb;have D:=ak hbox;have am:=gy hg HB;replace HB:=bs HB hb;clear hb hbox hg;obtain⟨_,_,_,_,_,_,_,_,_,_,_,_,_,_,_,_,_,_⟩:=bc9 D)|(go_at_call 43;(with_reducible refine(impl_IsAddress.calls J U X true _ A2.out).mono ?_);rintro e w9 ⟨rfl,hb⟩;replace D:=kf D hb;replace HB:=bs HB hb;clear hb;obtain⟨bb,bc,bd,bf,bg,_,_,_,_,bh,bi,bj,bk,bl,_,_,_,_⟩:=bc9 D)|(go_at_call 23;(with_reducible refine(impl_InRange.calls Z 0 1000 true _ A4.out).mono ?_);rintro e w' ⟨rfl,⟨nd,rfl⟩⟩)|(go_at_call 44;(with_reducible refine(impl_IsResource.calls k aa _ _ Y ab ac ae ba _ ?side1 ap.out A6.out).mono ?_);(case side1=>exact Kd.C_below ao.out PB);rintro e co ⟨rfl,hb⟩;replace HB:=bs HB hb;clear hb))
   go_ret
   exact⟨RT,PB⟩
  ·replace c5:=Bool.eq_false_iff.mpr c5;subst c5;rw[if_neg nft] at H;obtain rfl:=Option.some.inj H;go_enter Tryz.func42,Tryz.ntmps42;go_wp2_with (first|((with_reducible refine gate_dst (N:=1) rfl ?_);refine bx_ (N:=1) #[.int .i64 J,.int .i64 U,.int .i64 X,.int .i64 Z,.int .i64 aa,.slice ag Y.length ah,.int .i64 ab,.int .i64 ac,.int .i64 ae] 83 ?_;intro al hg cp hbox hb;have D:=ak hbox;have am:=gy hg HB;replace HB:=bs HB hb;clear hb hbox hg;obtain⟨bm,bo,bp,br,_,_,_,_,_,bu,bv,bw,bx,_,_,_,_,_⟩:=bc9 D)|(go_at_call 43;(with_reducible refine(impl_IsAddress.calls J U X true _ A2.out).mono ?_);rintro e cq ⟨rfl,hb⟩;replace D:=kf D hb;replace HB:=bs HB hb;clear hb;obtain⟨bz,b0,b4,b5,_,_,_,_,_,b6,b7,b8,b9,_,_,_,_,_⟩:=bc9 D)|(go_at_call 23;(with_reducible refine(impl_InRange.calls Z 0 1000 false _ A4.out).mono ?_);rintro e w' ⟨rfl,⟨nd,rfl⟩⟩))
   go_ret
   exact⟨RT,PB⟩
 ·replace c3:=Bool.eq_false_iff.mpr c3;subst c3;rw[if_neg nft] at H;obtain rfl:=Option.some.inj H;go_enter Tryz.func42,Tryz.ntmps42;go_wp2_with (first|((with_reducible refine gate_dst (N:=1) rfl ?_);refine bx_ (N:=1) #[.int .i64 J,.int .i64 U,.int .i64 X,.int .i64 Z,.int .i64 aa,.slice ag Y.length ah,.int .i64 ab,.int .i64 ac,.int .i64 ae] 83 ?_;intro al hg cr hbox hb;have D:=ak hbox;have am:=gy hg HB;replace HB:=bs HB hb;clear hb hbox hg;obtain⟨ca,cb,cd,ce,_,_,_,_,_,cf,cg,ch,ci,_,_,_,_,_⟩:=bc9 D)|(go_at_call 43;(with_reducible refine(impl_IsAddress.calls J U X false _ A2.out).mono ?_);rintro e ct ⟨rfl,hb⟩;replace HB:=bs HB hb;clear hb))
  go_ret
  exact⟨RT,PB⟩
def slices_IndexFunc_42.l0:Nat→List (S83)→Int→Int→Option (Int)
  | 0,_,_,_=>none
  | k+1,J,X,D=>if D < X then(if 0≤D then(if D < (J.length:Int) then((impl_IsSite_lit1.f k ((rd_T83 J D).f0.f0) ((rd_T83 J D).f0.f1) ((rd_T83 J D).f0.f2) ((rd_T83 J D).f1) ((rd_T83 J D).f2.f0) ((rd_T83 J D).f2.f1) ((rd_T83 J D).f2.f2.f0) ((rd_T83 J D).f2.f2.f1) ((rd_T83 J D).f2.f2.f2)).bind fun U=>(if U=true then(some D) else(slices_IndexFunc_42.l0 k J X (wrap64 (D+1))))) else(none)) else(none)) else(some (-1))
def slices_IndexFunc_42.f (k:Nat)(D:List (S83))(J:Int):Option (Int):=slices_IndexFunc_42.l0 k D (D.length:Int) 0
theorem slices_IndexFunc_42.calls (k:Nat)(A0:Option Addr)(c0:Nat)(J:List (S83))(a1:Int)(r:Int)(w:World)(az:Kd.C k83 w A0 J.length J)(ba:J.length≤c0)(h:slices_IndexFunc_42.f k J a1=some r) :
  Calls Tryz.prog 60 #[.slice A0 J.length c0,.func (.func 42) #[] #[]] w fun e w'=>e = .returned (.int .i64 r)∧Below w.heap.size w w':=by
 have bl:=Tryz.underlying83;have bb:=ak az;have br:=ak ba;clear az ba;have HB:=ak (Below.refl w.heap.size w);have H:=h;clear h;unfold slices_IndexFunc_42.f at H;have H':=ak H;clear H;go_enter Tryz.func60,Tryz.ntmps60;go_wp2
 go_loopg [8] k (fun kq v8 w'=>∃(D:Int),v8 = .int .i64 D∧Aside0 (slices_IndexFunc_42.l0 kq J (J.length:Int) D=some r)∧Aside0 (kq≤k)∧Aside0 (Below w.heap.size w w'))
 case atStart=>exact⟨(0),FR,H',⟨Nat.le_refl _⟩,⟨PB⟩⟩
 case round =>
  clear H'
  try clear p2
  obtain⟨D,rfl,HA,bc,HB⟩:=hrel
  cases gk with
  | zero=>exact absurd HA.out (by simp[slices_IndexFunc_42.l0])
  | succ k1 =>
   have H:=HA.out;clear HA;simp only[slices_IndexFunc_42.l0] at H
   by_cases c3:D < (J.length:Int)
   ·rw[if_pos c3] at H;have bf:=decide_eq_true c3;clear c3
    by_cases c4:0≤D
    ·rw[if_pos c4] at H;have bo:=decide_eq_true c4;clear c4
     by_cases c5:D < (J.length:Int)
     ·rw[if_pos c5] at H;have bp:=decide_eq_true c5;clear c5;obtain⟨bg,A6,H⟩:=obq H;(try dsimp only at H)
      by_cases c7:bg=true
      ·subst c7;rw[if_pos rfl] at H;obtain rfl:=Option.some.inj H;have aj:0≤(D:Int):=od;have al:D < (J.length:Int):=od;obtain⟨ay,ap,aq,ar,U,X,Y,Z,aa,ab,ac,ae,ag,ah,ai⟩:=at_T83 bb.out D aj al;cases ar;replace U:=hx_ HB U;replace X:=hx_ HB X;replace Y:=hx_ HB Y;replace Z:=hx_ HB Z;replace aa:=hx_ HB aa;replace ab:=hx_ HB ab;replace ac:=hx_ HB ac;replace ae:=hx_ HB ae;replace ag:=hx_ HB ag;have am:=ak ai;have ao:=ak ah;clear ai ah;replace aj:=eq_true aj;replace al:=eq_true al;go_wp2_with (first|((with_reducible refine gate_calleeV (n:=11) rfl ?_);refine goesLV_ (some 16) rfl rfl Tryz.func42 KR rfl #[.agg #[.int .i64 ((rd_T83 J D).f0.f0),.int .i64 ((rd_T83 J D).f0.f1),.int .i64 ((rd_T83 J D).f0.f2),.int .i64 ((rd_T83 J D).f1),.int .i64 ((rd_T83 J D).f2.f0),.slice ap ((rd_T83 J D).f2.f1).length aq,.int .i64 ((rd_T83 J D).f2.f2.f0),.int .i64 ((rd_T83 J D).f2.f2.f1),.int .i64 ((rd_T83 J D).f2.f2.f2)]] rfl AR ?_;(with_reducible refine(impl_IsSite_lit1.calls k1 ((rd_T83 J D).f0.f0) ((rd_T83 J D).f0.f1) ((rd_T83 J D).f0.f2) ((rd_T83 J D).f1) ((rd_T83 J D).f2.f0) _ _ ((rd_T83 J D).f2.f1) ((rd_T83 J D).f2.f2.f0) ((rd_T83 J D).f2.f2.f1) ((rd_T83 J D).f2.f2.f2) true _ ?side1 ao.out A6.out).mono ?_);(case side1=>exact Cq am);rintro e w8 ⟨rfl,hb⟩;refine⟨_,rfl,?_⟩;replace HB:=bs HB hb;clear hb))
       go_ret
       exact⟨RT,PB⟩
      ·replace c7:=Bool.eq_false_iff.mpr c7;subst c7;rw[if_neg nft] at H;have H':=ak H;clear H;have aj:0≤(D:Int):=od;have al:D < (J.length:Int):=od;obtain⟨ay,ap,aq,ar,U,X,Y,Z,aa,ab,ac,ae,ag,ah,ai⟩:=at_T83 bb.out D aj al;cases ar;replace U:=hx_ HB U;replace X:=hx_ HB X;replace Y:=hx_ HB Y;replace Z:=hx_ HB Z;replace aa:=hx_ HB aa;replace ab:=hx_ HB ab;replace ac:=hx_ HB ac;replace ae:=hx_ HB ae;replace ag:=hx_ HB ag;have am:=ak ai;have ao:=ak ah;clear ai ah;replace aj:=eq_true aj;replace al:=eq_true al;go_wp2_with (first|((with_reducible refine gate_calleeV (n:=11) rfl ?_);refine goesLV_ (some 16) rfl rfl Tryz.func42 KR rfl #[.agg #[.int .i64 ((rd_T83 J D).f0.f0),.int .i64 ((rd_T83 J D).f0.f1),.int .i64 ((rd_T83 J D).f0.f2),.int .i64 ((rd_T83 J D).f1),.int .i64 ((rd_T83 J D).f2.f0),.slice ap ((rd_T83 J D).f2.f1).length aq,.int .i64 ((rd_T83 J D).f2.f2.f0),.int .i64 ((rd_T83 J D).f2.f2.f1),.int .i64 ((rd_T83 J D).f2.f2.f2)]] rfl AR ?_;(with_reducible refine(impl_IsSite_lit1.calls k1 ((rd_T83 J D).f0.f0) ((rd_T83 J D).f0.f1) ((rd_T83 J D).f0.f2) ((rd_T83 J D).f1) ((rd_T83 J D).f2.f0) _ _ ((rd_T83 J D).f2.f1) ((rd_T83 J D).f2.f2.f0) ((rd_T83 J D).f2.f2.f1) ((rd_T83 J D).f2.f2.f2) false _ ?side1 ao.out A6.out).mono ?_);(case side1=>exact Cq am);rintro e w9 ⟨rfl,hb⟩;refine⟨_,rfl,?_⟩;replace HB:=bs HB hb;clear hb))
       go_roundg k1
       case measure=>have:=bc.out;omega
       case rel=>exact⟨(wrap64 (D+1)),FR,H',⟨by have:=bc.out;omega⟩,⟨PB⟩⟩
     ·rw[if_neg c5] at H;exact absurd H (by simp)
    ·rw[if_neg c4] at H;exact absurd H (by simp)
   ·rw[if_neg c3] at H;have bf:=decide_eq_false c3;clear c3;obtain rfl:=Option.some.inj H;go_wp2
    go_ret
    exact⟨RT,PB⟩
def slices_ContainsFunc_42.f (k:Nat)(J:List (S83))(U:Int):Option (Bool):=(slices_IndexFunc_42.f k J U).bind fun D=>(some (decide (D≥0)))
theorem slices_ContainsFunc_42.calls (k:Nat)(Y:Option Addr)(Z:Nat)(D:List (S83))(a1:Int)(r:Bool)(w:World)(J:Kd.C k83 w Y D.length D)(U:D.length≤Z)(h:slices_ContainsFunc_42.f k D a1=some r) :
  Calls Tryz.prog 41 #[.slice Y D.length Z,.func (.func 42) #[] #[]] w fun e w'=>e = .returned (.bool r)∧Below w.heap.size w w':=by
 have ac:=ak J;have ae:=ak U;clear J U;have HB:=ak (Below.refl w.heap.size w);have H:=h;clear h;unfold slices_ContainsFunc_42.f at H;obtain⟨aa,A3,H⟩:=obq H;(try dsimp only at H);obtain rfl:=Option.some.inj H;go_enter Tryz.func41,Tryz.ntmps41;go_wp2_with (first|(go_at_call 60;(with_reducible refine(slices_IndexFunc_42.calls k _ _ D a1 aa _ ?side1 ae.out A3.out).mono ?_);(case side1=>exact CR (ac.out));rintro e w4 ⟨rfl,hb⟩;replace HB:=bs HB hb;clear hb))
 go_ret
 exact⟨RT,PB⟩
def impl_IsSite.f (k:Nat)(J:List (S83)):Option (Bool):=if (J.length:Int)≤12 then((slices_ContainsFunc_42.f k J 90000042).bind fun D=>(some (!D))) else(some false)
theorem impl_IsSite.calls (k:Nat)(A0:Option Addr)(c0:Nat)(D:List (S83))(r:Bool)(w:World)(U:Kd.C k83 w A0 D.length D)(X:D.length≤c0)(h:impl_IsSite.f k D=some r) :
  Calls Tryz.prog 22 #[.slice A0 D.length c0] w fun e w'=>e = .returned (.bool r)∧Below w.heap.size w w':=by
 have ag:=ak U;have ah:=ak X;clear U X;have HB:=ak (Below.refl w.heap.size w);have H:=h;clear h;unfold impl_IsSite.f at H
 by_cases J:(D.length:Int)≤12
 ·rw[if_pos J] at H;have Z:=decide_eq_true J;have aa:decide (D.length≤12)=true:=decide_eq_true (by omega);clear J;obtain⟨ab,A3,H⟩:=obq H;(try dsimp only at H);obtain rfl:=Option.some.inj H;go_enter Tryz.func22,Tryz.ntmps22;go_wp2_with (first|(go_at_call 41;(with_reducible refine(slices_ContainsFunc_42.calls k _ _ D 90000042 ab _ ?side1 ah.out A3.out).mono ?_);(case side1=>exact CR (ag.out));rintro e w4 ⟨rfl,hb⟩;replace HB:=bs HB hb;clear hb))
  go_ret
  exact⟨RT,PB⟩
 ·rw[if_neg J] at H;have Z:=decide_eq_false J;have aa:decide (D.length≤12)=false:=decide_eq_false (by omega);clear J;obtain rfl:=Option.some.inj H;go_enter Tryz.func22,Tryz.ntmps22;go_wp2
  go_ret
  exact⟨RT,PB⟩
def impl_IsVisit.f (k:Nat)(J:List (S83))(U:Int)(X:Int)(D:List Int):Option (Bool):=(impl_IsSite.f k J).bind fun Y=>(if Y=true then((impl_InRange.f U 0 1000).bind fun Z=>(if Z=true then((impl_InRange.f X 0 9999).bind fun aa=>(if aa=true then(if (D.length:Int)≤8 then((impl_allIn.f k D 0 999).bind fun ab=>(some ab)) else(some false)) else(some false))) else(some false))) else(some false))
theorem impl_IsVisit.calls (k:Nat)(X:Option Addr)(Y:Nat)(J:List (S83))(Z:Int)(aa:Int)(ab:Option Addr)(ac:Nat)(U:List Int)(r:Bool)(w:World)(aj:Kd.C k83 w X J.length J)(al:J.length≤Y)(am:Kd.C (Kd.int .i64) w ab U.length U)(ao:U.length≤ac)(h:impl_IsVisit.f k J Z aa U=some r) :
  Calls Tryz.prog 7 #[.agg #[.slice X J.length Y,.int .i64 Z,.int .i64 aa,.slice ab U.length ac]] w fun e w'=>e = .returned (.bool r)∧Below w.heap.size w w':=by
 have ci:=Tryz.underlying28;have ae:=ak aj;have ag:=ak al;clear aj al;have aq:=ak am;have ar:=ak ao;clear am ao;have HB:=ak (Below.refl w.heap.size w);have H:=h;clear h;unfold impl_IsVisit.f at H;obtain⟨bc,A2,H⟩:=obq H;(try dsimp only at H)
 by_cases c3:bc=true
 ·subst c3;rw[if_pos rfl] at H;obtain⟨bd,A4,H⟩:=obq H;(try dsimp only at H)
  by_cases c5:bd=true
  ·subst c5;rw[if_pos rfl] at H;obtain⟨bg,A6,H⟩:=obq H;(try dsimp only at H)
   by_cases c7:bg=true
   ·subst c7;rw[if_pos rfl] at H;go_enter Tryz.func7,Tryz.ntmps7
    try go_wp2_with (first|((with_reducible refine gate_dst (N:=1) rfl ?_);(try(refine gate_guard (by rfl) ?_;dsimp only));refine bx_ (N:=1) #[.slice X J.length Y,.int .i64 Z,.int .i64 aa,.slice ab U.length ac] 28 ?_;intro ah hg ck hbox hb;have D:=ak hbox;have ai:=gy hg HB;replace HB:=bs HB hb;clear hb hbox hg;obtain⟨bk,bl,bm,bo,bp,br,bu,bv⟩:=bc4 D)|(go_at_call 22;(with_reducible refine(impl_IsSite.calls k _ _ J true _ ?side1 ag.out A2.out).mono ?_);(case side1=>exact Cq ae);rintro e cl ⟨rfl,hb⟩;replace D:=kf D hb;replace HB:=bs HB hb;clear hb;obtain⟨bw,bx,bz,b0,b4,b5,b6,b7⟩:=bc4 D)|(go_at_call 23;(with_reducible refine(impl_InRange.calls Z 0 1000 true _ A4.out).mono ?_);rintro e w' ⟨rfl,⟨nd,rfl⟩⟩)|(go_at_call 23;refine hold_ ?_))
    (refine unhold_ ?_;(with_reducible refine(impl_InRange.calls aa 0 9999 true _ A6.out).mono ?_);rintro e w' ⟨rfl,⟨nd,rfl⟩⟩)
    by_cases c8:(U.length:Int)≤8
    ·rw[if_pos c8] at H;have bh:=decide_eq_true c8;have bi:decide (U.length≤8)=true:=decide_eq_true (by omega);clear c8;obtain⟨bj,A9,H⟩:=obq H;(try dsimp only at H);obtain rfl:=Option.some.inj H;go_wp2_with (first|(go_at_call 24;(with_reducible refine(impl_allIn.calls k _ _ U 0 999 bj _ ?side1 ar.out A9.out).mono ?_);(case side1=>exact Kd.C_below aq.out PB);rintro e w' ⟨rfl,⟨nd,rfl⟩⟩))
     go_ret
     exact⟨RT,PB⟩
    ·rw[if_neg c8] at H;have bh:=decide_eq_false c8;have bi:decide (U.length≤8)=false:=decide_eq_false (by omega);clear c8;obtain rfl:=Option.some.inj H
     try go_wp2
     go_ret
     exact⟨RT,PB⟩
   ·replace c7:=Bool.eq_false_iff.mpr c7;subst c7;rw[if_neg nft] at H;obtain rfl:=Option.some.inj H;go_enter Tryz.func7,Tryz.ntmps7;go_wp2_with (first|((with_reducible refine gate_dst (N:=1) rfl ?_);(try(refine gate_guard (by rfl) ?_;dsimp only));refine bx_ (N:=1) #[.slice X J.length Y,.int .i64 Z,.int .i64 aa,.slice ab U.length ac] 28 ?_;intro ah hg cm hbox hb;have D:=ak hbox;have ai:=gy hg HB;replace HB:=bs HB hb;clear hb hbox hg;obtain⟨_,_,_,_,_,_,_,_⟩:=bc4 D)|(go_at_call 22;(with_reducible refine(impl_IsSite.calls k _ _ J true _ ?side1 ag.out A2.out).mono ?_);(case side1=>exact Cq ae);rintro e cn ⟨rfl,hb⟩;replace D:=kf D hb;replace HB:=bs HB hb;clear hb;obtain⟨b8,b9,ca,cb,cd,ce,cf,cg⟩:=bc4 D)|(go_at_call 23;(with_reducible refine(impl_InRange.calls Z 0 1000 true _ A4.out).mono ?_);rintro e w' ⟨rfl,⟨nd,rfl⟩⟩)|(go_at_call 23;(with_reducible refine(impl_InRange.calls aa 0 9999 false _ A6.out).mono ?_);rintro e w' ⟨rfl,⟨nd,rfl⟩⟩))
    go_ret
    exact⟨RT,PB⟩
  ·replace c5:=Bool.eq_false_iff.mpr c5;subst c5;rw[if_neg nft] at H;obtain rfl:=Option.some.inj H;go_enter Tryz.func7,Tryz.ntmps7;go_wp2_with (first|((with_reducible refine gate_dst (N:=1) rfl ?_);(try(refine gate_guard (by rfl) ?_;dsimp only));refine bx_ (N:=1) #[.slice X J.length Y,.int .i64 Z,.int .i64 aa,.slice ab U.length ac] 28 ?_;intro ah hg co hbox hb;have D:=ak hbox;have ai:=gy hg HB;replace HB:=bs HB hb;clear hb hbox hg;obtain⟨_,_,_,_,_,_,_,_⟩:=bc4 D)|(go_at_call 22;(with_reducible refine(impl_IsSite.calls k _ _ J true _ ?side1 ag.out A2.out).mono ?_);(case side1=>exact Cq ae);rintro e cp ⟨rfl,hb⟩;replace D:=kf D hb;replace HB:=bs HB hb;clear hb;obtain⟨_,_,_,_,_,_,_,_⟩:=bc4 D)|(go_at_call 23;(with_reducible refine(impl_InRange.calls Z 0 1000 false _ A4.out).mono ?_);rintro e w' ⟨rfl,⟨nd,rfl⟩⟩))
   go_ret
   exact⟨RT,PB⟩
 ·replace c3:=Bool.eq_false_iff.mpr c3;subst c3;rw[if_neg nft] at H;obtain rfl:=Option.some.inj H;go_enter Tryz.func7,Tryz.ntmps7;go_wp2_with (first|((with_reducible refine gate_dst (N:=1) rfl ?_);(try(refine gate_guard (by rfl) ?_;dsimp only));refine bx_ (N:=1) #[.slice X J.length Y,.int .i64 Z,.int .i64 aa,.slice ab U.length ac] 28 ?_;intro ah hg cq hbox hb;have D:=ak hbox;have ai:=gy hg HB;replace HB:=bs HB hb;clear hb hbox hg;obtain⟨_,_,_,_,_,_,_,_⟩:=bc4 D)|(go_at_call 22;(with_reducible refine(impl_IsSite.calls k _ _ J false _ ?side1 ag.out A2.out).mono ?_);(case side1=>exact Cq ae);rintro e cr ⟨rfl,hb⟩;replace HB:=bs HB hb;clear hb))
  go_ret
  exact⟨RT,PB⟩
def impl_IsDone.f (J:List (S57))(D:Int)(U:List Int)(X:List Int)(Y:List Int):Option (Bool):=some (decide (D≥(J.length:Int)))
theorem impl_IsDone.calls (A0:Option Addr)(c0:Nat)(l0:List (S57))(X:Int)(Y:Option Addr)(Z:Nat)(D:List Int)(aa:Option Addr)(ab:Nat)(J:List Int)(ac:Option Addr)(ae:Nat)(U:List Int)(r:Bool)(w:World)(aq:Kd.C k57 w A0 l0.length l0)(ar:l0.length≤c0)(ag:Kd.C (Kd.int .i64) w Y D.length D)(ah:D.length≤Z)(ai:Kd.C (Kd.int .i64) w aa J.length J)(aj:J.length≤ab)(al:Kd.C (Kd.int .i64) w ac U.length U)(am:U.length≤ae)(h:impl_IsDone.f l0 X D J U=some r) :
  Calls Tryz.prog 17 #[.slice A0 l0.length c0,.agg #[.int .i64 X,.slice Y D.length Z,.slice aa J.length ab,.slice ac U.length ae]] w fun e w'=>e = .returned (.bool r)∧Below w.heap.size w w':=by
 have bo:=Tryz.underlying35;have bp:=ak aq;have br:=ak ar;clear aq ar;have bf:=ak ag;have bg:=ak ah;clear ag ah;have bh:=ak ai;have bi:=ak aj;clear ai aj;have bj:=ak al;have bk:=ak am;clear al am;have HB:=ak (Below.refl w.heap.size w);have H:=h;clear h;unfold impl_IsDone.f at H;obtain rfl:=Option.some.inj H;go_enter Tryz.func17,Tryz.ntmps17;go_wp2_with (first|((with_reducible refine gate_dst (N:=3) rfl ?_);refine bx_ (N:=3) #[.int .i64 X,.slice Y D.length Z,.slice aa J.length ab,.slice ac U.length ae] 35 ?_;intro bl hg w3 hbox hb;have ap:=ak hbox;have bm:=gy hg HB;replace HB:=bs HB hb;clear hb hbox hg;obtain⟨aw,ax,ay,az,ba,bb,bc,bd⟩:=bc4 ap))
 go_ret
 exact⟨RT,PB⟩

def impl_StartState.f  : Option (Int×List Int×List Int×List Int):=if 4≤35184372088832 then(if 3≤35184372088832 then(some (0,(List.replicate 4 0),(List.replicate 3 0),(List.replicate 4 0))) else(none)) else(none)
theorem impl_StartState.calls  (r1:Int)(r2:List Int)(r3:List Int)(r4:List Int)(w:World)(h:impl_StartState.f =some (r1,r2,r3,r4)) :
  Calls Tryz.prog 45 #[] w fun e w'=>∃ bd bf bg:Value,e = .returned (.agg #[.int .i64 r1,bd,bf,bg])∧Kd.R (Kd.int .i64) 3 w' w.heap.size (fun k_=>some k_≠(bf:Value).ownBlock∧some k_≠(bg:Value).ownBlock) bd r2∧Kd.R (Kd.int .i64) 3 w' w.heap.size (fun k_=>some k_≠(bd:Value).ownBlock∧some k_≠(bg:Value).ownBlock) bf r3∧Kd.R (Kd.int .i64) 3 w' w.heap.size (fun k_=>some k_≠(bd:Value).ownBlock∧some k_≠(bf:Value).ownBlock) bg r4∧Below w.heap.size w w':=by
 have b4:=Tryz.underlying35;have HB:=ak (Below.refl w.heap.size w);have H:=h;clear h;unfold impl_StartState.f at H
 by_cases c1:4≤35184372088832
 ·rw[if_pos c1] at H;have b5:=eq_true c1;have b6:=decide_eq_true c1;clear c1;obtain⟨ac,ar⟩:∃ y_:List Int,y_=(List.replicate 4 0):=⟨_,rfl⟩
  replace H:(if 3≤35184372088832 then(some (0,ac,(List.replicate 3 0),(List.replicate 4 0))) else(none))=some (r1,r2,r3,r4):=by first|(rw[ar];with_reducible exact H)|(have H2_:=(Option.bind_some _ _).symm.trans H;rw[ar];with_reducible exact H2_)|exact H
  have ah:=ak ar;clear ar
  by_cases c2:3≤35184372088832
  ·rw[if_pos c2] at H;have b7:=eq_true c2;have b8:=decide_eq_true c2;clear c2;obtain⟨ae,au⟩:∃ y_:List Int,y_=(List.replicate 3 0):=⟨_,rfl⟩
   replace H:(some (0,ac,ae,(List.replicate 4 0)))=some (r1,r2,r3,r4):=by first|(rw[au];with_reducible exact H)|(have H2_:=(Option.bind_some _ _).symm.trans H;rw[au];with_reducible exact H2_)|exact H
   have ai:=ak au;clear au;obtain⟨ag,av⟩:∃ y_:List Int,y_=(List.replicate 4 0):=⟨_,rfl⟩
   replace H:(some (0,ac,ae,ag))=some (r1,r2,r3,r4):=by first|(rw[av];with_reducible exact H)|(have H2_:=(Option.bind_some _ _).symm.trans H;rw[av];with_reducible exact H2_)|exact H
   have aj:=ak av;clear av;simp only[Option.some.injEq,Prod.mk.injEq] at H;obtain⟨rfl,rfl,rfl,rfl⟩:=H;go_enter Tryz.func45,Tryz.ntmps45
   try go_wp2_with (first|((with_reducible refine gate_dst (N:=0) rfl ?_);refine bx_ (N:=0) #[.int .i64 0,.slice none 0 0,.slice none 0 0,.slice none 0 0] 35 ?_;intro Y hg w3 hbox hb;have D:=ak hbox;have b0:=gy hg HB;replace HB:=bs HB hb;clear hb hbox hg))
   replace D:=ak (blk_drew D.out);replace HB:=ak (below_drew1 HB.out);refine start_ (n:=5) (S:=fun w'=>True) (ds:=[]) #[false,false,false,false,false] KR rfl rfl trivial (fun hHeld=>?_)
   generalize w3.drew=w4 at D HB hHeld ⊢
   refine join_ (σ:=Value×Value×Value) 2 #[true,true,true,false,false] (fun s_=>[(1,s_.1),(2,s_.2.1),(3,s_.2.2)]) (fun s_ w'=>(Kd.R (Kd.int .i64) 3 w' w.heap.size (fun k_=>some k_≠(s_.2.1:Value).ownBlock∧some k_≠(s_.2.2:Value).ownBlock) s_.1 ac)∧(Kd.R (Kd.int .i64) 3 w' w.heap.size (fun k_=>some k_≠(s_.1:Value).ownBlock∧some k_≠(s_.2.2:Value).ownBlock) s_.2.1 ae)∧(Kd.R (Kd.int .i64) 3 w' w.heap.size (fun k_=>some k_≠(s_.1:Value).ownBlock∧some k_≠(s_.2.1:Value).ownBlock) s_.2.2 ag)∧(w'.heap[Y]?=some (.cells #[.int .i64 0,.slice none 0 0,.slice none 0 0,.slice none 0 0] 35 (0,0)))∧(Below w.heap.size w w')) ?_ ?_;rotate_left
   ·intro hJ0_1_2;refine join_ (σ:=Value×Value) 3 #[true,true,false,false,false] (fun s_=>[(1,s_.1),(2,s_.2)]) (fun s_ w'=>(Kd.R (Kd.int .i64) 3 w' w.heap.size (fun k_=>some k_≠(s_.2:Value).ownBlock) s_.1 ac)∧(Kd.R (Kd.int .i64) 3 w' w.heap.size (fun k_=>some k_≠(s_.1:Value).ownBlock) s_.2 ae)∧(w'.heap[Y]?=some (.cells #[.int .i64 0,.slice none 0 0,.slice none 0 0,.slice none 0 0] 35 (0,0)))∧(Below w.heap.size w w')) ?_ ?_;rotate_left
    ·intro hJ0_1;refine join_ (σ:=Value×Value) 3 #[true,false,true,false,false] (fun s_=>[(1,s_.1),(3,s_.2)]) (fun s_ w'=>(Kd.R (Kd.int .i64) 3 w' w.heap.size (fun k_=>some k_≠(s_.2:Value).ownBlock) s_.1 ac)∧(Kd.R (Kd.int .i64) 3 w' w.heap.size (fun k_=>some k_≠(s_.1:Value).ownBlock) s_.2 ag)∧(w'.heap[Y]?=some (.cells #[.int .i64 0,.slice none 0 0,.slice none 0 0,.slice none 0 0] 35 (0,0)))∧(Below w.heap.size w w')) ?_ ?_;rotate_left
     ·intro hJ0_2;refine join_ (σ:=Value×Value) 3 #[false,true,true,false,false] (fun s_=>[(2,s_.1),(3,s_.2)]) (fun s_ w'=>(Kd.R (Kd.int .i64) 3 w' w.heap.size (fun k_=>some k_≠(s_.2:Value).ownBlock) s_.1 ae)∧(Kd.R (Kd.int .i64) 3 w' w.heap.size (fun k_=>some k_≠(s_.1:Value).ownBlock) s_.2 ag)∧(w'.heap[Y]?=some (.cells #[.int .i64 0,.slice none 0 0,.slice none 0 0,.slice none 0 0] 35 (0,0)))∧(Below w.heap.size w w')) ?_ ?_;rotate_left
      ·intro hJ1_2;refine join_ (σ:=Value) 4 #[true,false,false,false,false] (fun s_=>[(1,s_)]) (fun s_ w'=>(Kd.R (Kd.int .i64) 3 w' w.heap.size (fun _=>True) s_ ac)∧(w'.heap[Y]?=some (.cells #[.int .i64 0,.slice none 0 0,.slice none 0 0,.slice none 0 0] 35 (0,0)))∧(Below w.heap.size w w')) ?_ ?_;rotate_left
       ·intro hJ0;refine join_ (σ:=Value) 4 #[false,true,false,false,false] (fun s_=>[(2,s_)]) (fun s_ w'=>(Kd.R (Kd.int .i64) 3 w' w.heap.size (fun _=>True) s_ ae)∧(w'.heap[Y]?=some (.cells #[.int .i64 0,.slice none 0 0,.slice none 0 0,.slice none 0 0] 35 (0,0)))∧(Below w.heap.size w w')) ?_ ?_;rotate_left
        ·intro hJ1;refine join_ (σ:=Value) 4 #[false,false,true,false,false] (fun s_=>[(3,s_)]) (fun s_ w'=>(Kd.R (Kd.int .i64) 3 w' w.heap.size (fun _=>True) s_ ag)∧(w'.heap[Y]?=some (.cells #[.int .i64 0,.slice none 0 0,.slice none 0 0,.slice none 0 0] 35 (0,0)))∧(Below w.heap.size w w')) ?_ ?_;rotate_left
         ·intro hJ2;refine three_ (i:=0) (j:=1) (k:=2) (Ni:=some 1) (Nj:=some 2) (Nk:=some 3) #[true,false,false,false,false] #[false,true,false,false,false] #[false,false,true,false,false] rfl rfl rfl rfl rfl rfl KR (by decide) (by decide) (by decide) (fun K hK=>?_) (fun K hK=>?_) (fun K hK=>?_)
          ·skip
           refine Kd.R_make_step (Kd.int .i64) _ 3 (by rfl) (N:=1) rfl 26 _ _ rfl 4 rfl rfl Tryz.underlying26 (.int .i64 0) 8 info3 rfl (by decide) (by omega) 0 (ok:=fun _=>True) (okp:=fun _=>True) rfl (fun _ hk=>hk) trivial (by omega) (by omega) (Below.refl _ _) (Nat.le_refl _) ?_;intro Z w5 ho6 hb hg_ hnew_;clear hg_ hnew_;(first|rw[←ah.out] at ho6|(simp only[Int.reduceToNat] at ho6;rw[←ah.out] at ho6));have J:=Rn0 ho6 HB;replace D:=kf D hb;replace HB:=bs HB hb;clear hb ho6;refine hK.out _ _ trivial (fun hHeld=>?_);clear hK K;refine nq_ (N:=(some 1)) ?_
           exact nm_ (hJ0 (Z) _ ⟨(PR J),(PK D),PB⟩)
          ·skip
           refine Kd.R_make_step (Kd.int .i64) _ 3 (by rfl) (N:=2) rfl 26 _ _ rfl 3 rfl rfl Tryz.underlying26 (.int .i64 0) 8 info3 rfl (by decide) (by omega) 0 (ok:=fun _=>True) (okp:=fun _=>True) rfl (fun _ hk=>hk) trivial (by omega) (by omega) (Below.refl _ _) (Nat.le_refl _) ?_;intro aa w5 ho6 hb hg_ hnew_;clear hg_ hnew_;(first|rw[←ai.out] at ho6|(simp only[Int.reduceToNat] at ho6;rw[←ai.out] at ho6));have U:=Rn0 ho6 HB;replace D:=kf D hb;replace HB:=bs HB hb;clear hb ho6;refine hK.out _ _ trivial (fun hHeld=>?_);clear hK K;refine nq_ (N:=(some 2)) ?_
           exact nm_ (hJ1 (aa) _ ⟨(PR U),(PK D),PB⟩)
          ·skip
           refine Kd.R_make_step (Kd.int .i64) _ 3 (by rfl) (N:=3) rfl 26 _ _ rfl 4 rfl rfl Tryz.underlying26 (.int .i64 0) 8 info3 rfl (by decide) (by omega) 0 (ok:=fun _=>True) (okp:=fun _=>True) rfl (fun _ hk=>hk) trivial (by omega) (by omega) (Below.refl _ _) (Nat.le_refl _) ?_;intro ab w5 ho6 hb hg_ hnew_;clear hg_ hnew_;(first|rw[←aj.out] at ho6|(simp only[Int.reduceToNat] at ho6;rw[←aj.out] at ho6));have X:=Rn0 ho6 HB;replace D:=kf D hb;replace HB:=bs HB hb;clear hb ho6;refine hK.out _ _ trivial (fun hHeld=>?_);clear hK K;refine nq_ (N:=(some 3)) ?_
           exact nm_ (hJ2 (ab) _ ⟨(PR X),(PK D),PB⟩)
         ·skip
          rintro ab w7 ⟨h0_,h1_,h2_⟩;have X:Aside0 (Kd.R (Kd.int .i64) 3 w7 w.heap.size (fun _=>True) ab ag):=⟨h0_⟩;replace D:Aside0 (w7.heap[Y]?=some (.cells #[.int .i64 0,.slice none 0 0,.slice none 0 0,.slice none 0 0] 35 (0,0))):=⟨h1_⟩;replace HB:Aside0 (Below w.heap.size w w7):=⟨h2_⟩;clear h0_ h1_ h2_;have hHeld:=trivial;refine norm_ (a':=?_) ?_ ?_;rotate_left
          ·simp only[putAll,Act.put,List.setIfInBounds_toArray,List.set_cons_zero,List.set_cons_succ]
           rfl
          refine two_ (i:=0) (j:=1) (Ni:=some 1) (Nj:=some 2) #[true,false,true,false,false] #[false,true,true,false,false] rfl rfl rfl rfl KR (by decide) (by decide) (fun K hK=>?_) (fun K hK=>?_)
          ·skip
           refine Kd.R_make_step (Kd.int .i64) _ 3 (by rfl) (N:=1) rfl 26 _ _ rfl 4 rfl rfl Tryz.underlying26 (.int .i64 0) 8 info3 rfl (by decide) (by omega) 0 (ok:=fun _=>True) (okp:=fun _=>True) rfl (fun _ hk=>hk) trivial (by omega) (by omega) (Below.refl _ _) (Nat.le_refl _) ?_;intro Z w8 ho9 hb hg_ hnew_;clear hg_ hnew_;(first|rw[←ah.out] at ho9|(simp only[Int.reduceToNat] at ho9;rw[←ah.out] at ho9));have J:=Rn1 ho9 HB X;replace X:=ak (Kd.R_elder' (PR X) (Kd.R_base ho9) hb);replace D:=kf D hb;replace HB:=bs HB hb;clear hb ho9;refine hK.out _ _ trivial (fun hHeld=>?_);clear hK K;refine nq_ (N:=(some 1)) ?_
           exact nm_ (hJ0_2 (Z,ab) _ ⟨(RX J.out FK),(RX X.out FK),(PK D),PB⟩)
          ·skip
           refine Kd.R_make_step (Kd.int .i64) _ 3 (by rfl) (N:=2) rfl 26 _ _ rfl 3 rfl rfl Tryz.underlying26 (.int .i64 0) 8 info3 rfl (by decide) (by omega) 0 (ok:=fun _=>True) (okp:=fun _=>True) rfl (fun _ hk=>hk) trivial (by omega) (by omega) (Below.refl _ _) (Nat.le_refl _) ?_;intro aa w8 ho9 hb hg_ hnew_;clear hg_ hnew_;(first|rw[←ai.out] at ho9|(simp only[Int.reduceToNat] at ho9;rw[←ai.out] at ho9));have U:=Rn1 ho9 HB X;replace X:=ak (Kd.R_elder' (PR X) (Kd.R_base ho9) hb);replace D:=kf D hb;replace HB:=bs HB hb;clear hb ho9;refine hK.out _ _ trivial (fun hHeld=>?_);clear hK K;refine nq_ (N:=(some 2)) ?_
           exact nm_ (hJ1_2 (aa,ab) _ ⟨(RX U.out FK),(RX X.out FK),(PK D),PB⟩)
        ·skip
         rintro aa w7 ⟨h0_,h1_,h2_⟩;have U:Aside0 (Kd.R (Kd.int .i64) 3 w7 w.heap.size (fun _=>True) aa ae):=⟨h0_⟩;replace D:Aside0 (w7.heap[Y]?=some (.cells #[.int .i64 0,.slice none 0 0,.slice none 0 0,.slice none 0 0] 35 (0,0))):=⟨h1_⟩;replace HB:Aside0 (Below w.heap.size w w7):=⟨h2_⟩;clear h0_ h1_ h2_;have hHeld:=trivial;refine norm_ (a':=?_) ?_ ?_;rotate_left
         ·simp only[putAll,Act.put,List.setIfInBounds_toArray,List.set_cons_zero,List.set_cons_succ]
          rfl
         refine two_ (i:=0) (j:=2) (Ni:=some 1) (Nj:=some 3) #[true,true,false,false,false] #[false,true,true,false,false] rfl rfl rfl rfl KR (by decide) (by decide) (fun K hK=>?_) (fun K hK=>?_)
         ·skip
          refine Kd.R_make_step (Kd.int .i64) _ 3 (by rfl) (N:=1) rfl 26 _ _ rfl 4 rfl rfl Tryz.underlying26 (.int .i64 0) 8 info3 rfl (by decide) (by omega) 0 (ok:=fun _=>True) (okp:=fun _=>True) rfl (fun _ hk=>hk) trivial (by omega) (by omega) (Below.refl _ _) (Nat.le_refl _) ?_;intro Z w8 ho9 hb hg_ hnew_;clear hg_ hnew_;(first|rw[←ah.out] at ho9|(simp only[Int.reduceToNat] at ho9;rw[←ah.out] at ho9));have J:=Rn1 ho9 HB U;replace U:=ak (Kd.R_elder' (PR U) (Kd.R_base ho9) hb);replace D:=kf D hb;replace HB:=bs HB hb;clear hb ho9;refine hK.out _ _ trivial (fun hHeld=>?_);clear hK K;refine nq_ (N:=(some 1)) ?_
          exact nm_ (hJ0_1 (Z,aa) _ ⟨(RX J.out FK),(RX U.out FK),(PK D),PB⟩)
         ·skip
          refine Kd.R_make_step (Kd.int .i64) _ 3 (by rfl) (N:=3) rfl 26 _ _ rfl 4 rfl rfl Tryz.underlying26 (.int .i64 0) 8 info3 rfl (by decide) (by omega) 0 (ok:=fun _=>True) (okp:=fun _=>True) rfl (fun _ hk=>hk) trivial (by omega) (by omega) (Below.refl _ _) (Nat.le_refl _) ?_;intro ab w8 ho9 hb hg_ hnew_;clear hg_ hnew_;(first|rw[←aj.out] at ho9|(simp only[Int.reduceToNat] at ho9;rw[←aj.out] at ho9));have X:=Rn1 ho9 HB U;replace U:=ak (Kd.R_elder' (PR U) (Kd.R_base ho9) hb);replace D:=kf D hb;replace HB:=bs HB hb;clear hb ho9;refine hK.out _ _ trivial (fun hHeld=>?_);clear hK K;refine nq_ (N:=(some 3)) ?_
          exact nm_ (hJ1_2 (aa,ab) _ ⟨(RX U.out FK),(RX X.out FK),(PK D),PB⟩)
       ·skip
        rintro Z w7 ⟨h0_,h1_,h2_⟩;have J:Aside0 (Kd.R (Kd.int .i64) 3 w7 w.heap.size (fun _=>True) Z ac):=⟨h0_⟩;replace D:Aside0 (w7.heap[Y]?=some (.cells #[.int .i64 0,.slice none 0 0,.slice none 0 0,.slice none 0 0] 35 (0,0))):=⟨h1_⟩;replace HB:Aside0 (Below w.heap.size w w7):=⟨h2_⟩;clear h0_ h1_ h2_;have hHeld:=trivial;refine norm_ (a':=?_) ?_ ?_;rotate_left
        ·simp only[putAll,Act.put,List.setIfInBounds_toArray,List.set_cons_zero,List.set_cons_succ]
         rfl
        refine two_ (i:=1) (j:=2) (Ni:=some 2) (Nj:=some 3) #[true,true,false,false,false] #[true,false,true,false,false] rfl rfl rfl rfl KR (by decide) (by decide) (fun K hK=>?_) (fun K hK=>?_)
        ·skip
         refine Kd.R_make_step (Kd.int .i64) _ 3 (by rfl) (N:=2) rfl 26 _ _ rfl 3 rfl rfl Tryz.underlying26 (.int .i64 0) 8 info3 rfl (by decide) (by omega) 0 (ok:=fun _=>True) (okp:=fun _=>True) rfl (fun _ hk=>hk) trivial (by omega) (by omega) (Below.refl _ _) (Nat.le_refl _) ?_;intro aa w8 ho9 hb hg_ hnew_;clear hg_ hnew_;(first|rw[←ai.out] at ho9|(simp only[Int.reduceToNat] at ho9;rw[←ai.out] at ho9));have U:=Rn1 ho9 HB J;replace J:=ak (Kd.R_elder' (PR J) (Kd.R_base ho9) hb);replace D:=kf D hb;replace HB:=bs HB hb;clear hb ho9;refine hK.out _ _ trivial (fun hHeld=>?_);clear hK K;refine nq_ (N:=(some 2)) ?_
         exact nm_ (hJ0_1 (Z,aa) _ ⟨(RX J.out FK),(RX U.out FK),(PK D),PB⟩)
        ·skip
         refine Kd.R_make_step (Kd.int .i64) _ 3 (by rfl) (N:=3) rfl 26 _ _ rfl 4 rfl rfl Tryz.underlying26 (.int .i64 0) 8 info3 rfl (by decide) (by omega) 0 (ok:=fun _=>True) (okp:=fun _=>True) rfl (fun _ hk=>hk) trivial (by omega) (by omega) (Below.refl _ _) (Nat.le_refl _) ?_;intro ab w8 ho9 hb hg_ hnew_;clear hg_ hnew_;(first|rw[←aj.out] at ho9|(simp only[Int.reduceToNat] at ho9;rw[←aj.out] at ho9));have X:=Rn1 ho9 HB J;replace J:=ak (Kd.R_elder' (PR J) (Kd.R_base ho9) hb);replace D:=kf D hb;replace HB:=bs HB hb;clear hb ho9;refine hK.out _ _ trivial (fun hHeld=>?_);clear hK K;refine nq_ (N:=(some 3)) ?_
         exact nm_ (hJ0_2 (Z,ab) _ ⟨(RX J.out FK),(RX X.out FK),(PK D),PB⟩)
      ·skip
       rintro⟨aa,ab⟩ w9 ⟨h0_,h1_,h2_,h3_⟩;have U:Aside0 (Kd.R (Kd.int .i64) 3 w9 w.heap.size (fun k_=>some k_≠(ab:Value).ownBlock) aa ae):=⟨h0_⟩;have X:Aside0 (Kd.R (Kd.int .i64) 3 w9 w.heap.size (fun k_=>some k_≠(aa:Value).ownBlock) ab ag):=⟨h1_⟩;replace D:Aside0 (w9.heap[Y]?=some (.cells #[.int .i64 0,.slice none 0 0,.slice none 0 0,.slice none 0 0] 35 (0,0))):=⟨h2_⟩;replace HB:Aside0 (Below w.heap.size w w9):=⟨h3_⟩;clear h0_ h1_ h2_ h3_;have hHeld:=trivial;refine norm_ (a':=?_) ?_ ?_;rotate_left
       ·simp only[putAll,Act.put,List.setIfInBounds_toArray,List.set_cons_zero,List.set_cons_succ]
        rfl
       refine one_ (i:=0) (N:=some 1) #[true,true,true,false,false] rfl rfl KR (by decide) (fun K hK=>?_);refine Kd.R_make_step (Kd.int .i64) _ 3 (by rfl) (N:=1) rfl 26 _ _ rfl 4 rfl rfl Tryz.underlying26 (.int .i64 0) 8 info3 rfl (by decide) (by omega) 0 (ok:=fun _=>True) (okp:=fun _=>True) rfl (fun _ hk=>hk) trivial (by omega) (by omega) (Below.refl _ _) (Nat.le_refl _) ?_;intro Z bx ho11 hb hg_ hnew_;clear hg_ hnew_;(first|rw[←ah.out] at ho11|(simp only[Int.reduceToNat] at ho11;rw[←ah.out] at ho11));have J:=Rn2 ho11 HB U X;replace U:=ak (Kd.R_elder' (PR U) (Kd.R_base ho11) hb);replace X:=ak (Kd.R_elder' (PR X) (Kd.R_base ho11) hb);replace D:=kf D hb;replace HB:=bs HB hb;clear hb ho11;obtain⟨ax,ay,al⟩:=Kd.R_slice X.out;(first|subst al|(injection al with f1_ f2_ f3_;have f4_:=f1_.symm;have f5_:=f3_.symm;clear f1_ f2_ f3_;subst f4_;subst f5_));obtain⟨az,ba,am⟩:=Kd.R_slice U.out;(first|subst am|(injection am with f1_ f2_ f3_;have f4_:=f1_.symm;have f5_:=f3_.symm;clear f1_ f2_ f3_;subst f4_;subst f5_));obtain⟨bb,bc,ao⟩:=Kd.R_slice J.out;(first|subst ao|(injection ao with f1_ f2_ f3_;have f4_:=f1_.symm;have f5_:=f3_.symm;clear f1_ f2_ f3_;subst f4_;subst f5_));refine hK.out _ _ trivial (fun hHeld=>?_);clear hK K;refine nq_ (N:=(some 1)) ?_
       exact nm_ (hJ0_1_2 (.slice bb ac.length bc,.slice az ae.length ba,.slice ax ag.length ay) _ ⟨(RX J.out (fun _ hk=>by first|exact⟨hk.1.2,hk.2⟩ | simp_all)),(RX U.out (fun _ hk=>by first|exact⟨hk.2,hk.1⟩ | simp_all)),(RX X.out (fun _ hk=>by first|exact⟨hk.2,hk.1⟩ | simp_all)),(PK D),PB⟩)
     ·skip
      rintro⟨Z,ab⟩ w9 ⟨h0_,h1_,h2_,h3_⟩;have J:Aside0 (Kd.R (Kd.int .i64) 3 w9 w.heap.size (fun k_=>some k_≠(ab:Value).ownBlock) Z ac):=⟨h0_⟩;have X:Aside0 (Kd.R (Kd.int .i64) 3 w9 w.heap.size (fun k_=>some k_≠(Z:Value).ownBlock) ab ag):=⟨h1_⟩;replace D:Aside0 (w9.heap[Y]?=some (.cells #[.int .i64 0,.slice none 0 0,.slice none 0 0,.slice none 0 0] 35 (0,0))):=⟨h2_⟩;replace HB:Aside0 (Below w.heap.size w w9):=⟨h3_⟩;clear h0_ h1_ h2_ h3_;have hHeld:=trivial;refine norm_ (a':=?_) ?_ ?_;rotate_left
      ·simp only[putAll,Act.put,List.setIfInBounds_toArray,List.set_cons_zero,List.set_cons_succ]
       rfl
      refine one_ (i:=1) (N:=some 2) #[true,true,true,false,false] rfl rfl KR (by decide) (fun K hK=>?_);refine Kd.R_make_step (Kd.int .i64) _ 3 (by rfl) (N:=2) rfl 26 _ _ rfl 3 rfl rfl Tryz.underlying26 (.int .i64 0) 8 info3 rfl (by decide) (by omega) 0 (ok:=fun _=>True) (okp:=fun _=>True) rfl (fun _ hk=>hk) trivial (by omega) (by omega) (Below.refl _ _) (Nat.le_refl _) ?_;intro aa bx ho11 hb hg_ hnew_;clear hg_ hnew_;(first|rw[←ai.out] at ho11|(simp only[Int.reduceToNat] at ho11;rw[←ai.out] at ho11));have U:=Rn2 ho11 HB J X;replace J:=ak (Kd.R_elder' (PR J) (Kd.R_base ho11) hb);replace X:=ak (Kd.R_elder' (PR X) (Kd.R_base ho11) hb);replace D:=kf D hb;replace HB:=bs HB hb;clear hb ho11;obtain⟨ax,ay,al⟩:=Kd.R_slice X.out;(first|subst al|(injection al with f1_ f2_ f3_;have f4_:=f1_.symm;have f5_:=f3_.symm;clear f1_ f2_ f3_;subst f4_;subst f5_));obtain⟨az,ba,am⟩:=Kd.R_slice U.out;(first|subst am|(injection am with f1_ f2_ f3_;have f4_:=f1_.symm;have f5_:=f3_.symm;clear f1_ f2_ f3_;subst f4_;subst f5_));obtain⟨bb,bc,ao⟩:=Kd.R_slice J.out;(first|subst ao|(injection ao with f1_ f2_ f3_;have f4_:=f1_.symm;have f5_:=f3_.symm;clear f1_ f2_ f3_;subst f4_;subst f5_));refine hK.out _ _ trivial (fun hHeld=>?_);clear hK K;refine nq_ (N:=(some 2)) ?_
      exact nm_ (hJ0_1_2 (.slice bb ac.length bc,.slice az ae.length ba,.slice ax ag.length ay) _ ⟨(RX J.out (fun _ hk=>by first|exact⟨hk.2,hk.1⟩ | simp_all)),(RX U.out (fun _ hk=>by first|exact⟨hk.1.2,hk.2⟩ | simp_all)),(PR X),(PK D),PB⟩)
    ·skip
     rintro⟨Z,aa⟩ w9 ⟨h0_,h1_,h2_,h3_⟩;have J:Aside0 (Kd.R (Kd.int .i64) 3 w9 w.heap.size (fun k_=>some k_≠(aa:Value).ownBlock) Z ac):=⟨h0_⟩;have U:Aside0 (Kd.R (Kd.int .i64) 3 w9 w.heap.size (fun k_=>some k_≠(Z:Value).ownBlock) aa ae):=⟨h1_⟩;replace D:Aside0 (w9.heap[Y]?=some (.cells #[.int .i64 0,.slice none 0 0,.slice none 0 0,.slice none 0 0] 35 (0,0))):=⟨h2_⟩;replace HB:Aside0 (Below w.heap.size w w9):=⟨h3_⟩;clear h0_ h1_ h2_ h3_;have hHeld:=trivial;refine norm_ (a':=?_) ?_ ?_;rotate_left
     ·simp only[putAll,Act.put,List.setIfInBounds_toArray,List.set_cons_zero,List.set_cons_succ]
      rfl
     refine one_ (i:=2) (N:=some 3) #[true,true,true,false,false] rfl rfl KR (by decide) (fun K hK=>?_);refine Kd.R_make_step (Kd.int .i64) _ 3 (by rfl) (N:=3) rfl 26 _ _ rfl 4 rfl rfl Tryz.underlying26 (.int .i64 0) 8 info3 rfl (by decide) (by omega) 0 (ok:=fun _=>True) (okp:=fun _=>True) rfl (fun _ hk=>hk) trivial (by omega) (by omega) (Below.refl _ _) (Nat.le_refl _) ?_;intro ab bx ho11 hb hg_ hnew_;clear hg_ hnew_;(first|rw[←aj.out] at ho11|(simp only[Int.reduceToNat] at ho11;rw[←aj.out] at ho11));have X:=Rn2 ho11 HB J U;replace J:=ak (Kd.R_elder' (PR J) (Kd.R_base ho11) hb);replace U:=ak (Kd.R_elder' (PR U) (Kd.R_base ho11) hb);replace D:=kf D hb;replace HB:=bs HB hb;clear hb ho11;obtain⟨ax,ay,al⟩:=Kd.R_slice X.out;(first|subst al|(injection al with f1_ f2_ f3_;have f4_:=f1_.symm;have f5_:=f3_.symm;clear f1_ f2_ f3_;subst f4_;subst f5_));obtain⟨az,ba,am⟩:=Kd.R_slice U.out;(first|subst am|(injection am with f1_ f2_ f3_;have f4_:=f1_.symm;have f5_:=f3_.symm;clear f1_ f2_ f3_;subst f4_;subst f5_));obtain⟨bb,bc,ao⟩:=Kd.R_slice J.out;(first|subst ao|(injection ao with f1_ f2_ f3_;have f4_:=f1_.symm;have f5_:=f3_.symm;clear f1_ f2_ f3_;subst f4_;subst f5_));refine hK.out _ _ trivial (fun hHeld=>?_);clear hK K;refine nq_ (N:=(some 3)) ?_
     exact nm_ (hJ0_1_2 (.slice bb ac.length bc,.slice az ae.length ba,.slice ax ag.length ay) _ ⟨(PR J),(PR U),(RX X.out (fun _ hk=>by first|exact⟨hk.1.2,hk.2⟩ | simp_all)),(PK D),PB⟩)
   rintro⟨Z,aa,ab⟩ aq ⟨h0_,h1_,h2_,h3_,h4_⟩;have J:Aside0 (Kd.R (Kd.int .i64) 3 aq w.heap.size (fun k_=>some k_≠(aa:Value).ownBlock∧some k_≠(ab:Value).ownBlock) Z ac):=⟨h0_⟩;have U:Aside0 (Kd.R (Kd.int .i64) 3 aq w.heap.size (fun k_=>some k_≠(Z:Value).ownBlock∧some k_≠(ab:Value).ownBlock) aa ae):=⟨h1_⟩;have X:Aside0 (Kd.R (Kd.int .i64) 3 aq w.heap.size (fun k_=>some k_≠(Z:Value).ownBlock∧some k_≠(aa:Value).ownBlock) ab ag):=⟨h2_⟩;replace D:Aside0 (aq.heap[Y]?=some (.cells #[.int .i64 0,.slice none 0 0,.slice none 0 0,.slice none 0 0] 35 (0,0))):=⟨h3_⟩;replace HB:Aside0 (Below w.heap.size w aq):=⟨h4_⟩;clear h0_ h1_ h2_ h3_ h4_;have hHeld:=trivial;obtain⟨bk,bl,bm⟩:=Kd.R_slice X.out;(first|subst bm|(injection bm with f1_ f2_ f3_;have f4_:=f1_.symm;have f5_:=f3_.symm;clear f1_ f2_ f3_;subst f4_;subst f5_));obtain⟨bo,bp,br⟩:=Kd.R_slice U.out;(first|subst br|(injection br with f1_ f2_ f3_;have f4_:=f1_.symm;have f5_:=f3_.symm;clear f1_ f2_ f3_;subst f4_;subst f5_));obtain⟨bu,bv,bw⟩:=Kd.R_slice J.out;(first|subst bw|(injection bw with f1_ f2_ f3_;have f4_:=f1_.symm;have f5_:=f3_.symm;clear f1_ f2_ f3_;subst f4_;subst f5_));refine norm_ (a':=?_) ?_ ?_;rotate_left
   ·simp only[putAll,Act.put,List.setIfInBounds_toArray,List.set_cons_zero,List.set_cons_succ]
    rfl
   refine pq_ (i:=3) (N:=some 4) #[true,true,true,true,false] rfl rfl KR ?_
   refine one_ (i:=4) (N:=none) #[true,true,true,true,true] rfl rfl KR (by decide) (fun K hK=>?_);have hs18:aq.cell? ⟨Y,0,none⟩=some (.int .i64 0):=bq D 0;have hfs18:=blk_frozen D.out 0;have hs19:aq.cell? ⟨Y,1,none⟩=some (.slice none 0 0):=bq D 1;have hfs19:=blk_frozen D.out 1;have hs20:aq.cell? ⟨Y,2,none⟩=some (.slice none 0 0):=bq D 2;have hfs20:=blk_frozen D.out 2;have hs21:aq.cell? ⟨Y,3,none⟩=some (.slice none 0 0):=bq D 3;have hfs21:=blk_frozen D.out 3;refine skip_ (w1:=?_) (by rfl) rfl ?_ ?_;rotate_left
   ·go_simp
    rfl
   refine hK.out _ _ trivial (fun hHeld=>?_);clear hK K;refine done_ KR ?_
   try go_wp2
   refine bodyPost_ret (results_cell_row rfl _ _ Y 35 #[.int .i64 0,.slice bu ac.length bv,.slice bo ae.length bp,.slice bk ag.length bl] (0,0) _ rfl (PX D) Tryz.underlying35 rfl KR) rfl ?_;exact⟨.slice bu ac.length bv,.slice bo ae.length bp,.slice bk ag.length bl,RT,Rv (Re1 J D),Rv (Re1 U D),Rv (Re1 X D),PB⟩
  ·rw[if_neg c2] at H;exact absurd H (by simp)
 ·rw[if_neg c1] at H;exact absurd H (by simp)
def impl_IsState.f (k:Nat)(X:Int)(D:List Int)(J:List Int)(U:List Int):Option (Bool):=(impl_InRange.f X 0 19).bind fun Y=>(if Y=true then(if (D.length:Int)=4 then(if (J.length:Int)=3 then(if (U.length:Int)=4 then((impl_allIn.f k D 0 999).bind fun Z=>(if Z=true then((impl_allIn.f k J 0 999).bind fun aa=>(if aa=true then((impl_allIn.f k U 0 999).bind fun ab=>(some ab)) else(some false))) else(some false))) else(some false)) else(some false)) else(some false)) else(some false))
theorem impl_IsState.calls (k:Nat)(X:Int)(Y:Option Addr)(Z:Nat)(D:List Int)(aa:Option Addr)(ab:Nat)(J:List Int)(ac:Option Addr)(ae:Nat)(U:List Int)(r:Bool)(w:World)(al:Kd.C (Kd.int .i64) w Y D.length D)(am:D.length≤Z)(ao:Kd.C (Kd.int .i64) w aa J.length J)(ap:J.length≤ab)(aq:Kd.C (Kd.int .i64) w ac U.length U)(ar:U.length≤ae)(h:impl_IsState.f k X D J U=some r) :
  Calls Tryz.prog 80 #[.agg #[.int .i64 X,.slice Y D.length Z,.slice aa J.length ab,.slice ac U.length ae]] w fun e w'=>e = .returned (.bool r)∧Below w.heap.size w w':=by
 have b6:=Tryz.underlying35;have au:=ak al;have av:=ak am;clear al am;have aw:=ak ao;have ax:=ak ap;clear ao ap;have ba:=ak aq;have bb:=ak ar;clear aq ar;have HB:=ak (Below.refl w.heap.size w);have H:=h;clear h;unfold impl_IsState.f at H;obtain⟨bk,A2,H⟩:=obq H;(try dsimp only at H)
 by_cases c3:bk=true
 ·subst c3;rw[if_pos rfl] at H;go_enter Tryz.func80,Tryz.ntmps80
  try go_wp2_with (first|((with_reducible refine gate_dst (N:=1) rfl ?_);(try(refine gate_guard (by rfl) ?_;dsimp only));refine bx_ (N:=1) #[.int .i64 X,.slice Y D.length Z,.slice aa J.length ab,.slice ac U.length ae] 35 ?_;intro bd hg b7 hbox hb;have ag:=ak hbox;have bf:=gy hg HB;replace HB:=bs HB hb;clear hb hbox hg;obtain⟨_,_,_,_,_,_,_,_⟩:=bc4 ag)|((with_reducible refine gate_callee (f:=23) rfl ?_);refine hold_ ?_))
  (refine unhold_ ?_;refine goesL_ (some 5) rfl rfl Tryz.func23 KR rfl #[.int .i64 X,.int .i64 0,.int .i64 19] rfl AR ?_;(with_reducible refine(impl_InRange.calls X 0 19 true _ A2.out).mono ?_);rintro e w' ⟨rfl,⟨nd,rfl⟩⟩;refine⟨_,rfl,?_⟩)
  by_cases c4:(D.length:Int)=4
  ·rw[if_pos c4] at H;obtain⟨bl,bm⟩:=eqq1 c4;clear c4
   by_cases c5:(J.length:Int)=3
   ·rw[if_pos c5] at H;obtain⟨bo,bp⟩:=eqq1 c5;clear c5
    by_cases c6:(U.length:Int)=4
    ·rw[if_pos c6] at H;obtain⟨br,bu⟩:=eqq1 c6;clear c6;obtain⟨bv,A7,H⟩:=obq H;(try dsimp only at H)
     by_cases c8:bv=true
     ·subst c8;rw[if_pos rfl] at H;obtain⟨bw,A9,H⟩:=obq H;(try dsimp only at H)
      try go_wp2_with (first|(go_at_call 24;refine hold_ ?_))
      (refine unhold_ ?_;(with_reducible refine(impl_allIn.calls k _ _ D 0 999 true _ ?side1 av.out A7.out).mono ?_);(case side1=>exact Kd.C_below au.out PB);rintro e w' ⟨rfl,⟨nd,rfl⟩⟩)
      by_cases ay:bw=true
      ·subst ay;rw[if_pos rfl] at H;obtain⟨bx,b5,H⟩:=obq H;(try dsimp only at H);obtain rfl:=Option.some.inj H;go_wp2_with (first|(go_at_call 24;(with_reducible refine(impl_allIn.calls k _ _ J 0 999 true _ ?side1 ax.out A9.out).mono ?_);(case side1=>exact Kd.C_below aw.out PB);rintro e w' ⟨rfl,⟨nd,rfl⟩⟩)|(go_at_call 24;(with_reducible refine(impl_allIn.calls k _ _ U 0 999 bx _ ?side1 bb.out b5.out).mono ?_);(case side1=>exact Kd.C_below ba.out PB);rintro e w' ⟨rfl,⟨nd,rfl⟩⟩))
       go_ret
       exact⟨RT,PB⟩
      ·replace ay:=Bool.eq_false_iff.mpr ay;subst ay;rw[if_neg nft] at H;obtain rfl:=Option.some.inj H;go_wp2_with (first|(go_at_call 24;(with_reducible refine(impl_allIn.calls k _ _ J 0 999 false _ ?side1 ax.out A9.out).mono ?_);(case side1=>exact Kd.C_below aw.out PB);rintro e w' ⟨rfl,⟨nd,rfl⟩⟩))
       go_ret
       exact⟨RT,PB⟩
     ·replace c8:=Bool.eq_false_iff.mpr c8;subst c8;rw[if_neg nft] at H;obtain rfl:=Option.some.inj H;go_wp2_with (first|(go_at_call 24;(with_reducible refine(impl_allIn.calls k _ _ D 0 999 false _ ?side1 av.out A7.out).mono ?_);(case side1=>exact Kd.C_below au.out PB);rintro e w' ⟨rfl,⟨nd,rfl⟩⟩))
      go_ret
      exact⟨RT,PB⟩
    ·rw[if_neg c6] at H;obtain⟨br,bu⟩:=eqq2 c6;obtain rfl:=Option.some.inj H
     try go_wp2
     go_ret
     exact⟨RT,PB⟩
   ·rw[if_neg c5] at H;obtain⟨bo,bp⟩:=eqq2 c5;obtain rfl:=Option.some.inj H
    try go_wp2
    go_ret
    exact⟨RT,PB⟩
  ·rw[if_neg c4] at H;obtain⟨bl,bm⟩:=eqq2 c4;obtain rfl:=Option.some.inj H
   try go_wp2
   go_ret
   exact⟨RT,PB⟩
 ·replace c3:=Bool.eq_false_iff.mpr c3;subst c3;rw[if_neg nft] at H;obtain rfl:=Option.some.inj H;go_enter Tryz.func80,Tryz.ntmps80;go_wp2_with (first|((with_reducible refine gate_dst (N:=1) rfl ?_);(try(refine gate_guard (by rfl) ?_;dsimp only));refine bx_ (N:=1) #[.int .i64 X,.slice Y D.length Z,.slice aa J.length ab,.slice ac U.length ae] 35 ?_;intro bd hg b8 hbox hb;have ag:=ak hbox;have bf:=gy hg HB;replace HB:=bs HB hb;clear hb hbox hg;obtain⟨_,_,_,_,_,_,_,_⟩:=bc4 ag)|(go_at_call 23;(with_reducible refine(impl_InRange.calls X 0 19 false _ A2.out).mono ?_);rintro e w' ⟨rfl,⟨nd,rfl⟩⟩))
  go_ret
  exact⟨RT,PB⟩
def impl_canStep.f (k:Nat)(l0:List (S57))(D:Int)(J:List Int)(U:List Int)(X:List Int):Option (Bool):=(impl_IsScript.f k l0).bind fun Y=>(if Y=true then((impl_IsState.f k D J U X).bind fun Z=>(if Z=true then(some (decide (D < (l0.length:Int)))) else(some false))) else(some false))
theorem impl_canStep.calls (k:Nat)(A0:Option Addr)(c0:Nat)(Z:List (S57))(Y:Int)(aa:Option Addr)(ab:Nat)(D:List Int)(ac:Option Addr)(ae:Nat)(J:List Int)(ag:Option Addr)(ah:Nat)(U:List Int)(r:Bool)(w:World)(bf:Kd.C k57 w A0 Z.length Z)(bg:Z.length≤c0)(ai:Kd.C (Kd.int .i64) w aa D.length D)(aj:D.length≤ab)(al:Kd.C (Kd.int .i64) w ac J.length J)(am:J.length≤ae)(ao:Kd.C (Kd.int .i64) w ag U.length U)(ap:U.length≤ah)(h:impl_canStep.f k Z Y D J U=some r) :
  Calls Tryz.prog 61 #[.slice A0 Z.length c0,.agg #[.int .i64 Y,.slice aa D.length ab,.slice ac J.length ae,.slice ag U.length ah]] w fun e w'=>e = .returned (.bool r)∧Below w.heap.size w w':=by
 have br:=Tryz.underlying35;have bh:=ak bf;have bi:=ak bg;clear bf bg;have aq:=ak ai;have ar:=ak aj;clear ai aj;have au:=ak al;have av:=ak am;clear al am;have aw:=ak ao;have ax:=ak ap;clear ao ap;have HB:=ak (Below.refl w.heap.size w);have H:=h;clear h;unfold impl_canStep.f at H;obtain⟨bl,A3,H⟩:=obq H;(try dsimp only at H)
 by_cases c4:bl=true
 ·subst c4;rw[if_pos rfl] at H;obtain⟨bm,A5,H⟩:=obq H;(try dsimp only at H);go_enter Tryz.func61,Tryz.ntmps61
  try go_wp2_with (first|((with_reducible refine gate_dst (N:=3) rfl ?_);(try(refine gate_guard (by rfl) ?_;dsimp only));refine bx_ (N:=3) #[.int .i64 Y,.slice aa D.length ab,.slice ac J.length ae,.slice ag U.length ah] 35 ?_;intro bb hg w7 hbox hb;have X:=ak hbox;have bc:=gy hg HB;replace HB:=bs HB hb;clear hb hbox hg)|((with_reducible refine gate_callee (f:=6) rfl ?_);refine hold_ ?_))
  (refine unhold_ ?_;refine goesL_ (some 6) rfl rfl Tryz.func6 KR rfl #[.slice A0 Z.length c0] rfl AR ?_;(with_reducible refine(impl_IsScript.calls k _ _ Z true _ ?side1 bi.out A3.out).mono ?_);(case side1=>exact Cq bh);rintro e w8 ⟨rfl,hb⟩;refine⟨_,rfl,?_⟩;replace X:=kf X hb;replace HB:=bs HB hb;clear hb;obtain⟨_,_,_,_,_,_,_,_⟩:=bc4 X)
  by_cases c6:bm=true
  ·subst c6;rw[if_pos rfl] at H;obtain rfl:=Option.some.inj H;go_wp2_with (first|(go_at_call 80;(with_reducible refine(impl_IsState.calls k Y _ _ D _ _ J _ _ U true _ ?side1 ar.out ?side3 av.out ?side5 ax.out A5.out).mono ?_);(case side1=>exact Cq aq);(case side3=>exact Cq au);(case side5=>exact Cq aw);rintro e bu ⟨rfl,hb⟩;replace X:=kf X hb;replace HB:=bs HB hb;clear hb;obtain⟨_,_,_,_,_,_,_,_⟩:=bc4 X))
   go_ret
   exact⟨RT,PB⟩
  ·replace c6:=Bool.eq_false_iff.mpr c6;subst c6;rw[if_neg nft] at H;obtain rfl:=Option.some.inj H;go_wp2_with (first|(go_at_call 80;(with_reducible refine(impl_IsState.calls k Y _ _ D _ _ J _ _ U false _ ?side1 ar.out ?side3 av.out ?side5 ax.out A5.out).mono ?_);(case side1=>exact Cq aq);(case side3=>exact Cq au);(case side5=>exact Cq aw);rintro e bv ⟨rfl,hb⟩;replace HB:=bs HB hb;clear hb))
   go_ret
   exact⟨RT,PB⟩
 ·replace c4:=Bool.eq_false_iff.mpr c4;subst c4;rw[if_neg nft] at H;obtain rfl:=Option.some.inj H;go_enter Tryz.func61,Tryz.ntmps61;go_wp2_with (first|((with_reducible refine gate_dst (N:=3) rfl ?_);(try(refine gate_guard (by rfl) ?_;dsimp only));refine bx_ (N:=3) #[.int .i64 Y,.slice aa D.length ab,.slice ac J.length ae,.slice ag U.length ah] 35 ?_;intro bb hg bw hbox hb;have bc:=gy hg HB;replace HB:=bs HB hb;clear hb hbox hg)|(go_at_call 6;(with_reducible refine(impl_IsScript.calls k _ _ Z false _ ?side1 bi.out A3.out).mono ?_);(case side1=>exact Cq bh);rintro e bx ⟨rfl,hb⟩;replace HB:=bs HB hb;clear hb))
  go_ret
  exact⟨RT,PB⟩
def impl_Asks.f (J:Int):Option (Bool):=(impl_InRange.f J 1 4).bind fun D=>(some D)
theorem impl_Asks.calls (D:Int)(r:Bool)(w:World)(h:impl_Asks.f D=some r) :
  Calls Tryz.prog 62 #[.int .i64 D] w fun e w'=>e = .returned (.bool r)∧Drawn0 w w':=by
 have H:=h;clear h;unfold impl_Asks.f at H;obtain⟨U,X,H⟩:=obq H;(try dsimp only at H);obtain rfl:=Option.some.inj H;go_enter Tryz.func62,Tryz.ntmps62;go_wp2_with (first|(go_at_call 23;(with_reducible refine(impl_InRange.calls D 1 4 U _ X.out).mono ?_);rintro e w' ⟨rfl,⟨nd,rfl⟩⟩))
 go_ret
 exact⟨FR,by repeat(first|exact Drawn0.refl _ | apply Drawn0.step)⟩

end Go.Proofs.YteemhimikamihaaGreat.MFnReplays
