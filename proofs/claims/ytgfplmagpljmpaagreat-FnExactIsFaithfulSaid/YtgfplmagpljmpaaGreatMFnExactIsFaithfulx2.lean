import Derived.Test.YtgfplmagpljmpaaGreatShr2
import Derived.Test.YtgfplmagpljmpaaGreatMFnExactIsFaithfulx0
import Derived.Test.YtgfplmagpljmpaaGreatMFnExactIsFaithfulx1
namespace Go.Proofs.YtgfplmagpljmpaaGreat.MFnExactIsFaithful
open Go.RowKit Go.Proofs.YtgfplmagpljmpaaGreatW.PrintWords Go.Proofs.YtgfplmagpljmpaaGreatW.PrintLast Go.Proofs.YtgfplmagpljmpaaGreatW.PrintMore
attribute [local go_sem] max2_int min2_int max_two min_two max_three min_three max_four min_four
set_option linter.unusedVariables false
set_option maxHeartbeats 8000000
set_option maxRecDepth 100000
set_option linter.unusedSimpArgs false

def spec_IsSite.l0:Nat→List (S80)→Int→Option (Bool)
  | 0,_,_=>none
  | k+1,D,J=>if J < (D.length:Int) then(if 0≤J then((spec_IsAddress.f ((rd_T80 D J).f0.f0) ((rd_T80 D J).f0.f1) ((rd_T80 D J).f0.f2)).bind fun U=>(if U=true then((spec_l1In.f ((rd_T80 D J).f1) 0 1000).bind fun X=>(if X=true then((spec_IsResource.f k ((rd_T80 D J).f2.f0) ((rd_T80 D J).f2.f1) ((rd_T80 D J).f2.f2.f0) ((rd_T80 D J).f2.f2.f1) ((rd_T80 D J).f2.f2.f2)).bind fun Y=>(if Y=true then(spec_IsSite.l0 k D (wrap64 (J+1))) else(some false))) else(some false))) else(some false))) else(none)) else(some (decide ((D.length:Int)≤12)))
def spec_IsSite.f (k:Nat)(D:List (S80)):Option (Bool):=spec_IsSite.l0 k D 0
theorem spec_IsSite.calls (k:Nat)(A0:Option Addr)(c0:Nat)(J:List (S80))(r:Bool)(w:World)(cn:Kd.C k80 w A0 J.length J)(co:J.length≤c0)(h:spec_IsSite.f k J=some r) :
  Calls Tryz.prog 68 #[.slice A0 J.length c0] w fun e w'=>e = .returned (.bool r)∧Below w.heap.size w w':=by
 have dc:=Tryz.underlying76;have de:=Tryz.underlying78;have bv:=ak cn;have dh:=ak co;clear cn co;have HB:=ak (Below.refl w.heap.size w);have H:=h;clear h;unfold spec_IsSite.f at H;have H':=ak H;clear H;go_enter Tryz.func68,Tryz.ntmps68;go_wp2
 go_loopg [3] k (fun kq v3 w'=>∃(D:Int),v3 = .int .i64 D∧Aside0 (spec_IsSite.l0 kq J D=some r)∧Aside0 (kq≤k)∧Aside0 (Below w.heap.size w w'))
 case atStart=>exact⟨(0),FR,H',⟨Nat.le_refl _⟩,⟨PB⟩⟩
 case round =>
  clear H';obtain⟨D,rfl,HA,cp,HB⟩:=hrel
  cases gk with
  | zero=>exact absurd HA.out (by simp[spec_IsSite.l0])
  | succ k1 =>
   have H:=HA.out;clear HA;simp only[spec_IsSite.l0] at H
   by_cases c2:D < (J.length:Int)
   ·rw[if_pos c2] at H;have cu:decide (D < (J.length:Int))=true:=decide_eq_true c2;clear c2
    by_cases c3:0≤D
    ·rw[if_pos c3] at H;have dg:decide (0≤D)=true:=decide_eq_true c3;clear c3;replace H:=Option.bind_eq_some_iff.mp H;obtain⟨cv,cq,H⟩:=H;(try dsimp only at H);have A4:=ak cq;clear cq
     by_cases c5:cv=true
     ·subst c5;rw[if_pos rfl] at H;replace H:=Option.bind_eq_some_iff.mp H;obtain⟨cw,cr,H⟩:=H;(try dsimp only at H);have A6:=ak cr;clear cr
      by_cases c7:cw=true
      ·subst c7;rw[if_pos rfl] at H;replace H:=Option.bind_eq_some_iff.mp H;obtain⟨cy,ct,H⟩:=H;(try dsimp only at H);have A8:=ak ct;clear ct
       by_cases c9:cy=true
       ·subst c9;rw[if_pos rfl] at H;have H':=ak H;clear H;have aj:0≤(D:Int):=od;have al:D < (J.length:Int):=od;obtain⟨bc,b5,b6,bp,U,X,Y,Z,aa,ab,ac,ae,af,ag,ah⟩:=at_T80 bv.out D aj al;cases bp;replace U:=hx_ HB U;replace X:=hx_ HB X;replace Y:=hx_ HB Y;replace Z:=hx_ HB Z;replace aa:=hx_ HB aa;replace ab:=hx_ HB ab;replace ac:=hx_ HB ac;replace ae:=hx_ HB ae;replace af:=hx_ HB af;have bx:=ak ah;have bz:=ak ag;clear ah ag;replace aj:=eq_true aj;replace al:=eq_true al;go_wp2_with (first|(go_at_call 79;(with_reducible refine(spec_IsAddress.calls ((rd_T80 J D).f0.f0) ((rd_T80 J D).f0.f1) ((rd_T80 J D).f0.f2) true _ A4.out).mono ?_);rintro e di ⟨rfl,hb⟩;replace HB:=bs HB hb;clear hb;have ba:0≤(D:Int):=od;have bb:D < (J.length:Int):=od;obtain⟨bw,cb,cd,b7,am,ao,ap,aq,ar,ai,au,av,aw,ax,ay⟩:=at_T80 bv.out D ba bb;obtain rfl:bc=bw:=(by injection b7);replace am:=hx_ HB am;replace ao:=hx_ HB ao;replace ap:=hx_ HB ap;replace aq:=hx_ HB aq;replace ar:=hx_ HB ar;replace ai:=hx_ HB ai;replace au:=hx_ HB au;replace av:=hx_ HB av;replace aw:=hx_ HB aw;have b8:=ak ay;have b9:=ak ax;clear ay ax;replace ba:=eq_true ba;replace bb:=eq_true bb)|(go_at_call 69;(with_reducible refine(spec_l1In.calls ((rd_T80 J D).f1) 0 1000 true _ A6.out).mono ?_);rintro e w' ⟨rfl,⟨nd,rfl⟩⟩;have br:0≤(D:Int):=od;have bu:D < (J.length:Int):=od;obtain⟨ca,cg,ch,ce,bd,bf,bg,bh,bi,az,bj,bk,bl,bm,bo⟩:=at_T80 bv.out D br bu;obtain rfl:bc=ca:=(by injection ce);replace bd:=hx_ HB bd;replace bf:=hx_ HB bf;replace bg:=hx_ HB bg;replace bh:=hx_ HB bh;replace bi:=hx_ HB bi;replace az:=hx_ HB az;replace bj:=hx_ HB bj;replace bk:=hx_ HB bk;replace bl:=hx_ HB bl;have b0:=ak bo;have b4:=ak bm;clear bo bm;replace br:=eq_true br;replace bu:=eq_true bu;have ea_:=Option.some.inj (ai.symm.trans az);injection ea_ with ea_ en_ ec_;subst ea_;subst ec_;clear en_)|(go_at_call 95;(with_reducible refine(spec_IsResource.calls k1 ((rd_T80 J D).f2.f0) _ _ ((rd_T80 J D).f2.f1) ((rd_T80 J D).f2.f2.f0) ((rd_T80 J D).f2.f2.f1) ((rd_T80 J D).f2.f2.f2) true _ ?side1 b4.out A8.out).mono ?_);(case side1=>exact Kd.C_below b0.out PB);rintro e dj ⟨rfl,hb⟩;replace HB:=bs HB hb;clear hb))
        go_roundg k1
        case measure=>have:=cp.out;omega
        case rel=>exact⟨(wrap64 (D+1)),FR,H',⟨by have:=cp.out;omega⟩,⟨PB⟩⟩
       ·replace c9:=Bool.eq_false_iff.mpr c9;subst c9;rw[if_neg (show ¬(false=true) by decide)] at H;obtain rfl:=Option.some.inj H;have aj:0≤(D:Int):=od;have al:D < (J.length:Int):=od;obtain⟨bc,b5,b6,bp,U,X,Y,Z,aa,ab,ac,ae,af,ag,ah⟩:=at_T80 bv.out D aj al;cases bp;replace U:=hx_ HB U;replace X:=hx_ HB X;replace Y:=hx_ HB Y;replace Z:=hx_ HB Z;replace aa:=hx_ HB aa;replace ab:=hx_ HB ab;replace ac:=hx_ HB ac;replace ae:=hx_ HB ae;replace af:=hx_ HB af;have bx:=ak ah;have bz:=ak ag;clear ah ag;replace aj:=eq_true aj;replace al:=eq_true al;go_wp2_with (first|(go_at_call 79;(with_reducible refine(spec_IsAddress.calls ((rd_T80 J D).f0.f0) ((rd_T80 J D).f0.f1) ((rd_T80 J D).f0.f2) true _ A4.out).mono ?_);rintro e dk ⟨rfl,hb⟩;replace HB:=bs HB hb;clear hb;have ba:0≤(D:Int):=od;have bb:D < (J.length:Int):=od;obtain⟨bw,cb,cd,b7,am,ao,ap,aq,ar,ai,au,av,aw,ax,ay⟩:=at_T80 bv.out D ba bb;obtain rfl:bc=bw:=(by injection b7);replace am:=hx_ HB am;replace ao:=hx_ HB ao;replace ap:=hx_ HB ap;replace aq:=hx_ HB aq;replace ar:=hx_ HB ar;replace ai:=hx_ HB ai;replace au:=hx_ HB au;replace av:=hx_ HB av;replace aw:=hx_ HB aw;have b8:=ak ay;have b9:=ak ax;clear ay ax;replace ba:=eq_true ba;replace bb:=eq_true bb)|(go_at_call 69;(with_reducible refine(spec_l1In.calls ((rd_T80 J D).f1) 0 1000 true _ A6.out).mono ?_);rintro e w' ⟨rfl,⟨nd,rfl⟩⟩;have br:0≤(D:Int):=od;have bu:D < (J.length:Int):=od;obtain⟨ca,cg,ch,ce,bd,bf,bg,bh,bi,az,bj,bk,bl,bm,bo⟩:=at_T80 bv.out D br bu;obtain rfl:bc=ca:=(by injection ce);replace bd:=hx_ HB bd;replace bf:=hx_ HB bf;replace bg:=hx_ HB bg;replace bh:=hx_ HB bh;replace bi:=hx_ HB bi;replace az:=hx_ HB az;replace bj:=hx_ HB bj;replace bk:=hx_ HB bk;replace bl:=hx_ HB bl;have b0:=ak bo;have b4:=ak bm;clear bo bm;replace br:=eq_true br;replace bu:=eq_true bu;have ea_:=Option.some.inj (ai.symm.trans az);injection ea_ with ea_ en_ ec_;subst ea_;subst ec_;clear en_)|(go_at_call 95;(with_reducible refine(spec_IsResource.calls k1 ((rd_T80 J D).f2.f0) _ _ ((rd_T80 J D).f2.f1) ((rd_T80 J D).f2.f2.f0) ((rd_T80 J D).f2.f2.f1) ((rd_T80 J D).f2.f2.f2) false _ ?side1 b4.out A8.out).mono ?_);(case side1=>exact Kd.C_below b0.out PB);rintro e dl ⟨rfl,hb⟩;replace HB:=bs HB hb;clear hb))
        go_ret
        exact⟨RT,PB⟩
      ·replace c7:=Bool.eq_false_iff.mpr c7;subst c7;rw[if_neg (show ¬(false=true) by decide)] at H;obtain rfl:=Option.some.inj H;have aj:0≤(D:Int):=od;have al:D < (J.length:Int):=od;obtain⟨bc,b5,b6,bp,U,X,Y,Z,aa,ab,ac,ae,af,ag,ah⟩:=at_T80 bv.out D aj al;cases bp;replace U:=hx_ HB U;replace X:=hx_ HB X;replace Y:=hx_ HB Y;replace Z:=hx_ HB Z;replace aa:=hx_ HB aa;replace ab:=hx_ HB ab;replace ac:=hx_ HB ac;replace ae:=hx_ HB ae;replace af:=hx_ HB af;have bx:=ak ah;have bz:=ak ag;clear ah ag;replace aj:=eq_true aj;replace al:=eq_true al;go_wp2_with (first|(go_at_call 79;(with_reducible refine(spec_IsAddress.calls ((rd_T80 J D).f0.f0) ((rd_T80 J D).f0.f1) ((rd_T80 J D).f0.f2) true _ A4.out).mono ?_);rintro e dn ⟨rfl,hb⟩;replace HB:=bs HB hb;clear hb;have ba:0≤(D:Int):=od;have bb:D < (J.length:Int):=od;obtain⟨bw,cb,cd,b7,am,ao,ap,aq,ar,ai,au,av,aw,ax,ay⟩:=at_T80 bv.out D ba bb;obtain rfl:bc=bw:=(by injection b7);replace am:=hx_ HB am;replace ao:=hx_ HB ao;replace ap:=hx_ HB ap;replace aq:=hx_ HB aq;replace ar:=hx_ HB ar;replace ai:=hx_ HB ai;replace au:=hx_ HB au;replace av:=hx_ HB av;replace aw:=hx_ HB aw;have b8:=ak ay;have b9:=ak ax;clear ay ax;replace ba:=eq_true ba;replace bb:=eq_true bb)|(go_at_call 69;(with_reducible refine(spec_l1In.calls ((rd_T80 J D).f1) 0 1000 false _ A6.out).mono ?_);rintro e w' ⟨rfl,⟨nd,rfl⟩⟩))
       go_ret
       exact⟨RT,PB⟩
     ·replace c5:=Bool.eq_false_iff.mpr c5;subst c5;rw[if_neg (show ¬(false=true) by decide)] at H;obtain rfl:=Option.some.inj H;have aj:0≤(D:Int):=od;have al:D < (J.length:Int):=od;obtain⟨bc,b5,b6,bp,U,X,Y,Z,aa,ab,ac,ae,af,ag,ah⟩:=at_T80 bv.out D aj al;cases bp;replace U:=hx_ HB U;replace X:=hx_ HB X;replace Y:=hx_ HB Y;replace Z:=hx_ HB Z;replace aa:=hx_ HB aa;replace ab:=hx_ HB ab;replace ac:=hx_ HB ac;replace ae:=hx_ HB ae;replace af:=hx_ HB af;have bx:=ak ah;have bz:=ak ag;clear ah ag;replace aj:=eq_true aj;replace al:=eq_true al;go_wp2_with (first|(go_at_call 79;(with_reducible refine(spec_IsAddress.calls ((rd_T80 J D).f0.f0) ((rd_T80 J D).f0.f1) ((rd_T80 J D).f0.f2) false _ A4.out).mono ?_);rintro e dp ⟨rfl,hb⟩;replace HB:=bs HB hb;clear hb))
      go_ret
      exact⟨RT,PB⟩
    ·rw[if_neg c3] at H;exact absurd H (by simp)
   ·rw[if_neg c2] at H;have cu:decide (D < (J.length:Int))=false:=decide_eq_false c2;clear c2;obtain rfl:=Option.some.inj H;go_wp2
    go_ret
    exact⟨RT,PB⟩
def spec_l11All.l0:Nat→List Int→Int→Int→Option (Bool)
  | 0,_,_,_=>none
  | k+1,D,X,J=>if J < (D.length:Int) then(if 0≤J then((spec_l1In.f (rd D J) 0 999).bind fun U=>(if U=true then(spec_l11All.l0 k D X (wrap64 (J+1))) else(some false))) else(none)) else(some ((D.length:Int) == X))
def spec_l11All.f (k:Nat)(D:List Int)(J:Int):Option (Bool):=spec_l11All.l0 k D J 0
theorem spec_l11All.calls (k:Nat)(A0:Option Addr)(c0:Nat)(J:List Int)(a1:Int)(r:Bool)(w:World)(af:Kd.C (Kd.int .i64) w A0 J.length J)(ag:J.length≤c0)(h:spec_l11All.f k J a1=some r) :
  Calls Tryz.prog 70 #[.slice A0 J.length c0,.int .i64 a1] w fun e w'=>e = .returned (.bool r)∧Drawn0 w w':=by
 have ah:=ak af;have aw:=ak ag;clear af ag;have H:=h;clear h;unfold spec_l11All.f at H;have H':=ak H;clear H;go_enter Tryz.func70,Tryz.ntmps70;go_wp2
 go_loopg [5] k (fun kq v5 w'=>∃(D:Int),v5 = .int .i64 D∧Aside0 (spec_l11All.l0 kq J a1 D=some r)∧Aside0 (kq≤k)∧Drawn0 w w')
 case atStart=>exact⟨(0),FR,H',⟨Nat.le_refl _⟩,by repeat(first|exact Drawn0.refl _ | apply Drawn0.step)⟩
 case round =>
  clear H'
  try clear p2
  obtain⟨D,rfl,HA,ai,⟨m1,rfl⟩⟩:=hrel
  cases gk with
  | zero=>exact absurd HA.out (by simp[spec_l11All.l0])
  | succ k1 =>
   have H:=HA.out;clear HA;simp only[spec_l11All.l0] at H
   by_cases Z:D < (J.length:Int)
   ·rw[if_pos Z] at H;have am:decide (D < (J.length:Int))=true:=decide_eq_true Z;clear Z
    by_cases c4:0≤D
    ·rw[if_pos c4] at H;have av:decide (0≤D)=true:=decide_eq_true c4;clear c4;replace H:=Option.bind_eq_some_iff.mp H;obtain⟨ao,aj,H⟩:=H;(try dsimp only at H);have A5:=ak aj;clear aj
     by_cases c6:ao=true
     ·subst c6;rw[if_pos rfl] at H;have H':=ak H;clear H;have U:0≤(D:Int):=od;have X:D < (J.length:Int):=od;obtain⟨ae,Y,aa⟩:=Kd.at_int ah.out D U X;cases Y;replace U:=eq_true U;replace X:=eq_true X;go_wp2_with (first|(go_at_call 69;(with_reducible refine(spec_l1In.calls (rd J D) 0 999 true _ A5.out).mono ?_);rintro e w' ⟨rfl,⟨nd,rfl⟩⟩))
      go_roundg k1
      case measure=>have:=ai.out;omega
      case rel=>exact⟨(wrap64 (D+1)),FR,H',⟨by have:=ai.out;omega⟩,by repeat(first|exact Drawn0.refl _ | apply Drawn0.step)⟩
     ·replace c6:=Bool.eq_false_iff.mpr c6;subst c6;rw[if_neg (show ¬(false=true) by decide)] at H;obtain rfl:=Option.some.inj H;have U:0≤(D:Int):=od;have X:D < (J.length:Int):=od;obtain⟨ae,Y,aa⟩:=Kd.at_int ah.out D U X;cases Y;replace U:=eq_true U;replace X:=eq_true X;go_wp2_with (first|(go_at_call 69;(with_reducible refine(spec_l1In.calls (rd J D) 0 999 false _ A5.out).mono ?_);rintro e w' ⟨rfl,⟨nd,rfl⟩⟩))
      go_ret
      exact⟨FR,by repeat(first|exact Drawn0.refl _ | apply Drawn0.step)⟩
    ·rw[if_neg c4] at H;exact absurd H (by simp)
   ·rw[if_neg Z] at H;have am:decide (D < (J.length:Int))=false:=decide_eq_false Z;clear Z;obtain rfl:=Option.some.inj H;go_wp2
    go_ret
    exact⟨FR,by repeat(first|exact Drawn0.refl _ | apply Drawn0.step)⟩
def spec_IsVisit.f (k:Nat)(J:List (S80))(U:Int)(X:Int)(D:List Int):Option (Bool):=(spec_IsSite.f k J).bind fun Y=>(if Y=true then((spec_l1In.f U 0 1000).bind fun Z=>(if Z=true then((spec_l1In.f X 0 9999).bind fun aa=>(if aa=true then(if (D.length:Int)≤8 then((spec_l11All.f k D (D.length:Int)).bind fun ab=>(some ab)) else(some false)) else(some false))) else(some false))) else(some false))
theorem spec_IsVisit.calls (k:Nat)(X:Option Addr)(Y:Nat)(J:List (S80))(Z:Int)(aa:Int)(ab:Option Addr)(ac:Nat)(U:List Int)(r:Bool)(w:World)(ai:Kd.C k80 w X J.length J)(aj:J.length≤Y)(al:Kd.C (Kd.int .i64) w ab U.length U)(am:U.length≤ac)(h:spec_IsVisit.f k J Z aa U=some r) :
  Calls Tryz.prog 46 #[.agg #[.slice X J.length Y,.int .i64 Z,.int .i64 aa,.slice ab U.length ac]] w fun e w'=>e = .returned (.bool r)∧Below w.heap.size w w':=by
 have bw:=Tryz.underlying34;have ae:=ak ai;have af:=ak aj;clear ai aj;have aq:=ak al;have ar:=ak am;clear al am;have HB:=ak (Below.refl w.heap.size w);have H:=h;clear h;unfold spec_IsVisit.f at H;replace H:=Option.bind_eq_some_iff.mp H;obtain⟨bc,ay,H⟩:=H;(try dsimp only at H);have A2:=ak ay;clear ay
 by_cases c3:bc=true
 ·subst c3;rw[if_pos rfl] at H;replace H:=Option.bind_eq_some_iff.mp H;obtain⟨bd,az,H⟩:=H;(try dsimp only at H);have A4:=ak az;clear az
  by_cases c5:bd=true
  ·subst c5;rw[if_pos rfl] at H;replace H:=Option.bind_eq_some_iff.mp H;obtain⟨bf,ba,H⟩:=H;(try dsimp only at H);have A6:=ak ba;clear ba
   by_cases c7:bf=true
   ·subst c7;rw[if_pos rfl] at H
    by_cases c8:(U.length:Int)≤8
    ·rw[if_pos c8] at H;have bh:decide ((U.length:Int)≤8)=true:=decide_eq_true c8;have bi:decide (U.length≤8)=true:=decide_eq_true (by omega);clear c8;replace H:=Option.bind_eq_some_iff.mp H;obtain⟨bj,bb,H⟩:=H;(try dsimp only at H);have A9:=ak bb;clear bb;obtain rfl:=Option.some.inj H;go_enter Tryz.func46,Tryz.ntmps46;go_wp2_with (first|((with_reducible refine gate_dst (N:=1) rfl ?_);(try(refine gate_guard (by rfl) ?_;dsimp only));refine bx_ (N:=1) #[.slice X J.length Y,.int .i64 Z,.int .i64 aa,.slice ab U.length ac] 34 ?_;intro ag hg bz hbox hb;have D:=ak hbox;have ah:=gy hg HB;replace HB:=bs HB hb;clear hb hbox hg;obtain⟨bk,bl,bm,bo,bp,br,bu,bv⟩:=bc4 D)|(go_at_call 68;(with_reducible refine(spec_IsSite.calls k _ _ J true _ ?side1 af.out A2.out).mono ?_);(case side1=>exact Cq ae);rintro e b0 ⟨rfl,hb⟩;replace D:=kf D hb;replace HB:=bs HB hb;clear hb;obtain⟨_,_,_,_,_,_,_,_⟩:=bc4 D)|(go_at_call 69;(with_reducible refine(spec_l1In.calls Z 0 1000 true _ A4.out).mono ?_);rintro e w' ⟨rfl,⟨nd,rfl⟩⟩)|(go_at_call 69;(with_reducible refine(spec_l1In.calls aa 0 9999 true _ A6.out).mono ?_);rintro e w' ⟨rfl,⟨nd,rfl⟩⟩)|(go_at_call 70;(with_reducible refine(spec_l11All.calls k _ _ U (U.length:Int) bj _ ?side1 ar.out A9.out).mono ?_);(case side1=>exact Kd.C_below aq.out PB);rintro e w' ⟨rfl,⟨nd,rfl⟩⟩))
     go_ret
     exact⟨RT,PB⟩
    ·rw[if_neg c8] at H;have bh:decide ((U.length:Int)≤8)=false:=decide_eq_false c8;have bi:decide (U.length≤8)=false:=decide_eq_false (by omega);clear c8;obtain rfl:=Option.some.inj H;go_enter Tryz.func46,Tryz.ntmps46;go_wp2_with (first|((with_reducible refine gate_dst (N:=1) rfl ?_);(try(refine gate_guard (by rfl) ?_;dsimp only));refine bx_ (N:=1) #[.slice X J.length Y,.int .i64 Z,.int .i64 aa,.slice ab U.length ac] 34 ?_;intro ag hg b4 hbox hb;have D:=ak hbox;have ah:=gy hg HB;replace HB:=bs HB hb;clear hb hbox hg;obtain⟨_,_,_,_,_,_,_,_⟩:=bc4 D)|(go_at_call 68;(with_reducible refine(spec_IsSite.calls k _ _ J true _ ?side1 af.out A2.out).mono ?_);(case side1=>exact Cq ae);rintro e b5 ⟨rfl,hb⟩;replace D:=kf D hb;replace HB:=bs HB hb;clear hb;obtain⟨_,_,_,_,_,_,_,_⟩:=bc4 D)|(go_at_call 69;(with_reducible refine(spec_l1In.calls Z 0 1000 true _ A4.out).mono ?_);rintro e w' ⟨rfl,⟨nd,rfl⟩⟩)|(go_at_call 69;(with_reducible refine(spec_l1In.calls aa 0 9999 true _ A6.out).mono ?_);rintro e w' ⟨rfl,⟨nd,rfl⟩⟩))
     go_ret
     exact⟨RT,PB⟩
   ·replace c7:=Bool.eq_false_iff.mpr c7;subst c7;rw[if_neg (show ¬(false=true) by decide)] at H;obtain rfl:=Option.some.inj H;go_enter Tryz.func46,Tryz.ntmps46;go_wp2_with (first|((with_reducible refine gate_dst (N:=1) rfl ?_);(try(refine gate_guard (by rfl) ?_;dsimp only));refine bx_ (N:=1) #[.slice X J.length Y,.int .i64 Z,.int .i64 aa,.slice ab U.length ac] 34 ?_;intro ag hg b6 hbox hb;have D:=ak hbox;have ah:=gy hg HB;replace HB:=bs HB hb;clear hb hbox hg;obtain⟨_,_,_,_,_,_,_,_⟩:=bc4 D)|(go_at_call 68;(with_reducible refine(spec_IsSite.calls k _ _ J true _ ?side1 af.out A2.out).mono ?_);(case side1=>exact Cq ae);rintro e b7 ⟨rfl,hb⟩;replace D:=kf D hb;replace HB:=bs HB hb;clear hb;obtain⟨_,_,_,_,_,_,_,_⟩:=bc4 D)|(go_at_call 69;(with_reducible refine(spec_l1In.calls Z 0 1000 true _ A4.out).mono ?_);rintro e w' ⟨rfl,⟨nd,rfl⟩⟩)|(go_at_call 69;(with_reducible refine(spec_l1In.calls aa 0 9999 false _ A6.out).mono ?_);rintro e w' ⟨rfl,⟨nd,rfl⟩⟩))
    go_ret
    exact⟨RT,PB⟩
  ·replace c5:=Bool.eq_false_iff.mpr c5;subst c5;rw[if_neg (show ¬(false=true) by decide)] at H;obtain rfl:=Option.some.inj H;go_enter Tryz.func46,Tryz.ntmps46;go_wp2_with (first|((with_reducible refine gate_dst (N:=1) rfl ?_);(try(refine gate_guard (by rfl) ?_;dsimp only));refine bx_ (N:=1) #[.slice X J.length Y,.int .i64 Z,.int .i64 aa,.slice ab U.length ac] 34 ?_;intro ag hg b8 hbox hb;have D:=ak hbox;have ah:=gy hg HB;replace HB:=bs HB hb;clear hb hbox hg;obtain⟨_,_,_,_,_,_,_,_⟩:=bc4 D)|(go_at_call 68;(with_reducible refine(spec_IsSite.calls k _ _ J true _ ?side1 af.out A2.out).mono ?_);(case side1=>exact Cq ae);rintro e b9 ⟨rfl,hb⟩;replace D:=kf D hb;replace HB:=bs HB hb;clear hb;obtain⟨_,_,_,_,_,_,_,_⟩:=bc4 D)|(go_at_call 69;(with_reducible refine(spec_l1In.calls Z 0 1000 false _ A4.out).mono ?_);rintro e w' ⟨rfl,⟨nd,rfl⟩⟩))
   go_ret
   exact⟨RT,PB⟩
 ·replace c3:=Bool.eq_false_iff.mpr c3;subst c3;rw[if_neg (show ¬(false=true) by decide)] at H;obtain rfl:=Option.some.inj H;go_enter Tryz.func46,Tryz.ntmps46;go_wp2_with (first|((with_reducible refine gate_dst (N:=1) rfl ?_);(try(refine gate_guard (by rfl) ?_;dsimp only));refine bx_ (N:=1) #[.slice X J.length Y,.int .i64 Z,.int .i64 aa,.slice ab U.length ac] 34 ?_;intro ag hg ca hbox hb;have D:=ak hbox;have ah:=gy hg HB;replace HB:=bs HB hb;clear hb hbox hg;obtain⟨_,_,_,_,_,_,_,_⟩:=bc4 D)|(go_at_call 68;(with_reducible refine(spec_IsSite.calls k _ _ J false _ ?side1 af.out A2.out).mono ?_);(case side1=>exact Cq ae);rintro e cb ⟨rfl,hb⟩;replace D:=kf D hb;replace HB:=bs HB hb;clear hb))
  go_ret
  exact⟨RT,PB⟩
def spec_IsDone.f (J:List (S54))(D:Int)(U:List Int)(X:List Int)(Y:List Int):Option (Bool):=some (decide (D≥(J.length:Int)))
theorem spec_IsDone.calls (A0:Option Addr)(c0:Nat)(l0:List (S54))(X:Int)(Y:Option Addr)(Z:Nat)(D:List Int)(aa:Option Addr)(ab:Nat)(J:List Int)(ac:Option Addr)(ae:Nat)(U:List Int)(r:Bool)(w:World)(ap:Kd.C k54 w A0 l0.length l0)(aq:l0.length≤c0)(af:Kd.C (Kd.int .i64) w Y D.length D)(ag:D.length≤Z)(ah:Kd.C (Kd.int .i64) w aa J.length J)(ai:J.length≤ab)(aj:Kd.C (Kd.int .i64) w ac U.length U)(al:U.length≤ae)(h:spec_IsDone.f l0 X D J U=some r) :
  Calls Tryz.prog 47 #[.slice A0 l0.length c0,.agg #[.int .i64 X,.slice Y D.length Z,.slice aa J.length ab,.slice ac U.length ae]] w fun e w'=>e = .returned (.bool r)∧Below w.heap.size w w':=by
 have bd:=Tryz.underlying43;have bf:=ak ap;have bg:=ak aq;clear ap aq;have av:=ak af;have aw:=ak ag;clear af ag;have ax:=ak ah;have ay:=ak ai;clear ah ai;have az:=ak aj;have ba:=ak al;clear aj al;have HB:=ak (Below.refl w.heap.size w);have H:=h;clear h;unfold spec_IsDone.f at H;obtain rfl:=Option.some.inj H;go_enter Tryz.func47,Tryz.ntmps47;go_wp2_with (first|((with_reducible refine gate_dst (N:=3) rfl ?_);refine bx_ (N:=3) #[.int .i64 X,.slice Y D.length Z,.slice aa J.length ab,.slice ac U.length ae] 43 ?_;intro bb hg w3 hbox hb;have ao:=ak hbox;have bc:=gy hg HB;replace HB:=bs HB hb;clear hb hbox hg;obtain⟨_,_,_,_,_,_,_,_⟩:=bc4 ao))
 go_ret
 exact⟨RT,PB⟩
def spec_IsState.f (k:Nat)(D:Int)(J:List Int)(U:List Int)(X:List Int):Option (Bool):=(spec_l1In.f D 0 19).bind fun Y=>(if Y=true then((spec_l11All.f k J 4).bind fun Z=>(if Z=true then((spec_l11All.f k U 3).bind fun aa=>(if aa=true then((spec_l11All.f k X 4).bind fun ab=>(some ab)) else(some false))) else(some false))) else(some false))
theorem spec_IsState.calls (k:Nat)(D:Int)(Z:Option Addr)(aa:Nat)(J:List Int)(ab:Option Addr)(ac:Nat)(U:List Int)(ae:Option Addr)(af:Nat)(X:List Int)(r:Bool)(w:World)(al:Kd.C (Kd.int .i64) w Z J.length J)(am:J.length≤aa)(ao:Kd.C (Kd.int .i64) w ab U.length U)(ap:U.length≤ac)(aq:Kd.C (Kd.int .i64) w ae X.length X)(ar:X.length≤af)(h:spec_IsState.f k D J U X=some r) :
  Calls Tryz.prog 96 #[.agg #[.int .i64 D,.slice Z J.length aa,.slice ab U.length ac,.slice ae X.length af]] w fun e w'=>e = .returned (.bool r)∧Below w.heap.size w w':=by
 have b0:=Tryz.underlying43;have ag:=ak al;have ah:=ak am;clear al am;have au:=ak ao;have av:=ak ap;clear ao ap;have aw:=ak aq;have ax:=ak ar;clear aq ar;have HB:=ak (Below.refl w.heap.size w);have H:=h;clear h;unfold spec_IsState.f at H;replace H:=Option.bind_eq_some_iff.mp H;obtain⟨bh,bc,H⟩:=H;(try dsimp only at H);have A2:=ak bc;clear bc
 by_cases c3:bh=true
 ·subst c3;rw[if_pos rfl] at H;replace H:=Option.bind_eq_some_iff.mp H;obtain⟨bi,bd,H⟩:=H;(try dsimp only at H);have A4:=ak bd;clear bd
  by_cases c5:bi=true
  ·subst c5;rw[if_pos rfl] at H;replace H:=Option.bind_eq_some_iff.mp H;obtain⟨bk,bf,H⟩:=H;(try dsimp only at H);have A6:=ak bf;clear bf
   by_cases c7:bk=true
   ·subst c7;rw[if_pos rfl] at H;replace H:=Option.bind_eq_some_iff.mp H;obtain⟨bl,bg,H⟩:=H;(try dsimp only at H);have A8:=ak bg;clear bg;obtain rfl:=Option.some.inj H;go_enter Tryz.func96,Tryz.ntmps96;go_wp2_with (first|((with_reducible refine gate_dst (N:=1) rfl ?_);refine bx_ (N:=1) #[.int .i64 D,.slice Z J.length aa,.slice ab U.length ac,.slice ae X.length af] 43 ?_;intro ai hg w9 hbox hb;have Y:=ak hbox;have aj:=gy hg HB;replace HB:=bs HB hb;clear hb hbox hg;obtain⟨_,_,_,_,_,_,_,_⟩:=bc4 Y)|(go_at_call 69;(with_reducible refine(spec_l1In.calls D 0 19 true _ A2.out).mono ?_);rintro e w' ⟨rfl,⟨nd,rfl⟩⟩)|(go_at_call 70;(with_reducible refine(spec_l11All.calls k _ _ J 4 true _ ?side1 ah.out A4.out).mono ?_);(case side1=>exact Kd.C_below ag.out PB);rintro e w' ⟨rfl,⟨nd,rfl⟩⟩)|(go_at_call 70;(with_reducible refine(spec_l11All.calls k _ _ U 3 true _ ?side1 av.out A6.out).mono ?_);(case side1=>exact Kd.C_below au.out PB);rintro e w' ⟨rfl,⟨nd,rfl⟩⟩)|(go_at_call 70;(with_reducible refine(spec_l11All.calls k _ _ X 4 bl _ ?side1 ax.out A8.out).mono ?_);(case side1=>exact Kd.C_below aw.out PB);rintro e w' ⟨rfl,⟨nd,rfl⟩⟩))
    go_ret
    exact⟨RT,PB⟩
   ·replace c7:=Bool.eq_false_iff.mpr c7;subst c7;rw[if_neg (show ¬(false=true) by decide)] at H;obtain rfl:=Option.some.inj H;go_enter Tryz.func96,Tryz.ntmps96;go_wp2_with (first|((with_reducible refine gate_dst (N:=1) rfl ?_);refine bx_ (N:=1) #[.int .i64 D,.slice Z J.length aa,.slice ab U.length ac,.slice ae X.length af] 43 ?_;intro ai hg b5 hbox hb;have Y:=ak hbox;have aj:=gy hg HB;replace HB:=bs HB hb;clear hb hbox hg;obtain⟨_,_,_,_,_,_,_,_⟩:=bc4 Y)|(go_at_call 69;(with_reducible refine(spec_l1In.calls D 0 19 true _ A2.out).mono ?_);rintro e w' ⟨rfl,⟨nd,rfl⟩⟩)|(go_at_call 70;(with_reducible refine(spec_l11All.calls k _ _ J 4 true _ ?side1 ah.out A4.out).mono ?_);(case side1=>exact Kd.C_below ag.out PB);rintro e w' ⟨rfl,⟨nd,rfl⟩⟩)|(go_at_call 70;(with_reducible refine(spec_l11All.calls k _ _ U 3 false _ ?side1 av.out A6.out).mono ?_);(case side1=>exact Kd.C_below au.out PB);rintro e w' ⟨rfl,⟨nd,rfl⟩⟩))
    go_ret
    exact⟨RT,PB⟩
  ·replace c5:=Bool.eq_false_iff.mpr c5;subst c5;rw[if_neg (show ¬(false=true) by decide)] at H;obtain rfl:=Option.some.inj H;go_enter Tryz.func96,Tryz.ntmps96;go_wp2_with (first|((with_reducible refine gate_dst (N:=1) rfl ?_);refine bx_ (N:=1) #[.int .i64 D,.slice Z J.length aa,.slice ab U.length ac,.slice ae X.length af] 43 ?_;intro ai hg b6 hbox hb;have Y:=ak hbox;have aj:=gy hg HB;replace HB:=bs HB hb;clear hb hbox hg;obtain⟨bm,bo,bp,br,bu,bv,bw,bx⟩:=bc4 Y)|(go_at_call 69;(with_reducible refine(spec_l1In.calls D 0 19 true _ A2.out).mono ?_);rintro e w' ⟨rfl,⟨nd,rfl⟩⟩)|(go_at_call 70;(with_reducible refine(spec_l11All.calls k _ _ J 4 false _ ?side1 ah.out A4.out).mono ?_);(case side1=>exact Kd.C_below ag.out PB);rintro e w' ⟨rfl,⟨nd,rfl⟩⟩))
   go_ret
   exact⟨RT,PB⟩
 ·replace c3:=Bool.eq_false_iff.mpr c3;subst c3;rw[if_neg (show ¬(false=true) by decide)] at H;obtain rfl:=Option.some.inj H;go_enter Tryz.func96,Tryz.ntmps96;go_wp2_with (first|((with_reducible refine gate_dst (N:=1) rfl ?_);refine bx_ (N:=1) #[.int .i64 D,.slice Z J.length aa,.slice ab U.length ac,.slice ae X.length af] 43 ?_;intro ai hg b7 hbox hb;have Y:=ak hbox;have aj:=gy hg HB;replace HB:=bs HB hb;clear hb hbox hg;obtain⟨_,_,_,_,_,_,_,_⟩:=bc4 Y)|(go_at_call 69;(with_reducible refine(spec_l1In.calls D 0 19 false _ A2.out).mono ?_);rintro e w' ⟨rfl,⟨nd,rfl⟩⟩))
  go_ret
  exact⟨RT,PB⟩
def spec_l11Can.f (k:Nat)(l0:List (S54))(D:Int)(J:List Int)(U:List Int)(X:List Int):Option (Bool):=(spec_IsScript.f k l0).bind fun Y=>(if Y=true then((spec_IsState.f k D J U X).bind fun Z=>(if Z=true then(some (decide (D < (l0.length:Int)))) else(some false))) else(some false))
theorem spec_l11Can.calls (k:Nat)(A0:Option Addr)(c0:Nat)(Z:List (S54))(Y:Int)(aa:Option Addr)(ab:Nat)(J:List Int)(ac:Option Addr)(ae:Nat)(U:List Int)(af:Option Addr)(ag:Nat)(X:List Int)(r:Bool)(w:World)(bg:Kd.C k54 w A0 Z.length Z)(bh:Z.length≤c0)(ah:Kd.C (Kd.int .i64) w aa J.length J)(ai:J.length≤ab)(aj:Kd.C (Kd.int .i64) w ac U.length U)(al:U.length≤ae)(am:Kd.C (Kd.int .i64) w af X.length X)(ao:X.length≤ag)(h:spec_l11Can.f k Z Y J U X=some r) :
  Calls Tryz.prog 71 #[.slice A0 Z.length c0,.agg #[.int .i64 Y,.slice aa J.length ab,.slice ac U.length ae,.slice af X.length ag]] w fun e w'=>e = .returned (.bool r)∧Below w.heap.size w w':=by
 have cd:=Tryz.underlying43;have bb:=ak bg;have bc:=ak bh;clear bg bh;have ap:=ak ah;have aq:=ak ai;clear ah ai;have ar:=ak aj;have au:=ak al;clear aj al;have av:=ak am;have aw:=ak ao;clear am ao;have HB:=ak (Below.refl w.heap.size w);have H:=h;clear h;unfold spec_l11Can.f at H;replace H:=Option.bind_eq_some_iff.mp H;obtain⟨bk,bi,H⟩:=H;(try dsimp only at H);have A3:=ak bi;clear bi
 by_cases c4:bk=true
 ·subst c4;rw[if_pos rfl] at H;replace H:=Option.bind_eq_some_iff.mp H;obtain⟨bm,bj,H⟩:=H;(try dsimp only at H);have A5:=ak bj;clear bj
  by_cases c6:bm=true
  ·subst c6;rw[if_pos rfl] at H;obtain rfl:=Option.some.inj H;go_enter Tryz.func71,Tryz.ntmps71;go_wp2_with (first|((with_reducible refine gate_dst (N:=3) rfl ?_);(try(refine gate_guard (by rfl) ?_;dsimp only));refine bx_ (N:=3) #[.int .i64 Y,.slice aa J.length ab,.slice ac U.length ae,.slice af X.length ag] 43 ?_;intro ax hg w7 hbox hb;have D:=ak hbox;have ay:=gy hg HB;replace HB:=bs HB hb;clear hb hbox hg)|(go_at_call 45;(with_reducible refine(spec_IsScript.calls k _ _ Z true _ ?side1 bc.out A3.out).mono ?_);(case side1=>exact Cq bb);rintro e w8 ⟨rfl,hb⟩;replace D:=kf D hb;replace HB:=bs HB hb;clear hb;obtain⟨_,_,_,_,_,_,_,_⟩:=bc4 D)|(go_at_call 96;(with_reducible refine(spec_IsState.calls k Y _ _ J _ _ U _ _ X true _ ?side1 aq.out ?side3 au.out ?side5 aw.out A5.out).mono ?_);(case side1=>exact Cq ap);(case side3=>exact Cq ar);(case side5=>exact Cq av);rintro e ce ⟨rfl,hb⟩;replace D:=kf D hb;replace HB:=bs HB hb;clear hb;obtain⟨bo,bp,br,bu,bv,bw,bx,bz⟩:=bc4 D))
   go_ret
   exact⟨RT,PB⟩
  ·replace c6:=Bool.eq_false_iff.mpr c6;subst c6;rw[if_neg (show ¬(false=true) by decide)] at H;obtain rfl:=Option.some.inj H;go_enter Tryz.func71,Tryz.ntmps71;go_wp2_with (first|((with_reducible refine gate_dst (N:=3) rfl ?_);(try(refine gate_guard (by rfl) ?_;dsimp only));refine bx_ (N:=3) #[.int .i64 Y,.slice aa J.length ab,.slice ac U.length ae,.slice af X.length ag] 43 ?_;intro ax hg cf hbox hb;have D:=ak hbox;have ay:=gy hg HB;replace HB:=bs HB hb;clear hb hbox hg)|(go_at_call 45;(with_reducible refine(spec_IsScript.calls k _ _ Z true _ ?side1 bc.out A3.out).mono ?_);(case side1=>exact Cq bb);rintro e cg ⟨rfl,hb⟩;replace D:=kf D hb;replace HB:=bs HB hb;clear hb;obtain⟨b0,b4,b5,b6,b7,b8,b9,ca⟩:=bc4 D)|(go_at_call 96;(with_reducible refine(spec_IsState.calls k Y _ _ J _ _ U _ _ X false _ ?side1 aq.out ?side3 au.out ?side5 aw.out A5.out).mono ?_);(case side1=>exact Cq ap);(case side3=>exact Cq ar);(case side5=>exact Cq av);rintro e ch ⟨rfl,hb⟩;replace D:=kf D hb;replace HB:=bs HB hb;clear hb))
   go_ret
   exact⟨RT,PB⟩
 ·replace c4:=Bool.eq_false_iff.mpr c4;subst c4;rw[if_neg (show ¬(false=true) by decide)] at H;obtain rfl:=Option.some.inj H;go_enter Tryz.func71,Tryz.ntmps71;go_wp2_with (first|((with_reducible refine gate_dst (N:=3) rfl ?_);(try(refine gate_guard (by rfl) ?_;dsimp only));refine bx_ (N:=3) #[.int .i64 Y,.slice aa J.length ab,.slice ac U.length ae,.slice af X.length ag] 43 ?_;intro ax hg ci hbox hb;have D:=ak hbox;have ay:=gy hg HB;replace HB:=bs HB hb;clear hb hbox hg)|(go_at_call 45;(with_reducible refine(spec_IsScript.calls k _ _ Z false _ ?side1 bc.out A3.out).mono ?_);(case side1=>exact Cq bb);rintro e cj ⟨rfl,hb⟩;replace D:=kf D hb;replace HB:=bs HB hb;clear hb))
  go_ret
  exact⟨RT,PB⟩
def spec_Asks.f (J:Int):Option (Bool):=(spec_l1In.f J 1 4).bind fun D=>(some D)
theorem spec_Asks.calls (D:Int)(r:Bool)(w:World)(h:spec_Asks.f D=some r) :
  Calls Tryz.prog 72 #[.int .i64 D] w fun e w'=>e = .returned (.bool r)∧Drawn0 w w':=by
 have H:=h;clear h;unfold spec_Asks.f at H;replace H:=Option.bind_eq_some_iff.mp H;obtain⟨U,J,H⟩:=H;(try dsimp only at H);have X:=ak J;clear J;obtain rfl:=Option.some.inj H;go_enter Tryz.func72,Tryz.ntmps72;go_wp2_with (first|(go_at_call 69;(with_reducible refine(spec_l1In.calls D 1 4 U _ X.out).mono ?_);rintro e w' ⟨rfl,⟨nd,rfl⟩⟩))
 go_ret
 exact⟨FR,by repeat(first|exact Drawn0.refl _ | apply Drawn0.step)⟩

end Go.Proofs.YtgfplmagpljmpaaGreat.MFnExactIsFaithful
