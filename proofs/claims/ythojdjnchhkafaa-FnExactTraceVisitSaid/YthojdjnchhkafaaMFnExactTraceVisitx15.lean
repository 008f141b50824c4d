-- Written by a program of this session out of the translation's own print. Not trusted: Lean checks it.
import Derived.Test.YthojdjnchhkafaaShr2
import Derived.Test.YthojdjnchhkafaaMFnExactTraceVisitx0
import Derived.Test.YthojdjnchhkafaaMFnExactTraceVisitx13
import Derived.Test.YthojdjnchhkafaaMFnExactTraceVisitx14
namespace Go.Proofs.Ythojdjnchhkafaa.MFnExactTraceVisit
open Go.RowKit Go.Proofs.YthojdjnchhkafaaW.PrintWords Go.Proofs.YthojdjnchhkafaaW.PrintLast Go.Proofs.YthojdjnchhkafaaW.PrintMore
attribute [local go_sem] max2_int min2_int max_two min_two max_three min_three max_four min_four   -- for this text's walks alone
set_option linter.unusedVariables false
set_option maxHeartbeats 8000000
set_option maxRecDepth 100000
set_option linter.unusedSimpArgs false

/-! ### impl_IsSite_lit1: function 88 -/
def impl_IsSite_lit1.f (k:Nat)(D:Int)(I:Int)(J:Int)(L:Int)(U:Int)(X:List Int)(Y:Int)(Z:Int)(aa:Int):Option (Bool):=(impl_IsAddress.f D I J).bind fun ab=>(if ab=true then((impl_InRange.f L 0 1000).bind fun ac=>(if ac=true then((impl_IsResource.f k U X Y Z aa).bind fun ae=>(some (!ae))) else(some true))) else(some true))
theorem impl_IsSite_lit1.calls (k:Nat)(I:Int)(J:Int)(L:Int)(X:Int)(Y:Int)(ac:Option Addr)(ae:Nat)(U:List Int)(Z:Int)(aa:Int)(ab:Int)(r:Bool)(w:World)(af:Kd.C (Kd.int .i64) w ac U.length U)(ag:U.length≤ae)(h:impl_IsSite_lit1.f k I J L X Y U Z aa ab=some r) :
  Calls Try.prog 88 #[.agg #[.int .i64 I,.int .i64 J,.int .i64 L,.int .i64 X,.int .i64 Y,.slice ac U.length ae,.int .i64 Z,.int .i64 aa,.int .i64 ab]] w fun e w'=>e = .returned (.bool r)∧Below w.heap.size w w':=by
 have bz:=Try.underlying84;have b0:=Try.underlying73;have b4:=Try.underlying82;have aj:=ak af;have al:=ak ag;clear af ag;have HB:=ak (Below.refl w.heap.size w);have H:=h;clear h;unfold impl_IsSite_lit1.f at H;replace H:=Option.bind_eq_some_iff.mp H;obtain⟨au,ap,H⟩:=H;(try dsimp only at H);have A2:=ak ap;clear ap
 by_cases c3:au=true
 ·subst c3;rw[if_pos rfl] at H;replace H:=Option.bind_eq_some_iff.mp H;obtain⟨aw,aq,H⟩:=H;(try dsimp only at H);have A4:=ak aq;clear aq
  by_cases c5:aw=true
  ·subst c5;rw[if_pos rfl] at H;replace H:=Option.bind_eq_some_iff.mp H;obtain⟨ax,ar,H⟩:=H;(try dsimp only at H);have A6:=ak ar;clear ar;obtain rfl:=Option.some.inj H;go_enter Try.func88,Try.ntmps88;go_wp2_with (first|((with_reducible refine gate_dst (N:=1) rfl ?_);refine bx_ (N:=1) #[.int .i64 I,.int .i64 J,.int .i64 L,.int .i64 X,.int .i64 Y,.slice ac U.length ae,.int .i64 Z,.int .i64 aa,.int .i64 ab] 84 ?_;intro ah hg w7 hbox hb;have D:=ak hbox;have ai:=gy hg HB;replace HB:=bs HB hb;clear hb hbox hg;obtain⟨_,_,_,_,_,_,_,_,_,_,_,_,_,_,_,_,_,_⟩:=bc9 D)|((with_reducible refine gate_callee (f:=89) rfl ?_);refine goesL_ (some 5) rfl rfl Try.func89 KR rfl #[.agg #[.int .i64 I,.int .i64 J,.int .i64 L]] rfl AR ?_;(with_reducible refine(impl_IsAddress.calls I J L true _ A2.out).mono ?_);rintro e w9 ⟨rfl,hb⟩;refine⟨_,rfl,?_⟩;replace D:=kf D hb;replace HB:=bs HB hb;clear hb;obtain⟨_,_,_,_,_,_,_,_,_,_,_,_,_,_,_,_,_,_⟩:=bc9 D)|(go_at_call 69;(with_reducible refine(impl_InRange.calls X 0 1000 true _ A4.out).mono ?_);rintro e w' ⟨rfl,⟨nd,rfl⟩⟩)|(go_at_call 90;(with_reducible refine(impl_IsResource.calls k Y _ _ U Z aa ab ax _ ?side1 ?side2 A6.out).mono ?_);(case side1=>repeat(first|exact(Kd.C_below aj.out PB)|(with_reducible refine Kd.C_alloc ?_ _)|(with_reducible refine Kd.C_drewN ?_ _)|(with_reducible refine Kd.C_drew ?_)));(case side2=>exact al.out);rintro e b6 ⟨rfl,hb⟩;replace D:=kf D hb;replace HB:=bs HB hb;clear hb))
   go_ret
   exact⟨RT,PB⟩
  ·replace c5:=Bool.eq_false_iff.mpr c5;subst c5;rw[if_neg (show ¬(false=true) by decide)] at H;obtain rfl:=Option.some.inj H;go_enter Try.func88,Try.ntmps88;go_wp2_with (first|((with_reducible refine gate_dst (N:=1) rfl ?_);refine bx_ (N:=1) #[.int .i64 I,.int .i64 J,.int .i64 L,.int .i64 X,.int .i64 Y,.slice ac U.length ae,.int .i64 Z,.int .i64 aa,.int .i64 ab] 84 ?_;intro ah hg b7 hbox hb;have D:=ak hbox;have ai:=gy hg HB;replace HB:=bs HB hb;clear hb hbox hg;obtain⟨ay,az,a9,ba,_,_,_,_,_,bb,bc,bd,be,_,_,_,_,_⟩:=bc9 D)|((with_reducible refine gate_callee (f:=89) rfl ?_);refine goesL_ (some 5) rfl rfl Try.func89 KR rfl #[.agg #[.int .i64 I,.int .i64 J,.int .i64 L]] rfl AR ?_;(with_reducible refine(impl_IsAddress.calls I J L true _ A2.out).mono ?_);rintro e b8 ⟨rfl,hb⟩;refine⟨_,rfl,?_⟩;replace D:=kf D hb;replace HB:=bs HB hb;clear hb;obtain⟨bf,bg,bh,bi,_,_,_,_,_,bj,bk,bl,bm,_,_,_,_,_⟩:=bc9 D)|(go_at_call 69;(with_reducible refine(impl_InRange.calls X 0 1000 false _ A4.out).mono ?_);rintro e w' ⟨rfl,⟨nd,rfl⟩⟩))
   go_ret
   exact⟨RT,PB⟩
 ·replace c3:=Bool.eq_false_iff.mpr c3;subst c3;rw[if_neg (show ¬(false=true) by decide)] at H;obtain rfl:=Option.some.inj H;go_enter Try.func88,Try.ntmps88;go_wp2_with (first|((with_reducible refine gate_dst (N:=1) rfl ?_);refine bx_ (N:=1) #[.int .i64 I,.int .i64 J,.int .i64 L,.int .i64 X,.int .i64 Y,.slice ac U.length ae,.int .i64 Z,.int .i64 aa,.int .i64 ab] 84 ?_;intro ah hg b9 hbox hb;have D:=ak hbox;have ai:=gy hg HB;replace HB:=bs HB hb;clear hb hbox hg;obtain⟨bn,bo,bp,br,_,_,_,_,_,bt,bu,bv,bw,_,_,_,_,_⟩:=bc9 D)|((with_reducible refine gate_callee (f:=89) rfl ?_);refine goesL_ (some 5) rfl rfl Try.func89 KR rfl #[.agg #[.int .i64 I,.int .i64 J,.int .i64 L]] rfl AR ?_;(with_reducible refine(impl_IsAddress.calls I J L false _ A2.out).mono ?_);rintro e ca ⟨rfl,hb⟩;refine⟨_,rfl,?_⟩;replace D:=kf D hb;replace HB:=bs HB hb;clear hb))
  go_ret
  exact⟨RT,PB⟩

/-! ### slices_IndexFunc_88: function 98 -/
def slices_IndexFunc_88.l0:Nat→List (S84)→Int→Int→Option (Int)
  | 0,_,_,_=>none
  | k+1,I,L,D=>if D < L then(if 0≤D then(if D < (I.length:Int) then((impl_IsSite_lit1.f k ((rd_T84 I D).f0.f0) ((rd_T84 I D).f0.f1) ((rd_T84 I D).f0.f2) ((rd_T84 I D).f1) ((rd_T84 I D).f2.f0) ((rd_T84 I D).f2.f1) ((rd_T84 I D).f2.f2.f0) ((rd_T84 I D).f2.f2.f1) ((rd_T84 I D).f2.f2.f2)).bind fun J=>(if J=true then(some D) else(slices_IndexFunc_88.l0 k I L (wrap64 (D+1))))) else(none)) else(none)) else(some (-1))
def slices_IndexFunc_88.f (k:Nat)(D:List (S84))(I:Int):Option (Int):=slices_IndexFunc_88.l0 k D (D.length:Int) 0
theorem slices_IndexFunc_88.calls (k:Nat)(A0:Option Addr)(c0:Nat)(I:List (S84))(a1:Int)(r:Int)(w:World)(aw:Kd.C k84 w A0 I.length I)(ax:I.length≤c0)(h:slices_IndexFunc_88.f k I a1=some r) :
  Calls Try.prog 98 #[.slice A0 I.length c0,.func (.func 88) #[] #[]] w fun e w'=>e = .returned (.int .i64 r)∧Below w.heap.size w w':=by
 have bg:=Try.underlying84;have ay:=ak aw;have bk:=ak ax;clear aw ax;have HB:=ak (Below.refl w.heap.size w);have H:=h;clear h;unfold slices_IndexFunc_88.f at H;have H':=ak H;clear H;go_enter Try.func98,Try.ntmps98;go_wp2
 go_loopg [8] k (fun kq v8 w'=>∃(D:Int),v8 = .int .i64 D∧Aside0 (slices_IndexFunc_88.l0 kq I (I.length:Int) D=some r)∧Aside0 (kq≤k)∧Aside0 (Below w.heap.size w w'))
 case atStart=>exact⟨(0),FR,H',⟨Nat.le_refl _⟩,⟨PB⟩⟩
 case round =>
  clear H'
  try clear p2
  obtain⟨D,rfl,HA,az,HB⟩:=hrel
  cases gk with
  | zero=>exact absurd HA.out (by simp[slices_IndexFunc_88.l0])
  | succ k1 =>
   have H:=HA.out;clear HA;simp only[slices_IndexFunc_88.l0] at H
   by_cases c3:D < (I.length:Int)
   ·rw[if_pos c3] at H;have ba:decide (D < (I.length:Int))=true:=decide_eq_true c3;clear c3
    by_cases c4:0≤D
    ·rw[if_pos c4] at H;have bi:decide (0≤D)=true:=decide_eq_true c4;clear c4
     by_cases c5:D < (I.length:Int)
     ·rw[if_pos c5] at H;have bj:decide (D < (I.length:Int))=true:=decide_eq_true c5;clear c5;replace H:=Option.bind_eq_some_iff.mp H;obtain⟨bb,a9,H⟩:=H;(try dsimp only at H);have A6:=ak a9;clear a9
      by_cases c7:bb=true
      ·subst c7;rw[if_pos rfl] at H;obtain rfl:=Option.some.inj H;have ag:0≤(D:Int):=od;have ah:D < (I.length:Int):=od;obtain⟨av,al,am,ao,J,L,U,X,Y,Z,aa,ab,ac,ae,af⟩:=at_T84 ay.out D ag ah;cases ao;replace J:=hx_ HB J;replace L:=hx_ HB L;replace U:=hx_ HB U;replace X:=hx_ HB X;replace Y:=hx_ HB Y;replace Z:=hx_ HB Z;replace aa:=hx_ HB aa;replace ab:=hx_ HB ab;replace ac:=hx_ HB ac;have ai:=ak af;have aj:=ak ae;clear af ae;replace ag:=eq_true ag;replace ah:=eq_true ah;go_wp2_with (first|((with_reducible refine gate_calleeV (n:=11) rfl ?_);refine goesLV_ (some 16) rfl rfl Try.func88 KR rfl #[.agg #[.int .i64 ((rd_T84 I D).f0.f0),.int .i64 ((rd_T84 I D).f0.f1),.int .i64 ((rd_T84 I D).f0.f2),.int .i64 ((rd_T84 I D).f1),.int .i64 ((rd_T84 I D).f2.f0),.slice al ((rd_T84 I D).f2.f1).length am,.int .i64 ((rd_T84 I D).f2.f2.f0),.int .i64 ((rd_T84 I D).f2.f2.f1),.int .i64 ((rd_T84 I D).f2.f2.f2)]] rfl AR ?_;(with_reducible refine(impl_IsSite_lit1.calls k1 ((rd_T84 I D).f0.f0) ((rd_T84 I D).f0.f1) ((rd_T84 I D).f0.f2) ((rd_T84 I D).f1) ((rd_T84 I D).f2.f0) _ _ ((rd_T84 I D).f2.f1) ((rd_T84 I D).f2.f2.f0) ((rd_T84 I D).f2.f2.f1) ((rd_T84 I D).f2.f2.f2) true _ ?side1 ?side2 A6.out).mono ?_);(case side1=>exact CR (Kd.C_below ai.out HB.out));(case side2=>exact aj.out);rintro e w8 ⟨rfl,hb⟩;refine⟨_,rfl,?_⟩;replace HB:=bs HB hb;clear hb))
       go_ret
       exact⟨RT,PB⟩
      ·replace c7:=Bool.eq_false_iff.mpr c7;subst c7;rw[if_neg (show ¬(false=true) by decide)] at H;have H':=ak H;clear H;have ag:0≤(D:Int):=od;have ah:D < (I.length:Int):=od;obtain⟨av,al,am,ao,J,L,U,X,Y,Z,aa,ab,ac,ae,af⟩:=at_T84 ay.out D ag ah;cases ao;replace J:=hx_ HB J;replace L:=hx_ HB L;replace U:=hx_ HB U;replace X:=hx_ HB X;replace Y:=hx_ HB Y;replace Z:=hx_ HB Z;replace aa:=hx_ HB aa;replace ab:=hx_ HB ab;replace ac:=hx_ HB ac;have ai:=ak af;have aj:=ak ae;clear af ae;replace ag:=eq_true ag;replace ah:=eq_true ah;go_wp2_with (first|((with_reducible refine gate_calleeV (n:=11) rfl ?_);refine goesLV_ (some 16) rfl rfl Try.func88 KR rfl #[.agg #[.int .i64 ((rd_T84 I D).f0.f0),.int .i64 ((rd_T84 I D).f0.f1),.int .i64 ((rd_T84 I D).f0.f2),.int .i64 ((rd_T84 I D).f1),.int .i64 ((rd_T84 I D).f2.f0),.slice al ((rd_T84 I D).f2.f1).length am,.int .i64 ((rd_T84 I D).f2.f2.f0),.int .i64 ((rd_T84 I D).f2.f2.f1),.int .i64 ((rd_T84 I D).f2.f2.f2)]] rfl AR ?_;(with_reducible refine(impl_IsSite_lit1.calls k1 ((rd_T84 I D).f0.f0) ((rd_T84 I D).f0.f1) ((rd_T84 I D).f0.f2) ((rd_T84 I D).f1) ((rd_T84 I D).f2.f0) _ _ ((rd_T84 I D).f2.f1) ((rd_T84 I D).f2.f2.f0) ((rd_T84 I D).f2.f2.f1) ((rd_T84 I D).f2.f2.f2) false _ ?side1 ?side2 A6.out).mono ?_);(case side1=>exact CR (Kd.C_below ai.out HB.out));(case side2=>exact aj.out);rintro e w9 ⟨rfl,hb⟩;refine⟨_,rfl,?_⟩;replace HB:=bs HB hb;clear hb))
       go_roundg k1
       case measure=>have:=az.out;omega
       case rel=>exact⟨(wrap64 (D+1)),FR,H',⟨by have:=az.out;omega⟩,⟨PB⟩⟩
     ·rw[if_neg c5] at H;exact absurd H (by simp)
    ·rw[if_neg c4] at H;exact absurd H (by simp)
   ·rw[if_neg c3] at H;have ba:decide (D < (I.length:Int))=false:=decide_eq_false c3;clear c3;obtain rfl:=Option.some.inj H;go_wp2
    go_ret
    exact⟨RT,PB⟩

/-! ### slices_ContainsFunc_88: function 87 -/
def slices_ContainsFunc_88.f (k:Nat)(I:List (S84))(J:Int):Option (Bool):=(slices_IndexFunc_88.f k I J).bind fun D=>(some (decide (D≥0)))
theorem slices_ContainsFunc_88.calls (k:Nat)(U:Option Addr)(X:Nat)(D:List (S84))(Z:Int)(r:Bool)(w:World)(I:Kd.C k84 w U D.length D)(J:D.length≤X)(h:slices_ContainsFunc_88.f k D Z=some r) :
  Calls Try.prog 87 #[.slice U D.length X,.func (.func 88) #[] #[]] w fun e w'=>e = .returned (.bool r)∧Below w.heap.size w w':=by
 have aa:=ak I;have ab:=ak J;clear I J;have HB:=ak (Below.refl w.heap.size w);have H:=h;clear h;unfold slices_ContainsFunc_88.f at H;replace H:=Option.bind_eq_some_iff.mp H;obtain⟨Y,L,H⟩:=H;(try dsimp only at H);have A3:=ak L;clear L;obtain rfl:=Option.some.inj H;go_enter Try.func87,Try.ntmps87;go_wp2_with (first|((with_reducible refine gate_callee (f:=98) rfl ?_);refine goesL_ (some 7) rfl rfl Try.func98 KR rfl #[.slice U D.length X,.func (.func 88) #[] #[]] rfl AR ?_;(with_reducible refine(slices_IndexFunc_88.calls k _ _ D Z Y _ ?side1 ?side2 A3.out).mono ?_);(case side1=>exact CR (aa.out));(case side2=>exact ab.out);rintro e w4 ⟨rfl,hb⟩;refine⟨_,rfl,?_⟩;replace HB:=bs HB hb;clear hb))
 go_ret
 exact⟨RT,PB⟩

/-! ### impl_IsSite: function 68 -/
def impl_IsSite.f (k:Nat)(I:List (S84)):Option (Bool):=if (I.length:Int)≤12 then((slices_ContainsFunc_88.f k I 90000088).bind fun D=>(some (!D))) else(some false)
theorem impl_IsSite.calls (k:Nat)(A0:Option Addr)(c0:Nat)(D:List (S84))(r:Bool)(w:World)(J:Kd.C k84 w A0 D.length D)(L:D.length≤c0)(h:impl_IsSite.f k D=some r) :
  Calls Try.prog 68 #[.slice A0 D.length c0] w fun e w'=>e = .returned (.bool r)∧Below w.heap.size w w':=by
 have ac:=ak J;have ae:=ak L;clear J L;have HB:=ak (Below.refl w.heap.size w);have H:=h;clear h;unfold impl_IsSite.f at H
 by_cases I:(D.length:Int)≤12
 ·rw[if_pos I] at H;have X:decide ((D.length:Int)≤12)=true:=decide_eq_true I;have Y:decide (D.length≤12)=true:=decide_eq_true (by omega);clear I;replace H:=Option.bind_eq_some_iff.mp H;obtain⟨Z,U,H⟩:=H;(try dsimp only at H);have A3:=ak U;clear U;obtain rfl:=Option.some.inj H;go_enter Try.func68,Try.ntmps68;go_wp2_with (first|(go_at_call 87;(with_reducible refine(slices_ContainsFunc_88.calls k _ _ D 90000088 Z _ ?side1 ?side2 A3.out).mono ?_);(case side1=>exact CR (ac.out));(case side2=>exact ae.out);rintro e w4 ⟨rfl,hb⟩;replace HB:=bs HB hb;clear hb))
  go_ret
  exact⟨RT,PB⟩
 ·rw[if_neg I] at H;have X:decide ((D.length:Int)≤12)=false:=decide_eq_false I;have Y:decide (D.length≤12)=false:=decide_eq_false (by omega);clear I;obtain rfl:=Option.some.inj H;go_enter Try.func68,Try.ntmps68;go_wp2
  go_ret
  exact⟨RT,PB⟩

/-! ### impl_IsVisit: function 42 -/
def impl_IsVisit.f (k:Nat)(I:List (S84))(J:Int)(L:Int)(D:List Int):Option (Bool):=(impl_IsSite.f k I).bind fun U=>(if U=true then((impl_InRange.f J 0 1000).bind fun X=>(if X=true then((impl_InRange.f L 0 9999).bind fun Y=>(if Y=true then(if (D.length:Int)≤8 then((impl_allIn.f k D 0 999).bind fun Z=>(some Z)) else(some false)) else(some false))) else(some false))) else(some false))
theorem impl_IsVisit.calls (k:Nat)(L:Option Addr)(U:Nat)(I:List (S84))(X:Int)(Y:Int)(Z:Option Addr)(aa:Nat)(J:List Int)(r:Bool)(w:World)(ag:Kd.C k84 w L I.length I)(ah:I.length≤U)(ai:Kd.C (Kd.int .i64) w Z J.length J)(aj:J.length≤aa)(h:impl_IsVisit.f k I X Y J=some r) :
  Calls Try.prog 42 #[.agg #[.slice L I.length U,.int .i64 X,.int .i64 Y,.slice Z J.length aa]] w fun e w'=>e = .returned (.bool r)∧Below w.heap.size w w':=by
 have dj:=Try.underlying35;have ab:=ak ag;have ac:=ak ah;clear ag ah;have ao:=ak ai;have ap:=ak aj;clear ai aj;have HB:=ak (Below.refl w.heap.size w);have H:=h;clear h;unfold impl_IsVisit.f at H;replace H:=Option.bind_eq_some_iff.mp H;obtain⟨a9,aw,H⟩:=H;(try dsimp only at H);have A2:=ak aw;clear aw
 by_cases c3:a9=true
 ·subst c3;rw[if_pos rfl] at H;replace H:=Option.bind_eq_some_iff.mp H;obtain⟨ba,ax,H⟩:=H;(try dsimp only at H);have A4:=ak ax;clear ax
  by_cases c5:ba=true
  ·subst c5;rw[if_pos rfl] at H;replace H:=Option.bind_eq_some_iff.mp H;obtain⟨bb,ay,H⟩:=H;(try dsimp only at H);have A6:=ak ay;clear ay
   by_cases c7:bb=true
   ·subst c7;rw[if_pos rfl] at H
    by_cases c8:(J.length:Int)≤8
    ·rw[if_pos c8] at H;have bd:decide ((J.length:Int)≤8)=true:=decide_eq_true c8;have be:decide (J.length≤8)=true:=decide_eq_true (by omega);clear c8;replace H:=Option.bind_eq_some_iff.mp H;obtain⟨bf,az,H⟩:=H;(try dsimp only at H);have A9:=ak az;clear az;obtain rfl:=Option.some.inj H;go_enter Try.func42,Try.ntmps42;go_wp2_with (first|((with_reducible refine gate_dst (N:=1) rfl ?_);(try(refine gate_guard (by rfl) ?_;dsimp only));refine bx_ (N:=1) #[.slice L I.length U,.int .i64 X,.int .i64 Y,.slice Z J.length aa] 35 ?_;intro ae hg dl hbox hb;have D:=ak hbox;have af:=gy hg HB;replace HB:=bs HB hb;clear hb hbox hg;obtain⟨_,_,_,_,_,_,_,_⟩:=bc4 D)|((with_reducible refine gate_callee (f:=68) rfl ?_);refine goesL_ (some 5) rfl rfl Try.func68 KR rfl #[.slice L I.length U] rfl AR ?_;(with_reducible refine(impl_IsSite.calls k _ _ I true _ ?side1 ?side2 A2.out).mono ?_);(case side1=>exact CR (Kd.C_below ab.out HB.out));(case side2=>exact ac.out);rintro e dm ⟨rfl,hb⟩;refine⟨_,rfl,?_⟩;replace D:=kf D hb;replace HB:=bs HB hb;clear hb;obtain⟨bg,bh,bi,bj,bk,bl,bm,bn⟩:=bc4 D)|(go_at_call 69;(with_reducible refine(impl_InRange.calls X 0 1000 true _ A4.out).mono ?_);rintro e w' ⟨rfl,⟨nd,rfl⟩⟩)|(go_at_call 69;(with_reducible refine(impl_InRange.calls Y 0 9999 true _ A6.out).mono ?_);rintro e w' ⟨rfl,⟨nd,rfl⟩⟩)|(go_at_call 70;(with_reducible refine(impl_allIn.calls k _ _ J 0 999 bf _ ?side1 ?side2 A9.out).mono ?_);(case side1=>repeat(first|exact(Kd.C_below ao.out PB)|(with_reducible refine Kd.C_alloc ?_ _)|(with_reducible refine Kd.C_drewN ?_ _)|(with_reducible refine Kd.C_drew ?_)));(case side2=>exact ap.out);rintro e w' ⟨rfl,⟨nd,rfl⟩⟩))
     go_ret
     exact⟨RT,PB⟩
    ·rw[if_neg c8] at H;have bd:decide ((J.length:Int)≤8)=false:=decide_eq_false c8;have be:decide (J.length≤8)=false:=decide_eq_false (by omega);clear c8;obtain rfl:=Option.some.inj H;go_enter Try.func42,Try.ntmps42;go_wp2_with (first|((with_reducible refine gate_dst (N:=1) rfl ?_);(try(refine gate_guard (by rfl) ?_;dsimp only));refine bx_ (N:=1) #[.slice L I.length U,.int .i64 X,.int .i64 Y,.slice Z J.length aa] 35 ?_;intro ae hg dn hbox hb;have D:=ak hbox;have af:=gy hg HB;replace HB:=bs HB hb;clear hb hbox hg;obtain⟨bo,bp,br,bt,bu,bv,bw,bx⟩:=bc4 D)|((with_reducible refine gate_callee (f:=68) rfl ?_);refine goesL_ (some 5) rfl rfl Try.func68 KR rfl #[.slice L I.length U] rfl AR ?_;(with_reducible refine(impl_IsSite.calls k _ _ I true _ ?side1 ?side2 A2.out).mono ?_);(case side1=>exact CR (Kd.C_below ab.out HB.out));(case side2=>exact ac.out);rintro e dp ⟨rfl,hb⟩;refine⟨_,rfl,?_⟩;replace D:=kf D hb;replace HB:=bs HB hb;clear hb;obtain⟨bz,b0,b4,b5,b6,b7,b8,b9⟩:=bc4 D)|(go_at_call 69;(with_reducible refine(impl_InRange.calls X 0 1000 true _ A4.out).mono ?_);rintro e w' ⟨rfl,⟨nd,rfl⟩⟩)|(go_at_call 69;(with_reducible refine(impl_InRange.calls Y 0 9999 true _ A6.out).mono ?_);rintro e w' ⟨rfl,⟨nd,rfl⟩⟩))
     go_ret
     exact⟨RT,PB⟩
   ·replace c7:=Bool.eq_false_iff.mpr c7;subst c7;rw[if_neg (show ¬(false=true) by decide)] at H;obtain rfl:=Option.some.inj H;go_enter Try.func42,Try.ntmps42;go_wp2_with (first|((with_reducible refine gate_dst (N:=1) rfl ?_);(try(refine gate_guard (by rfl) ?_;dsimp only));refine bx_ (N:=1) #[.slice L I.length U,.int .i64 X,.int .i64 Y,.slice Z J.length aa] 35 ?_;intro ae hg dq hbox hb;have D:=ak hbox;have af:=gy hg HB;replace HB:=bs HB hb;clear hb hbox hg;obtain⟨ca,cb,cd,ce,cf,cg,ch,ci⟩:=bc4 D)|((with_reducible refine gate_callee (f:=68) rfl ?_);refine goesL_ (some 5) rfl rfl Try.func68 KR rfl #[.slice L I.length U] rfl AR ?_;(with_reducible refine(impl_IsSite.calls k _ _ I true _ ?side1 ?side2 A2.out).mono ?_);(case side1=>exact CR (Kd.C_below ab.out HB.out));(case side2=>exact ac.out);rintro e dr ⟨rfl,hb⟩;refine⟨_,rfl,?_⟩;replace D:=kf D hb;replace HB:=bs HB hb;clear hb;obtain⟨cj,ck,cl,cm,cn,co,cp,cq⟩:=bc4 D)|(go_at_call 69;(with_reducible refine(impl_InRange.calls X 0 1000 true _ A4.out).mono ?_);rintro e w' ⟨rfl,⟨nd,rfl⟩⟩)|(go_at_call 69;(with_reducible refine(impl_InRange.calls Y 0 9999 false _ A6.out).mono ?_);rintro e w' ⟨rfl,⟨nd,rfl⟩⟩))
    go_ret
    exact⟨RT,PB⟩
  ·replace c5:=Bool.eq_false_iff.mpr c5;subst c5;rw[if_neg (show ¬(false=true) by decide)] at H;obtain rfl:=Option.some.inj H;go_enter Try.func42,Try.ntmps42;go_wp2_with (first|((with_reducible refine gate_dst (N:=1) rfl ?_);(try(refine gate_guard (by rfl) ?_;dsimp only));refine bx_ (N:=1) #[.slice L I.length U,.int .i64 X,.int .i64 Y,.slice Z J.length aa] 35 ?_;intro ae hg dt hbox hb;have D:=ak hbox;have af:=gy hg HB;replace HB:=bs HB hb;clear hb hbox hg;obtain⟨cr,ct,cu,cv,cw,cx,cy,cz⟩:=bc4 D)|((with_reducible refine gate_callee (f:=68) rfl ?_);refine goesL_ (some 5) rfl rfl Try.func68 KR rfl #[.slice L I.length U] rfl AR ?_;(with_reducible refine(impl_IsSite.calls k _ _ I true _ ?side1 ?side2 A2.out).mono ?_);(case side1=>exact CR (Kd.C_below ab.out HB.out));(case side2=>exact ac.out);rintro e du ⟨rfl,hb⟩;refine⟨_,rfl,?_⟩;replace D:=kf D hb;replace HB:=bs HB hb;clear hb;obtain⟨da,db,dc,de,df,dg,dh,di⟩:=bc4 D)|(go_at_call 69;(with_reducible refine(impl_InRange.calls X 0 1000 false _ A4.out).mono ?_);rintro e w' ⟨rfl,⟨nd,rfl⟩⟩))
   go_ret
   exact⟨RT,PB⟩
 ·replace c3:=Bool.eq_false_iff.mpr c3;subst c3;rw[if_neg (show ¬(false=true) by decide)] at H;obtain rfl:=Option.some.inj H;go_enter Try.func42,Try.ntmps42;go_wp2_with (first|((with_reducible refine gate_dst (N:=1) rfl ?_);(try(refine gate_guard (by rfl) ?_;dsimp only));refine bx_ (N:=1) #[.slice L I.length U,.int .i64 X,.int .i64 Y,.slice Z J.length aa] 35 ?_;intro ae hg dv hbox hb;have D:=ak hbox;have af:=gy hg HB;replace HB:=bs HB hb;clear hb hbox hg;obtain⟨_,_,_,_,_,_,_,_⟩:=bc4 D)|((with_reducible refine gate_callee (f:=68) rfl ?_);refine goesL_ (some 5) rfl rfl Try.func68 KR rfl #[.slice L I.length U] rfl AR ?_;(with_reducible refine(impl_IsSite.calls k _ _ I false _ ?side1 ?side2 A2.out).mono ?_);(case side1=>exact CR (Kd.C_below ab.out HB.out));(case side2=>exact ac.out);rintro e dw ⟨rfl,hb⟩;refine⟨_,rfl,?_⟩;replace D:=kf D hb;replace HB:=bs HB hb;clear hb))
  go_ret
  exact⟨RT,PB⟩

/-! ### impl_IsDone: function 43 -/
def impl_IsDone.f (I:List (S50))(D:Int)(J:List Int)(L:List Int)(U:List Int):Option (Bool):=some (decide (D≥(I.length:Int)))
theorem impl_IsDone.calls (A0:Option Addr)(c0:Nat)(l0:List (S50))(L:Int)(U:Option Addr)(X:Nat)(D:List Int)(Y:Option Addr)(Z:Nat)(I:List Int)(aa:Option Addr)(ab:Nat)(J:List Int)(r:Bool)(w:World)(am:Kd.C k50 w A0 l0.length l0)(ao:l0.length≤c0)(ac:Kd.C (Kd.int .i64) w U D.length D)(ae:D.length≤X)(af:Kd.C (Kd.int .i64) w Y I.length I)(ag:I.length≤Z)(ah:Kd.C (Kd.int .i64) w aa J.length J)(ai:J.length≤ab)(h:impl_IsDone.f l0 L D I J=some r) :
  Calls Try.prog 43 #[.slice A0 l0.length c0,.agg #[.int .i64 L,.slice U D.length X,.slice Y I.length Z,.slice aa J.length ab]] w fun e w'=>e = .returned (.bool r)∧Below w.heap.size w w':=by
 have ba:=Try.underlying57;have bb:=ak am;have bc:=ak ao;clear am ao;have ar:=ak ac;have au:=ak ae;clear ac ae;have av:=ak af;have aw:=ak ag;clear af ag;have ax:=ak ah;have ay:=ak ai;clear ah ai;have HB:=ak (Below.refl w.heap.size w);have H:=h;clear h;unfold impl_IsDone.f at H;obtain rfl:=Option.some.inj H;go_enter Try.func43,Try.ntmps43;go_wp2_with (first|((with_reducible refine gate_dst (N:=3) rfl ?_);refine bx_ (N:=3) #[.int .i64 L,.slice U D.length X,.slice Y I.length Z,.slice aa J.length ab] 57 ?_;intro az hg w3 hbox hb;have al:=ak hbox;have a9:=gy hg HB;replace HB:=bs HB hb;clear hb hbox hg;obtain⟨_,_,_,_,_,_,_,_⟩:=bc4 al))
 go_ret
 exact⟨RT,PB⟩

/-! ### impl_IsState: function 91 -/
def impl_IsState.f (k:Nat)(L:Int)(D:List Int)(I:List Int)(J:List Int):Option (Bool):=(impl_InRange.f L 0 19).bind fun U=>(if U=true then(if (D.length:Int)=4 then(if (I.length:Int)=3 then(if (J.length:Int)=4 then((impl_allIn.f k D 0 999).bind fun X=>(if X=true then((impl_allIn.f k I 0 999).bind fun Y=>(if Y=true then((impl_allIn.f k J 0 999).bind fun Z=>(some Z)) else(some false))) else(some false))) else(some false)) else(some false)) else(some false)) else(some false))
theorem impl_IsState.calls (k:Nat)(D:Int)(X:Option Addr)(Y:Nat)(I:List Int)(Z:Option Addr)(aa:Nat)(J:List Int)(ab:Option Addr)(ac:Nat)(L:List Int)(r:Bool)(w:World)(ao:Kd.C (Kd.int .i64) w X I.length I)(ap:I.length≤Y)(aq:Kd.C (Kd.int .i64) w Z J.length J)(ar:J.length≤aa)(au:Kd.C (Kd.int .i64) w ab L.length L)(av:L.length≤ac)(h:impl_IsState.f k D I J L=some r) :
  Calls Try.prog 91 #[.agg #[.int .i64 D,.slice X I.length Y,.slice Z J.length aa,.slice ab L.length ac]] w fun e w'=>e = .returned (.bool r)∧Below w.heap.size w w':=by
 have dy:=Try.underlying57;have ag:=ak ao;have ah:=ak ap;clear ao ap;have aw:=ak aq;have ax:=ak ar;clear aq ar;have a9:=ak au;have ba:=ak av;clear au av;have HB:=ak (Below.refl w.heap.size w);have H:=h;clear h;unfold impl_IsState.f at H;replace H:=Option.bind_eq_some_iff.mp H;obtain⟨bg,bd,H⟩:=H;(try dsimp only at H);have A2:=ak bd;clear bd
 by_cases c3:bg=true
 ·subst c3;rw[if_pos rfl] at H
  by_cases c4:(I.length:Int)=4
  ·rw[if_pos c4] at H;have bh:((I.length:Int) == 4)=true:=beq_iff_eq.mpr c4;have bi:((I.length:Int) != 4)=false:=bne_eq_false_iff_eq.mpr c4;clear c4
   by_cases c5:(J.length:Int)=3
   ·rw[if_pos c5] at H;have bj:((J.length:Int) == 3)=true:=beq_iff_eq.mpr c5;have bk:((J.length:Int) != 3)=false:=bne_eq_false_iff_eq.mpr c5;clear c5
    by_cases c6:(L.length:Int)=4
    ·rw[if_pos c6] at H;have bl:((L.length:Int) == 4)=true:=beq_iff_eq.mpr c6;have bm:((L.length:Int) != 4)=false:=bne_eq_false_iff_eq.mpr c6;clear c6;replace H:=Option.bind_eq_some_iff.mp H;obtain⟨bn,be,H⟩:=H;(try dsimp only at H);have A7:=ak be;clear be
     by_cases c8:bn=true
     ·subst c8;rw[if_pos rfl] at H;replace H:=Option.bind_eq_some_iff.mp H;obtain⟨bp,bf,H⟩:=H;(try dsimp only at H);have A9:=ak bf;clear bf
      by_cases ay:bp=true
      ·subst ay;rw[if_pos rfl] at H;replace H:=Option.bind_eq_some_iff.mp H;obtain⟨br,az,H⟩:=H;(try dsimp only at H);have dx:=ak az;clear az;obtain rfl:=Option.some.inj H;go_enter Try.func91,Try.ntmps91;go_wp2_with (first|((with_reducible refine gate_dst (N:=1) rfl ?_);(try(refine gate_guard (by rfl) ?_;dsimp only));refine bx_ (N:=1) #[.int .i64 D,.slice X I.length Y,.slice Z J.length aa,.slice ab L.length ac] 57 ?_;intro ae hg dz hbox hb;have U:=ak hbox;have af:=gy hg HB;replace HB:=bs HB hb;clear hb hbox hg;obtain⟨bt,bu,bv,bw,bx,bz,b0,b4⟩:=bc4 U)|((with_reducible refine gate_callee (f:=69) rfl ?_);refine goesL_ (some 5) rfl rfl Try.func69 KR rfl #[.int .i64 D,.int .i64 0,.int .i64 19] rfl AR ?_;(with_reducible refine(impl_InRange.calls D 0 19 true _ A2.out).mono ?_);rintro e w' ⟨rfl,⟨nd,rfl⟩⟩;refine⟨_,rfl,?_⟩)|(go_at_call 70;(with_reducible refine(impl_allIn.calls k _ _ I 0 999 true _ ?side1 ?side2 A7.out).mono ?_);(case side1=>repeat(first|exact(Kd.C_below ag.out PB)|(with_reducible refine Kd.C_alloc ?_ _)|(with_reducible refine Kd.C_drewN ?_ _)|(with_reducible refine Kd.C_drew ?_)));(case side2=>exact ah.out);rintro e w' ⟨rfl,⟨nd,rfl⟩⟩)|(go_at_call 70;(with_reducible refine(impl_allIn.calls k _ _ J 0 999 true _ ?side1 ?side2 A9.out).mono ?_);(case side1=>repeat(first|exact(Kd.C_below aw.out PB)|(with_reducible refine Kd.C_alloc ?_ _)|(with_reducible refine Kd.C_drewN ?_ _)|(with_reducible refine Kd.C_drew ?_)));(case side2=>exact ax.out);rintro e w' ⟨rfl,⟨nd,rfl⟩⟩)|(go_at_call 70;(with_reducible refine(impl_allIn.calls k _ _ L 0 999 br _ ?side1 ?side2 dx.out).mono ?_);(case side1=>repeat(first|exact(Kd.C_below a9.out PB)|(with_reducible refine Kd.C_alloc ?_ _)|(with_reducible refine Kd.C_drewN ?_ _)|(with_reducible refine Kd.C_drew ?_)));(case side2=>exact ba.out);rintro e w' ⟨rfl,⟨nd,rfl⟩⟩))
       go_ret
       exact⟨RT,PB⟩
      ·replace ay:=Bool.eq_false_iff.mpr ay;subst ay;rw[if_neg (show ¬(false=true) by decide)] at H;obtain rfl:=Option.some.inj H;go_enter Try.func91,Try.ntmps91;go_wp2_with (first|((with_reducible refine gate_dst (N:=1) rfl ?_);(try(refine gate_guard (by rfl) ?_;dsimp only));refine bx_ (N:=1) #[.int .i64 D,.slice X I.length Y,.slice Z J.length aa,.slice ab L.length ac] 57 ?_;intro ae hg d0 hbox hb;have U:=ak hbox;have af:=gy hg HB;replace HB:=bs HB hb;clear hb hbox hg;obtain⟨b5,b6,b7,b8,b9,ca,cb,cd⟩:=bc4 U)|((with_reducible refine gate_callee (f:=69) rfl ?_);refine goesL_ (some 5) rfl rfl Try.func69 KR rfl #[.int .i64 D,.int .i64 0,.int .i64 19] rfl AR ?_;(with_reducible refine(impl_InRange.calls D 0 19 true _ A2.out).mono ?_);rintro e w' ⟨rfl,⟨nd,rfl⟩⟩;refine⟨_,rfl,?_⟩)|(go_at_call 70;(with_reducible refine(impl_allIn.calls k _ _ I 0 999 true _ ?side1 ?side2 A7.out).mono ?_);(case side1=>repeat(first|exact(Kd.C_below ag.out PB)|(with_reducible refine Kd.C_alloc ?_ _)|(with_reducible refine Kd.C_drewN ?_ _)|(with_reducible refine Kd.C_drew ?_)));(case side2=>exact ah.out);rintro e w' ⟨rfl,⟨nd,rfl⟩⟩)|(go_at_call 70;(with_reducible refine(impl_allIn.calls k _ _ J 0 999 false _ ?side1 ?side2 A9.out).mono ?_);(case side1=>repeat(first|exact(Kd.C_below aw.out PB)|(with_reducible refine Kd.C_alloc ?_ _)|(with_reducible refine Kd.C_drewN ?_ _)|(with_reducible refine Kd.C_drew ?_)));(case side2=>exact ax.out);rintro e w' ⟨rfl,⟨nd,rfl⟩⟩))
       go_ret
       exact⟨RT,PB⟩
     ·replace c8:=Bool.eq_false_iff.mpr c8;subst c8;rw[if_neg (show ¬(false=true) by decide)] at H;obtain rfl:=Option.some.inj H;go_enter Try.func91,Try.ntmps91;go_wp2_with (first|((with_reducible refine gate_dst (N:=1) rfl ?_);(try(refine gate_guard (by rfl) ?_;dsimp only));refine bx_ (N:=1) #[.int .i64 D,.slice X I.length Y,.slice Z J.length aa,.slice ab L.length ac] 57 ?_;intro ae hg d5 hbox hb;have U:=ak hbox;have af:=gy hg HB;replace HB:=bs HB hb;clear hb hbox hg;obtain⟨ce,cf,cg,ch,ci,cj,ck,cl⟩:=bc4 U)|((with_reducible refine gate_callee (f:=69) rfl ?_);refine goesL_ (some 5) rfl rfl Try.func69 KR rfl #[.int .i64 D,.int .i64 0,.int .i64 19] rfl AR ?_;(with_reducible refine(impl_InRange.calls D 0 19 true _ A2.out).mono ?_);rintro e w' ⟨rfl,⟨nd,rfl⟩⟩;refine⟨_,rfl,?_⟩)|(go_at_call 70;(with_reducible refine(impl_allIn.calls k _ _ I 0 999 false _ ?side1 ?side2 A7.out).mono ?_);(case side1=>repeat(first|exact(Kd.C_below ag.out PB)|(with_reducible refine Kd.C_alloc ?_ _)|(with_reducible refine Kd.C_drewN ?_ _)|(with_reducible refine Kd.C_drew ?_)));(case side2=>exact ah.out);rintro e w' ⟨rfl,⟨nd,rfl⟩⟩))
      go_ret
      exact⟨RT,PB⟩
    ·rw[if_neg c6] at H;have bl:((L.length:Int) == 4)=false:=beq_eq_false_iff_ne.mpr c6;have bm:((L.length:Int) != 4)=true:=bne_iff_ne.mpr c6;obtain rfl:=Option.some.inj H;go_enter Try.func91,Try.ntmps91;go_wp2_with (first|((with_reducible refine gate_dst (N:=1) rfl ?_);(try(refine gate_guard (by rfl) ?_;dsimp only));refine bx_ (N:=1) #[.int .i64 D,.slice X I.length Y,.slice Z J.length aa,.slice ab L.length ac] 57 ?_;intro ae hg d6 hbox hb;have U:=ak hbox;have af:=gy hg HB;replace HB:=bs HB hb;clear hb hbox hg;obtain⟨cm,cn,co,cp,cq,cr,ct,cu⟩:=bc4 U)|((with_reducible refine gate_callee (f:=69) rfl ?_);refine goesL_ (some 5) rfl rfl Try.func69 KR rfl #[.int .i64 D,.int .i64 0,.int .i64 19] rfl AR ?_;(with_reducible refine(impl_InRange.calls D 0 19 true _ A2.out).mono ?_);rintro e w' ⟨rfl,⟨nd,rfl⟩⟩;refine⟨_,rfl,?_⟩))
     go_ret
     exact⟨RT,PB⟩
   ·rw[if_neg c5] at H;have bj:((J.length:Int) == 3)=false:=beq_eq_false_iff_ne.mpr c5;have bk:((J.length:Int) != 3)=true:=bne_iff_ne.mpr c5;obtain rfl:=Option.some.inj H;go_enter Try.func91,Try.ntmps91;go_wp2_with (first|((with_reducible refine gate_dst (N:=1) rfl ?_);(try(refine gate_guard (by rfl) ?_;dsimp only));refine bx_ (N:=1) #[.int .i64 D,.slice X I.length Y,.slice Z J.length aa,.slice ab L.length ac] 57 ?_;intro ae hg d7 hbox hb;have U:=ak hbox;have af:=gy hg HB;replace HB:=bs HB hb;clear hb hbox hg;obtain⟨cv,cw,cx,cy,cz,da,db,dc⟩:=bc4 U)|((with_reducible refine gate_callee (f:=69) rfl ?_);refine goesL_ (some 5) rfl rfl Try.func69 KR rfl #[.int .i64 D,.int .i64 0,.int .i64 19] rfl AR ?_;(with_reducible refine(impl_InRange.calls D 0 19 true _ A2.out).mono ?_);rintro e w' ⟨rfl,⟨nd,rfl⟩⟩;refine⟨_,rfl,?_⟩))
    go_ret
    exact⟨RT,PB⟩
  ·rw[if_neg c4] at H;have bh:((I.length:Int) == 4)=false:=beq_eq_false_iff_ne.mpr c4;have bi:((I.length:Int) != 4)=true:=bne_iff_ne.mpr c4;obtain rfl:=Option.some.inj H;go_enter Try.func91,Try.ntmps91;go_wp2_with (first|((with_reducible refine gate_dst (N:=1) rfl ?_);(try(refine gate_guard (by rfl) ?_;dsimp only));refine bx_ (N:=1) #[.int .i64 D,.slice X I.length Y,.slice Z J.length aa,.slice ab L.length ac] 57 ?_;intro ae hg d8 hbox hb;have U:=ak hbox;have af:=gy hg HB;replace HB:=bs HB hb;clear hb hbox hg;obtain⟨de,df,dg,dh,di,dj,dk,dl⟩:=bc4 U)|((with_reducible refine gate_callee (f:=69) rfl ?_);refine goesL_ (some 5) rfl rfl Try.func69 KR rfl #[.int .i64 D,.int .i64 0,.int .i64 19] rfl AR ?_;(with_reducible refine(impl_InRange.calls D 0 19 true _ A2.out).mono ?_);rintro e w' ⟨rfl,⟨nd,rfl⟩⟩;refine⟨_,rfl,?_⟩))
   go_ret
   exact⟨RT,PB⟩
 ·replace c3:=Bool.eq_false_iff.mpr c3;subst c3;rw[if_neg (show ¬(false=true) by decide)] at H;obtain rfl:=Option.some.inj H;go_enter Try.func91,Try.ntmps91;go_wp2_with (first|((with_reducible refine gate_dst (N:=1) rfl ?_);(try(refine gate_guard (by rfl) ?_;dsimp only));refine bx_ (N:=1) #[.int .i64 D,.slice X I.length Y,.slice Z J.length aa,.slice ab L.length ac] 57 ?_;intro ae hg d9 hbox hb;have U:=ak hbox;have af:=gy hg HB;replace HB:=bs HB hb;clear hb hbox hg;obtain⟨dm,dn,dp,dq,dr,dt,du,dv⟩:=bc4 U)|((with_reducible refine gate_callee (f:=69) rfl ?_);refine goesL_ (some 5) rfl rfl Try.func69 KR rfl #[.int .i64 D,.int .i64 0,.int .i64 19] rfl AR ?_;(with_reducible refine(impl_InRange.calls D 0 19 false _ A2.out).mono ?_);rintro e w' ⟨rfl,⟨nd,rfl⟩⟩;refine⟨_,rfl,?_⟩))
  go_ret
  exact⟨RT,PB⟩

end Go.Proofs.Ythojdjnchhkafaa.MFnExactTraceVisit
