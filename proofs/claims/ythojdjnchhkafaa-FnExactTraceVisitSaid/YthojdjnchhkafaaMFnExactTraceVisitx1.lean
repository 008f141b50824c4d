-- Written by a program of this session out of the translation's own print. Not trusted: Lean checks it.
import Derived.Test.YthojdjnchhkafaaShr2
import Derived.Test.YthojdjnchhkafaaMFnExactTraceVisitx0
namespace Go.Proofs.Ythojdjnchhkafaa.MFnExactTraceVisit
open Go.RowKit Go.Proofs.YthojdjnchhkafaaW.PrintWords Go.Proofs.YthojdjnchhkafaaW.PrintLast Go.Proofs.YthojdjnchhkafaaW.PrintMore
attribute [local go_sem] max2_int min2_int max_two min_two max_three min_three max_four min_four   -- for this text's walks alone
set_option linter.unusedVariables false
set_option maxHeartbeats 8000000
set_option maxRecDepth 100000
set_option linter.unusedSimpArgs false

theorem eqA73 (d:Nat)(w:World)(D I:Int)(J L:Int)(U X:Int) :
    (Op.equalIn (d+2) 73 (.agg #[.int .i64 D,.int .i64 J,.int .i64 U]) (.agg #[.int .i64 I,.int .i64 L,.int .i64 X])).run Try.prog w = .ok (D == I && (J == L && (U == X))) w:=by
  refine eqA_of Try.underlying73 KR ?_;refine eqf_cons (by rfl) (by go_simp;rfl) (by go_simp;rfl) (by go_simp) ?_;refine eqf_cons (by rfl) (by go_simp;rfl) (by go_simp;rfl) (by go_simp) ?_;exact eqf_last (by rfl) (by go_simp;rfl) (by go_simp;rfl) (by go_simp)

/-! ### laws_szOpS: function 4 -/
def laws_szOpS.f (D:List (S52))(I:Int):Option (Int):=if (wrap64 (I - (D.length:Int))) < 0 then(some (-1)) else(some (wrap64 (I - (D.length:Int))))
theorem laws_szOpS.calls (Y:Option Addr)(Z:Nat)(D:List (S52))(J:Int)(r:Int)(w:World)(L:Kd.C k52 w Y D.length D)(U:D.length≤Z)(h:laws_szOpS.f D J=some r) :
  Calls Try.prog 4 #[.slice Y D.length Z,.int .i64 J] w fun e w'=>e = .returned (.int .i64 r)∧Drawn0 w w':=by
 have aa:=ak L;have ab:=ak U;clear L U;have H:=h;clear h;unfold laws_szOpS.f at H
 by_cases I:(wrap64 (J - (D.length:Int))) < 0
 ·rw[if_pos I] at H;have X:decide ((wrap64 (J - (D.length:Int))) < 0)=true:=decide_eq_true I;clear I;obtain rfl:=Option.some.inj H;go_enter Try.func4,Try.ntmps4;go_wp2
  go_ret
  exact⟨FR,by repeat(first|exact Drawn0.refl _ | apply Drawn0.step)⟩
 ·rw[if_neg I] at H;have X:decide ((wrap64 (J - (D.length:Int))) < 0)=false:=decide_eq_false I;clear I;obtain rfl:=Option.some.inj H;go_enter Try.func4,Try.ntmps4;go_wp2
  go_ret
  exact⟨FR,by repeat(first|exact Drawn0.refl _ | apply Drawn0.step)⟩

/-! ### laws_szIntS: function 18 -/
def laws_szIntS.f (D:List Int)(I:Int):Option (Int):=if (wrap64 (I - (D.length:Int))) < 0 then(some (-1)) else(some (wrap64 (I - (D.length:Int))))
theorem laws_szIntS.calls (Y:Option Addr)(Z:Nat)(D:List Int)(J:Int)(r:Int)(w:World)(L:Kd.C (Kd.int .i64) w Y D.length D)(U:D.length≤Z)(h:laws_szIntS.f D J=some r) :
  Calls Try.prog 18 #[.slice Y D.length Z,.int .i64 J] w fun e w'=>e = .returned (.int .i64 r)∧Drawn0 w w':=by
 have aa:=ak L;have ab:=ak U;clear L U;have H:=h;clear h;unfold laws_szIntS.f at H
 by_cases I:(wrap64 (J - (D.length:Int))) < 0
 ·rw[if_pos I] at H;have X:decide ((wrap64 (J - (D.length:Int))) < 0)=true:=decide_eq_true I;clear I;obtain rfl:=Option.some.inj H;go_enter Try.func18,Try.ntmps18;go_wp2
  go_ret
  exact⟨FR,by repeat(first|exact Drawn0.refl _ | apply Drawn0.step)⟩
 ·rw[if_neg I] at H;have X:decide ((wrap64 (J - (D.length:Int))) < 0)=false:=decide_eq_false I;clear I;obtain rfl:=Option.some.inj H;go_enter Try.func18,Try.ntmps18;go_wp2
  go_ret
  exact⟨FR,by repeat(first|exact Drawn0.refl _ | apply Drawn0.step)⟩

/-! ### laws_szResource: function 48 -/
def laws_szResource.f (J:Int)(I:List Int)(L:Int)(U:Int)(X:Int)(Y:Int):Option (Int):=(laws_szIntS.f I Y).bind fun D=>(if D < 0 then(some (-1)) else(some D))
theorem laws_szResource.calls (U:Int)(I:Option Addr)(J:Nat)(D:List Int)(X:Int)(Y:Int)(Z:Int)(a1:Int)(r:Int)(w:World)(ab:Kd.C (Kd.int .i64) w I D.length D)(ac:D.length≤J)(h:laws_szResource.f U D X Y Z a1=some r) :
  Calls Try.prog 48 #[.agg #[.int .i64 U,.slice I D.length J,.int .i64 X,.int .i64 Y,.int .i64 Z],.int .i64 a1] w fun e w'=>e = .returned (.int .i64 r)∧Below w.heap.size w w':=by
 have ba:=Try.underlying66;have ae:=ak ab;have af:=ak ac;clear ab ac;have HB:=ak (Below.refl w.heap.size w);have H:=h;clear h;unfold laws_szResource.f at H;replace H:=Option.bind_eq_some_iff.mp H;obtain⟨L,al,H⟩:=H;(try dsimp only at H);have A3:=ak al;clear al
 by_cases c4:L < 0
 ·rw[if_pos c4] at H;have am:decide (L < 0)=true:=decide_eq_true c4;clear c4;obtain rfl:=Option.some.inj H;go_enter Try.func48,Try.ntmps48;go_wp2_with (first|((with_reducible refine gate_dst (N:=2) rfl ?_);refine bx_ (N:=2) #[.int .i64 U,.slice I D.length J,.int .i64 X,.int .i64 Y,.int .i64 Z] 66 ?_;intro ai hg w5 hbox hb;have aa:=ak hbox;have aj:=gy hg HB;replace HB:=bs HB hb;clear hb hbox hg;obtain⟨ap,aq,ar,au,av,aw,ax,ay,az,a9⟩:=bc5 aa)|((with_reducible refine gate_callee (f:=18) rfl ?_);refine goesL_ (some 8) rfl rfl Try.func18 KR rfl #[.slice I D.length J,.int .i64 a1] rfl AR ?_;(with_reducible refine(laws_szIntS.calls _ _ D a1 L _ ?side1 ?side2 A3.out).mono ?_);(case side1=>exact CR (Kd.C_below ae.out HB.out));(case side2=>exact af.out);rintro e w' ⟨rfl,⟨nd,rfl⟩⟩;refine⟨_,rfl,?_⟩))
  go_ret
  exact⟨RT,PB⟩
 ·rw[if_neg c4] at H;have am:decide (L < 0)=false:=decide_eq_false c4;clear c4;obtain rfl:=Option.some.inj H;go_enter Try.func48,Try.ntmps48;go_wp2_with (first|((with_reducible refine gate_dst (N:=2) rfl ?_);refine bx_ (N:=2) #[.int .i64 U,.slice I D.length J,.int .i64 X,.int .i64 Y,.int .i64 Z] 66 ?_;intro ai hg w7 hbox hb;have aa:=ak hbox;have aj:=gy hg HB;replace HB:=bs HB hb;clear hb hbox hg;obtain⟨_,_,_,_,_,_,_,_,_,_⟩:=bc5 aa)|((with_reducible refine gate_callee (f:=18) rfl ?_);refine goesL_ (some 8) rfl rfl Try.func18 KR rfl #[.slice I D.length J,.int .i64 a1] rfl AR ?_;(with_reducible refine(laws_szIntS.calls _ _ D a1 L _ ?side1 ?side2 A3.out).mono ?_);(case side1=>exact CR (Kd.C_below ae.out HB.out));(case side2=>exact af.out);rintro e w' ⟨rfl,⟨nd,rfl⟩⟩;refine⟨_,rfl,?_⟩))
  go_ret
  exact⟨RT,PB⟩

/-! ### laws_szVersion: function 31 -/
def laws_szVersion.f (Y:Int)(Z:Int)(aa:Int)(ab:Int)(I:Int)(J:List Int)(L:Int)(U:Int)(X:Int)(a1:Int):Option (Int):=(laws_szResource.f I J L U X a1).bind fun D=>(if D < 0 then(some (-1)) else(some D))
theorem laws_szVersion.calls (ab:Int)(ac:Int)(ae:Int)(af:Int)(J:Int)(Y:Option Addr)(Z:Nat)(D:List Int)(L:Int)(U:Int)(X:Int)(a1:Int)(r:Int)(w:World)(ag:Kd.C (Kd.int .i64) w Y D.length D)(ah:D.length≤Z)(h:laws_szVersion.f ab ac ae af J D L U X a1=some r) :
  Calls Try.prog 31 #[.agg #[.int .i64 ab,.int .i64 ac,.int .i64 ae,.int .i64 af,.int .i64 J,.slice Y D.length Z,.int .i64 L,.int .i64 U,.int .i64 X],.int .i64 a1] w fun e w'=>e = .returned (.int .i64 r)∧Below w.heap.size w w':=by
 have be:=Try.underlying68;have bf:=Try.underlying66;have ai:=ak ag;have aj:=ak ah;clear ag ah;have HB:=ak (Below.refl w.heap.size w);have H:=h;clear h;unfold laws_szVersion.f at H;replace H:=Option.bind_eq_some_iff.mp H;obtain⟨aa,aq,H⟩:=H;(try dsimp only at H);have A3:=ak aq;clear aq
 by_cases c4:aa < 0
 ·rw[if_pos c4] at H;have ar:decide (aa < 0)=true:=decide_eq_true c4;clear c4;obtain rfl:=Option.some.inj H;go_enter Try.func31,Try.ntmps31;go_wp2_with (first|((with_reducible refine gate_dst (N:=2) rfl ?_);refine bx_ (N:=2) #[.int .i64 ab,.int .i64 ac,.int .i64 ae,.int .i64 af,.int .i64 J,.slice Y D.length Z,.int .i64 L,.int .i64 U,.int .i64 X] 68 ?_;intro ao hg w5 hbox hb;have I:=ak hbox;have ap:=gy hg HB;replace HB:=bs HB hb;clear hb hbox hg;obtain⟨av,aw,ax,ay,az,_,_,_,_,a9,ba,bb,bc,bd,_,_,_,_⟩:=bc9 I)|((with_reducible refine gate_callee (f:=48) rfl ?_);refine goesL_ (some 8) rfl rfl Try.func48 KR rfl #[.agg #[.int .i64 J,.slice Y D.length Z,.int .i64 L,.int .i64 U,.int .i64 X],.int .i64 a1] rfl AR ?_;(with_reducible refine(laws_szResource.calls J _ _ D L U X a1 aa _ ?side1 ?side2 A3.out).mono ?_);(case side1=>exact CR (Kd.C_below ai.out HB.out));(case side2=>exact aj.out);rintro e w7 ⟨rfl,hb⟩;refine⟨_,rfl,?_⟩;replace I:=kf I hb;replace HB:=bs HB hb;clear hb))
  go_ret
  exact⟨RT,PB⟩
 ·rw[if_neg c4] at H;have ar:decide (aa < 0)=false:=decide_eq_false c4;clear c4;obtain rfl:=Option.some.inj H;go_enter Try.func31,Try.ntmps31;go_wp2_with (first|((with_reducible refine gate_dst (N:=2) rfl ?_);refine bx_ (N:=2) #[.int .i64 ab,.int .i64 ac,.int .i64 ae,.int .i64 af,.int .i64 J,.slice Y D.length Z,.int .i64 L,.int .i64 U,.int .i64 X] 68 ?_;intro ao hg w8 hbox hb;have I:=ak hbox;have ap:=gy hg HB;replace HB:=bs HB hb;clear hb hbox hg;obtain⟨_,_,_,_,_,_,_,_,_,_,_,_,_,_,_,_,_,_⟩:=bc9 I)|((with_reducible refine gate_callee (f:=48) rfl ?_);refine goesL_ (some 8) rfl rfl Try.func48 KR rfl #[.agg #[.int .i64 J,.slice Y D.length Z,.int .i64 L,.int .i64 U,.int .i64 X],.int .i64 a1] rfl AR ?_;(with_reducible refine(laws_szResource.calls J _ _ D L U X a1 aa _ ?side1 ?side2 A3.out).mono ?_);(case side1=>exact CR (Kd.C_below ai.out HB.out));(case side2=>exact aj.out);rintro e bg ⟨rfl,hb⟩;refine⟨_,rfl,?_⟩;replace I:=kf I hb;replace HB:=bs HB hb;clear hb))
  go_ret
  exact⟨RT,PB⟩

/-! ### laws_szVersionS: function 17 -/
def laws_szVersionS.l0:Nat→List (S68)→Int→Int→Option (Int)
  | 0,_,_,_=>none
  | k+1,I,L,D=>if D < (I.length:Int) then(if 0≤D then((laws_szVersion.f ((rd_T68 I D).f0.f0) ((rd_T68 I D).f0.f1) ((rd_T68 I D).f0.f2) ((rd_T68 I D).f1) ((rd_T68 I D).f2.f0) ((rd_T68 I D).f2.f1) ((rd_T68 I D).f2.f2.f0) ((rd_T68 I D).f2.f2.f1) ((rd_T68 I D).f2.f2.f2) L).bind fun J=>(if J < 0 then(some (-1)) else(laws_szVersionS.l0 k I J (wrap64 (D+1))))) else(none)) else(some L)
def laws_szVersionS.f (k:Nat)(D:List (S68))(I:Int):Option (Int):=if (wrap64 (I - (D.length:Int))) < 0 then(some (-1)) else(laws_szVersionS.l0 k D (wrap64 (I - (D.length:Int))) 0)
theorem laws_szVersionS.calls (k:Nat)(A0:Option Addr)(c0:Nat)(I:List (S68))(a1:Int)(r:Int)(w:World)(a9:Kd.C k68 w A0 I.length I)(ba:I.length≤c0)(h:laws_szVersionS.f k I a1=some r) :
  Calls Try.prog 17 #[.slice A0 I.length c0,.int .i64 a1] w fun e w'=>e = .returned (.int .i64 r)∧Below w.heap.size w w':=by
 have bj:=Try.underlying68;have bb:=ak a9;have bn:=ak ba;clear a9 ba;have HB:=ak (Below.refl w.heap.size w);have H:=h;clear h;unfold laws_szVersionS.f at H
 by_cases c3:(wrap64 (a1 - (I.length:Int))) < 0
 ·rw[if_pos c3] at H;have ax:decide ((wrap64 (a1 - (I.length:Int))) < 0)=true:=decide_eq_true c3;clear c3;obtain rfl:=Option.some.inj H;go_enter Try.func17,Try.ntmps17;go_wp2
  go_ret
  exact⟨RT,PB⟩
 ·rw[if_neg c3] at H;have ax:decide ((wrap64 (a1 - (I.length:Int))) < 0)=false:=decide_eq_false c3;clear c3;have H':=ak H;clear H;go_enter Try.func17,Try.ntmps17;go_wp2
  go_loopg [1,5] k (fun kq v1 v5 w'=>∃(ag:Int)(D:Int),v1 = .int .i64 ag∧v5 = .int .i64 D∧Aside0 (laws_szVersionS.l0 kq I ag D=some r)∧Aside0 (kq≤k)∧Aside0 (Below w.heap.size w w'))
  case atStart=>exact⟨(wrap64 (a1 - (I.length:Int))),(0),FR,FR,H',⟨Nat.le_refl _⟩,⟨PB⟩⟩
  case round =>
   clear H';(try clear c1);(try clear p2);(try clear c3);(try clear ax);obtain⟨ag,D,rfl,rfl,HA,bc,HB⟩:=hrel
   cases gk with
   | zero=>exact absurd HA.out (by simp[laws_szVersionS.l0])
   | succ k1 =>
    have H:=HA.out;clear HA;simp only[laws_szVersionS.l0] at H
    by_cases c4:D < (I.length:Int)
    ·rw[if_pos c4] at H;have be:decide (D < (I.length:Int))=true:=decide_eq_true c4;clear c4
     by_cases c5:0≤D
     ·rw[if_pos c5] at H;have bm:decide (0≤D)=true:=decide_eq_true c5;clear c5;replace H:=Option.bind_eq_some_iff.mp H;obtain⟨aj,bd,H⟩:=H;(try dsimp only at H);have A6:=ak bd;clear bd
      by_cases c7:aj < 0
      ·rw[if_pos c7] at H;have bf:decide (aj < 0)=true:=decide_eq_true c7;clear c7;obtain rfl:=Option.some.inj H;have ah:0≤(D:Int):=od;have ai:D < (I.length:Int):=od;obtain⟨az,ao,ap,ar,J,L,U,X,Y,Z,aa,ab,ac,ae,af⟩:=at_T68 bb.out D ah ai;cases ar;replace J:=hx_ HB J;replace L:=hx_ HB L;replace U:=hx_ HB U;replace X:=hx_ HB X;replace Y:=hx_ HB Y;replace Z:=hx_ HB Z;replace aa:=hx_ HB aa;replace ab:=hx_ HB ab;replace ac:=hx_ HB ac;have al:=ak af;have am:=ak ae;clear af ae;replace ah:=eq_true ah;replace ai:=eq_true ai;go_wp2_with (first|((with_reducible refine gate_callee (f:=31) rfl ?_);refine goesL_ (some 23) rfl rfl Try.func31 KR rfl #[.agg #[.int .i64 ((rd_T68 I D).f0.f0),.int .i64 ((rd_T68 I D).f0.f1),.int .i64 ((rd_T68 I D).f0.f2),.int .i64 ((rd_T68 I D).f1),.int .i64 ((rd_T68 I D).f2.f0),.slice ao ((rd_T68 I D).f2.f1).length ap,.int .i64 ((rd_T68 I D).f2.f2.f0),.int .i64 ((rd_T68 I D).f2.f2.f1),.int .i64 ((rd_T68 I D).f2.f2.f2)],.int .i64 ag] rfl AR ?_;(with_reducible refine(laws_szVersion.calls ((rd_T68 I D).f0.f0) ((rd_T68 I D).f0.f1) ((rd_T68 I D).f0.f2) ((rd_T68 I D).f1) ((rd_T68 I D).f2.f0) _ _ ((rd_T68 I D).f2.f1) ((rd_T68 I D).f2.f2.f0) ((rd_T68 I D).f2.f2.f1) ((rd_T68 I D).f2.f2.f2) ag aj _ ?side1 ?side2 A6.out).mono ?_);(case side1=>exact CR (Kd.C_below al.out HB.out));(case side2=>exact am.out);rintro e w8 ⟨rfl,hb⟩;refine⟨_,rfl,?_⟩;replace HB:=bs HB hb;clear hb))
       go_ret
       exact⟨RT,PB⟩
      ·rw[if_neg c7] at H;have bf:decide (aj < 0)=false:=decide_eq_false c7;clear c7;have H':=ak H;clear H;have ah:0≤(D:Int):=od;have ai:D < (I.length:Int):=od;obtain⟨az,ao,ap,ar,J,L,U,X,Y,Z,aa,ab,ac,ae,af⟩:=at_T68 bb.out D ah ai;cases ar;replace J:=hx_ HB J;replace L:=hx_ HB L;replace U:=hx_ HB U;replace X:=hx_ HB X;replace Y:=hx_ HB Y;replace Z:=hx_ HB Z;replace aa:=hx_ HB aa;replace ab:=hx_ HB ab;replace ac:=hx_ HB ac;have al:=ak af;have am:=ak ae;clear af ae;replace ah:=eq_true ah;replace ai:=eq_true ai;go_wp2_with (first|((with_reducible refine gate_callee (f:=31) rfl ?_);refine goesL_ (some 23) rfl rfl Try.func31 KR rfl #[.agg #[.int .i64 ((rd_T68 I D).f0.f0),.int .i64 ((rd_T68 I D).f0.f1),.int .i64 ((rd_T68 I D).f0.f2),.int .i64 ((rd_T68 I D).f1),.int .i64 ((rd_T68 I D).f2.f0),.slice ao ((rd_T68 I D).f2.f1).length ap,.int .i64 ((rd_T68 I D).f2.f2.f0),.int .i64 ((rd_T68 I D).f2.f2.f1),.int .i64 ((rd_T68 I D).f2.f2.f2)],.int .i64 ag] rfl AR ?_;(with_reducible refine(laws_szVersion.calls ((rd_T68 I D).f0.f0) ((rd_T68 I D).f0.f1) ((rd_T68 I D).f0.f2) ((rd_T68 I D).f1) ((rd_T68 I D).f2.f0) _ _ ((rd_T68 I D).f2.f1) ((rd_T68 I D).f2.f2.f0) ((rd_T68 I D).f2.f2.f1) ((rd_T68 I D).f2.f2.f2) ag aj _ ?side1 ?side2 A6.out).mono ?_);(case side1=>exact CR (Kd.C_below al.out HB.out));(case side2=>exact am.out);rintro e w9 ⟨rfl,hb⟩;refine⟨_,rfl,?_⟩;replace HB:=bs HB hb;clear hb))
       go_roundg k1
       case measure=>have:=bc.out;omega
       case rel=>exact⟨(aj),(wrap64 (D+1)),FR,FR,H',⟨by have:=bc.out;omega⟩,⟨PB⟩⟩
     ·rw[if_neg c5] at H;exact absurd H (by simp)
    ·rw[if_neg c4] at H;have be:decide (D < (I.length:Int))=false:=decide_eq_false c4;clear c4;obtain rfl:=Option.some.inj H;go_wp2
     go_ret
     exact⟨RT,PB⟩

/-! ### laws_szVisit: function 5 -/
def laws_szVisit.f (k:Nat)(J:List (S68))(U:Int)(X:Int)(L:List Int)(Y:Int):Option (Int):=(laws_szVersionS.f k J Y).bind fun D=>(if D < 0 then(some (-1)) else((laws_szIntS.f L D).bind fun I=>(if I < 0 then(some (-1)) else(some I))))
theorem laws_szVisit.calls (k:Nat)(U:Option Addr)(X:Nat)(I:List (S68))(aa:Int)(ab:Int)(Y:Option Addr)(Z:Nat)(J:List Int)(a1:Int)(r:Int)(w:World)(ah:Kd.C k68 w U I.length I)(ai:I.length≤X)(aj:Kd.C (Kd.int .i64) w Y J.length J)(al:J.length≤Z)(h:laws_szVisit.f k I aa ab J a1=some r) :
  Calls Try.prog 5 #[.agg #[.slice U I.length X,.int .i64 aa,.int .i64 ab,.slice Y J.length Z],.int .i64 a1] w fun e w'=>e = .returned (.int .i64 r)∧Below w.heap.size w w':=by
 have br:=Try.underlying26;have ae:=ak ah;have af:=ak ai;clear ah ai;have am:=ak aj;have ao:=ak al;clear aj al;have HB:=ak (Below.refl w.heap.size w);have H:=h;clear h;unfold laws_szVisit.f at H;replace H:=Option.bind_eq_some_iff.mp H;obtain⟨L,av,H⟩:=H;(try dsimp only at H);have A3:=ak av;clear av
 by_cases c4:L < 0
 ·rw[if_pos c4] at H;have ay:decide (L < 0)=true:=decide_eq_true c4;clear c4;obtain rfl:=Option.some.inj H;go_enter Try.func5,Try.ntmps5;go_wp2_with (first|((with_reducible refine gate_dst (N:=2) rfl ?_);refine bx_ (N:=2) #[.slice U I.length X,.int .i64 aa,.int .i64 ab,.slice Y J.length Z] 26 ?_;intro ap hg w5 hbox hb;have D:=ak hbox;have aq:=gy hg HB;replace HB:=bs HB hb;clear hb hbox hg;obtain⟨bh,bi,bj,bk,bl,bm,bn,bo⟩:=bc4 D)|((with_reducible refine gate_callee (f:=17) rfl ?_);refine goesL_ (some 8) rfl rfl Try.func17 KR rfl #[.slice U I.length X,.int .i64 a1] rfl AR ?_;(with_reducible refine(laws_szVersionS.calls k _ _ I a1 L _ ?side1 ?side2 A3.out).mono ?_);(case side1=>exact CR (Kd.C_below ae.out HB.out));(case side2=>exact af.out);rintro e w7 ⟨rfl,hb⟩;refine⟨_,rfl,?_⟩;replace D:=kf D hb;replace HB:=bs HB hb;clear hb))
  go_ret
  exact⟨RT,PB⟩
 ·rw[if_neg c4] at H;have ay:decide (L < 0)=false:=decide_eq_false c4;clear c4;replace H:=Option.bind_eq_some_iff.mp H;obtain⟨ac,aw,H⟩:=H;(try dsimp only at H);have A8:=ak aw;clear aw
  by_cases c9:ac < 0
  ·rw[if_pos c9] at H;have az:decide (ac < 0)=true:=decide_eq_true c9;clear c9;obtain rfl:=Option.some.inj H;go_enter Try.func5,Try.ntmps5;go_wp2_with (first|((with_reducible refine gate_dst (N:=2) rfl ?_);refine bx_ (N:=2) #[.slice U I.length X,.int .i64 aa,.int .i64 ab,.slice Y J.length Z] 26 ?_;intro ap hg bt hbox hb;have D:=ak hbox;have aq:=gy hg HB;replace HB:=bs HB hb;clear hb hbox hg;obtain⟨a9,ba,bb,bc,bd,be,bf,bg⟩:=bc4 D)|((with_reducible refine gate_callee (f:=17) rfl ?_);refine goesL_ (some 8) rfl rfl Try.func17 KR rfl #[.slice U I.length X,.int .i64 a1] rfl AR ?_;(with_reducible refine(laws_szVersionS.calls k _ _ I a1 L _ ?side1 ?side2 A3.out).mono ?_);(case side1=>exact CR (Kd.C_below ae.out HB.out));(case side2=>exact af.out);rintro e bu ⟨rfl,hb⟩;refine⟨_,rfl,?_⟩;replace D:=kf D hb;replace HB:=bs HB hb;clear hb;obtain⟨_,_,_,_,_,_,_,_⟩:=bc4 D)|((with_reducible refine gate_callee (f:=18) rfl ?_);refine goesL_ (some 14) rfl rfl Try.func18 KR rfl #[.slice Y J.length Z,.int .i64 L] rfl AR ?_;(with_reducible refine(laws_szIntS.calls _ _ J L ac _ ?side1 ?side2 A8.out).mono ?_);(case side1=>exact CR (Kd.C_below am.out HB.out));(case side2=>exact ao.out);rintro e w' ⟨rfl,⟨nd,rfl⟩⟩;refine⟨_,rfl,?_⟩))
   go_ret
   exact⟨RT,PB⟩
  ·rw[if_neg c9] at H;have az:decide (ac < 0)=false:=decide_eq_false c9;clear c9;obtain rfl:=Option.some.inj H;go_enter Try.func5,Try.ntmps5;go_wp2_with (first|((with_reducible refine gate_dst (N:=2) rfl ?_);refine bx_ (N:=2) #[.slice U I.length X,.int .i64 aa,.int .i64 ab,.slice Y J.length Z] 26 ?_;intro ap hg bv hbox hb;have D:=ak hbox;have aq:=gy hg HB;replace HB:=bs HB hb;clear hb hbox hg;obtain⟨_,_,_,_,_,_,_,_⟩:=bc4 D)|((with_reducible refine gate_callee (f:=17) rfl ?_);refine goesL_ (some 8) rfl rfl Try.func17 KR rfl #[.slice U I.length X,.int .i64 a1] rfl AR ?_;(with_reducible refine(laws_szVersionS.calls k _ _ I a1 L _ ?side1 ?side2 A3.out).mono ?_);(case side1=>exact CR (Kd.C_below ae.out HB.out));(case side2=>exact af.out);rintro e bw ⟨rfl,hb⟩;refine⟨_,rfl,?_⟩;replace D:=kf D hb;replace HB:=bs HB hb;clear hb;obtain⟨_,_,_,_,_,_,_,_⟩:=bc4 D)|((with_reducible refine gate_callee (f:=18) rfl ?_);refine goesL_ (some 14) rfl rfl Try.func18 KR rfl #[.slice Y J.length Z,.int .i64 L] rfl AR ?_;(with_reducible refine(laws_szIntS.calls _ _ J L ac _ ?side1 ?side2 A8.out).mono ?_);(case side1=>exact CR (Kd.C_below am.out HB.out));(case side2=>exact ao.out);rintro e w' ⟨rfl,⟨nd,rfl⟩⟩;refine⟨_,rfl,?_⟩))
   go_ret
   exact⟨RT,PB⟩

/-! ### spec_l11Zeros: function 49 -/
def spec_l11Zeros.l0:Nat→Int→List Int→Int→Option (List Int)
  | 0,_,_,_=>none
  | k+1,I,D,J=>if J < I then(if D.length < 17592186044416 then(spec_l11Zeros.l0 k I (D++[0]) (wrap64 (J+1))) else(none)) else(some D)
def spec_l11Zeros.f (k:Nat)(D:Int):Option (List Int):=spec_l11Zeros.l0 k D (([]:List Int)) 0
theorem spec_l11Zeros.calls (k:Nat)(U:Int)(r:List Int)(w:World)(h:spec_l11Zeros.f k U=some r) :
  Calls Try.prog 49 #[.int .i64 U] w fun e w'=>∃ ah:Value,e = .returned (ah)∧Kd.R (Kd.int .i64) 3 w' w.heap.size (fun _=>True) ah r∧Below w.heap.size w w':=by
 have HB:=ak (Below.refl w.heap.size w);have H:=h;clear h;unfold spec_l11Zeros.f at H;obtain⟨aa,J⟩:∃ y_:List Int,y_=(([]:List Int)):=⟨_,rfl⟩
 replace H:(spec_l11Zeros.l0 k U aa 0)=some r:=by first|(rw[J];with_reducible exact H)|(have H2_:=(Option.bind_some _ _).symm.trans H;rw[J];with_reducible exact H2_)|exact H
 have Y:=ak J;clear J;have H':=ak H;clear H;go_enter Try.func49,Try.ntmps49;go_wp2_with (first|((with_reducible refine gate_dst (N:=5) rfl ?_);refine Kd.R_lit (Kd.int .i64) _ 3 ?hg (N:=5) ?hd (xs:=([]:List Int)) (inner:=[]) (ok:=fun _=>True) (okp:=fun _=>True) ?hr ?hp (fun _ hk=>hk) trivial (Below.refl _ _) (Nat.le_refl _) (by simp) ?_;(case hd=>rfl);(case hg=>rfl);(case hr=>first|(go_simp;done)|(go_simp;rfl));(case hp=>exact(Reps.none _ _));intro am w2 ho3 hb hg_ hnew_;clear hg_ hnew_;(first|rw[←Y.out] at ho3|(simp only[Int.reduceToNat] at ho3;rw[←Y.out] at ho3));have ac:=Rn0 ho3 HB;replace HB:=bs HB hb;clear hb ho3))
 go_loopg [3,4] k (fun kq v3 v4 w'=>∃(I:List Int)(D:Int),v4 = .int .i64 D∧Aside0 (spec_l11Zeros.l0 kq U I D=some r)∧Aside0 (kq≤k)∧Aside0 (Kd.R (Kd.int .i64) 3 w' w.heap.size (fun _=>True) v3 I)∧Aside0 (Below w.heap.size w w'))
 case atStart=>exact⟨(aa),(0),FR,H',⟨Nat.le_refl _⟩,⟨PR ac⟩,⟨PB⟩⟩
 case round =>
  clear H'
  try clear p2
  obtain⟨I,D,rfl,HA,ai,X,HB⟩:=hrel
  cases gk with
  | zero=>exact absurd HA.out (by simp[spec_l11Zeros.l0])
  | succ k1 =>
   have H:=HA.out;clear HA;simp only[spec_l11Zeros.l0] at H
   by_cases Z:D < U
   ·rw[if_pos Z] at H;have aj:decide (D < U)=true:=decide_eq_true Z;clear Z
    by_cases c5:I.length < 17592186044416
    ·rw[if_pos c5] at H;have al:=ak c5;clear c5;obtain⟨ab,L⟩:∃ y_:List Int,y_=(I++[0]):=⟨_,rfl⟩
     replace H:(spec_l11Zeros.l0 k1 U ab (wrap64 (D+1)))=some r:=by first|(rw[L];with_reducible exact H)|(have H2_:=(Option.bind_some _ _).symm.trans H;rw[L];with_reducible exact H2_)|exact H
     have af:=ak L;clear L;have H':=ak H;clear H;go_wp2_with (first|((with_reducible refine gate_builtin (b:=.append) (xs:=#[.tmp 11,.tmp 12]) rfl ?_);at_builtin;refine Kd.R_append (Kd.int .i64) (w0:=w) w.heap.size rfl (.tmp 11) (.tmp 12) 24 3 (.int .i64 0) 8 rfl Try.underlying24 info3 rfl (by decide) (by omega) u3 I 0 [.int .i64 0] (fun _=>True) (fun _=>False) rfl rfl ?aP (fun _ hk=>hk.elim) ?aF ?aO ?aB ?aS ?aL ?_;(case aP=>exact rfl);(case aB=>exact PB);(case aF=>exact(fun _ _=>trivial));(case aO=>exact(PR X));(case aS=>exact(below_size PB));(case aL=>have:=al.out;omega);intro aq w6 ho hb hg hat;rw[←af.out] at ho;replace HB:=ak hb;have ag:=ak (ho);clear X;clear ho hb hg hat))
     go_roundg k1
     case measure=>have:=ai.out;omega
     case rel=>exact⟨(ab),(wrap64 (D+1)),FR,H',⟨by have:=ai.out;omega⟩,⟨PR ag⟩,⟨PB⟩⟩
    ·rw[if_neg c5] at H;exact absurd H (by simp)
   ·rw[if_neg Z] at H;have aj:decide (D < U)=false:=decide_eq_false Z;clear Z;obtain rfl:=Option.some.inj H;go_wp2
    go_ret
    exact⟨_,RT,by(with_reducible repeat(first|apply Kd.R_alloc | apply Kd.R_drewN | apply Kd.R_drew));exact X.out,PB⟩

/-! ### spec_StartState: function 32 -/
def spec_StartState.f (k:Nat)  : Option (Int×List Int×List Int×List Int):=(spec_l11Zeros.f k 4).bind fun D=>((spec_l11Zeros.f k 3).bind fun I=>((spec_l11Zeros.f k 4).bind fun J=>(some (0,D,I,J))))
theorem spec_StartState.calls (k:Nat)  (r1:Int)(r2:List Int)(r3:List Int)(r4:List Int)(w:World)(h:spec_StartState.f k =some (r1,r2,r3,r4)) :
  Calls Try.prog 32 #[] w fun e w'=>∃ L U X:Value,e = .returned (.agg #[.int .i64 r1,L,U,X])∧Kd.R (Kd.int .i64) 3 w' w.heap.size (fun k_=>some k_≠(U:Value).ownBlock∧some k_≠(X:Value).ownBlock) L r2∧Kd.R (Kd.int .i64) 3 w' w.heap.size (fun k_=>some k_≠(L:Value).ownBlock∧some k_≠(X:Value).ownBlock) U r3∧Kd.R (Kd.int .i64) 3 w' w.heap.size (fun k_=>some k_≠(L:Value).ownBlock∧some k_≠(U:Value).ownBlock) X r4∧Below w.heap.size w w':=by
 have a9:=Try.underlying57;have HB:=ak (Below.refl w.heap.size w);have H:=h;clear h;unfold spec_StartState.f at H;replace H:=Option.bind_eq_some_iff.mp H;obtain⟨Z,ae,H⟩:=H;(try dsimp only at H);have A1:=ak ae;clear ae;replace H:=Option.bind_eq_some_iff.mp H;obtain⟨aa,af,H⟩:=H;(try dsimp only at H);have A2:=ak af;clear af;replace H:=Option.bind_eq_some_iff.mp H;obtain⟨ab,ag,H⟩:=H;(try dsimp only at H);have A3:=ak ag;clear ag;simp only[Option.some.injEq,Prod.mk.injEq] at H;obtain⟨rfl,rfl,rfl,rfl⟩:=H;go_enter Try.func32,Try.ntmps32;go_wp2_with (first|((with_reducible refine gate_dst (N:=0) rfl ?_);refine bx_ (N:=0) #[.int .i64 0,.slice none 0 0,.slice none 0 0,.slice none 0 0] 57 ?_;intro ac hg w4 hbox hb;have D:=ak hbox;have az:=gy hg HB;replace HB:=bs HB hb;clear hb hbox hg)|((with_reducible refine gate_callee (f:=49) rfl ?_);refine goesL_ (some 1) rfl rfl Try.func49 KR rfl #[.int .i64 4] rfl AR ?_;(with_reducible refine(spec_l11Zeros.calls k 4 Z _ A1.out).mono ?_);rintro e w5 ⟨bd,rfl,ho0,hb⟩;refine⟨_,rfl,?_⟩;have I:=Rn0 ho0 HB;replace D:=kf D hb;replace HB:=bs HB hb;clear hb ho0)|((with_reducible refine gate_callee (f:=49) rfl ?_);refine goesL_ (some 2) rfl rfl Try.func49 KR rfl #[.int .i64 3] rfl AR ?_;(with_reducible refine(spec_l11Zeros.calls k 3 aa _ A2.out).mono ?_);rintro e w6 ⟨be,rfl,ho0,hb⟩;refine⟨_,rfl,?_⟩;have J:=Rn1 ho0 HB I;replace I:=ak (Kd.R_elder' (PR I) (Kd.R_base ho0) hb);replace D:=kf D hb;replace HB:=bs HB hb;clear hb ho0)|((with_reducible refine gate_callee (f:=49) rfl ?_);refine goesL_ (some 3) rfl rfl Try.func49 KR rfl #[.int .i64 4] rfl AR ?_;(with_reducible refine(spec_l11Zeros.calls k 4 ab _ A3.out).mono ?_);rintro e w7 ⟨bf,rfl,ho0,hb⟩;refine⟨_,rfl,?_⟩;have Y:=Rn2 ho0 HB I J;replace I:=ak (Kd.R_elder' (PR I) (Kd.R_base ho0) hb);replace J:=ak (Kd.R_elder' (PR J) (Kd.R_base ho0) hb);replace D:=kf D hb;replace HB:=bs HB hb;clear hb ho0;obtain⟨av,aw,rfl⟩:=Kd.R_slice Y.out;obtain⟨ax,ay,rfl⟩:=Kd.R_slice J.out;obtain⟨ah,ai,rfl⟩:=Kd.R_slice I.out;obtain⟨aj,al,am,ao,ap,aq,ar,au⟩:=bc4 D));refine bodyPost_ret (results_cell_row rfl _ _ ac 57 #[.int .i64 0,.slice ah Z.length ai,.slice ax aa.length ay,.slice av ab.length aw] (0,0) _ rfl (PX D) Try.underlying57 rfl KR) rfl ?_;exact⟨_,_,_,RT,RX (Rt I.out D) (fun _ hk=>by first|exact⟨hk.1.1.2,hk.1.2⟩ | simp_all),RX (Rt J.out D) (fun _ hk=>by first|exact⟨hk.1.1.2,hk.1.2⟩ | simp_all),RX (Rt Y.out D) (fun _ hk=>by first|exact⟨hk.1.1.2,hk.1.2⟩ | simp_all),PB⟩

/-! ### spec_l1In: function 52 -/
def spec_l1In.f (D:Int)(I:Int)(J:Int):Option (Bool):=if D≥I then(some (decide (D≤J))) else(some false)
theorem spec_l1In.calls (I:Int)(J:Int)(U:Int)(r:Bool)(w:World)(h:spec_l1In.f I J U=some r) :
  Calls Try.prog 52 #[.int .i64 I,.int .i64 J,.int .i64 U] w fun e w'=>e = .returned (.bool r)∧Drawn0 w w':=by
 have H:=h;clear h;unfold spec_l1In.f at H
 by_cases D:I≥J
 ·rw[if_pos D] at H;have L:decide (J≤I)=true:=decide_eq_true D;clear D;obtain rfl:=Option.some.inj H;go_enter Try.func52,Try.ntmps52;go_wp2
  go_ret
  exact⟨FR,by repeat(first|exact Drawn0.refl _ | apply Drawn0.step)⟩
 ·rw[if_neg D] at H;have L:decide (J≤I)=false:=decide_eq_false D;clear D;obtain rfl:=Option.some.inj H;go_enter Try.func52,Try.ntmps52;go_wp2
  go_ret
  exact⟨FR,by repeat(first|exact Drawn0.refl _ | apply Drawn0.step)⟩

end Go.Proofs.Ythojdjnchhkafaa.MFnExactTraceVisit
