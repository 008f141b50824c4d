import Derived.Test.YtenpfphghheggaaShr2
import Derived.Test.YtenpfphghheggaaMFnExactCapturesOfx0
namespace Go.Proofs.Ytenpfphghheggaa.MFnExactCapturesOf
open Go.RowKit Go.Proofs.YtenpfphghheggaaW.PrintWords Go.Proofs.YtenpfphghheggaaW.PrintLast Go.Proofs.YtenpfphghheggaaW.PrintMore
attribute [local go_sem] max2_int min2_int max_two min_two max_three min_three max_four min_four
set_option linter.unusedVariables false
set_option maxHeartbeats 8000000
set_option maxRecDepth 100000
set_option linter.unusedSimpArgs false

theorem eqA52 (d:Nat)(w:World)(D J:Int)(U X:Int)(Y Z:Int) :
    (Op.equalIn (d+2) 52 (.agg #[.int .i64 D,.int .i64 U,.int .i64 Y]) (.agg #[.int .i64 J,.int .i64 X,.int .i64 Z])).run Try.prog w = .ok (D == J && (U == X && (Y == Z))) w:=by
  refine eqA_of Try.underlying52 KR ?_;refine eqf_cons (by rfl) (by go_simp;rfl) (by go_simp;rfl) (by go_simp) ?_;refine eqf_cons (by rfl) (by go_simp;rfl) (by go_simp;rfl) (by go_simp) ?_;exact eqf_last (by rfl) (by go_simp;rfl) (by go_simp;rfl) (by go_simp)
def laws_szOpS.f (D:List (S65))(J:Int):Option (Int):=if (wrap64 (J - (D.length:Int))) < 0 then(some (-1)) else(some (wrap64 (J - (D.length:Int))))
theorem laws_szOpS.calls (A0:Option Addr)(c0:Nat)(D:List (S65))(U:Int)(r:Int)(w:World)(X:Kd.C k65 w A0 D.length D)(Y:D.length≤c0)(h:laws_szOpS.f D U=some r) :
  Calls Try.prog 4 #[.slice A0 D.length c0,.int .i64 U] w fun e w'=>e = .returned (.int .i64 r)∧Drawn0 w w':=by
 have ac:=ak X;have ae:=ak Y;clear X Y;have H:=h;clear h;unfold laws_szOpS.f at H
 by_cases J:(wrap64 (U - (D.length:Int))) < 0
 ·rw[if_pos J] at H;have Z:decide ((wrap64 (U - (D.length:Int))) < 0)=true:=decide_eq_true J;clear J;obtain rfl:=Option.some.inj H;go_enter Try.func4,Try.ntmps4;go_wp2
  go_ret
  exact⟨FR,by repeat(first|exact Drawn0.refl _ | apply Drawn0.step)⟩
 ·rw[if_neg J] at H;have Z:decide ((wrap64 (U - (D.length:Int))) < 0)=false:=decide_eq_false J;clear J;obtain rfl:=Option.some.inj H;go_enter Try.func4,Try.ntmps4;go_wp2
  go_ret
  exact⟨FR,by repeat(first|exact Drawn0.refl _ | apply Drawn0.step)⟩
def laws_szIntS.f (D:List Int)(J:Int):Option (Int):=if (wrap64 (J - (D.length:Int))) < 0 then(some (-1)) else(some (wrap64 (J - (D.length:Int))))
theorem laws_szIntS.calls (A0:Option Addr)(c0:Nat)(D:List Int)(U:Int)(r:Int)(w:World)(X:Kd.C (Kd.int .i64) w A0 D.length D)(Y:D.length≤c0)(h:laws_szIntS.f D U=some r) :
  Calls Try.prog 18 #[.slice A0 D.length c0,.int .i64 U] w fun e w'=>e = .returned (.int .i64 r)∧Drawn0 w w':=by
 have ac:=ak X;have ae:=ak Y;clear X Y;have H:=h;clear h;unfold laws_szIntS.f at H
 by_cases J:(wrap64 (U - (D.length:Int))) < 0
 ·rw[if_pos J] at H;have Z:decide ((wrap64 (U - (D.length:Int))) < 0)=true:=decide_eq_true J;clear J;obtain rfl:=Option.some.inj H;go_enter Try.func18,Try.ntmps18;go_wp2
  go_ret
  exact⟨FR,by repeat(first|exact Drawn0.refl _ | apply Drawn0.step)⟩
 ·rw[if_neg J] at H;have Z:decide ((wrap64 (U - (D.length:Int))) < 0)=false:=decide_eq_false J;clear J;obtain rfl:=Option.some.inj H;go_enter Try.func18,Try.ntmps18;go_wp2
  go_ret
  exact⟨FR,by repeat(first|exact Drawn0.refl _ | apply Drawn0.step)⟩
def laws_szResource.f (U:Int)(J:List Int)(X:Int)(Y:Int)(Z:Int)(a1:Int):Option (Int):=(laws_szIntS.f J a1).bind fun D=>(if D < 0 then(some (-1)) else(some D))
theorem laws_szResource.calls (Y:Int)(J:Option Addr)(U:Nat)(D:List Int)(Z:Int)(aa:Int)(ab:Int)(a1:Int)(r:Int)(w:World)(ae:Kd.C (Kd.int .i64) w J D.length D)(af:D.length≤U)(h:laws_szResource.f Y D Z aa ab a1=some r) :
  Calls Try.prog 46 #[.agg #[.int .i64 Y,.slice J D.length U,.int .i64 Z,.int .i64 aa,.int .i64 ab],.int .i64 a1] w fun e w'=>e = .returned (.int .i64 r)∧Below w.heap.size w w':=by
 have bd:=Try.underlying76;have ag:=ak ae;have ah:=ak af;clear ae af;have HB:=ak (Below.refl w.heap.size w);have H:=h;clear h;unfold laws_szResource.f at H;replace H:=Option.bind_eq_some_iff.mp H;obtain⟨X,ao,H⟩:=H;(try dsimp only at H);have A3:=ak ao;clear ao
 by_cases c4:X < 0
 ·rw[if_pos c4] at H;have ap:decide (X < 0)=true:=decide_eq_true c4;clear c4;obtain rfl:=Option.some.inj H;go_enter Try.func46,Try.ntmps46;go_wp2_with (first|((with_reducible refine gate_dst (N:=2) rfl ?_);refine bx_ (N:=2) #[.int .i64 Y,.slice J D.length U,.int .i64 Z,.int .i64 aa,.int .i64 ab] 76 ?_;intro al hg w5 hbox hb;have ac:=ak hbox;have am:=gy hg HB;replace HB:=bs HB hb;clear hb hbox hg;obtain⟨ar,au,av,aw,ax,ay,az,ba,bb,bc⟩:=bc5 ac)|(go_at_call 18;(with_reducible refine(laws_szIntS.calls _ _ D a1 X _ ?side1 ah.out A3.out).mono ?_);(case side1=>exact Cq ag);rintro e w' ⟨rfl,⟨nd,rfl⟩⟩))
  go_ret
  exact⟨RT,PB⟩
 ·rw[if_neg c4] at H;have ap:decide (X < 0)=false:=decide_eq_false c4;clear c4;obtain rfl:=Option.some.inj H;go_enter Try.func46,Try.ntmps46;go_wp2_with (first|((with_reducible refine gate_dst (N:=2) rfl ?_);refine bx_ (N:=2) #[.int .i64 Y,.slice J D.length U,.int .i64 Z,.int .i64 aa,.int .i64 ab] 76 ?_;intro al hg w7 hbox hb;have ac:=ak hbox;have am:=gy hg HB;replace HB:=bs HB hb;clear hb hbox hg;obtain⟨_,_,_,_,_,_,_,_,_,_⟩:=bc5 ac)|(go_at_call 18;(with_reducible refine(laws_szIntS.calls _ _ D a1 X _ ?side1 ah.out A3.out).mono ?_);(case side1=>exact Cq ag);rintro e w' ⟨rfl,⟨nd,rfl⟩⟩))
  go_ret
  exact⟨RT,PB⟩
def laws_szVersion.f (aa:Int)(ab:Int)(ac:Int)(ae:Int)(J:Int)(U:List Int)(X:Int)(Y:Int)(Z:Int)(a1:Int):Option (Int):=(laws_szResource.f J U X Y Z a1).bind fun D=>(if D < 0 then(some (-1)) else(some D))
theorem laws_szVersion.calls (ae:Int)(af:Int)(ag:Int)(ah:Int)(U:Int)(aa:Option Addr)(ab:Nat)(D:List Int)(X:Int)(Y:Int)(Z:Int)(a1:Int)(r:Int)(w:World)(ai:Kd.C (Kd.int .i64) w aa D.length D)(aj:D.length≤ab)(h:laws_szVersion.f ae af ag ah U D X Y Z a1=some r) :
  Calls Try.prog 33 #[.agg #[.int .i64 ae,.int .i64 af,.int .i64 ag,.int .i64 ah,.int .i64 U,.slice aa D.length ab,.int .i64 X,.int .i64 Y,.int .i64 Z],.int .i64 a1] w fun e w'=>e = .returned (.int .i64 r)∧Below w.heap.size w w':=by
 have bi:=Try.underlying78;have bj:=Try.underlying76;have al:=ak ai;have am:=ak aj;clear ai aj;have HB:=ak (Below.refl w.heap.size w);have H:=h;clear h;unfold laws_szVersion.f at H;replace H:=Option.bind_eq_some_iff.mp H;obtain⟨ac,au,H⟩:=H;(try dsimp only at H);have A3:=ak au;clear au
 by_cases c4:ac < 0
 ·rw[if_pos c4] at H;have av:decide (ac < 0)=true:=decide_eq_true c4;clear c4;obtain rfl:=Option.some.inj H;go_enter Try.func33,Try.ntmps33;go_wp2_with (first|((with_reducible refine gate_dst (N:=2) rfl ?_);refine bx_ (N:=2) #[.int .i64 ae,.int .i64 af,.int .i64 ag,.int .i64 ah,.int .i64 U,.slice aa D.length ab,.int .i64 X,.int .i64 Y,.int .i64 Z] 78 ?_;intro aq hg w5 hbox hb;have J:=ak hbox;have ar:=gy hg HB;replace HB:=bs HB hb;clear hb hbox hg;obtain⟨ax,ay,az,ba,bb,_,_,_,_,bc,bd,bf,bg,bh,_,_,_,_⟩:=bc9 J)|(go_at_call 46;(with_reducible refine(laws_szResource.calls U _ _ D X Y Z a1 ac _ ?side1 am.out A3.out).mono ?_);(case side1=>exact Cq al);rintro e w7 ⟨rfl,hb⟩;replace J:=kf J hb;replace HB:=bs HB hb;clear hb))
  go_ret
  exact⟨RT,PB⟩
 ·rw[if_neg c4] at H;have av:decide (ac < 0)=false:=decide_eq_false c4;clear c4;obtain rfl:=Option.some.inj H;go_enter Try.func33,Try.ntmps33;go_wp2_with (first|((with_reducible refine gate_dst (N:=2) rfl ?_);refine bx_ (N:=2) #[.int .i64 ae,.int .i64 af,.int .i64 ag,.int .i64 ah,.int .i64 U,.slice aa D.length ab,.int .i64 X,.int .i64 Y,.int .i64 Z] 78 ?_;intro aq hg w8 hbox hb;have J:=ak hbox;have ar:=gy hg HB;replace HB:=bs HB hb;clear hb hbox hg;obtain⟨_,_,_,_,_,_,_,_,_,_,_,_,_,_,_,_,_,_⟩:=bc9 J)|(go_at_call 46;(with_reducible refine(laws_szResource.calls U _ _ D X Y Z a1 ac _ ?side1 am.out A3.out).mono ?_);(case side1=>exact Cq al);rintro e bk ⟨rfl,hb⟩;replace J:=kf J hb;replace HB:=bs HB hb;clear hb))
  go_ret
  exact⟨RT,PB⟩
def laws_szVersionS.l0:Nat→List (S78)→Int→Int→Option (Int)
  | 0,_,_,_=>none
  | k+1,J,X,D=>if D < (J.length:Int) then(if 0≤D then((laws_szVersion.f ((rd_T78 J D).f0.f0) ((rd_T78 J D).f0.f1) ((rd_T78 J D).f0.f2) ((rd_T78 J D).f1) ((rd_T78 J D).f2.f0) ((rd_T78 J D).f2.f1) ((rd_T78 J D).f2.f2.f0) ((rd_T78 J D).f2.f2.f1) ((rd_T78 J D).f2.f2.f2) X).bind fun U=>(if U < 0 then(some (-1)) else(laws_szVersionS.l0 k J U (wrap64 (D+1))))) else(none)) else(some X)
def laws_szVersionS.f (k:Nat)(D:List (S78))(J:Int):Option (Int):=if (wrap64 (J - (D.length:Int))) < 0 then(some (-1)) else(laws_szVersionS.l0 k D (wrap64 (J - (D.length:Int))) 0)
theorem laws_szVersionS.calls (k:Nat)(A0:Option Addr)(c0:Nat)(J:List (S78))(a1:Int)(r:Int)(w:World)(bc:Kd.C k78 w A0 J.length J)(bd:J.length≤c0)(h:laws_szVersionS.f k J a1=some r) :
  Calls Try.prog 17 #[.slice A0 J.length c0,.int .i64 a1] w fun e w'=>e = .returned (.int .i64 r)∧Below w.heap.size w w':=by
 have bo:=Try.underlying78;have bf:=ak bc;have bv:=ak bd;clear bc bd;have HB:=ak (Below.refl w.heap.size w);have H:=h;clear h;unfold laws_szVersionS.f at H
 by_cases c3:(wrap64 (a1 - (J.length:Int))) < 0
 ·rw[if_pos c3] at H;have az:decide ((wrap64 (a1 - (J.length:Int))) < 0)=true:=decide_eq_true c3;clear c3;obtain rfl:=Option.some.inj H;go_enter Try.func17,Try.ntmps17;go_wp2
  go_ret
  exact⟨RT,PB⟩
 ·rw[if_neg c3] at H;have az:decide ((wrap64 (a1 - (J.length:Int))) < 0)=false:=decide_eq_false c3;clear c3;have H':=ak H;clear H;go_enter Try.func17,Try.ntmps17;go_wp2
  go_loopg [1,5] k (fun kq v1 v5 w'=>∃(ai:Int)(D:Int),v1 = .int .i64 ai∧v5 = .int .i64 D∧Aside0 (laws_szVersionS.l0 kq J ai D=some r)∧Aside0 (kq≤k)∧Aside0 (Below w.heap.size w w'))
  case atStart=>exact⟨(wrap64 (a1 - (J.length:Int))),(0),FR,FR,H',⟨Nat.le_refl _⟩,⟨PB⟩⟩
  case round =>
   clear H';(try clear c1);(try clear p2);(try clear c3);(try clear az);obtain⟨ai,D,rfl,rfl,HA,bg,HB⟩:=hrel
   cases gk with
   | zero=>exact absurd HA.out (by simp[laws_szVersionS.l0])
   | succ k1 =>
    have H:=HA.out;clear HA;simp only[laws_szVersionS.l0] at H
    by_cases c4:D < (J.length:Int)
    ·rw[if_pos c4] at H;have bi:decide (D < (J.length:Int))=true:=decide_eq_true c4;clear c4
     by_cases c5:0≤D
     ·rw[if_pos c5] at H;have bu:decide (0≤D)=true:=decide_eq_true c5;clear c5;replace H:=Option.bind_eq_some_iff.mp H;obtain⟨am,bh,H⟩:=H;(try dsimp only at H);have A6:=ak bh;clear bh
      by_cases c7:am < 0
      ·rw[if_pos c7] at H;have bj:decide (am < 0)=true:=decide_eq_true c7;clear c7;obtain rfl:=Option.some.inj H;have aj:0≤(D:Int):=od;have al:D < (J.length:Int):=od;obtain⟨bb,aq,ar,av,U,X,Y,Z,aa,ab,ac,ae,af,ag,ah⟩:=at_T78 bf.out D aj al;cases av;replace U:=hx_ HB U;replace X:=hx_ HB X;replace Y:=hx_ HB Y;replace Z:=hx_ HB Z;replace aa:=hx_ HB aa;replace ab:=hx_ HB ab;replace ac:=hx_ HB ac;replace ae:=hx_ HB ae;replace af:=hx_ HB af;have ao:=ak ah;have ap:=ak ag;clear ah ag;replace aj:=eq_true aj;replace al:=eq_true al;go_wp2_with (first|(go_at_call 33;(with_reducible refine(laws_szVersion.calls ((rd_T78 J D).f0.f0) ((rd_T78 J D).f0.f1) ((rd_T78 J D).f0.f2) ((rd_T78 J D).f1) ((rd_T78 J D).f2.f0) _ _ ((rd_T78 J D).f2.f1) ((rd_T78 J D).f2.f2.f0) ((rd_T78 J D).f2.f2.f1) ((rd_T78 J D).f2.f2.f2) ai am _ ?side1 ap.out A6.out).mono ?_);(case side1=>exact Cq ao);rintro e w8 ⟨rfl,hb⟩;replace HB:=bs HB hb;clear hb))
       go_ret
       exact⟨RT,PB⟩
      ·rw[if_neg c7] at H;have bj:decide (am < 0)=false:=decide_eq_false c7;clear c7;have H':=ak H;clear H;have aj:0≤(D:Int):=od;have al:D < (J.length:Int):=od;obtain⟨bb,aq,ar,av,U,X,Y,Z,aa,ab,ac,ae,af,ag,ah⟩:=at_T78 bf.out D aj al;cases av;replace U:=hx_ HB U;replace X:=hx_ HB X;replace Y:=hx_ HB Y;replace Z:=hx_ HB Z;replace aa:=hx_ HB aa;replace ab:=hx_ HB ab;replace ac:=hx_ HB ac;replace ae:=hx_ HB ae;replace af:=hx_ HB af;have ao:=ak ah;have ap:=ak ag;clear ah ag;replace aj:=eq_true aj;replace al:=eq_true al;go_wp2_with (first|(go_at_call 33;(with_reducible refine(laws_szVersion.calls ((rd_T78 J D).f0.f0) ((rd_T78 J D).f0.f1) ((rd_T78 J D).f0.f2) ((rd_T78 J D).f1) ((rd_T78 J D).f2.f0) _ _ ((rd_T78 J D).f2.f1) ((rd_T78 J D).f2.f2.f0) ((rd_T78 J D).f2.f2.f1) ((rd_T78 J D).f2.f2.f2) ai am _ ?side1 ap.out A6.out).mono ?_);(case side1=>exact Cq ao);rintro e w9 ⟨rfl,hb⟩;replace HB:=bs HB hb;clear hb))
       go_roundg k1
       case measure=>have:=bg.out;omega
       case rel=>exact⟨(am),(wrap64 (D+1)),FR,FR,H',⟨by have:=bg.out;omega⟩,⟨PB⟩⟩
     ·rw[if_neg c5] at H;exact absurd H (by simp)
    ·rw[if_neg c4] at H;have bi:decide (D < (J.length:Int))=false:=decide_eq_false c4;clear c4;obtain rfl:=Option.some.inj H;go_wp2
     go_ret
     exact⟨RT,PB⟩
def laws_szVisit.f (k:Nat)(U:List (S78))(Y:Int)(Z:Int)(X:List Int)(a1:Int):Option (Int):=(laws_szVersionS.f k U a1).bind fun D=>(if D < 0 then(some (-1)) else((laws_szIntS.f X D).bind fun J=>(if J < 0 then(some (-1)) else(some J))))
theorem laws_szVisit.calls (k:Nat)(Y:Option Addr)(Z:Nat)(J:List (S78))(ac:Int)(ae:Int)(aa:Option Addr)(ab:Nat)(U:List Int)(a1:Int)(r:Int)(w:World)(aj:Kd.C k78 w Y J.length J)(al:J.length≤Z)(am:Kd.C (Kd.int .i64) w aa U.length U)(ao:U.length≤ab)(h:laws_szVisit.f k J ac ae U a1=some r) :
  Calls Try.prog 5 #[.agg #[.slice Y J.length Z,.int .i64 ac,.int .i64 ae,.slice aa U.length ab],.int .i64 a1] w fun e w'=>e = .returned (.int .i64 r)∧Below w.heap.size w w':=by
 have bz:=Try.underlying26;have ag:=ak aj;have ah:=ak al;clear aj al;have ap:=ak am;have aq:=ak ao;clear am ao;have HB:=ak (Below.refl w.heap.size w);have H:=h;clear h;unfold laws_szVisit.f at H;replace H:=Option.bind_eq_some_iff.mp H;obtain⟨X,ax,H⟩:=H;(try dsimp only at H);have A3:=ak ax;clear ax
 by_cases c4:X < 0
 ·rw[if_pos c4] at H;have ba:decide (X < 0)=true:=decide_eq_true c4;clear c4;obtain rfl:=Option.some.inj H;go_enter Try.func5,Try.ntmps5;go_wp2_with (first|((with_reducible refine gate_dst (N:=2) rfl ?_);refine bx_ (N:=2) #[.slice Y J.length Z,.int .i64 ac,.int .i64 ae,.slice aa U.length ab] 26 ?_;intro ar hg w5 hbox hb;have D:=ak hbox;have au:=gy hg HB;replace HB:=bs HB hb;clear hb hbox hg;obtain⟨bl,bm,bo,bp,br,bu,bv,bw⟩:=bc4 D)|(go_at_call 17;(with_reducible refine(laws_szVersionS.calls k _ _ J a1 X _ ?side1 ah.out A3.out).mono ?_);(case side1=>exact Cq ag);rintro e w7 ⟨rfl,hb⟩;replace D:=kf D hb;replace HB:=bs HB hb;clear hb))
  go_ret
  exact⟨RT,PB⟩
 ·rw[if_neg c4] at H;have ba:decide (X < 0)=false:=decide_eq_false c4;clear c4;replace H:=Option.bind_eq_some_iff.mp H;obtain⟨af,ay,H⟩:=H;(try dsimp only at H);have A8:=ak ay;clear ay
  by_cases c9:af < 0
  ·rw[if_pos c9] at H;have bb:decide (af < 0)=true:=decide_eq_true c9;clear c9;obtain rfl:=Option.some.inj H;go_enter Try.func5,Try.ntmps5;go_wp2_with (first|((with_reducible refine gate_dst (N:=2) rfl ?_);refine bx_ (N:=2) #[.slice Y J.length Z,.int .i64 ac,.int .i64 ae,.slice aa U.length ab] 26 ?_;intro ar hg b0 hbox hb;have D:=ak hbox;have au:=gy hg HB;replace HB:=bs HB hb;clear hb hbox hg;obtain⟨bc,bd,bf,bg,bh,bi,bj,bk⟩:=bc4 D)|(go_at_call 17;(with_reducible refine(laws_szVersionS.calls k _ _ J a1 X _ ?side1 ah.out A3.out).mono ?_);(case side1=>exact Cq ag);rintro e b4 ⟨rfl,hb⟩;replace D:=kf D hb;replace HB:=bs HB hb;clear hb;obtain⟨_,_,_,_,_,_,_,_⟩:=bc4 D)|(go_at_call 18;(with_reducible refine(laws_szIntS.calls _ _ U X af _ ?side1 aq.out A8.out).mono ?_);(case side1=>exact Cq ap);rintro e w' ⟨rfl,⟨nd,rfl⟩⟩))
   go_ret
   exact⟨RT,PB⟩
  ·rw[if_neg c9] at H;have bb:decide (af < 0)=false:=decide_eq_false c9;clear c9;obtain rfl:=Option.some.inj H;go_enter Try.func5,Try.ntmps5;go_wp2_with (first|((with_reducible refine gate_dst (N:=2) rfl ?_);refine bx_ (N:=2) #[.slice Y J.length Z,.int .i64 ac,.int .i64 ae,.slice aa U.length ab] 26 ?_;intro ar hg b5 hbox hb;have D:=ak hbox;have au:=gy hg HB;replace HB:=bs HB hb;clear hb hbox hg;obtain⟨_,_,_,_,_,_,_,_⟩:=bc4 D)|(go_at_call 17;(with_reducible refine(laws_szVersionS.calls k _ _ J a1 X _ ?side1 ah.out A3.out).mono ?_);(case side1=>exact Cq ag);rintro e b6 ⟨rfl,hb⟩;replace D:=kf D hb;replace HB:=bs HB hb;clear hb;obtain⟨_,_,_,_,_,_,_,_⟩:=bc4 D)|(go_at_call 18;(with_reducible refine(laws_szIntS.calls _ _ U X af _ ?side1 aq.out A8.out).mono ?_);(case side1=>exact Cq ap);rintro e w' ⟨rfl,⟨nd,rfl⟩⟩))
   go_ret
   exact⟨RT,PB⟩
def spec_l11Zeros.l0:Nat→Int→List Int→Int→Option (List Int)
  | 0,_,_,_=>none
  | k+1,J,D,U=>if U < J then(if D.length < 17592186044416 then(spec_l11Zeros.l0 k J (D++[0]) (wrap64 (U+1))) else(none)) else(some D)
def spec_l11Zeros.f (k:Nat)(D:Int):Option (List Int):=spec_l11Zeros.l0 k D (([]:List Int)) 0
theorem spec_l11Zeros.calls (k:Nat)(Y:Int)(r:List Int)(w:World)(h:spec_l11Zeros.f k Y=some r) :
  Calls Try.prog 67 #[.int .i64 Y] w fun e w'=>∃ aj:Value,e = .returned (aj)∧Kd.R (Kd.int .i64) 3 w' w.heap.size (fun _=>True) aj r∧Below w.heap.size w w':=by
 have HB:=ak (Below.refl w.heap.size w);have H:=h;clear h;unfold spec_l11Zeros.f at H;obtain⟨ac,U⟩:∃ y_:List Int,y_=(([]:List Int)):=⟨_,rfl⟩
 replace H:(spec_l11Zeros.l0 k Y ac 0)=some r:=by first|(rw[U];with_reducible exact H)|(have H2_:=(Option.bind_some _ _).symm.trans H;rw[U];with_reducible exact H2_)|exact H
 have aa:=ak U;clear U;have H':=ak H;clear H;go_enter Try.func67,Try.ntmps67;go_wp2_with (first|((with_reducible refine gate_dst (N:=5) rfl ?_);refine Kd.R_lit (Kd.int .i64) _ 3 ?hg (N:=5) ?hd (xs:=([]:List Int)) (inner:=[]) (ok:=fun _=>True) (okp:=fun _=>True) ?hr ?hp (fun _ hk=>hk) trivial (Below.refl _ _) (Nat.le_refl _) (by simp) ?_;(case hd=>rfl);(case hg=>rfl);(case hr=>first|(go_simp;done)|(go_simp;rfl));(case hp=>exact(Reps.none _ _));intro ap w2 ho3 hb hg_ hnew_;clear hg_ hnew_;(first|rw[←aa.out] at ho3|(simp only[Int.reduceToNat] at ho3;rw[←aa.out] at ho3));have af:=Rn0 ho3 HB;replace HB:=bs HB hb;clear hb ho3))
 go_loopg [3,4] k (fun kq v3 v4 w'=>∃(J:List Int)(D:Int),v4 = .int .i64 D∧Aside0 (spec_l11Zeros.l0 kq Y J D=some r)∧Aside0 (kq≤k)∧Aside0 (Kd.R (Kd.int .i64) 3 w' w.heap.size (fun _=>True) v3 J)∧Aside0 (Below w.heap.size w w'))
 case atStart=>exact⟨(ac),(0),FR,H',⟨Nat.le_refl _⟩,⟨PR af⟩,⟨PB⟩⟩
 case round =>
  clear H'
  try clear p2
  obtain⟨J,D,rfl,HA,al,Z,HB⟩:=hrel
  cases gk with
  | zero=>exact absurd HA.out (by simp[spec_l11Zeros.l0])
  | succ k1 =>
   have H:=HA.out;clear HA;simp only[spec_l11Zeros.l0] at H
   by_cases c4:D < Y
   ·rw[if_pos c4] at H;have am:decide (D < Y)=true:=decide_eq_true c4;clear c4
    by_cases c5:J.length < 17592186044416
    ·rw[if_pos c5] at H;have ao:=ak c5;clear c5;obtain⟨ae,X⟩:∃ y_:List Int,y_=(J++[0]):=⟨_,rfl⟩
     replace H:(spec_l11Zeros.l0 k1 Y ae (wrap64 (D+1)))=some r:=by first|(rw[X];with_reducible exact H)|(have H2_:=(Option.bind_some _ _).symm.trans H;rw[X];with_reducible exact H2_)|exact H
     have ah:=ak X;clear X;have H':=ak H;clear H;go_wp2_with (first|((with_reducible refine gate_builtin (b:=.append) (xs:=#[.tmp 11,.tmp 12]) rfl ?_);at_builtin;refine Kd.R_append (Kd.int .i64) (w0:=w) w.heap.size rfl (.tmp 11) (.tmp 12) 24 3 (.int .i64 0) 8 rfl Try.underlying24 info3 rfl (by decide) (by omega) u3 J 0 [.int .i64 0] (fun _=>True) (fun _=>False) rfl rfl ?aP (fun _ hk=>hk.elim) ?aF ?aO ?aB ?aS ?aL ?_;(case aP=>exact rfl);(case aB=>exact PB);(case aF=>exact(fun _ _=>trivial));(case aO=>exact(PR Z));(case aS=>exact(below_size PB));(case aL=>have:=ao.out;omega);intro au w6 ho hb hg hat;rw[←ah.out] at ho;replace HB:=ak hb;have ai:=ak (ho);clear Z;clear ho hb hg hat))
     go_roundg k1
     case measure=>have:=al.out;omega
     case rel=>exact⟨(ae),(wrap64 (D+1)),FR,H',⟨by have:=al.out;omega⟩,⟨PR ai⟩,⟨PB⟩⟩
    ·rw[if_neg c5] at H;exact absurd H (by simp)
   ·rw[if_neg c4] at H;have am:decide (D < Y)=false:=decide_eq_false c4;clear c4;obtain rfl:=Option.some.inj H;go_wp2
    go_ret
    exact⟨_,RT,by(with_reducible repeat(first|apply Kd.R_alloc | apply Kd.R_drewN | apply Kd.R_drew));exact Z.out,PB⟩
def spec_StartState.f (k:Nat)  : Option (Int×List Int×List Int×List Int):=(spec_l11Zeros.f k 4).bind fun D=>((spec_l11Zeros.f k 3).bind fun J=>((spec_l11Zeros.f k 4).bind fun U=>(some (0,D,J,U))))
theorem spec_StartState.calls (k:Nat)  (r1:Int)(r2:List Int)(r3:List Int)(r4:List Int)(w:World)(h:spec_StartState.f k =some (r1,r2,r3,r4)) :
  Calls Try.prog 47 #[] w fun e w'=>∃ X Y Z:Value,e = .returned (.agg #[.int .i64 r1,X,Y,Z])∧Kd.R (Kd.int .i64) 3 w' w.heap.size (fun k_=>some k_≠(Y:Value).ownBlock∧some k_≠(Z:Value).ownBlock) X r2∧Kd.R (Kd.int .i64) 3 w' w.heap.size (fun k_=>some k_≠(X:Value).ownBlock∧some k_≠(Z:Value).ownBlock) Y r3∧Kd.R (Kd.int .i64) 3 w' w.heap.size (fun k_=>some k_≠(X:Value).ownBlock∧some k_≠(Y:Value).ownBlock) Z r4∧Below w.heap.size w w':=by
 have bc:=Try.underlying48;have HB:=ak (Below.refl w.heap.size w);have H:=h;clear h;unfold spec_StartState.f at H;replace H:=Option.bind_eq_some_iff.mp H;obtain⟨ab,ag,H⟩:=H;(try dsimp only at H);have A1:=ak ag;clear ag;replace H:=Option.bind_eq_some_iff.mp H;obtain⟨ac,ah,H⟩:=H;(try dsimp only at H);have A2:=ak ah;clear ah;replace H:=Option.bind_eq_some_iff.mp H;obtain⟨ae,ai,H⟩:=H;(try dsimp only at H);have A3:=ak ai;clear ai;simp only[Option.some.injEq,Prod.mk.injEq] at H;obtain⟨rfl,rfl,rfl,rfl⟩:=H;go_enter Try.func47,Try.ntmps47;go_wp2_with (first|((with_reducible refine gate_dst (N:=0) rfl ?_);refine bx_ (N:=0) #[.int .i64 0,.slice none 0 0,.slice none 0 0,.slice none 0 0] 48 ?_;intro af hg w4 hbox hb;have D:=ak hbox;have bb:=gy hg HB;replace HB:=bs HB hb;clear hb hbox hg)|((with_reducible refine gate_callee (f:=67) rfl ?_);refine goesL_ (some 1) rfl rfl Try.func67 KR rfl #[.int .i64 4] rfl AR ?_;(with_reducible refine(spec_l11Zeros.calls k 4 ab _ A1.out).mono ?_);rintro e w5 ⟨bh,rfl,ho0,hb⟩;refine⟨_,rfl,?_⟩;have J:=Rn0 ho0 HB;replace D:=kf D hb;replace HB:=bs HB hb;clear hb ho0)|((with_reducible refine gate_callee (f:=67) rfl ?_);refine goesL_ (some 2) rfl rfl Try.func67 KR rfl #[.int .i64 3] rfl AR ?_;(with_reducible refine(spec_l11Zeros.calls k 3 ac _ A2.out).mono ?_);rintro e w6 ⟨bi,rfl,ho0,hb⟩;refine⟨_,rfl,?_⟩;have U:=Rn1 ho0 HB J;replace J:=ak (Kd.R_elder' (PR J) (Kd.R_base ho0) hb);replace D:=kf D hb;replace HB:=bs HB hb;clear hb ho0)|((with_reducible refine gate_callee (f:=67) rfl ?_);refine goesL_ (some 3) rfl rfl Try.func67 KR rfl #[.int .i64 4] rfl AR ?_;(with_reducible refine(spec_l11Zeros.calls k 4 ae _ A3.out).mono ?_);rintro e w7 ⟨bj,rfl,ho0,hb⟩;refine⟨_,rfl,?_⟩;have aa:=Rn2 ho0 HB J U;replace J:=ak (Kd.R_elder' (PR J) (Kd.R_base ho0) hb);replace U:=ak (Kd.R_elder' (PR U) (Kd.R_base ho0) hb);replace D:=kf D hb;replace HB:=bs HB hb;clear hb ho0;obtain⟨ax,ay,rfl⟩:=Kd.R_slice aa.out;obtain⟨az,ba,rfl⟩:=Kd.R_slice U.out;obtain⟨aj,al,rfl⟩:=Kd.R_slice J.out;obtain⟨am,ao,ap,aq,ar,au,av,aw⟩:=bc4 D));refine bodyPost_ret (results_cell_row rfl _ _ af 48 #[.int .i64 0,.slice aj ab.length al,.slice az ac.length ba,.slice ax ae.length ay] (0,0) _ rfl (PX D) Try.underlying48 rfl KR) rfl ?_;exact⟨_,_,_,RT,RX (Rt J.out D) (fun _ hk=>by first|exact⟨hk.1.1.2,hk.1.2⟩ | simp_all),RX (Rt U.out D) (fun _ hk=>by first|exact⟨hk.1.1.2,hk.1.2⟩ | simp_all),RX (Rt aa.out D) (fun _ hk=>by first|exact⟨hk.1.1.2,hk.1.2⟩ | simp_all),PB⟩
def spec_l1In.f (D:Int)(J:Int)(U:Int):Option (Bool):=if D≥J then(some (decide (D≤U))) else(some false)
theorem spec_l1In.calls (J:Int)(U:Int)(Y:Int)(r:Bool)(w:World)(h:spec_l1In.f J U Y=some r) :
  Calls Try.prog 70 #[.int .i64 J,.int .i64 U,.int .i64 Y] w fun e w'=>e = .returned (.bool r)∧Drawn0 w w':=by
 have H:=h;clear h;unfold spec_l1In.f at H
 by_cases D:J≥U
 ·rw[if_pos D] at H;have X:decide (U≤J)=true:=decide_eq_true D;clear D;obtain rfl:=Option.some.inj H;go_enter Try.func70,Try.ntmps70;go_wp2
  go_ret
  exact⟨FR,by repeat(first|exact Drawn0.refl _ | apply Drawn0.step)⟩
 ·rw[if_neg D] at H;have X:decide (U≤J)=false:=decide_eq_false D;clear D;obtain rfl:=Option.some.inj H;go_enter Try.func70,Try.ntmps70;go_wp2
  go_ret
  exact⟨FR,by repeat(first|exact Drawn0.refl _ | apply Drawn0.step)⟩

def spec_l10Ok.j0:Nat→Int→Int→Bool→Int→Int→Int→Int→Option (Bool)
  | 0,_,_,_,_,_,_,_=>none
  | k+1,x3,U,ah,ae,af,D,J=>if ah=true then(if D=0 then(some (J == 0)) else(some false)) else(if U=5 then((spec_l1In.f D 0 x3).bind fun X=>(if X=true then((spec_l1In.f J 0 x3).bind fun Y=>(some Y)) else(some false))) else(if U=6 then((spec_l1In.f D 0 3).bind fun Z=>(if Z=true then(some (J == 0)) else(some false))) else(if U=7 then((spec_l1In.f D 1 3).bind fun aa=>(if aa=true then(some (J == 0)) else(some false))) else(if U=8 then((spec_l1In.f D 0 2).bind fun ab=>(if ab=true then(some (J == 0)) else(some false))) else(if U=9 then((spec_l1In.f D 0 2).bind fun ac=>(if ac=true then(some (J == 0)) else(some false))) else(some false))))))
def spec_l10Ok.f (k:Nat)(D:Int)(J:Int)(U:Int)(X:Int):Option (Bool):=(spec_l1In.f J 0 3).bind fun Y=>(if Y=true then(if D=1 then((spec_l1In.f U 1 9).bind fun Z=>(if Z=true then((spec_l1In.f X 0 99).bind fun aa=>(some aa)) else(some false))) else(if D=2 then(spec_l10Ok.j0 k 3 D (D == 2) D J U X) else(if D=3 then(spec_l10Ok.j0 k 3 D (D == 3) D J U X) else(spec_l10Ok.j0 k 3 D (D == 4) D J U X)))) else(some false))
theorem spec_l10Ok.calls (k:Nat)(D:Int)(X:Int)(J:Int)(Y:Int)(r:Bool)(w:World)(h:spec_l10Ok.f k D X J Y=some r) :
  Calls Try.prog 68 #[.agg #[.int .i64 D,.int .i64 X,.int .i64 J,.int .i64 Y]] w fun e w'=>e = .returned (.bool r)∧Below w.heap.size w w':=by
 have dv:=Try.underlying63;have HB:=ak (Below.refl w.heap.size w);have H:=h;clear h;unfold spec_l10Ok.f at H;replace H:=Option.bind_eq_some_iff.mp H;obtain⟨dg,cx,H⟩:=H;(try dsimp only at H);have A2:=ak cx;clear cx
 by_cases c3:dg=true
 ·subst c3;rw[if_pos rfl] at H
  by_cases c4:D=1
  ·rw[if_pos c4] at H;have bx:(D == 1)=true:=beq_iff_eq.mpr c4;have bz:(D != 1)=false:=bne_eq_false_iff_eq.mpr c4;clear c4;replace H:=Option.bind_eq_some_iff.mp H;obtain⟨dh,cy,H⟩:=H;(try dsimp only at H);have A5:=ak cy;clear cy
   by_cases c6:dh=true
   ·subst c6;rw[if_pos rfl] at H;replace H:=Option.bind_eq_some_iff.mp H;obtain⟨di,cz,H⟩:=H;(try dsimp only at H);have A7:=ak cz;clear cz;obtain rfl:=Option.some.inj H;go_enter Try.func68,Try.ntmps68;go_wp2_with (first|((with_reducible refine gate_dst (N:=1) rfl ?_);refine bx_ (N:=1) #[.int .i64 D,.int .i64 X,.int .i64 J,.int .i64 Y] 63 ?_;intro ae hg w8 hbox hb;have U:=ak hbox;have am:=gy hg HB;replace HB:=bs HB hb;clear hb hbox hg;obtain⟨b4,b5,b6,b7,b8,b9,ca,cb⟩:=bc4 U)|((with_reducible refine gate_callee (f:=70) rfl ?_);refine goesL_ (some 7) rfl rfl Try.func70 KR rfl #[.int .i64 X,.int .i64 0,.int .i64 3] rfl AR ?_;(with_reducible refine(spec_l1In.calls X 0 3 true _ A2.out).mono ?_);rintro e w' ⟨rfl,⟨nd,rfl⟩⟩;refine⟨_,rfl,?_⟩)|((with_reducible refine gate_callee (f:=70) rfl ?_);refine goesL_ (some 15) rfl rfl Try.func70 KR rfl #[.int .i64 J,.int .i64 1,.int .i64 9] rfl AR ?_;(with_reducible refine(spec_l1In.calls J 1 9 true _ A5.out).mono ?_);rintro e w' ⟨rfl,⟨nd,rfl⟩⟩;refine⟨_,rfl,?_⟩)|(go_at_call 70;(with_reducible refine(spec_l1In.calls Y 0 99 di _ A7.out).mono ?_);rintro e w' ⟨rfl,⟨nd,rfl⟩⟩))
    go_ret
    exact⟨RT,PB⟩
   ·replace c6:=Bool.eq_false_iff.mpr c6;subst c6;rw[if_neg (show ¬(false=true) by decide)] at H;obtain rfl:=Option.some.inj H;go_enter Try.func68,Try.ntmps68;go_wp2_with (first|((with_reducible refine gate_dst (N:=1) rfl ?_);refine bx_ (N:=1) #[.int .i64 D,.int .i64 X,.int .i64 J,.int .i64 Y] 63 ?_;intro ae hg dy hbox hb;have U:=ak hbox;have am:=gy hg HB;replace HB:=bs HB hb;clear hb hbox hg;obtain⟨bb,bc,bd,bf,bg,bh,bi,bj⟩:=bc4 U)|((with_reducible refine gate_callee (f:=70) rfl ?_);refine goesL_ (some 7) rfl rfl Try.func70 KR rfl #[.int .i64 X,.int .i64 0,.int .i64 3] rfl AR ?_;(with_reducible refine(spec_l1In.calls X 0 3 true _ A2.out).mono ?_);rintro e w' ⟨rfl,⟨nd,rfl⟩⟩;refine⟨_,rfl,?_⟩)|((with_reducible refine gate_callee (f:=70) rfl ?_);refine goesL_ (some 15) rfl rfl Try.func70 KR rfl #[.int .i64 J,.int .i64 1,.int .i64 9] rfl AR ?_;(with_reducible refine(spec_l1In.calls J 1 9 false _ A5.out).mono ?_);rintro e w' ⟨rfl,⟨nd,rfl⟩⟩;refine⟨_,rfl,?_⟩))
    go_ret
    exact⟨RT,PB⟩
  ·rw[if_neg c4] at H;have bx:(D == 1)=false:=beq_eq_false_iff_ne.mpr c4;have bz:(D != 1)=true:=bne_iff_ne.mpr c4;have ap:=ak H;clear H;go_enter Try.func68,Try.ntmps68
   go_upto_if 21 with (first|((with_reducible refine gate_dst (N:=1) rfl ?_);refine bx_ (N:=1) #[.int .i64 D,.int .i64 X,.int .i64 J,.int .i64 Y] 63 ?_;intro ae hg dz hbox hb;have U:=ak hbox;have am:=gy hg HB;replace HB:=bs HB hb;clear hb hbox hg;obtain⟨bk,bl,bm,bo,bp,br,bu,bv⟩:=bc4 U)|((with_reducible refine gate_callee (f:=70) rfl ?_);refine goesL_ (some 7) rfl rfl Try.func70 KR rfl #[.int .i64 X,.int .i64 0,.int .i64 3] rfl AR ?_;(with_reducible refine(spec_l1In.calls X 0 3 true _ A2.out).mono ?_);rintro e w' ⟨rfl,⟨nd,rfl⟩⟩;refine⟨_,rfl,?_⟩))
   (try simp only[Act.put,List.setIfInBounds_toArray,List.set_cons_zero,List.set_cons_succ])
   go_cut [21] (fun dt wc=>∃(kq:Nat)(aa:Bool),dt = .bool aa∧Aside0 (spec_l10Ok.j0 kq 3 D aa D X J Y=some r)∧Aside0 (kq≤k)∧Aside0 (wc.heap[ae]?=some (.cells #[.int .i64 D,.int .i64 X,.int .i64 J,.int .i64 Y] 63 (0,0)))∧Aside0 (Below w.heap.size w wc))
   case first =>
    have H:=ap.out;clear ap
    by_cases ab:D=2
    ·rw[if_pos ab] at H;have Z:(D == 2)=true:=beq_iff_eq.mpr ab;have aq:(D != 2)=false:=bne_eq_false_iff_eq.mpr ab;clear ab;(first|rw[Z]|(simp only[i64_w,i32_w];rw[Z])|skip);have H':=ak H;clear H;go_wp2
     go_meet
     case rel=>exact⟨_,((D == 2)),FR,H',⟨by first|omega | exact Nat.le_refl _⟩,⟨PK U⟩,⟨PB⟩⟩
    ·rw[if_neg ab] at H;have Z:(D == 2)=false:=beq_eq_false_iff_ne.mpr ab;have aq:(D != 2)=true:=bne_iff_ne.mpr ab;(first|rw[Z]|(simp only[i64_w,i32_w];rw[Z])|skip)
     by_cases ac:D=3
     ·rw[if_pos ac] at H;have ar:(D == 3)=true:=beq_iff_eq.mpr ac;have au:(D != 3)=false:=bne_eq_false_iff_eq.mpr ac;clear ac;have H':=ak H;clear H;go_wp2
      go_meet
      case rel=>exact⟨_,((D == 3)),FR,H',⟨by first|omega | exact Nat.le_refl _⟩,⟨PK U⟩,⟨PB⟩⟩
     ·rw[if_neg ac] at H;have ar:(D == 3)=false:=beq_eq_false_iff_ne.mpr ac;have au:(D != 3)=true:=bne_iff_ne.mpr ac;have H':=ak H;clear H;go_wp2
      go_meet
      case rel=>exact⟨_,((D == 4)),FR,H',⟨by first|omega | exact Nat.le_refl _⟩,⟨PK U⟩,⟨PB⟩⟩
   case rest =>
    clear ap;(try clear c1);(try clear p2);(try clear c3);(try clear c4);(try clear bx);(try clear bz);(try clear c6);(try clear c7);(try clear ab);(try clear Z);(try clear aq);(try clear ac);(try clear ar);(try clear au);(try clear bb);(try clear bc);(try clear bd);(try clear bf);(try clear bk);(try clear bl);(try clear bm);(try clear bo);(try clear b4);(try clear b5);(try clear b6);(try clear b7);(try clear bg);(try clear bh);(try clear bi);(try clear bj);(try clear bp);(try clear br);(try clear bu);(try clear bv);(try clear b8);(try clear b9);(try clear ca);(try clear cb);obtain⟨kq,aa,rfl,HA,dx,U,HB⟩:=hcut
    cases kq with
    | zero=>exact absurd HA.out (by simp[spec_l10Ok.j0])
    | succ kj11 =>
     have H:=HA.out;clear HA;simp only[spec_l10Ok.j0] at H
     by_cases av:aa=true
     ·subst av;rw[if_pos rfl] at H
      by_cases af:J=0
      ·rw[if_pos af] at H;have ck:(J == 0)=true:=beq_iff_eq.mpr af;have cl:(J != 0)=false:=bne_eq_false_iff_eq.mpr af;clear af;obtain rfl:=Option.some.inj H;obtain⟨_,_,_,_,_,_,_,_⟩:=bc4 U;go_wp2
       go_ret
       exact⟨RT,PB⟩
      ·rw[if_neg af] at H;have ck:(J == 0)=false:=beq_eq_false_iff_ne.mpr af;have cl:(J != 0)=true:=bne_iff_ne.mpr af;obtain rfl:=Option.some.inj H;obtain⟨_,_,_,_,_,_,_,_⟩:=bc4 U;go_wp2
       go_ret
       exact⟨RT,PB⟩
     ·replace av:=Bool.eq_false_iff.mpr av;subst av;rw[if_neg (show ¬(false=true) by decide)] at H
      by_cases ag:D=5
      ·rw[if_pos ag] at H;have cm:(D == 5)=true:=beq_iff_eq.mpr ag;have cn:(D != 5)=false:=bne_eq_false_iff_eq.mpr ag;clear ag;replace H:=Option.bind_eq_some_iff.mp H;obtain⟨dj,cd,H⟩:=H;(try dsimp only at H);have da:=ak cd;clear cd
       by_cases aw:dj=true
       ·subst aw;rw[if_pos rfl] at H;replace H:=Option.bind_eq_some_iff.mp H;obtain⟨dk,ce,H⟩:=H;(try dsimp only at H);have du:=ak ce;clear ce;obtain rfl:=Option.some.inj H;obtain⟨_,_,_,_,_,_,_,_⟩:=bc4 U;go_wp2_with (first|(go_at_call 70;(with_reducible refine(spec_l1In.calls J 0 3 true _ da.out).mono ?_);rintro e w' ⟨rfl,⟨nd,rfl⟩⟩)|(go_at_call 70;(with_reducible refine(spec_l1In.calls Y 0 3 dk _ du.out).mono ?_);rintro e w' ⟨rfl,⟨nd,rfl⟩⟩))
        go_ret
        exact⟨RT,PB⟩
       ·replace aw:=Bool.eq_false_iff.mpr aw;subst aw;rw[if_neg (show ¬(false=true) by decide)] at H;obtain rfl:=Option.some.inj H;obtain⟨_,_,_,_,_,_,_,_⟩:=bc4 U;go_wp2_with (first|(go_at_call 70;(with_reducible refine(spec_l1In.calls J 0 3 false _ da.out).mono ?_);rintro e w' ⟨rfl,⟨nd,rfl⟩⟩))
        go_ret
        exact⟨RT,PB⟩
      ·rw[if_neg ag] at H;have cm:(D == 5)=false:=beq_eq_false_iff_ne.mpr ag;have cn:(D != 5)=true:=bne_iff_ne.mpr ag
       by_cases ah:D=6
       ·rw[if_pos ah] at H;have co:(D == 6)=true:=beq_iff_eq.mpr ah;have cp:(D != 6)=false:=bne_eq_false_iff_eq.mpr ah;clear ah;replace H:=Option.bind_eq_some_iff.mp H;obtain⟨dl,cf,H⟩:=H;(try dsimp only at H);have db:=ak cf;clear cf
        by_cases ax:dl=true
        ·subst ax;rw[if_pos rfl] at H;obtain rfl:=Option.some.inj H;obtain⟨_,_,_,_,_,_,_,_⟩:=bc4 U;go_wp2_with (first|(go_at_call 70;(with_reducible refine(spec_l1In.calls J 0 3 true _ db.out).mono ?_);rintro e w' ⟨rfl,⟨nd,rfl⟩⟩))
         go_ret
         exact⟨RT,PB⟩
        ·replace ax:=Bool.eq_false_iff.mpr ax;subst ax;rw[if_neg (show ¬(false=true) by decide)] at H;obtain rfl:=Option.some.inj H;obtain⟨_,_,_,_,_,_,_,_⟩:=bc4 U;go_wp2_with (first|(go_at_call 70;(with_reducible refine(spec_l1In.calls J 0 3 false _ db.out).mono ?_);rintro e w' ⟨rfl,⟨nd,rfl⟩⟩))
         go_ret
         exact⟨RT,PB⟩
       ·rw[if_neg ah] at H;have co:(D == 6)=false:=beq_eq_false_iff_ne.mpr ah;have cp:(D != 6)=true:=bne_iff_ne.mpr ah
        by_cases ai:D=7
        ·rw[if_pos ai] at H;have cq:(D == 7)=true:=beq_iff_eq.mpr ai;have cr:(D != 7)=false:=bne_eq_false_iff_eq.mpr ai;clear ai;replace H:=Option.bind_eq_some_iff.mp H;obtain⟨dn,cg,H⟩:=H;(try dsimp only at H);have dc:=ak cg;clear cg
         by_cases ay:dn=true
         ·subst ay;rw[if_pos rfl] at H;obtain rfl:=Option.some.inj H;obtain⟨_,_,_,_,_,_,_,_⟩:=bc4 U;go_wp2_with (first|(go_at_call 70;(with_reducible refine(spec_l1In.calls J 1 3 true _ dc.out).mono ?_);rintro e w' ⟨rfl,⟨nd,rfl⟩⟩))
          go_ret
          exact⟨RT,PB⟩
         ·replace ay:=Bool.eq_false_iff.mpr ay;subst ay;rw[if_neg (show ¬(false=true) by decide)] at H;obtain rfl:=Option.some.inj H;obtain⟨_,_,_,_,_,_,_,_⟩:=bc4 U;go_wp2_with (first|(go_at_call 70;(with_reducible refine(spec_l1In.calls J 1 3 false _ dc.out).mono ?_);rintro e w' ⟨rfl,⟨nd,rfl⟩⟩))
          go_ret
          exact⟨RT,PB⟩
        ·rw[if_neg ai] at H;have cq:(D == 7)=false:=beq_eq_false_iff_ne.mpr ai;have cr:(D != 7)=true:=bne_iff_ne.mpr ai
         by_cases aj:D=8
         ·rw[if_pos aj] at H;have ct:(D == 8)=true:=beq_iff_eq.mpr aj;have cu:(D != 8)=false:=bne_eq_false_iff_eq.mpr aj;clear aj;replace H:=Option.bind_eq_some_iff.mp H;obtain⟨dp,ch,H⟩:=H;(try dsimp only at H);have de:=ak ch;clear ch
          by_cases az:dp=true
          ·subst az;rw[if_pos rfl] at H;obtain rfl:=Option.some.inj H;obtain⟨_,_,_,_,_,_,_,_⟩:=bc4 U;go_wp2_with (first|(go_at_call 70;(with_reducible refine(spec_l1In.calls J 0 2 true _ de.out).mono ?_);rintro e w' ⟨rfl,⟨nd,rfl⟩⟩))
           go_ret
           exact⟨RT,PB⟩
          ·replace az:=Bool.eq_false_iff.mpr az;subst az;rw[if_neg (show ¬(false=true) by decide)] at H;obtain rfl:=Option.some.inj H;obtain⟨_,_,_,_,_,_,_,_⟩:=bc4 U;go_wp2_with (first|(go_at_call 70;(with_reducible refine(spec_l1In.calls J 0 2 false _ de.out).mono ?_);rintro e w' ⟨rfl,⟨nd,rfl⟩⟩))
           go_ret
           exact⟨RT,PB⟩
         ·rw[if_neg aj] at H;have ct:(D == 8)=false:=beq_eq_false_iff_ne.mpr aj;have cu:(D != 8)=true:=bne_iff_ne.mpr aj
          by_cases al:D=9
          ·rw[if_pos al] at H;have cv:(D == 9)=true:=beq_iff_eq.mpr al;have cw:(D != 9)=false:=bne_eq_false_iff_eq.mpr al;clear al;replace H:=Option.bind_eq_some_iff.mp H;obtain⟨dq,ci,H⟩:=H;(try dsimp only at H);have df:=ak ci;clear ci
           by_cases ba:dq=true
           ·subst ba;rw[if_pos rfl] at H;obtain rfl:=Option.some.inj H;obtain⟨_,_,_,_,_,_,_,_⟩:=bc4 U;go_wp2_with (first|(go_at_call 70;(with_reducible refine(spec_l1In.calls J 0 2 true _ df.out).mono ?_);rintro e w' ⟨rfl,⟨nd,rfl⟩⟩))
            go_ret
            exact⟨RT,PB⟩
           ·replace ba:=Bool.eq_false_iff.mpr ba;subst ba;rw[if_neg (show ¬(false=true) by decide)] at H;obtain rfl:=Option.some.inj H;obtain⟨_,_,_,_,_,_,_,_⟩:=bc4 U;go_wp2_with (first|(go_at_call 70;(with_reducible refine(spec_l1In.calls J 0 2 false _ df.out).mono ?_);rintro e w' ⟨rfl,⟨nd,rfl⟩⟩))
            go_ret
            exact⟨RT,PB⟩
          ·rw[if_neg al] at H;have cv:(D == 9)=false:=beq_eq_false_iff_ne.mpr al;have cw:(D != 9)=true:=bne_iff_ne.mpr al;obtain rfl:=Option.some.inj H;go_wp2
           go_ret
           exact⟨RT,PB⟩
 ·replace c3:=Bool.eq_false_iff.mpr c3;subst c3;rw[if_neg (show ¬(false=true) by decide)] at H;obtain rfl:=Option.some.inj H;go_enter Try.func68,Try.ntmps68;go_wp2_with (first|((with_reducible refine gate_dst (N:=1) rfl ?_);refine bx_ (N:=1) #[.int .i64 D,.int .i64 X,.int .i64 J,.int .i64 Y] 63 ?_;intro ae hg d7 hbox hb;have U:=ak hbox;have am:=gy hg HB;replace HB:=bs HB hb;clear hb hbox hg;obtain⟨_,_,_,_,_,_,_,_⟩:=bc4 U)|(go_at_call 70;(with_reducible refine(spec_l1In.calls X 0 3 false _ A2.out).mono ?_);rintro e w' ⟨rfl,⟨nd,rfl⟩⟩))
  go_ret
  exact⟨RT,PB⟩
def spec_IsScript.l0:Nat→List (S63)→Int→Option (Bool)
  | 0,_,_=>none
  | k+1,D,J=>if J < (D.length:Int) then(if 0≤J then((spec_l10Ok.f k ((rd_T63 D J).f0) ((rd_T63 D J).f1) ((rd_T63 D J).f2) ((rd_T63 D J).f3)).bind fun U=>(if U=true then(spec_IsScript.l0 k D (wrap64 (J+1))) else(some false))) else(none)) else(some (decide ((D.length:Int)≤16)))
def spec_IsScript.f (k:Nat)(D:List (S63)):Option (Bool):=spec_IsScript.l0 k D 0
theorem spec_IsScript.calls (k:Nat)(A0:Option Addr)(c0:Nat)(J:List (S63))(r:Bool)(w:World)(ai:Kd.C k63 w A0 J.length J)(aj:J.length≤c0)(h:spec_IsScript.f k J=some r) :
  Calls Try.prog 48 #[.slice A0 J.length c0] w fun e w'=>e = .returned (.bool r)∧Below w.heap.size w w':=by
 have aw:=Try.underlying63;have al:=ak ai;have az:=ak aj;clear ai aj;have HB:=ak (Below.refl w.heap.size w);have H:=h;clear h;unfold spec_IsScript.f at H;have H':=ak H;clear H;go_enter Try.func48,Try.ntmps48;go_wp2
 go_loopg [3] k (fun kq v3 w'=>∃(D:Int),v3 = .int .i64 D∧Aside0 (spec_IsScript.l0 kq J D=some r)∧Aside0 (kq≤k)∧Aside0 (Below w.heap.size w w'))
 case atStart=>exact⟨(0),FR,H',⟨Nat.le_refl _⟩,⟨PB⟩⟩
 case round =>
  clear H';obtain⟨D,rfl,HA,am,HB⟩:=hrel
  cases gk with
  | zero=>exact absurd HA.out (by simp[spec_IsScript.l0])
  | succ k1 =>
   have H:=HA.out;clear HA;simp only[spec_IsScript.l0] at H
   by_cases c2:D < (J.length:Int)
   ·rw[if_pos c2] at H;have ap:decide (D < (J.length:Int))=true:=decide_eq_true c2;clear c2
    by_cases c3:0≤D
    ·rw[if_pos c3] at H;have ay:decide (0≤D)=true:=decide_eq_true c3;clear c3;replace H:=Option.bind_eq_some_iff.mp H;obtain⟨aq,ao,H⟩:=H;(try dsimp only at H);have A4:=ak ao;clear ao
     by_cases c5:aq=true
     ·subst c5;rw[if_pos rfl] at H;have H':=ak H;clear H;have aa:0≤(D:Int):=od;have ab:D < (J.length:Int):=od;obtain⟨ah,ac,U,X,Y,Z⟩:=at_T63 al.out D aa ab;cases ac;replace U:=hx_ HB U;replace X:=hx_ HB X;replace Y:=hx_ HB Y;replace Z:=hx_ HB Z;replace aa:=eq_true aa;replace ab:=eq_true ab;go_wp2_with (first|(go_at_call 68;(with_reducible refine(spec_l10Ok.calls k1 ((rd_T63 J D).f0) ((rd_T63 J D).f1) ((rd_T63 J D).f2) ((rd_T63 J D).f3) true _ A4.out).mono ?_);rintro e w6 ⟨rfl,hb⟩;replace HB:=bs HB hb;clear hb))
      go_roundg k1
      case measure=>have:=am.out;omega
      case rel=>exact⟨(wrap64 (D+1)),FR,H',⟨by have:=am.out;omega⟩,⟨PB⟩⟩
     ·replace c5:=Bool.eq_false_iff.mpr c5;subst c5;rw[if_neg (show ¬(false=true) by decide)] at H;obtain rfl:=Option.some.inj H;have aa:0≤(D:Int):=od;have ab:D < (J.length:Int):=od;obtain⟨ah,ac,U,X,Y,Z⟩:=at_T63 al.out D aa ab;cases ac;replace U:=hx_ HB U;replace X:=hx_ HB X;replace Y:=hx_ HB Y;replace Z:=hx_ HB Z;replace aa:=eq_true aa;replace ab:=eq_true ab;go_wp2_with (first|(go_at_call 68;(with_reducible refine(spec_l10Ok.calls k1 ((rd_T63 J D).f0) ((rd_T63 J D).f1) ((rd_T63 J D).f2) ((rd_T63 J D).f3) false _ A4.out).mono ?_);rintro e w7 ⟨rfl,hb⟩;replace HB:=bs HB hb;clear hb))
      go_ret
      exact⟨RT,PB⟩
    ·rw[if_neg c3] at H;exact absurd H (by simp)
   ·rw[if_neg c2] at H;have ap:decide (D < (J.length:Int))=false:=decide_eq_false c2;clear c2;obtain rfl:=Option.some.inj H;go_wp2
    go_ret
    exact⟨RT,PB⟩
def spec_IsAddress.f (D:Int)(J:Int)(U:Int):Option (Bool):=(spec_l1In.f D 1 9).bind fun X=>(if X=true then((spec_l1In.f J 0 99).bind fun Y=>(if Y=true then((spec_l1In.f U 0 99).bind fun Z=>(some Z)) else(some false))) else(some false))
theorem spec_IsAddress.calls (D:Int)(J:Int)(X:Int)(r:Bool)(w:World)(h:spec_IsAddress.f D J X=some r) :
  Calls Try.prog 91 #[.agg #[.int .i64 D,.int .i64 J,.int .i64 X]] w fun e w'=>e = .returned (.bool r)∧Below w.heap.size w w':=by
 have bb:=Try.underlying52;have HB:=ak (Below.refl w.heap.size w);have H:=h;clear h;unfold spec_IsAddress.f at H;replace H:=Option.bind_eq_some_iff.mp H;obtain⟨ag,ac,H⟩:=H;(try dsimp only at H);have A2:=ak ac;clear ac
 by_cases c3:ag=true
 ·subst c3;rw[if_pos rfl] at H;replace H:=Option.bind_eq_some_iff.mp H;obtain⟨ai,ae,H⟩:=H;(try dsimp only at H);have A4:=ak ae;clear ae
  by_cases c5:ai=true
  ·subst c5;rw[if_pos rfl] at H;replace H:=Option.bind_eq_some_iff.mp H;obtain⟨aj,af,H⟩:=H;(try dsimp only at H);have A6:=ak af;clear af;obtain rfl:=Option.some.inj H;go_enter Try.func91,Try.ntmps91;go_wp2_with (first|((with_reducible refine gate_dst (N:=1) rfl ?_);refine bx_ (N:=1) #[.int .i64 D,.int .i64 J,.int .i64 X] 52 ?_;intro Y hg w7 hbox hb;have U:=ak hbox;have Z:=gy hg HB;replace HB:=bs HB hb;clear hb hbox hg;obtain⟨av,aw,ax,ay,az,ba⟩:=bc3 U)|(go_at_call 70;(with_reducible refine(spec_l1In.calls D 1 9 true _ A2.out).mono ?_);rintro e w' ⟨rfl,⟨nd,rfl⟩⟩)|(go_at_call 70;(with_reducible refine(spec_l1In.calls J 0 99 true _ A4.out).mono ?_);rintro e w' ⟨rfl,⟨nd,rfl⟩⟩)|(go_at_call 70;(with_reducible refine(spec_l1In.calls X 0 99 aj _ A6.out).mono ?_);rintro e w' ⟨rfl,⟨nd,rfl⟩⟩))
   go_ret
   exact⟨RT,PB⟩
  ·replace c5:=Bool.eq_false_iff.mpr c5;subst c5;rw[if_neg (show ¬(false=true) by decide)] at H;obtain rfl:=Option.some.inj H;go_enter Try.func91,Try.ntmps91;go_wp2_with (first|((with_reducible refine gate_dst (N:=1) rfl ?_);refine bx_ (N:=1) #[.int .i64 D,.int .i64 J,.int .i64 X] 52 ?_;intro Y hg w9 hbox hb;have U:=ak hbox;have Z:=gy hg HB;replace HB:=bs HB hb;clear hb hbox hg;obtain⟨al,am,ao,ap,aq,ar⟩:=bc3 U)|(go_at_call 70;(with_reducible refine(spec_l1In.calls D 1 9 true _ A2.out).mono ?_);rintro e w' ⟨rfl,⟨nd,rfl⟩⟩)|(go_at_call 70;(with_reducible refine(spec_l1In.calls J 0 99 false _ A4.out).mono ?_);rintro e w' ⟨rfl,⟨nd,rfl⟩⟩))
   go_ret
   exact⟨RT,PB⟩
 ·replace c3:=Bool.eq_false_iff.mpr c3;subst c3;rw[if_neg (show ¬(false=true) by decide)] at H;obtain rfl:=Option.some.inj H;go_enter Try.func91,Try.ntmps91;go_wp2_with (first|((with_reducible refine gate_dst (N:=1) rfl ?_);refine bx_ (N:=1) #[.int .i64 D,.int .i64 J,.int .i64 X] 52 ?_;intro Y hg bd hbox hb;have U:=ak hbox;have Z:=gy hg HB;replace HB:=bs HB hb;clear hb hbox hg;obtain⟨_,_,_,_,_,_⟩:=bc3 U)|(go_at_call 70;(with_reducible refine(spec_l1In.calls D 1 9 false _ A2.out).mono ?_);rintro e w' ⟨rfl,⟨nd,rfl⟩⟩))
  go_ret
  exact⟨RT,PB⟩
def spec_l5Bytes.l0:Nat→List Int→Int→Option (Bool)
  | 0,_,_=>none
  | k+1,J,D=>if D < (J.length:Int) then(if 0≤D then((spec_l1In.f (rd J D) 0 255).bind fun U=>(if U=true then(spec_l5Bytes.l0 k J (wrap64 (D+1))) else(some false))) else(none)) else(some true)
def spec_l5Bytes.f (k:Nat)(D:List Int):Option (Bool):=spec_l5Bytes.l0 k D 0
theorem spec_l5Bytes.calls (k:Nat)(A0:Option Addr)(c0:Nat)(J:List Int)(r:Bool)(w:World)(af:Kd.C (Kd.int .i64) w A0 J.length J)(ag:J.length≤c0)(h:spec_l5Bytes.f k J=some r) :
  Calls Try.prog 102 #[.slice A0 J.length c0] w fun e w'=>e = .returned (.bool r)∧Drawn0 w w':=by
 have ah:=ak af;have av:=ak ag;clear af ag;have H:=h;clear h;unfold spec_l5Bytes.f at H;have H':=ak H;clear H;go_enter Try.func102,Try.ntmps102;go_wp2
 go_loopg [3] k (fun kq v3 w'=>∃(D:Int),v3 = .int .i64 D∧Aside0 (spec_l5Bytes.l0 kq J D=some r)∧Aside0 (kq≤k)∧Drawn0 w w')
 case atStart=>exact⟨(0),FR,H',⟨Nat.le_refl _⟩,by repeat(first|exact Drawn0.refl _ | apply Drawn0.step)⟩
 case round =>
  clear H'
  try clear c1
  obtain⟨D,rfl,HA,ai,⟨m1,rfl⟩⟩:=hrel
  cases gk with
  | zero=>exact absurd HA.out (by simp[spec_l5Bytes.l0])
  | succ k1 =>
   have H:=HA.out;clear HA;simp only[spec_l5Bytes.l0] at H
   by_cases Z:D < (J.length:Int)
   ·rw[if_pos Z] at H;have al:decide (D < (J.length:Int))=true:=decide_eq_true Z;clear Z
    by_cases c3:0≤D
    ·rw[if_pos c3] at H;have au:decide (0≤D)=true:=decide_eq_true c3;clear c3;replace H:=Option.bind_eq_some_iff.mp H;obtain⟨am,aj,H⟩:=H;(try dsimp only at H);have A4:=ak aj;clear aj
     by_cases c5:am=true
     ·subst c5;rw[if_pos rfl] at H;have H':=ak H;clear H;have U:0≤(D:Int):=od;have X:D < (J.length:Int):=od;obtain⟨ae,Y,aa⟩:=Kd.at_int ah.out D U X;cases Y;replace U:=eq_true U;replace X:=eq_true X;go_wp2_with (first|(go_at_call 70;(with_reducible refine(spec_l1In.calls (rd J D) 0 255 true _ A4.out).mono ?_);rintro e w' ⟨rfl,⟨nd,rfl⟩⟩))
      go_roundg k1
      case measure=>have:=ai.out;omega
      case rel=>exact⟨(wrap64 (D+1)),FR,H',⟨by have:=ai.out;omega⟩,by repeat(first|exact Drawn0.refl _ | apply Drawn0.step)⟩
     ·replace c5:=Bool.eq_false_iff.mpr c5;subst c5;rw[if_neg (show ¬(false=true) by decide)] at H;obtain rfl:=Option.some.inj H;have U:0≤(D:Int):=od;have X:D < (J.length:Int):=od;obtain⟨ae,Y,aa⟩:=Kd.at_int ah.out D U X;cases Y;replace U:=eq_true U;replace X:=eq_true X;go_wp2_with (first|(go_at_call 70;(with_reducible refine(spec_l1In.calls (rd J D) 0 255 false _ A4.out).mono ?_);rintro e w' ⟨rfl,⟨nd,rfl⟩⟩))
      go_ret
      exact⟨FR,by repeat(first|exact Drawn0.refl _ | apply Drawn0.step)⟩
    ·rw[if_neg c3] at H;exact absurd H (by simp)
   ·rw[if_neg Z] at H;have al:decide (D < (J.length:Int))=false:=decide_eq_false Z;clear Z;obtain rfl:=Option.some.inj H;go_wp2
    go_ret
    exact⟨FR,by repeat(first|exact Drawn0.refl _ | apply Drawn0.step)⟩
attribute [local go_sem high] eqA52
def spec_IsResource.j0:Nat→Bool→Int→List Int→Int→Int→Int→Option (Bool)
  | 0,_,_,_,_,_,_=>none
  | k+1,aa,D,J,U,X,Y=>if aa=true then(some false) else(if D=3 then((spec_IsAddress.f U X Y).bind fun Z=>(if Z=true then(some ((J.length:Int) == 0)) else(some false))) else(if (U == 0 && (X == 0 && (Y == 0)))=true then(if D=4 then(some ((J.length:Int) == 0)) else(some true)) else(some false)))
def spec_IsResource.f (k:Nat)(J:Int)(D:List Int)(U:Int)(X:Int)(Y:Int):Option (Bool):=(spec_l1In.f J 1 4).bind fun Z=>(if Z=true then((spec_l5Bytes.f k D).bind fun aa=>(if aa=true then(spec_IsResource.j0 k (decide ((D.length:Int) > 6)) J D U X Y) else(spec_IsResource.j0 k true J D U X Y))) else(spec_IsResource.j0 k true J D U X Y))
theorem spec_IsResource.calls (k:Nat)(J:Int)(af:Option Addr)(ag:Nat)(Z:List Int)(U:Int)(X:Int)(Y:Int)(r:Bool)(w:World)(ah:Kd.C (Kd.int .i64) w af Z.length Z)(ai:Z.length≤ag)(h:spec_IsResource.f k J Z U X Y=some r) :
  Calls Try.prog 92 #[.agg #[.int .i64 J,.slice af Z.length ag,.int .i64 U,.int .i64 X,.int .i64 Y]] w fun e w'=>e = .returned (.bool r)∧Below w.heap.size w w':=by
 have ct:=Try.underlying56;have cu:=Try.underlying52;have aj:=ak ah;have al:=ak ai;clear ah ai;have HB:=ak (Below.refl w.heap.size w);have H:=h;clear h;unfold spec_IsResource.f at H;have bb:=ak H;clear H;go_enter Try.func92,Try.ntmps92
 go_upto_region 1 with (first|((with_reducible refine gate_dst (N:=1) rfl ?_);(try(refine gate_guard (by rfl) ?_;dsimp only));refine bx_ (N:=1) #[.int .i64 J,.slice af Z.length ag,.int .i64 U,.int .i64 X,.int .i64 Y] 56 ?_;intro b8 hg w3 hbox hb;have D:=ak hbox;have cq:=gy hg HB;replace HB:=bs HB hb;clear hb hbox hg))
 (try simp only[Act.put,List.setIfInBounds_toArray,List.set_cons_zero,List.set_cons_succ])
 go_cut [18] (fun co wc=>∃(kq:Nat)(ab:Bool),co = .bool ab∧Aside0 (spec_IsResource.j0 kq ab J Z U X Y=some r)∧Aside0 (kq≤k)∧Aside0 (wc.heap[b8]?=some (.cells #[.int .i64 J,(.slice af Z.length ag),.int .i64 U,.int .i64 X,.int .i64 Y] 56 (0,0)))∧Aside0 (Below w.heap.size w wc))
 case first =>
  have H:=bb.out;clear bb;replace H:=Option.bind_eq_some_iff.mp H;obtain⟨ck,ch,H⟩:=H;(try dsimp only at H);have A4:=ak ch;clear ch
  by_cases c5:ck=true
  ·subst c5;rw[if_pos rfl] at H;replace H:=Option.bind_eq_some_iff.mp H;obtain⟨cm,ci,H⟩:=H;(try dsimp only at H);have A6:=ak ci;clear ci
   by_cases c7:cm=true
   ·subst c7;rw[if_pos rfl] at H;have H':=ak H;clear H;obtain⟨bf,bg,bh,bi,bj,bk,bl,bm,bo,bp⟩:=bc5 D;go_wp2_with (first|(go_at_call 70;(with_reducible refine(spec_l1In.calls J 1 4 true _ A4.out).mono ?_);rintro e w' ⟨rfl,⟨nd,rfl⟩⟩)|(go_at_call 102;(with_reducible refine(spec_l5Bytes.calls k _ _ Z true _ ?side1 al.out A6.out).mono ?_);(case side1=>exact Kd.C_below aj.out PB);rintro e w' ⟨rfl,⟨nd,rfl⟩⟩))
    go_meet
    case rel=>exact⟨_,(decide ((Z.length:Int) > 6)),FR,H',⟨by first|omega | exact Nat.le_refl _⟩,⟨PK D⟩,⟨PB⟩⟩
   ·replace c7:=Bool.eq_false_iff.mpr c7;subst c7;rw[if_neg (show ¬(false=true) by decide)] at H;have H':=ak H;clear H;obtain⟨br,bu,bv,bw,bx,bz,b0,b4,b5,b6⟩:=bc5 D;go_wp2_with (first|(go_at_call 70;(with_reducible refine(spec_l1In.calls J 1 4 true _ A4.out).mono ?_);rintro e w' ⟨rfl,⟨nd,rfl⟩⟩)|(go_at_call 102;(with_reducible refine(spec_l5Bytes.calls k _ _ Z false _ ?side1 al.out A6.out).mono ?_);(case side1=>exact Kd.C_below aj.out PB);rintro e w' ⟨rfl,⟨nd,rfl⟩⟩))
    go_meet
    case rel=>exact⟨_,(true),FR,H',⟨by first|omega | exact Nat.le_refl _⟩,⟨PK D⟩,⟨PB⟩⟩
  ·replace c5:=Bool.eq_false_iff.mpr c5;subst c5;rw[if_neg (show ¬(false=true) by decide)] at H;have H':=ak H;clear H;obtain⟨ap,aq,ar,au,av,aw,ax,ay,az,ba⟩:=bc5 D;go_wp2_with (first|(go_at_call 70;(with_reducible refine(spec_l1In.calls J 1 4 false _ A4.out).mono ?_);rintro e w' ⟨rfl,⟨nd,rfl⟩⟩))
   go_meet
   case rel=>exact⟨_,(true),FR,H',⟨by first|omega | exact Nat.le_refl _⟩,⟨PK D⟩,⟨PB⟩⟩
 case rest =>
  clear bb;(try clear p2);(try clear c5);(try clear c7);(try clear c9);(try clear ap);(try clear aq);(try clear ar);(try clear au);(try clear av);(try clear bf);(try clear bg);(try clear bh);(try clear bi);(try clear bj);(try clear br);(try clear bu);(try clear bv);(try clear bw);(try clear bx);(try clear aw);(try clear ax);(try clear ay);(try clear az);(try clear ba);(try clear bk);(try clear bl);(try clear bm);(try clear bo);(try clear bp);(try clear bz);(try clear b0);(try clear b4);(try clear b5);(try clear b6);obtain⟨kq,ab,rfl,HA,cv,D,HB⟩:=hcut
  cases kq with
  | zero=>exact absurd HA.out (by simp[spec_IsResource.j0])
  | succ kj1 =>
   have H:=HA.out;clear HA;simp only[spec_IsResource.j0] at H
   by_cases am:ab=true
   ·subst am;rw[if_pos rfl] at H;obtain rfl:=Option.some.inj H;go_wp2
    go_ret
    exact⟨RT,PB⟩
   ·replace am:=Bool.eq_false_iff.mpr am;subst am;rw[if_neg (show ¬(false=true) by decide)] at H
    by_cases ac:J=3
    ·rw[if_pos ac] at H;have b9:(J == 3)=true:=beq_iff_eq.mpr ac;have ca:(J != 3)=false:=bne_eq_false_iff_eq.mpr ac;clear ac;replace H:=Option.bind_eq_some_iff.mp H;obtain⟨cn,b7,H⟩:=H;(try dsimp only at H);have cj:=ak b7;clear b7
     by_cases ao:cn=true
     ·subst ao;rw[if_pos rfl] at H;obtain rfl:=Option.some.inj H;obtain⟨_,_,_,_,_,_,_,_,_,_⟩:=bc5 D;go_wp2_with (first|(go_at_call 91;(with_reducible refine(spec_IsAddress.calls U X Y true _ cj.out).mono ?_);rintro e cw ⟨rfl,hb⟩;replace D:=kf D hb;replace HB:=bs HB hb;clear hb;obtain⟨_,_,_,_,_,_,_,_,_,_⟩:=bc5 D))
      go_ret
      exact⟨RT,PB⟩
     ·replace ao:=Bool.eq_false_iff.mpr ao;subst ao;rw[if_neg (show ¬(false=true) by decide)] at H;obtain rfl:=Option.some.inj H;obtain⟨_,_,_,_,_,_,_,_,_,_⟩:=bc5 D;go_wp2_with (first|(go_at_call 91;(with_reducible refine(spec_IsAddress.calls U X Y false _ cj.out).mono ?_);rintro e cx ⟨rfl,hb⟩;replace D:=kf D hb;replace HB:=bs HB hb;clear hb))
      go_ret
      exact⟨RT,PB⟩
    ·rw[if_neg ac] at H;have b9:(J == 3)=false:=beq_eq_false_iff_ne.mpr ac;have ca:(J != 3)=true:=bne_iff_ne.mpr ac
     by_cases aa:(U == 0 && (X == 0 && (Y == 0)))=true
     ·rw[if_pos aa] at H;have cb:(U == 0 && (X == 0 && (Y == 0)))=true:=aa;(try(have cd:decide (U=0 && (X == 0 && (Y == 0)))=true:=by simpa using aa));(try(have ce:(U == 0 && (X == 0 && (Y == 0)))=true:=by simpa using aa));clear aa
      by_cases ae:J=4
      ·rw[if_pos ae] at H;have cf:(J == 4)=true:=beq_iff_eq.mpr ae;have cg:(J != 4)=false:=bne_eq_false_iff_eq.mpr ae;clear ae;obtain rfl:=Option.some.inj H;obtain⟨_,_,_,_,_,_,_,_,_,_⟩:=bc5 D;go_wp2
       go_ret
       exact⟨RT,PB⟩
      ·rw[if_neg ae] at H;have cf:(J == 4)=false:=beq_eq_false_iff_ne.mpr ae;have cg:(J != 4)=true:=bne_iff_ne.mpr ae;obtain rfl:=Option.some.inj H;obtain⟨_,_,_,_,_,_,_,_,_,_⟩:=bc5 D;go_wp2
       go_ret
       exact⟨RT,PB⟩
     ·rw[if_neg aa] at H
      have cb:(U == 0 && (X == 0 && (Y == 0)))=false:=by simpa using aa
      (try(have cd:decide (U=0 && (X == 0 && (Y == 0)))=false:=by simpa using aa));(try(have ce:(U == 0 && (X == 0 && (Y == 0)))=false:=by simpa using aa));(try(have cr:¬(U=0 && (X == 0 && (Y == 0))):=by simpa using aa));clear aa;obtain rfl:=Option.some.inj H;obtain⟨_,_,_,_,_,_,_,_,_,_⟩:=bc5 D;go_wp2
      go_ret
      exact⟨RT,PB⟩

end Go.Proofs.Ytenpfphghheggaa.MFnExactCapturesOf
