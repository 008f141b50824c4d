-- Written by a program of this session out of the translation's own print. Not trusted: Lean checks it.
import Derived.Test.YthojdjnchhkafaaRun
import Derived.Test.YthojdjnchhkafaaShr2
import Derived.Test.YthojdjnchhkafaaMFnExactTraceVisitx0
import Derived.Test.YthojdjnchhkafaaMFnExactTraceVisitx22
namespace Go.Proofs.Ythojdjnchhkafaa.MFnExactTraceVisit
open Go.RowKit Go.Proofs.YthojdjnchhkafaaW.PrintWords Go.Proofs.YthojdjnchhkafaaW.PrintLast Go.Proofs.YthojdjnchhkafaaW.PrintMore
attribute [local go_sem] max2_int min2_int max_two min_two max_three min_three max_four min_four   -- for this text's walks alone
set_option linter.unusedVariables false
set_option maxHeartbeats 8000000
set_option maxRecDepth 100000
set_option linter.unusedSimpArgs false

abbrev b23_0:Array Bool:=#[true,true,true,true,true,true,true,true,true,true]
abbrev b23_1:Array Bool:=#[true,true,true,true,true,true,true,true,true,false]
abbrev b23_2:Array Bool:=#[true,true,true,true,true,true,true,true,false,false]
abbrev b23_3:Array Bool:=#[true,true,true,true,true,true,true,false,false,false]
abbrev b23_4:Array Bool:=#[true,true,true,false,true,true,true,false,false,false]
abbrev b23_5:Array Bool:=#[true,true,true,false,true,true,false,false,false,false]
abbrev b23_6:Array Bool:=#[true,true,true,false,true,false,false,false,false,false]
abbrev b23_7:Array Bool:=#[true,true,true,false,false,false,false,false,false,false]
abbrev b23_8:Array Bool:=#[true,true,false,false,false,false,false,false,false,false]
abbrev b23_9:Array Bool:=#[true,false,false,false,false,false,false,false,false,false]
abbrev b23_10:Array Bool:=#[false,false,false,false,false,false,false,false,false,false]
/-! ### impl_TraceVisit: function 9 -/
def impl_TraceVisit.f (k:Nat)(X:List (S50))(I:List (S84))(J:Int)(L:Int)(U:List Int):Option ((List (S57))):=(impl_visited.f k X I J L U).bind fun D=>(some D.2)
theorem impl_TraceVisit.calls (k:Nat)(A0:Option Addr)(c0:Nat)(l0:List (S50))(U:Option Addr)(X:Nat)(D:List (S84))(J:Int)(L:Int)(Y:Option Addr)(Z:Nat)(I:List Int)(r:List (S57))(w:World)(ao:Kd.C k50 w A0 l0.length l0)(ap:l0.length≤c0)(ac:Kd.C k84 w U D.length D)(ae:D.length≤X)(af:Kd.C (Kd.int .i64) w Y I.length I)(ag:I.length≤Z)(h:impl_TraceVisit.f k l0 D J L I=some r) :
  Calls Try.prog 9 #[.slice A0 l0.length c0,.agg #[.slice U D.length X,.int .i64 J,.int .i64 L,.slice Y I.length Z]] w fun e w'=>∃ aq:Value,e = .returned (aq)∧Kd.S k57a 57 w' w.heap.size (fun _=>True) aq r∧Below w.heap.size w w':=by
 have bc:=Try.underlying35;have ay:=ak ao;have az:=ak ap;clear ao ap;have ah:=ak ac;have ai:=ak ae;clear ac ae;have aj:=ak af;have al:=ak ag;clear af ag;have HB:=ak (Below.refl w.heap.size w);have H:=h;clear h;unfold impl_TraceVisit.f at H;replace H:=Option.bind_eq_some_iff.mp H;obtain⟨⟨aw,ax⟩,ar,H⟩:=H;(try dsimp only at H);have A3:=ak ar;clear ar;obtain rfl:=Option.some.inj H;go_enter Try.func9,Try.ntmps9;go_wp2_with (first|((with_reducible refine gate_dst (N:=3) rfl ?_);refine bx_ (N:=3) #[.slice U D.length X,.int .i64 J,.int .i64 L,.slice Y I.length Z] 35 ?_;intro a9 hg w4 hbox hb;have aa:=ak hbox;have ba:=gy hg HB;replace HB:=bs HB hb;clear hb hbox hg;obtain⟨_,_,_,_,_,_,_,_⟩:=bc4 aa)|((with_reducible refine gate_callee (f:=23) rfl ?_);refine goesL_ (some 10) rfl rfl Try.func23 KR rfl #[.slice A0 l0.length c0,.agg #[.slice U D.length X,.int .i64 J,.int .i64 L,.slice Y I.length Z]] rfl AR ?_;(with_reducible refine(impl_visited.calls k _ _ l0 _ _ D J L _ _ I aw ax _ ?side1 ?side2 ?side3 ?side4 ?side5 ?side6 A3.out).mono ?_);(case side1=>exact CR (Kd.C_below ay.out HB.out));(case side2=>exact az.out);(case side3=>exact CR (Kd.C_below ah.out HB.out));(case side4=>exact ai.out);(case side5=>exact CR (Kd.C_below aj.out HB.out));(case side6=>exact al.out);rintro e w6 ⟨be,bf,rfl,ho0,ho1,hb⟩;refine⟨_,rfl,?_⟩;have bb:=Rn0 ho0 HB;have am:=ak (Kd.S_lower ho1 (below_size PB));replace aa:=kf aa hb;replace HB:=bs HB hb;clear hb ho0 ho1))
 go_ret
 exact⟨_,RT,TX am.out (fun _ _=>trivial),PB⟩

/-! ### laws_eqIntS: function 27 -/
def laws_eqIntS.l0:Nat→List Int→List Int→Int→Option (Bool)
  | 0,_,_,_=>none
  | k+1,I,J,D=>if D < (I.length:Int) then(if 0≤D then(if D < (J.length:Int) then(if (rd I D)=(rd J D) then(laws_eqIntS.l0 k I J (wrap64 (D+1))) else(some false)) else(none)) else(none)) else(some true)
def laws_eqIntS.f (k:Nat)(D:List Int)(I:List Int):Option (Bool):=if (D.length:Int)=(I.length:Int) then(laws_eqIntS.l0 k D I 0) else(some false)
theorem laws_eqIntS.calls (k:Nat)(A0:Option Addr)(c0:Nat)(I:List Int)(A1:Option Addr)(c1:Nat)(J:List Int)(r:Bool)(w:World)(aq:Kd.C (Kd.int .i64) w A0 I.length I)(ar:I.length≤c0)(au:Kd.C (Kd.int .i64) w A1 J.length J)(av:J.length≤c1)(h:laws_eqIntS.f k I J=some r) :
  Calls Try.prog 27 #[.slice A0 I.length c0,.slice A1 J.length c1] w fun e w'=>e = .returned (.bool r)∧Drawn0 w w':=by
 have aw:=ak aq;have bi:=ak ar;clear aq ar;have ax:=ak au;have bj:=ak av;clear au av;have H:=h;clear h;unfold laws_eqIntS.f at H
 by_cases Z:(I.length:Int)=(J.length:Int)
 ·rw[if_pos Z] at H;have ah:((I.length:Int) == (J.length:Int))=true:=beq_iff_eq.mpr Z;have ai:((I.length:Int) != (J.length:Int))=false:=bne_eq_false_iff_eq.mpr Z
  have aj:(I.length == J.length)=true:=by first|simpa using Z|(simp at Z ⊢;omega)
  clear Z;have H':=ak H;clear H;go_enter Try.func27,Try.ntmps27;go_wp2
  repeat(go_quiet (fail);try go_wp2)
  go_loopg [5] k (fun kq v5 w'=>∃(D:Int),v5 = .int .i64 D∧Aside0 (laws_eqIntS.l0 kq I J D=some r)∧Aside0 (kq≤k)∧Drawn0 w w')
  case atStart=>exact⟨(0),FR,H',⟨Nat.le_refl _⟩,by repeat(first|exact Drawn0.refl _ | apply Drawn0.step)⟩
  case round =>
   clear H';(try clear c1);(try clear c2);(try clear p2);(try clear Z);(try clear ah);(try clear ai);(try clear aj);obtain⟨D,rfl,HA,ay,⟨m1,rfl⟩⟩:=hrel
   cases gk with
   | zero=>exact absurd HA.out (by simp[laws_eqIntS.l0])
   | succ k1 =>
    have H:=HA.out;clear HA;simp only[laws_eqIntS.l0] at H
    by_cases c4:D < (I.length:Int)
    ·rw[if_pos c4] at H;have a9:decide (D < (I.length:Int))=true:=decide_eq_true c4;clear c4
     by_cases c5:0≤D
     ·rw[if_pos c5] at H;have bg:decide (0≤D)=true:=decide_eq_true c5;clear c5
      by_cases c6:D < (J.length:Int)
      ·rw[if_pos c6] at H;have bh:decide (D < (J.length:Int))=true:=decide_eq_true c6;clear c6
       by_cases c7:(rd I D)=(rd J D)
       ·rw[if_pos c7] at H;have ba:((rd I D) == (rd J D))=true:=beq_iff_eq.mpr c7;have bb:((rd I D) != (rd J D))=false:=bne_eq_false_iff_eq.mpr c7;clear c7;have H':=ak H;clear H;have L:0≤(D:Int):=od;have U:D < (I.length:Int):=od;obtain⟨ao,ab,af⟩:=Kd.at_int aw.out D L U;cases ab;replace L:=eq_true L;replace U:=eq_true U;have X:0≤(D:Int):=od;have Y:D < (J.length:Int):=od;obtain⟨ap,ac,ag⟩:=Kd.at_int ax.out D X Y;cases ac;replace X:=eq_true X;replace Y:=eq_true Y;go_wp2
        repeat(go_quiet (fail);try go_wp2)
        go_roundg k1
        case measure=>have:=ay.out;omega
        case rel=>exact⟨(wrap64 (D+1)),FR,H',⟨by have:=ay.out;omega⟩,by repeat(first|exact Drawn0.refl _ | apply Drawn0.step)⟩
       ·rw[if_neg c7] at H;have ba:((rd I D) == (rd J D))=false:=beq_eq_false_iff_ne.mpr c7;have bb:((rd I D) != (rd J D))=true:=bne_iff_ne.mpr c7;obtain rfl:=Option.some.inj H;have L:0≤(D:Int):=od;have U:D < (I.length:Int):=od;obtain⟨ao,ab,af⟩:=Kd.at_int aw.out D L U;cases ab;replace L:=eq_true L;replace U:=eq_true U;have X:0≤(D:Int):=od;have Y:D < (J.length:Int):=od;obtain⟨ap,ac,ag⟩:=Kd.at_int ax.out D X Y;cases ac;replace X:=eq_true X;replace Y:=eq_true Y;go_wp2
        repeat(go_quiet (fail);try go_wp2)
        go_ret
        exact⟨FR,by repeat(first|exact Drawn0.refl _ | apply Drawn0.step)⟩
      ·rw[if_neg c6] at H;exact absurd H (by simp)
     ·rw[if_neg c5] at H;exact absurd H (by simp)
    ·rw[if_neg c4] at H;have a9:decide (D < (I.length:Int))=false:=decide_eq_false c4;clear c4;obtain rfl:=Option.some.inj H;go_wp2
     repeat(go_quiet (fail);try go_wp2)
     go_ret
     exact⟨FR,by repeat(first|exact Drawn0.refl _ | apply Drawn0.step)⟩
 ·rw[if_neg Z] at H;have ah:((I.length:Int) == (J.length:Int))=false:=beq_eq_false_iff_ne.mpr Z;have ai:((I.length:Int) != (J.length:Int))=true:=bne_iff_ne.mpr Z
  have aj:(I.length == J.length)=false:=by first|simpa using Z|(simp at Z ⊢;omega)
  obtain rfl:=Option.some.inj H;go_enter Try.func27,Try.ntmps27;go_wp2
  repeat(go_quiet (fail);try go_wp2)
  go_ret
  exact⟨FR,by repeat(first|exact Drawn0.refl _ | apply Drawn0.step)⟩

/-! ### laws_eqState: function 24 -/
def laws_eqState.f (k:Nat)(D:Int)(I:List Int)(J:List Int)(L:List Int)(U:Int)(X:List Int)(Y:List Int)(Z:List Int):Option (Bool):=if D=U then((laws_eqIntS.f k I X).bind fun aa=>(if aa=true then((laws_eqIntS.f k J Y).bind fun ab=>(if ab=true then((laws_eqIntS.f k L Z).bind fun ac=>(if ac=true then(some true) else(some false))) else(some false))) else(some false))) else(some false)
theorem laws_eqState.calls (k:Nat)(ab:Int)(af:Option Addr)(ag:Nat)(L:List Int)(aj:Option Addr)(al:Nat)(X:List Int)(ap:Option Addr)(aq:Nat)(Z:List Int)(ac:Int)(ah:Option Addr)(ai:Nat)(U:List Int)(am:Option Addr)(ao:Nat)(Y:List Int)(ar:Option Addr)(au:Nat)(aa:List Int)(r:Bool)(w:World)(bh:Kd.C (Kd.int .i64) w af L.length L)(bi:L.length≤ag)(bj:Kd.C (Kd.int .i64) w aj X.length X)(bk:X.length≤al)(bl:Kd.C (Kd.int .i64) w ap Z.length Z)(bm:Z.length≤aq)(bn:Kd.C (Kd.int .i64) w ah U.length U)(bo:U.length≤ai)(bp:Kd.C (Kd.int .i64) w am Y.length Y)(br:Y.length≤ao)(bt:Kd.C (Kd.int .i64) w ar aa.length aa)(bu:aa.length≤au)(h:laws_eqState.f k ab L X Z ac U Y aa=some r) :
  Calls Try.prog 24 #[.agg #[.int .i64 ab,.slice af L.length ag,.slice aj X.length al,.slice ap Z.length aq],.agg #[.int .i64 ac,.slice ah U.length ai,.slice am Y.length ao,.slice ar aa.length au]] w fun e w'=>e = .returned (.bool r)∧Below w.heap.size w w':=by
 have ct:=Try.underlying57;have av:=ak bh;have aw:=ak bi;clear bh bi;have bc:=ak bj;have bd:=ak bk;clear bj bk;have bv:=ak bl;have bw:=ak bm;clear bl bm;have ax:=ak bn;have ay:=ak bo;clear bn bo;have be:=ak bp;have bf:=ak br;clear bp br;have bx:=ak bt;have bz:=ak bu;clear bt bu;have HB:=ak (Below.refl w.heap.size w);have H:=h;clear h;unfold laws_eqState.f at H
 by_cases c3:ab=ac
 ·rw[if_pos c3] at H;have ca:(ab == ac)=true:=beq_iff_eq.mpr c3;have cb:(ab != ac)=false:=bne_eq_false_iff_eq.mpr c3;clear c3;replace H:=Option.bind_eq_some_iff.mp H;obtain⟨cd,b7,H⟩:=H;(try dsimp only at H);have A4:=ak b7;clear b7
  by_cases c5:cd=true
  ·subst c5;rw[if_pos rfl] at H;replace H:=Option.bind_eq_some_iff.mp H;obtain⟨ce,b8,H⟩:=H;(try dsimp only at H);have A6:=ak b8;clear b8
   by_cases c7:ce=true
   ·subst c7;rw[if_pos rfl] at H;replace H:=Option.bind_eq_some_iff.mp H;obtain⟨cg,b9,H⟩:=H;(try dsimp only at H);have A8:=ak b9;clear b9
    by_cases c9:cg=true
    ·subst c9;rw[if_pos rfl] at H;obtain rfl:=Option.some.inj H;go_enter Try.func24,Try.ntmps24;go_wp2_with (first|((with_reducible refine gate_dst (N:=2) rfl ?_);refine bx_ (N:=2) #[.int .i64 ab,.slice af L.length ag,.slice aj X.length al,.slice ap Z.length aq] 57 ?_;intro az hg cu hbox hb;have D:=ak hbox;have a9:=gy hg HB;replace HB:=bs HB hb;clear hb hbox hg)|((with_reducible refine gate_dst (N:=3) rfl ?_);refine bx_ (N:=3) #[.int .i64 ac,.slice ah U.length ai,.slice am Y.length ao,.slice ar aa.length au] 57 ?_;intro ba hg cv hbox hb;have ae:=ak hbox;have bb:=gy hg HB;replace HB:=bs HB hb;have I:=gm hg D;have J:=gn hg D;replace D:=kf D hb;clear hb hbox hg;have ci:=I.out;have cj:=J.out;obtain⟨_,_,_,_,_,_,_,_⟩:=bc4 D;obtain⟨_,_,_,_,_,_,_,_⟩:=bc4 ae)|((with_reducible refine gate_callee (f:=27) rfl ?_);refine goesL_ (some 14) rfl rfl Try.func27 KR rfl #[.slice af L.length ag,.slice ah U.length ai] rfl AR ?_;(with_reducible refine(laws_eqIntS.calls k _ _ L _ _ U true _ ?side1 ?side2 ?side3 ?side4 A4.out).mono ?_);(case side1=>exact CR (Kd.C_below av.out HB.out));(case side2=>exact aw.out);(case side3=>exact CR (Kd.C_below ax.out HB.out));(case side4=>exact ay.out);rintro e w' ⟨rfl,⟨nd,rfl⟩⟩;refine⟨_,rfl,?_⟩)|((with_reducible refine gate_callee (f:=27) rfl ?_);refine goesL_ (some 20) rfl rfl Try.func27 KR rfl #[.slice aj X.length al,.slice am Y.length ao] rfl AR ?_;(with_reducible refine(laws_eqIntS.calls k _ _ X _ _ Y true _ ?side1 ?side2 ?side3 ?side4 A6.out).mono ?_);(case side1=>repeat(first|exact(Kd.C_below bc.out PB)|(with_reducible refine Kd.C_alloc ?_ _)|(with_reducible refine Kd.C_drewN ?_ _)|(with_reducible refine Kd.C_drew ?_)));(case side2=>exact bd.out);(case side3=>repeat(first|exact(Kd.C_below be.out PB)|(with_reducible refine Kd.C_alloc ?_ _)|(with_reducible refine Kd.C_drewN ?_ _)|(with_reducible refine Kd.C_drew ?_)));(case side4=>exact bf.out);rintro e w' ⟨rfl,⟨nd,rfl⟩⟩;refine⟨_,rfl,?_⟩)|((with_reducible refine gate_callee (f:=27) rfl ?_);refine goesL_ (some 26) rfl rfl Try.func27 KR rfl #[.slice ap Z.length aq,.slice ar aa.length au] rfl AR ?_;(with_reducible refine(laws_eqIntS.calls k _ _ Z _ _ aa true _ ?side1 ?side2 ?side3 ?side4 A8.out).mono ?_);(case side1=>repeat(first|exact(Kd.C_below bv.out PB)|(with_reducible refine Kd.C_alloc ?_ _)|(with_reducible refine Kd.C_drewN ?_ _)|(with_reducible refine Kd.C_drew ?_)));(case side2=>exact bw.out);(case side3=>repeat(first|exact(Kd.C_below bx.out PB)|(with_reducible refine Kd.C_alloc ?_ _)|(with_reducible refine Kd.C_drewN ?_ _)|(with_reducible refine Kd.C_drew ?_)));(case side4=>exact bz.out);rintro e w' ⟨rfl,⟨nd,rfl⟩⟩;refine⟨_,rfl,?_⟩))
     go_ret
     exact⟨RT,PB⟩
    ·replace c9:=Bool.eq_false_iff.mpr c9;subst c9;rw[if_neg (show ¬(false=true) by decide)] at H;obtain rfl:=Option.some.inj H;go_enter Try.func24,Try.ntmps24;go_wp2_with (first|((with_reducible refine gate_dst (N:=2) rfl ?_);refine bx_ (N:=2) #[.int .i64 ab,.slice af L.length ag,.slice aj X.length al,.slice ap Z.length aq] 57 ?_;intro az hg cw hbox hb;have D:=ak hbox;have a9:=gy hg HB;replace HB:=bs HB hb;clear hb hbox hg)|((with_reducible refine gate_dst (N:=3) rfl ?_);refine bx_ (N:=3) #[.int .i64 ac,.slice ah U.length ai,.slice am Y.length ao,.slice ar aa.length au] 57 ?_;intro ba hg cx hbox hb;have ae:=ak hbox;have bb:=gy hg HB;replace HB:=bs HB hb;have I:=gm hg D;have J:=gn hg D;replace D:=kf D hb;clear hb hbox hg;have ck:=I.out;have cl:=J.out;obtain⟨_,_,_,_,_,_,_,_⟩:=bc4 D;obtain⟨_,_,_,_,_,_,_,_⟩:=bc4 ae)|((with_reducible refine gate_callee (f:=27) rfl ?_);refine goesL_ (some 14) rfl rfl Try.func27 KR rfl #[.slice af L.length ag,.slice ah U.length ai] rfl AR ?_;(with_reducible refine(laws_eqIntS.calls k _ _ L _ _ U true _ ?side1 ?side2 ?side3 ?side4 A4.out).mono ?_);(case side1=>exact CR (Kd.C_below av.out HB.out));(case side2=>exact aw.out);(case side3=>exact CR (Kd.C_below ax.out HB.out));(case side4=>exact ay.out);rintro e w' ⟨rfl,⟨nd,rfl⟩⟩;refine⟨_,rfl,?_⟩)|((with_reducible refine gate_callee (f:=27) rfl ?_);refine goesL_ (some 20) rfl rfl Try.func27 KR rfl #[.slice aj X.length al,.slice am Y.length ao] rfl AR ?_;(with_reducible refine(laws_eqIntS.calls k _ _ X _ _ Y true _ ?side1 ?side2 ?side3 ?side4 A6.out).mono ?_);(case side1=>repeat(first|exact(Kd.C_below bc.out PB)|(with_reducible refine Kd.C_alloc ?_ _)|(with_reducible refine Kd.C_drewN ?_ _)|(with_reducible refine Kd.C_drew ?_)));(case side2=>exact bd.out);(case side3=>repeat(first|exact(Kd.C_below be.out PB)|(with_reducible refine Kd.C_alloc ?_ _)|(with_reducible refine Kd.C_drewN ?_ _)|(with_reducible refine Kd.C_drew ?_)));(case side4=>exact bf.out);rintro e w' ⟨rfl,⟨nd,rfl⟩⟩;refine⟨_,rfl,?_⟩)|((with_reducible refine gate_callee (f:=27) rfl ?_);refine goesL_ (some 26) rfl rfl Try.func27 KR rfl #[.slice ap Z.length aq,.slice ar aa.length au] rfl AR ?_;(with_reducible refine(laws_eqIntS.calls k _ _ Z _ _ aa false _ ?side1 ?side2 ?side3 ?side4 A8.out).mono ?_);(case side1=>repeat(first|exact(Kd.C_below bv.out PB)|(with_reducible refine Kd.C_alloc ?_ _)|(with_reducible refine Kd.C_drewN ?_ _)|(with_reducible refine Kd.C_drew ?_)));(case side2=>exact bw.out);(case side3=>repeat(first|exact(Kd.C_below bx.out PB)|(with_reducible refine Kd.C_alloc ?_ _)|(with_reducible refine Kd.C_drewN ?_ _)|(with_reducible refine Kd.C_drew ?_)));(case side4=>exact bz.out);rintro e w' ⟨rfl,⟨nd,rfl⟩⟩;refine⟨_,rfl,?_⟩))
     go_ret
     exact⟨RT,PB⟩
   ·replace c7:=Bool.eq_false_iff.mpr c7;subst c7;rw[if_neg (show ¬(false=true) by decide)] at H;obtain rfl:=Option.some.inj H;go_enter Try.func24,Try.ntmps24;go_wp2_with (first|((with_reducible refine gate_dst (N:=2) rfl ?_);refine bx_ (N:=2) #[.int .i64 ab,.slice af L.length ag,.slice aj X.length al,.slice ap Z.length aq] 57 ?_;intro az hg cy hbox hb;have D:=ak hbox;have a9:=gy hg HB;replace HB:=bs HB hb;clear hb hbox hg)|((with_reducible refine gate_dst (N:=3) rfl ?_);refine bx_ (N:=3) #[.int .i64 ac,.slice ah U.length ai,.slice am Y.length ao,.slice ar aa.length au] 57 ?_;intro ba hg cz hbox hb;have ae:=ak hbox;have bb:=gy hg HB;replace HB:=bs HB hb;have I:=gm hg D;have J:=gn hg D;replace D:=kf D hb;clear hb hbox hg;have cm:=I.out;have cn:=J.out;obtain⟨_,_,_,_,_,_,_,_⟩:=bc4 D;obtain⟨_,_,_,_,_,_,_,_⟩:=bc4 ae)|((with_reducible refine gate_callee (f:=27) rfl ?_);refine goesL_ (some 14) rfl rfl Try.func27 KR rfl #[.slice af L.length ag,.slice ah U.length ai] rfl AR ?_;(with_reducible refine(laws_eqIntS.calls k _ _ L _ _ U true _ ?side1 ?side2 ?side3 ?side4 A4.out).mono ?_);(case side1=>exact CR (Kd.C_below av.out HB.out));(case side2=>exact aw.out);(case side3=>exact CR (Kd.C_below ax.out HB.out));(case side4=>exact ay.out);rintro e w' ⟨rfl,⟨nd,rfl⟩⟩;refine⟨_,rfl,?_⟩)|((with_reducible refine gate_callee (f:=27) rfl ?_);refine goesL_ (some 20) rfl rfl Try.func27 KR rfl #[.slice aj X.length al,.slice am Y.length ao] rfl AR ?_;(with_reducible refine(laws_eqIntS.calls k _ _ X _ _ Y false _ ?side1 ?side2 ?side3 ?side4 A6.out).mono ?_);(case side1=>repeat(first|exact(Kd.C_below bc.out PB)|(with_reducible refine Kd.C_alloc ?_ _)|(with_reducible refine Kd.C_drewN ?_ _)|(with_reducible refine Kd.C_drew ?_)));(case side2=>exact bd.out);(case side3=>repeat(first|exact(Kd.C_below be.out PB)|(with_reducible refine Kd.C_alloc ?_ _)|(with_reducible refine Kd.C_drewN ?_ _)|(with_reducible refine Kd.C_drew ?_)));(case side4=>exact bf.out);rintro e w' ⟨rfl,⟨nd,rfl⟩⟩;refine⟨_,rfl,?_⟩))
    go_ret
    exact⟨RT,PB⟩
  ·replace c5:=Bool.eq_false_iff.mpr c5;subst c5;rw[if_neg (show ¬(false=true) by decide)] at H;obtain rfl:=Option.some.inj H;go_enter Try.func24,Try.ntmps24;go_wp2_with (first|((with_reducible refine gate_dst (N:=2) rfl ?_);refine bx_ (N:=2) #[.int .i64 ab,.slice af L.length ag,.slice aj X.length al,.slice ap Z.length aq] 57 ?_;intro az hg da hbox hb;have D:=ak hbox;have a9:=gy hg HB;replace HB:=bs HB hb;clear hb hbox hg)|((with_reducible refine gate_dst (N:=3) rfl ?_);refine bx_ (N:=3) #[.int .i64 ac,.slice ah U.length ai,.slice am Y.length ao,.slice ar aa.length au] 57 ?_;intro ba hg db hbox hb;have ae:=ak hbox;have bb:=gy hg HB;replace HB:=bs HB hb;have I:=gm hg D;have J:=gn hg D;replace D:=kf D hb;clear hb hbox hg;have co:=I.out;have cp:=J.out;obtain⟨_,_,_,_,_,_,_,_⟩:=bc4 D;obtain⟨_,_,_,_,_,_,_,_⟩:=bc4 ae)|((with_reducible refine gate_callee (f:=27) rfl ?_);refine goesL_ (some 14) rfl rfl Try.func27 KR rfl #[.slice af L.length ag,.slice ah U.length ai] rfl AR ?_;(with_reducible refine(laws_eqIntS.calls k _ _ L _ _ U false _ ?side1 ?side2 ?side3 ?side4 A4.out).mono ?_);(case side1=>exact CR (Kd.C_below av.out HB.out));(case side2=>exact aw.out);(case side3=>exact CR (Kd.C_below ax.out HB.out));(case side4=>exact ay.out);rintro e w' ⟨rfl,⟨nd,rfl⟩⟩;refine⟨_,rfl,?_⟩))
   go_ret
   exact⟨RT,PB⟩
 ·rw[if_neg c3] at H;have ca:(ab == ac)=false:=beq_eq_false_iff_ne.mpr c3;have cb:(ab != ac)=true:=bne_iff_ne.mpr c3;obtain rfl:=Option.some.inj H;go_enter Try.func24,Try.ntmps24;go_wp2_with (first|((with_reducible refine gate_dst (N:=2) rfl ?_);refine bx_ (N:=2) #[.int .i64 ab,.slice af L.length ag,.slice aj X.length al,.slice ap Z.length aq] 57 ?_;intro az hg dc hbox hb;have D:=ak hbox;have a9:=gy hg HB;replace HB:=bs HB hb;clear hb hbox hg)|((with_reducible refine gate_dst (N:=3) rfl ?_);refine bx_ (N:=3) #[.int .i64 ac,.slice ah U.length ai,.slice am Y.length ao,.slice ar aa.length au] 57 ?_;intro ba hg de hbox hb;have ae:=ak hbox;have bb:=gy hg HB;replace HB:=bs HB hb;have I:=gm hg D;have J:=gn hg D;replace D:=kf D hb;clear hb hbox hg;have cq:=I.out;have cr:=J.out;obtain⟨_,_,_,_,_,_,_,_⟩:=bc4 D;obtain⟨_,_,_,_,_,_,_,_⟩:=bc4 ae))
  go_ret
  exact⟨RT,PB⟩

/-! ### laws_eqStateS: function 10 -/
def laws_eqStateS.l0:Nat→List (S57)→List (S57)→Int→Option (Bool)
  | 0,_,_,_=>none
  | k+1,I,J,D=>if D < (I.length:Int) then(if 0≤D then(if D < (J.length:Int) then((laws_eqState.f k ((rd_T57 I D).f0) ((rd_T57 I D).f1) ((rd_T57 I D).f2) ((rd_T57 I D).f3) ((rd_T57 J D).f0) ((rd_T57 J D).f1) ((rd_T57 J D).f2) ((rd_T57 J D).f3)).bind fun L=>(if L=true then(laws_eqStateS.l0 k I J (wrap64 (D+1))) else(some false))) else(none)) else(none)) else(some true)
def laws_eqStateS.f (k:Nat)(D:List (S57))(I:List (S57)):Option (Bool):=if (D.length:Int)=(I.length:Int) then(laws_eqStateS.l0 k D I 0) else(some false)
def laws_eqStateS.T6:Bool×List (List Nat×List Nat):=(true,[([],[]),([],[]),([0,1],[0,1]),([2],[2]),([],[]),([],[]),([4,5],[4,5]),([6],[6]),([3,7],[3,7]),([8],[8])])
def laws_eqStateS.B6:List Nat:=[0,0,3,7,0,0,48,112,255,511]
theorem laws_eqStateS.tab6:rtab .any (opsOf Try.f10 6)=laws_eqStateS.T6:=by kernel_rfl
theorem laws_eqStateS.bits6:waitsOk laws_eqStateS.T6.2 laws_eqStateS.B6=true:=by kernel_rfl
theorem laws_eqStateS.calls (k:Nat)(A0:Option Addr)(c0:Nat)(I:List (S57))(A1:Option Addr)(c1:Nat)(J:List (S57))(r:Bool)(w:World)(ce:Kd.C k57 w A0 I.length I)(cf:I.length≤c0)(cg:Kd.C k57 w A1 J.length J)(ch:J.length≤c1)(h:laws_eqStateS.f k I J=some r) :
  Calls Try.prog 10 #[.slice A0 I.length c0,.slice A1 J.length c1] w fun e w'=>e = .returned (.bool r)∧Below w.heap.size w w':=by
 have cu:=Try.underlying57;have ci:=ak ce;have cy:=ak cf;clear ce cf;have cj:=ak cg;have cz:=ak ch;clear cg ch;have HB:=ak (Below.refl w.heap.size w);have H:=h;clear h;unfold laws_eqStateS.f at H
 by_cases c3:(I.length:Int)=(J.length:Int)
 ·rw[if_pos c3] at H;have b7:((I.length:Int) == (J.length:Int))=true:=beq_iff_eq.mpr c3;have b8:((I.length:Int) != (J.length:Int))=false:=bne_eq_false_iff_eq.mpr c3
  have b9:(I.length == J.length)=true:=by first|simpa using c3|(simp at c3 ⊢;omega)
  clear c3;have H':=ak H;clear H;go_enter Try.func10,Try.ntmps10;go_wp2
  go_loopg [5] k (fun kq v5 w'=>∃(D:Int),v5 = .int .i64 D∧Aside0 (laws_eqStateS.l0 kq I J D=some r)∧Aside0 (kq≤k)∧Aside0 (Below w.heap.size w w'))
  case atStart=>exact⟨(0),FR,H',⟨Nat.le_refl _⟩,⟨PB⟩⟩
  case round =>
   clear H';(try clear c1);(try clear p2);(try clear c3);(try clear b7);(try clear b8);(try clear b9);obtain⟨D,rfl,HA,ck,HB⟩:=hrel
   cases gk with
   | zero=>exact absurd HA.out (by simp[laws_eqStateS.l0])
   | succ k1 =>
    have H:=HA.out;clear HA;simp only[laws_eqStateS.l0] at H
    by_cases c4:D < (I.length:Int)
    ·rw[if_pos c4] at H;have cn:decide (D < (I.length:Int))=true:=decide_eq_true c4;clear c4
     by_cases c5:0≤D
     ·rw[if_pos c5] at H;have cw:decide (0≤D)=true:=decide_eq_true c5;clear c5
      by_cases c6:D < (J.length:Int)
      ·rw[if_pos c6] at H;have cx:decide (D < (J.length:Int))=true:=decide_eq_true c6;clear c6;replace H:=Option.bind_eq_some_iff.mp H;obtain⟨co,cl,H⟩:=H;(try dsimp only at H);have A7:=ak cl;clear cl
       by_cases c8:co=true
       ·subst c8;rw[if_pos rfl] at H;have H':=ak H;clear H
        try go_wp2
        replace HB:=ak (below_drew1 HB.out);have bn:0≤(D:Int):=od;have bo:D < (I.length:Int):=od;obtain⟨L,bb,bc,bd,be,bf,bg,b4,X,Y,Z,aa,ag,ah,ai,aj,al,am⟩:=at_T57 ci.out D bn bo;have hw688_3:=aa;have hw688_2:=Z;have hw688_1:=Y;have hw688_0:=X;cases b4;replace X:=hx_ HB X;replace Y:=hx_ HB Y;replace Z:=hx_ HB Z;replace aa:=hx_ HB aa;have ao:=ak ah;have bt:=ak ag;clear ah ag;have ap:=ak aj;have bu:=ak ai;clear aj ai;have aq:=ak am;have bv:=ak al;clear am al;replace bn:=eq_true bn;replace bo:=eq_true bo;have bp:0≤(D:Int):=od;have br:D < (J.length:Int):=od;obtain⟨U,bh,bi,bj,bk,bl,bm,b5,ab,ac,ae,af,ar,au,av,aw,ax,ay⟩:=at_T57 cj.out D bp br;have hw689_3:=af;have hw689_2:=ae;have hw689_1:=ac;have hw689_0:=ab;cases b5;replace ab:=hx_ HB ab;replace ac:=hx_ HB ac;replace ae:=hx_ HB ae;replace af:=hx_ HB af;have az:=ak au;have bw:=ak ar;clear au ar;have a9:=ak aw;have bx:=ak av;clear aw av;have ba:=ak ay;have bz:=ak ax;clear ay ax;replace bp:=eq_true bp;replace br:=eq_true br;refine start_ (n:=10) (S:=fun w'=>w'.cell? (L.add ((D).toNat * 4))=some (.int .i64 ((rd_T57 I D).f0))∧w'.cell? ⟨(L.add ((D).toNat * 4)).block,(L.add ((D).toNat * 4)).off+1,none⟩=some (.slice bb ((rd_T57 I D).f1).length bc)∧w'.cell? ⟨(L.add ((D).toNat * 4)).block,(L.add ((D).toNat * 4)).off+2,none⟩=some (.slice bd ((rd_T57 I D).f2).length be)∧w'.cell? ⟨(L.add ((D).toNat * 4)).block,(L.add ((D).toNat * 4)).off+3,none⟩=some (.slice bf ((rd_T57 I D).f3).length bg)∧w'.cell? (U.add ((D).toNat * 4))=some (.int .i64 ((rd_T57 J D).f0))∧w'.cell? ⟨(U.add ((D).toNat * 4)).block,(U.add ((D).toNat * 4)).off+1,none⟩=some (.slice bh ((rd_T57 J D).f1).length bi)∧w'.cell? ⟨(U.add ((D).toNat * 4)).block,(U.add ((D).toNat * 4)).off+2,none⟩=some (.slice bj ((rd_T57 J D).f2).length bk)∧w'.cell? ⟨(U.add ((D).toNat * 4)).block,(U.add ((D).toNat * 4)).off+3,none⟩=some (.slice bl ((rd_T57 J D).f3).length bm)) (ds:=[]) b23_10 KR rfl rfl ⟨((HB.out.cell (World.block_lt_of_cell? w _ hw688_0)).trans hw688_0),((HB.out.cell (World.block_lt_of_cell? w _ hw688_1)).trans hw688_1),((HB.out.cell (World.block_lt_of_cell? w _ hw688_2)).trans hw688_2),((HB.out.cell (World.block_lt_of_cell? w _ hw688_3)).trans hw688_3),((HB.out.cell (World.block_lt_of_cell? w _ hw689_0)).trans hw689_0),((HB.out.cell (World.block_lt_of_cell? w _ hw689_1)).trans hw689_1),((HB.out.cell (World.block_lt_of_cell? w _ hw689_2)).trans hw689_2),((HB.out.cell (World.block_lt_of_cell? w _ hw689_3)).trans hw689_3)⟩ (fun hHeld=>?_);refine with_tabW laws_eqStateS.tab6 laws_eqStateS.bits6 (fun HT_ HW_=>?_)
        generalize wr.drew=w9 at HB ao ap aq az a9 ba X Y Z aa ab ac ae af hHeld ⊢
        refine pu_ (i:=0) (N:=some 17) b23_9 HT_ ?_;refine pu_ (i:=1) (N:=some 18) b23_8 HT_ ?_;refine pu_ (i:=2) (N:=some 19) b23_7 HT_ ?_;refine pu_ (i:=4) (N:=some 21) b23_6 HT_ ?_;refine pu_ (i:=5) (N:=some 22) b23_5 HT_ ?_;refine pu_ (i:=6) (N:=some 23) b23_4 HT_ ?_;refine tk_ (i:=3) (N:=some 20) b23_3 rfl rfl HT_ HW_ hHeld ?_;refine tq_ (i:=7) (N:=some 24) b23_2 rfl rfl (take_ofW HT_.out HW_.out KR) hHeld ?_
        refine one_ (i:=8) (N:=some 25) b23_1 rfl rfl (one_of HT_.out KR) (by decide) (fun K hK=>?_);refine goes_ Try.func24 KR rfl #[.agg #[.int .i64 ((rd_T57 I D).f0),.slice bb ((rd_T57 I D).f1).length bc,.slice bd ((rd_T57 I D).f2).length be,.slice bf ((rd_T57 I D).f3).length bg],.agg #[.int .i64 ((rd_T57 J D).f0),.slice bh ((rd_T57 J D).f1).length bi,.slice bj ((rd_T57 J D).f2).length bk,.slice bl ((rd_T57 J D).f3).length bm]] (by rfl) rfl rfl AR ?_
        with_reducible refine(laws_eqState.calls k1 ((rd_T57 I D).f0) _ _ ((rd_T57 I D).f1) _ _ ((rd_T57 I D).f2) _ _ ((rd_T57 I D).f3) ((rd_T57 J D).f0) _ _ ((rd_T57 J D).f1) _ _ ((rd_T57 J D).f2) _ _ ((rd_T57 J D).f3) true _ ?side1 ?side2 ?side3 ?side4 ?side5 ?side6 ?side7 ?side8 ?side9 ?side10 ?side11 ?side12 A7.out).mono ?_
        (case side1=>exact CR (Kd.C_below ao.out HB.out));(case side2=>exact bt.out);(case side3=>exact CR (Kd.C_below ap.out HB.out));(case side4=>exact bu.out);(case side5=>exact CR (Kd.C_below aq.out HB.out));(case side6=>exact bv.out);(case side7=>exact CR (Kd.C_below az.out HB.out));(case side8=>exact bw.out);(case side9=>exact CR (Kd.C_below a9.out HB.out));(case side10=>exact bx.out);(case side11=>exact CR (Kd.C_below ba.out HB.out));(case side12=>exact bz.out);rintro e da ⟨rfl,hb⟩;refine⟨_,rfl,?_⟩;replace HB:=bs HB hb;(try clear hb);(try clear hb2);(try clear hk);(try clear hi);refine hK.out _ _ ⟨((HB.out.cell (World.block_lt_of_cell? w _ hw688_0)).trans hw688_0),((HB.out.cell (World.block_lt_of_cell? w _ hw688_1)).trans hw688_1),((HB.out.cell (World.block_lt_of_cell? w _ hw688_2)).trans hw688_2),((HB.out.cell (World.block_lt_of_cell? w _ hw688_3)).trans hw688_3),((HB.out.cell (World.block_lt_of_cell? w _ hw689_0)).trans hw689_0),((HB.out.cell (World.block_lt_of_cell? w _ hw689_1)).trans hw689_1),((HB.out.cell (World.block_lt_of_cell? w _ hw689_2)).trans hw689_2),((HB.out.cell (World.block_lt_of_cell? w _ hw689_3)).trans hw689_3)⟩ (fun hHeld=>?_);clear hK K;refine nq_ (N:=(some 25)) ?_
        refine pu_ (i:=9) (N:=some 26) b23_0 HT_ ?_;refine done_ (done_of HT_.out KR) ?_
        try go_wp2
        go_roundg k1
        case measure=>have:=ck.out;omega
        case rel=>exact⟨(wrap64 (D+1)),FR,H',⟨by have:=ck.out;omega⟩,⟨PB⟩⟩
       ·replace c8:=Bool.eq_false_iff.mpr c8;subst c8;rw[if_neg (show ¬(false=true) by decide)] at H;obtain rfl:=Option.some.inj H
        try go_wp2
        replace HB:=ak (below_drew1 HB.out);have bn:0≤(D:Int):=od;have bo:D < (I.length:Int):=od;obtain⟨L,bb,bc,bd,be,bf,bg,b4,X,Y,Z,aa,ag,ah,ai,aj,al,am⟩:=at_T57 ci.out D bn bo;have hw688_3:=aa;have hw688_2:=Z;have hw688_1:=Y;have hw688_0:=X;cases b4;replace X:=hx_ HB X;replace Y:=hx_ HB Y;replace Z:=hx_ HB Z;replace aa:=hx_ HB aa;have ao:=ak ah;have bt:=ak ag;clear ah ag;have ap:=ak aj;have bu:=ak ai;clear aj ai;have aq:=ak am;have bv:=ak al;clear am al;replace bn:=eq_true bn;replace bo:=eq_true bo;have bp:0≤(D:Int):=od;have br:D < (J.length:Int):=od;obtain⟨U,bh,bi,bj,bk,bl,bm,b5,ab,ac,ae,af,ar,au,av,aw,ax,ay⟩:=at_T57 cj.out D bp br;have hw689_3:=af;have hw689_2:=ae;have hw689_1:=ac;have hw689_0:=ab;cases b5;replace ab:=hx_ HB ab;replace ac:=hx_ HB ac;replace ae:=hx_ HB ae;replace af:=hx_ HB af;have az:=ak au;have bw:=ak ar;clear au ar;have a9:=ak aw;have bx:=ak av;clear aw av;have ba:=ak ay;have bz:=ak ax;clear ay ax;replace bp:=eq_true bp;replace br:=eq_true br;refine start_ (n:=10) (S:=fun w'=>w'.cell? (L.add ((D).toNat * 4))=some (.int .i64 ((rd_T57 I D).f0))∧w'.cell? ⟨(L.add ((D).toNat * 4)).block,(L.add ((D).toNat * 4)).off+1,none⟩=some (.slice bb ((rd_T57 I D).f1).length bc)∧w'.cell? ⟨(L.add ((D).toNat * 4)).block,(L.add ((D).toNat * 4)).off+2,none⟩=some (.slice bd ((rd_T57 I D).f2).length be)∧w'.cell? ⟨(L.add ((D).toNat * 4)).block,(L.add ((D).toNat * 4)).off+3,none⟩=some (.slice bf ((rd_T57 I D).f3).length bg)∧w'.cell? (U.add ((D).toNat * 4))=some (.int .i64 ((rd_T57 J D).f0))∧w'.cell? ⟨(U.add ((D).toNat * 4)).block,(U.add ((D).toNat * 4)).off+1,none⟩=some (.slice bh ((rd_T57 J D).f1).length bi)∧w'.cell? ⟨(U.add ((D).toNat * 4)).block,(U.add ((D).toNat * 4)).off+2,none⟩=some (.slice bj ((rd_T57 J D).f2).length bk)∧w'.cell? ⟨(U.add ((D).toNat * 4)).block,(U.add ((D).toNat * 4)).off+3,none⟩=some (.slice bl ((rd_T57 J D).f3).length bm)) (ds:=[]) b23_10 KR rfl rfl ⟨((HB.out.cell (World.block_lt_of_cell? w _ hw688_0)).trans hw688_0),((HB.out.cell (World.block_lt_of_cell? w _ hw688_1)).trans hw688_1),((HB.out.cell (World.block_lt_of_cell? w _ hw688_2)).trans hw688_2),((HB.out.cell (World.block_lt_of_cell? w _ hw688_3)).trans hw688_3),((HB.out.cell (World.block_lt_of_cell? w _ hw689_0)).trans hw689_0),((HB.out.cell (World.block_lt_of_cell? w _ hw689_1)).trans hw689_1),((HB.out.cell (World.block_lt_of_cell? w _ hw689_2)).trans hw689_2),((HB.out.cell (World.block_lt_of_cell? w _ hw689_3)).trans hw689_3)⟩ (fun hHeld=>?_);refine with_tabW laws_eqStateS.tab6 laws_eqStateS.bits6 (fun HT_ HW_=>?_)
        generalize wr.drew=db at HB ao ap aq az a9 ba X Y Z aa ab ac ae af hHeld ⊢
        refine pu_ (i:=0) (N:=some 17) b23_9 HT_ ?_;refine pu_ (i:=1) (N:=some 18) b23_8 HT_ ?_;refine pu_ (i:=2) (N:=some 19) b23_7 HT_ ?_;refine pu_ (i:=4) (N:=some 21) b23_6 HT_ ?_;refine pu_ (i:=5) (N:=some 22) b23_5 HT_ ?_;refine pu_ (i:=6) (N:=some 23) b23_4 HT_ ?_;refine tk_ (i:=3) (N:=some 20) b23_3 rfl rfl HT_ HW_ hHeld ?_;refine tq_ (i:=7) (N:=some 24) b23_2 rfl rfl (take_ofW HT_.out HW_.out KR) hHeld ?_
        refine one_ (i:=8) (N:=some 25) b23_1 rfl rfl (one_of HT_.out KR) (by decide) (fun K hK=>?_);refine goes_ Try.func24 KR rfl #[.agg #[.int .i64 ((rd_T57 I D).f0),.slice bb ((rd_T57 I D).f1).length bc,.slice bd ((rd_T57 I D).f2).length be,.slice bf ((rd_T57 I D).f3).length bg],.agg #[.int .i64 ((rd_T57 J D).f0),.slice bh ((rd_T57 J D).f1).length bi,.slice bj ((rd_T57 J D).f2).length bk,.slice bl ((rd_T57 J D).f3).length bm]] (by rfl) rfl rfl AR ?_
        with_reducible refine(laws_eqState.calls k1 ((rd_T57 I D).f0) _ _ ((rd_T57 I D).f1) _ _ ((rd_T57 I D).f2) _ _ ((rd_T57 I D).f3) ((rd_T57 J D).f0) _ _ ((rd_T57 J D).f1) _ _ ((rd_T57 J D).f2) _ _ ((rd_T57 J D).f3) false _ ?side1 ?side2 ?side3 ?side4 ?side5 ?side6 ?side7 ?side8 ?side9 ?side10 ?side11 ?side12 A7.out).mono ?_
        (case side1=>exact CR (Kd.C_below ao.out HB.out));(case side2=>exact bt.out);(case side3=>exact CR (Kd.C_below ap.out HB.out));(case side4=>exact bu.out);(case side5=>exact CR (Kd.C_below aq.out HB.out));(case side6=>exact bv.out);(case side7=>exact CR (Kd.C_below az.out HB.out));(case side8=>exact bw.out);(case side9=>exact CR (Kd.C_below a9.out HB.out));(case side10=>exact bx.out);(case side11=>exact CR (Kd.C_below ba.out HB.out));(case side12=>exact bz.out);rintro e dc ⟨rfl,hb⟩;refine⟨_,rfl,?_⟩;replace HB:=bs HB hb;(try clear hb);(try clear hb2);(try clear hk);(try clear hi);refine hK.out _ _ ⟨((HB.out.cell (World.block_lt_of_cell? w _ hw688_0)).trans hw688_0),((HB.out.cell (World.block_lt_of_cell? w _ hw688_1)).trans hw688_1),((HB.out.cell (World.block_lt_of_cell? w _ hw688_2)).trans hw688_2),((HB.out.cell (World.block_lt_of_cell? w _ hw688_3)).trans hw688_3),((HB.out.cell (World.block_lt_of_cell? w _ hw689_0)).trans hw689_0),((HB.out.cell (World.block_lt_of_cell? w _ hw689_1)).trans hw689_1),((HB.out.cell (World.block_lt_of_cell? w _ hw689_2)).trans hw689_2),((HB.out.cell (World.block_lt_of_cell? w _ hw689_3)).trans hw689_3)⟩ (fun hHeld=>?_);clear hK K;refine nq_ (N:=(some 25)) ?_
        refine pu_ (i:=9) (N:=some 26) b23_0 HT_ ?_;refine done_ (done_of HT_.out KR) ?_
        try go_wp2
        go_ret
        exact⟨RT,PB⟩
      ·rw[if_neg c6] at H;exact absurd H (by simp)
     ·rw[if_neg c5] at H;exact absurd H (by simp)
    ·rw[if_neg c4] at H;have cn:decide (D < (I.length:Int))=false:=decide_eq_false c4;clear c4;obtain rfl:=Option.some.inj H;go_wp2
     go_ret
     exact⟨RT,PB⟩
 ·rw[if_neg c3] at H;have b7:((I.length:Int) == (J.length:Int))=false:=beq_eq_false_iff_ne.mpr c3;have b8:((I.length:Int) != (J.length:Int))=true:=bne_iff_ne.mpr c3
  have b9:(I.length == J.length)=false:=by first|simpa using c3|(simp at c3 ⊢;omega)
  obtain rfl:=Option.some.inj H;go_enter Try.func10,Try.ntmps10;go_wp2
  go_ret
  exact⟨RT,PB⟩

end Go.Proofs.Ythojdjnchhkafaa.MFnExactTraceVisit
