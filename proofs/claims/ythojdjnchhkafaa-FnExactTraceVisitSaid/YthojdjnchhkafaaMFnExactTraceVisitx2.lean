-- Written by a program of this session out of the translation's own print. Not trusted: Lean checks it.
import Derived.Test.YthojdjnchhkafaaShr2
import Derived.Test.YthojdjnchhkafaaMFnExactTraceVisitx0
import Derived.Test.YthojdjnchhkafaaMFnExactTraceVisitx1
namespace Go.Proofs.Ythojdjnchhkafaa.MFnExactTraceVisit
open Go.RowKit Go.Proofs.YthojdjnchhkafaaW.PrintWords Go.Proofs.YthojdjnchhkafaaW.PrintLast Go.Proofs.YthojdjnchhkafaaW.PrintMore
attribute [local go_sem] max2_int min2_int max_two min_two max_three min_three max_four min_four   -- for this text's walks alone
set_option linter.unusedVariables false
set_option maxHeartbeats 8000000
set_option maxRecDepth 100000
set_option linter.unusedSimpArgs false

/-! ### spec_l10Ok: function 50 -/
def spec_l10Ok.j0:Nat→Int→Int→Bool→Int→Int→Int→Int→Option (Bool)
  | 0,_,_,_,_,_,_,_=>none
  | k+1,x3,J,af,ab,ac,D,I=>if af=true then(if D=0 then(some (I == 0)) else(some false)) else(if J=5 then((spec_l1In.f D 0 x3).bind fun L=>(if L=true then((spec_l1In.f I 0 x3).bind fun U=>(some U)) else(some false))) else(if J=6 then((spec_l1In.f D 0 3).bind fun X=>(if X=true then(some (I == 0)) else(some false))) else(if J=7 then((spec_l1In.f D 1 3).bind fun Y=>(if Y=true then(some (I == 0)) else(some false))) else(if J=8 then((spec_l1In.f D 0 2).bind fun Z=>(if Z=true then(some (I == 0)) else(some false))) else(if J=9 then((spec_l1In.f D 0 2).bind fun aa=>(if aa=true then(some (I == 0)) else(some false))) else(some false))))))
def spec_l10Ok.f (k:Nat)(D:Int)(I:Int)(J:Int)(L:Int):Option (Bool):=(spec_l1In.f I 0 3).bind fun U=>(if U=true then(if D=1 then((spec_l1In.f J 1 9).bind fun X=>(if X=true then((spec_l1In.f L 0 99).bind fun Y=>(some Y)) else(some false))) else(if D=2 then(spec_l10Ok.j0 k 3 D (D == 2) D I J L) else(if D=3 then(spec_l10Ok.j0 k 3 D (D == 3) D I J L) else(spec_l10Ok.j0 k 3 D (D == 4) D I J L)))) else(some false))
theorem spec_l10Ok.calls (k:Nat)(D:Int)(L:Int)(I:Int)(U:Int)(r:Bool)(w:World)(h:spec_l10Ok.f k D L I U=some r) :
  Calls Try.prog 50 #[.agg #[.int .i64 D,.int .i64 L,.int .i64 I,.int .i64 U]] w fun e w'=>e = .returned (.bool r)∧Below w.heap.size w w':=by
 have dm:=Try.underlying50;have HB:=ak (Below.refl w.heap.size w);have H:=h;clear h;unfold spec_l10Ok.f at H;replace H:=Option.bind_eq_some_iff.mp H;obtain⟨cz,cq,H⟩:=H;(try dsimp only at H);have A2:=ak cq;clear cq
 by_cases c3:cz=true
 ·subst c3;rw[if_pos rfl] at H
  by_cases c4:D=1
  ·rw[if_pos c4] at H;have bp:(D == 1)=true:=beq_iff_eq.mpr c4;have br:(D != 1)=false:=bne_eq_false_iff_eq.mpr c4;clear c4;replace H:=Option.bind_eq_some_iff.mp H;obtain⟨da,cr,H⟩:=H;(try dsimp only at H);have A5:=ak cr;clear cr
   by_cases c6:da=true
   ·subst c6;rw[if_pos rfl] at H;replace H:=Option.bind_eq_some_iff.mp H;obtain⟨db,ct,H⟩:=H;(try dsimp only at H);have A7:=ak ct;clear ct;obtain rfl:=Option.some.inj H;go_enter Try.func50,Try.ntmps50;go_wp2_with (first|((with_reducible refine gate_dst (N:=1) rfl ?_);refine bx_ (N:=1) #[.int .i64 D,.int .i64 L,.int .i64 I,.int .i64 U] 50 ?_;intro ab hg w8 hbox hb;have J:=ak hbox;have aj:=gy hg HB;replace HB:=bs HB hb;clear hb hbox hg;obtain⟨bu,bv,bw,bx,bz,b0,b4,b5⟩:=bc4 J)|((with_reducible refine gate_callee (f:=52) rfl ?_);refine goesL_ (some 7) rfl rfl Try.func52 KR rfl #[.int .i64 L,.int .i64 0,.int .i64 3] rfl AR ?_;(with_reducible refine(spec_l1In.calls L 0 3 true _ A2.out).mono ?_);rintro e w' ⟨rfl,⟨nd,rfl⟩⟩;refine⟨_,rfl,?_⟩)|((with_reducible refine gate_callee (f:=52) rfl ?_);refine goesL_ (some 15) rfl rfl Try.func52 KR rfl #[.int .i64 I,.int .i64 1,.int .i64 9] rfl AR ?_;(with_reducible refine(spec_l1In.calls I 1 9 true _ A5.out).mono ?_);rintro e w' ⟨rfl,⟨nd,rfl⟩⟩;refine⟨_,rfl,?_⟩)|(go_at_call 52;(with_reducible refine(spec_l1In.calls U 0 99 db _ A7.out).mono ?_);rintro e w' ⟨rfl,⟨nd,rfl⟩⟩))
    go_ret
    exact⟨RT,PB⟩
   ·replace c6:=Bool.eq_false_iff.mpr c6;subst c6;rw[if_neg (show ¬(false=true) by decide)] at H;obtain rfl:=Option.some.inj H;go_enter Try.func50,Try.ntmps50;go_wp2_with (first|((with_reducible refine gate_dst (N:=1) rfl ?_);refine bx_ (N:=1) #[.int .i64 D,.int .i64 L,.int .i64 I,.int .i64 U] 50 ?_;intro ab hg dq hbox hb;have J:=ak hbox;have aj:=gy hg HB;replace HB:=bs HB hb;clear hb hbox hg;obtain⟨az,a9,ba,bb,bc,bd,be,bf⟩:=bc4 J)|((with_reducible refine gate_callee (f:=52) rfl ?_);refine goesL_ (some 7) rfl rfl Try.func52 KR rfl #[.int .i64 L,.int .i64 0,.int .i64 3] rfl AR ?_;(with_reducible refine(spec_l1In.calls L 0 3 true _ A2.out).mono ?_);rintro e w' ⟨rfl,⟨nd,rfl⟩⟩;refine⟨_,rfl,?_⟩)|((with_reducible refine gate_callee (f:=52) rfl ?_);refine goesL_ (some 15) rfl rfl Try.func52 KR rfl #[.int .i64 I,.int .i64 1,.int .i64 9] rfl AR ?_;(with_reducible refine(spec_l1In.calls I 1 9 false _ A5.out).mono ?_);rintro e w' ⟨rfl,⟨nd,rfl⟩⟩;refine⟨_,rfl,?_⟩))
    go_ret
    exact⟨RT,PB⟩
  ·rw[if_neg c4] at H;have bp:(D == 1)=false:=beq_eq_false_iff_ne.mpr c4;have br:(D != 1)=true:=bne_iff_ne.mpr c4;have am:=ak H;clear H;go_enter Try.func50,Try.ntmps50
   go_upto_if 21 with (first|((with_reducible refine gate_dst (N:=1) rfl ?_);refine bx_ (N:=1) #[.int .i64 D,.int .i64 L,.int .i64 I,.int .i64 U] 50 ?_;intro ab hg dr hbox hb;have J:=ak hbox;have aj:=gy hg HB;replace HB:=bs HB hb;clear hb hbox hg;obtain⟨bg,bh,bi,bj,bk,bl,bm,bn⟩:=bc4 J)|((with_reducible refine gate_callee (f:=52) rfl ?_);refine goesL_ (some 7) rfl rfl Try.func52 KR rfl #[.int .i64 L,.int .i64 0,.int .i64 3] rfl AR ?_;(with_reducible refine(spec_l1In.calls L 0 3 true _ A2.out).mono ?_);rintro e w' ⟨rfl,⟨nd,rfl⟩⟩;refine⟨_,rfl,?_⟩))
   (try simp only[Act.put,List.setIfInBounds_toArray,List.set_cons_zero,List.set_cons_succ])
   go_cut [21] (fun dk wc=>∃(kq:Nat)(Y:Bool),dk = .bool Y∧Aside0 (spec_l10Ok.j0 kq 3 D Y D L I U=some r)∧Aside0 (kq≤k)∧Aside0 (wc.heap[ab]?=some (.cells #[.int .i64 D,.int .i64 L,.int .i64 I,.int .i64 U] 50 (0,0)))∧Aside0 (Below w.heap.size w wc))
   case first =>
    have H:=am.out;clear am
    by_cases Z:D=2
    ·rw[if_pos Z] at H;have X:(D == 2)=true:=beq_iff_eq.mpr Z;have ao:(D != 2)=false:=bne_eq_false_iff_eq.mpr Z;clear Z;(first|rw[X]|(simp only[i64_w,i32_w];rw[X])|skip);have H':=ak H;clear H;go_wp2
     go_meet
     case rel=>exact⟨_,((D == 2)),FR,H',⟨by first|omega | exact Nat.le_refl _⟩,⟨PK J⟩,⟨PB⟩⟩
    ·rw[if_neg Z] at H;have X:(D == 2)=false:=beq_eq_false_iff_ne.mpr Z;have ao:(D != 2)=true:=bne_iff_ne.mpr Z;(first|rw[X]|(simp only[i64_w,i32_w];rw[X])|skip)
     by_cases aa:D=3
     ·rw[if_pos aa] at H;have ap:(D == 3)=true:=beq_iff_eq.mpr aa;have aq:(D != 3)=false:=bne_eq_false_iff_eq.mpr aa;clear aa;have H':=ak H;clear H;go_wp2
      go_meet
      case rel=>exact⟨_,((D == 3)),FR,H',⟨by first|omega | exact Nat.le_refl _⟩,⟨PK J⟩,⟨PB⟩⟩
     ·rw[if_neg aa] at H;have ap:(D == 3)=false:=beq_eq_false_iff_ne.mpr aa;have aq:(D != 3)=true:=bne_iff_ne.mpr aa;have H':=ak H;clear H;go_wp2
      go_meet
      case rel=>exact⟨_,((D == 4)),FR,H',⟨by first|omega | exact Nat.le_refl _⟩,⟨PK J⟩,⟨PB⟩⟩
   case rest =>
    clear am;(try clear c1);(try clear p2);(try clear c3);(try clear c4);(try clear bp);(try clear br);(try clear c5);(try clear c6);(try clear Z);(try clear X);(try clear ao);(try clear aa);(try clear ap);(try clear aq);(try clear az);(try clear a9);(try clear ba);(try clear bb);(try clear bg);(try clear bh);(try clear bi);(try clear bj);(try clear bu);(try clear bv);(try clear bw);(try clear bx);(try clear bc);(try clear bd);(try clear be);(try clear bf);(try clear bk);(try clear bl);(try clear bm);(try clear bn);(try clear bz);(try clear b0);(try clear b4);(try clear b5);obtain⟨kq,Y,rfl,HA,dp,J,HB⟩:=hcut
    cases kq with
    | zero=>exact absurd HA.out (by simp[spec_l10Ok.j0])
    | succ kj11 =>
     have H:=HA.out;clear HA;simp only[spec_l10Ok.j0] at H
     by_cases ar:Y=true
     ·subst ar;rw[if_pos rfl] at H
      by_cases ac:I=0
      ·rw[if_pos ac] at H;have ce:(I == 0)=true:=beq_iff_eq.mpr ac;have cf:(I != 0)=false:=bne_eq_false_iff_eq.mpr ac;clear ac;obtain rfl:=Option.some.inj H;obtain⟨_,_,_,_,_,_,_,_⟩:=bc4 J;go_wp2
       go_ret
       exact⟨RT,PB⟩
      ·rw[if_neg ac] at H;have ce:(I == 0)=false:=beq_eq_false_iff_ne.mpr ac;have cf:(I != 0)=true:=bne_iff_ne.mpr ac;obtain rfl:=Option.some.inj H;obtain⟨_,_,_,_,_,_,_,_⟩:=bc4 J;go_wp2
       go_ret
       exact⟨RT,PB⟩
     ·replace ar:=Bool.eq_false_iff.mpr ar;subst ar;rw[if_neg (show ¬(false=true) by decide)] at H
      by_cases ae:D=5
      ·rw[if_pos ae] at H;have cg:(D == 5)=true:=beq_iff_eq.mpr ae;have ch:(D != 5)=false:=bne_eq_false_iff_eq.mpr ae;clear ae;replace H:=Option.bind_eq_some_iff.mp H;obtain⟨dc,b6,H⟩:=H;(try dsimp only at H);have cu:=ak b6;clear b6
       by_cases au:dc=true
       ·subst au;rw[if_pos rfl] at H;replace H:=Option.bind_eq_some_iff.mp H;obtain⟨de,b7,H⟩:=H;(try dsimp only at H);have dl:=ak b7;clear b7;obtain rfl:=Option.some.inj H;obtain⟨_,_,_,_,_,_,_,_⟩:=bc4 J;go_wp2_with (first|((with_reducible refine gate_callee (f:=52) rfl ?_);refine goesL_ (some 38) rfl rfl Try.func52 KR rfl #[.int .i64 I,.int .i64 0,.int .i64 3] rfl AR ?_;(with_reducible refine(spec_l1In.calls I 0 3 true _ cu.out).mono ?_);rintro e w' ⟨rfl,⟨nd,rfl⟩⟩;refine⟨_,rfl,?_⟩)|(go_at_call 52;(with_reducible refine(spec_l1In.calls U 0 3 de _ dl.out).mono ?_);rintro e w' ⟨rfl,⟨nd,rfl⟩⟩))
        go_ret
        exact⟨RT,PB⟩
       ·replace au:=Bool.eq_false_iff.mpr au;subst au;rw[if_neg (show ¬(false=true) by decide)] at H;obtain rfl:=Option.some.inj H;obtain⟨_,_,_,_,_,_,_,_⟩:=bc4 J;go_wp2_with (first|((with_reducible refine gate_callee (f:=52) rfl ?_);refine goesL_ (some 38) rfl rfl Try.func52 KR rfl #[.int .i64 I,.int .i64 0,.int .i64 3] rfl AR ?_;(with_reducible refine(spec_l1In.calls I 0 3 false _ cu.out).mono ?_);rintro e w' ⟨rfl,⟨nd,rfl⟩⟩;refine⟨_,rfl,?_⟩))
        go_ret
        exact⟨RT,PB⟩
      ·rw[if_neg ae] at H;have cg:(D == 5)=false:=beq_eq_false_iff_ne.mpr ae;have ch:(D != 5)=true:=bne_iff_ne.mpr ae
       by_cases af:D=6
       ·rw[if_pos af] at H;have ci:(D == 6)=true:=beq_iff_eq.mpr af;have cj:(D != 6)=false:=bne_eq_false_iff_eq.mpr af;clear af;replace H:=Option.bind_eq_some_iff.mp H;obtain⟨df,b8,H⟩:=H;(try dsimp only at H);have cv:=ak b8;clear b8
        by_cases av:df=true
        ·subst av;rw[if_pos rfl] at H;obtain rfl:=Option.some.inj H;obtain⟨_,_,_,_,_,_,_,_⟩:=bc4 J;go_wp2_with (first|((with_reducible refine gate_callee (f:=52) rfl ?_);refine goesL_ (some 49) rfl rfl Try.func52 KR rfl #[.int .i64 I,.int .i64 0,.int .i64 3] rfl AR ?_;(with_reducible refine(spec_l1In.calls I 0 3 true _ cv.out).mono ?_);rintro e w' ⟨rfl,⟨nd,rfl⟩⟩;refine⟨_,rfl,?_⟩))
         go_ret
         exact⟨RT,PB⟩
        ·replace av:=Bool.eq_false_iff.mpr av;subst av;rw[if_neg (show ¬(false=true) by decide)] at H;obtain rfl:=Option.some.inj H;obtain⟨_,_,_,_,_,_,_,_⟩:=bc4 J;go_wp2_with (first|((with_reducible refine gate_callee (f:=52) rfl ?_);refine goesL_ (some 49) rfl rfl Try.func52 KR rfl #[.int .i64 I,.int .i64 0,.int .i64 3] rfl AR ?_;(with_reducible refine(spec_l1In.calls I 0 3 false _ cv.out).mono ?_);rintro e w' ⟨rfl,⟨nd,rfl⟩⟩;refine⟨_,rfl,?_⟩))
         go_ret
         exact⟨RT,PB⟩
       ·rw[if_neg af] at H;have ci:(D == 6)=false:=beq_eq_false_iff_ne.mpr af;have cj:(D != 6)=true:=bne_iff_ne.mpr af
        by_cases ag:D=7
        ·rw[if_pos ag] at H;have ck:(D == 7)=true:=beq_iff_eq.mpr ag;have cl:(D != 7)=false:=bne_eq_false_iff_eq.mpr ag;clear ag;replace H:=Option.bind_eq_some_iff.mp H;obtain⟨dg,b9,H⟩:=H;(try dsimp only at H);have cw:=ak b9;clear b9
         by_cases aw:dg=true
         ·subst aw;rw[if_pos rfl] at H;obtain rfl:=Option.some.inj H;obtain⟨_,_,_,_,_,_,_,_⟩:=bc4 J;go_wp2_with (first|((with_reducible refine gate_callee (f:=52) rfl ?_);refine goesL_ (some 59) rfl rfl Try.func52 KR rfl #[.int .i64 I,.int .i64 1,.int .i64 3] rfl AR ?_;(with_reducible refine(spec_l1In.calls I 1 3 true _ cw.out).mono ?_);rintro e w' ⟨rfl,⟨nd,rfl⟩⟩;refine⟨_,rfl,?_⟩))
          go_ret
          exact⟨RT,PB⟩
         ·replace aw:=Bool.eq_false_iff.mpr aw;subst aw;rw[if_neg (show ¬(false=true) by decide)] at H;obtain rfl:=Option.some.inj H;obtain⟨_,_,_,_,_,_,_,_⟩:=bc4 J;go_wp2_with (first|((with_reducible refine gate_callee (f:=52) rfl ?_);refine goesL_ (some 59) rfl rfl Try.func52 KR rfl #[.int .i64 I,.int .i64 1,.int .i64 3] rfl AR ?_;(with_reducible refine(spec_l1In.calls I 1 3 false _ cw.out).mono ?_);rintro e w' ⟨rfl,⟨nd,rfl⟩⟩;refine⟨_,rfl,?_⟩))
          go_ret
          exact⟨RT,PB⟩
        ·rw[if_neg ag] at H;have ck:(D == 7)=false:=beq_eq_false_iff_ne.mpr ag;have cl:(D != 7)=true:=bne_iff_ne.mpr ag
         by_cases ah:D=8
         ·rw[if_pos ah] at H;have cm:(D == 8)=true:=beq_iff_eq.mpr ah;have cn:(D != 8)=false:=bne_eq_false_iff_eq.mpr ah;clear ah;replace H:=Option.bind_eq_some_iff.mp H;obtain⟨dh,ca,H⟩:=H;(try dsimp only at H);have cx:=ak ca;clear ca
          by_cases ax:dh=true
          ·subst ax;rw[if_pos rfl] at H;obtain rfl:=Option.some.inj H;obtain⟨_,_,_,_,_,_,_,_⟩:=bc4 J;go_wp2_with (first|((with_reducible refine gate_callee (f:=52) rfl ?_);refine goesL_ (some 70) rfl rfl Try.func52 KR rfl #[.int .i64 I,.int .i64 0,.int .i64 2] rfl AR ?_;(with_reducible refine(spec_l1In.calls I 0 2 true _ cx.out).mono ?_);rintro e w' ⟨rfl,⟨nd,rfl⟩⟩;refine⟨_,rfl,?_⟩))
           go_ret
           exact⟨RT,PB⟩
          ·replace ax:=Bool.eq_false_iff.mpr ax;subst ax;rw[if_neg (show ¬(false=true) by decide)] at H;obtain rfl:=Option.some.inj H;obtain⟨_,_,_,_,_,_,_,_⟩:=bc4 J;go_wp2_with (first|((with_reducible refine gate_callee (f:=52) rfl ?_);refine goesL_ (some 70) rfl rfl Try.func52 KR rfl #[.int .i64 I,.int .i64 0,.int .i64 2] rfl AR ?_;(with_reducible refine(spec_l1In.calls I 0 2 false _ cx.out).mono ?_);rintro e w' ⟨rfl,⟨nd,rfl⟩⟩;refine⟨_,rfl,?_⟩))
           go_ret
           exact⟨RT,PB⟩
         ·rw[if_neg ah] at H;have cm:(D == 8)=false:=beq_eq_false_iff_ne.mpr ah;have cn:(D != 8)=true:=bne_iff_ne.mpr ah
          by_cases ai:D=9
          ·rw[if_pos ai] at H;have co:(D == 9)=true:=beq_iff_eq.mpr ai;have cp:(D != 9)=false:=bne_eq_false_iff_eq.mpr ai;clear ai;replace H:=Option.bind_eq_some_iff.mp H;obtain⟨di,cb,H⟩:=H;(try dsimp only at H);have cy:=ak cb;clear cb
           by_cases ay:di=true
           ·subst ay;rw[if_pos rfl] at H;obtain rfl:=Option.some.inj H;obtain⟨_,_,_,_,_,_,_,_⟩:=bc4 J;go_wp2_with (first|((with_reducible refine gate_callee (f:=52) rfl ?_);refine goesL_ (some 70) rfl rfl Try.func52 KR rfl #[.int .i64 I,.int .i64 0,.int .i64 2] rfl AR ?_;(with_reducible refine(spec_l1In.calls I 0 2 true _ cy.out).mono ?_);rintro e w' ⟨rfl,⟨nd,rfl⟩⟩;refine⟨_,rfl,?_⟩))
            go_ret
            exact⟨RT,PB⟩
           ·replace ay:=Bool.eq_false_iff.mpr ay;subst ay;rw[if_neg (show ¬(false=true) by decide)] at H;obtain rfl:=Option.some.inj H;obtain⟨_,_,_,_,_,_,_,_⟩:=bc4 J;go_wp2_with (first|((with_reducible refine gate_callee (f:=52) rfl ?_);refine goesL_ (some 70) rfl rfl Try.func52 KR rfl #[.int .i64 I,.int .i64 0,.int .i64 2] rfl AR ?_;(with_reducible refine(spec_l1In.calls I 0 2 false _ cy.out).mono ?_);rintro e w' ⟨rfl,⟨nd,rfl⟩⟩;refine⟨_,rfl,?_⟩))
            go_ret
            exact⟨RT,PB⟩
          ·rw[if_neg ai] at H;have co:(D == 9)=false:=beq_eq_false_iff_ne.mpr ai;have cp:(D != 9)=true:=bne_iff_ne.mpr ai;obtain rfl:=Option.some.inj H;go_wp2
           go_ret
           exact⟨RT,PB⟩
 ·replace c3:=Bool.eq_false_iff.mpr c3;subst c3;rw[if_neg (show ¬(false=true) by decide)] at H;obtain rfl:=Option.some.inj H;go_enter Try.func50,Try.ntmps50;go_wp2_with (first|((with_reducible refine gate_dst (N:=1) rfl ?_);refine bx_ (N:=1) #[.int .i64 D,.int .i64 L,.int .i64 I,.int .i64 U] 50 ?_;intro ab hg dt hbox hb;have J:=ak hbox;have aj:=gy hg HB;replace HB:=bs HB hb;clear hb hbox hg;obtain⟨_,_,_,_,_,_,_,_⟩:=bc4 J)|((with_reducible refine gate_callee (f:=52) rfl ?_);refine goesL_ (some 7) rfl rfl Try.func52 KR rfl #[.int .i64 L,.int .i64 0,.int .i64 3] rfl AR ?_;(with_reducible refine(spec_l1In.calls L 0 3 false _ A2.out).mono ?_);rintro e w' ⟨rfl,⟨nd,rfl⟩⟩;refine⟨_,rfl,?_⟩))
  go_ret
  exact⟨RT,PB⟩

/-! ### spec_IsScript: function 33 -/
def spec_IsScript.l0:Nat→List (S50)→Int→Option (Bool)
  | 0,_,_=>none
  | k+1,D,I=>if I < (D.length:Int) then(if 0≤I then((spec_l10Ok.f k ((rd_T50 D I).f0) ((rd_T50 D I).f1) ((rd_T50 D I).f2) ((rd_T50 D I).f3)).bind fun J=>(if J=true then(spec_IsScript.l0 k D (wrap64 (I+1))) else(some false))) else(none)) else(some (decide ((D.length:Int)≤16)))
def spec_IsScript.f (k:Nat)(D:List (S50)):Option (Bool):=spec_IsScript.l0 k D 0
theorem spec_IsScript.calls (k:Nat)(A0:Option Addr)(c0:Nat)(I:List (S50))(r:Bool)(w:World)(ag:Kd.C k50 w A0 I.length I)(ah:I.length≤c0)(h:spec_IsScript.f k I=some r) :
  Calls Try.prog 33 #[.slice A0 I.length c0] w fun e w'=>e = .returned (.bool r)∧Below w.heap.size w w':=by
 have au:=Try.underlying50;have ai:=ak ag;have ax:=ak ah;clear ag ah;have HB:=ak (Below.refl w.heap.size w);have H:=h;clear h;unfold spec_IsScript.f at H;have H':=ak H;clear H;go_enter Try.func33,Try.ntmps33;go_wp2
 go_loopg [3] k (fun kq v3 w'=>∃(D:Int),v3 = .int .i64 D∧Aside0 (spec_IsScript.l0 kq I D=some r)∧Aside0 (kq≤k)∧Aside0 (Below w.heap.size w w'))
 case atStart=>exact⟨(0),FR,H',⟨Nat.le_refl _⟩,⟨PB⟩⟩
 case round =>
  clear H';obtain⟨D,rfl,HA,aj,HB⟩:=hrel
  cases gk with
  | zero=>exact absurd HA.out (by simp[spec_IsScript.l0])
  | succ k1 =>
   have H:=HA.out;clear HA;simp only[spec_IsScript.l0] at H
   by_cases c2:D < (I.length:Int)
   ·rw[if_pos c2] at H;have am:decide (D < (I.length:Int))=true:=decide_eq_true c2;clear c2
    by_cases c3:0≤D
    ·rw[if_pos c3] at H;have aw:decide (0≤D)=true:=decide_eq_true c3;clear c3;replace H:=Option.bind_eq_some_iff.mp H;obtain⟨ao,al,H⟩:=H;(try dsimp only at H);have A4:=ak al;clear al
     by_cases c5:ao=true
     ·subst c5;rw[if_pos rfl] at H;have H':=ak H;clear H;have Y:0≤(D:Int):=od;have Z:D < (I.length:Int):=od;obtain⟨af,aa,J,L,U,X⟩:=at_T50 ai.out D Y Z;cases aa;replace J:=hx_ HB J;replace L:=hx_ HB L;replace U:=hx_ HB U;replace X:=hx_ HB X;replace Y:=eq_true Y;replace Z:=eq_true Z;go_wp2_with (first|((with_reducible refine gate_callee (f:=50) rfl ?_);refine goesL_ (some 14) rfl rfl Try.func50 KR rfl #[.agg #[.int .i64 ((rd_T50 I D).f0),.int .i64 ((rd_T50 I D).f1),.int .i64 ((rd_T50 I D).f2),.int .i64 ((rd_T50 I D).f3)]] rfl AR ?_;(with_reducible refine(spec_l10Ok.calls k1 ((rd_T50 I D).f0) ((rd_T50 I D).f1) ((rd_T50 I D).f2) ((rd_T50 I D).f3) true _ A4.out).mono ?_);rintro e w6 ⟨rfl,hb⟩;refine⟨_,rfl,?_⟩;replace HB:=bs HB hb;clear hb))
      go_roundg k1
      case measure=>have:=aj.out;omega
      case rel=>exact⟨(wrap64 (D+1)),FR,H',⟨by have:=aj.out;omega⟩,⟨PB⟩⟩
     ·replace c5:=Bool.eq_false_iff.mpr c5;subst c5;rw[if_neg (show ¬(false=true) by decide)] at H;obtain rfl:=Option.some.inj H;have Y:0≤(D:Int):=od;have Z:D < (I.length:Int):=od;obtain⟨af,aa,J,L,U,X⟩:=at_T50 ai.out D Y Z;cases aa;replace J:=hx_ HB J;replace L:=hx_ HB L;replace U:=hx_ HB U;replace X:=hx_ HB X;replace Y:=eq_true Y;replace Z:=eq_true Z;go_wp2_with (first|((with_reducible refine gate_callee (f:=50) rfl ?_);refine goesL_ (some 14) rfl rfl Try.func50 KR rfl #[.agg #[.int .i64 ((rd_T50 I D).f0),.int .i64 ((rd_T50 I D).f1),.int .i64 ((rd_T50 I D).f2),.int .i64 ((rd_T50 I D).f3)]] rfl AR ?_;(with_reducible refine(spec_l10Ok.calls k1 ((rd_T50 I D).f0) ((rd_T50 I D).f1) ((rd_T50 I D).f2) ((rd_T50 I D).f3) false _ A4.out).mono ?_);rintro e w7 ⟨rfl,hb⟩;refine⟨_,rfl,?_⟩;replace HB:=bs HB hb;clear hb))
      go_ret
      exact⟨RT,PB⟩
    ·rw[if_neg c3] at H;exact absurd H (by simp)
   ·rw[if_neg c2] at H;have am:decide (D < (I.length:Int))=false:=decide_eq_false c2;clear c2;obtain rfl:=Option.some.inj H;go_wp2
    go_ret
    exact⟨RT,PB⟩

/-! ### spec_IsAddress: function 80 -/
def spec_IsAddress.f (D:Int)(I:Int)(J:Int):Option (Bool):=(spec_l1In.f D 1 9).bind fun L=>(if L=true then((spec_l1In.f I 0 99).bind fun U=>(if U=true then((spec_l1In.f J 0 99).bind fun X=>(some X)) else(some false))) else(some false))
theorem spec_IsAddress.calls (D:Int)(I:Int)(L:Int)(r:Bool)(w:World)(h:spec_IsAddress.f D I L=some r) :
  Calls Try.prog 80 #[.agg #[.int .i64 D,.int .i64 I,.int .i64 L]] w fun e w'=>e = .returned (.bool r)∧Below w.heap.size w w':=by
 have az:=Try.underlying73;have HB:=ak (Below.refl w.heap.size w);have H:=h;clear h;unfold spec_IsAddress.f at H;replace H:=Option.bind_eq_some_iff.mp H;obtain⟨ae,aa,H⟩:=H;(try dsimp only at H);have A2:=ak aa;clear aa
 by_cases Y:ae=true
 ·subst Y;rw[if_pos rfl] at H;replace H:=Option.bind_eq_some_iff.mp H;obtain⟨ag,ab,H⟩:=H;(try dsimp only at H);have A4:=ak ab;clear ab
  by_cases Z:ag=true
  ·subst Z;rw[if_pos rfl] at H;replace H:=Option.bind_eq_some_iff.mp H;obtain⟨ah,ac,H⟩:=H;(try dsimp only at H);have A6:=ak ac;clear ac;obtain rfl:=Option.some.inj H;go_enter Try.func80,Try.ntmps80;go_wp2_with (first|((with_reducible refine gate_dst (N:=1) rfl ?_);refine bx_ (N:=1) #[.int .i64 D,.int .i64 I,.int .i64 L] 73 ?_;intro U hg w7 hbox hb;have J:=ak hbox;have X:=gy hg HB;replace HB:=bs HB hb;clear hb hbox hg;obtain⟨ar,au,av,aw,ax,ay⟩:=bc3 J)|((with_reducible refine gate_callee (f:=52) rfl ?_);refine goesL_ (some 5) rfl rfl Try.func52 KR rfl #[.int .i64 D,.int .i64 1,.int .i64 9] rfl AR ?_;(with_reducible refine(spec_l1In.calls D 1 9 true _ A2.out).mono ?_);rintro e w' ⟨rfl,⟨nd,rfl⟩⟩;refine⟨_,rfl,?_⟩)|(go_at_call 52;(with_reducible refine(spec_l1In.calls I 0 99 true _ A4.out).mono ?_);rintro e w' ⟨rfl,⟨nd,rfl⟩⟩)|(go_at_call 52;(with_reducible refine(spec_l1In.calls L 0 99 ah _ A6.out).mono ?_);rintro e w' ⟨rfl,⟨nd,rfl⟩⟩))
   go_ret
   exact⟨RT,PB⟩
  ·replace Z:=Bool.eq_false_iff.mpr Z;subst Z;rw[if_neg (show ¬(false=true) by decide)] at H;obtain rfl:=Option.some.inj H;go_enter Try.func80,Try.ntmps80;go_wp2_with (first|((with_reducible refine gate_dst (N:=1) rfl ?_);refine bx_ (N:=1) #[.int .i64 D,.int .i64 I,.int .i64 L] 73 ?_;intro U hg w9 hbox hb;have J:=ak hbox;have X:=gy hg HB;replace HB:=bs HB hb;clear hb hbox hg;obtain⟨ai,aj,al,am,ao,ap⟩:=bc3 J)|((with_reducible refine gate_callee (f:=52) rfl ?_);refine goesL_ (some 5) rfl rfl Try.func52 KR rfl #[.int .i64 D,.int .i64 1,.int .i64 9] rfl AR ?_;(with_reducible refine(spec_l1In.calls D 1 9 true _ A2.out).mono ?_);rintro e w' ⟨rfl,⟨nd,rfl⟩⟩;refine⟨_,rfl,?_⟩)|(go_at_call 52;(with_reducible refine(spec_l1In.calls I 0 99 false _ A4.out).mono ?_);rintro e w' ⟨rfl,⟨nd,rfl⟩⟩))
   go_ret
   exact⟨RT,PB⟩
 ·replace Y:=Bool.eq_false_iff.mpr Y;subst Y;rw[if_neg (show ¬(false=true) by decide)] at H;obtain rfl:=Option.some.inj H;go_enter Try.func80,Try.ntmps80;go_wp2_with (first|((with_reducible refine gate_dst (N:=1) rfl ?_);refine bx_ (N:=1) #[.int .i64 D,.int .i64 I,.int .i64 L] 73 ?_;intro U hg ba hbox hb;have J:=ak hbox;have X:=gy hg HB;replace HB:=bs HB hb;clear hb hbox hg;obtain⟨_,_,_,_,_,_⟩:=bc3 J)|((with_reducible refine gate_callee (f:=52) rfl ?_);refine goesL_ (some 5) rfl rfl Try.func52 KR rfl #[.int .i64 D,.int .i64 1,.int .i64 9] rfl AR ?_;(with_reducible refine(spec_l1In.calls D 1 9 false _ A2.out).mono ?_);rintro e w' ⟨rfl,⟨nd,rfl⟩⟩;refine⟨_,rfl,?_⟩))
  go_ret
  exact⟨RT,PB⟩

/-! ### spec_l5Bytes: function 96 -/
def spec_l5Bytes.l0:Nat→List Int→Int→Option (Bool)
  | 0,_,_=>none
  | k+1,I,D=>if D < (I.length:Int) then(if 0≤D then((spec_l1In.f (rd I D) 0 255).bind fun J=>(if J=true then(spec_l5Bytes.l0 k I (wrap64 (D+1))) else(some false))) else(none)) else(some true)
def spec_l5Bytes.f (k:Nat)(D:List Int):Option (Bool):=spec_l5Bytes.l0 k D 0
theorem spec_l5Bytes.calls (k:Nat)(A0:Option Addr)(c0:Nat)(I:List Int)(r:Bool)(w:World)(ac:Kd.C (Kd.int .i64) w A0 I.length I)(ae:I.length≤c0)(h:spec_l5Bytes.f k I=some r) :
  Calls Try.prog 96 #[.slice A0 I.length c0] w fun e w'=>e = .returned (.bool r)∧Drawn0 w w':=by
 have af:=ak ac;have ar:=ak ae;clear ac ae;have H:=h;clear h;unfold spec_l5Bytes.f at H;have H':=ak H;clear H;go_enter Try.func96,Try.ntmps96;go_wp2
 go_loopg [3] k (fun kq v3 w'=>∃(D:Int),v3 = .int .i64 D∧Aside0 (spec_l5Bytes.l0 kq I D=some r)∧Aside0 (kq≤k)∧Drawn0 w w')
 case atStart=>exact⟨(0),FR,H',⟨Nat.le_refl _⟩,by repeat(first|exact Drawn0.refl _ | apply Drawn0.step)⟩
 case round =>
  clear H';obtain⟨D,rfl,HA,ag,⟨m1,rfl⟩⟩:=hrel
  cases gk with
  | zero=>exact absurd HA.out (by simp[spec_l5Bytes.l0])
  | succ k1 =>
   have H:=HA.out;clear HA;simp only[spec_l5Bytes.l0] at H
   by_cases X:D < (I.length:Int)
   ·rw[if_pos X] at H;have ai:decide (D < (I.length:Int))=true:=decide_eq_true X;clear X
    by_cases Z:0≤D
    ·rw[if_pos Z] at H;have aq:decide (0≤D)=true:=decide_eq_true Z;clear Z;replace H:=Option.bind_eq_some_iff.mp H;obtain⟨aj,ah,H⟩:=H;(try dsimp only at H);have A4:=ak ah;clear ah
     by_cases c5:aj=true
     ·subst c5;rw[if_pos rfl] at H;have H':=ak H;clear H;have J:0≤(D:Int):=od;have L:D < (I.length:Int):=od;obtain⟨ab,U,Y⟩:=Kd.at_int af.out D J L;cases U;replace J:=eq_true J;replace L:=eq_true L;go_wp2_with (first|((with_reducible refine gate_callee (f:=52) rfl ?_);refine goesL_ (some 14) rfl rfl Try.func52 KR rfl #[.int .i64 (rd I D),.int .i64 0,.int .i64 255] rfl AR ?_;(with_reducible refine(spec_l1In.calls (rd I D) 0 255 true _ A4.out).mono ?_);rintro e w' ⟨rfl,⟨nd,rfl⟩⟩;refine⟨_,rfl,?_⟩))
      go_roundg k1
      case measure=>have:=ag.out;omega
      case rel=>exact⟨(wrap64 (D+1)),FR,H',⟨by have:=ag.out;omega⟩,by repeat(first|exact Drawn0.refl _ | apply Drawn0.step)⟩
     ·replace c5:=Bool.eq_false_iff.mpr c5;subst c5;rw[if_neg (show ¬(false=true) by decide)] at H;obtain rfl:=Option.some.inj H;have J:0≤(D:Int):=od;have L:D < (I.length:Int):=od;obtain⟨ab,U,Y⟩:=Kd.at_int af.out D J L;cases U;replace J:=eq_true J;replace L:=eq_true L;go_wp2_with (first|((with_reducible refine gate_callee (f:=52) rfl ?_);refine goesL_ (some 14) rfl rfl Try.func52 KR rfl #[.int .i64 (rd I D),.int .i64 0,.int .i64 255] rfl AR ?_;(with_reducible refine(spec_l1In.calls (rd I D) 0 255 false _ A4.out).mono ?_);rintro e w' ⟨rfl,⟨nd,rfl⟩⟩;refine⟨_,rfl,?_⟩))
      go_ret
      exact⟨FR,by repeat(first|exact Drawn0.refl _ | apply Drawn0.step)⟩
    ·rw[if_neg Z] at H;exact absurd H (by simp)
   ·rw[if_neg X] at H;have ai:decide (D < (I.length:Int))=false:=decide_eq_false X;clear X;obtain rfl:=Option.some.inj H;go_wp2
    go_ret
    exact⟨FR,by repeat(first|exact Drawn0.refl _ | apply Drawn0.step)⟩

attribute [local go_sem high] eqA73
/-! ### spec_IsResource: function 81 -/
def spec_IsResource.j0:Nat→Bool→Int→List Int→Int→Int→Int→Option (Bool)
  | 0,_,_,_,_,_,_=>none
  | k+1,Y,D,I,J,L,U=>if Y=true then(some false) else(if D=3 then((spec_IsAddress.f J L U).bind fun X=>(if X=true then(some ((I.length:Int) == 0)) else(some false))) else(if (J == 0 && (L == 0 && (U == 0)))=true then(if D=4 then(some ((I.length:Int) == 0)) else(some true)) else(some false)))
def spec_IsResource.f (k:Nat)(I:Int)(D:List Int)(J:Int)(L:Int)(U:Int):Option (Bool):=(spec_l1In.f I 1 4).bind fun X=>(if X=true then((spec_l5Bytes.f k D).bind fun Y=>(if Y=true then(spec_IsResource.j0 k (decide ((D.length:Int) > 6)) I D J L U) else(spec_IsResource.j0 k true I D J L U))) else(spec_IsResource.j0 k true I D J L U))
theorem spec_IsResource.calls (k:Nat)(I:Int)(ac:Option Addr)(ae:Nat)(X:List Int)(J:Int)(L:Int)(U:Int)(r:Bool)(w:World)(af:Kd.C (Kd.int .i64) w ac X.length X)(ag:X.length≤ae)(h:spec_IsResource.f k I X J L U=some r) :
  Calls Try.prog 81 #[.agg #[.int .i64 I,.slice ac X.length ae,.int .i64 J,.int .i64 L,.int .i64 U]] w fun e w'=>e = .returned (.bool r)∧Below w.heap.size w w':=by
 have cm:=Try.underlying82;have cn:=Try.underlying73;have ah:=ak af;have ai:=ak ag;clear af ag;have HB:=ak (Below.refl w.heap.size w);have H:=h;clear h;unfold spec_IsResource.f at H;have az:=ak H;clear H;go_enter Try.func81,Try.ntmps81
 go_upto_region 1 with (first|((with_reducible refine gate_dst (N:=1) rfl ?_);(try(refine gate_guard (by rfl) ?_;dsimp only));refine bx_ (N:=1) #[.int .i64 I,.slice ac X.length ae,.int .i64 J,.int .i64 L,.int .i64 U] 82 ?_;intro bz hg w3 hbox hb;have D:=ak hbox;have ck:=gy hg HB;replace HB:=bs HB hb;clear hb hbox hg))
 (try simp only[Act.put,List.setIfInBounds_toArray,List.set_cons_zero,List.set_cons_succ])
 go_cut [18] (fun ci wc=>∃(kq:Nat)(Z:Bool),ci = .bool Z∧Aside0 (spec_IsResource.j0 kq Z I X J L U=some r)∧Aside0 (kq≤k)∧Aside0 (wc.heap[bz]?=some (.cells #[.int .i64 I,(.slice ac X.length ae),.int .i64 J,.int .i64 L,.int .i64 U] 82 (0,0)))∧Aside0 (Below w.heap.size w wc))
 case first =>
  have H:=az.out;clear az;replace H:=Option.bind_eq_some_iff.mp H;obtain⟨ce,ca,H⟩:=H;(try dsimp only at H);have A4:=ak ca;clear ca
  by_cases c5:ce=true
  ·subst c5;rw[if_pos rfl] at H;replace H:=Option.bind_eq_some_iff.mp H;obtain⟨cg,cb,H⟩:=H;(try dsimp only at H);have A6:=ak cb;clear cb
   by_cases c7:cg=true
   ·subst c7;rw[if_pos rfl] at H;have H':=ak H;clear H;obtain⟨bb,bc,bd,be,bf,bg,bh,bi,bj,bk⟩:=bc5 D;go_wp2_with (first|((with_reducible refine gate_callee (f:=52) rfl ?_);refine goesL_ (some 5) rfl rfl Try.func52 KR rfl #[.int .i64 I,.int .i64 1,.int .i64 4] rfl AR ?_;(with_reducible refine(spec_l1In.calls I 1 4 true _ A4.out).mono ?_);rintro e w' ⟨rfl,⟨nd,rfl⟩⟩;refine⟨_,rfl,?_⟩)|(go_at_call 96;(with_reducible refine(spec_l5Bytes.calls k _ _ X true _ ?side1 ?side2 A6.out).mono ?_);(case side1=>repeat(first|exact(Kd.C_below ah.out PB)|(with_reducible refine Kd.C_alloc ?_ _)|(with_reducible refine Kd.C_drewN ?_ _)|(with_reducible refine Kd.C_drew ?_)));(case side2=>exact ai.out);rintro e w' ⟨rfl,⟨nd,rfl⟩⟩))
    go_meet
    case rel=>exact⟨_,(decide ((X.length:Int) > 6)),FR,H',⟨by first|omega | exact Nat.le_refl _⟩,⟨PK D⟩,⟨PB⟩⟩
   ·replace c7:=Bool.eq_false_iff.mpr c7;subst c7;rw[if_neg (show ¬(false=true) by decide)] at H;have H':=ak H;clear H;obtain⟨bl,bm,bn,bo,bp,br,bt,bu,bv,bw⟩:=bc5 D;go_wp2_with (first|((with_reducible refine gate_callee (f:=52) rfl ?_);refine goesL_ (some 5) rfl rfl Try.func52 KR rfl #[.int .i64 I,.int .i64 1,.int .i64 4] rfl AR ?_;(with_reducible refine(spec_l1In.calls I 1 4 true _ A4.out).mono ?_);rintro e w' ⟨rfl,⟨nd,rfl⟩⟩;refine⟨_,rfl,?_⟩)|(go_at_call 96;(with_reducible refine(spec_l5Bytes.calls k _ _ X false _ ?side1 ?side2 A6.out).mono ?_);(case side1=>repeat(first|exact(Kd.C_below ah.out PB)|(with_reducible refine Kd.C_alloc ?_ _)|(with_reducible refine Kd.C_drewN ?_ _)|(with_reducible refine Kd.C_drew ?_)));(case side2=>exact ai.out);rintro e w' ⟨rfl,⟨nd,rfl⟩⟩))
    go_meet
    case rel=>exact⟨_,(true),FR,H',⟨by first|omega | exact Nat.le_refl _⟩,⟨PK D⟩,⟨PB⟩⟩
  ·replace c5:=Bool.eq_false_iff.mpr c5;subst c5;rw[if_neg (show ¬(false=true) by decide)] at H;have H':=ak H;clear H;obtain⟨am,ao,ap,aq,ar,au,av,aw,ax,ay⟩:=bc5 D;go_wp2_with (first|((with_reducible refine gate_callee (f:=52) rfl ?_);refine goesL_ (some 5) rfl rfl Try.func52 KR rfl #[.int .i64 I,.int .i64 1,.int .i64 4] rfl AR ?_;(with_reducible refine(spec_l1In.calls I 1 4 false _ A4.out).mono ?_);rintro e w' ⟨rfl,⟨nd,rfl⟩⟩;refine⟨_,rfl,?_⟩))
   go_meet
   case rel=>exact⟨_,(true),FR,H',⟨by first|omega | exact Nat.le_refl _⟩,⟨PK D⟩,⟨PB⟩⟩
 case rest =>
  clear az;(try clear p2);(try clear c5);(try clear c7);(try clear c8);(try clear am);(try clear ao);(try clear ap);(try clear aq);(try clear ar);(try clear bb);(try clear bc);(try clear bd);(try clear be);(try clear bf);(try clear bl);(try clear bm);(try clear bn);(try clear bo);(try clear bp);(try clear au);(try clear av);(try clear aw);(try clear ax);(try clear ay);(try clear bg);(try clear bh);(try clear bi);(try clear bj);(try clear bk);(try clear br);(try clear bt);(try clear bu);(try clear bv);(try clear bw);obtain⟨kq,Z,rfl,HA,co,D,HB⟩:=hcut
  cases kq with
  | zero=>exact absurd HA.out (by simp[spec_IsResource.j0])
  | succ kj1 =>
   have H:=HA.out;clear HA;simp only[spec_IsResource.j0] at H
   by_cases aj:Z=true
   ·subst aj;rw[if_pos rfl] at H;obtain rfl:=Option.some.inj H;go_wp2
    go_ret
    exact⟨RT,PB⟩
   ·replace aj:=Bool.eq_false_iff.mpr aj;subst aj;rw[if_neg (show ¬(false=true) by decide)] at H
    by_cases aa:I=3
    ·rw[if_pos aa] at H;have b0:(I == 3)=true:=beq_iff_eq.mpr aa;have b4:(I != 3)=false:=bne_eq_false_iff_eq.mpr aa;clear aa;replace H:=Option.bind_eq_some_iff.mp H;obtain⟨ch,bx,H⟩:=H;(try dsimp only at H);have cd:=ak bx;clear bx
     by_cases al:ch=true
     ·subst al;rw[if_pos rfl] at H;obtain rfl:=Option.some.inj H;obtain⟨_,_,_,_,_,_,_,_,_,_⟩:=bc5 D;go_wp2_with (first|((with_reducible refine gate_callee (f:=80) rfl ?_);refine goesL_ (some 24) rfl rfl Try.func80 KR rfl #[.agg #[.int .i64 J,.int .i64 L,.int .i64 U]] rfl AR ?_;(with_reducible refine(spec_IsAddress.calls J L U true _ cd.out).mono ?_);rintro e cp ⟨rfl,hb⟩;refine⟨_,rfl,?_⟩;replace D:=kf D hb;replace HB:=bs HB hb;clear hb;obtain⟨_,_,_,_,_,_,_,_,_,_⟩:=bc5 D))
      go_ret
      exact⟨RT,PB⟩
     ·replace al:=Bool.eq_false_iff.mpr al;subst al;rw[if_neg (show ¬(false=true) by decide)] at H;obtain rfl:=Option.some.inj H;obtain⟨_,_,_,_,_,_,_,_,_,_⟩:=bc5 D;go_wp2_with (first|((with_reducible refine gate_callee (f:=80) rfl ?_);refine goesL_ (some 24) rfl rfl Try.func80 KR rfl #[.agg #[.int .i64 J,.int .i64 L,.int .i64 U]] rfl AR ?_;(with_reducible refine(spec_IsAddress.calls J L U false _ cd.out).mono ?_);rintro e cq ⟨rfl,hb⟩;refine⟨_,rfl,?_⟩;replace D:=kf D hb;replace HB:=bs HB hb;clear hb))
      go_ret
      exact⟨RT,PB⟩
    ·rw[if_neg aa] at H;have b0:(I == 3)=false:=beq_eq_false_iff_ne.mpr aa;have b4:(I != 3)=true:=bne_iff_ne.mpr aa
     by_cases Y:(J == 0 && (L == 0 && (U == 0)))=true
     ·rw[if_pos Y] at H;have b5:(J == 0 && (L == 0 && (U == 0)))=true:=Y;(try(have b6:decide (J=0 && (L == 0 && (U == 0)))=true:=by simpa using Y));(try(have b7:(J == 0 && (L == 0 && (U == 0)))=true:=by simpa using Y));clear Y
      by_cases ab:I=4
      ·rw[if_pos ab] at H;have b8:(I == 4)=true:=beq_iff_eq.mpr ab;have b9:(I != 4)=false:=bne_eq_false_iff_eq.mpr ab;clear ab;obtain rfl:=Option.some.inj H;obtain⟨_,_,_,_,_,_,_,_,_,_⟩:=bc5 D;go_wp2
       go_ret
       exact⟨RT,PB⟩
      ·rw[if_neg ab] at H;have b8:(I == 4)=false:=beq_eq_false_iff_ne.mpr ab;have b9:(I != 4)=true:=bne_iff_ne.mpr ab;obtain rfl:=Option.some.inj H;obtain⟨_,_,_,_,_,_,_,_,_,_⟩:=bc5 D;go_wp2
       go_ret
       exact⟨RT,PB⟩
     ·rw[if_neg Y] at H
      have b5:(J == 0 && (L == 0 && (U == 0)))=false:=by simpa using Y
      (try(have b6:decide (J=0 && (L == 0 && (U == 0)))=false:=by simpa using Y));(try(have b7:(J == 0 && (L == 0 && (U == 0)))=false:=by simpa using Y));(try(have cl:¬(J=0 && (L == 0 && (U == 0))):=by simpa using Y));clear Y;obtain rfl:=Option.some.inj H;obtain⟨_,_,_,_,_,_,_,_,_,_⟩:=bc5 D;go_wp2
      go_ret
      exact⟨RT,PB⟩

end Go.Proofs.Ythojdjnchhkafaa.MFnExactTraceVisit
