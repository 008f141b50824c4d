-- Written by a program of this session out of the translation's own print. Not trusted: Lean checks it.
import Derived.Test.YthojdjnchhkafaaShr2
import Derived.Test.YthojdjnchhkafaaMFnExactTraceVisitx0
import Derived.Test.YthojdjnchhkafaaMFnExactTraceVisitx13
import Derived.Test.YthojdjnchhkafaaMFnExactTraceVisitx1
namespace Go.Proofs.Ythojdjnchhkafaa.MFnExactTraceVisit
open Go.RowKit Go.Proofs.YthojdjnchhkafaaW.PrintWords Go.Proofs.YthojdjnchhkafaaW.PrintLast Go.Proofs.YthojdjnchhkafaaW.PrintMore
attribute [local go_sem] max2_int min2_int max_two min_two max_three min_three max_four min_four   -- for this text's walks alone
set_option linter.unusedVariables false
set_option maxHeartbeats 8000000
set_option maxRecDepth 100000
set_option linter.unusedSimpArgs false

/-! ### impl_isOp: function 67 -/
def impl_isOp.j0:Nat→Int→Bool→Int→Int→Int→Int→Option (Bool)
  | 0,_,_,_,_,_,_=>none
  | k+1,J,ae,ab,ac,D,I=>if ae=true then(if D=0 then(some (I == 0)) else(some false)) else(if J=5 then((impl_at.f D 4).bind fun L=>(if L=true then((impl_at.f I 4).bind fun U=>(some U)) else(some false))) else(if J=6 then((impl_at.f D 4).bind fun X=>(if X=true then(some (I == 0)) else(some false))) else(if J=7 then((impl_InRange.f D 1 3).bind fun Y=>(if Y=true then(some (I == 0)) else(some false))) else(if J=8 then((impl_at.f D 3).bind fun Z=>(if Z=true then(some (I == 0)) else(some false))) else(if J=9 then((impl_at.f D 3).bind fun aa=>(if aa=true then(some (I == 0)) else(some false))) else(some false))))))
def impl_isOp.f (k:Nat)(D:Int)(I:Int)(J:Int)(L:Int):Option (Bool):=(impl_at.f I 4).bind fun U=>(if U=true then(if D=1 then((impl_InRange.f J 1 9).bind fun X=>(if X=true then((impl_InRange.f L 0 99).bind fun Y=>(some Y)) else(some false))) else(if D=2 then(impl_isOp.j0 k D (D == 2) D I J L) else(if D=3 then(impl_isOp.j0 k D (D == 3) D I J L) else(impl_isOp.j0 k D (D == 4) D I J L)))) else(some false))
theorem impl_isOp.calls (k:Nat)(D:Int)(L:Int)(I:Int)(U:Int)(r:Bool)(w:World)(h:impl_isOp.f k D L I U=some r) :
  Calls Try.prog 67 #[.agg #[.int .i64 D,.int .i64 L,.int .i64 I,.int .i64 U]] w fun e w'=>e = .returned (.bool r)∧Below w.heap.size w w':=by
 have dm:=Try.underlying50;have HB:=ak (Below.refl w.heap.size w);have H:=h;clear h;unfold impl_isOp.f at H;replace H:=Option.bind_eq_some_iff.mp H;obtain⟨cz,cq,H⟩:=H;(try dsimp only at H);have A2:=ak cq;clear cq
 by_cases c3:cz=true
 ·subst c3;rw[if_pos rfl] at H
  by_cases c4:D=1
  ·rw[if_pos c4] at H;have bp:(D == 1)=true:=beq_iff_eq.mpr c4;have br:(D != 1)=false:=bne_eq_false_iff_eq.mpr c4;clear c4;replace H:=Option.bind_eq_some_iff.mp H;obtain⟨da,cr,H⟩:=H;(try dsimp only at H);have A5:=ak cr;clear cr
   by_cases c6:da=true
   ·subst c6;rw[if_pos rfl] at H;replace H:=Option.bind_eq_some_iff.mp H;obtain⟨db,ct,H⟩:=H;(try dsimp only at H);have A7:=ak ct;clear ct;obtain rfl:=Option.some.inj H;go_enter Try.func67,Try.ntmps67;go_wp2_with (first|((with_reducible refine gate_dst (N:=1) rfl ?_);refine bx_ (N:=1) #[.int .i64 D,.int .i64 L,.int .i64 I,.int .i64 U] 50 ?_;intro ab hg w8 hbox hb;have J:=ak hbox;have aj:=gy hg HB;replace HB:=bs HB hb;clear hb hbox hg;obtain⟨bu,bv,bw,bx,bz,b0,b4,b5⟩:=bc4 J)|((with_reducible refine gate_callee (f:=86) rfl ?_);refine goesL_ (some 5) rfl rfl Try.func86 KR rfl #[.int .i64 L,.int .i64 4] rfl AR ?_;(with_reducible refine(impl_at.calls L 4 true _ A2.out).mono ?_);rintro e w' ⟨rfl,⟨nd,rfl⟩⟩;refine⟨_,rfl,?_⟩)|((with_reducible refine gate_callee (f:=69) rfl ?_);refine goesL_ (some 13) rfl rfl Try.func69 KR rfl #[.int .i64 I,.int .i64 1,.int .i64 9] rfl AR ?_;(with_reducible refine(impl_InRange.calls I 1 9 true _ A5.out).mono ?_);rintro e w' ⟨rfl,⟨nd,rfl⟩⟩;refine⟨_,rfl,?_⟩)|(go_at_call 69;(with_reducible refine(impl_InRange.calls U 0 99 db _ A7.out).mono ?_);rintro e w' ⟨rfl,⟨nd,rfl⟩⟩))
    go_ret
    exact⟨RT,PB⟩
   ·replace c6:=Bool.eq_false_iff.mpr c6;subst c6;rw[if_neg (show ¬(false=true) by decide)] at H;obtain rfl:=Option.some.inj H;go_enter Try.func67,Try.ntmps67;go_wp2_with (first|((with_reducible refine gate_dst (N:=1) rfl ?_);refine bx_ (N:=1) #[.int .i64 D,.int .i64 L,.int .i64 I,.int .i64 U] 50 ?_;intro ab hg dq hbox hb;have J:=ak hbox;have aj:=gy hg HB;replace HB:=bs HB hb;clear hb hbox hg;obtain⟨az,a9,ba,bb,bc,bd,be,bf⟩:=bc4 J)|((with_reducible refine gate_callee (f:=86) rfl ?_);refine goesL_ (some 5) rfl rfl Try.func86 KR rfl #[.int .i64 L,.int .i64 4] rfl AR ?_;(with_reducible refine(impl_at.calls L 4 true _ A2.out).mono ?_);rintro e w' ⟨rfl,⟨nd,rfl⟩⟩;refine⟨_,rfl,?_⟩)|((with_reducible refine gate_callee (f:=69) rfl ?_);refine goesL_ (some 13) rfl rfl Try.func69 KR rfl #[.int .i64 I,.int .i64 1,.int .i64 9] rfl AR ?_;(with_reducible refine(impl_InRange.calls I 1 9 false _ A5.out).mono ?_);rintro e w' ⟨rfl,⟨nd,rfl⟩⟩;refine⟨_,rfl,?_⟩))
    go_ret
    exact⟨RT,PB⟩
  ·rw[if_neg c4] at H;have bp:(D == 1)=false:=beq_eq_false_iff_ne.mpr c4;have br:(D != 1)=true:=bne_iff_ne.mpr c4;have am:=ak H;clear H;go_enter Try.func67,Try.ntmps67
   go_upto_if 19 with (first|((with_reducible refine gate_dst (N:=1) rfl ?_);refine bx_ (N:=1) #[.int .i64 D,.int .i64 L,.int .i64 I,.int .i64 U] 50 ?_;intro ab hg dr hbox hb;have J:=ak hbox;have aj:=gy hg HB;replace HB:=bs HB hb;clear hb hbox hg;obtain⟨bg,bh,bi,bj,bk,bl,bm,bn⟩:=bc4 J)|((with_reducible refine gate_callee (f:=86) rfl ?_);refine goesL_ (some 5) rfl rfl Try.func86 KR rfl #[.int .i64 L,.int .i64 4] rfl AR ?_;(with_reducible refine(impl_at.calls L 4 true _ A2.out).mono ?_);rintro e w' ⟨rfl,⟨nd,rfl⟩⟩;refine⟨_,rfl,?_⟩))
   (try simp only[Act.put,List.setIfInBounds_toArray,List.set_cons_zero,List.set_cons_succ])
   go_cut [19] (fun dk wc=>∃(kq:Nat)(Y:Bool),dk = .bool Y∧Aside0 (impl_isOp.j0 kq D Y D L I U=some r)∧Aside0 (kq≤k)∧Aside0 (wc.heap[ab]?=some (.cells #[.int .i64 D,.int .i64 L,.int .i64 I,.int .i64 U] 50 (0,0)))∧Aside0 (Below w.heap.size w wc))
   case first =>
    have H:=am.out;clear am
    by_cases Z:D=2
    ·rw[if_pos Z] at H;have X:(D == 2)=true:=beq_iff_eq.mpr Z;have ao:(D != 2)=false:=bne_eq_false_iff_eq.mpr Z;clear Z;(first|rw[X]|(simp only[i64_w,i32_w];rw[X])|skip);have H':=ak H;clear H;go_wp2
     go_meet
     case rel=>exact⟨_,((D == 2)),FR,H',⟨by first|omega | exact Nat.le_refl _⟩,⟨PK J⟩,⟨PB⟩⟩
    ·rw[if_neg Z] at H;have X:(D == 2)=false:=beq_eq_false_iff_ne.mpr Z;have ao:(D != 2)=true:=bne_iff_ne.mpr Z;(first|rw[X]|(simp only[i64_w,i32_w];rw[X])|skip)
     by_cases aa:D=3
     ·rw[if_pos aa] at H;have ap:(D == 3)=true:=beq_iff_eq.mpr aa;have aq:(D != 3)=false:=bne_eq_false_iff_eq.mpr aa;clear aa;have H':=ak H;clear H;go_wp2
      go_meet
      case rel=>exact⟨_,((D == 3)),FR,H',⟨by first|omega | exact Nat.le_refl _⟩,⟨PK J⟩,⟨PB⟩⟩
     ·rw[if_neg aa] at H;have ap:(D == 3)=false:=beq_eq_false_iff_ne.mpr aa;have aq:(D != 3)=true:=bne_iff_ne.mpr aa;have H':=ak H;clear H;go_wp2
      go_meet
      case rel=>exact⟨_,((D == 4)),FR,H',⟨by first|omega | exact Nat.le_refl _⟩,⟨PK J⟩,⟨PB⟩⟩
   case rest =>
    clear am;(try clear c1);(try clear p2);(try clear c3);(try clear c4);(try clear bp);(try clear br);(try clear c6);(try clear c8);(try clear Z);(try clear X);(try clear ao);(try clear aa);(try clear ap);(try clear aq);(try clear az);(try clear a9);(try clear ba);(try clear bb);(try clear bg);(try clear bh);(try clear bi);(try clear bj);(try clear bu);(try clear bv);(try clear bw);(try clear bx);(try clear bc);(try clear bd);(try clear be);(try clear bf);(try clear bk);(try clear bl);(try clear bm);(try clear bn);(try clear bz);(try clear b0);(try clear b4);(try clear b5);obtain⟨kq,Y,rfl,HA,dp,J,HB⟩:=hcut
    cases kq with
    | zero=>exact absurd HA.out (by simp[impl_isOp.j0])
    | succ kj11 =>
     have H:=HA.out;clear HA;simp only[impl_isOp.j0] at H
     by_cases ar:Y=true
     ·subst ar;rw[if_pos rfl] at H
      by_cases ac:I=0
      ·rw[if_pos ac] at H;have ce:(I == 0)=true:=beq_iff_eq.mpr ac;have cf:(I != 0)=false:=bne_eq_false_iff_eq.mpr ac;clear ac;obtain rfl:=Option.some.inj H;obtain⟨_,_,_,_,_,_,_,_⟩:=bc4 J;go_wp2
       go_ret
       exact⟨RT,PB⟩
      ·rw[if_neg ac] at H;have ce:(I == 0)=false:=beq_eq_false_iff_ne.mpr ac;have cf:(I != 0)=true:=bne_iff_ne.mpr ac;obtain rfl:=Option.some.inj H;obtain⟨_,_,_,_,_,_,_,_⟩:=bc4 J;go_wp2
       go_ret
       exact⟨RT,PB⟩
     ·replace ar:=Bool.eq_false_iff.mpr ar;subst ar;rw[if_neg (show ¬(false=true) by decide)] at H
      by_cases ae:D=5
      ·rw[if_pos ae] at H;have cg:(D == 5)=true:=beq_iff_eq.mpr ae;have ch:(D != 5)=false:=bne_eq_false_iff_eq.mpr ae;clear ae;replace H:=Option.bind_eq_some_iff.mp H;obtain⟨dc,b6,H⟩:=H;(try dsimp only at H);have cu:=ak b6;clear b6
       by_cases au:dc=true
       ·subst au;rw[if_pos rfl] at H;replace H:=Option.bind_eq_some_iff.mp H;obtain⟨de,b7,H⟩:=H;(try dsimp only at H);have dl:=ak b7;clear b7;obtain rfl:=Option.some.inj H;obtain⟨_,_,_,_,_,_,_,_⟩:=bc4 J;go_wp2_with (first|((with_reducible refine gate_callee (f:=86) rfl ?_);refine goesL_ (some 35) rfl rfl Try.func86 KR rfl #[.int .i64 I,.int .i64 4] rfl AR ?_;(with_reducible refine(impl_at.calls I 4 true _ cu.out).mono ?_);rintro e w' ⟨rfl,⟨nd,rfl⟩⟩;refine⟨_,rfl,?_⟩)|(go_at_call 86;(with_reducible refine(impl_at.calls U 4 de _ dl.out).mono ?_);rintro e w' ⟨rfl,⟨nd,rfl⟩⟩))
        go_ret
        exact⟨RT,PB⟩
       ·replace au:=Bool.eq_false_iff.mpr au;subst au;rw[if_neg (show ¬(false=true) by decide)] at H;obtain rfl:=Option.some.inj H;obtain⟨_,_,_,_,_,_,_,_⟩:=bc4 J;go_wp2_with (first|((with_reducible refine gate_callee (f:=86) rfl ?_);refine goesL_ (some 35) rfl rfl Try.func86 KR rfl #[.int .i64 I,.int .i64 4] rfl AR ?_;(with_reducible refine(impl_at.calls I 4 false _ cu.out).mono ?_);rintro e w' ⟨rfl,⟨nd,rfl⟩⟩;refine⟨_,rfl,?_⟩))
        go_ret
        exact⟨RT,PB⟩
      ·rw[if_neg ae] at H;have cg:(D == 5)=false:=beq_eq_false_iff_ne.mpr ae;have ch:(D != 5)=true:=bne_iff_ne.mpr ae
       by_cases af:D=6
       ·rw[if_pos af] at H;have ci:(D == 6)=true:=beq_iff_eq.mpr af;have cj:(D != 6)=false:=bne_eq_false_iff_eq.mpr af;clear af;replace H:=Option.bind_eq_some_iff.mp H;obtain⟨df,b8,H⟩:=H;(try dsimp only at H);have cv:=ak b8;clear b8
        by_cases av:df=true
        ·subst av;rw[if_pos rfl] at H;obtain rfl:=Option.some.inj H;obtain⟨_,_,_,_,_,_,_,_⟩:=bc4 J;go_wp2_with (first|((with_reducible refine gate_callee (f:=86) rfl ?_);refine goesL_ (some 45) rfl rfl Try.func86 KR rfl #[.int .i64 I,.int .i64 4] rfl AR ?_;(with_reducible refine(impl_at.calls I 4 true _ cv.out).mono ?_);rintro e w' ⟨rfl,⟨nd,rfl⟩⟩;refine⟨_,rfl,?_⟩))
         go_ret
         exact⟨RT,PB⟩
        ·replace av:=Bool.eq_false_iff.mpr av;subst av;rw[if_neg (show ¬(false=true) by decide)] at H;obtain rfl:=Option.some.inj H;obtain⟨_,_,_,_,_,_,_,_⟩:=bc4 J;go_wp2_with (first|((with_reducible refine gate_callee (f:=86) rfl ?_);refine goesL_ (some 45) rfl rfl Try.func86 KR rfl #[.int .i64 I,.int .i64 4] rfl AR ?_;(with_reducible refine(impl_at.calls I 4 false _ cv.out).mono ?_);rintro e w' ⟨rfl,⟨nd,rfl⟩⟩;refine⟨_,rfl,?_⟩))
         go_ret
         exact⟨RT,PB⟩
       ·rw[if_neg af] at H;have ci:(D == 6)=false:=beq_eq_false_iff_ne.mpr af;have cj:(D != 6)=true:=bne_iff_ne.mpr af
        by_cases ag:D=7
        ·rw[if_pos ag] at H;have ck:(D == 7)=true:=beq_iff_eq.mpr ag;have cl:(D != 7)=false:=bne_eq_false_iff_eq.mpr ag;clear ag;replace H:=Option.bind_eq_some_iff.mp H;obtain⟨dg,b9,H⟩:=H;(try dsimp only at H);have cw:=ak b9;clear b9
         by_cases aw:dg=true
         ·subst aw;rw[if_pos rfl] at H;obtain rfl:=Option.some.inj H;obtain⟨_,_,_,_,_,_,_,_⟩:=bc4 J;go_wp2_with (first|((with_reducible refine gate_callee (f:=69) rfl ?_);refine goesL_ (some 55) rfl rfl Try.func69 KR rfl #[.int .i64 I,.int .i64 1,.int .i64 3] rfl AR ?_;(with_reducible refine(impl_InRange.calls I 1 3 true _ cw.out).mono ?_);rintro e w' ⟨rfl,⟨nd,rfl⟩⟩;refine⟨_,rfl,?_⟩))
          go_ret
          exact⟨RT,PB⟩
         ·replace aw:=Bool.eq_false_iff.mpr aw;subst aw;rw[if_neg (show ¬(false=true) by decide)] at H;obtain rfl:=Option.some.inj H;obtain⟨_,_,_,_,_,_,_,_⟩:=bc4 J;go_wp2_with (first|((with_reducible refine gate_callee (f:=69) rfl ?_);refine goesL_ (some 55) rfl rfl Try.func69 KR rfl #[.int .i64 I,.int .i64 1,.int .i64 3] rfl AR ?_;(with_reducible refine(impl_InRange.calls I 1 3 false _ cw.out).mono ?_);rintro e w' ⟨rfl,⟨nd,rfl⟩⟩;refine⟨_,rfl,?_⟩))
          go_ret
          exact⟨RT,PB⟩
        ·rw[if_neg ag] at H;have ck:(D == 7)=false:=beq_eq_false_iff_ne.mpr ag;have cl:(D != 7)=true:=bne_iff_ne.mpr ag
         by_cases ah:D=8
         ·rw[if_pos ah] at H;have cm:(D == 8)=true:=beq_iff_eq.mpr ah;have cn:(D != 8)=false:=bne_eq_false_iff_eq.mpr ah;clear ah;replace H:=Option.bind_eq_some_iff.mp H;obtain⟨dh,ca,H⟩:=H;(try dsimp only at H);have cx:=ak ca;clear ca
          by_cases ax:dh=true
          ·subst ax;rw[if_pos rfl] at H;obtain rfl:=Option.some.inj H;obtain⟨_,_,_,_,_,_,_,_⟩:=bc4 J;go_wp2_with (first|((with_reducible refine gate_callee (f:=86) rfl ?_);refine goesL_ (some 66) rfl rfl Try.func86 KR rfl #[.int .i64 I,.int .i64 3] rfl AR ?_;(with_reducible refine(impl_at.calls I 3 true _ cx.out).mono ?_);rintro e w' ⟨rfl,⟨nd,rfl⟩⟩;refine⟨_,rfl,?_⟩))
           go_ret
           exact⟨RT,PB⟩
          ·replace ax:=Bool.eq_false_iff.mpr ax;subst ax;rw[if_neg (show ¬(false=true) by decide)] at H;obtain rfl:=Option.some.inj H;obtain⟨_,_,_,_,_,_,_,_⟩:=bc4 J;go_wp2_with (first|((with_reducible refine gate_callee (f:=86) rfl ?_);refine goesL_ (some 66) rfl rfl Try.func86 KR rfl #[.int .i64 I,.int .i64 3] rfl AR ?_;(with_reducible refine(impl_at.calls I 3 false _ cx.out).mono ?_);rintro e w' ⟨rfl,⟨nd,rfl⟩⟩;refine⟨_,rfl,?_⟩))
           go_ret
           exact⟨RT,PB⟩
         ·rw[if_neg ah] at H;have cm:(D == 8)=false:=beq_eq_false_iff_ne.mpr ah;have cn:(D != 8)=true:=bne_iff_ne.mpr ah
          by_cases ai:D=9
          ·rw[if_pos ai] at H;have co:(D == 9)=true:=beq_iff_eq.mpr ai;have cp:(D != 9)=false:=bne_eq_false_iff_eq.mpr ai;clear ai;replace H:=Option.bind_eq_some_iff.mp H;obtain⟨di,cb,H⟩:=H;(try dsimp only at H);have cy:=ak cb;clear cb
           by_cases ay:di=true
           ·subst ay;rw[if_pos rfl] at H;obtain rfl:=Option.some.inj H;obtain⟨_,_,_,_,_,_,_,_⟩:=bc4 J;go_wp2_with (first|((with_reducible refine gate_callee (f:=86) rfl ?_);refine goesL_ (some 66) rfl rfl Try.func86 KR rfl #[.int .i64 I,.int .i64 3] rfl AR ?_;(with_reducible refine(impl_at.calls I 3 true _ cy.out).mono ?_);rintro e w' ⟨rfl,⟨nd,rfl⟩⟩;refine⟨_,rfl,?_⟩))
            go_ret
            exact⟨RT,PB⟩
           ·replace ay:=Bool.eq_false_iff.mpr ay;subst ay;rw[if_neg (show ¬(false=true) by decide)] at H;obtain rfl:=Option.some.inj H;obtain⟨_,_,_,_,_,_,_,_⟩:=bc4 J;go_wp2_with (first|((with_reducible refine gate_callee (f:=86) rfl ?_);refine goesL_ (some 66) rfl rfl Try.func86 KR rfl #[.int .i64 I,.int .i64 3] rfl AR ?_;(with_reducible refine(impl_at.calls I 3 false _ cy.out).mono ?_);rintro e w' ⟨rfl,⟨nd,rfl⟩⟩;refine⟨_,rfl,?_⟩))
            go_ret
            exact⟨RT,PB⟩
          ·rw[if_neg ai] at H;have co:(D == 9)=false:=beq_eq_false_iff_ne.mpr ai;have cp:(D != 9)=true:=bne_iff_ne.mpr ai;obtain rfl:=Option.some.inj H;go_wp2
           go_ret
           exact⟨RT,PB⟩
 ·replace c3:=Bool.eq_false_iff.mpr c3;subst c3;rw[if_neg (show ¬(false=true) by decide)] at H;obtain rfl:=Option.some.inj H;go_enter Try.func67,Try.ntmps67;go_wp2_with (first|((with_reducible refine gate_dst (N:=1) rfl ?_);refine bx_ (N:=1) #[.int .i64 D,.int .i64 L,.int .i64 I,.int .i64 U] 50 ?_;intro ab hg dt hbox hb;have J:=ak hbox;have aj:=gy hg HB;replace HB:=bs HB hb;clear hb hbox hg;obtain⟨_,_,_,_,_,_,_,_⟩:=bc4 J)|((with_reducible refine gate_callee (f:=86) rfl ?_);refine goesL_ (some 5) rfl rfl Try.func86 KR rfl #[.int .i64 L,.int .i64 4] rfl AR ?_;(with_reducible refine(impl_at.calls L 4 false _ A2.out).mono ?_);rintro e w' ⟨rfl,⟨nd,rfl⟩⟩;refine⟨_,rfl,?_⟩))
  go_ret
  exact⟨RT,PB⟩

/-! ### impl_IsScript_lit1: function 66 -/
def impl_IsScript_lit1.f (k:Nat)(D:Int)(I:Int)(J:Int)(L:Int):Option (Bool):=(impl_isOp.f k D I J L).bind fun U=>(some (!U))
theorem impl_IsScript_lit1.calls (k:Nat)(D:Int)(I:Int)(J:Int)(L:Int)(r:Bool)(w:World)(h:impl_IsScript_lit1.f k D I J L=some r) :
  Calls Try.prog 66 #[.agg #[.int .i64 D,.int .i64 I,.int .i64 J,.int .i64 L]] w fun e w'=>e = .returned (.bool r)∧Below w.heap.size w w':=by
 have al:=Try.underlying50;have HB:=ak (Below.refl w.heap.size w);have H:=h;clear h;unfold impl_IsScript_lit1.f at H;replace H:=Option.bind_eq_some_iff.mp H;obtain⟨Y,X,H⟩:=H;(try dsimp only at H);have A2:=ak X;clear X;obtain rfl:=Option.some.inj H;go_enter Try.func66,Try.ntmps66;go_wp2_with (first|((with_reducible refine gate_dst (N:=1) rfl ?_);refine bx_ (N:=1) #[.int .i64 D,.int .i64 I,.int .i64 J,.int .i64 L] 50 ?_;intro ai hg w3 hbox hb;have U:=ak hbox;have aj:=gy hg HB;replace HB:=bs HB hb;clear hb hbox hg;obtain⟨Z,aa,ab,ac,ae,af,ag,ah⟩:=bc4 U)|((with_reducible refine gate_callee (f:=67) rfl ?_);refine goesL_ (some 4) rfl rfl Try.func67 KR rfl #[.agg #[.int .i64 D,.int .i64 I,.int .i64 J,.int .i64 L]] rfl AR ?_;(with_reducible refine(impl_isOp.calls k D I J L Y _ A2.out).mono ?_);rintro e w5 ⟨rfl,hb⟩;refine⟨_,rfl,?_⟩;replace U:=kf U hb;replace HB:=bs HB hb;clear hb))
 go_ret
 exact⟨RT,PB⟩

/-! ### slices_IndexFunc_66: function 85 -/
def slices_IndexFunc_66.l0:Nat→List (S50)→Int→Int→Option (Int)
  | 0,_,_,_=>none
  | k+1,I,L,D=>if D < L then(if 0≤D then(if D < (I.length:Int) then((impl_IsScript_lit1.f k ((rd_T50 I D).f0) ((rd_T50 I D).f1) ((rd_T50 I D).f2) ((rd_T50 I D).f3)).bind fun J=>(if J=true then(some D) else(slices_IndexFunc_66.l0 k I L (wrap64 (D+1))))) else(none)) else(none)) else(some (-1))
def slices_IndexFunc_66.f (k:Nat)(D:List (S50))(I:Int):Option (Int):=slices_IndexFunc_66.l0 k D (D.length:Int) 0
theorem slices_IndexFunc_66.calls (k:Nat)(A0:Option Addr)(c0:Nat)(I:List (S50))(a1:Int)(r:Int)(w:World)(ah:Kd.C k50 w A0 I.length I)(ai:I.length≤c0)(h:slices_IndexFunc_66.f k I a1=some r) :
  Calls Try.prog 85 #[.slice A0 I.length c0,.func (.func 66) #[] #[]] w fun e w'=>e = .returned (.int .i64 r)∧Below w.heap.size w w':=by
 have aw:=Try.underlying50;have aj:=ak ah;have a9:=ak ai;clear ah ai;have HB:=ak (Below.refl w.heap.size w);have H:=h;clear h;unfold slices_IndexFunc_66.f at H;have H':=ak H;clear H;go_enter Try.func85,Try.ntmps85;go_wp2
 go_loopg [8] k (fun kq v8 w'=>∃(D:Int),v8 = .int .i64 D∧Aside0 (slices_IndexFunc_66.l0 kq I (I.length:Int) D=some r)∧Aside0 (kq≤k)∧Aside0 (Below w.heap.size w w'))
 case atStart=>exact⟨(0),FR,H',⟨Nat.le_refl _⟩,⟨PB⟩⟩
 case round =>
  clear H'
  try clear p2
  obtain⟨D,rfl,HA,al,HB⟩:=hrel
  cases gk with
  | zero=>exact absurd HA.out (by simp[slices_IndexFunc_66.l0])
  | succ k1 =>
   have H:=HA.out;clear HA;simp only[slices_IndexFunc_66.l0] at H
   by_cases c3:D < (I.length:Int)
   ·rw[if_pos c3] at H;have ao:decide (D < (I.length:Int))=true:=decide_eq_true c3;clear c3
    by_cases c4:0≤D
    ·rw[if_pos c4] at H;have ay:decide (0≤D)=true:=decide_eq_true c4;clear c4
     by_cases c5:D < (I.length:Int)
     ·rw[if_pos c5] at H;have az:decide (D < (I.length:Int))=true:=decide_eq_true c5;clear c5;replace H:=Option.bind_eq_some_iff.mp H;obtain⟨ap,am,H⟩:=H;(try dsimp only at H);have A6:=ak am;clear am
      by_cases c7:ap=true
      ·subst c7;rw[if_pos rfl] at H;obtain rfl:=Option.some.inj H;have Y:0≤(D:Int):=od;have Z:D < (I.length:Int):=od;obtain⟨ag,aa,J,L,U,X⟩:=at_T50 aj.out D Y Z;cases aa;replace J:=hx_ HB J;replace L:=hx_ HB L;replace U:=hx_ HB U;replace X:=hx_ HB X;replace Y:=eq_true Y;replace Z:=eq_true Z;go_wp2_with (first|((with_reducible refine gate_calleeV (n:=11) rfl ?_);refine goesLV_ (some 16) rfl rfl Try.func66 KR rfl #[.agg #[.int .i64 ((rd_T50 I D).f0),.int .i64 ((rd_T50 I D).f1),.int .i64 ((rd_T50 I D).f2),.int .i64 ((rd_T50 I D).f3)]] rfl AR ?_;(with_reducible refine(impl_IsScript_lit1.calls k1 ((rd_T50 I D).f0) ((rd_T50 I D).f1) ((rd_T50 I D).f2) ((rd_T50 I D).f3) true _ A6.out).mono ?_);rintro e w8 ⟨rfl,hb⟩;refine⟨_,rfl,?_⟩;replace HB:=bs HB hb;clear hb))
       go_ret
       exact⟨RT,PB⟩
      ·replace c7:=Bool.eq_false_iff.mpr c7;subst c7;rw[if_neg (show ¬(false=true) by decide)] at H;have H':=ak H;clear H;have Y:0≤(D:Int):=od;have Z:D < (I.length:Int):=od;obtain⟨ag,aa,J,L,U,X⟩:=at_T50 aj.out D Y Z;cases aa;replace J:=hx_ HB J;replace L:=hx_ HB L;replace U:=hx_ HB U;replace X:=hx_ HB X;replace Y:=eq_true Y;replace Z:=eq_true Z;go_wp2_with (first|((with_reducible refine gate_calleeV (n:=11) rfl ?_);refine goesLV_ (some 16) rfl rfl Try.func66 KR rfl #[.agg #[.int .i64 ((rd_T50 I D).f0),.int .i64 ((rd_T50 I D).f1),.int .i64 ((rd_T50 I D).f2),.int .i64 ((rd_T50 I D).f3)]] rfl AR ?_;(with_reducible refine(impl_IsScript_lit1.calls k1 ((rd_T50 I D).f0) ((rd_T50 I D).f1) ((rd_T50 I D).f2) ((rd_T50 I D).f3) false _ A6.out).mono ?_);rintro e w9 ⟨rfl,hb⟩;refine⟨_,rfl,?_⟩;replace HB:=bs HB hb;clear hb))
       go_roundg k1
       case measure=>have:=al.out;omega
       case rel=>exact⟨(wrap64 (D+1)),FR,H',⟨by have:=al.out;omega⟩,⟨PB⟩⟩
     ·rw[if_neg c5] at H;exact absurd H (by simp)
    ·rw[if_neg c4] at H;exact absurd H (by simp)
   ·rw[if_neg c3] at H;have ao:decide (D < (I.length:Int))=false:=decide_eq_false c3;clear c3;obtain rfl:=Option.some.inj H;go_wp2
    go_ret
    exact⟨RT,PB⟩

/-! ### slices_ContainsFunc_66: function 65 -/
def slices_ContainsFunc_66.f (k:Nat)(I:List (S50))(J:Int):Option (Bool):=(slices_IndexFunc_66.f k I J).bind fun D=>(some (decide (D≥0)))
theorem slices_ContainsFunc_66.calls (k:Nat)(U:Option Addr)(X:Nat)(D:List (S50))(Z:Int)(r:Bool)(w:World)(I:Kd.C k50 w U D.length D)(J:D.length≤X)(h:slices_ContainsFunc_66.f k D Z=some r) :
  Calls Try.prog 65 #[.slice U D.length X,.func (.func 66) #[] #[]] w fun e w'=>e = .returned (.bool r)∧Below w.heap.size w w':=by
 have aa:=ak I;have ab:=ak J;clear I J;have HB:=ak (Below.refl w.heap.size w);have H:=h;clear h;unfold slices_ContainsFunc_66.f at H;replace H:=Option.bind_eq_some_iff.mp H;obtain⟨Y,L,H⟩:=H;(try dsimp only at H);have A3:=ak L;clear L;obtain rfl:=Option.some.inj H;go_enter Try.func65,Try.ntmps65;go_wp2_with (first|((with_reducible refine gate_callee (f:=85) rfl ?_);refine goesL_ (some 7) rfl rfl Try.func85 KR rfl #[.slice U D.length X,.func (.func 66) #[] #[]] rfl AR ?_;(with_reducible refine(slices_IndexFunc_66.calls k _ _ D Z Y _ ?side1 ?side2 A3.out).mono ?_);(case side1=>exact CR (aa.out));(case side2=>exact ab.out);rintro e w4 ⟨rfl,hb⟩;refine⟨_,rfl,?_⟩;replace HB:=bs HB hb;clear hb))
 go_ret
 exact⟨RT,PB⟩

/-! ### impl_IsScript: function 41 -/
def impl_IsScript.f (k:Nat)(I:List (S50)):Option (Bool):=if (I.length:Int)≤16 then((slices_ContainsFunc_66.f k I 90000066).bind fun D=>(some (!D))) else(some false)
theorem impl_IsScript.calls (k:Nat)(A0:Option Addr)(c0:Nat)(D:List (S50))(r:Bool)(w:World)(J:Kd.C k50 w A0 D.length D)(L:D.length≤c0)(h:impl_IsScript.f k D=some r) :
  Calls Try.prog 41 #[.slice A0 D.length c0] w fun e w'=>e = .returned (.bool r)∧Below w.heap.size w w':=by
 have ac:=ak J;have ae:=ak L;clear J L;have HB:=ak (Below.refl w.heap.size w);have H:=h;clear h;unfold impl_IsScript.f at H
 by_cases I:(D.length:Int)≤16
 ·rw[if_pos I] at H;have X:decide ((D.length:Int)≤16)=true:=decide_eq_true I;have Y:decide (D.length≤16)=true:=decide_eq_true (by omega);clear I;replace H:=Option.bind_eq_some_iff.mp H;obtain⟨Z,U,H⟩:=H;(try dsimp only at H);have A3:=ak U;clear U;obtain rfl:=Option.some.inj H;go_enter Try.func41,Try.ntmps41;go_wp2_with (first|(go_at_call 65;(with_reducible refine(slices_ContainsFunc_66.calls k _ _ D 90000066 Z _ ?side1 ?side2 A3.out).mono ?_);(case side1=>exact CR (ac.out));(case side2=>exact ae.out);rintro e w4 ⟨rfl,hb⟩;replace HB:=bs HB hb;clear hb))
  go_ret
  exact⟨RT,PB⟩
 ·rw[if_neg I] at H;have X:decide ((D.length:Int)≤16)=false:=decide_eq_false I;have Y:decide (D.length≤16)=false:=decide_eq_false (by omega);clear I;obtain rfl:=Option.some.inj H;go_enter Try.func41,Try.ntmps41;go_wp2
  go_ret
  exact⟨RT,PB⟩

/-! ### impl_IsAddress: function 89 -/
def impl_IsAddress.f (D:Int)(I:Int)(J:Int):Option (Bool):=(impl_InRange.f D 1 9).bind fun L=>(if L=true then((impl_InRange.f I 0 99).bind fun U=>(if U=true then((impl_InRange.f J 0 99).bind fun X=>(some X)) else(some false))) else(some false))
theorem impl_IsAddress.calls (D:Int)(I:Int)(L:Int)(r:Bool)(w:World)(h:impl_IsAddress.f D I L=some r) :
  Calls Try.prog 89 #[.agg #[.int .i64 D,.int .i64 I,.int .i64 L]] w fun e w'=>e = .returned (.bool r)∧Below w.heap.size w w':=by
 have az:=Try.underlying73;have HB:=ak (Below.refl w.heap.size w);have H:=h;clear h;unfold impl_IsAddress.f at H;replace H:=Option.bind_eq_some_iff.mp H;obtain⟨ae,aa,H⟩:=H;(try dsimp only at H);have A2:=ak aa;clear aa
 by_cases Y:ae=true
 ·subst Y;rw[if_pos rfl] at H;replace H:=Option.bind_eq_some_iff.mp H;obtain⟨ag,ab,H⟩:=H;(try dsimp only at H);have A4:=ak ab;clear ab
  by_cases Z:ag=true
  ·subst Z;rw[if_pos rfl] at H;replace H:=Option.bind_eq_some_iff.mp H;obtain⟨ah,ac,H⟩:=H;(try dsimp only at H);have A6:=ak ac;clear ac;obtain rfl:=Option.some.inj H;go_enter Try.func89,Try.ntmps89;go_wp2_with (first|((with_reducible refine gate_dst (N:=1) rfl ?_);refine bx_ (N:=1) #[.int .i64 D,.int .i64 I,.int .i64 L] 73 ?_;intro U hg w7 hbox hb;have J:=ak hbox;have X:=gy hg HB;replace HB:=bs HB hb;clear hb hbox hg;obtain⟨_,_,_,_,_,_⟩:=bc3 J)|((with_reducible refine gate_callee (f:=69) rfl ?_);refine goesL_ (some 5) rfl rfl Try.func69 KR rfl #[.int .i64 D,.int .i64 1,.int .i64 9] rfl AR ?_;(with_reducible refine(impl_InRange.calls D 1 9 true _ A2.out).mono ?_);rintro e w' ⟨rfl,⟨nd,rfl⟩⟩;refine⟨_,rfl,?_⟩)|(go_at_call 69;(with_reducible refine(impl_InRange.calls I 0 99 true _ A4.out).mono ?_);rintro e w' ⟨rfl,⟨nd,rfl⟩⟩)|(go_at_call 69;(with_reducible refine(impl_InRange.calls L 0 99 ah _ A6.out).mono ?_);rintro e w' ⟨rfl,⟨nd,rfl⟩⟩))
   go_ret
   exact⟨RT,PB⟩
  ·replace Z:=Bool.eq_false_iff.mpr Z;subst Z;rw[if_neg (show ¬(false=true) by decide)] at H;obtain rfl:=Option.some.inj H;go_enter Try.func89,Try.ntmps89;go_wp2_with (first|((with_reducible refine gate_dst (N:=1) rfl ?_);refine bx_ (N:=1) #[.int .i64 D,.int .i64 I,.int .i64 L] 73 ?_;intro U hg w9 hbox hb;have J:=ak hbox;have X:=gy hg HB;replace HB:=bs HB hb;clear hb hbox hg;obtain⟨ai,aj,al,am,ao,ap⟩:=bc3 J)|((with_reducible refine gate_callee (f:=69) rfl ?_);refine goesL_ (some 5) rfl rfl Try.func69 KR rfl #[.int .i64 D,.int .i64 1,.int .i64 9] rfl AR ?_;(with_reducible refine(impl_InRange.calls D 1 9 true _ A2.out).mono ?_);rintro e w' ⟨rfl,⟨nd,rfl⟩⟩;refine⟨_,rfl,?_⟩)|(go_at_call 69;(with_reducible refine(impl_InRange.calls I 0 99 false _ A4.out).mono ?_);rintro e w' ⟨rfl,⟨nd,rfl⟩⟩))
   go_ret
   exact⟨RT,PB⟩
 ·replace Y:=Bool.eq_false_iff.mpr Y;subst Y;rw[if_neg (show ¬(false=true) by decide)] at H;obtain rfl:=Option.some.inj H;go_enter Try.func89,Try.ntmps89;go_wp2_with (first|((with_reducible refine gate_dst (N:=1) rfl ?_);refine bx_ (N:=1) #[.int .i64 D,.int .i64 I,.int .i64 L] 73 ?_;intro U hg ba hbox hb;have J:=ak hbox;have X:=gy hg HB;replace HB:=bs HB hb;clear hb hbox hg;obtain⟨aq,ar,au,av,aw,ax⟩:=bc3 J)|((with_reducible refine gate_callee (f:=69) rfl ?_);refine goesL_ (some 5) rfl rfl Try.func69 KR rfl #[.int .i64 D,.int .i64 1,.int .i64 9] rfl AR ?_;(with_reducible refine(impl_InRange.calls D 1 9 false _ A2.out).mono ?_);rintro e w' ⟨rfl,⟨nd,rfl⟩⟩;refine⟨_,rfl,?_⟩))
  go_ret
  exact⟨RT,PB⟩

/-! ### impl_allIn: function 70 -/
def impl_allIn.l0:Nat→Int→Int→List Int→Int→Int→Option (Bool)
  | 0,_,_,_,_,_=>none
  | k+1,U,X,J,I,D=>if D < I then(if 0≤D then(if D < (J.length:Int) then((impl_InRange.f (rd J D) U X).bind fun L=>(if L=true then(impl_allIn.l0 k U X J I (wrap64 (D+1))) else(some false))) else(none)) else(none)) else(some true)
def impl_allIn.f (k:Nat)(D:List Int)(I:Int)(J:Int):Option (Bool):=impl_allIn.l0 k I J D (D.length:Int) 0
theorem impl_allIn.calls (k:Nat)(A0:Option Addr)(c0:Nat)(I:List Int)(U:Int)(X:Int)(r:Bool)(w:World)(ag:Kd.C (Kd.int .i64) w A0 I.length I)(ah:I.length≤c0)(h:impl_allIn.f k I U X=some r) :
  Calls Try.prog 70 #[.slice A0 I.length c0,.int .i64 U,.int .i64 X] w fun e w'=>e = .returned (.bool r)∧Drawn0 w w':=by
 have ai:=ak ag;have ax:=ak ah;clear ag ah;have H:=h;clear h;unfold impl_allIn.f at H;have H':=ak H;clear H;go_enter Try.func70,Try.ntmps70;go_wp2
 go_loopg [11] k (fun kq ar w'=>∃(D:Int),ar = .int .i64 D∧Aside0 (impl_allIn.l0 kq U X I (I.length:Int) D=some r)∧Aside0 (kq≤k)∧Drawn0 w w')
 case atStart=>exact⟨(0),FR,H',⟨Nat.le_refl _⟩,by repeat(first|exact Drawn0.refl _ | apply Drawn0.step)⟩
 case round =>
  clear H'
  try clear p2
  obtain⟨D,rfl,HA,aj,⟨m1,rfl⟩⟩:=hrel
  cases gk with
  | zero=>exact absurd HA.out (by simp[impl_allIn.l0])
  | succ k1 =>
   have H:=HA.out;clear HA;simp only[impl_allIn.l0] at H
   by_cases Z:D < (I.length:Int)
   ·rw[if_pos Z] at H;have am:decide (D < (I.length:Int))=true:=decide_eq_true Z;clear Z
    by_cases c5:0≤D
    ·rw[if_pos c5] at H;have av:decide (0≤D)=true:=decide_eq_true c5;clear c5
     by_cases c6:D < (I.length:Int)
     ·rw[if_pos c6] at H;have aw:decide (D < (I.length:Int))=true:=decide_eq_true c6;clear c6;replace H:=Option.bind_eq_some_iff.mp H;obtain⟨ao,al,H⟩:=H;(try dsimp only at H);have A7:=ak al;clear al
      by_cases c8:ao=true
      ·subst c8;rw[if_pos rfl] at H;have H':=ak H;clear H;have J:0≤(D:Int):=od;have L:D < (I.length:Int):=od;obtain⟨af,Y,aa⟩:=Kd.at_int ai.out D J L;cases Y;replace J:=eq_true J;replace L:=eq_true L;go_wp2_with (first|((with_reducible refine gate_callee (f:=69) rfl ?_);refine goesL_ (some 18) rfl rfl Try.func69 KR rfl #[.int .i64 (rd I D),.int .i64 U,.int .i64 X] rfl AR ?_;(with_reducible refine(impl_InRange.calls (rd I D) U X true _ A7.out).mono ?_);rintro e w' ⟨rfl,⟨nd,rfl⟩⟩;refine⟨_,rfl,?_⟩))
       go_roundg k1
       case measure=>have:=aj.out;omega
       case rel=>exact⟨(wrap64 (D+1)),FR,H',⟨by have:=aj.out;omega⟩,by repeat(first|exact Drawn0.refl _ | apply Drawn0.step)⟩
      ·replace c8:=Bool.eq_false_iff.mpr c8;subst c8;rw[if_neg (show ¬(false=true) by decide)] at H;obtain rfl:=Option.some.inj H;have J:0≤(D:Int):=od;have L:D < (I.length:Int):=od;obtain⟨af,Y,aa⟩:=Kd.at_int ai.out D J L;cases Y;replace J:=eq_true J;replace L:=eq_true L;go_wp2_with (first|((with_reducible refine gate_callee (f:=69) rfl ?_);refine goesL_ (some 18) rfl rfl Try.func69 KR rfl #[.int .i64 (rd I D),.int .i64 U,.int .i64 X] rfl AR ?_;(with_reducible refine(impl_InRange.calls (rd I D) U X false _ A7.out).mono ?_);rintro e w' ⟨rfl,⟨nd,rfl⟩⟩;refine⟨_,rfl,?_⟩))
       go_ret
       exact⟨FR,by repeat(first|exact Drawn0.refl _ | apply Drawn0.step)⟩
     ·rw[if_neg c6] at H;exact absurd H (by simp)
    ·rw[if_neg c5] at H;exact absurd H (by simp)
   ·rw[if_neg Z] at H;have am:decide (D < (I.length:Int))=false:=decide_eq_false Z;clear Z;obtain rfl:=Option.some.inj H;go_wp2
    go_ret
    exact⟨FR,by repeat(first|exact Drawn0.refl _ | apply Drawn0.step)⟩

attribute [local go_sem high] eqA73
/-! ### impl_IsResource: function 90 -/
def impl_IsResource.j0:Nat→Int→Bool→Int→List Int→Int→Int→Int→Option (Bool)
  | 0,_,_,_,_,_,_,_=>none
  | k+1,Z,x5,Y,D,I,J,L=>if x5=true then(if (D.length:Int)≤6 then((impl_allIn.f k D 0 255).bind fun U=>(if U=true then(some (I == 0 && (J == 0 && (L == 0)))) else(some false))) else(some false)) else(if Z=3 then(if (D.length:Int)=0 then((impl_IsAddress.f I J L).bind fun X=>(some X)) else(some false)) else(if Z=4 then(if (D.length:Int)=0 then(some (I == 0 && (J == 0 && (L == 0)))) else(some false)) else(some false)))
def impl_IsResource.f (k:Nat)(D:Int)(I:List Int)(J:Int)(L:Int)(U:Int):Option (Bool):=if D=1 then(impl_IsResource.j0 k D (D == 1) D I J L U) else(impl_IsResource.j0 k D (D == 2) D I J L U)
theorem impl_IsResource.calls (k:Nat)(I:Int)(ae:Option Addr)(af:Nat)(D:List Int)(L:Int)(U:Int)(X:Int)(r:Bool)(w:World)(ai:Kd.C (Kd.int .i64) w ae D.length D)(aj:D.length≤af)(h:impl_IsResource.f k I D L U X=some r) :
  Calls Try.prog 90 #[.agg #[.int .i64 I,.slice ae D.length af,.int .i64 L,.int .i64 U,.int .i64 X]] w fun e w'=>e = .returned (.bool r)∧Below w.heap.size w w':=by
 have cp:=Try.underlying82;have cq:=Try.underlying73;have al:=ak ai;have am:=ak aj;clear ai aj;have HB:=ak (Below.refl w.heap.size w);have H:=h;clear h;unfold impl_IsResource.f at H;have ap:=ak H;clear H;go_enter Try.func90,Try.ntmps90
 go_upto_if 5 with (first|((with_reducible refine gate_dst (N:=1) rfl ?_);refine bx_ (N:=1) #[.int .i64 I,.slice ae D.length af,.int .i64 L,.int .i64 U,.int .i64 X] 82 ?_;intro bd hg w3 hbox hb;have J:=ak hbox;have cm:=gy hg HB;replace HB:=bs HB hb;clear hb hbox hg;obtain⟨aq,ar,au,av,aw,ax,ay,az,a9,ba⟩:=bc5 J))
 (try simp only[Act.put,List.setIfInBounds_toArray,List.set_cons_zero,List.set_cons_succ])
 go_cut [5] (fun v5 wc=>∃(kq:Nat)(ag:Bool),v5 = .bool ag∧Aside0 (impl_IsResource.j0 kq I ag I D L U X=some r)∧Aside0 (kq≤k)∧Aside0 (wc.heap[bd]?=some (.cells #[.int .i64 I,(.slice ae D.length af),.int .i64 L,.int .i64 U,.int .i64 X] 82 (0,0)))∧Aside0 (Below w.heap.size w wc))
 case first =>
  have H:=ap.out;clear ap
  by_cases c5:I=1
  ·rw[if_pos c5] at H;have Y:(I == 1)=true:=beq_iff_eq.mpr c5;have bb:(I != 1)=false:=bne_eq_false_iff_eq.mpr c5;clear c5;(first|rw[Y]|(simp only[i64_w,i32_w];rw[Y])|skip);have H':=ak H;clear H;go_wp2
   go_meet
   case rel=>exact⟨_,((I == 1)),FR,H',⟨by first|omega | exact Nat.le_refl _⟩,⟨PK J⟩,⟨PB⟩⟩
  ·rw[if_neg c5] at H;have Y:(I == 1)=false:=beq_eq_false_iff_ne.mpr c5;have bb:(I != 1)=true:=bne_iff_ne.mpr c5;(first|rw[Y]|(simp only[i64_w,i32_w];rw[Y])|skip);have H':=ak H;clear H;go_wp2
   go_meet
   case rel=>exact⟨_,((I == 2)),FR,H',⟨by first|omega | exact Nat.le_refl _⟩,⟨PK J⟩,⟨PB⟩⟩
 case rest =>
  clear ap;(try clear p2);(try clear c5);(try clear Y);(try clear bb);(try clear aq);(try clear ar);(try clear au);(try clear av);(try clear aw);(try clear ax);(try clear ay);(try clear az);(try clear a9);(try clear ba);obtain⟨kq,ag,rfl,HA,ct,J,HB⟩:=hcut
  cases kq with
  | zero=>exact absurd HA.out (by simp[impl_IsResource.j0])
  | succ kj1 =>
   have H:=HA.out;clear HA;simp only[impl_IsResource.j0] at H
   by_cases c6:ag=true
   ·subst c6;rw[if_pos rfl] at H
    by_cases c7:(D.length:Int)≤6
    ·rw[if_pos c7] at H;have bp:decide ((D.length:Int)≤6)=true:=decide_eq_true c7;have br:decide (D.length≤6)=true:=decide_eq_true (by omega);clear c7;replace H:=Option.bind_eq_some_iff.mp H;obtain⟨bt,bo,H⟩:=H;(try dsimp only at H);have A8:=ak bo;clear bo
     by_cases c9:bt=true
     ·subst c9;rw[if_pos rfl] at H;obtain rfl:=Option.some.inj H;obtain⟨bv,bw,bx,_,_,bz,b0,b4,_,_⟩:=bc5 J;go_wp2_with (first|(go_at_call 70;(with_reducible refine(impl_allIn.calls kj1 _ _ D 0 255 true _ ?side1 ?side2 A8.out).mono ?_);(case side1=>exact CR (Kd.C_below al.out HB.out));(case side2=>exact am.out);rintro e w' ⟨rfl,⟨nd,rfl⟩⟩))
      go_ret
      exact⟨RT,PB⟩
     ·replace c9:=Bool.eq_false_iff.mpr c9;subst c9;rw[if_neg (show ¬(false=true) by decide)] at H;obtain rfl:=Option.some.inj H;obtain⟨b5,b6,b7,b8,_,b9,ca,cb,cd,_⟩:=bc5 J;go_wp2_with (first|(go_at_call 70;(with_reducible refine(impl_allIn.calls kj1 _ _ D 0 255 false _ ?side1 ?side2 A8.out).mono ?_);(case side1=>exact CR (Kd.C_below al.out HB.out));(case side2=>exact am.out);rintro e w' ⟨rfl,⟨nd,rfl⟩⟩))
      go_ret
      exact⟨RT,PB⟩
    ·rw[if_neg c7] at H;have bp:decide ((D.length:Int)≤6)=false:=decide_eq_false c7;have br:decide (D.length≤6)=false:=decide_eq_false (by omega);clear c7;obtain rfl:=Option.some.inj H;obtain⟨ce,cf,cg,_,_,ch,ci,cj,_,_⟩:=bc5 J;go_wp2
     go_ret
     exact⟨RT,PB⟩
   ·replace c6:=Bool.eq_false_iff.mpr c6;subst c6;rw[if_neg (show ¬(false=true) by decide)] at H
    by_cases ab:I=3
    ·rw[if_pos ab] at H;have bg:(I == 3)=true:=beq_iff_eq.mpr ab;have bh:(I != 3)=false:=bne_eq_false_iff_eq.mpr ab;clear ab
     by_cases Z:(D.length:Int)=0
     ·rw[if_pos Z] at H;have bi:((D.length:Int) == 0)=true:=beq_iff_eq.mpr Z;have bj:((D.length:Int) != 0)=false:=bne_eq_false_iff_eq.mpr Z;clear Z;replace H:=Option.bind_eq_some_iff.mp H;obtain⟨bu,bc,H⟩:=H;(try dsimp only at H);have cl:=ak bc;clear bc;obtain rfl:=Option.some.inj H;obtain⟨_,_,_,_,_,_,_,_,_,_⟩:=bc5 J;go_wp2_with (first|(go_at_call 89;(with_reducible refine(impl_IsAddress.calls L U X bu _ cl.out).mono ?_);rintro e cu ⟨rfl,hb⟩;replace J:=kf J hb;replace HB:=bs HB hb;clear hb))
      go_ret
      exact⟨RT,PB⟩
     ·rw[if_neg Z] at H;have bi:((D.length:Int) == 0)=false:=beq_eq_false_iff_ne.mpr Z;have bj:((D.length:Int) != 0)=true:=bne_iff_ne.mpr Z
      have cn:¬(D=[]):=fun h_=>Z (by rw[h_];rfl)
      obtain rfl:=Option.some.inj H;obtain⟨_,_,_,_,_,_,_,_,_,_⟩:=bc5 J;go_wp2
      go_ret
      exact⟨RT,PB⟩
    ·rw[if_neg ab] at H;have bg:(I == 3)=false:=beq_eq_false_iff_ne.mpr ab;have bh:(I != 3)=true:=bne_iff_ne.mpr ab
     by_cases ac:I=4
     ·rw[if_pos ac] at H;have bk:(I == 4)=true:=beq_iff_eq.mpr ac;have bl:(I != 4)=false:=bne_eq_false_iff_eq.mpr ac;clear ac
      by_cases aa:(D.length:Int)=0
      ·rw[if_pos aa] at H;have bm:((D.length:Int) == 0)=true:=beq_iff_eq.mpr aa;have bn:((D.length:Int) != 0)=false:=bne_eq_false_iff_eq.mpr aa;clear aa;obtain rfl:=Option.some.inj H;obtain⟨_,_,_,_,_,_,_,_,_,_⟩:=bc5 J;go_wp2
       go_ret
       exact⟨RT,PB⟩
      ·rw[if_neg aa] at H;have bm:((D.length:Int) == 0)=false:=beq_eq_false_iff_ne.mpr aa;have bn:((D.length:Int) != 0)=true:=bne_iff_ne.mpr aa
       have co:¬(D=[]):=fun h_=>aa (by rw[h_];rfl)
       obtain rfl:=Option.some.inj H;obtain⟨_,_,_,_,_,_,_,_,_,_⟩:=bc5 J;go_wp2
       go_ret
       exact⟨RT,PB⟩
     ·rw[if_neg ac] at H;have bk:(I == 4)=false:=beq_eq_false_iff_ne.mpr ac;have bl:(I != 4)=true:=bne_iff_ne.mpr ac;obtain rfl:=Option.some.inj H;go_wp2
      go_ret
      exact⟨RT,PB⟩

end Go.Proofs.Ythojdjnchhkafaa.MFnExactTraceVisit
