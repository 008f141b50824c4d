import Derived.Test.YtcbelifjkpbkfaaGreatShr2
import Derived.Test.YtcbelifjkpbkfaaGreatMFnCapturesx0
import Derived.Test.YtcbelifjkpbkfaaGreatMFnCapturesx7
import Derived.Test.YtcbelifjkpbkfaaGreatMFnCapturesx1
namespace Go.Proofs.YtcbelifjkpbkfaaGreat.MFnCaptures
open Go.RowKit Go.Proofs.YtcbelifjkpbkfaaGreatW.PrintWords Go.Proofs.YtcbelifjkpbkfaaGreatW.PrintLast Go.Proofs.YtcbelifjkpbkfaaGreatW.PrintMore
attribute [local go_sem] max2_int min2_int max_two min_two max_three min_three max_four min_four
set_option linter.unusedVariables false
set_option maxHeartbeats 8000000
set_option maxRecDepth 100000
set_option linter.unusedSimpArgs false

def impl_isOp.j0:Nat→Int→Bool→Int→Int→Int→Int→Option (Bool)
  | 0,_,_,_,_,_,_=>none
  | k+1,U,ag,ae,af,D,J=>if ag=true then(if D=0 then(some (J == 0)) else(some false)) else(if U=5 then((impl_at.f D 4).bind fun X=>(if X=true then((impl_at.f J 4).bind fun Y=>(some Y)) else(some false))) else(if U=6 then((impl_at.f D 4).bind fun Z=>(if Z=true then(some (J == 0)) else(some false))) else(if U=7 then((impl_InRange.f D 1 3).bind fun aa=>(if aa=true then(some (J == 0)) else(some false))) else(if U=8 then((impl_at.f D 3).bind fun ab=>(if ab=true then(some (J == 0)) else(some false))) else(if U=9 then((impl_at.f D 3).bind fun ac=>(if ac=true then(some (J == 0)) else(some false))) else(some false))))))
def impl_isOp.f (k:Nat)(D:Int)(J:Int)(U:Int)(X:Int):Option (Bool):=(impl_at.f J 4).bind fun Y=>(if Y=true then(if D=1 then((impl_InRange.f U 1 9).bind fun Z=>(if Z=true then((impl_InRange.f X 0 99).bind fun aa=>(some aa)) else(some false))) else(if D=2 then(impl_isOp.j0 k D (D == 2) D J U X) else(if D=3 then(impl_isOp.j0 k D (D == 3) D J U X) else(impl_isOp.j0 k D (D == 4) D J U X)))) else(some false))
theorem impl_isOp.calls (k:Nat)(D:Int)(X:Int)(J:Int)(Y:Int)(r:Bool)(w:World)(h:impl_isOp.f k D X J Y=some r) :
  Calls Tryz.prog 72 #[.agg #[.int .i64 D,.int .i64 X,.int .i64 J,.int .i64 Y]] w fun e w'=>e = .returned (.bool r)∧Below w.heap.size w w':=by
 have dv:=Tryz.underlying106;have HB:=ak (Below.refl w.heap.size w);have H:=h;clear h;unfold impl_isOp.f at H;replace H:=Option.bind_eq_some_iff.mp H;obtain⟨dg,cx,H⟩:=H;(try dsimp only at H);have A2:=ak cx;clear cx
 by_cases c3:dg=true
 ·subst c3;rw[if_pos rfl] at H
  by_cases c4:D=1
  ·rw[if_pos c4] at H;have bx:(D == 1)=true:=beq_iff_eq.mpr c4;have bz:(D != 1)=false:=bne_eq_false_iff_eq.mpr c4;clear c4;replace H:=Option.bind_eq_some_iff.mp H;obtain⟨dh,cy,H⟩:=H;(try dsimp only at H);have A5:=ak cy;clear cy
   by_cases c6:dh=true
   ·subst c6;rw[if_pos rfl] at H;replace H:=Option.bind_eq_some_iff.mp H;obtain⟨di,cz,H⟩:=H;(try dsimp only at H);have A7:=ak cz;clear cz;obtain rfl:=Option.some.inj H;go_enter Tryz.func72,Tryz.ntmps72;go_wp2_with (first|((with_reducible refine gate_dst (N:=1) rfl ?_);refine bx_ (N:=1) #[.int .i64 D,.int .i64 X,.int .i64 J,.int .i64 Y] 106 ?_;intro ae hg w8 hbox hb;have U:=ak hbox;have am:=gy hg HB;replace HB:=bs HB hb;clear hb hbox hg;obtain⟨b4,b5,b6,b7,b8,b9,ca,cb⟩:=bc4 U)|(go_at_call 86;(with_reducible refine(impl_at.calls X 4 true _ A2.out).mono ?_);rintro e w' ⟨rfl,⟨nd,rfl⟩⟩)|(go_at_call 28;(with_reducible refine(impl_InRange.calls J 1 9 true _ A5.out).mono ?_);rintro e w' ⟨rfl,⟨nd,rfl⟩⟩)|(go_at_call 28;(with_reducible refine(impl_InRange.calls Y 0 99 di _ A7.out).mono ?_);rintro e w' ⟨rfl,⟨nd,rfl⟩⟩))
    go_ret
    exact⟨RT,PB⟩
   ·replace c6:=Bool.eq_false_iff.mpr c6;subst c6;rw[if_neg (show ¬(false=true) by decide)] at H;obtain rfl:=Option.some.inj H;go_enter Tryz.func72,Tryz.ntmps72;go_wp2_with (first|((with_reducible refine gate_dst (N:=1) rfl ?_);refine bx_ (N:=1) #[.int .i64 D,.int .i64 X,.int .i64 J,.int .i64 Y] 106 ?_;intro ae hg dy hbox hb;have U:=ak hbox;have am:=gy hg HB;replace HB:=bs HB hb;clear hb hbox hg;obtain⟨bb,bc,bd,bf,bg,bh,bi,bj⟩:=bc4 U)|(go_at_call 86;(with_reducible refine(impl_at.calls X 4 true _ A2.out).mono ?_);rintro e w' ⟨rfl,⟨nd,rfl⟩⟩)|(go_at_call 28;(with_reducible refine(impl_InRange.calls J 1 9 false _ A5.out).mono ?_);rintro e w' ⟨rfl,⟨nd,rfl⟩⟩))
    go_ret
    exact⟨RT,PB⟩
  ·rw[if_neg c4] at H;have bx:(D == 1)=false:=beq_eq_false_iff_ne.mpr c4;have bz:(D != 1)=true:=bne_iff_ne.mpr c4;have ap:=ak H;clear H;go_enter Tryz.func72,Tryz.ntmps72
   go_upto_if 19 with (first|((with_reducible refine gate_dst (N:=1) rfl ?_);refine bx_ (N:=1) #[.int .i64 D,.int .i64 X,.int .i64 J,.int .i64 Y] 106 ?_;intro ae hg dz hbox hb;have U:=ak hbox;have am:=gy hg HB;replace HB:=bs HB hb;clear hb hbox hg;obtain⟨bk,bl,bm,bo,bp,br,bu,bv⟩:=bc4 U)|((with_reducible refine gate_callee (f:=86) rfl ?_);refine goesL_ (some 5) rfl rfl Tryz.func86 KR rfl #[.int .i64 X,.int .i64 4] rfl AR ?_;(with_reducible refine(impl_at.calls X 4 true _ A2.out).mono ?_);rintro e w' ⟨rfl,⟨nd,rfl⟩⟩;refine⟨_,rfl,?_⟩))
   (try simp only[Act.put,List.setIfInBounds_toArray,List.set_cons_zero,List.set_cons_succ])
   go_cut [19] (fun dt wc=>∃(kq:Nat)(aa:Bool),dt = .bool aa∧Aside0 (impl_isOp.j0 kq D aa D X J Y=some r)∧Aside0 (kq≤k)∧Aside0 (wc.heap[ae]?=some (.cells #[.int .i64 D,.int .i64 X,.int .i64 J,.int .i64 Y] 106 (0,0)))∧Aside0 (Below w.heap.size w wc))
   case first =>
    have H:=ap.out;clear ap
    by_cases ab:D=2
    ·rw[if_pos ab] at H;have Z:(D == 2)=true:=beq_iff_eq.mpr ab;have aq:(D != 2)=false:=bne_eq_false_iff_eq.mpr ab;clear ab;(first|rw[Z]|(simp only[i64_w,i32_w];rw[Z])|skip);have H':=ak H;clear H;go_wp2
     go_meet
     case rel=>exact⟨_,((D == 2)),FR,H',⟨by first|omega | exact Nat.le_refl _⟩,⟨PK U⟩,⟨PB⟩⟩
    ·rw[if_neg ab] at H;have Z:(D == 2)=false:=beq_eq_false_iff_ne.mpr ab;have aq:(D != 2)=true:=bne_iff_ne.mpr ab;(first|rw[Z]|(simp only[i64_w,i32_w];rw[Z])|skip)
     by_cases ac:D=3
     ·rw[if_pos ac] at H;have ar:(D == 3)=true:=beq_iff_eq.mpr ac;have au:(D != 3)=false:=bne_eq_false_iff_eq.mpr ac;clear ac;have H':=ak H;clear H;go_wp2
      go_meet
      case rel=>exact⟨_,((D == 3)),FR,H',⟨by first|omega | exact Nat.le_refl _⟩,⟨PK U⟩,⟨PB⟩⟩
     ·rw[if_neg ac] at H;have ar:(D == 3)=false:=beq_eq_false_iff_ne.mpr ac;have au:(D != 3)=true:=bne_iff_ne.mpr ac;have H':=ak H;clear H;go_wp2
      go_meet
      case rel=>exact⟨_,((D == 4)),FR,H',⟨by first|omega | exact Nat.le_refl _⟩,⟨PK U⟩,⟨PB⟩⟩
   case rest =>
    clear ap;(try clear c1);(try clear c2);(try clear p2);(try clear c3);(try clear c4);(try clear bx);(try clear bz);(try clear c6);(try clear c7);(try clear c8);(try clear ab);(try clear Z);(try clear aq);(try clear ac);(try clear ar);(try clear au);(try clear bb);(try clear bc);(try clear bd);(try clear bf);(try clear bk);(try clear bl);(try clear bm);(try clear bo);(try clear b4);(try clear b5);(try clear b6);(try clear b7);(try clear bg);(try clear bh);(try clear bi);(try clear bj);(try clear bp);(try clear br);(try clear bu);(try clear bv);(try clear b8);(try clear b9);(try clear ca);(try clear cb);obtain⟨kq,aa,rfl,HA,dx,U,HB⟩:=hcut
    cases kq with
    | zero=>exact absurd HA.out (by simp[impl_isOp.j0])
    | succ kj11 =>
     have H:=HA.out;clear HA;simp only[impl_isOp.j0] at H
     by_cases av:aa=true
     ·subst av;rw[if_pos rfl] at H
      by_cases af:J=0
      ·rw[if_pos af] at H;have ck:(J == 0)=true:=beq_iff_eq.mpr af;have cl:(J != 0)=false:=bne_eq_false_iff_eq.mpr af;clear af;obtain rfl:=Option.some.inj H;obtain⟨_,_,_,_,_,_,_,_⟩:=bc4 U;go_wp2
       go_ret
       exact⟨RT,PB⟩
      ·rw[if_neg af] at H;have ck:(J == 0)=false:=beq_eq_false_iff_ne.mpr af;have cl:(J != 0)=true:=bne_iff_ne.mpr af;obtain rfl:=Option.some.inj H;obtain⟨_,_,_,_,_,_,_,_⟩:=bc4 U;go_wp2
       go_ret
       exact⟨RT,PB⟩
     ·replace av:=Bool.eq_false_iff.mpr av;subst av;rw[if_neg (show ¬(false=true) by decide)] at H
      by_cases ag:D=5
      ·rw[if_pos ag] at H;have cm:(D == 5)=true:=beq_iff_eq.mpr ag;have cn:(D != 5)=false:=bne_eq_false_iff_eq.mpr ag;clear ag;replace H:=Option.bind_eq_some_iff.mp H;obtain⟨dj,cd,H⟩:=H;(try dsimp only at H);have da:=ak cd;clear cd
       by_cases aw:dj=true
       ·subst aw;rw[if_pos rfl] at H;replace H:=Option.bind_eq_some_iff.mp H;obtain⟨dk,ce,H⟩:=H;(try dsimp only at H);have du:=ak ce;clear ce;obtain rfl:=Option.some.inj H;obtain⟨_,_,_,_,_,_,_,_⟩:=bc4 U;go_wp2_with (first|(go_at_call 86;(with_reducible refine(impl_at.calls J 4 true _ da.out).mono ?_);rintro e w' ⟨rfl,⟨nd,rfl⟩⟩)|(go_at_call 86;(with_reducible refine(impl_at.calls Y 4 dk _ du.out).mono ?_);rintro e w' ⟨rfl,⟨nd,rfl⟩⟩))
        go_ret
        exact⟨RT,PB⟩
       ·replace aw:=Bool.eq_false_iff.mpr aw;subst aw;rw[if_neg (show ¬(false=true) by decide)] at H;obtain rfl:=Option.some.inj H;obtain⟨_,_,_,_,_,_,_,_⟩:=bc4 U;go_wp2_with (first|(go_at_call 86;(with_reducible refine(impl_at.calls J 4 false _ da.out).mono ?_);rintro e w' ⟨rfl,⟨nd,rfl⟩⟩))
        go_ret
        exact⟨RT,PB⟩
      ·rw[if_neg ag] at H;have cm:(D == 5)=false:=beq_eq_false_iff_ne.mpr ag;have cn:(D != 5)=true:=bne_iff_ne.mpr ag
       by_cases ah:D=6
       ·rw[if_pos ah] at H;have co:(D == 6)=true:=beq_iff_eq.mpr ah;have cp:(D != 6)=false:=bne_eq_false_iff_eq.mpr ah;clear ah;replace H:=Option.bind_eq_some_iff.mp H;obtain⟨dl,cf,H⟩:=H;(try dsimp only at H);have db:=ak cf;clear cf
        by_cases ax:dl=true
        ·subst ax;rw[if_pos rfl] at H;obtain rfl:=Option.some.inj H;obtain⟨_,_,_,_,_,_,_,_⟩:=bc4 U;go_wp2_with (first|(go_at_call 86;(with_reducible refine(impl_at.calls J 4 true _ db.out).mono ?_);rintro e w' ⟨rfl,⟨nd,rfl⟩⟩))
         go_ret
         exact⟨RT,PB⟩
        ·replace ax:=Bool.eq_false_iff.mpr ax;subst ax;rw[if_neg (show ¬(false=true) by decide)] at H;obtain rfl:=Option.some.inj H;obtain⟨_,_,_,_,_,_,_,_⟩:=bc4 U;go_wp2_with (first|(go_at_call 86;(with_reducible refine(impl_at.calls J 4 false _ db.out).mono ?_);rintro e w' ⟨rfl,⟨nd,rfl⟩⟩))
         go_ret
         exact⟨RT,PB⟩
       ·rw[if_neg ah] at H;have co:(D == 6)=false:=beq_eq_false_iff_ne.mpr ah;have cp:(D != 6)=true:=bne_iff_ne.mpr ah
        by_cases ai:D=7
        ·rw[if_pos ai] at H;have cq:(D == 7)=true:=beq_iff_eq.mpr ai;have cr:(D != 7)=false:=bne_eq_false_iff_eq.mpr ai;clear ai;replace H:=Option.bind_eq_some_iff.mp H;obtain⟨dn,cg,H⟩:=H;(try dsimp only at H);have dc:=ak cg;clear cg
         by_cases ay:dn=true
         ·subst ay;rw[if_pos rfl] at H;obtain rfl:=Option.some.inj H;obtain⟨_,_,_,_,_,_,_,_⟩:=bc4 U;go_wp2_with (first|(go_at_call 28;(with_reducible refine(impl_InRange.calls J 1 3 true _ dc.out).mono ?_);rintro e w' ⟨rfl,⟨nd,rfl⟩⟩))
          go_ret
          exact⟨RT,PB⟩
         ·replace ay:=Bool.eq_false_iff.mpr ay;subst ay;rw[if_neg (show ¬(false=true) by decide)] at H;obtain rfl:=Option.some.inj H;obtain⟨_,_,_,_,_,_,_,_⟩:=bc4 U;go_wp2_with (first|(go_at_call 28;(with_reducible refine(impl_InRange.calls J 1 3 false _ dc.out).mono ?_);rintro e w' ⟨rfl,⟨nd,rfl⟩⟩))
          go_ret
          exact⟨RT,PB⟩
        ·rw[if_neg ai] at H;have cq:(D == 7)=false:=beq_eq_false_iff_ne.mpr ai;have cr:(D != 7)=true:=bne_iff_ne.mpr ai
         by_cases aj:D=8
         ·rw[if_pos aj] at H;have ct:(D == 8)=true:=beq_iff_eq.mpr aj;have cu:(D != 8)=false:=bne_eq_false_iff_eq.mpr aj;clear aj;replace H:=Option.bind_eq_some_iff.mp H;obtain⟨dp,ch,H⟩:=H;(try dsimp only at H);have de:=ak ch;clear ch
          by_cases az:dp=true
          ·subst az;rw[if_pos rfl] at H;obtain rfl:=Option.some.inj H;obtain⟨_,_,_,_,_,_,_,_⟩:=bc4 U;go_wp2_with (first|(go_at_call 86;(with_reducible refine(impl_at.calls J 3 true _ de.out).mono ?_);rintro e w' ⟨rfl,⟨nd,rfl⟩⟩))
           go_ret
           exact⟨RT,PB⟩
          ·replace az:=Bool.eq_false_iff.mpr az;subst az;rw[if_neg (show ¬(false=true) by decide)] at H;obtain rfl:=Option.some.inj H;obtain⟨_,_,_,_,_,_,_,_⟩:=bc4 U;go_wp2_with (first|(go_at_call 86;(with_reducible refine(impl_at.calls J 3 false _ de.out).mono ?_);rintro e w' ⟨rfl,⟨nd,rfl⟩⟩))
           go_ret
           exact⟨RT,PB⟩
         ·rw[if_neg aj] at H;have ct:(D == 8)=false:=beq_eq_false_iff_ne.mpr aj;have cu:(D != 8)=true:=bne_iff_ne.mpr aj
          by_cases al:D=9
          ·rw[if_pos al] at H;have cv:(D == 9)=true:=beq_iff_eq.mpr al;have cw:(D != 9)=false:=bne_eq_false_iff_eq.mpr al;clear al;replace H:=Option.bind_eq_some_iff.mp H;obtain⟨dq,ci,H⟩:=H;(try dsimp only at H);have df:=ak ci;clear ci
           by_cases ba:dq=true
           ·subst ba;rw[if_pos rfl] at H;obtain rfl:=Option.some.inj H;obtain⟨_,_,_,_,_,_,_,_⟩:=bc4 U;go_wp2_with (first|(go_at_call 86;(with_reducible refine(impl_at.calls J 3 true _ df.out).mono ?_);rintro e w' ⟨rfl,⟨nd,rfl⟩⟩))
            go_ret
            exact⟨RT,PB⟩
           ·replace ba:=Bool.eq_false_iff.mpr ba;subst ba;rw[if_neg (show ¬(false=true) by decide)] at H;obtain rfl:=Option.some.inj H;obtain⟨_,_,_,_,_,_,_,_⟩:=bc4 U;go_wp2_with (first|(go_at_call 86;(with_reducible refine(impl_at.calls J 3 false _ df.out).mono ?_);rintro e w' ⟨rfl,⟨nd,rfl⟩⟩))
            go_ret
            exact⟨RT,PB⟩
          ·rw[if_neg al] at H;have cv:(D == 9)=false:=beq_eq_false_iff_ne.mpr al;have cw:(D != 9)=true:=bne_iff_ne.mpr al;obtain rfl:=Option.some.inj H;go_wp2
           go_ret
           exact⟨RT,PB⟩
 ·replace c3:=Bool.eq_false_iff.mpr c3;subst c3;rw[if_neg (show ¬(false=true) by decide)] at H;obtain rfl:=Option.some.inj H;go_enter Tryz.func72,Tryz.ntmps72;go_wp2_with (first|((with_reducible refine gate_dst (N:=1) rfl ?_);refine bx_ (N:=1) #[.int .i64 D,.int .i64 X,.int .i64 J,.int .i64 Y] 106 ?_;intro ae hg d7 hbox hb;have U:=ak hbox;have am:=gy hg HB;replace HB:=bs HB hb;clear hb hbox hg;obtain⟨_,_,_,_,_,_,_,_⟩:=bc4 U)|(go_at_call 86;(with_reducible refine(impl_at.calls X 4 false _ A2.out).mono ?_);rintro e w' ⟨rfl,⟨nd,rfl⟩⟩))
  go_ret
  exact⟨RT,PB⟩
def impl_IsScript_lit1.f (k:Nat)(D:Int)(J:Int)(U:Int)(X:Int):Option (Bool):=(impl_isOp.f k D J U X).bind fun Y=>(some (!Y))
theorem impl_IsScript_lit1.calls (k:Nat)(D:Int)(J:Int)(U:Int)(X:Int)(r:Bool)(w:World)(h:impl_IsScript_lit1.f k D J U X=some r) :
  Calls Tryz.prog 71 #[.agg #[.int .i64 D,.int .i64 J,.int .i64 U,.int .i64 X]] w fun e w'=>e = .returned (.bool r)∧Below w.heap.size w w':=by
 have al:=Tryz.underlying106;have HB:=ak (Below.refl w.heap.size w);have H:=h;clear h;unfold impl_IsScript_lit1.f at H;replace H:=Option.bind_eq_some_iff.mp H;obtain⟨aa,Z,H⟩:=H;(try dsimp only at H);have A2:=ak Z;clear Z;obtain rfl:=Option.some.inj H;go_enter Tryz.func71,Tryz.ntmps71;go_wp2_with (first|((with_reducible refine gate_dst (N:=1) rfl ?_);refine bx_ (N:=1) #[.int .i64 D,.int .i64 J,.int .i64 U,.int .i64 X] 106 ?_;intro am hg w3 hbox hb;have Y:=ak hbox;have ao:=gy hg HB;replace HB:=bs HB hb;clear hb hbox hg;obtain⟨ab,ac,ae,af,ag,ah,ai,aj⟩:=bc4 Y)|(go_at_call 72;(with_reducible refine(impl_isOp.calls k D J U X aa _ A2.out).mono ?_);rintro e w5 ⟨rfl,hb⟩;replace Y:=kf Y hb;replace HB:=bs HB hb;clear hb))
 go_ret
 exact⟨RT,PB⟩
def slices_IndexFunc_71.l0:Nat→List (S106)→Int→Int→Option (Int)
  | 0,_,_,_=>none
  | k+1,J,X,D=>if D < X then(if 0≤D then(if D < (J.length:Int) then((impl_IsScript_lit1.f k ((rd_T106 J D).f0) ((rd_T106 J D).f1) ((rd_T106 J D).f2) ((rd_T106 J D).f3)).bind fun U=>(if U=true then(some D) else(slices_IndexFunc_71.l0 k J X (wrap64 (D+1))))) else(none)) else(none)) else(some (-1))
def slices_IndexFunc_71.f (k:Nat)(D:List (S106))(J:Int):Option (Int):=slices_IndexFunc_71.l0 k D (D.length:Int) 0
theorem slices_IndexFunc_71.calls (k:Nat)(A0:Option Addr)(c0:Nat)(J:List (S106))(a1:Int)(r:Int)(w:World)(aj:Kd.C k106 w A0 J.length J)(al:J.length≤c0)(h:slices_IndexFunc_71.f k J a1=some r) :
  Calls Tryz.prog 85 #[.slice A0 J.length c0,.func (.func 71) #[] #[]] w fun e w'=>e = .returned (.int .i64 r)∧Below w.heap.size w w':=by
 have ax:=Tryz.underlying106;have am:=ak aj;have bc:=ak al;clear aj al;have HB:=ak (Below.refl w.heap.size w);have H:=h;clear h;unfold slices_IndexFunc_71.f at H;have H':=ak H;clear H;go_enter Tryz.func85,Tryz.ntmps85;go_wp2
 go_loopg [8] k (fun kq v8 w'=>∃(D:Int),v8 = .int .i64 D∧Aside0 (slices_IndexFunc_71.l0 kq J (J.length:Int) D=some r)∧Aside0 (kq≤k)∧Aside0 (Below w.heap.size w w'))
 case atStart=>exact⟨(0),FR,H',⟨Nat.le_refl _⟩,⟨PB⟩⟩
 case round =>
  clear H'
  try clear p2
  obtain⟨D,rfl,HA,ao,HB⟩:=hrel
  cases gk with
  | zero=>exact absurd HA.out (by simp[slices_IndexFunc_71.l0])
  | succ k1 =>
   have H:=HA.out;clear HA;simp only[slices_IndexFunc_71.l0] at H
   by_cases c3:D < (J.length:Int)
   ·rw[if_pos c3] at H;have aq:decide (D < (J.length:Int))=true:=decide_eq_true c3;clear c3
    by_cases c4:0≤D
    ·rw[if_pos c4] at H;have ba:decide (0≤D)=true:=decide_eq_true c4;clear c4
     by_cases c5:D < (J.length:Int)
     ·rw[if_pos c5] at H;have bb:decide (D < (J.length:Int))=true:=decide_eq_true c5;clear c5;replace H:=Option.bind_eq_some_iff.mp H;obtain⟨ar,ap,H⟩:=H;(try dsimp only at H);have A6:=ak ap;clear ap
      by_cases c7:ar=true
      ·subst c7;rw[if_pos rfl] at H;obtain rfl:=Option.some.inj H;have aa:0≤(D:Int):=od;have ab:D < (J.length:Int):=od;obtain⟨ai,ac,U,X,Y,Z⟩:=at_T106 am.out D aa ab;cases ac;replace U:=hx_ HB U;replace X:=hx_ HB X;replace Y:=hx_ HB Y;replace Z:=hx_ HB Z;replace aa:=eq_true aa;replace ab:=eq_true ab;go_wp2_with (first|((with_reducible refine gate_calleeV (n:=11) rfl ?_);refine goesLV_ (some 16) rfl rfl Tryz.func71 KR rfl #[.agg #[.int .i64 ((rd_T106 J D).f0),.int .i64 ((rd_T106 J D).f1),.int .i64 ((rd_T106 J D).f2),.int .i64 ((rd_T106 J D).f3)]] rfl AR ?_;(with_reducible refine(impl_IsScript_lit1.calls k1 ((rd_T106 J D).f0) ((rd_T106 J D).f1) ((rd_T106 J D).f2) ((rd_T106 J D).f3) true _ A6.out).mono ?_);rintro e w8 ⟨rfl,hb⟩;refine⟨_,rfl,?_⟩;replace HB:=bs HB hb;clear hb))
       go_ret
       exact⟨RT,PB⟩
      ·replace c7:=Bool.eq_false_iff.mpr c7;subst c7;rw[if_neg (show ¬(false=true) by decide)] at H;have H':=ak H;clear H;have aa:0≤(D:Int):=od;have ab:D < (J.length:Int):=od;obtain⟨ai,ac,U,X,Y,Z⟩:=at_T106 am.out D aa ab;cases ac;replace U:=hx_ HB U;replace X:=hx_ HB X;replace Y:=hx_ HB Y;replace Z:=hx_ HB Z;replace aa:=eq_true aa;replace ab:=eq_true ab;go_wp2_with (first|((with_reducible refine gate_calleeV (n:=11) rfl ?_);refine goesLV_ (some 16) rfl rfl Tryz.func71 KR rfl #[.agg #[.int .i64 ((rd_T106 J D).f0),.int .i64 ((rd_T106 J D).f1),.int .i64 ((rd_T106 J D).f2),.int .i64 ((rd_T106 J D).f3)]] rfl AR ?_;(with_reducible refine(impl_IsScript_lit1.calls k1 ((rd_T106 J D).f0) ((rd_T106 J D).f1) ((rd_T106 J D).f2) ((rd_T106 J D).f3) false _ A6.out).mono ?_);rintro e w9 ⟨rfl,hb⟩;refine⟨_,rfl,?_⟩;replace HB:=bs HB hb;clear hb))
       go_roundg k1
       case measure=>have:=ao.out;omega
       case rel=>exact⟨(wrap64 (D+1)),FR,H',⟨by have:=ao.out;omega⟩,⟨PB⟩⟩
     ·rw[if_neg c5] at H;exact absurd H (by simp)
    ·rw[if_neg c4] at H;exact absurd H (by simp)
   ·rw[if_neg c3] at H;have aq:decide (D < (J.length:Int))=false:=decide_eq_false c3;clear c3;obtain rfl:=Option.some.inj H;go_wp2
    go_ret
    exact⟨RT,PB⟩
def slices_ContainsFunc_71.f (k:Nat)(J:List (S106))(U:Int):Option (Bool):=(slices_IndexFunc_71.f k J U).bind fun D=>(some (decide (D≥0)))
theorem slices_ContainsFunc_71.calls (k:Nat)(Y:Option Addr)(Z:Nat)(D:List (S106))(a1:Int)(r:Bool)(w:World)(J:Kd.C k106 w Y D.length D)(U:D.length≤Z)(h:slices_ContainsFunc_71.f k D a1=some r) :
  Calls Tryz.prog 70 #[.slice Y D.length Z,.func (.func 71) #[] #[]] w fun e w'=>e = .returned (.bool r)∧Below w.heap.size w w':=by
 have ac:=ak J;have ae:=ak U;clear J U;have HB:=ak (Below.refl w.heap.size w);have H:=h;clear h;unfold slices_ContainsFunc_71.f at H;replace H:=Option.bind_eq_some_iff.mp H;obtain⟨aa,X,H⟩:=H;(try dsimp only at H);have A3:=ak X;clear X;obtain rfl:=Option.some.inj H;go_enter Tryz.func70,Tryz.ntmps70;go_wp2_with (first|(go_at_call 85;(with_reducible refine(slices_IndexFunc_71.calls k _ _ D a1 aa _ ?side1 ae.out A3.out).mono ?_);(case side1=>exact CR (ac.out));rintro e w4 ⟨rfl,hb⟩;replace HB:=bs HB hb;clear hb))
 go_ret
 exact⟨RT,PB⟩
def impl_IsScript.f (k:Nat)(J:List (S106)):Option (Bool):=if (J.length:Int)≤16 then((slices_ContainsFunc_71.f k J 90000071).bind fun D=>(some (!D))) else(some false)
theorem impl_IsScript.calls (k:Nat)(A0:Option Addr)(c0:Nat)(D:List (S106))(r:Bool)(w:World)(U:Kd.C k106 w A0 D.length D)(X:D.length≤c0)(h:impl_IsScript.f k D=some r) :
  Calls Tryz.prog 44 #[.slice A0 D.length c0] w fun e w'=>e = .returned (.bool r)∧Below w.heap.size w w':=by
 have af:=ak U;have ag:=ak X;clear U X;have HB:=ak (Below.refl w.heap.size w);have H:=h;clear h;unfold impl_IsScript.f at H
 by_cases J:(D.length:Int)≤16
 ·rw[if_pos J] at H;have Z:decide ((D.length:Int)≤16)=true:=decide_eq_true J;have aa:decide (D.length≤16)=true:=decide_eq_true (by omega);clear J;replace H:=Option.bind_eq_some_iff.mp H;obtain⟨ab,Y,H⟩:=H;(try dsimp only at H);have A3:=ak Y;clear Y;obtain rfl:=Option.some.inj H;go_enter Tryz.func44,Tryz.ntmps44;go_wp2_with (first|(go_at_call 70;(with_reducible refine(slices_ContainsFunc_71.calls k _ _ D 90000071 ab _ ?side1 ag.out A3.out).mono ?_);(case side1=>exact CR (af.out));rintro e w4 ⟨rfl,hb⟩;replace HB:=bs HB hb;clear hb))
  go_ret
  exact⟨RT,PB⟩
 ·rw[if_neg J] at H;have Z:decide ((D.length:Int)≤16)=false:=decide_eq_false J;have aa:decide (D.length≤16)=false:=decide_eq_false (by omega);clear J;obtain rfl:=Option.some.inj H;go_enter Tryz.func44,Tryz.ntmps44;go_wp2
  go_ret
  exact⟨RT,PB⟩
def impl_allIn.l0:Nat→Int→Int→List Int→Int→Int→Option (Bool)
  | 0,_,_,_,_,_=>none
  | k+1,Y,Z,U,J,D=>if D < J then(if 0≤D then(if D < (U.length:Int) then((impl_InRange.f (rd U D) Y Z).bind fun X=>(if X=true then(impl_allIn.l0 k Y Z U J (wrap64 (D+1))) else(some false))) else(none)) else(none)) else(some true)
def impl_allIn.f (k:Nat)(D:List Int)(J:Int)(U:Int):Option (Bool):=impl_allIn.l0 k J U D (D.length:Int) 0
theorem impl_allIn.calls (k:Nat)(A0:Option Addr)(c0:Nat)(J:List Int)(Y:Int)(Z:Int)(r:Bool)(w:World)(ai:Kd.C (Kd.int .i64) w A0 J.length J)(aj:J.length≤c0)(h:impl_allIn.f k J Y Z=some r) :
  Calls Tryz.prog 51 #[.slice A0 J.length c0,.int .i64 Y,.int .i64 Z] w fun e w'=>e = .returned (.bool r)∧Drawn0 w w':=by
 have al:=ak ai;have az:=ak aj;clear ai aj;have H:=h;clear h;unfold impl_allIn.f at H;have H':=ak H;clear H;go_enter Tryz.func51,Tryz.ntmps51;go_wp2
 go_loopg [11] k (fun kq av w'=>∃(D:Int),av = .int .i64 D∧Aside0 (impl_allIn.l0 kq Y Z J (J.length:Int) D=some r)∧Aside0 (kq≤k)∧Drawn0 w w')
 case atStart=>exact⟨(0),FR,H',⟨Nat.le_refl _⟩,by repeat(first|exact Drawn0.refl _ | apply Drawn0.step)⟩
 case round =>
  clear H'
  try clear p2
  obtain⟨D,rfl,HA,am,⟨m1,rfl⟩⟩:=hrel
  cases gk with
  | zero=>exact absurd HA.out (by simp[impl_allIn.l0])
  | succ k1 =>
   have H:=HA.out;clear HA;simp only[impl_allIn.l0] at H
   by_cases c4:D < (J.length:Int)
   ·rw[if_pos c4] at H;have ap:decide (D < (J.length:Int))=true:=decide_eq_true c4;clear c4
    by_cases c5:0≤D
    ·rw[if_pos c5] at H;have ax:decide (0≤D)=true:=decide_eq_true c5;clear c5
     by_cases c6:D < (J.length:Int)
     ·rw[if_pos c6] at H;have ay:decide (D < (J.length:Int))=true:=decide_eq_true c6;clear c6;replace H:=Option.bind_eq_some_iff.mp H;obtain⟨aq,ao,H⟩:=H;(try dsimp only at H);have A7:=ak ao;clear ao
      by_cases c8:aq=true
      ·subst c8;rw[if_pos rfl] at H;have H':=ak H;clear H;have U:0≤(D:Int):=od;have X:D < (J.length:Int):=od;obtain⟨ah,aa,ac⟩:=Kd.at_int al.out D U X;cases aa;replace U:=eq_true U;replace X:=eq_true X;go_wp2_with (first|(go_at_call 28;(with_reducible refine(impl_InRange.calls (rd J D) Y Z true _ A7.out).mono ?_);rintro e w' ⟨rfl,⟨nd,rfl⟩⟩))
       go_roundg k1
       case measure=>have:=am.out;omega
       case rel=>exact⟨(wrap64 (D+1)),FR,H',⟨by have:=am.out;omega⟩,by repeat(first|exact Drawn0.refl _ | apply Drawn0.step)⟩
      ·replace c8:=Bool.eq_false_iff.mpr c8;subst c8;rw[if_neg (show ¬(false=true) by decide)] at H;obtain rfl:=Option.some.inj H;have U:0≤(D:Int):=od;have X:D < (J.length:Int):=od;obtain⟨ah,aa,ac⟩:=Kd.at_int al.out D U X;cases aa;replace U:=eq_true U;replace X:=eq_true X;go_wp2_with (first|(go_at_call 28;(with_reducible refine(impl_InRange.calls (rd J D) Y Z false _ A7.out).mono ?_);rintro e w' ⟨rfl,⟨nd,rfl⟩⟩))
       go_ret
       exact⟨FR,by repeat(first|exact Drawn0.refl _ | apply Drawn0.step)⟩
     ·rw[if_neg c6] at H;exact absurd H (by simp)
    ·rw[if_neg c5] at H;exact absurd H (by simp)
   ·rw[if_neg c4] at H;have ap:decide (D < (J.length:Int))=false:=decide_eq_false c4;clear c4;obtain rfl:=Option.some.inj H;go_wp2
    go_ret
    exact⟨FR,by repeat(first|exact Drawn0.refl _ | apply Drawn0.step)⟩
def impl_IsAddress.f (D:Int)(J:Int)(U:Int):Option (Bool):=(impl_InRange.f D 1 9).bind fun X=>(if X=true then((impl_InRange.f J 0 99).bind fun Y=>(if Y=true then((impl_InRange.f U 0 99).bind fun Z=>(some Z)) else(some false))) else(some false))
theorem impl_IsAddress.calls (D:Int)(J:Int)(X:Int)(r:Bool)(w:World)(h:impl_IsAddress.f D J X=some r) :
  Calls Tryz.prog 27 #[.agg #[.int .i64 D,.int .i64 J,.int .i64 X]] w fun e w'=>e = .returned (.bool r)∧Below w.heap.size w w':=by
 have bb:=Tryz.underlying39;have HB:=ak (Below.refl w.heap.size w);have H:=h;clear h;unfold impl_IsAddress.f at H;replace H:=Option.bind_eq_some_iff.mp H;obtain⟨ag,ac,H⟩:=H;(try dsimp only at H);have A2:=ak ac;clear ac
 by_cases c3:ag=true
 ·subst c3;rw[if_pos rfl] at H;replace H:=Option.bind_eq_some_iff.mp H;obtain⟨ai,ae,H⟩:=H;(try dsimp only at H);have A4:=ak ae;clear ae
  by_cases c5:ai=true
  ·subst c5;rw[if_pos rfl] at H;replace H:=Option.bind_eq_some_iff.mp H;obtain⟨aj,af,H⟩:=H;(try dsimp only at H);have A6:=ak af;clear af;obtain rfl:=Option.some.inj H;go_enter Tryz.func27,Tryz.ntmps27;go_wp2_with (first|((with_reducible refine gate_dst (N:=1) rfl ?_);refine bx_ (N:=1) #[.int .i64 D,.int .i64 J,.int .i64 X] 39 ?_;intro Y hg w7 hbox hb;have U:=ak hbox;have Z:=gy hg HB;replace HB:=bs HB hb;clear hb hbox hg;obtain⟨_,_,_,_,_,_⟩:=bc3 U)|(go_at_call 28;(with_reducible refine(impl_InRange.calls D 1 9 true _ A2.out).mono ?_);rintro e w' ⟨rfl,⟨nd,rfl⟩⟩)|(go_at_call 28;(with_reducible refine(impl_InRange.calls J 0 99 true _ A4.out).mono ?_);rintro e w' ⟨rfl,⟨nd,rfl⟩⟩)|(go_at_call 28;(with_reducible refine(impl_InRange.calls X 0 99 aj _ A6.out).mono ?_);rintro e w' ⟨rfl,⟨nd,rfl⟩⟩))
   go_ret
   exact⟨RT,PB⟩
  ·replace c5:=Bool.eq_false_iff.mpr c5;subst c5;rw[if_neg (show ¬(false=true) by decide)] at H;obtain rfl:=Option.some.inj H;go_enter Tryz.func27,Tryz.ntmps27;go_wp2_with (first|((with_reducible refine gate_dst (N:=1) rfl ?_);refine bx_ (N:=1) #[.int .i64 D,.int .i64 J,.int .i64 X] 39 ?_;intro Y hg w9 hbox hb;have U:=ak hbox;have Z:=gy hg HB;replace HB:=bs HB hb;clear hb hbox hg;obtain⟨al,am,ao,ap,aq,ar⟩:=bc3 U)|(go_at_call 28;(with_reducible refine(impl_InRange.calls D 1 9 true _ A2.out).mono ?_);rintro e w' ⟨rfl,⟨nd,rfl⟩⟩)|(go_at_call 28;(with_reducible refine(impl_InRange.calls J 0 99 false _ A4.out).mono ?_);rintro e w' ⟨rfl,⟨nd,rfl⟩⟩))
   go_ret
   exact⟨RT,PB⟩
 ·replace c3:=Bool.eq_false_iff.mpr c3;subst c3;rw[if_neg (show ¬(false=true) by decide)] at H;obtain rfl:=Option.some.inj H;go_enter Tryz.func27,Tryz.ntmps27;go_wp2_with (first|((with_reducible refine gate_dst (N:=1) rfl ?_);refine bx_ (N:=1) #[.int .i64 D,.int .i64 J,.int .i64 X] 39 ?_;intro Y hg bd hbox hb;have U:=ak hbox;have Z:=gy hg HB;replace HB:=bs HB hb;clear hb hbox hg;obtain⟨au,av,aw,ax,ay,az⟩:=bc3 U)|(go_at_call 28;(with_reducible refine(impl_InRange.calls D 1 9 false _ A2.out).mono ?_);rintro e w' ⟨rfl,⟨nd,rfl⟩⟩))
  go_ret
  exact⟨RT,PB⟩
attribute [local go_sem high] eqA39
def impl_IsResource.j0:Nat→Int→Bool→Int→List Int→Int→Int→Int→Option (Bool)
  | 0,_,_,_,_,_,_,_=>none
  | k+1,x4,x5,aa,D,J,U,X=>if x5=true then(if (D.length:Int)≤6 then((impl_allIn.f k D 0 255).bind fun Y=>(if Y=true then(some (J == 0 && (U == 0 && (X == 0)))) else(some false))) else(some false)) else(if x4=3 then(if (D.length:Int)=0 then((impl_IsAddress.f J U X).bind fun Z=>(some Z)) else(some false)) else(if x4=4 then(if (D.length:Int)=0 then(some (J == 0 && (U == 0 && (X == 0)))) else(some false)) else(some false)))
def impl_IsResource.f (k:Nat)(D:Int)(J:List Int)(U:Int)(X:Int)(Y:Int):Option (Bool):=if D=1 then(impl_IsResource.j0 k D (D == 1) D J U X Y) else(impl_IsResource.j0 k D (D == 2) D J U X Y)
theorem impl_IsResource.calls (k:Nat)(J:Int)(ag:Option Addr)(ah:Nat)(D:List Int)(X:Int)(Y:Int)(Z:Int)(r:Bool)(w:World)(al:Kd.C (Kd.int .i64) w ag D.length D)(am:D.length≤ah)(h:impl_IsResource.f k J D X Y Z=some r) :
  Calls Tryz.prog 22 #[.agg #[.int .i64 J,.slice ag D.length ah,.int .i64 X,.int .i64 Y,.int .i64 Z]] w fun e w'=>e = .returned (.bool r)∧Below w.heap.size w w':=by
 have cw:=Tryz.underlying43;have cx:=Tryz.underlying39;have ao:=ak al;have ap:=ak am;clear al am;have HB:=ak (Below.refl w.heap.size w);have H:=h;clear h;unfold impl_IsResource.f at H;have ar:=ak H;clear H;go_enter Tryz.func22,Tryz.ntmps22
 go_upto_if 5 with (first|((with_reducible refine gate_dst (N:=1) rfl ?_);refine bx_ (N:=1) #[.int .i64 J,.slice ag D.length ah,.int .i64 X,.int .i64 Y,.int .i64 Z] 43 ?_;intro bh hg w3 hbox hb;have U:=ak hbox;have ct:=gy hg HB;replace HB:=bs HB hb;clear hb hbox hg;obtain⟨au,av,aw,ax,ay,az,ba,bb,bc,bd⟩:=bc5 U))
 (try simp only[Act.put,List.setIfInBounds_toArray,List.set_cons_zero,List.set_cons_succ])
 go_cut [5] (fun v5 wc=>∃(kq:Nat)(ai:Bool),v5 = .bool ai∧Aside0 (impl_IsResource.j0 kq J ai J D X Y Z=some r)∧Aside0 (kq≤k)∧Aside0 (wc.heap[bh]?=some (.cells #[.int .i64 J,(.slice ag D.length ah),.int .i64 X,.int .i64 Y,.int .i64 Z] 43 (0,0)))∧Aside0 (Below w.heap.size w wc))
 case first =>
  have H:=ar.out;clear ar
  by_cases c5:J=1
  ·rw[if_pos c5] at H;have aa:(J == 1)=true:=beq_iff_eq.mpr c5;have bf:(J != 1)=false:=bne_eq_false_iff_eq.mpr c5;clear c5;(first|rw[aa]|(simp only[i64_w,i32_w];rw[aa])|skip);have H':=ak H;clear H;go_wp2
   go_meet
   case rel=>exact⟨_,((J == 1)),FR,H',⟨by first|omega | exact Nat.le_refl _⟩,⟨PK U⟩,⟨PB⟩⟩
  ·rw[if_neg c5] at H;have aa:(J == 1)=false:=beq_eq_false_iff_ne.mpr c5;have bf:(J != 1)=true:=bne_iff_ne.mpr c5;(first|rw[aa]|(simp only[i64_w,i32_w];rw[aa])|skip);have H':=ak H;clear H;go_wp2
   go_meet
   case rel=>exact⟨_,((J == 2)),FR,H',⟨by first|omega | exact Nat.le_refl _⟩,⟨PK U⟩,⟨PB⟩⟩
 case rest =>
  clear ar;(try clear c2);(try clear p2);(try clear c5);(try clear aa);(try clear bf);(try clear au);(try clear av);(try clear aw);(try clear ax);(try clear ay);(try clear az);(try clear ba);(try clear bb);(try clear bc);(try clear bd);obtain⟨kq,ai,rfl,HA,cz,U,HB⟩:=hcut
  cases kq with
  | zero=>exact absurd HA.out (by simp[impl_IsResource.j0])
  | succ kj1 =>
   have H:=HA.out;clear HA;simp only[impl_IsResource.j0] at H
   by_cases c6:ai=true
   ·subst c6;rw[if_pos rfl] at H
    by_cases c7:(D.length:Int)≤6
    ·rw[if_pos c7] at H;have bx:decide ((D.length:Int)≤6)=true:=decide_eq_true c7;have bz:decide (D.length≤6)=true:=decide_eq_true (by omega);clear c7;replace H:=Option.bind_eq_some_iff.mp H;obtain⟨b0,bw,H⟩:=H;(try dsimp only at H);have A8:=ak bw;clear bw
     by_cases c9:b0=true
     ·subst c9;rw[if_pos rfl] at H;obtain rfl:=Option.some.inj H;obtain⟨b5,b6,b7,_,_,b8,b9,ca,_,_⟩:=bc5 U;go_wp2_with (first|(go_at_call 51;(with_reducible refine(impl_allIn.calls kj1 _ _ D 0 255 true _ ?side1 ap.out A8.out).mono ?_);(case side1=>exact Cq ao);rintro e w' ⟨rfl,⟨nd,rfl⟩⟩))
      go_ret
      exact⟨RT,PB⟩
     ·replace c9:=Bool.eq_false_iff.mpr c9;subst c9;rw[if_neg (show ¬(false=true) by decide)] at H;obtain rfl:=Option.some.inj H;obtain⟨cb,cd,ce,cf,_,cg,ch,ci,cj,_⟩:=bc5 U;go_wp2_with (first|(go_at_call 51;(with_reducible refine(impl_allIn.calls kj1 _ _ D 0 255 false _ ?side1 ap.out A8.out).mono ?_);(case side1=>exact Cq ao);rintro e w' ⟨rfl,⟨nd,rfl⟩⟩))
      go_ret
      exact⟨RT,PB⟩
    ·rw[if_neg c7] at H;have bx:decide ((D.length:Int)≤6)=false:=decide_eq_false c7;have bz:decide (D.length≤6)=false:=decide_eq_false (by omega);clear c7;obtain rfl:=Option.some.inj H;obtain⟨ck,cl,cm,_,_,cn,co,cp,_,_⟩:=bc5 U;go_wp2
     go_ret
     exact⟨RT,PB⟩
   ·replace c6:=Bool.eq_false_iff.mpr c6;subst c6;rw[if_neg (show ¬(false=true) by decide)] at H
    by_cases ae:J=3
    ·rw[if_pos ae] at H;have bk:(J == 3)=true:=beq_iff_eq.mpr ae;have bl:(J != 3)=false:=bne_eq_false_iff_eq.mpr ae;clear ae
     by_cases ab:(D.length:Int)=0
     ·rw[if_pos ab] at H;have bm:((D.length:Int) == 0)=true:=beq_iff_eq.mpr ab;have bo:((D.length:Int) != 0)=false:=bne_eq_false_iff_eq.mpr ab;clear ab;replace H:=Option.bind_eq_some_iff.mp H;obtain⟨b4,bg,H⟩:=H;(try dsimp only at H);have cr:=ak bg;clear bg;obtain rfl:=Option.some.inj H;obtain⟨_,_,_,_,_,_,_,_,_,_⟩:=bc5 U;go_wp2_with (first|(go_at_call 27;(with_reducible refine(impl_IsAddress.calls X Y Z b4 _ cr.out).mono ?_);rintro e da ⟨rfl,hb⟩;replace U:=kf U hb;replace HB:=bs HB hb;clear hb))
      go_ret
      exact⟨RT,PB⟩
     ·rw[if_neg ab] at H;have bm:((D.length:Int) == 0)=false:=beq_eq_false_iff_ne.mpr ab;have bo:((D.length:Int) != 0)=true:=bne_iff_ne.mpr ab
      have cu:¬(D=[]):=fun h_=>ab (by rw[h_];rfl)
      obtain rfl:=Option.some.inj H;obtain⟨_,_,_,_,_,_,_,_,_,_⟩:=bc5 U;go_wp2
      go_ret
      exact⟨RT,PB⟩
    ·rw[if_neg ae] at H;have bk:(J == 3)=false:=beq_eq_false_iff_ne.mpr ae;have bl:(J != 3)=true:=bne_iff_ne.mpr ae
     by_cases af:J=4
     ·rw[if_pos af] at H;have bp:(J == 4)=true:=beq_iff_eq.mpr af;have br:(J != 4)=false:=bne_eq_false_iff_eq.mpr af;clear af
      by_cases ac:(D.length:Int)=0
      ·rw[if_pos ac] at H;have bu:((D.length:Int) == 0)=true:=beq_iff_eq.mpr ac;have bv:((D.length:Int) != 0)=false:=bne_eq_false_iff_eq.mpr ac;clear ac;obtain rfl:=Option.some.inj H;obtain⟨_,_,_,_,_,_,_,_,_,_⟩:=bc5 U;go_wp2
       go_ret
       exact⟨RT,PB⟩
      ·rw[if_neg ac] at H;have bu:((D.length:Int) == 0)=false:=beq_eq_false_iff_ne.mpr ac;have bv:((D.length:Int) != 0)=true:=bne_iff_ne.mpr ac
       have cv:¬(D=[]):=fun h_=>ac (by rw[h_];rfl)
       obtain rfl:=Option.some.inj H;obtain⟨_,_,_,_,_,_,_,_,_,_⟩:=bc5 U;go_wp2
       go_ret
       exact⟨RT,PB⟩
     ·rw[if_neg af] at H;have bp:(J == 4)=false:=beq_eq_false_iff_ne.mpr af;have br:(J != 4)=true:=bne_iff_ne.mpr af;obtain rfl:=Option.some.inj H;go_wp2
      go_ret
      exact⟨RT,PB⟩

end Go.Proofs.YtcbelifjkpbkfaaGreat.MFnCaptures
