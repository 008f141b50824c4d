import Derived.Test.YtinnjgnipdjfhaaDoorShr2
import Derived.Test.YtinnjgnipdjfhaaDoorMFnRecordingsx0
import Derived.Test.YtinnjgnipdjfhaaDoorMFnRecordingsx4
import Derived.Test.YtinnjgnipdjfhaaDoorMFnRecordingsx1
namespace Go.Proofs.YtinnjgnipdjfhaaDoor.MFnRecordings
open Go.RowKit Go.Proofs.YtinnjgnipdjfhaaDoorW.PrintWords Go.Proofs.YtinnjgnipdjfhaaDoorW.PrintLast Go.Proofs.YtinnjgnipdjfhaaDoorW.PrintMore
attribute [local go_sem] max2_int min2_int max_two min_two max_three min_three max_four min_four
set_option linter.unusedVariables false
set_option maxHeartbeats 8000000
set_option maxRecDepth 100000
set_option linter.unusedSimpArgs false

def impl_isOp.j0:Nat→Int→Bool→Int→Int→Int→Int→Option (Bool)
  | 0,_,_,_,_,_,_=>none
  | k+1,U,ag,ae,af,D,J=>if ag=true then(if D=0 then(some (J == 0)) else(some false)) else(if U=5 then((impl_at.f D 4).bind fun X=>(if X=true then((impl_at.f J 4).bind fun Y=>(some Y)) else(some false))) else(if U=6 then((impl_at.f D 4).bind fun Z=>(if Z=true then(some (J == 0)) else(some false))) else(if U=7 then((impl_InRange.f D 1 3).bind fun aa=>(if aa=true then(some (J == 0)) else(some false))) else(if U=8 then((impl_at.f D 3).bind fun ab=>(if ab=true then(some (J == 0)) else(some false))) else(if U=9 then((impl_at.f D 3).bind fun ac=>(if ac=true then(some (J == 0)) else(some false))) else(some false))))))
def impl_isOp.f (k:Nat)(D:Int)(J:Int)(U:Int)(X:Int):Option (Bool):=(impl_at.f J 4).bind fun Y=>(if Y=true then(if D=1 then((impl_InRange.f U 1 9).bind fun Z=>(if Z=true then((impl_InRange.f X 0 99).bind fun aa=>(some aa)) else(some false))) else(if D=2 then(impl_isOp.j0 k D (D == 2) D J U X) else(if D=3 then(impl_isOp.j0 k D (D == 3) D J U X) else(impl_isOp.j0 k D (D == 4) D J U X)))) else(some false))
theorem impl_isOp.calls (k:Nat)(D:Int)(X:Int)(J:Int)(Y:Int)(r:Bool)(w:World)(h:impl_isOp.f k D X J Y=some r) :
  Calls Tryd.prog 28 #[.agg #[.int .i64 D,.int .i64 X,.int .i64 J,.int .i64 Y]] w fun e w'=>e = .returned (.bool r)∧Below w.heap.size w w':=by
 have dv:=Tryd.underlying66;have HB:=ak (Below.refl w.heap.size w);have H:=h;clear h;unfold impl_isOp.f at H;replace H:=Option.bind_eq_some_iff.mp H;obtain⟨dg,cx,H⟩:=H;(try dsimp only at H);have A2:=ak cx;clear cx
 by_cases c3:dg=true
 ·subst c3;rw[if_pos rfl] at H
  by_cases c4:D=1
  ·rw[if_pos c4] at H;have bx:(D == 1)=true:=beq_iff_eq.mpr c4;have bz:(D != 1)=false:=bne_eq_false_iff_eq.mpr c4;clear c4;replace H:=Option.bind_eq_some_iff.mp H;obtain⟨dh,cy,H⟩:=H;(try dsimp only at H);have A5:=ak cy;clear cy
   by_cases c6:dh=true
   ·subst c6;rw[if_pos rfl] at H;replace H:=Option.bind_eq_some_iff.mp H;obtain⟨di,cz,H⟩:=H;(try dsimp only at H);have A7:=ak cz;clear cz;obtain rfl:=Option.some.inj H;go_enter Tryd.func28,Tryd.ntmps28;go_wp2_with (first|((with_reducible refine gate_dst (N:=1) rfl ?_);refine bx_ (N:=1) #[.int .i64 D,.int .i64 X,.int .i64 J,.int .i64 Y] 66 ?_;intro ae hg w8 hbox hb;have U:=ak hbox;have am:=gy hg HB;replace HB:=bs HB hb;clear hb hbox hg;obtain⟨b4,b5,b6,b7,b8,b9,ca,cb⟩:=bc4 U)|(go_at_call 53;(with_reducible refine(impl_at.calls X 4 true _ A2.out).mono ?_);rintro e w' ⟨rfl,⟨nd,rfl⟩⟩)|(go_at_call 30;(with_reducible refine(impl_InRange.calls J 1 9 true _ A5.out).mono ?_);rintro e w' ⟨rfl,⟨nd,rfl⟩⟩)|(go_at_call 30;(with_reducible refine(impl_InRange.calls Y 0 99 di _ A7.out).mono ?_);rintro e w' ⟨rfl,⟨nd,rfl⟩⟩))
    go_ret
    exact⟨RT,PB⟩
   ·replace c6:=Bool.eq_false_iff.mpr c6;subst c6;rw[if_neg (show ¬(false=true) by decide)] at H;obtain rfl:=Option.some.inj H;go_enter Tryd.func28,Tryd.ntmps28;go_wp2_with (first|((with_reducible refine gate_dst (N:=1) rfl ?_);refine bx_ (N:=1) #[.int .i64 D,.int .i64 X,.int .i64 J,.int .i64 Y] 66 ?_;intro ae hg dy hbox hb;have U:=ak hbox;have am:=gy hg HB;replace HB:=bs HB hb;clear hb hbox hg;obtain⟨bb,bc,bd,bf,bg,bh,bi,bj⟩:=bc4 U)|(go_at_call 53;(with_reducible refine(impl_at.calls X 4 true _ A2.out).mono ?_);rintro e w' ⟨rfl,⟨nd,rfl⟩⟩)|(go_at_call 30;(with_reducible refine(impl_InRange.calls J 1 9 false _ A5.out).mono ?_);rintro e w' ⟨rfl,⟨nd,rfl⟩⟩))
    go_ret
    exact⟨RT,PB⟩
  ·rw[if_neg c4] at H;have bx:(D == 1)=false:=beq_eq_false_iff_ne.mpr c4;have bz:(D != 1)=true:=bne_iff_ne.mpr c4;have ap:=ak H;clear H;go_enter Tryd.func28,Tryd.ntmps28
   go_upto_if 19 with (first|((with_reducible refine gate_dst (N:=1) rfl ?_);refine bx_ (N:=1) #[.int .i64 D,.int .i64 X,.int .i64 J,.int .i64 Y] 66 ?_;intro ae hg dz hbox hb;have U:=ak hbox;have am:=gy hg HB;replace HB:=bs HB hb;clear hb hbox hg;obtain⟨bk,bl,bm,bo,bp,br,bu,bv⟩:=bc4 U)|((with_reducible refine gate_callee (f:=53) rfl ?_);refine goesL_ (some 5) rfl rfl Tryd.func53 KR rfl #[.int .i64 X,.int .i64 4] rfl AR ?_;(with_reducible refine(impl_at.calls X 4 true _ A2.out).mono ?_);rintro e w' ⟨rfl,⟨nd,rfl⟩⟩;refine⟨_,rfl,?_⟩))
   (try simp only[Act.put,List.setIfInBounds_toArray,List.set_cons_zero,List.set_cons_succ])
   go_cut [19] (fun dt wc=>∃(kq:Nat)(aa:Bool),dt = .bool aa∧Aside0 (impl_isOp.j0 kq D aa D X J Y=some r)∧Aside0 (kq≤k)∧Aside0 (wc.heap[ae]?=some (.cells #[.int .i64 D,.int .i64 X,.int .i64 J,.int .i64 Y] 66 (0,0)))∧Aside0 (Below w.heap.size w wc))
   case first =>
    have H:=ap.out;clear ap
    by_cases ab:D=2
    ·rw[if_pos ab] at H;have Z:(D == 2)=true:=beq_iff_eq.mpr ab;have aq:(D != 2)=false:=bne_eq_false_iff_eq.mpr ab;clear ab;(first|rw[Z]|(simp only[i64_w,i32_w];rw[Z])|skip);have H':=ak H;clear H;go_wp2
     go_meet
     case rel=>exact⟨_,((D == 2)),FR,H',⟨by first|omega | exact Nat.le_refl _⟩,⟨PK U⟩,⟨PB⟩⟩
    ·rw[if_neg ab] at H;have Z:(D == 2)=false:=beq_eq_false_iff_ne.mpr ab;have aq:(D != 2)=true:=bne_iff_ne.mpr ab;(first|rw[Z]|(simp only[i64_w,i32_w];rw[Z])|skip)
     by_cases ac:D=3
     ·rw[if_pos ac] at H;have ar:(D == 3)=true:=beq_iff_eq.mpr ac;have au:(D != 3)=false:=bne_eq_false_iff_eq.mpr ac;clear ac;have H':=ak H;clear H;go_wp2
      go_meet
      case rel=>exact⟨_,((D == 3)),FR,H',⟨by first|omega | exact Nat.le_refl _⟩,⟨PK U⟩,⟨PB⟩⟩
     ·rw[if_neg ac] at H;have ar:(D == 3)=false:=beq_eq_false_iff_ne.mpr ac;have au:(D != 3)=true:=bne_iff_ne.mpr ac;have H':=ak H;clear H;go_wp2
      go_meet
      case rel=>exact⟨_,((D == 4)),FR,H',⟨by first|omega | exact Nat.le_refl _⟩,⟨PK U⟩,⟨PB⟩⟩
   case rest =>
    clear ap;(try clear c1);(try clear c2);(try clear p2);(try clear c3);(try clear c4);(try clear bx);(try clear bz);(try clear c5);(try clear c6);(try clear ab);(try clear Z);(try clear aq);(try clear ac);(try clear ar);(try clear au);(try clear bb);(try clear bc);(try clear bd);(try clear bf);(try clear bk);(try clear bl);(try clear bm);(try clear bo);(try clear b4);(try clear b5);(try clear b6);(try clear b7);(try clear bg);(try clear bh);(try clear bi);(try clear bj);(try clear bp);(try clear br);(try clear bu);(try clear bv);(try clear b8);(try clear b9);(try clear ca);(try clear cb);obtain⟨kq,aa,rfl,HA,dx,U,HB⟩:=hcut
    cases kq with
    | zero=>exact absurd HA.out (by simp[impl_isOp.j0])
    | succ kj11 =>
     have H:=HA.out;clear HA;simp only[impl_isOp.j0] at H
     by_cases av:aa=true
     ·subst av;rw[if_pos rfl] at H
      by_cases af:J=0
      ·rw[if_pos af] at H;have ck:(J == 0)=true:=beq_iff_eq.mpr af;have cl:(J != 0)=false:=bne_eq_false_iff_eq.mpr af;clear af;obtain rfl:=Option.some.inj H;obtain⟨_,_,_,_,_,_,_,_⟩:=bc4 U;go_wp2
       go_ret
       exact⟨RT,PB⟩
      ·rw[if_neg af] at H;have ck:(J == 0)=false:=beq_eq_false_iff_ne.mpr af;have cl:(J != 0)=true:=bne_iff_ne.mpr af;obtain rfl:=Option.some.inj H;obtain⟨_,_,_,_,_,_,_,_⟩:=bc4 U;go_wp2
       go_ret
       exact⟨RT,PB⟩
     ·replace av:=Bool.eq_false_iff.mpr av;subst av;rw[if_neg (show ¬(false=true) by decide)] at H
      by_cases ag:D=5
      ·rw[if_pos ag] at H;have cm:(D == 5)=true:=beq_iff_eq.mpr ag;have cn:(D != 5)=false:=bne_eq_false_iff_eq.mpr ag;clear ag;replace H:=Option.bind_eq_some_iff.mp H;obtain⟨dj,cd,H⟩:=H;(try dsimp only at H);have da:=ak cd;clear cd
       by_cases aw:dj=true
       ·subst aw;rw[if_pos rfl] at H;replace H:=Option.bind_eq_some_iff.mp H;obtain⟨dk,ce,H⟩:=H;(try dsimp only at H);have du:=ak ce;clear ce;obtain rfl:=Option.some.inj H;obtain⟨_,_,_,_,_,_,_,_⟩:=bc4 U;go_wp2_with (first|(go_at_call 53;(with_reducible refine(impl_at.calls J 4 true _ da.out).mono ?_);rintro e w' ⟨rfl,⟨nd,rfl⟩⟩)|(go_at_call 53;(with_reducible refine(impl_at.calls Y 4 dk _ du.out).mono ?_);rintro e w' ⟨rfl,⟨nd,rfl⟩⟩))
        go_ret
        exact⟨RT,PB⟩
       ·replace aw:=Bool.eq_false_iff.mpr aw;subst aw;rw[if_neg (show ¬(false=true) by decide)] at H;obtain rfl:=Option.some.inj H;obtain⟨_,_,_,_,_,_,_,_⟩:=bc4 U;go_wp2_with (first|(go_at_call 53;(with_reducible refine(impl_at.calls J 4 false _ da.out).mono ?_);rintro e w' ⟨rfl,⟨nd,rfl⟩⟩))
        go_ret
        exact⟨RT,PB⟩
      ·rw[if_neg ag] at H;have cm:(D == 5)=false:=beq_eq_false_iff_ne.mpr ag;have cn:(D != 5)=true:=bne_iff_ne.mpr ag
       by_cases ah:D=6
       ·rw[if_pos ah] at H;have co:(D == 6)=true:=beq_iff_eq.mpr ah;have cp:(D != 6)=false:=bne_eq_false_iff_eq.mpr ah;clear ah;replace H:=Option.bind_eq_some_iff.mp H;obtain⟨dl,cf,H⟩:=H;(try dsimp only at H);have db:=ak cf;clear cf
        by_cases ax:dl=true
        ·subst ax;rw[if_pos rfl] at H;obtain rfl:=Option.some.inj H;obtain⟨_,_,_,_,_,_,_,_⟩:=bc4 U;go_wp2_with (first|(go_at_call 53;(with_reducible refine(impl_at.calls J 4 true _ db.out).mono ?_);rintro e w' ⟨rfl,⟨nd,rfl⟩⟩))
         go_ret
         exact⟨RT,PB⟩
        ·replace ax:=Bool.eq_false_iff.mpr ax;subst ax;rw[if_neg (show ¬(false=true) by decide)] at H;obtain rfl:=Option.some.inj H;obtain⟨_,_,_,_,_,_,_,_⟩:=bc4 U;go_wp2_with (first|(go_at_call 53;(with_reducible refine(impl_at.calls J 4 false _ db.out).mono ?_);rintro e w' ⟨rfl,⟨nd,rfl⟩⟩))
         go_ret
         exact⟨RT,PB⟩
       ·rw[if_neg ah] at H;have co:(D == 6)=false:=beq_eq_false_iff_ne.mpr ah;have cp:(D != 6)=true:=bne_iff_ne.mpr ah
        by_cases ai:D=7
        ·rw[if_pos ai] at H;have cq:(D == 7)=true:=beq_iff_eq.mpr ai;have cr:(D != 7)=false:=bne_eq_false_iff_eq.mpr ai;clear ai;replace H:=Option.bind_eq_some_iff.mp H;obtain⟨dn,cg,H⟩:=H;(try dsimp only at H);have dc:=ak cg;clear cg
         by_cases ay:dn=true
         ·subst ay;rw[if_pos rfl] at H;obtain rfl:=Option.some.inj H;obtain⟨_,_,_,_,_,_,_,_⟩:=bc4 U;go_wp2_with (first|(go_at_call 30;(with_reducible refine(impl_InRange.calls J 1 3 true _ dc.out).mono ?_);rintro e w' ⟨rfl,⟨nd,rfl⟩⟩))
          go_ret
          exact⟨RT,PB⟩
         ·replace ay:=Bool.eq_false_iff.mpr ay;subst ay;rw[if_neg (show ¬(false=true) by decide)] at H;obtain rfl:=Option.some.inj H;obtain⟨_,_,_,_,_,_,_,_⟩:=bc4 U;go_wp2_with (first|(go_at_call 30;(with_reducible refine(impl_InRange.calls J 1 3 false _ dc.out).mono ?_);rintro e w' ⟨rfl,⟨nd,rfl⟩⟩))
          go_ret
          exact⟨RT,PB⟩
        ·rw[if_neg ai] at H;have cq:(D == 7)=false:=beq_eq_false_iff_ne.mpr ai;have cr:(D != 7)=true:=bne_iff_ne.mpr ai
         by_cases aj:D=8
         ·rw[if_pos aj] at H;have ct:(D == 8)=true:=beq_iff_eq.mpr aj;have cu:(D != 8)=false:=bne_eq_false_iff_eq.mpr aj;clear aj;replace H:=Option.bind_eq_some_iff.mp H;obtain⟨dp,ch,H⟩:=H;(try dsimp only at H);have de:=ak ch;clear ch
          by_cases az:dp=true
          ·subst az;rw[if_pos rfl] at H;obtain rfl:=Option.some.inj H;obtain⟨_,_,_,_,_,_,_,_⟩:=bc4 U;go_wp2_with (first|(go_at_call 53;(with_reducible refine(impl_at.calls J 3 true _ de.out).mono ?_);rintro e w' ⟨rfl,⟨nd,rfl⟩⟩))
           go_ret
           exact⟨RT,PB⟩
          ·replace az:=Bool.eq_false_iff.mpr az;subst az;rw[if_neg (show ¬(false=true) by decide)] at H;obtain rfl:=Option.some.inj H;obtain⟨_,_,_,_,_,_,_,_⟩:=bc4 U;go_wp2_with (first|(go_at_call 53;(with_reducible refine(impl_at.calls J 3 false _ de.out).mono ?_);rintro e w' ⟨rfl,⟨nd,rfl⟩⟩))
           go_ret
           exact⟨RT,PB⟩
         ·rw[if_neg aj] at H;have ct:(D == 8)=false:=beq_eq_false_iff_ne.mpr aj;have cu:(D != 8)=true:=bne_iff_ne.mpr aj
          by_cases al:D=9
          ·rw[if_pos al] at H;have cv:(D == 9)=true:=beq_iff_eq.mpr al;have cw:(D != 9)=false:=bne_eq_false_iff_eq.mpr al;clear al;replace H:=Option.bind_eq_some_iff.mp H;obtain⟨dq,ci,H⟩:=H;(try dsimp only at H);have df:=ak ci;clear ci
           by_cases ba:dq=true
           ·subst ba;rw[if_pos rfl] at H;obtain rfl:=Option.some.inj H;obtain⟨_,_,_,_,_,_,_,_⟩:=bc4 U;go_wp2_with (first|(go_at_call 53;(with_reducible refine(impl_at.calls J 3 true _ df.out).mono ?_);rintro e w' ⟨rfl,⟨nd,rfl⟩⟩))
            go_ret
            exact⟨RT,PB⟩
           ·replace ba:=Bool.eq_false_iff.mpr ba;subst ba;rw[if_neg (show ¬(false=true) by decide)] at H;obtain rfl:=Option.some.inj H;obtain⟨_,_,_,_,_,_,_,_⟩:=bc4 U;go_wp2_with (first|(go_at_call 53;(with_reducible refine(impl_at.calls J 3 false _ df.out).mono ?_);rintro e w' ⟨rfl,⟨nd,rfl⟩⟩))
            go_ret
            exact⟨RT,PB⟩
          ·rw[if_neg al] at H;have cv:(D == 9)=false:=beq_eq_false_iff_ne.mpr al;have cw:(D != 9)=true:=bne_iff_ne.mpr al;obtain rfl:=Option.some.inj H;go_wp2
           go_ret
           exact⟨RT,PB⟩
 ·replace c3:=Bool.eq_false_iff.mpr c3;subst c3;rw[if_neg (show ¬(false=true) by decide)] at H;obtain rfl:=Option.some.inj H;go_enter Tryd.func28,Tryd.ntmps28;go_wp2_with (first|((with_reducible refine gate_dst (N:=1) rfl ?_);refine bx_ (N:=1) #[.int .i64 D,.int .i64 X,.int .i64 J,.int .i64 Y] 66 ?_;intro ae hg d7 hbox hb;have U:=ak hbox;have am:=gy hg HB;replace HB:=bs HB hb;clear hb hbox hg;obtain⟨_,_,_,_,_,_,_,_⟩:=bc4 U)|(go_at_call 53;(with_reducible refine(impl_at.calls X 4 false _ A2.out).mono ?_);rintro e w' ⟨rfl,⟨nd,rfl⟩⟩))
  go_ret
  exact⟨RT,PB⟩
def impl_IsScript_lit1.f (k:Nat)(D:Int)(J:Int)(U:Int)(X:Int):Option (Bool):=(impl_isOp.f k D J U X).bind fun Y=>(some (!Y))
theorem impl_IsScript_lit1.calls (k:Nat)(D:Int)(J:Int)(U:Int)(X:Int)(r:Bool)(w:World)(h:impl_IsScript_lit1.f k D J U X=some r) :
  Calls Tryd.prog 27 #[.agg #[.int .i64 D,.int .i64 J,.int .i64 U,.int .i64 X]] w fun e w'=>e = .returned (.bool r)∧Below w.heap.size w w':=by
 have ao:=Tryd.underlying66;have HB:=ak (Below.refl w.heap.size w);have H:=h;clear h;unfold impl_IsScript_lit1.f at H;replace H:=Option.bind_eq_some_iff.mp H;obtain⟨aa,Z,H⟩:=H;(try dsimp only at H);have A2:=ak Z;clear Z;obtain rfl:=Option.some.inj H;go_enter Tryd.func27,Tryd.ntmps27;go_wp2_with (first|((with_reducible refine gate_dst (N:=1) rfl ?_);refine bx_ (N:=1) #[.int .i64 D,.int .i64 J,.int .i64 U,.int .i64 X] 66 ?_;intro al hg w3 hbox hb;have Y:=ak hbox;have am:=gy hg HB;replace HB:=bs HB hb;clear hb hbox hg;obtain⟨ab,ac,ae,af,ag,ah,ai,aj⟩:=bc4 Y)|(go_at_call 28;(with_reducible refine(impl_isOp.calls k D J U X aa _ A2.out).mono ?_);rintro e w5 ⟨rfl,hb⟩;replace Y:=kf Y hb;replace HB:=bs HB hb;clear hb))
 go_ret
 exact⟨RT,PB⟩
def slices_IndexFunc_27.l0:Nat→List (S66)→Int→Int→Option (Int)
  | 0,_,_,_=>none
  | k+1,J,X,D=>if D < X then(if 0≤D then(if D < (J.length:Int) then((impl_IsScript_lit1.f k ((rd_T66 J D).f0) ((rd_T66 J D).f1) ((rd_T66 J D).f2) ((rd_T66 J D).f3)).bind fun U=>(if U=true then(some D) else(slices_IndexFunc_27.l0 k J X (wrap64 (D+1))))) else(none)) else(none)) else(some (-1))
def slices_IndexFunc_27.f (k:Nat)(D:List (S66))(J:Int):Option (Int):=slices_IndexFunc_27.l0 k D (D.length:Int) 0
theorem slices_IndexFunc_27.calls (k:Nat)(A0:Option Addr)(c0:Nat)(J:List (S66))(a1:Int)(r:Int)(w:World)(aj:Kd.C k66 w A0 J.length J)(al:J.length≤c0)(h:slices_IndexFunc_27.f k J a1=some r) :
  Calls Tryd.prog 52 #[.slice A0 J.length c0,.func (.func 27) #[] #[]] w fun e w'=>e = .returned (.int .i64 r)∧Below w.heap.size w w':=by
 have ay:=Tryd.underlying66;have am:=ak aj;have bc:=ak al;clear aj al;have HB:=ak (Below.refl w.heap.size w);have H:=h;clear h;unfold slices_IndexFunc_27.f at H;have H':=ak H;clear H;go_enter Tryd.func52,Tryd.ntmps52;go_wp2
 go_loopg [8] k (fun kq v8 w'=>∃(D:Int),v8 = .int .i64 D∧Aside0 (slices_IndexFunc_27.l0 kq J (J.length:Int) D=some r)∧Aside0 (kq≤k)∧Aside0 (Below w.heap.size w w'))
 case atStart=>exact⟨(0),FR,H',⟨Nat.le_refl _⟩,⟨PB⟩⟩
 case round =>
  clear H'
  try clear p2
  obtain⟨D,rfl,HA,ao,HB⟩:=hrel
  cases gk with
  | zero=>exact absurd HA.out (by simp[slices_IndexFunc_27.l0])
  | succ k1 =>
   have H:=HA.out;clear HA;simp only[slices_IndexFunc_27.l0] at H
   by_cases c3:D < (J.length:Int)
   ·rw[if_pos c3] at H;have aq:decide (D < (J.length:Int))=true:=decide_eq_true c3;clear c3
    by_cases c4:0≤D
    ·rw[if_pos c4] at H;have ba:decide (0≤D)=true:=decide_eq_true c4;clear c4
     by_cases c5:D < (J.length:Int)
     ·rw[if_pos c5] at H;have bb:decide (D < (J.length:Int))=true:=decide_eq_true c5;clear c5;replace H:=Option.bind_eq_some_iff.mp H;obtain⟨ar,ap,H⟩:=H;(try dsimp only at H);have A6:=ak ap;clear ap
      by_cases c7:ar=true
      ·subst c7;rw[if_pos rfl] at H;obtain rfl:=Option.some.inj H;have aa:0≤(D:Int):=od;have ab:D < (J.length:Int):=od;obtain⟨ai,ac,U,X,Y,Z⟩:=at_T66 am.out D aa ab;cases ac;replace U:=hx_ HB U;replace X:=hx_ HB X;replace Y:=hx_ HB Y;replace Z:=hx_ HB Z;replace aa:=eq_true aa;replace ab:=eq_true ab;go_wp2_with (first|((with_reducible refine gate_calleeV (n:=11) rfl ?_);refine goesLV_ (some 16) rfl rfl Tryd.func27 KR rfl #[.agg #[.int .i64 ((rd_T66 J D).f0),.int .i64 ((rd_T66 J D).f1),.int .i64 ((rd_T66 J D).f2),.int .i64 ((rd_T66 J D).f3)]] rfl AR ?_;(with_reducible refine(impl_IsScript_lit1.calls k1 ((rd_T66 J D).f0) ((rd_T66 J D).f1) ((rd_T66 J D).f2) ((rd_T66 J D).f3) true _ A6.out).mono ?_);rintro e w8 ⟨rfl,hb⟩;refine⟨_,rfl,?_⟩;replace HB:=bs HB hb;clear hb))
       go_ret
       exact⟨RT,PB⟩
      ·replace c7:=Bool.eq_false_iff.mpr c7;subst c7;rw[if_neg (show ¬(false=true) by decide)] at H;have H':=ak H;clear H;have aa:0≤(D:Int):=od;have ab:D < (J.length:Int):=od;obtain⟨ai,ac,U,X,Y,Z⟩:=at_T66 am.out D aa ab;cases ac;replace U:=hx_ HB U;replace X:=hx_ HB X;replace Y:=hx_ HB Y;replace Z:=hx_ HB Z;replace aa:=eq_true aa;replace ab:=eq_true ab;go_wp2_with (first|((with_reducible refine gate_calleeV (n:=11) rfl ?_);refine goesLV_ (some 16) rfl rfl Tryd.func27 KR rfl #[.agg #[.int .i64 ((rd_T66 J D).f0),.int .i64 ((rd_T66 J D).f1),.int .i64 ((rd_T66 J D).f2),.int .i64 ((rd_T66 J D).f3)]] rfl AR ?_;(with_reducible refine(impl_IsScript_lit1.calls k1 ((rd_T66 J D).f0) ((rd_T66 J D).f1) ((rd_T66 J D).f2) ((rd_T66 J D).f3) false _ A6.out).mono ?_);rintro e w9 ⟨rfl,hb⟩;refine⟨_,rfl,?_⟩;replace HB:=bs HB hb;clear hb))
       go_roundg k1
       case measure=>have:=ao.out;omega
       case rel=>exact⟨(wrap64 (D+1)),FR,H',⟨by have:=ao.out;omega⟩,⟨PB⟩⟩
     ·rw[if_neg c5] at H;exact absurd H (by simp)
    ·rw[if_neg c4] at H;exact absurd H (by simp)
   ·rw[if_neg c3] at H;have aq:decide (D < (J.length:Int))=false:=decide_eq_false c3;clear c3;obtain rfl:=Option.some.inj H;go_wp2
    go_ret
    exact⟨RT,PB⟩
def slices_ContainsFunc_27.f (k:Nat)(J:List (S66))(U:Int):Option (Bool):=(slices_IndexFunc_27.f k J U).bind fun D=>(some (decide (D≥0)))
theorem slices_ContainsFunc_27.calls (k:Nat)(Y:Option Addr)(Z:Nat)(D:List (S66))(a1:Int)(r:Bool)(w:World)(J:Kd.C k66 w Y D.length D)(U:D.length≤Z)(h:slices_ContainsFunc_27.f k D a1=some r) :
  Calls Tryd.prog 26 #[.slice Y D.length Z,.func (.func 27) #[] #[]] w fun e w'=>e = .returned (.bool r)∧Below w.heap.size w w':=by
 have ac:=ak J;have ae:=ak U;clear J U;have HB:=ak (Below.refl w.heap.size w);have H:=h;clear h;unfold slices_ContainsFunc_27.f at H;replace H:=Option.bind_eq_some_iff.mp H;obtain⟨aa,X,H⟩:=H;(try dsimp only at H);have A3:=ak X;clear X;obtain rfl:=Option.some.inj H;go_enter Tryd.func26,Tryd.ntmps26;go_wp2_with (first|(go_at_call 52;(with_reducible refine(slices_IndexFunc_27.calls k _ _ D a1 aa _ ?side1 ae.out A3.out).mono ?_);(case side1=>exact CR (ac.out));rintro e w4 ⟨rfl,hb⟩;replace HB:=bs HB hb;clear hb))
 go_ret
 exact⟨RT,PB⟩
def impl_IsScript.f (k:Nat)(J:List (S66)):Option (Bool):=if (J.length:Int)≤16 then((slices_ContainsFunc_27.f k J 90000027).bind fun D=>(some (!D))) else(some false)
theorem impl_IsScript.calls (k:Nat)(A0:Option Addr)(c0:Nat)(D:List (S66))(r:Bool)(w:World)(U:Kd.C k66 w A0 D.length D)(X:D.length≤c0)(h:impl_IsScript.f k D=some r) :
  Calls Tryd.prog 10 #[.slice A0 D.length c0] w fun e w'=>e = .returned (.bool r)∧Below w.heap.size w w':=by
 have af:=ak U;have ag:=ak X;clear U X;have HB:=ak (Below.refl w.heap.size w);have H:=h;clear h;unfold impl_IsScript.f at H
 by_cases J:(D.length:Int)≤16
 ·rw[if_pos J] at H;have Z:decide ((D.length:Int)≤16)=true:=decide_eq_true J;have aa:decide (D.length≤16)=true:=decide_eq_true (by omega);clear J;replace H:=Option.bind_eq_some_iff.mp H;obtain⟨ab,Y,H⟩:=H;(try dsimp only at H);have A3:=ak Y;clear Y;obtain rfl:=Option.some.inj H;go_enter Tryd.func10,Tryd.ntmps10;go_wp2_with (first|(go_at_call 26;(with_reducible refine(slices_ContainsFunc_27.calls k _ _ D 90000027 ab _ ?side1 ag.out A3.out).mono ?_);(case side1=>exact CR (af.out));rintro e w4 ⟨rfl,hb⟩;replace HB:=bs HB hb;clear hb))
  go_ret
  exact⟨RT,PB⟩
 ·rw[if_neg J] at H;have Z:decide ((D.length:Int)≤16)=false:=decide_eq_false J;have aa:decide (D.length≤16)=false:=decide_eq_false (by omega);clear J;obtain rfl:=Option.some.inj H;go_enter Tryd.func10,Tryd.ntmps10;go_wp2
  go_ret
  exact⟨RT,PB⟩
def impl_IsAddress.f (D:Int)(J:Int)(U:Int):Option (Bool):=(impl_InRange.f D 1 9).bind fun X=>(if X=true then((impl_InRange.f J 0 99).bind fun Y=>(if Y=true then((impl_InRange.f U 0 99).bind fun Z=>(some Z)) else(some false))) else(some false))
theorem impl_IsAddress.calls (D:Int)(J:Int)(X:Int)(r:Bool)(w:World)(h:impl_IsAddress.f D J X=some r) :
  Calls Tryd.prog 34 #[.agg #[.int .i64 D,.int .i64 J,.int .i64 X]] w fun e w'=>e = .returned (.bool r)∧Below w.heap.size w w':=by
 have bb:=Tryd.underlying46;have HB:=ak (Below.refl w.heap.size w);have H:=h;clear h;unfold impl_IsAddress.f at H;replace H:=Option.bind_eq_some_iff.mp H;obtain⟨ag,ac,H⟩:=H;(try dsimp only at H);have A2:=ak ac;clear ac
 by_cases c3:ag=true
 ·subst c3;rw[if_pos rfl] at H;replace H:=Option.bind_eq_some_iff.mp H;obtain⟨ai,ae,H⟩:=H;(try dsimp only at H);have A4:=ak ae;clear ae
  by_cases c5:ai=true
  ·subst c5;rw[if_pos rfl] at H;replace H:=Option.bind_eq_some_iff.mp H;obtain⟨aj,af,H⟩:=H;(try dsimp only at H);have A6:=ak af;clear af;obtain rfl:=Option.some.inj H;go_enter Tryd.func34,Tryd.ntmps34;go_wp2_with (first|((with_reducible refine gate_dst (N:=1) rfl ?_);refine bx_ (N:=1) #[.int .i64 D,.int .i64 J,.int .i64 X] 46 ?_;intro Y hg w7 hbox hb;have U:=ak hbox;have Z:=gy hg HB;replace HB:=bs HB hb;clear hb hbox hg;obtain⟨_,_,_,_,_,_⟩:=bc3 U)|(go_at_call 30;(with_reducible refine(impl_InRange.calls D 1 9 true _ A2.out).mono ?_);rintro e w' ⟨rfl,⟨nd,rfl⟩⟩)|(go_at_call 30;(with_reducible refine(impl_InRange.calls J 0 99 true _ A4.out).mono ?_);rintro e w' ⟨rfl,⟨nd,rfl⟩⟩)|(go_at_call 30;(with_reducible refine(impl_InRange.calls X 0 99 aj _ A6.out).mono ?_);rintro e w' ⟨rfl,⟨nd,rfl⟩⟩))
   go_ret
   exact⟨RT,PB⟩
  ·replace c5:=Bool.eq_false_iff.mpr c5;subst c5;rw[if_neg (show ¬(false=true) by decide)] at H;obtain rfl:=Option.some.inj H;go_enter Tryd.func34,Tryd.ntmps34;go_wp2_with (first|((with_reducible refine gate_dst (N:=1) rfl ?_);refine bx_ (N:=1) #[.int .i64 D,.int .i64 J,.int .i64 X] 46 ?_;intro Y hg w9 hbox hb;have U:=ak hbox;have Z:=gy hg HB;replace HB:=bs HB hb;clear hb hbox hg;obtain⟨al,am,ao,ap,aq,ar⟩:=bc3 U)|(go_at_call 30;(with_reducible refine(impl_InRange.calls D 1 9 true _ A2.out).mono ?_);rintro e w' ⟨rfl,⟨nd,rfl⟩⟩)|(go_at_call 30;(with_reducible refine(impl_InRange.calls J 0 99 false _ A4.out).mono ?_);rintro e w' ⟨rfl,⟨nd,rfl⟩⟩))
   go_ret
   exact⟨RT,PB⟩
 ·replace c3:=Bool.eq_false_iff.mpr c3;subst c3;rw[if_neg (show ¬(false=true) by decide)] at H;obtain rfl:=Option.some.inj H;go_enter Tryd.func34,Tryd.ntmps34;go_wp2_with (first|((with_reducible refine gate_dst (N:=1) rfl ?_);refine bx_ (N:=1) #[.int .i64 D,.int .i64 J,.int .i64 X] 46 ?_;intro Y hg bd hbox hb;have U:=ak hbox;have Z:=gy hg HB;replace HB:=bs HB hb;clear hb hbox hg;obtain⟨au,av,aw,ax,ay,az⟩:=bc3 U)|(go_at_call 30;(with_reducible refine(impl_InRange.calls D 1 9 false _ A2.out).mono ?_);rintro e w' ⟨rfl,⟨nd,rfl⟩⟩))
  go_ret
  exact⟨RT,PB⟩
def impl_allIn.l0:Nat→Int→Int→List Int→Int→Int→Option (Bool)
  | 0,_,_,_,_,_=>none
  | k+1,Y,Z,U,J,D=>if D < J then(if 0≤D then(if D < (U.length:Int) then((impl_InRange.f (rd U D) Y Z).bind fun X=>(if X=true then(impl_allIn.l0 k Y Z U J (wrap64 (D+1))) else(some false))) else(none)) else(none)) else(some true)
def impl_allIn.f (k:Nat)(D:List Int)(J:Int)(U:Int):Option (Bool):=impl_allIn.l0 k J U D (D.length:Int) 0
theorem impl_allIn.calls (k:Nat)(A0:Option Addr)(c0:Nat)(J:List Int)(Y:Int)(Z:Int)(r:Bool)(w:World)(ai:Kd.C (Kd.int .i64) w A0 J.length J)(aj:J.length≤c0)(h:impl_allIn.f k J Y Z=some r) :
  Calls Tryd.prog 31 #[.slice A0 J.length c0,.int .i64 Y,.int .i64 Z] w fun e w'=>e = .returned (.bool r)∧Drawn0 w w':=by
 have al:=ak ai;have az:=ak aj;clear ai aj;have H:=h;clear h;unfold impl_allIn.f at H;have H':=ak H;clear H;go_enter Tryd.func31,Tryd.ntmps31;go_wp2
 go_loopg [11] k (fun kq av w'=>∃(D:Int),av = .int .i64 D∧Aside0 (impl_allIn.l0 kq Y Z J (J.length:Int) D=some r)∧Aside0 (kq≤k)∧Drawn0 w w')
 case atStart=>exact⟨(0),FR,H',⟨Nat.le_refl _⟩,by repeat(first|exact Drawn0.refl _ | apply Drawn0.step)⟩
 case round =>
  clear H';(try clear p2);(try clear c3);obtain⟨D,rfl,HA,am,⟨m1,rfl⟩⟩:=hrel
  cases gk with
  | zero=>exact absurd HA.out (by simp[impl_allIn.l0])
  | succ k1 =>
   have H:=HA.out;clear HA;simp only[impl_allIn.l0] at H
   by_cases c4:D < (J.length:Int)
   ·rw[if_pos c4] at H;have ap:decide (D < (J.length:Int))=true:=decide_eq_true c4;clear c4
    by_cases c5:0≤D
    ·rw[if_pos c5] at H;have ax:decide (0≤D)=true:=decide_eq_true c5;clear c5
     by_cases c6:D < (J.length:Int)
     ·rw[if_pos c6] at H;have ay:decide (D < (J.length:Int))=true:=decide_eq_true c6;clear c6;replace H:=Option.bind_eq_some_iff.mp H;obtain⟨aq,ao,H⟩:=H;(try dsimp only at H);have A7:=ak ao;clear ao
      by_cases c8:aq=true
      ·subst c8;rw[if_pos rfl] at H;have H':=ak H;clear H;have U:0≤(D:Int):=od;have X:D < (J.length:Int):=od;obtain⟨ah,aa,ac⟩:=Kd.at_int al.out D U X;cases aa;replace U:=eq_true U;replace X:=eq_true X;go_wp2_with (first|(go_at_call 30;(with_reducible refine(impl_InRange.calls (rd J D) Y Z true _ A7.out).mono ?_);rintro e w' ⟨rfl,⟨nd,rfl⟩⟩))
       go_roundg k1
       case measure=>have:=am.out;omega
       case rel=>exact⟨(wrap64 (D+1)),FR,H',⟨by have:=am.out;omega⟩,by repeat(first|exact Drawn0.refl _ | apply Drawn0.step)⟩
      ·replace c8:=Bool.eq_false_iff.mpr c8;subst c8;rw[if_neg (show ¬(false=true) by decide)] at H;obtain rfl:=Option.some.inj H;have U:0≤(D:Int):=od;have X:D < (J.length:Int):=od;obtain⟨ah,aa,ac⟩:=Kd.at_int al.out D U X;cases aa;replace U:=eq_true U;replace X:=eq_true X;go_wp2_with (first|(go_at_call 30;(with_reducible refine(impl_InRange.calls (rd J D) Y Z false _ A7.out).mono ?_);rintro e w' ⟨rfl,⟨nd,rfl⟩⟩))
       go_ret
       exact⟨FR,by repeat(first|exact Drawn0.refl _ | apply Drawn0.step)⟩
     ·rw[if_neg c6] at H;exact absurd H (by simp)
    ·rw[if_neg c5] at H;exact absurd H (by simp)
   ·rw[if_neg c4] at H;have ap:decide (D < (J.length:Int))=false:=decide_eq_false c4;clear c4;obtain rfl:=Option.some.inj H;go_wp2
    go_ret
    exact⟨FR,by repeat(first|exact Drawn0.refl _ | apply Drawn0.step)⟩
attribute [local go_sem high] eqA46
def impl_IsResource.j0:Nat→Int→Bool→Int→List Int→Int→Int→Int→Option (Bool)
  | 0,_,_,_,_,_,_,_=>none
  | k+1,x4,x5,aa,D,J,U,X=>if x5=true then(if (D.length:Int)≤6 then((impl_allIn.f k D 0 255).bind fun Y=>(if Y=true then(some (J == 0 && (U == 0 && (X == 0)))) else(some false))) else(some false)) else(if x4=3 then(if (D.length:Int)=0 then((impl_IsAddress.f J U X).bind fun Z=>(some Z)) else(some false)) else(if x4=4 then(if (D.length:Int)=0 then(some (J == 0 && (U == 0 && (X == 0)))) else(some false)) else(some false)))
def impl_IsResource.f (k:Nat)(D:Int)(J:List Int)(U:Int)(X:Int)(Y:Int):Option (Bool):=if D=1 then(impl_IsResource.j0 k D (D == 1) D J U X Y) else(impl_IsResource.j0 k D (D == 2) D J U X Y)
theorem impl_IsResource.calls (k:Nat)(J:Int)(ag:Option Addr)(ah:Nat)(D:List Int)(X:Int)(Y:Int)(Z:Int)(r:Bool)(w:World)(al:Kd.C (Kd.int .i64) w ag D.length D)(am:D.length≤ah)(h:impl_IsResource.f k J D X Y Z=some r) :
  Calls Tryd.prog 56 #[.agg #[.int .i64 J,.slice ag D.length ah,.int .i64 X,.int .i64 Y,.int .i64 Z]] w fun e w'=>e = .returned (.bool r)∧Below w.heap.size w w':=by
 have cw:=Tryd.underlying76;have cx:=Tryd.underlying46;have ao:=ak al;have ap:=ak am;clear al am;have HB:=ak (Below.refl w.heap.size w);have H:=h;clear h;unfold impl_IsResource.f at H;have ar:=ak H;clear H;go_enter Tryd.func56,Tryd.ntmps56
 go_upto_if 5 with (first|((with_reducible refine gate_dst (N:=1) rfl ?_);refine bx_ (N:=1) #[.int .i64 J,.slice ag D.length ah,.int .i64 X,.int .i64 Y,.int .i64 Z] 76 ?_;intro bh hg w3 hbox hb;have U:=ak hbox;have ct:=gy hg HB;replace HB:=bs HB hb;clear hb hbox hg;obtain⟨au,av,aw,ax,ay,az,ba,bb,bc,bd⟩:=bc5 U))
 (try simp only[Act.put,List.setIfInBounds_toArray,List.set_cons_zero,List.set_cons_succ])
 go_cut [5] (fun v5 wc=>∃(kq:Nat)(ai:Bool),v5 = .bool ai∧Aside0 (impl_IsResource.j0 kq J ai J D X Y Z=some r)∧Aside0 (kq≤k)∧Aside0 (wc.heap[bh]?=some (.cells #[.int .i64 J,(.slice ag D.length ah),.int .i64 X,.int .i64 Y,.int .i64 Z] 76 (0,0)))∧Aside0 (Below w.heap.size w wc))
 case first =>
  have H:=ar.out;clear ar
  by_cases c5:J=1
  ·rw[if_pos c5] at H;have aa:(J == 1)=true:=beq_iff_eq.mpr c5;have bf:(J != 1)=false:=bne_eq_false_iff_eq.mpr c5;clear c5;(first|rw[aa]|(simp only[i64_w,i32_w];rw[aa])|skip);have H':=ak H;clear H;go_wp2
   go_meet
   case rel=>exact⟨_,((J == 1)),FR,H',⟨by first|omega | exact Nat.le_refl _⟩,⟨PK U⟩,⟨PB⟩⟩
  ·rw[if_neg c5] at H;have aa:(J == 1)=false:=beq_eq_false_iff_ne.mpr c5;have bf:(J != 1)=true:=bne_iff_ne.mpr c5;(first|rw[aa]|(simp only[i64_w,i32_w];rw[aa])|skip);have H':=ak H;clear H;go_wp2
   go_meet
   case rel=>exact⟨_,((J == 2)),FR,H',⟨by first|omega | exact Nat.le_refl _⟩,⟨PK U⟩,⟨PB⟩⟩
 case rest =>
  clear ar;(try clear p2);(try clear c5);(try clear aa);(try clear bf);(try clear au);(try clear av);(try clear aw);(try clear ax);(try clear ay);(try clear az);(try clear ba);(try clear bb);(try clear bc);(try clear bd);obtain⟨kq,ai,rfl,HA,cz,U,HB⟩:=hcut
  cases kq with
  | zero=>exact absurd HA.out (by simp[impl_IsResource.j0])
  | succ kj1 =>
   have H:=HA.out;clear HA;simp only[impl_IsResource.j0] at H
   by_cases c6:ai=true
   ·subst c6;rw[if_pos rfl] at H
    by_cases c7:(D.length:Int)≤6
    ·rw[if_pos c7] at H;have bx:decide ((D.length:Int)≤6)=true:=decide_eq_true c7;have bz:decide (D.length≤6)=true:=decide_eq_true (by omega);clear c7;replace H:=Option.bind_eq_some_iff.mp H;obtain⟨b0,bw,H⟩:=H;(try dsimp only at H);have A8:=ak bw;clear bw
     by_cases c9:b0=true
     ·subst c9;rw[if_pos rfl] at H;obtain rfl:=Option.some.inj H;obtain⟨b5,b6,b7,_,_,b8,b9,ca,_,_⟩:=bc5 U;go_wp2_with (first|(go_at_call 31;(with_reducible refine(impl_allIn.calls kj1 _ _ D 0 255 true _ ?side1 ap.out A8.out).mono ?_);(case side1=>exact Cq ao);rintro e w' ⟨rfl,⟨nd,rfl⟩⟩))
      go_ret
      exact⟨RT,PB⟩
     ·replace c9:=Bool.eq_false_iff.mpr c9;subst c9;rw[if_neg (show ¬(false=true) by decide)] at H;obtain rfl:=Option.some.inj H;obtain⟨cb,cd,ce,cf,_,cg,ch,ci,cj,_⟩:=bc5 U;go_wp2_with (first|(go_at_call 31;(with_reducible refine(impl_allIn.calls kj1 _ _ D 0 255 false _ ?side1 ap.out A8.out).mono ?_);(case side1=>exact Cq ao);rintro e w' ⟨rfl,⟨nd,rfl⟩⟩))
      go_ret
      exact⟨RT,PB⟩
    ·rw[if_neg c7] at H;have bx:decide ((D.length:Int)≤6)=false:=decide_eq_false c7;have bz:decide (D.length≤6)=false:=decide_eq_false (by omega);clear c7;obtain rfl:=Option.some.inj H;obtain⟨ck,cl,cm,_,_,cn,co,cp,_,_⟩:=bc5 U;go_wp2
     go_ret
     exact⟨RT,PB⟩
   ·replace c6:=Bool.eq_false_iff.mpr c6;subst c6;rw[if_neg (show ¬(false=true) by decide)] at H
    by_cases ae:J=3
    ·rw[if_pos ae] at H;have bk:(J == 3)=true:=beq_iff_eq.mpr ae;have bl:(J != 3)=false:=bne_eq_false_iff_eq.mpr ae;clear ae
     by_cases ab:(D.length:Int)=0
     ·rw[if_pos ab] at H;have bm:((D.length:Int) == 0)=true:=beq_iff_eq.mpr ab;have bo:((D.length:Int) != 0)=false:=bne_eq_false_iff_eq.mpr ab;clear ab;replace H:=Option.bind_eq_some_iff.mp H;obtain⟨b4,bg,H⟩:=H;(try dsimp only at H);have cr:=ak bg;clear bg;obtain rfl:=Option.some.inj H;obtain⟨_,_,_,_,_,_,_,_,_,_⟩:=bc5 U;go_wp2_with (first|(go_at_call 34;(with_reducible refine(impl_IsAddress.calls X Y Z b4 _ cr.out).mono ?_);rintro e da ⟨rfl,hb⟩;replace U:=kf U hb;replace HB:=bs HB hb;clear hb))
      go_ret
      exact⟨RT,PB⟩
     ·rw[if_neg ab] at H;have bm:((D.length:Int) == 0)=false:=beq_eq_false_iff_ne.mpr ab;have bo:((D.length:Int) != 0)=true:=bne_iff_ne.mpr ab
      have cu:¬(D=[]):=fun h_=>ab (by rw[h_];rfl)
      obtain rfl:=Option.some.inj H;obtain⟨_,_,_,_,_,_,_,_,_,_⟩:=bc5 U;go_wp2
      go_ret
      exact⟨RT,PB⟩
    ·rw[if_neg ae] at H;have bk:(J == 3)=false:=beq_eq_false_iff_ne.mpr ae;have bl:(J != 3)=true:=bne_iff_ne.mpr ae
     by_cases af:J=4
     ·rw[if_pos af] at H;have bp:(J == 4)=true:=beq_iff_eq.mpr af;have br:(J != 4)=false:=bne_eq_false_iff_eq.mpr af;clear af
      by_cases ac:(D.length:Int)=0
      ·rw[if_pos ac] at H;have bu:((D.length:Int) == 0)=true:=beq_iff_eq.mpr ac;have bv:((D.length:Int) != 0)=false:=bne_eq_false_iff_eq.mpr ac;clear ac;obtain rfl:=Option.some.inj H;obtain⟨_,_,_,_,_,_,_,_,_,_⟩:=bc5 U;go_wp2
       go_ret
       exact⟨RT,PB⟩
      ·rw[if_neg ac] at H;have bu:((D.length:Int) == 0)=false:=beq_eq_false_iff_ne.mpr ac;have bv:((D.length:Int) != 0)=true:=bne_iff_ne.mpr ac
       have cv:¬(D=[]):=fun h_=>ac (by rw[h_];rfl)
       obtain rfl:=Option.some.inj H;obtain⟨_,_,_,_,_,_,_,_,_,_⟩:=bc5 U;go_wp2
       go_ret
       exact⟨RT,PB⟩
     ·rw[if_neg af] at H;have bp:(J == 4)=false:=beq_eq_false_iff_ne.mpr af;have br:(J != 4)=true:=bne_iff_ne.mpr af;obtain rfl:=Option.some.inj H;go_wp2
      go_ret
      exact⟨RT,PB⟩

def impl_IsSite_lit1.f (k:Nat)(D:Int)(J:Int)(U:Int)(X:Int)(Y:Int)(Z:List Int)(aa:Int)(ab:Int)(ac:Int):Option (Bool):=(impl_IsAddress.f D J U).bind fun ae=>(if ae=true then((impl_InRange.f X 0 1000).bind fun af=>(if af=true then((impl_IsResource.f k Y Z aa ab ac).bind fun ag=>(some (!ag))) else(some true))) else(some true))
theorem impl_IsSite_lit1.calls (k:Nat)(J:Int)(U:Int)(X:Int)(Z:Int)(aa:Int)(af:Option Addr)(ag:Nat)(Y:List Int)(ab:Int)(ac:Int)(ae:Int)(r:Bool)(w:World)(ah:Kd.C (Kd.int .i64) w af Y.length Y)(ai:Y.length≤ag)(h:impl_IsSite_lit1.f k J U X Z aa Y ab ac ae=some r) :
  Calls Tryd.prog 55 #[.agg #[.int .i64 J,.int .i64 U,.int .i64 X,.int .i64 Z,.int .i64 aa,.slice af Y.length ag,.int .i64 ab,.int .i64 ac,.int .i64 ae]] w fun e w'=>e = .returned (.bool r)∧Below w.heap.size w w':=by
 have b8:=Tryd.underlying96;have b9:=Tryd.underlying46;have ca:=Tryd.underlying76;have am:=ak ah;have ao:=ak ai;clear ah ai;have HB:=ak (Below.refl w.heap.size w);have H:=h;clear h;unfold impl_IsSite_lit1.f at H;replace H:=Option.bind_eq_some_iff.mp H;obtain⟨aw,ar,H⟩:=H;(try dsimp only at H);have A2:=ak ar;clear ar
 by_cases c3:aw=true
 ·subst c3;rw[if_pos rfl] at H;replace H:=Option.bind_eq_some_iff.mp H;obtain⟨ay,au,H⟩:=H;(try dsimp only at H);have A4:=ak au;clear au
  by_cases c5:ay=true
  ·subst c5;rw[if_pos rfl] at H;replace H:=Option.bind_eq_some_iff.mp H;obtain⟨az,av,H⟩:=H;(try dsimp only at H);have A6:=ak av;clear av;obtain rfl:=Option.some.inj H;go_enter Tryd.func55,Tryd.ntmps55;go_wp2_with (first|((with_reducible refine gate_dst (N:=1) rfl ?_);refine bx_ (N:=1) #[.int .i64 J,.int .i64 U,.int .i64 X,.int .i64 Z,.int .i64 aa,.slice af Y.length ag,.int .i64 ab,.int .i64 ac,.int .i64 ae] 96 ?_;intro aj hg w7 hbox hb;have D:=ak hbox;have al:=gy hg HB;replace HB:=bs HB hb;clear hb hbox hg;obtain⟨_,_,_,_,_,_,_,_,_,_,_,_,_,_,_,_,_,_⟩:=bc9 D)|(go_at_call 34;(with_reducible refine(impl_IsAddress.calls J U X true _ A2.out).mono ?_);rintro e w9 ⟨rfl,hb⟩;replace D:=kf D hb;replace HB:=bs HB hb;clear hb;obtain⟨_,_,_,_,_,_,_,_,_,_,_,_,_,_,_,_,_,_⟩:=bc9 D)|(go_at_call 30;(with_reducible refine(impl_InRange.calls Z 0 1000 true _ A4.out).mono ?_);rintro e w' ⟨rfl,⟨nd,rfl⟩⟩)|(go_at_call 56;(with_reducible refine(impl_IsResource.calls k aa _ _ Y ab ac ae az _ ?side1 ao.out A6.out).mono ?_);(case side1=>exact Kd.C_below am.out PB);rintro e cd ⟨rfl,hb⟩;replace D:=kf D hb;replace HB:=bs HB hb;clear hb))
   go_ret
   exact⟨RT,PB⟩
  ·replace c5:=Bool.eq_false_iff.mpr c5;subst c5;rw[if_neg (show ¬(false=true) by decide)] at H;obtain rfl:=Option.some.inj H;go_enter Tryd.func55,Tryd.ntmps55;go_wp2_with (first|((with_reducible refine gate_dst (N:=1) rfl ?_);refine bx_ (N:=1) #[.int .i64 J,.int .i64 U,.int .i64 X,.int .i64 Z,.int .i64 aa,.slice af Y.length ag,.int .i64 ab,.int .i64 ac,.int .i64 ae] 96 ?_;intro aj hg ce hbox hb;have D:=ak hbox;have al:=gy hg HB;replace HB:=bs HB hb;clear hb hbox hg;obtain⟨ba,bb,bc,bd,_,_,_,_,_,bf,bg,bh,bi,_,_,_,_,_⟩:=bc9 D)|(go_at_call 34;(with_reducible refine(impl_IsAddress.calls J U X true _ A2.out).mono ?_);rintro e cf ⟨rfl,hb⟩;replace D:=kf D hb;replace HB:=bs HB hb;clear hb;obtain⟨bj,bk,bl,bm,_,_,_,_,_,bo,bp,br,bu,_,_,_,_,_⟩:=bc9 D)|(go_at_call 30;(with_reducible refine(impl_InRange.calls Z 0 1000 false _ A4.out).mono ?_);rintro e w' ⟨rfl,⟨nd,rfl⟩⟩))
   go_ret
   exact⟨RT,PB⟩
 ·replace c3:=Bool.eq_false_iff.mpr c3;subst c3;rw[if_neg (show ¬(false=true) by decide)] at H;obtain rfl:=Option.some.inj H;go_enter Tryd.func55,Tryd.ntmps55;go_wp2_with (first|((with_reducible refine gate_dst (N:=1) rfl ?_);refine bx_ (N:=1) #[.int .i64 J,.int .i64 U,.int .i64 X,.int .i64 Z,.int .i64 aa,.slice af Y.length ag,.int .i64 ab,.int .i64 ac,.int .i64 ae] 96 ?_;intro aj hg cg hbox hb;have D:=ak hbox;have al:=gy hg HB;replace HB:=bs HB hb;clear hb hbox hg;obtain⟨bv,bw,bx,bz,_,_,_,_,_,b0,b4,b5,b6,_,_,_,_,_⟩:=bc9 D)|(go_at_call 34;(with_reducible refine(impl_IsAddress.calls J U X false _ A2.out).mono ?_);rintro e ch ⟨rfl,hb⟩;replace D:=kf D hb;replace HB:=bs HB hb;clear hb))
  go_ret
  exact⟨RT,PB⟩
def slices_IndexFunc_55.l0:Nat→List (S96)→Int→Int→Option (Int)
  | 0,_,_,_=>none
  | k+1,J,X,D=>if D < X then(if 0≤D then(if D < (J.length:Int) then((impl_IsSite_lit1.f k ((rd_T96 J D).f0.f0) ((rd_T96 J D).f0.f1) ((rd_T96 J D).f0.f2) ((rd_T96 J D).f1) ((rd_T96 J D).f2.f0) ((rd_T96 J D).f2.f1) ((rd_T96 J D).f2.f2.f0) ((rd_T96 J D).f2.f2.f1) ((rd_T96 J D).f2.f2.f2)).bind fun U=>(if U=true then(some D) else(slices_IndexFunc_55.l0 k J X (wrap64 (D+1))))) else(none)) else(none)) else(some (-1))
def slices_IndexFunc_55.f (k:Nat)(D:List (S96))(J:Int):Option (Int):=slices_IndexFunc_55.l0 k D (D.length:Int) 0
theorem slices_IndexFunc_55.calls (k:Nat)(A0:Option Addr)(c0:Nat)(J:List (S96))(a1:Int)(r:Int)(w:World)(ay:Kd.C k96 w A0 J.length J)(az:J.length≤c0)(h:slices_IndexFunc_55.f k J a1=some r) :
  Calls Tryd.prog 69 #[.slice A0 J.length c0,.func (.func 55) #[] #[]] w fun e w'=>e = .returned (.int .i64 r)∧Below w.heap.size w w':=by
 have bk:=Tryd.underlying96;have ba:=ak ay;have bp:=ak az;clear ay az;have HB:=ak (Below.refl w.heap.size w);have H:=h;clear h;unfold slices_IndexFunc_55.f at H;have H':=ak H;clear H;go_enter Tryd.func69,Tryd.ntmps69;go_wp2
 go_loopg [8] k (fun kq v8 w'=>∃(D:Int),v8 = .int .i64 D∧Aside0 (slices_IndexFunc_55.l0 kq J (J.length:Int) D=some r)∧Aside0 (kq≤k)∧Aside0 (Below w.heap.size w w'))
 case atStart=>exact⟨(0),FR,H',⟨Nat.le_refl _⟩,⟨PB⟩⟩
 case round =>
  clear H'
  try clear p2
  obtain⟨D,rfl,HA,bb,HB⟩:=hrel
  cases gk with
  | zero=>exact absurd HA.out (by simp[slices_IndexFunc_55.l0])
  | succ k1 =>
   have H:=HA.out;clear HA;simp only[slices_IndexFunc_55.l0] at H
   by_cases c3:D < (J.length:Int)
   ·rw[if_pos c3] at H;have bd:decide (D < (J.length:Int))=true:=decide_eq_true c3;clear c3
    by_cases c4:0≤D
    ·rw[if_pos c4] at H;have bm:decide (0≤D)=true:=decide_eq_true c4;clear c4
     by_cases c5:D < (J.length:Int)
     ·rw[if_pos c5] at H;have bo:decide (D < (J.length:Int))=true:=decide_eq_true c5;clear c5;replace H:=Option.bind_eq_some_iff.mp H;obtain⟨bf,bc,H⟩:=H;(try dsimp only at H);have A6:=ak bc;clear bc
      by_cases c7:bf=true
      ·subst c7;rw[if_pos rfl] at H;obtain rfl:=Option.some.inj H;have ai:0≤(D:Int):=od;have aj:D < (J.length:Int):=od;obtain⟨ax,ao,ap,aq,U,X,Y,Z,aa,ab,ac,ae,af,ag,ah⟩:=at_T96 ba.out D ai aj;cases aq;replace U:=hx_ HB U;replace X:=hx_ HB X;replace Y:=hx_ HB Y;replace Z:=hx_ HB Z;replace aa:=hx_ HB aa;replace ab:=hx_ HB ab;replace ac:=hx_ HB ac;replace ae:=hx_ HB ae;replace af:=hx_ HB af;have al:=ak ah;have am:=ak ag;clear ah ag;replace ai:=eq_true ai;replace aj:=eq_true aj;go_wp2_with (first|((with_reducible refine gate_calleeV (n:=11) rfl ?_);refine goesLV_ (some 16) rfl rfl Tryd.func55 KR rfl #[.agg #[.int .i64 ((rd_T96 J D).f0.f0),.int .i64 ((rd_T96 J D).f0.f1),.int .i64 ((rd_T96 J D).f0.f2),.int .i64 ((rd_T96 J D).f1),.int .i64 ((rd_T96 J D).f2.f0),.slice ao ((rd_T96 J D).f2.f1).length ap,.int .i64 ((rd_T96 J D).f2.f2.f0),.int .i64 ((rd_T96 J D).f2.f2.f1),.int .i64 ((rd_T96 J D).f2.f2.f2)]] rfl AR ?_;(with_reducible refine(impl_IsSite_lit1.calls k1 ((rd_T96 J D).f0.f0) ((rd_T96 J D).f0.f1) ((rd_T96 J D).f0.f2) ((rd_T96 J D).f1) ((rd_T96 J D).f2.f0) _ _ ((rd_T96 J D).f2.f1) ((rd_T96 J D).f2.f2.f0) ((rd_T96 J D).f2.f2.f1) ((rd_T96 J D).f2.f2.f2) true _ ?side1 am.out A6.out).mono ?_);(case side1=>exact Cq al);rintro e w8 ⟨rfl,hb⟩;refine⟨_,rfl,?_⟩;replace HB:=bs HB hb;clear hb))
       go_ret
       exact⟨RT,PB⟩
      ·replace c7:=Bool.eq_false_iff.mpr c7;subst c7;rw[if_neg (show ¬(false=true) by decide)] at H;have H':=ak H;clear H;have ai:0≤(D:Int):=od;have aj:D < (J.length:Int):=od;obtain⟨ax,ao,ap,aq,U,X,Y,Z,aa,ab,ac,ae,af,ag,ah⟩:=at_T96 ba.out D ai aj;cases aq;replace U:=hx_ HB U;replace X:=hx_ HB X;replace Y:=hx_ HB Y;replace Z:=hx_ HB Z;replace aa:=hx_ HB aa;replace ab:=hx_ HB ab;replace ac:=hx_ HB ac;replace ae:=hx_ HB ae;replace af:=hx_ HB af;have al:=ak ah;have am:=ak ag;clear ah ag;replace ai:=eq_true ai;replace aj:=eq_true aj;go_wp2_with (first|((with_reducible refine gate_calleeV (n:=11) rfl ?_);refine goesLV_ (some 16) rfl rfl Tryd.func55 KR rfl #[.agg #[.int .i64 ((rd_T96 J D).f0.f0),.int .i64 ((rd_T96 J D).f0.f1),.int .i64 ((rd_T96 J D).f0.f2),.int .i64 ((rd_T96 J D).f1),.int .i64 ((rd_T96 J D).f2.f0),.slice ao ((rd_T96 J D).f2.f1).length ap,.int .i64 ((rd_T96 J D).f2.f2.f0),.int .i64 ((rd_T96 J D).f2.f2.f1),.int .i64 ((rd_T96 J D).f2.f2.f2)]] rfl AR ?_;(with_reducible refine(impl_IsSite_lit1.calls k1 ((rd_T96 J D).f0.f0) ((rd_T96 J D).f0.f1) ((rd_T96 J D).f0.f2) ((rd_T96 J D).f1) ((rd_T96 J D).f2.f0) _ _ ((rd_T96 J D).f2.f1) ((rd_T96 J D).f2.f2.f0) ((rd_T96 J D).f2.f2.f1) ((rd_T96 J D).f2.f2.f2) false _ ?side1 am.out A6.out).mono ?_);(case side1=>exact Cq al);rintro e w9 ⟨rfl,hb⟩;refine⟨_,rfl,?_⟩;replace HB:=bs HB hb;clear hb))
       go_roundg k1
       case measure=>have:=bb.out;omega
       case rel=>exact⟨(wrap64 (D+1)),FR,H',⟨by have:=bb.out;omega⟩,⟨PB⟩⟩
     ·rw[if_neg c5] at H;exact absurd H (by simp)
    ·rw[if_neg c4] at H;exact absurd H (by simp)
   ·rw[if_neg c3] at H;have bd:decide (D < (J.length:Int))=false:=decide_eq_false c3;clear c3;obtain rfl:=Option.some.inj H;go_wp2
    go_ret
    exact⟨RT,PB⟩
def slices_ContainsFunc_55.f (k:Nat)(J:List (S96))(U:Int):Option (Bool):=(slices_IndexFunc_55.f k J U).bind fun D=>(some (decide (D≥0)))
theorem slices_ContainsFunc_55.calls (k:Nat)(Y:Option Addr)(Z:Nat)(D:List (S96))(a1:Int)(r:Bool)(w:World)(J:Kd.C k96 w Y D.length D)(U:D.length≤Z)(h:slices_ContainsFunc_55.f k D a1=some r) :
  Calls Tryd.prog 54 #[.slice Y D.length Z,.func (.func 55) #[] #[]] w fun e w'=>e = .returned (.bool r)∧Below w.heap.size w w':=by
 have ac:=ak J;have ae:=ak U;clear J U;have HB:=ak (Below.refl w.heap.size w);have H:=h;clear h;unfold slices_ContainsFunc_55.f at H;replace H:=Option.bind_eq_some_iff.mp H;obtain⟨aa,X,H⟩:=H;(try dsimp only at H);have A3:=ak X;clear X;obtain rfl:=Option.some.inj H;go_enter Tryd.func54,Tryd.ntmps54;go_wp2_with (first|(go_at_call 69;(with_reducible refine(slices_IndexFunc_55.calls k _ _ D a1 aa _ ?side1 ae.out A3.out).mono ?_);(case side1=>exact CR (ac.out));rintro e w4 ⟨rfl,hb⟩;replace HB:=bs HB hb;clear hb))
 go_ret
 exact⟨RT,PB⟩
def impl_IsSite.f (k:Nat)(J:List (S96)):Option (Bool):=if (J.length:Int)≤12 then((slices_ContainsFunc_55.f k J 90000055).bind fun D=>(some (!D))) else(some false)
theorem impl_IsSite.calls (k:Nat)(A0:Option Addr)(c0:Nat)(D:List (S96))(r:Bool)(w:World)(U:Kd.C k96 w A0 D.length D)(X:D.length≤c0)(h:impl_IsSite.f k D=some r) :
  Calls Tryd.prog 29 #[.slice A0 D.length c0] w fun e w'=>e = .returned (.bool r)∧Below w.heap.size w w':=by
 have af:=ak U;have ag:=ak X;clear U X;have HB:=ak (Below.refl w.heap.size w);have H:=h;clear h;unfold impl_IsSite.f at H
 by_cases J:(D.length:Int)≤12
 ·rw[if_pos J] at H;have Z:decide ((D.length:Int)≤12)=true:=decide_eq_true J;have aa:decide (D.length≤12)=true:=decide_eq_true (by omega);clear J;replace H:=Option.bind_eq_some_iff.mp H;obtain⟨ab,Y,H⟩:=H;(try dsimp only at H);have A3:=ak Y;clear Y;obtain rfl:=Option.some.inj H;go_enter Tryd.func29,Tryd.ntmps29;go_wp2_with (first|(go_at_call 54;(with_reducible refine(slices_ContainsFunc_55.calls k _ _ D 90000055 ab _ ?side1 ag.out A3.out).mono ?_);(case side1=>exact CR (af.out));rintro e w4 ⟨rfl,hb⟩;replace HB:=bs HB hb;clear hb))
  go_ret
  exact⟨RT,PB⟩
 ·rw[if_neg J] at H;have Z:decide ((D.length:Int)≤12)=false:=decide_eq_false J;have aa:decide (D.length≤12)=false:=decide_eq_false (by omega);clear J;obtain rfl:=Option.some.inj H;go_enter Tryd.func29,Tryd.ntmps29;go_wp2
  go_ret
  exact⟨RT,PB⟩
def impl_IsVisit.f (k:Nat)(J:List (S96))(U:Int)(X:Int)(D:List Int):Option (Bool):=(impl_IsSite.f k J).bind fun Y=>(if Y=true then((impl_InRange.f U 0 1000).bind fun Z=>(if Z=true then((impl_InRange.f X 0 9999).bind fun aa=>(if aa=true then(if (D.length:Int)≤8 then((impl_allIn.f k D 0 999).bind fun ab=>(some ab)) else(some false)) else(some false))) else(some false))) else(some false))
theorem impl_IsVisit.calls (k:Nat)(X:Option Addr)(Y:Nat)(J:List (S96))(Z:Int)(aa:Int)(ab:Option Addr)(ac:Nat)(U:List Int)(r:Bool)(w:World)(ai:Kd.C k96 w X J.length J)(aj:J.length≤Y)(al:Kd.C (Kd.int .i64) w ab U.length U)(am:U.length≤ac)(h:impl_IsVisit.f k J Z aa U=some r) :
  Calls Tryd.prog 11 #[.agg #[.slice X J.length Y,.int .i64 Z,.int .i64 aa,.slice ab U.length ac]] w fun e w'=>e = .returned (.bool r)∧Below w.heap.size w w':=by
 have dr:=Tryd.underlying28;have ae:=ak ai;have af:=ak aj;clear ai aj;have aq:=ak al;have ar:=ak am;clear al am;have HB:=ak (Below.refl w.heap.size w);have H:=h;clear h;unfold impl_IsVisit.f at H;replace H:=Option.bind_eq_some_iff.mp H;obtain⟨bc,ay,H⟩:=H;(try dsimp only at H);have A2:=ak ay;clear ay
 by_cases c3:bc=true
 ·subst c3;rw[if_pos rfl] at H;replace H:=Option.bind_eq_some_iff.mp H;obtain⟨bd,az,H⟩:=H;(try dsimp only at H);have A4:=ak az;clear az
  by_cases c5:bd=true
  ·subst c5;rw[if_pos rfl] at H;replace H:=Option.bind_eq_some_iff.mp H;obtain⟨bf,ba,H⟩:=H;(try dsimp only at H);have A6:=ak ba;clear ba
   by_cases c7:bf=true
   ·subst c7;rw[if_pos rfl] at H
    by_cases c8:(U.length:Int)≤8
    ·rw[if_pos c8] at H;have bh:decide ((U.length:Int)≤8)=true:=decide_eq_true c8;have bi:decide (U.length≤8)=true:=decide_eq_true (by omega);clear c8;replace H:=Option.bind_eq_some_iff.mp H;obtain⟨bj,bb,H⟩:=H;(try dsimp only at H);have A9:=ak bb;clear bb;obtain rfl:=Option.some.inj H;go_enter Tryd.func11,Tryd.ntmps11;go_wp2_with (first|((with_reducible refine gate_dst (N:=1) rfl ?_);(try(refine gate_guard (by rfl) ?_;dsimp only));refine bx_ (N:=1) #[.slice X J.length Y,.int .i64 Z,.int .i64 aa,.slice ab U.length ac] 28 ?_;intro ag hg du hbox hb;have D:=ak hbox;have ah:=gy hg HB;replace HB:=bs HB hb;clear hb hbox hg;obtain⟨_,_,_,_,_,_,_,_⟩:=bc4 D)|(go_at_call 29;(with_reducible refine(impl_IsSite.calls k _ _ J true _ ?side1 af.out A2.out).mono ?_);(case side1=>exact Cq ae);rintro e dv ⟨rfl,hb⟩;replace D:=kf D hb;replace HB:=bs HB hb;clear hb;obtain⟨bk,bl,bm,bo,bp,br,bu,bv⟩:=bc4 D)|(go_at_call 30;(with_reducible refine(impl_InRange.calls Z 0 1000 true _ A4.out).mono ?_);rintro e w' ⟨rfl,⟨nd,rfl⟩⟩)|(go_at_call 30;(with_reducible refine(impl_InRange.calls aa 0 9999 true _ A6.out).mono ?_);rintro e w' ⟨rfl,⟨nd,rfl⟩⟩)|(go_at_call 31;(with_reducible refine(impl_allIn.calls k _ _ U 0 999 bj _ ?side1 ar.out A9.out).mono ?_);(case side1=>exact Kd.C_below aq.out PB);rintro e w' ⟨rfl,⟨nd,rfl⟩⟩))
     go_ret
     exact⟨RT,PB⟩
    ·rw[if_neg c8] at H;have bh:decide ((U.length:Int)≤8)=false:=decide_eq_false c8;have bi:decide (U.length≤8)=false:=decide_eq_false (by omega);clear c8;obtain rfl:=Option.some.inj H;go_enter Tryd.func11,Tryd.ntmps11;go_wp2_with (first|((with_reducible refine gate_dst (N:=1) rfl ?_);(try(refine gate_guard (by rfl) ?_;dsimp only));refine bx_ (N:=1) #[.slice X J.length Y,.int .i64 Z,.int .i64 aa,.slice ab U.length ac] 28 ?_;intro ag hg dw hbox hb;have D:=ak hbox;have ah:=gy hg HB;replace HB:=bs HB hb;clear hb hbox hg;obtain⟨bw,bx,bz,b0,b4,b5,b6,b7⟩:=bc4 D)|(go_at_call 29;(with_reducible refine(impl_IsSite.calls k _ _ J true _ ?side1 af.out A2.out).mono ?_);(case side1=>exact Cq ae);rintro e dx ⟨rfl,hb⟩;replace D:=kf D hb;replace HB:=bs HB hb;clear hb;obtain⟨b8,b9,ca,cb,cd,ce,cf,cg⟩:=bc4 D)|(go_at_call 30;(with_reducible refine(impl_InRange.calls Z 0 1000 true _ A4.out).mono ?_);rintro e w' ⟨rfl,⟨nd,rfl⟩⟩)|(go_at_call 30;(with_reducible refine(impl_InRange.calls aa 0 9999 true _ A6.out).mono ?_);rintro e w' ⟨rfl,⟨nd,rfl⟩⟩))
     go_ret
     exact⟨RT,PB⟩
   ·replace c7:=Bool.eq_false_iff.mpr c7;subst c7;rw[if_neg (show ¬(false=true) by decide)] at H;obtain rfl:=Option.some.inj H;go_enter Tryd.func11,Tryd.ntmps11;go_wp2_with (first|((with_reducible refine gate_dst (N:=1) rfl ?_);(try(refine gate_guard (by rfl) ?_;dsimp only));refine bx_ (N:=1) #[.slice X J.length Y,.int .i64 Z,.int .i64 aa,.slice ab U.length ac] 28 ?_;intro ag hg dy hbox hb;have D:=ak hbox;have ah:=gy hg HB;replace HB:=bs HB hb;clear hb hbox hg;obtain⟨ch,ci,cj,ck,cl,cm,cn,co⟩:=bc4 D)|(go_at_call 29;(with_reducible refine(impl_IsSite.calls k _ _ J true _ ?side1 af.out A2.out).mono ?_);(case side1=>exact Cq ae);rintro e dz ⟨rfl,hb⟩;replace D:=kf D hb;replace HB:=bs HB hb;clear hb;obtain⟨cp,cq,cr,ct,cu,cv,cw,cx⟩:=bc4 D)|(go_at_call 30;(with_reducible refine(impl_InRange.calls Z 0 1000 true _ A4.out).mono ?_);rintro e w' ⟨rfl,⟨nd,rfl⟩⟩)|(go_at_call 30;(with_reducible refine(impl_InRange.calls aa 0 9999 false _ A6.out).mono ?_);rintro e w' ⟨rfl,⟨nd,rfl⟩⟩))
    go_ret
    exact⟨RT,PB⟩
  ·replace c5:=Bool.eq_false_iff.mpr c5;subst c5;rw[if_neg (show ¬(false=true) by decide)] at H;obtain rfl:=Option.some.inj H;go_enter Tryd.func11,Tryd.ntmps11;go_wp2_with (first|((with_reducible refine gate_dst (N:=1) rfl ?_);(try(refine gate_guard (by rfl) ?_;dsimp only));refine bx_ (N:=1) #[.slice X J.length Y,.int .i64 Z,.int .i64 aa,.slice ab U.length ac] 28 ?_;intro ag hg d7 hbox hb;have D:=ak hbox;have ah:=gy hg HB;replace HB:=bs HB hb;clear hb hbox hg;obtain⟨cy,cz,da,db,dc,de,df,dg⟩:=bc4 D)|(go_at_call 29;(with_reducible refine(impl_IsSite.calls k _ _ J true _ ?side1 af.out A2.out).mono ?_);(case side1=>exact Cq ae);rintro e d8 ⟨rfl,hb⟩;replace D:=kf D hb;replace HB:=bs HB hb;clear hb;obtain⟨dh,di,dj,dk,dl,dn,dp,dq⟩:=bc4 D)|(go_at_call 30;(with_reducible refine(impl_InRange.calls Z 0 1000 false _ A4.out).mono ?_);rintro e w' ⟨rfl,⟨nd,rfl⟩⟩))
   go_ret
   exact⟨RT,PB⟩
 ·replace c3:=Bool.eq_false_iff.mpr c3;subst c3;rw[if_neg (show ¬(false=true) by decide)] at H;obtain rfl:=Option.some.inj H;go_enter Tryd.func11,Tryd.ntmps11;go_wp2_with (first|((with_reducible refine gate_dst (N:=1) rfl ?_);(try(refine gate_guard (by rfl) ?_;dsimp only));refine bx_ (N:=1) #[.slice X J.length Y,.int .i64 Z,.int .i64 aa,.slice ab U.length ac] 28 ?_;intro ag hg d9 hbox hb;have D:=ak hbox;have ah:=gy hg HB;replace HB:=bs HB hb;clear hb hbox hg;obtain⟨_,_,_,_,_,_,_,_⟩:=bc4 D)|(go_at_call 29;(with_reducible refine(impl_IsSite.calls k _ _ J false _ ?side1 af.out A2.out).mono ?_);(case side1=>exact Cq ae);rintro e ea ⟨rfl,hb⟩;replace D:=kf D hb;replace HB:=bs HB hb;clear hb))
  go_ret
  exact⟨RT,PB⟩
def impl_IsDone.f (J:List (S66))(D:Int)(U:List Int)(X:List Int)(Y:List Int):Option (Bool):=some (decide (D≥(J.length:Int)))
theorem impl_IsDone.calls (A0:Option Addr)(c0:Nat)(l0:List (S66))(X:Int)(Y:Option Addr)(Z:Nat)(D:List Int)(aa:Option Addr)(ab:Nat)(J:List Int)(ac:Option Addr)(ae:Nat)(U:List Int)(r:Bool)(w:World)(ap:Kd.C k66 w A0 l0.length l0)(aq:l0.length≤c0)(af:Kd.C (Kd.int .i64) w Y D.length D)(ag:D.length≤Z)(ah:Kd.C (Kd.int .i64) w aa J.length J)(ai:J.length≤ab)(aj:Kd.C (Kd.int .i64) w ac U.length U)(al:U.length≤ae)(h:impl_IsDone.f l0 X D J U=some r) :
  Calls Tryd.prog 14 #[.slice A0 l0.length c0,.agg #[.int .i64 X,.slice Y D.length Z,.slice aa J.length ab,.slice ac U.length ae]] w fun e w'=>e = .returned (.bool r)∧Below w.heap.size w w':=by
 have bd:=Tryd.underlying33;have bf:=ak ap;have bg:=ak aq;clear ap aq;have av:=ak af;have aw:=ak ag;clear af ag;have ax:=ak ah;have ay:=ak ai;clear ah ai;have az:=ak aj;have ba:=ak al;clear aj al;have HB:=ak (Below.refl w.heap.size w);have H:=h;clear h;unfold impl_IsDone.f at H;obtain rfl:=Option.some.inj H;go_enter Tryd.func14,Tryd.ntmps14;go_wp2_with (first|((with_reducible refine gate_dst (N:=3) rfl ?_);refine bx_ (N:=3) #[.int .i64 X,.slice Y D.length Z,.slice aa J.length ab,.slice ac U.length ae] 33 ?_;intro bb hg w3 hbox hb;have ao:=ak hbox;have bc:=gy hg HB;replace HB:=bs HB hb;clear hb hbox hg;obtain⟨_,_,_,_,_,_,_,_⟩:=bc4 ao))
 go_ret
 exact⟨RT,PB⟩
def impl_Asks.f (J:Int):Option (Bool):=(impl_InRange.f J 1 4).bind fun D=>(some D)
theorem impl_Asks.calls (D:Int)(r:Bool)(w:World)(h:impl_Asks.f D=some r) :
  Calls Tryd.prog 35 #[.int .i64 D] w fun e w'=>e = .returned (.bool r)∧Drawn0 w w':=by
 have H:=h;clear h;unfold impl_Asks.f at H;replace H:=Option.bind_eq_some_iff.mp H;obtain⟨U,J,H⟩:=H;(try dsimp only at H);have X:=ak J;clear J;obtain rfl:=Option.some.inj H;go_enter Tryd.func35,Tryd.ntmps35;go_wp2_with (first|(go_at_call 30;(with_reducible refine(impl_InRange.calls D 1 4 U _ X.out).mono ?_);rintro e w' ⟨rfl,⟨nd,rfl⟩⟩))
 go_ret
 exact⟨FR,by repeat(first|exact Drawn0.refl _ | apply Drawn0.step)⟩
def impl_IsState.f (k:Nat)(X:Int)(D:List Int)(J:List Int)(U:List Int):Option (Bool):=(impl_InRange.f X 0 19).bind fun Y=>(if Y=true then(if (D.length:Int)=4 then(if (J.length:Int)=3 then(if (U.length:Int)=4 then((impl_allIn.f k D 0 999).bind fun Z=>(if Z=true then((impl_allIn.f k J 0 999).bind fun aa=>(if aa=true then((impl_allIn.f k U 0 999).bind fun ab=>(some ab)) else(some false))) else(some false))) else(some false)) else(some false)) else(some false)) else(some false))
theorem impl_IsState.calls (k:Nat)(D:Int)(Z:Option Addr)(aa:Nat)(J:List Int)(ab:Option Addr)(ac:Nat)(U:List Int)(ae:Option Addr)(af:Nat)(X:List Int)(r:Bool)(w:World)(aq:Kd.C (Kd.int .i64) w Z J.length J)(ar:J.length≤aa)(au:Kd.C (Kd.int .i64) w ab U.length U)(av:U.length≤ac)(aw:Kd.C (Kd.int .i64) w ae X.length X)(ax:X.length≤af)(h:impl_IsState.f k D J U X=some r) :
  Calls Tryd.prog 58 #[.agg #[.int .i64 D,.slice Z J.length aa,.slice ab U.length ac,.slice ae X.length af]] w fun e w'=>e = .returned (.bool r)∧Below w.heap.size w w':=by
 have ec:=Tryd.underlying33;have ai:=ak aq;have aj:=ak ar;clear aq ar;have ay:=ak au;have az:=ak av;clear au av;have bc:=ak aw;have bd:=ak ax;clear aw ax;have HB:=ak (Below.refl w.heap.size w);have H:=h;clear h;unfold impl_IsState.f at H;replace H:=Option.bind_eq_some_iff.mp H;obtain⟨bk,bh,H⟩:=H;(try dsimp only at H);have A2:=ak bh;clear bh
 by_cases c3:bk=true
 ·subst c3;rw[if_pos rfl] at H
  by_cases c4:(J.length:Int)=4
  ·rw[if_pos c4] at H;have bl:((J.length:Int) == 4)=true:=beq_iff_eq.mpr c4;have bm:((J.length:Int) != 4)=false:=bne_eq_false_iff_eq.mpr c4;clear c4
   by_cases c5:(U.length:Int)=3
   ·rw[if_pos c5] at H;have bo:((U.length:Int) == 3)=true:=beq_iff_eq.mpr c5;have bp:((U.length:Int) != 3)=false:=bne_eq_false_iff_eq.mpr c5;clear c5
    by_cases c6:(X.length:Int)=4
    ·rw[if_pos c6] at H;have br:((X.length:Int) == 4)=true:=beq_iff_eq.mpr c6;have bu:((X.length:Int) != 4)=false:=bne_eq_false_iff_eq.mpr c6;clear c6;replace H:=Option.bind_eq_some_iff.mp H;obtain⟨bv,bi,H⟩:=H;(try dsimp only at H);have A7:=ak bi;clear bi
     by_cases c8:bv=true
     ·subst c8;rw[if_pos rfl] at H;replace H:=Option.bind_eq_some_iff.mp H;obtain⟨bx,bj,H⟩:=H;(try dsimp only at H);have A9:=ak bj;clear bj
      by_cases ba:bx=true
      ·subst ba;rw[if_pos rfl] at H;replace H:=Option.bind_eq_some_iff.mp H;obtain⟨bz,bb,H⟩:=H;(try dsimp only at H);have eb:=ak bb;clear bb;obtain rfl:=Option.some.inj H;go_enter Tryd.func58,Tryd.ntmps58;go_wp2_with (first|((with_reducible refine gate_dst (N:=1) rfl ?_);(try(refine gate_guard (by rfl) ?_;dsimp only));refine bx_ (N:=1) #[.int .i64 D,.slice Z J.length aa,.slice ab U.length ac,.slice ae X.length af] 33 ?_;intro ag hg ed hbox hb;have Y:=ak hbox;have ah:=gy hg HB;replace HB:=bs HB hb;clear hb hbox hg;obtain⟨b0,b4,b5,b6,b7,b8,b9,ca⟩:=bc4 Y)|(go_at_call 30;(with_reducible refine(impl_InRange.calls D 0 19 true _ A2.out).mono ?_);rintro e w' ⟨rfl,⟨nd,rfl⟩⟩)|(go_at_call 31;(with_reducible refine(impl_allIn.calls k _ _ J 0 999 true _ ?side1 aj.out A7.out).mono ?_);(case side1=>exact Kd.C_below ai.out PB);rintro e w' ⟨rfl,⟨nd,rfl⟩⟩)|(go_at_call 31;(with_reducible refine(impl_allIn.calls k _ _ U 0 999 true _ ?side1 az.out A9.out).mono ?_);(case side1=>exact Kd.C_below ay.out PB);rintro e w' ⟨rfl,⟨nd,rfl⟩⟩)|(go_at_call 31;(with_reducible refine(impl_allIn.calls k _ _ X 0 999 bz _ ?side1 bd.out eb.out).mono ?_);(case side1=>exact Kd.C_below bc.out PB);rintro e w' ⟨rfl,⟨nd,rfl⟩⟩))
       go_ret
       exact⟨RT,PB⟩
      ·replace ba:=Bool.eq_false_iff.mpr ba;subst ba;rw[if_neg (show ¬(false=true) by decide)] at H;obtain rfl:=Option.some.inj H;go_enter Tryd.func58,Tryd.ntmps58;go_wp2_with (first|((with_reducible refine gate_dst (N:=1) rfl ?_);(try(refine gate_guard (by rfl) ?_;dsimp only));refine bx_ (N:=1) #[.int .i64 D,.slice Z J.length aa,.slice ab U.length ac,.slice ae X.length af] 33 ?_;intro ag hg ee hbox hb;have Y:=ak hbox;have ah:=gy hg HB;replace HB:=bs HB hb;clear hb hbox hg;obtain⟨cb,cd,ce,cf,cg,ch,ci,cj⟩:=bc4 Y)|(go_at_call 30;(with_reducible refine(impl_InRange.calls D 0 19 true _ A2.out).mono ?_);rintro e w' ⟨rfl,⟨nd,rfl⟩⟩)|(go_at_call 31;(with_reducible refine(impl_allIn.calls k _ _ J 0 999 true _ ?side1 aj.out A7.out).mono ?_);(case side1=>exact Kd.C_below ai.out PB);rintro e w' ⟨rfl,⟨nd,rfl⟩⟩)|(go_at_call 31;(with_reducible refine(impl_allIn.calls k _ _ U 0 999 false _ ?side1 az.out A9.out).mono ?_);(case side1=>exact Kd.C_below ay.out PB);rintro e w' ⟨rfl,⟨nd,rfl⟩⟩))
       go_ret
       exact⟨RT,PB⟩
     ·replace c8:=Bool.eq_false_iff.mpr c8;subst c8;rw[if_neg (show ¬(false=true) by decide)] at H;obtain rfl:=Option.some.inj H;go_enter Tryd.func58,Tryd.ntmps58;go_wp2_with (first|((with_reducible refine gate_dst (N:=1) rfl ?_);(try(refine gate_guard (by rfl) ?_;dsimp only));refine bx_ (N:=1) #[.int .i64 D,.slice Z J.length aa,.slice ab U.length ac,.slice ae X.length af] 33 ?_;intro ag hg ef hbox hb;have Y:=ak hbox;have ah:=gy hg HB;replace HB:=bs HB hb;clear hb hbox hg;obtain⟨ck,cl,cm,cn,co,cp,cq,cr⟩:=bc4 Y)|(go_at_call 30;(with_reducible refine(impl_InRange.calls D 0 19 true _ A2.out).mono ?_);rintro e w' ⟨rfl,⟨nd,rfl⟩⟩)|(go_at_call 31;(with_reducible refine(impl_allIn.calls k _ _ J 0 999 false _ ?side1 aj.out A7.out).mono ?_);(case side1=>exact Kd.C_below ai.out PB);rintro e w' ⟨rfl,⟨nd,rfl⟩⟩))
      go_ret
      exact⟨RT,PB⟩
    ·rw[if_neg c6] at H;have br:((X.length:Int) == 4)=false:=beq_eq_false_iff_ne.mpr c6;have bu:((X.length:Int) != 4)=true:=bne_iff_ne.mpr c6;obtain rfl:=Option.some.inj H;go_enter Tryd.func58,Tryd.ntmps58;go_wp2_with (first|((with_reducible refine gate_dst (N:=1) rfl ?_);(try(refine gate_guard (by rfl) ?_;dsimp only));refine bx_ (N:=1) #[.int .i64 D,.slice Z J.length aa,.slice ab U.length ac,.slice ae X.length af] 33 ?_;intro ag hg eg hbox hb;have Y:=ak hbox;have ah:=gy hg HB;replace HB:=bs HB hb;clear hb hbox hg;obtain⟨ct,cu,cv,cw,cx,cy,cz,da⟩:=bc4 Y)|(go_at_call 30;(with_reducible refine(impl_InRange.calls D 0 19 true _ A2.out).mono ?_);rintro e w' ⟨rfl,⟨nd,rfl⟩⟩))
     go_ret
     exact⟨RT,PB⟩
   ·rw[if_neg c5] at H;have bo:((U.length:Int) == 3)=false:=beq_eq_false_iff_ne.mpr c5;have bp:((U.length:Int) != 3)=true:=bne_iff_ne.mpr c5;obtain rfl:=Option.some.inj H;go_enter Tryd.func58,Tryd.ntmps58;go_wp2_with (first|((with_reducible refine gate_dst (N:=1) rfl ?_);(try(refine gate_guard (by rfl) ?_;dsimp only));refine bx_ (N:=1) #[.int .i64 D,.slice Z J.length aa,.slice ab U.length ac,.slice ae X.length af] 33 ?_;intro ag hg eh hbox hb;have Y:=ak hbox;have ah:=gy hg HB;replace HB:=bs HB hb;clear hb hbox hg;obtain⟨db,dc,de,df,dg,dh,di,dj⟩:=bc4 Y)|(go_at_call 30;(with_reducible refine(impl_InRange.calls D 0 19 true _ A2.out).mono ?_);rintro e w' ⟨rfl,⟨nd,rfl⟩⟩))
    go_ret
    exact⟨RT,PB⟩
  ·rw[if_neg c4] at H;have bl:((J.length:Int) == 4)=false:=beq_eq_false_iff_ne.mpr c4;have bm:((J.length:Int) != 4)=true:=bne_iff_ne.mpr c4;obtain rfl:=Option.some.inj H;go_enter Tryd.func58,Tryd.ntmps58;go_wp2_with (first|((with_reducible refine gate_dst (N:=1) rfl ?_);(try(refine gate_guard (by rfl) ?_;dsimp only));refine bx_ (N:=1) #[.int .i64 D,.slice Z J.length aa,.slice ab U.length ac,.slice ae X.length af] 33 ?_;intro ag hg ei hbox hb;have Y:=ak hbox;have ah:=gy hg HB;replace HB:=bs HB hb;clear hb hbox hg;obtain⟨dk,dl,dn,dp,dq,dr,dt,du⟩:=bc4 Y)|(go_at_call 30;(with_reducible refine(impl_InRange.calls D 0 19 true _ A2.out).mono ?_);rintro e w' ⟨rfl,⟨nd,rfl⟩⟩))
   go_ret
   exact⟨RT,PB⟩
 ·replace c3:=Bool.eq_false_iff.mpr c3;subst c3;rw[if_neg (show ¬(false=true) by decide)] at H;obtain rfl:=Option.some.inj H;go_enter Tryd.func58,Tryd.ntmps58;go_wp2_with (first|((with_reducible refine gate_dst (N:=1) rfl ?_);(try(refine gate_guard (by rfl) ?_;dsimp only));refine bx_ (N:=1) #[.int .i64 D,.slice Z J.length aa,.slice ab U.length ac,.slice ae X.length af] 33 ?_;intro ag hg ej hbox hb;have Y:=ak hbox;have ah:=gy hg HB;replace HB:=bs HB hb;clear hb hbox hg;obtain⟨dv,dw,dx,dy,dz,d7,d8,d9⟩:=bc4 Y)|(go_at_call 30;(with_reducible refine(impl_InRange.calls D 0 19 false _ A2.out).mono ?_);rintro e w' ⟨rfl,⟨nd,rfl⟩⟩))
  go_ret
  exact⟨RT,PB⟩

end Go.Proofs.YtinnjgnipdjfhaaDoor.MFnRecordings
