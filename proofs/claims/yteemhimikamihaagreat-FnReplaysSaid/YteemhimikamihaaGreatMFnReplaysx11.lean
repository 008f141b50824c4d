import Derived.Test.YteemhimikamihaaGreatShr2
import Derived.Test.YteemhimikamihaaGreatMFnReplaysx0
import Derived.Test.YteemhimikamihaaGreatMFnReplaysx10
import Derived.Test.YteemhimikamihaaGreatRun
import Derived.Test.YteemhimikamihaaGreatMFnReplaysx9
namespace Go.Proofs.YteemhimikamihaaGreat.MFnReplays
open Go.RowKit Go.Proofs.YteemhimikamihaaGreatW.PrintWords Go.Proofs.YteemhimikamihaaGreatW.PrintLast Go.Proofs.YteemhimikamihaaGreatW.PrintMore
attribute [local go_sem] max2_int min2_int max_two min_two max_three min_three max_four min_four
set_option linter.unusedVariables false
set_option maxHeartbeats 8000000
set_option maxRecDepth 100000
set_option linter.unusedSimpArgs false

def slices_EqualFunc_11.l0:Nat→List (S35)→List (S35)→Int→Int→Option (Bool)
  | 0,_,_,_,_=>none
  | k+1,U,J,X,D=>if D < X then(if 0≤D then(if D < (J.length:Int) then(if D < (U.length:Int) then((impl_EqualStates.f k ((rd_T35 J D).f0) ((rd_T35 J D).f1) ((rd_T35 J D).f2) ((rd_T35 J D).f3) ((rd_T35 U D).f0) ((rd_T35 U D).f1) ((rd_T35 U D).f2) ((rd_T35 U D).f3)).bind fun Y=>(if Y=true then(slices_EqualFunc_11.l0 k U J X (wrap64 (D+1))) else(some false))) else(none)) else(none)) else(none)) else(some true)
def slices_EqualFunc_11.f (k:Nat)(D:List (S35))(J:List (S35))(U:Int):Option (Bool):=if (D.length:Int)=(J.length:Int) then(slices_EqualFunc_11.l0 k J D (D.length:Int) 0) else(some false)
theorem slices_EqualFunc_11.calls (k:Nat)(A0:Option Addr)(c0:Nat)(X:List (S35))(A1:Option Addr)(c1:Nat)(l1:List (S35))(a2:Int)(r:Bool)(w:World)(cv:Kd.C k35 w A0 X.length X)(cw:X.length≤c0)(cx:Kd.C k35 w A1 l1.length l1)(cy:l1.length≤c1)(h:slices_EqualFunc_11.f k X l1 a2=some r) :
  Calls Tryz.prog 29 #[.slice A0 X.length c0,.slice A1 l1.length c1,.func (.func 11) #[] #[]] w fun e w'=>e = .returned (.bool r)∧Below w.heap.size w w':=by
 have du:=Tryz.underlying35;have cz:=ak cv;have dy:=ak cw;clear cv cw;have da:=ak cx;have dz:=ak cy;clear cx cy;have HB:=ak (Below.refl w.heap.size w);have H:=h;clear h;unfold slices_EqualFunc_11.f at H
 by_cases c4:(X.length:Int)=(l1.length:Int)
 ·rw[if_pos c4] at H;obtain⟨cm,cn⟩:=eqq1 c4
  have co:(X.length == l1.length)=true:=by first|simpa using c4|(simp at c4 ⊢;omega)
  clear c4;have H':=ak H;clear H;go_enter Tryz.func29,Tryz.ntmps29;go_wp2
  go_loopg [17] k (fun kq dk w'=>∃(D:Int),dk = .int .i64 D∧Aside0 (slices_EqualFunc_11.l0 kq l1 X (X.length:Int) D=some r)∧Aside0 (kq≤k)∧Aside0 (Below w.heap.size w w'))
  case atStart=>exact⟨(0),FR,H',⟨Nat.le_refl _⟩,⟨PB⟩⟩
  case round =>
   clear H';(try clear c1);(try clear p2);(try clear c4);(try clear cm);(try clear cn);(try clear co);obtain⟨D,rfl,HA,db,HB⟩:=hrel
   cases gk with
   | zero=>exact absurd HA.out (by simp[slices_EqualFunc_11.l0])
   | succ k1 =>
    have H:=HA.out;clear HA;simp only[slices_EqualFunc_11.l0] at H
    by_cases c5:D < (X.length:Int)
    ·rw[if_pos c5] at H;have df:=decide_eq_true c5;clear c5
     by_cases c6:0≤D
     ·rw[if_pos c6] at H;have dv:=decide_eq_true c6;clear c6
      by_cases c7:D < (X.length:Int)
      ·rw[if_pos c7] at H;have dw:=decide_eq_true c7;clear c7
       by_cases c8:D < (l1.length:Int)
       ·rw[if_pos c8] at H;have dx:=decide_eq_true c8;clear c8;obtain⟨dg,A9,H⟩:=obq H;(try dsimp only at H)
        by_cases ck:dg=true
        ·subst ck;rw[if_pos rfl] at H;have H':=ak H;clear H;have bk:0≤(D:Int):=od;have bl:D < (X.length:Int):=od;obtain⟨ct,ab,ac,ae,ag,ah,ai,ci,ap,aq,ar,au,av,aw,ax,ay,az,ba⟩:=at_T35 cz.out D bk bl;cases ci;replace ap:=hx_ HB ap;replace aq:=hx_ HB aq;replace ar:=hx_ HB ar;replace au:=hx_ HB au;have br:=ak aw;have bu:=ak av;clear aw av;have bv:=ak ay;have bw:=ak ax;clear ay ax;have bx:=ak ba;have bz:=ak az;clear ba az;replace bk:=eq_true bk;replace bl:=eq_true bl;go_wp2_with (first|((with_reducible refine gate_dst (N:=8) rfl ?_);refine bx_ (N:=8) #[.int .i64 0,.slice none 0 0,.slice none 0 0,.slice none 0 0] 35 ?_;intro J hg d7 hbox hb;have aj:=ak hbox;have am:=gy hg HB;replace HB:=bs HB hb;clear hb hbox hg;obtain⟨_,_,_,_,_,_,_,_⟩:=bc4 aj;have bm:0≤(D:Int):=od;have bo:D < (l1.length:Int):=od;obtain⟨ao,ca,cb,cd,ce,cf,cg,cj,U,Y,Z,aa,bb,bc,bd,bf,bg,bh⟩:=at_T35 da.out D bm bo;cases cj;have hn857_0:ao.block≠J:=bn U am;have hn857_1:ao.block≠J:=bn U am;have hn857_2:ao.block≠J:=bn U am;have hn857_3:ao.block≠J:=bn U am;replace U:=hx_ HB U;replace Y:=hx_ HB Y;replace Z:=hx_ HB Z;replace aa:=hx_ HB aa;have b0:=ak bc;have b4:=ak bb;clear bc bb;have b5:=ak bf;have b6:=ak bd;clear bf bd;have b7:=ak bh;have b8:=ak bg;clear bh bg;replace U:=(cell_far (p:=⟨J,0,none⟩) (by first|(rw[add_block];exact hn857_0)|(show(Addr.add _ _).block≠_;rw[add_block];exact hn857_0)|exact hn857_0) (.int .i64 ((rd_T35 X D).f0))).trans U;replace Y:=(cell_far (p:=⟨J,0,none⟩) (by first|(rw[add_block];exact hn857_0)|(show(Addr.add _ _).block≠_;rw[add_block];exact hn857_0)|exact hn857_0) (.int .i64 ((rd_T35 X D).f0))).trans Y;replace Z:=(cell_far (p:=⟨J,0,none⟩) (by first|(rw[add_block];exact hn857_0)|(show(Addr.add _ _).block≠_;rw[add_block];exact hn857_0)|exact hn857_0) (.int .i64 ((rd_T35 X D).f0))).trans Z;replace aa:=(cell_far (p:=⟨J,0,none⟩) (by first|(rw[add_block];exact hn857_0)|(show(Addr.add _ _).block≠_;rw[add_block];exact hn857_0)|exact hn857_0) (.int .i64 ((rd_T35 X D).f0))).trans aa;replace U:=(cell_far (p:=⟨J,1,none⟩) (by first|(rw[add_block];exact hn857_1)|(show(Addr.add _ _).block≠_;rw[add_block];exact hn857_1)|exact hn857_1) (.slice ab ((rd_T35 X D).f1).length ac)).trans U;replace Y:=(cell_far (p:=⟨J,1,none⟩) (by first|(rw[add_block];exact hn857_1)|(show(Addr.add _ _).block≠_;rw[add_block];exact hn857_1)|exact hn857_1) (.slice ab ((rd_T35 X D).f1).length ac)).trans Y;replace Z:=(cell_far (p:=⟨J,1,none⟩) (by first|(rw[add_block];exact hn857_1)|(show(Addr.add _ _).block≠_;rw[add_block];exact hn857_1)|exact hn857_1) (.slice ab ((rd_T35 X D).f1).length ac)).trans Z;replace aa:=(cell_far (p:=⟨J,1,none⟩) (by first|(rw[add_block];exact hn857_1)|(show(Addr.add _ _).block≠_;rw[add_block];exact hn857_1)|exact hn857_1) (.slice ab ((rd_T35 X D).f1).length ac)).trans aa;replace U:=(cell_far (p:=⟨J,2,none⟩) (by first|(rw[add_block];exact hn857_2)|(show(Addr.add _ _).block≠_;rw[add_block];exact hn857_2)|exact hn857_2) (.slice ae ((rd_T35 X D).f2).length ag)).trans U;replace Y:=(cell_far (p:=⟨J,2,none⟩) (by first|(rw[add_block];exact hn857_2)|(show(Addr.add _ _).block≠_;rw[add_block];exact hn857_2)|exact hn857_2) (.slice ae ((rd_T35 X D).f2).length ag)).trans Y;replace Z:=(cell_far (p:=⟨J,2,none⟩) (by first|(rw[add_block];exact hn857_2)|(show(Addr.add _ _).block≠_;rw[add_block];exact hn857_2)|exact hn857_2) (.slice ae ((rd_T35 X D).f2).length ag)).trans Z;replace aa:=(cell_far (p:=⟨J,2,none⟩) (by first|(rw[add_block];exact hn857_2)|(show(Addr.add _ _).block≠_;rw[add_block];exact hn857_2)|exact hn857_2) (.slice ae ((rd_T35 X D).f2).length ag)).trans aa;replace U:=(cell_far (p:=⟨J,3,none⟩) (by first|(rw[add_block];exact hn857_3)|(show(Addr.add _ _).block≠_;rw[add_block];exact hn857_3)|exact hn857_3) (.slice ah ((rd_T35 X D).f3).length ai)).trans U;replace Y:=(cell_far (p:=⟨J,3,none⟩) (by first|(rw[add_block];exact hn857_3)|(show(Addr.add _ _).block≠_;rw[add_block];exact hn857_3)|exact hn857_3) (.slice ah ((rd_T35 X D).f3).length ai)).trans Y;replace Z:=(cell_far (p:=⟨J,3,none⟩) (by first|(rw[add_block];exact hn857_3)|(show(Addr.add _ _).block≠_;rw[add_block];exact hn857_3)|exact hn857_3) (.slice ah ((rd_T35 X D).f3).length ai)).trans Z;replace aa:=(cell_far (p:=⟨J,3,none⟩) (by first|(rw[add_block];exact hn857_3)|(show(Addr.add _ _).block≠_;rw[add_block];exact hn857_3)|exact hn857_3) (.slice ah ((rd_T35 X D).f3).length ai)).trans aa;clear hn857_0 hn857_1 hn857_2;clear hn857_3;replace bm:=eq_true bm;replace bo:=eq_true bo)|((with_reducible refine gate_dst (N:=9) rfl ?_);refine bx_ (N:=9) #[.int .i64 0,.slice none 0 0,.slice none 0 0,.slice none 0 0] 35 ?_;intro bp hg d8 hbox hb;have ch:=ak hbox;have cu:=gy hg HB;replace HB:=bs HB hb;have bi:=ak ((by rw[hg];exact Nat.ne_of_lt (blk_lt (g:=J) (o:=.cells #[.int .i64 ((rd_T35 X D).f0),.slice ab ((rd_T35 X D).f1).length ac,.slice ae ((rd_T35 X D).f2).length ag,.slice ah ((rd_T35 X D).f3).length ai] 35 (0,0)) (PX aj)):J≠bp));have bj:=ak ((by rw[hg];exact Nat.ne_of_gt (blk_lt (g:=J) (o:=.cells #[.int .i64 ((rd_T35 X D).f0),.slice ab ((rd_T35 X D).f1).length ac,.slice ae ((rd_T35 X D).f2).length ag,.slice ah ((rd_T35 X D).f3).length ai] 35 (0,0)) (PX aj)):bp≠J));replace aj:=kp (cs':=#[.int .i64 ((rd_T35 X D).f0),.slice ab ((rd_T35 X D).f1).length ac,.slice ae ((rd_T35 X D).f2).length ag,.slice ah ((rd_T35 X D).f3).length ai]) aj hb;clear hb hbox hg;have dn:=bj.out;have dp:=bi.out;obtain⟨_,_,_,_,_,_,_,_⟩:=bc4 ch;obtain⟨_,_,_,_,_,_,_,_⟩:=bc4 aj)|((with_reducible refine gate_calleeV (n:=26) rfl ?_);refine goesLV_ (some 29) rfl rfl Tryz.func11 KR rfl #[.agg #[.int .i64 ((rd_T35 X D).f0),.slice ab ((rd_T35 X D).f1).length ac,.slice ae ((rd_T35 X D).f2).length ag,.slice ah ((rd_T35 X D).f3).length ai],.agg #[.int .i64 ((rd_T35 l1 D).f0),.slice ca ((rd_T35 l1 D).f1).length cb,.slice cd ((rd_T35 l1 D).f2).length ce,.slice cf ((rd_T35 l1 D).f3).length cg]] rfl AR ?_;(with_reducible refine(impl_EqualStates.calls k1 ((rd_T35 X D).f0) _ _ ((rd_T35 X D).f1) _ _ ((rd_T35 X D).f2) _ _ ((rd_T35 X D).f3) ((rd_T35 l1 D).f0) _ _ ((rd_T35 l1 D).f1) _ _ ((rd_T35 l1 D).f2) _ _ ((rd_T35 l1 D).f3) true _ ?side1 bu.out ?side3 bw.out ?side5 bz.out ?side7 b4.out ?side9 b6.out ?side11 b8.out A9.out).mono ?_);(case side1=>exact Kd.C_below br.out PB);(case side3=>exact Kd.C_below bv.out PB);(case side5=>exact Kd.C_below bx.out PB);(case side7=>exact Kd.C_below b0.out PB);(case side9=>exact Kd.C_below b5.out PB);(case side11=>exact Kd.C_below b7.out PB);rintro e d9 ⟨rfl,hb⟩;refine⟨_,rfl,?_⟩;replace HB:=bs HB hb;clear hb))
         go_roundg k1
         case measure=>have:=db.out;omega
         case rel=>exact⟨(wrap64 (D+1)),FR,H',⟨by have:=db.out;omega⟩,⟨PB⟩⟩
        ·replace ck:=Bool.eq_false_iff.mpr ck;subst ck;rw[if_neg nft] at H;obtain rfl:=Option.some.inj H;have bk:0≤(D:Int):=od;have bl:D < (X.length:Int):=od;obtain⟨ct,ab,ac,ae,ag,ah,ai,ci,ap,aq,ar,au,av,aw,ax,ay,az,ba⟩:=at_T35 cz.out D bk bl;cases ci;replace ap:=hx_ HB ap;replace aq:=hx_ HB aq;replace ar:=hx_ HB ar;replace au:=hx_ HB au;have br:=ak aw;have bu:=ak av;clear aw av;have bv:=ak ay;have bw:=ak ax;clear ay ax;have bx:=ak ba;have bz:=ak az;clear ba az;replace bk:=eq_true bk;replace bl:=eq_true bl;go_wp2_with (first|((with_reducible refine gate_dst (N:=8) rfl ?_);refine bx_ (N:=8) #[.int .i64 0,.slice none 0 0,.slice none 0 0,.slice none 0 0] 35 ?_;intro J hg ea hbox hb;have aj:=ak hbox;have am:=gy hg HB;replace HB:=bs HB hb;clear hb hbox hg;obtain⟨_,_,_,_,_,_,_,_⟩:=bc4 aj;have bm:0≤(D:Int):=od;have bo:D < (l1.length:Int):=od;obtain⟨ao,ca,cb,cd,ce,cf,cg,cj,U,Y,Z,aa,bb,bc,bd,bf,bg,bh⟩:=at_T35 da.out D bm bo;cases cj;have hn857_0:ao.block≠J:=bn U am;have hn857_1:ao.block≠J:=bn U am;have hn857_2:ao.block≠J:=bn U am;have hn857_3:ao.block≠J:=bn U am;replace U:=hx_ HB U;replace Y:=hx_ HB Y;replace Z:=hx_ HB Z;replace aa:=hx_ HB aa;have b0:=ak bc;have b4:=ak bb;clear bc bb;have b5:=ak bf;have b6:=ak bd;clear bf bd;have b7:=ak bh;have b8:=ak bg;clear bh bg;replace U:=(cell_far (p:=⟨J,0,none⟩) (by first|(rw[add_block];exact hn857_0)|(show(Addr.add _ _).block≠_;rw[add_block];exact hn857_0)|exact hn857_0) (.int .i64 ((rd_T35 X D).f0))).trans U;replace Y:=(cell_far (p:=⟨J,0,none⟩) (by first|(rw[add_block];exact hn857_0)|(show(Addr.add _ _).block≠_;rw[add_block];exact hn857_0)|exact hn857_0) (.int .i64 ((rd_T35 X D).f0))).trans Y;replace Z:=(cell_far (p:=⟨J,0,none⟩) (by first|(rw[add_block];exact hn857_0)|(show(Addr.add _ _).block≠_;rw[add_block];exact hn857_0)|exact hn857_0) (.int .i64 ((rd_T35 X D).f0))).trans Z;replace aa:=(cell_far (p:=⟨J,0,none⟩) (by first|(rw[add_block];exact hn857_0)|(show(Addr.add _ _).block≠_;rw[add_block];exact hn857_0)|exact hn857_0) (.int .i64 ((rd_T35 X D).f0))).trans aa;replace U:=(cell_far (p:=⟨J,1,none⟩) (by first|(rw[add_block];exact hn857_1)|(show(Addr.add _ _).block≠_;rw[add_block];exact hn857_1)|exact hn857_1) (.slice ab ((rd_T35 X D).f1).length ac)).trans U;replace Y:=(cell_far (p:=⟨J,1,none⟩) (by first|(rw[add_block];exact hn857_1)|(show(Addr.add _ _).block≠_;rw[add_block];exact hn857_1)|exact hn857_1) (.slice ab ((rd_T35 X D).f1).length ac)).trans Y;replace Z:=(cell_far (p:=⟨J,1,none⟩) (by first|(rw[add_block];exact hn857_1)|(show(Addr.add _ _).block≠_;rw[add_block];exact hn857_1)|exact hn857_1) (.slice ab ((rd_T35 X D).f1).length ac)).trans Z;replace aa:=(cell_far (p:=⟨J,1,none⟩) (by first|(rw[add_block];exact hn857_1)|(show(Addr.add _ _).block≠_;rw[add_block];exact hn857_1)|exact hn857_1) (.slice ab ((rd_T35 X D).f1).length ac)).trans aa;replace U:=(cell_far (p:=⟨J,2,none⟩) (by first|(rw[add_block];exact hn857_2)|(show(Addr.add _ _).block≠_;rw[add_block];exact hn857_2)|exact hn857_2) (.slice ae ((rd_T35 X D).f2).length ag)).trans U;replace Y:=(cell_far (p:=⟨J,2,none⟩) (by first|(rw[add_block];exact hn857_2)|(show(Addr.add _ _).block≠_;rw[add_block];exact hn857_2)|exact hn857_2) (.slice ae ((rd_T35 X D).f2).length ag)).trans Y;replace Z:=(cell_far (p:=⟨J,2,none⟩) (by first|(rw[add_block];exact hn857_2)|(show(Addr.add _ _).block≠_;rw[add_block];exact hn857_2)|exact hn857_2) (.slice ae ((rd_T35 X D).f2).length ag)).trans Z;replace aa:=(cell_far (p:=⟨J,2,none⟩) (by first|(rw[add_block];exact hn857_2)|(show(Addr.add _ _).block≠_;rw[add_block];exact hn857_2)|exact hn857_2) (.slice ae ((rd_T35 X D).f2).length ag)).trans aa;replace U:=(cell_far (p:=⟨J,3,none⟩) (by first|(rw[add_block];exact hn857_3)|(show(Addr.add _ _).block≠_;rw[add_block];exact hn857_3)|exact hn857_3) (.slice ah ((rd_T35 X D).f3).length ai)).trans U;replace Y:=(cell_far (p:=⟨J,3,none⟩) (by first|(rw[add_block];exact hn857_3)|(show(Addr.add _ _).block≠_;rw[add_block];exact hn857_3)|exact hn857_3) (.slice ah ((rd_T35 X D).f3).length ai)).trans Y;replace Z:=(cell_far (p:=⟨J,3,none⟩) (by first|(rw[add_block];exact hn857_3)|(show(Addr.add _ _).block≠_;rw[add_block];exact hn857_3)|exact hn857_3) (.slice ah ((rd_T35 X D).f3).length ai)).trans Z;replace aa:=(cell_far (p:=⟨J,3,none⟩) (by first|(rw[add_block];exact hn857_3)|(show(Addr.add _ _).block≠_;rw[add_block];exact hn857_3)|exact hn857_3) (.slice ah ((rd_T35 X D).f3).length ai)).trans aa;clear hn857_0 hn857_1 hn857_2;clear hn857_3;replace bm:=eq_true bm;replace bo:=eq_true bo)|((with_reducible refine gate_dst (N:=9) rfl ?_);refine bx_ (N:=9) #[.int .i64 0,.slice none 0 0,.slice none 0 0,.slice none 0 0] 35 ?_;intro bp hg eb hbox hb;have ch:=ak hbox;have cu:=gy hg HB;replace HB:=bs HB hb;have bi:=ak ((by rw[hg];exact Nat.ne_of_lt (blk_lt (g:=J) (o:=.cells #[.int .i64 ((rd_T35 X D).f0),.slice ab ((rd_T35 X D).f1).length ac,.slice ae ((rd_T35 X D).f2).length ag,.slice ah ((rd_T35 X D).f3).length ai] 35 (0,0)) (PX aj)):J≠bp));have bj:=ak ((by rw[hg];exact Nat.ne_of_gt (blk_lt (g:=J) (o:=.cells #[.int .i64 ((rd_T35 X D).f0),.slice ab ((rd_T35 X D).f1).length ac,.slice ae ((rd_T35 X D).f2).length ag,.slice ah ((rd_T35 X D).f3).length ai] 35 (0,0)) (PX aj)):bp≠J));replace aj:=kp (cs':=#[.int .i64 ((rd_T35 X D).f0),.slice ab ((rd_T35 X D).f1).length ac,.slice ae ((rd_T35 X D).f2).length ag,.slice ah ((rd_T35 X D).f3).length ai]) aj hb;clear hb hbox hg;have dq:=bj.out;have dr:=bi.out;obtain⟨_,_,_,_,_,_,_,_⟩:=bc4 ch;obtain⟨_,_,_,_,_,_,_,_⟩:=bc4 aj)|((with_reducible refine gate_calleeV (n:=26) rfl ?_);refine goesLV_ (some 29) rfl rfl Tryz.func11 KR rfl #[.agg #[.int .i64 ((rd_T35 X D).f0),.slice ab ((rd_T35 X D).f1).length ac,.slice ae ((rd_T35 X D).f2).length ag,.slice ah ((rd_T35 X D).f3).length ai],.agg #[.int .i64 ((rd_T35 l1 D).f0),.slice ca ((rd_T35 l1 D).f1).length cb,.slice cd ((rd_T35 l1 D).f2).length ce,.slice cf ((rd_T35 l1 D).f3).length cg]] rfl AR ?_;(with_reducible refine(impl_EqualStates.calls k1 ((rd_T35 X D).f0) _ _ ((rd_T35 X D).f1) _ _ ((rd_T35 X D).f2) _ _ ((rd_T35 X D).f3) ((rd_T35 l1 D).f0) _ _ ((rd_T35 l1 D).f1) _ _ ((rd_T35 l1 D).f2) _ _ ((rd_T35 l1 D).f3) false _ ?side1 bu.out ?side3 bw.out ?side5 bz.out ?side7 b4.out ?side9 b6.out ?side11 b8.out A9.out).mono ?_);(case side1=>exact Kd.C_below br.out PB);(case side3=>exact Kd.C_below bv.out PB);(case side5=>exact Kd.C_below bx.out PB);(case side7=>exact Kd.C_below b0.out PB);(case side9=>exact Kd.C_below b5.out PB);(case side11=>exact Kd.C_below b7.out PB);rintro e ec ⟨rfl,hb⟩;refine⟨_,rfl,?_⟩;replace HB:=bs HB hb;clear hb))
         go_ret
         exact⟨RT,PB⟩
       ·rw[if_neg c8] at H;exact absurd H (by simp)
      ·rw[if_neg c7] at H;exact absurd H (by simp)
     ·rw[if_neg c6] at H;exact absurd H (by simp)
    ·rw[if_neg c5] at H;have df:=decide_eq_false c5;clear c5;obtain rfl:=Option.some.inj H;go_wp2
     go_ret
     exact⟨RT,PB⟩
 ·rw[if_neg c4] at H;obtain⟨cm,cn⟩:=eqq2 c4
  have co:(X.length == l1.length)=false:=by first|simpa using c4|(simp at c4 ⊢;omega)
  obtain rfl:=Option.some.inj H;go_enter Tryz.func29,Tryz.ntmps29;go_wp2
  go_ret
  exact⟨RT,PB⟩

abbrev b24_0:Array Bool:=mkB 15 32767
abbrev b24_1:Array Bool:=mkB 15 16383
abbrev b24_2:Array Bool:=mkB 15 8191
abbrev b24_3:Array Bool:=mkB 15 4095
abbrev b24_4:Array Bool:=mkB 15 2047
abbrev b24_9:Array Bool:=mkB 15 255
abbrev b24_10:Array Bool:=mkB 15 127
abbrev b24_11:Array Bool:=mkB 15 63
abbrev b24_12:Array Bool:=mkB 15 31
abbrev b24_13:Array Bool:=mkB 15 15
abbrev b24_14:Array Bool:=mkB 15 7
abbrev b24_15:Array Bool:=mkB 15 3
abbrev b24_16:Array Bool:=mkB 15 1
abbrev b24_17:Array Bool:=#[false,false,false,false,false,false,false,false,false,false,false,false,false,false,false]
theorem impl_IsFaithful.fld (w:World)(x y z:Int)(a b c:Value):(Instr.field 39 (.agg #[.int .i64 x,.int .i64 y,.int .i64 z,a,b,c]) 0).run Tryz.prog w = .ok (.int .i64 x) w:=by kernel_rfl
attribute [local go_sem high] impl_IsFaithful.fld
def impl_IsFaithful.f (k:Nat)(Z:List (S57))(J:List (S83))(U:Int)(X:Int)(Y:List Int):Option (Bool):=(impl_RecordVisit.f k Z J U X Y).bind fun D=>((impl_Replay.f k Z D.1).bind fun aa=>(if aa.1=0 then((impl_TraceReplay.f k Z D.1).bind fun ab=>((impl_TraceVisit.f k Z J U X Y).bind fun ac=>((slices_EqualFunc_11.f k ab ac 90000011).bind fun ae=>(some ae)))) else(some false)))
def impl_IsFaithful.T2:Bool×List (List Nat×List Nat):=(true,[([],[]),([],[]),([0,1],[0,1]),([2],[2]),([3],[3]),([4,2],[4]),([5],[5]),([5],[5]),([6,7,5,5],[5,6,7]),([5],[5]),([5],[5]),([9,10,8,5],[5,9,10]),([8,11,11,5],[5,8,11]),([5,12],[5,12]),([13,12,0,1,2,3,4,5,6,7,8,9,10,11,12,13],[13])])
def impl_IsFaithful.B2:List Nat:=[0,0,3,7,15,31,63,63,255,63,63,2047,4095,8191,16383]
theorem impl_IsFaithful.tab2:rtab .any (opsOf Tryz.f10 2)=impl_IsFaithful.T2:=by kernel_rfl
theorem impl_IsFaithful.bits2:waitsOk impl_IsFaithful.T2.2 impl_IsFaithful.B2=true:=by kernel_rfl
theorem impl_IsFaithful.calls (k:Nat)(A0:Option Addr)(c0:Nat)(l0:List (S57))(bf:Option Addr)(bg:Nat)(ab:List (S83))(ag:Int)(ah:Int)(bh:Option Addr)(bi:Nat)(ac:List Int)(r:Bool)(w:World)(cr:Kd.C k57 w A0 l0.length l0)(ct:l0.length≤c0)(bw:Kd.C k83 w bf ab.length ab)(bx:ab.length≤bg)(bz:Kd.C (Kd.int .i64) w bh ac.length ac)(b0:ac.length≤bi)(h:impl_IsFaithful.f k l0 ab ag ah ac=some r) :
  Calls Tryz.prog 10 #[.slice A0 l0.length c0,.agg #[.slice bf ab.length bg,.int .i64 ag,.int .i64 ah,.slice bh ac.length bi]] w fun e w'=>e = .returned (.bool r)∧Below w.heap.size w w':=by
 have dq:=Tryz.underlying28;have dr:=Tryz.underlying35;have bl:=ak cr;have bm:=ak ct;clear cr ct;have b4:=ak bw;have b5:=ak bx;clear bw bx;have b6:=ak bz;have b7:=ak b0;clear bz b0;have HB:=ak (Below.refl w.heap.size w);have H:=h;clear h;unfold impl_IsFaithful.f at H;obtain⟨⟨ae,ao,ap,aq,ar⟩,A3,H⟩:=obq H;(try dsimp only at H);obtain⟨⟨au,b8,b9,ca,cb,cd⟩,A4,H⟩:=obq H;(try dsimp only at H);go_enter Tryz.func10,Tryz.ntmps10
 try go_wp2_with (first|((with_reducible refine gate_dst (N:=3) rfl ?_);refine bx_ (N:=3) #[.slice bf ab.length bg,.int .i64 ag,.int .i64 ah,.slice bh ac.length bi] 28 ?_;intro bj hg w9 hbox hb;have D:=ak hbox;have dp:=gy hg HB;replace HB:=bs HB hb;clear hb hbox hg;obtain⟨_,_,_,_,_,_,_,_⟩:=bc4 D)|((with_reducible refine gate_callee (f:=8) rfl ?_);refine hold_ ?_))
 (refine unhold_ ?_;refine goesL_ (some 10) rfl rfl Tryz.func8 KR rfl #[.slice A0 l0.length c0,.agg #[.slice bf ab.length bg,.int .i64 ag,.int .i64 ah,.slice bh ac.length bi]] rfl AR ?_;(with_reducible refine(impl_RecordVisit.calls k _ _ l0 _ _ ab ag ah _ _ ac ae ao ap aq ar _ ?side1 bm.out ?side3 b5.out ?side5 b7.out A3.out).mono ?_);(case side1=>exact Cq bl);(case side3=>exact Cq b4);(case side5=>exact Cq b6);rintro e d9 ⟨ce,du,dv,dw,rfl,ho0,ho1,ho2,ho3,hb⟩;refine⟨_,rfl,?_⟩;have Y:=Rn0 ho0 HB;have J:=Rn0 ho1 HB;have U:=Rn0 ho2 HB;have X:=Rn0 ho3 HB;replace D:=kf D hb;replace HB:=bs HB hb;clear hb ho0 ho1 ho2 ho3)
 by_cases c5:au=0
 ·rw[if_pos c5] at H;obtain⟨cz,da⟩:=eqq1 c5;clear c5;obtain⟨bu,A6,H⟩:=obq H;(try dsimp only at H);obtain⟨bv,A7,H⟩:=obq H;(try dsimp only at H);obtain⟨db,A8,H⟩:=obq H;(try dsimp only at H);obtain rfl:=Option.some.inj H
  try go_wp2_with (first|((with_reducible refine gate_dst (N:=6) rfl ?_);refine bx_ (N:=6) #[.int .i64 0,.slice none 0 0,.slice none 0 0,.slice none 0 0] 35 ?_;intro aa hg cf hbox hb;replace Y:=Rb Y hb;replace J:=Rb J hb;replace U:=Rb U hb;replace X:=Rb X hb;have Z:=ak hbox;have co:=gy hg HB;replace HB:=bs HB hb;have ai:=gm hg D;have aj:=gn hg D;replace D:=kf D hb;clear hb hbox hg;have cp:=aj.out;have cq:=ai.out;obtain⟨_,_,_,_,_,_,_,_⟩:=bc4 Z;obtain⟨av,aw,rfl⟩:=Kd.R_slice J.out;obtain⟨ax,ay,rfl⟩:=Kd.R_slice U.out;obtain⟨az,ba,rfl⟩:=Kd.R_slice X.out))
  generalize hW_:((((cf.setCell ⟨aa,0,none⟩ (.int .i64 ao)).setCell ⟨aa,1,none⟩ (.slice av ap.length aw)).setCell ⟨aa,2,none⟩ (.slice ax aq.length ay)).setCell ⟨aa,3,none⟩ (.slice az ar.length ba))=cg;replace Y:Aside0 (Kd.R k50 50 cg w.heap.size (fun _=>True) ce ae):=⟨by rw[←hW_];exact RX (Rt Y.out Z) (fun _ hk=>trivial)⟩;replace J:=R1 hW_ J Z;replace U:=R1 hW_ U Z;replace X:=R1 hW_ X Z;replace D:=BE hW_ D;replace Z:Aside0 (cg.heap[aa]?=some (.cells #[.int .i64 ao,.slice av ap.length aw,.slice ax aq.length ay,.slice az ar.length ba] 35 (0,0))):=BP hW_ Z;replace HB:=BL hW_ HB;(try clear hW_);replace Y:=ak (Kd.R_drew Y.out);replace J:=ak (Kd.R_drew J.out);replace U:=ak (Kd.R_drew U.out);replace X:=ak (Kd.R_drew X.out);replace D:=ak (blk_drew D.out);replace Z:=ak (blk_drew Z.out);replace HB:=ak (below_drew1 HB.out);obtain⟨ch,ci,cj⟩:=Kd.R_slice Y.out;(first|subst cj|(injection cj with f1_ f2_ f3_;have f4_:=f1_.symm;have f5_:=f3_.symm;clear f1_ f2_ f3_;subst f4_;subst f5_));refine start_ (n:=15) (S:=fun w'=>w'.cell? ⟨bj,0,none⟩=some (.slice bf ab.length bg)∧w'.cell? ⟨bj,1,none⟩=some (.int .i64 ag)∧w'.cell? ⟨bj,2,none⟩=some (.int .i64 ah)∧w'.cell? ⟨bj,3,none⟩=some (.slice bh ac.length bi)) (ds:=[]) b24_17 KR rfl rfl ⟨bq D 0,bq D 1,bq D 2,bq D 3⟩ (fun hHeld=>?_);refine with_tabW impl_IsFaithful.tab2 impl_IsFaithful.bits2 (fun HT_ HW_=>?_)
  generalize cg.drew=ea at Y J U X D Z HB hHeld ⊢
  refine pu_ (i:=0) (N:=some 13) b24_16 HT_ ?_;refine pu_ (i:=1) (N:=some 14) b24_15 HT_ ?_;refine one_ (i:=2) (N:=some 15) b24_14 rfl rfl (one_of HT_.out KR) (by decide) (fun K hK=>?_);refine goes_ Tryz.func9 KR rfl #[.slice A0 l0.length c0,.slice ch ae.length ci] (by rfl) rfl rfl AR ?_
  with_reducible refine(impl_Replay.calls k _ _ l0 _ _ ae au b8 b9 ca cb cd _ ?side1 ?side2 ?side3 ?side4 A4.out).mono ?_
  (case side1=>exact Cq bl);(case side2=>exact bm.out);(case side3=>exact CR (rr Y));(case side4=>exact rl Y);rintro e eb ⟨dc,de,df,rfl,ho0,ho1,ho2,hb⟩;refine⟨_,rfl,?_⟩;replace Y:=Rb Y hb;have bb:=Rn3 ho0 HB J U X;have bc:=Rn3 ho1 HB J U X;have bd:=Rn3 ho2 HB J U X;replace J:=Ro3 (W1:=w) (W2:=w) (W3:=w) (base1:=0) (base2:=0) (base3:=0) J hb ho0 ho1 ho2;replace U:=Ro3 (W1:=w) (W2:=w) (W3:=w) (base1:=0) (base2:=0) (base3:=0) U hb ho0 ho1 ho2;replace X:=Ro3 (W1:=w) (W2:=w) (W3:=w) (base1:=0) (base2:=0) (base3:=0) X hb ho0 ho1 ho2;replace D:=kf D hb;replace Z:=kf Z hb;replace HB:=bs HB hb;(try clear hb);(try clear hb2);(try clear hk);(try clear hi);(try clear ho0);(try clear ho1);(try clear ho2);refine hK.out _ _ ⟨bq D 0,bq D 1,bq D 2,bq D 3⟩ (fun hHeld=>?_);clear hK K;refine nq_ (N:=(some 15)) ?_
  refine pu_ (i:=3) (N:=some 16) b24_13 HT_ ?_;refine pu_ (i:=4) (N:=some 17) b24_12 HT_ ?_;refine pu_ (i:=5) (N:=some 18) b24_11 HT_ ?_;refine pu_ (i:=6) (N:=some 19) b24_10 HT_ ?_;refine pu_ (i:=7) (N:=some 20) b24_9 HT_ ?_;refine pu_ (i:=9) (N:=some 22) #[true,true,true,true,true,true,true,true,false,true,false,false,false,false,false] HT_ ?_;refine tk_ (i:=10) (N:=some 23) #[true,true,true,true,true,true,true,true,false,true,true,false,false,false,false] rfl rfl HT_ HW_ hHeld ?_;refine one_ (i:=8) (N:=some 21) b24_4 rfl rfl (one_of HT_.out KR) (by decide) (fun K hK=>?_);refine goes_ Tryz.func13 KR rfl #[.slice A0 l0.length c0,.slice ch ae.length ci] (by rfl) rfl rfl AR ?_
  with_reducible refine(impl_TraceReplay.calls k _ _ l0 _ _ ae bu _ ?side1 ?side2 ?side3 ?side4 A6.out).mono ?_
  (case side1=>exact Cq bl);(case side2=>exact bm.out);(case side3=>exact CR (rr Y));(case side4=>exact rl Y);rintro e ec ⟨d7,rfl,ho0,hb⟩;refine⟨_,rfl,?_⟩;have al:=ak (Kd.S_lower (Kd.S_newB (Kd.S_new' (Kd.S_new' (Kd.S_new' (Kd.S_new' (Kd.S_new' (Kd.S_new' ho0 (Kd.R_lt (PR J))) (Kd.R_lt (PR U))) (Kd.R_lt (PR X))) (Kd.R_lt (PR bb))) (Kd.R_lt (PR bc))) (Kd.R_lt (PR bd))) (g:=aa) (o:=.cells #[.int .i64 ao,.slice av ap.length aw,.slice ax aq.length ay,.slice az ar.length ba] 35 (0,0)) (PK Z)) (below_size PB));replace J:=Rb J hb;replace U:=Rb U hb;replace X:=Rb X hb;replace bb:=Rb bb hb;replace bc:=Rb bc hb;replace bd:=Rb bd hb;replace D:=kf D hb;replace Z:=kf Z hb;replace HB:=bs HB hb;(try clear hb);(try clear hb2);(try clear hk);(try clear hi);(try clear ho0);refine hK.out _ _ ⟨bq D 0,bq D 1,bq D 2,bq D 3⟩ (fun hHeld=>?_);clear hK K;refine nq_ (N:=(some 21)) ?_
  refine one_ (i:=11) (N:=some 24) b24_3 rfl rfl (one_of HT_.out KR) (by decide) (fun K hK=>?_);refine goes_ Tryz.func14 KR rfl #[.slice A0 l0.length c0,.agg #[.slice bf ab.length bg,.int .i64 ag,.int .i64 ah,.slice bh ac.length bi]] (by rfl) rfl rfl AR ?_
  with_reducible refine(impl_TraceVisit.calls k _ _ l0 _ _ ab ag ah _ _ ac bv _ ?side1 ?side2 ?side3 ?side4 ?side5 ?side6 A7.out).mono ?_
  (case side1=>exact Cq bl);(case side2=>exact bm.out);(case side3=>exact Cq b4);(case side4=>exact b5.out);(case side5=>exact Cq b6);(case side6=>exact b7.out);rintro e ed ⟨d8,rfl,ho0,hb⟩;refine⟨_,rfl,?_⟩;have bk:=ak (Kd.S_lower (Kd.S_newB (Kd.S_new' (Kd.S_new' (Kd.S_new' (Kd.S_new' (Kd.S_new' (Kd.S_new' (Kd.S_new' ho0 (Kd.R_lt (PR J))) (Kd.R_lt (PR U))) (Kd.R_lt (PR X))) (Kd.R_lt (PR bb))) (Kd.R_lt (PR bc))) (Kd.R_lt (PR bd))) (Kd.S_lt (PS al))) (g:=aa) (o:=.cells #[.int .i64 ao,.slice av ap.length aw,.slice ax aq.length ay,.slice az ar.length ba] 35 (0,0)) (PK Z)) (below_size PB));replace al:=ak (Kd.S_elder' (PS al) (Kd.S_base ho0) hb);replace D:=kf D hb;replace HB:=bs HB hb;(try clear hb);(try clear hb2);(try clear hk);(try clear hi);(try clear ho0);obtain⟨dg,dh,ck⟩:=Kd.S_slice al.out;(first|subst ck|(injection ck with f1_ f2_ f3_;have f4_:=f1_.symm;have f5_:=f3_.symm;clear f1_ f2_ f3_;subst f4_;subst f5_));obtain⟨di,dj,cl⟩:=Kd.S_slice bk.out;(first|subst cl|(injection cl with f1_ f2_ f3_;have f4_:=f1_.symm;have f5_:=f3_.symm;clear f1_ f2_ f3_;subst f4_;subst f5_));refine hK.out _ _ ⟨bq D 0,bq D 1,bq D 2,bq D 3⟩ (fun hHeld=>?_);clear hK K;refine nq_ (N:=(some 24)) ?_
  refine one_ (i:=12) (N:=some 25) b24_2 rfl rfl (one_of HT_.out KR) (by decide) (fun K hK=>?_);refine goes_ Tryz.func29 KR rfl #[.slice dg bu.length dh,.slice di bv.length dj,.func (.func 11) #[] #[]] (by rfl) rfl rfl AR ?_
  with_reducible refine(slices_EqualFunc_11.calls k _ _ bu _ _ bv 90000011 db _ ?side1 ?side2 ?side3 ?side4 A8.out).mono ?_
  (case side1=>exact CR ((Kd.S_reads' al.out).2.2));(case side2=>exact(Kd.S_reads' al.out).2.1);(case side3=>exact CR ((Kd.S_reads' bk.out).2.2));(case side4=>exact(Kd.S_reads' bk.out).2.1);rintro e ee ⟨rfl,hb⟩;refine⟨_,rfl,?_⟩;replace D:=kf D hb;replace HB:=bs HB hb;(try clear hb);(try clear hb2);(try clear hk);(try clear hi);refine hK.out _ _ ⟨bq D 0,bq D 1,bq D 2,bq D 3⟩ (fun hHeld=>?_);clear hK K;refine nq_ (N:=(some 25)) ?_
  refine pu_ (i:=13) (N:=some 26) b24_1 HT_ ?_;refine pu_ (i:=14) (N:=some 4) b24_0 HT_ ?_;refine done_ (done_of HT_.out KR) ?_
  try go_wp2
  go_ret
  exact⟨RT,PB⟩
 ·rw[if_neg c5] at H;obtain⟨cz,da⟩:=eqq2 c5;obtain rfl:=Option.some.inj H
  try go_wp2_with (first|((with_reducible refine gate_dst (N:=6) rfl ?_);refine bx_ (N:=6) #[.int .i64 0,.slice none 0 0,.slice none 0 0,.slice none 0 0] 35 ?_;intro aa hg cf hbox hb;replace Y:=Rb Y hb;replace J:=Rb J hb;replace U:=Rb U hb;replace X:=Rb X hb;have Z:=ak hbox;have co:=gy hg HB;replace HB:=bs HB hb;have ai:=gm hg D;have aj:=gn hg D;clear hb hbox hg;have cp:=aj.out;have cq:=ai.out;obtain⟨_,_,_,_,_,_,_,_⟩:=bc4 Z;obtain⟨av,aw,rfl⟩:=Kd.R_slice J.out;obtain⟨ax,ay,rfl⟩:=Kd.R_slice U.out;obtain⟨az,ba,rfl⟩:=Kd.R_slice X.out))
  generalize hW_:((((cf.setCell ⟨aa,0,none⟩ (.int .i64 ao)).setCell ⟨aa,1,none⟩ (.slice av ap.length aw)).setCell ⟨aa,2,none⟩ (.slice ax aq.length ay)).setCell ⟨aa,3,none⟩ (.slice az ar.length ba))=cm;replace Y:Aside0 (Kd.R k50 50 cm w.heap.size (fun _=>True) ce ae):=⟨by rw[←hW_];exact RX (Rt Y.out Z) (fun _ hk=>trivial)⟩;replace J:=R1 hW_ J Z;replace U:=R1 hW_ U Z;replace X:=R1 hW_ X Z;replace Z:Aside0 (cm.heap[aa]?=some (.cells #[.int .i64 ao,.slice av ap.length aw,.slice ax aq.length ay,.slice az ar.length ba] 35 (0,0))):=BP hW_ Z;replace HB:=BL hW_ HB;(try clear hW_);replace Y:=ak (Kd.R_drew Y.out);replace J:=ak (Kd.R_drew J.out);replace U:=ak (Kd.R_drew U.out);replace X:=ak (Kd.R_drew X.out);replace HB:=ak (below_drew1 HB.out);obtain⟨dk,dl,cn⟩:=Kd.R_slice Y.out;(first|subst cn|(injection cn with f1_ f2_ f3_;have f4_:=f1_.symm;have f5_:=f3_.symm;clear f1_ f2_ f3_;subst f4_;subst f5_));refine start_ (n:=15) (S:=fun w'=>True) (ds:=[]) b24_17 KR rfl rfl trivial (fun hHeld=>?_);refine with_tabW impl_IsFaithful.tab2 impl_IsFaithful.bits2 (fun HT_ HW_=>?_)
  generalize cm.drew=ef at Y J U X HB hHeld ⊢
  refine pu_ (i:=0) (N:=some 13) b24_16 HT_ ?_;refine pu_ (i:=1) (N:=some 14) b24_15 HT_ ?_;refine one_ (i:=2) (N:=some 15) b24_14 rfl rfl (one_of HT_.out KR) (by decide) (fun K hK=>?_);refine goes_ Tryz.func9 KR rfl #[.slice A0 l0.length c0,.slice dk ae.length dl] (by rfl) rfl rfl AR ?_
  with_reducible refine(impl_Replay.calls k _ _ l0 _ _ ae au b8 b9 ca cb cd _ ?side1 ?side2 ?side3 ?side4 A4.out).mono ?_
  (case side1=>exact Cq bl);(case side2=>exact bm.out);(case side3=>exact CR (rr Y));(case side4=>exact rl Y);rintro e eg ⟨dc,de,df,rfl,ho0,ho1,ho2,hb⟩;refine⟨_,rfl,?_⟩;have bb:=Rn3 ho0 HB J U X;have bc:=Rn3 ho1 HB J U X;have bd:=Rn3 ho2 HB J U X;replace HB:=bs HB hb;(try clear hb);(try clear hb2);(try clear hk);(try clear hi);(try clear ho0);(try clear ho1);(try clear ho2);refine hK.out _ _ trivial (fun hHeld=>?_);clear hK K;refine nq_ (N:=(some 15)) ?_
  refine pu_ (i:=3) (N:=some 16) b24_13 HT_ ?_;refine pu_ (i:=4) (N:=some 17) b24_12 HT_ ?_;refine pu_ (i:=5) (N:=some 18) b24_11 HT_ ?_;refine un_ (i:=6) (N:=some 19) b24_10 HT_ ?_;refine un_ (i:=7) (N:=some 20) b24_9 HT_ ?_;refine un_ (i:=8) (N:=some 21) #[true,true,true,true,true,true,true,true,true,false,false,false,false,false,false] HT_ ?_;refine un_ (i:=9) (N:=some 22) #[true,true,true,true,true,true,true,true,true,true,false,false,false,false,false] HT_ ?_;refine un_ (i:=10) (N:=some 23) b24_4 HT_ ?_;refine un_ (i:=11) (N:=some 24) b24_3 HT_ ?_;refine un_ (i:=12) (N:=some 25) b24_2 HT_ ?_;refine pu_ (i:=13) (N:=some 26) b24_1 HT_ ?_;refine pu_ (i:=14) (N:=some 4) b24_0 HT_ ?_;refine done_ (done_of HT_.out KR) ?_
  try go_wp2
  go_ret
  exact⟨RT,PB⟩

abbrev b25_0:Array Bool:=#[true,true,true,true,true,true,true,true,true,true]
abbrev b25_1:Array Bool:=#[true,true,true,true,true,true,true,true,true,false]
abbrev b25_2:Array Bool:=#[true,true,true,true,true,true,true,true,false,false]
abbrev b25_3:Array Bool:=#[true,true,true,true,true,true,true,false,false,false]
abbrev b25_4:Array Bool:=#[true,true,true,false,true,true,true,false,false,false]
abbrev b25_5:Array Bool:=#[true,true,true,false,true,true,false,false,false,false]
abbrev b25_6:Array Bool:=#[true,true,true,false,true,false,false,false,false,false]
abbrev b25_7:Array Bool:=#[true,true,true,false,false,false,false,false,false,false]
abbrev b25_8:Array Bool:=#[true,true,false,false,false,false,false,false,false,false]
abbrev b25_9:Array Bool:=#[true,false,false,false,false,false,false,false,false,false]
abbrev b25_10:Array Bool:=#[false,false,false,false,false,false,false,false,false,false]
def laws_sameTrace.l0:Nat→List (S35)→List (S35)→Int→Option (Bool)
  | 0,_,_,_=>none
  | k+1,J,U,D=>if D < (J.length:Int) then(if 0≤D then(if D < (U.length:Int) then((impl_EqualStates.f k ((rd_T35 J D).f0) ((rd_T35 J D).f1) ((rd_T35 J D).f2) ((rd_T35 J D).f3) ((rd_T35 U D).f0) ((rd_T35 U D).f1) ((rd_T35 U D).f2) ((rd_T35 U D).f3)).bind fun X=>(if X=true then(laws_sameTrace.l0 k J U (wrap64 (D+1))) else(some false))) else(none)) else(none)) else(some true)
def laws_sameTrace.f (k:Nat)(D:List (S35))(J:List (S35)):Option (Bool):=if (D.length:Int)=(J.length:Int) then(laws_sameTrace.l0 k D J 0) else(some false)
def laws_sameTrace.T6:Bool×List (List Nat×List Nat):=(true,[([],[]),([],[]),([0,1],[0,1]),([2],[2]),([],[]),([],[]),([4,5],[4,5]),([6],[6]),([3,7],[3,7]),([8],[8])])
def laws_sameTrace.B6:List Nat:=[0,0,3,7,0,0,48,112,255,511]
theorem laws_sameTrace.tab6:rtab .any (opsOf Tryz.f12 6)=laws_sameTrace.T6:=by kernel_rfl
theorem laws_sameTrace.bits6:waitsOk laws_sameTrace.T6.2 laws_sameTrace.B6=true:=by kernel_rfl
theorem laws_sameTrace.calls (k:Nat)(A0:Option Addr)(c0:Nat)(J:List (S35))(A1:Option Addr)(c1:Nat)(U:List (S35))(r:Bool)(w:World)(cl:Kd.C k35 w A0 J.length J)(cm:J.length≤c0)(cn:Kd.C k35 w A1 U.length U)(co:U.length≤c1)(h:laws_sameTrace.f k J U=some r) :
  Calls Tryz.prog 12 #[.slice A0 J.length c0,.slice A1 U.length c1] w fun e w'=>e = .returned (.bool r)∧Below w.heap.size w w':=by
 have db:=Tryz.underlying35;have cp:=ak cl;have dg:=ak cm;clear cl cm;have cq:=ak cn;have dh:=ak co;clear cn co;have HB:=ak (Below.refl w.heap.size w);have H:=h;clear h;unfold laws_sameTrace.f at H
 by_cases c3:(J.length:Int)=(U.length:Int)
 ·rw[if_pos c3] at H;obtain⟨cf,cg⟩:=eqq1 c3
  have ch:(J.length == U.length)=true:=by first|simpa using c3|(simp at c3 ⊢;omega)
  clear c3;have H':=ak H;clear H;go_enter Tryz.func12,Tryz.ntmps12;go_wp2
  go_loopg [5] k (fun kq v5 w'=>∃(D:Int),v5 = .int .i64 D∧Aside0 (laws_sameTrace.l0 kq J U D=some r)∧Aside0 (kq≤k)∧Aside0 (Below w.heap.size w w'))
  case atStart=>exact⟨(0),FR,H',⟨Nat.le_refl _⟩,⟨PB⟩⟩
  case round =>
   clear H';(try clear c1);(try clear p2);(try clear c3);(try clear cf);(try clear cg);(try clear ch);obtain⟨D,rfl,HA,cr,HB⟩:=hrel
   cases gk with
   | zero=>exact absurd HA.out (by simp[laws_sameTrace.l0])
   | succ k1 =>
    have H:=HA.out;clear HA;simp only[laws_sameTrace.l0] at H
    by_cases c4:D < (J.length:Int)
    ·rw[if_pos c4] at H;have cv:=decide_eq_true c4;clear c4
     by_cases c5:0≤D
     ·rw[if_pos c5] at H;have de:=decide_eq_true c5;clear c5
      by_cases c6:D < (U.length:Int)
      ·rw[if_pos c6] at H;have df:=decide_eq_true c6;clear c6;obtain⟨cw,A7,H⟩:=obq H;(try dsimp only at H)
       by_cases c8:cw=true
       ·subst c8;rw[if_pos rfl] at H;have H':=ak H;clear H
        try go_wp2
        replace HB:=ak (below_drew1 HB.out);have bw:0≤(D:Int):=od;have bx:D < (J.length:Int):=od;obtain⟨X,bg,bh,bi,bj,bk,bl,cb,Z,aa,ab,ac,aj,al,am,ao,ap,aq⟩:=at_T35 cp.out D bw bx;have hw894_3:=ac;have hw894_2:=ab;have hw894_1:=aa;have hw894_0:=Z;cases cb;replace Z:=hx_ HB Z;replace aa:=hx_ HB aa;replace ab:=hx_ HB ab;replace ac:=hx_ HB ac;have ar:=ak al;have b4:=ak aj;clear al aj;have au:=ak ao;have b5:=ak am;clear ao am;have av:=ak aq;have b6:=ak ap;clear aq ap;replace bw:=eq_true bw;replace bx:=eq_true bx;have bz:0≤(D:Int):=od;have b0:D < (U.length:Int):=od;obtain⟨Y,bm,bo,bp,br,bu,bv,cd,ae,ag,ah,ai,aw,ax,ay,az,ba,bb⟩:=at_T35 cq.out D bz b0;have hw895_3:=ai;have hw895_2:=ah;have hw895_1:=ag;have hw895_0:=ae;cases cd;replace ae:=hx_ HB ae;replace ag:=hx_ HB ag;replace ah:=hx_ HB ah;replace ai:=hx_ HB ai;have bc:=ak ax;have b7:=ak aw;clear ax aw;have bd:=ak az;have b8:=ak ay;clear az ay;have bf:=ak bb;have b9:=ak ba;clear bb ba;replace bz:=eq_true bz;replace b0:=eq_true b0;refine start_ (n:=10) (S:=fun w'=>w'.cell? (X.add ((D).toNat * 4))=some (.int .i64 ((rd_T35 J D).f0))∧w'.cell? ⟨(X.add ((D).toNat * 4)).block,(X.add ((D).toNat * 4)).off+1,none⟩=some (.slice bg ((rd_T35 J D).f1).length bh)∧w'.cell? ⟨(X.add ((D).toNat * 4)).block,(X.add ((D).toNat * 4)).off+2,none⟩=some (.slice bi ((rd_T35 J D).f2).length bj)∧w'.cell? ⟨(X.add ((D).toNat * 4)).block,(X.add ((D).toNat * 4)).off+3,none⟩=some (.slice bk ((rd_T35 J D).f3).length bl)∧w'.cell? (Y.add ((D).toNat * 4))=some (.int .i64 ((rd_T35 U D).f0))∧w'.cell? ⟨(Y.add ((D).toNat * 4)).block,(Y.add ((D).toNat * 4)).off+1,none⟩=some (.slice bm ((rd_T35 U D).f1).length bo)∧w'.cell? ⟨(Y.add ((D).toNat * 4)).block,(Y.add ((D).toNat * 4)).off+2,none⟩=some (.slice bp ((rd_T35 U D).f2).length br)∧w'.cell? ⟨(Y.add ((D).toNat * 4)).block,(Y.add ((D).toNat * 4)).off+3,none⟩=some (.slice bu ((rd_T35 U D).f3).length bv)) (ds:=[]) b25_10 KR rfl rfl ⟨((HB.out.cell (World.block_lt_of_cell? w _ hw894_0)).trans hw894_0),((HB.out.cell (World.block_lt_of_cell? w _ hw894_1)).trans hw894_1),((HB.out.cell (World.block_lt_of_cell? w _ hw894_2)).trans hw894_2),((HB.out.cell (World.block_lt_of_cell? w _ hw894_3)).trans hw894_3),((HB.out.cell (World.block_lt_of_cell? w _ hw895_0)).trans hw895_0),((HB.out.cell (World.block_lt_of_cell? w _ hw895_1)).trans hw895_1),((HB.out.cell (World.block_lt_of_cell? w _ hw895_2)).trans hw895_2),((HB.out.cell (World.block_lt_of_cell? w _ hw895_3)).trans hw895_3)⟩ (fun hHeld=>?_);refine with_tabW laws_sameTrace.tab6 laws_sameTrace.bits6 (fun HT_ HW_=>?_)
        generalize wr.drew=w9 at HB ar au av bc bd bf Z aa ab ac ae ag ah ai hHeld ⊢
        refine pu_ (i:=0) (N:=some 17) b25_9 HT_ ?_;refine pu_ (i:=1) (N:=some 18) b25_8 HT_ ?_;refine pu_ (i:=2) (N:=some 19) b25_7 HT_ ?_;refine pu_ (i:=4) (N:=some 21) b25_6 HT_ ?_;refine pu_ (i:=5) (N:=some 22) b25_5 HT_ ?_;refine pu_ (i:=6) (N:=some 23) b25_4 HT_ ?_;refine tk_ (i:=3) (N:=some 20) b25_3 rfl rfl HT_ HW_ hHeld ?_;refine tq_ (i:=7) (N:=some 24) b25_2 rfl rfl (take_ofW HT_.out HW_.out KR) hHeld ?_
        refine one_ (i:=8) (N:=some 25) b25_1 rfl rfl (one_of HT_.out KR) (by decide) (fun K hK=>?_);refine goes_ Tryz.func11 KR rfl #[.agg #[.int .i64 ((rd_T35 J D).f0),.slice bg ((rd_T35 J D).f1).length bh,.slice bi ((rd_T35 J D).f2).length bj,.slice bk ((rd_T35 J D).f3).length bl],.agg #[.int .i64 ((rd_T35 U D).f0),.slice bm ((rd_T35 U D).f1).length bo,.slice bp ((rd_T35 U D).f2).length br,.slice bu ((rd_T35 U D).f3).length bv]] (by rfl) rfl rfl AR ?_
        with_reducible refine(impl_EqualStates.calls k1 ((rd_T35 J D).f0) _ _ ((rd_T35 J D).f1) _ _ ((rd_T35 J D).f2) _ _ ((rd_T35 J D).f3) ((rd_T35 U D).f0) _ _ ((rd_T35 U D).f1) _ _ ((rd_T35 U D).f2) _ _ ((rd_T35 U D).f3) true _ ?side1 ?side2 ?side3 ?side4 ?side5 ?side6 ?side7 ?side8 ?side9 ?side10 ?side11 ?side12 A7.out).mono ?_
        (case side1=>exact Cq ar);(case side2=>exact b4.out);(case side3=>exact Cq au);(case side4=>exact b5.out);(case side5=>exact Cq av);(case side6=>exact b6.out);(case side7=>exact Cq bc);(case side8=>exact b7.out);(case side9=>exact Cq bd);(case side10=>exact b8.out);(case side11=>exact Cq bf);(case side12=>exact b9.out);rintro e di ⟨rfl,hb⟩;refine⟨_,rfl,?_⟩;replace HB:=bs HB hb;(try clear hb);(try clear hb2);(try clear hk);(try clear hi);refine hK.out _ _ ⟨((HB.out.cell (World.block_lt_of_cell? w _ hw894_0)).trans hw894_0),((HB.out.cell (World.block_lt_of_cell? w _ hw894_1)).trans hw894_1),((HB.out.cell (World.block_lt_of_cell? w _ hw894_2)).trans hw894_2),((HB.out.cell (World.block_lt_of_cell? w _ hw894_3)).trans hw894_3),((HB.out.cell (World.block_lt_of_cell? w _ hw895_0)).trans hw895_0),((HB.out.cell (World.block_lt_of_cell? w _ hw895_1)).trans hw895_1),((HB.out.cell (World.block_lt_of_cell? w _ hw895_2)).trans hw895_2),((HB.out.cell (World.block_lt_of_cell? w _ hw895_3)).trans hw895_3)⟩ (fun hHeld=>?_);clear hK K;refine nq_ (N:=(some 25)) ?_
        refine pu_ (i:=9) (N:=some 26) b25_0 HT_ ?_;refine done_ (done_of HT_.out KR) ?_
        try go_wp2
        go_roundg k1
        case measure=>have:=cr.out;omega
        case rel=>exact⟨(wrap64 (D+1)),FR,H',⟨by have:=cr.out;omega⟩,⟨PB⟩⟩
       ·replace c8:=Bool.eq_false_iff.mpr c8;subst c8;rw[if_neg nft] at H;obtain rfl:=Option.some.inj H
        try go_wp2
        replace HB:=ak (below_drew1 HB.out);have bw:0≤(D:Int):=od;have bx:D < (J.length:Int):=od;obtain⟨X,bg,bh,bi,bj,bk,bl,cb,Z,aa,ab,ac,aj,al,am,ao,ap,aq⟩:=at_T35 cp.out D bw bx;have hw894_3:=ac;have hw894_2:=ab;have hw894_1:=aa;have hw894_0:=Z;cases cb;replace Z:=hx_ HB Z;replace aa:=hx_ HB aa;replace ab:=hx_ HB ab;replace ac:=hx_ HB ac;have ar:=ak al;have b4:=ak aj;clear al aj;have au:=ak ao;have b5:=ak am;clear ao am;have av:=ak aq;have b6:=ak ap;clear aq ap;replace bw:=eq_true bw;replace bx:=eq_true bx;have bz:0≤(D:Int):=od;have b0:D < (U.length:Int):=od;obtain⟨Y,bm,bo,bp,br,bu,bv,cd,ae,ag,ah,ai,aw,ax,ay,az,ba,bb⟩:=at_T35 cq.out D bz b0;have hw895_3:=ai;have hw895_2:=ah;have hw895_1:=ag;have hw895_0:=ae;cases cd;replace ae:=hx_ HB ae;replace ag:=hx_ HB ag;replace ah:=hx_ HB ah;replace ai:=hx_ HB ai;have bc:=ak ax;have b7:=ak aw;clear ax aw;have bd:=ak az;have b8:=ak ay;clear az ay;have bf:=ak bb;have b9:=ak ba;clear bb ba;replace bz:=eq_true bz;replace b0:=eq_true b0;refine start_ (n:=10) (S:=fun w'=>w'.cell? (X.add ((D).toNat * 4))=some (.int .i64 ((rd_T35 J D).f0))∧w'.cell? ⟨(X.add ((D).toNat * 4)).block,(X.add ((D).toNat * 4)).off+1,none⟩=some (.slice bg ((rd_T35 J D).f1).length bh)∧w'.cell? ⟨(X.add ((D).toNat * 4)).block,(X.add ((D).toNat * 4)).off+2,none⟩=some (.slice bi ((rd_T35 J D).f2).length bj)∧w'.cell? ⟨(X.add ((D).toNat * 4)).block,(X.add ((D).toNat * 4)).off+3,none⟩=some (.slice bk ((rd_T35 J D).f3).length bl)∧w'.cell? (Y.add ((D).toNat * 4))=some (.int .i64 ((rd_T35 U D).f0))∧w'.cell? ⟨(Y.add ((D).toNat * 4)).block,(Y.add ((D).toNat * 4)).off+1,none⟩=some (.slice bm ((rd_T35 U D).f1).length bo)∧w'.cell? ⟨(Y.add ((D).toNat * 4)).block,(Y.add ((D).toNat * 4)).off+2,none⟩=some (.slice bp ((rd_T35 U D).f2).length br)∧w'.cell? ⟨(Y.add ((D).toNat * 4)).block,(Y.add ((D).toNat * 4)).off+3,none⟩=some (.slice bu ((rd_T35 U D).f3).length bv)) (ds:=[]) b25_10 KR rfl rfl ⟨((HB.out.cell (World.block_lt_of_cell? w _ hw894_0)).trans hw894_0),((HB.out.cell (World.block_lt_of_cell? w _ hw894_1)).trans hw894_1),((HB.out.cell (World.block_lt_of_cell? w _ hw894_2)).trans hw894_2),((HB.out.cell (World.block_lt_of_cell? w _ hw894_3)).trans hw894_3),((HB.out.cell (World.block_lt_of_cell? w _ hw895_0)).trans hw895_0),((HB.out.cell (World.block_lt_of_cell? w _ hw895_1)).trans hw895_1),((HB.out.cell (World.block_lt_of_cell? w _ hw895_2)).trans hw895_2),((HB.out.cell (World.block_lt_of_cell? w _ hw895_3)).trans hw895_3)⟩ (fun hHeld=>?_);refine with_tabW laws_sameTrace.tab6 laws_sameTrace.bits6 (fun HT_ HW_=>?_)
        generalize wr.drew=dj at HB ar au av bc bd bf Z aa ab ac ae ag ah ai hHeld ⊢
        refine pu_ (i:=0) (N:=some 17) b25_9 HT_ ?_;refine pu_ (i:=1) (N:=some 18) b25_8 HT_ ?_;refine pu_ (i:=2) (N:=some 19) b25_7 HT_ ?_;refine pu_ (i:=4) (N:=some 21) b25_6 HT_ ?_;refine pu_ (i:=5) (N:=some 22) b25_5 HT_ ?_;refine pu_ (i:=6) (N:=some 23) b25_4 HT_ ?_;refine tk_ (i:=3) (N:=some 20) b25_3 rfl rfl HT_ HW_ hHeld ?_;refine tq_ (i:=7) (N:=some 24) b25_2 rfl rfl (take_ofW HT_.out HW_.out KR) hHeld ?_
        refine one_ (i:=8) (N:=some 25) b25_1 rfl rfl (one_of HT_.out KR) (by decide) (fun K hK=>?_);refine goes_ Tryz.func11 KR rfl #[.agg #[.int .i64 ((rd_T35 J D).f0),.slice bg ((rd_T35 J D).f1).length bh,.slice bi ((rd_T35 J D).f2).length bj,.slice bk ((rd_T35 J D).f3).length bl],.agg #[.int .i64 ((rd_T35 U D).f0),.slice bm ((rd_T35 U D).f1).length bo,.slice bp ((rd_T35 U D).f2).length br,.slice bu ((rd_T35 U D).f3).length bv]] (by rfl) rfl rfl AR ?_
        with_reducible refine(impl_EqualStates.calls k1 ((rd_T35 J D).f0) _ _ ((rd_T35 J D).f1) _ _ ((rd_T35 J D).f2) _ _ ((rd_T35 J D).f3) ((rd_T35 U D).f0) _ _ ((rd_T35 U D).f1) _ _ ((rd_T35 U D).f2) _ _ ((rd_T35 U D).f3) false _ ?side1 ?side2 ?side3 ?side4 ?side5 ?side6 ?side7 ?side8 ?side9 ?side10 ?side11 ?side12 A7.out).mono ?_
        (case side1=>exact Cq ar);(case side2=>exact b4.out);(case side3=>exact Cq au);(case side4=>exact b5.out);(case side5=>exact Cq av);(case side6=>exact b6.out);(case side7=>exact Cq bc);(case side8=>exact b7.out);(case side9=>exact Cq bd);(case side10=>exact b8.out);(case side11=>exact Cq bf);(case side12=>exact b9.out);rintro e dk ⟨rfl,hb⟩;refine⟨_,rfl,?_⟩;replace HB:=bs HB hb;(try clear hb);(try clear hb2);(try clear hk);(try clear hi);refine hK.out _ _ ⟨((HB.out.cell (World.block_lt_of_cell? w _ hw894_0)).trans hw894_0),((HB.out.cell (World.block_lt_of_cell? w _ hw894_1)).trans hw894_1),((HB.out.cell (World.block_lt_of_cell? w _ hw894_2)).trans hw894_2),((HB.out.cell (World.block_lt_of_cell? w _ hw894_3)).trans hw894_3),((HB.out.cell (World.block_lt_of_cell? w _ hw895_0)).trans hw895_0),((HB.out.cell (World.block_lt_of_cell? w _ hw895_1)).trans hw895_1),((HB.out.cell (World.block_lt_of_cell? w _ hw895_2)).trans hw895_2),((HB.out.cell (World.block_lt_of_cell? w _ hw895_3)).trans hw895_3)⟩ (fun hHeld=>?_);clear hK K;refine nq_ (N:=(some 25)) ?_
        refine pu_ (i:=9) (N:=some 26) b25_0 HT_ ?_;refine done_ (done_of HT_.out KR) ?_
        try go_wp2
        go_ret
        exact⟨RT,PB⟩
      ·rw[if_neg c6] at H;exact absurd H (by simp)
     ·rw[if_neg c5] at H;exact absurd H (by simp)
    ·rw[if_neg c4] at H;have cv:=decide_eq_false c4;clear c4;obtain rfl:=Option.some.inj H;go_wp2
     go_ret
     exact⟨RT,PB⟩
 ·rw[if_neg c3] at H;obtain⟨cf,cg⟩:=eqq2 c3
  have ch:(J.length == U.length)=false:=by first|simpa using c3|(simp at c3 ⊢;omega)
  obtain rfl:=Option.some.inj H;go_enter Tryz.func12,Tryz.ntmps12;go_wp2
  go_ret
  exact⟨RT,PB⟩
def spec_l11Zeros.l0:Nat→Int→List Int→Int→Option (List Int)
  | 0,_,_,_=>none
  | k+1,J,D,U=>if U < J then(if D.length < 17592186044416 then(spec_l11Zeros.l0 k J (D++[0]) (wrap64 (U+1))) else(none)) else(some D)
def spec_l11Zeros.f (k:Nat)(D:Int):Option (List Int):=spec_l11Zeros.l0 k D (([]:List Int)) 0
theorem spec_l11Zeros.calls (k:Nat)(Y:Int)(r:List Int)(w:World)(h:spec_l11Zeros.f k Y=some r) :
  Calls Tryz.prog 85 #[.int .i64 Y] w fun e w'=>∃ al:Value,e = .returned (al)∧Kd.R (Kd.int .i64) 3 w' w.heap.size (fun _=>True) al r∧Below w.heap.size w w':=by
 have HB:=ak (Below.refl w.heap.size w);have H:=h;clear h;unfold spec_l11Zeros.f at H;obtain⟨ac,U⟩:∃ y_:List Int,y_=(([]:List Int)):=⟨_,rfl⟩
 first|replace H:=bnd_ H U|rw[←U] at H
 have aa:=ak U;clear U;have H':=ak H;clear H;go_enter Tryz.func85,Tryz.ntmps85;go_wp2_with (first|((with_reducible refine gate_dst (N:=5) rfl ?_);refine Kd.R_lit (Kd.int .i64) _ 3 ?hg (N:=5) ?hd (xs:=([]:List Int)) (inner:=[]) (ok:=fun _=>True) (okp:=fun _=>True) ?hr ?hp (fun _ hk=>hk) trivial (Below.refl _ _) (Nat.le_refl _) (by simp) ?_;(case hd=>rfl);(case hg=>rfl);(case hr=>first|(go_simp;done)|(go_simp;rfl));(case hp=>exact(Reps.none _ _));intro aq w2 ho3 hb hg_ hnew_;clear hg_ hnew_;(first|rw[←aa.out] at ho3|(simp only[Int.reduceToNat] at ho3;rw[←aa.out] at ho3));have ag:=Rn0 ho3 HB;replace HB:=bs HB hb;clear hb ho3))
 go_loopg [3,4] k (fun kq v3 v4 w'=>∃(J:List Int)(D:Int),v4 = .int .i64 D∧Aside0 (spec_l11Zeros.l0 kq Y J D=some r)∧Aside0 (kq≤k)∧Aside0 (Kd.R (Kd.int .i64) 3 w' w.heap.size (fun _=>True) v3 J)∧Aside0 (Below w.heap.size w w'))
 case atStart=>exact⟨(ac),(0),FR,H',⟨Nat.le_refl _⟩,⟨PR ag⟩,⟨PB⟩⟩
 case round =>
  clear H'
  try clear p2
  obtain⟨J,D,rfl,HA,am,Z,HB⟩:=hrel
  cases gk with
  | zero=>exact absurd HA.out (by simp[spec_l11Zeros.l0])
  | succ k1 =>
   have H:=HA.out;clear HA;simp only[spec_l11Zeros.l0] at H
   by_cases c4:D < Y
   ·rw[if_pos c4] at H;have ao:=decide_eq_true c4;clear c4
    by_cases c5:J.length < 17592186044416
    ·rw[if_pos c5] at H;have ap:=ak c5;clear c5;obtain⟨ae,X⟩:∃ y_:List Int,y_=(J++[0]):=⟨_,rfl⟩
     first|replace H:=bnd_ H X|rw[←X] at H
     have ai:=ak X;clear X;have H':=ak H;clear H;go_wp2_with (first|((with_reducible refine gate_builtin (b:=.append) (xs:=#[.tmp 11,.tmp 12]) rfl ?_);at_builtin;refine Kd.R_append (Kd.int .i64) (w0:=w) w.heap.size rfl (.tmp 11) (.tmp 12) 26 3 (.int .i64 0) 8 rfl Tryz.underlying26 info3 rfl (by decide) (by omega) u3 J 0 [.int .i64 0] (fun _=>True) (fun _=>False) rfl rfl ?aP (fun _ hk=>hk.elim) ?aF ?aO ?aB ?aS ?aL ?_;(case aP=>exact rfl);(case aB=>exact PB);(case aF=>exact(fun _ _=>trivial));(case aO=>exact(PR Z));(case aS=>exact(below_size PB));(case aL=>have:=ap.out;omega);intro av w6 ho hb hg hat;rw[←ai.out] at ho;replace HB:=ak hb;have aj:=ak (ho);clear Z;clear ho hb hg hat))
     go_roundg k1
     case measure=>have:=am.out;omega
     case rel=>exact⟨(ae),(wrap64 (D+1)),FR,H',⟨by have:=am.out;omega⟩,⟨PR aj⟩,⟨PB⟩⟩
    ·rw[if_neg c5] at H;exact absurd H (by simp)
   ·rw[if_neg c4] at H;have ao:=decide_eq_false c4;clear c4;obtain rfl:=Option.some.inj H;go_wp2
    go_ret
    exact⟨_,RT,by(with_reducible repeat(first|apply Kd.R_alloc | apply Kd.R_drewN | apply Kd.R_drew));exact Z.out,PB⟩
def spec_StartState.f (k:Nat)  : Option (Int×List Int×List Int×List Int):=(spec_l11Zeros.f k 4).bind fun D=>((spec_l11Zeros.f k 3).bind fun J=>((spec_l11Zeros.f k 4).bind fun U=>(some (0,D,J,U))))
theorem spec_StartState.calls (k:Nat)  (r1:Int)(r2:List Int)(r3:List Int)(r4:List Int)(w:World)(h:spec_StartState.f k =some (r1,r2,r3,r4)) :
  Calls Tryz.prog 70 #[] w fun e w'=>∃ X Y Z:Value,e = .returned (.agg #[.int .i64 r1,X,Y,Z])∧Kd.R (Kd.int .i64) 3 w' w.heap.size (fun k_=>some k_≠(Y:Value).ownBlock∧some k_≠(Z:Value).ownBlock) X r2∧Kd.R (Kd.int .i64) 3 w' w.heap.size (fun k_=>some k_≠(X:Value).ownBlock∧some k_≠(Z:Value).ownBlock) Y r3∧Kd.R (Kd.int .i64) 3 w' w.heap.size (fun k_=>some k_≠(X:Value).ownBlock∧some k_≠(Y:Value).ownBlock) Z r4∧Below w.heap.size w w':=by
 have bd:=Tryz.underlying35;have HB:=ak (Below.refl w.heap.size w);have H:=h;clear h;unfold spec_StartState.f at H;obtain⟨ab,A1,H⟩:=obq H;(try dsimp only at H);obtain⟨ac,A2,H⟩:=obq H;(try dsimp only at H);obtain⟨ae,A3,H⟩:=obq H;(try dsimp only at H);simp only[Option.some.injEq,Prod.mk.injEq] at H;obtain⟨rfl,rfl,rfl,rfl⟩:=H;go_enter Tryz.func70,Tryz.ntmps70;go_wp2_with (first|((with_reducible refine gate_dst (N:=0) rfl ?_);refine bx_ (N:=0) #[.int .i64 0,.slice none 0 0,.slice none 0 0,.slice none 0 0] 35 ?_;intro ag hg w4 hbox hb;have D:=ak hbox;have bc:=gy hg HB;replace HB:=bs HB hb;clear hb hbox hg)|((with_reducible refine gate_callee (f:=85) rfl ?_);refine goesL_ (some 1) rfl rfl Tryz.func85 KR rfl #[.int .i64 4] rfl AR ?_;(with_reducible refine(spec_l11Zeros.calls k 4 ab _ A1.out).mono ?_);rintro e w5 ⟨bi,rfl,ho0,hb⟩;refine⟨_,rfl,?_⟩;have J:=Rn0 ho0 HB;replace D:=kf D hb;replace HB:=bs HB hb;clear hb ho0)|((with_reducible refine gate_callee (f:=85) rfl ?_);refine goesL_ (some 2) rfl rfl Tryz.func85 KR rfl #[.int .i64 3] rfl AR ?_;(with_reducible refine(spec_l11Zeros.calls k 3 ac _ A2.out).mono ?_);rintro e w6 ⟨bj,rfl,ho0,hb⟩;refine⟨_,rfl,?_⟩;have U:=Rn1 ho0 HB J;replace J:=ak (Kd.R_elder' (PR J) (Kd.R_base ho0) hb);replace D:=kf D hb;replace HB:=bs HB hb;clear hb ho0)|((with_reducible refine gate_callee (f:=85) rfl ?_);refine goesL_ (some 3) rfl rfl Tryz.func85 KR rfl #[.int .i64 4] rfl AR ?_;(with_reducible refine(spec_l11Zeros.calls k 4 ae _ A3.out).mono ?_);rintro e w7 ⟨bk,rfl,ho0,hb⟩;refine⟨_,rfl,?_⟩;have aa:=Rn2 ho0 HB J U;replace J:=ak (Kd.R_elder' (PR J) (Kd.R_base ho0) hb);replace U:=ak (Kd.R_elder' (PR U) (Kd.R_base ho0) hb);replace D:=kf D hb;replace HB:=bs HB hb;clear hb ho0;obtain⟨ay,az,rfl⟩:=Kd.R_slice aa.out;obtain⟨ba,bb,rfl⟩:=Kd.R_slice U.out;obtain⟨al,am,rfl⟩:=Kd.R_slice J.out;obtain⟨ao,ap,aq,ar,au,av,aw,ax⟩:=bc4 D));refine bodyPost_ret (results_cell_row rfl _ _ ag 35 #[.int .i64 0,.slice al ab.length am,.slice ba ac.length bb,.slice ay ae.length az] (0,0) _ rfl (PX D) Tryz.underlying35 rfl KR) rfl ?_;exact⟨_,_,_,RT,RX (Rt J.out D) (fun _ hk=>by first|exact⟨hk.1.1.2,hk.1.2⟩ | simp_all),RX (Rt U.out D) (fun _ hk=>by first|exact⟨hk.1.1.2,hk.1.2⟩ | simp_all),RX (Rt aa.out D) (fun _ hk=>by first|exact⟨hk.1.1.2,hk.1.2⟩ | simp_all),PB⟩
def spec_l1In.f (D:Int)(J:Int)(U:Int):Option (Bool):=if D≥J then(some (decide (D≤U))) else(some false)
theorem spec_l1In.calls (J:Int)(U:Int)(Y:Int)(r:Bool)(w:World)(h:spec_l1In.f J U Y=some r) :
  Calls Tryz.prog 88 #[.int .i64 J,.int .i64 U,.int .i64 Y] w fun e w'=>e = .returned (.bool r)∧Drawn0 w w':=by
 have H:=h;clear h;unfold spec_l1In.f at H
 by_cases D:J≥U
 ·rw[if_pos D] at H;have X:decide (U≤J)=true:=decide_eq_true D;clear D;obtain rfl:=Option.some.inj H;go_enter Tryz.func88,Tryz.ntmps88;go_wp2
  go_ret
  exact⟨FR,by repeat(first|exact Drawn0.refl _ | apply Drawn0.step)⟩
 ·rw[if_neg D] at H;have X:decide (U≤J)=false:=decide_eq_false D;clear D;obtain rfl:=Option.some.inj H;go_enter Tryz.func88,Tryz.ntmps88;go_wp2
  go_ret
  exact⟨FR,by repeat(first|exact Drawn0.refl _ | apply Drawn0.step)⟩
def spec_l10Ok.j0:Nat→Int→Int→Bool→Int→Int→Int→Int→Option (Bool)
  | 0,_,_,_,_,_,_,_=>none
  | k+1,x3,U,ai,ae,ag,D,J=>if ai=true then(if D=0 then(some (J == 0)) else(some false)) else(if U=5 then((spec_l1In.f D 0 x3).bind fun X=>(if X=true then((spec_l1In.f J 0 x3).bind fun Y=>(some Y)) else(some false))) else(if U=6 then((spec_l1In.f D 0 3).bind fun Z=>(if Z=true then(some (J == 0)) else(some false))) else(if U=7 then((spec_l1In.f D 1 3).bind fun aa=>(if aa=true then(some (J == 0)) else(some false))) else(if U=8 then((spec_l1In.f D 0 2).bind fun ab=>(if ab=true then(some (J == 0)) else(some false))) else(if U=9 then((spec_l1In.f D 0 2).bind fun ac=>(if ac=true then(some (J == 0)) else(some false))) else(some false))))))
def spec_l10Ok.f (k:Nat)(D:Int)(J:Int)(U:Int)(X:Int):Option (Bool):=(spec_l1In.f J 0 3).bind fun Y=>(if Y=true then(if D=1 then((spec_l1In.f U 1 9).bind fun Z=>(if Z=true then((spec_l1In.f X 0 99).bind fun aa=>(some aa)) else(some false))) else(if D=2 then(spec_l10Ok.j0 k 3 D (D == 2) D J U X) else(if D=3 then(spec_l10Ok.j0 k 3 D (D == 3) D J U X) else(spec_l10Ok.j0 k 3 D (D == 4) D J U X)))) else(some false))
theorem spec_l10Ok.calls (k:Nat)(D:Int)(X:Int)(J:Int)(Y:Int)(r:Bool)(w:World)(h:spec_l10Ok.f k D X J Y=some r) :
  Calls Tryz.prog 86 #[.agg #[.int .i64 D,.int .i64 X,.int .i64 J,.int .i64 Y]] w fun e w'=>e = .returned (.bool r)∧Below w.heap.size w w':=by
 have dw:=Tryz.underlying57;have HB:=ak (Below.refl w.heap.size w);have H:=h;clear h;unfold spec_l10Ok.f at H;obtain⟨cx,A2,H⟩:=obq H;(try dsimp only at H)
 by_cases c3:cx=true
 ·subst c3;rw[if_pos rfl] at H
  by_cases c4:D=1
  ·rw[if_pos c4] at H;obtain⟨bm,bo⟩:=eqq1 c4;clear c4;obtain⟨cz,A5,H⟩:=obq H;(try dsimp only at H);go_enter Tryz.func86,Tryz.ntmps86
   try go_wp2_with (first|((with_reducible refine gate_dst (N:=1) rfl ?_);refine bx_ (N:=1) #[.int .i64 D,.int .i64 X,.int .i64 J,.int .i64 Y] 57 ?_;intro am hg w8 hbox hb;have U:=ak hbox;have aq:=gy hg HB;replace HB:=bs HB hb;clear hb hbox hg;obtain⟨bp,br,bu,bv,bw,bx,bz,b0⟩:=bc4 U)|((with_reducible refine gate_callee (f:=88) rfl ?_);refine hold_ ?_))
   (refine unhold_ ?_;refine goesL_ (some 7) rfl rfl Tryz.func88 KR rfl #[.int .i64 X,.int .i64 0,.int .i64 3] rfl AR ?_;(with_reducible refine(spec_l1In.calls X 0 3 true _ A2.out).mono ?_);rintro e w' ⟨rfl,⟨nd,rfl⟩⟩;refine⟨_,rfl,?_⟩)
   by_cases c6:cz=true
   ·subst c6;rw[if_pos rfl] at H;obtain⟨da,A7,H⟩:=obq H;(try dsimp only at H);obtain rfl:=Option.some.inj H;go_wp2_with (first|(go_at_call 88;(with_reducible refine(spec_l1In.calls J 1 9 true _ A5.out).mono ?_);rintro e w' ⟨rfl,⟨nd,rfl⟩⟩)|(go_at_call 88;(with_reducible refine(spec_l1In.calls Y 0 99 da _ A7.out).mono ?_);rintro e w' ⟨rfl,⟨nd,rfl⟩⟩))
    go_ret
    exact⟨RT,PB⟩
   ·replace c6:=Bool.eq_false_iff.mpr c6;subst c6;rw[if_neg nft] at H;obtain rfl:=Option.some.inj H;go_wp2_with (first|(go_at_call 88;(with_reducible refine(spec_l1In.calls J 1 9 false _ A5.out).mono ?_);rintro e w' ⟨rfl,⟨nd,rfl⟩⟩))
    go_ret
    exact⟨RT,PB⟩
  ·rw[if_neg c4] at H;obtain⟨bm,bo⟩:=eqq2 c4;have ap:=ak H;clear H;go_enter Tryz.func86,Tryz.ntmps86
   go_upto_if 21 with (first|((with_reducible refine gate_dst (N:=1) rfl ?_);refine bx_ (N:=1) #[.int .i64 D,.int .i64 X,.int .i64 J,.int .i64 Y] 57 ?_;intro am hg dz hbox hb;have U:=ak hbox;have aq:=gy hg HB;replace HB:=bs HB hb;clear hb hbox hg;obtain⟨bc,bd,bf,bg,bh,bi,bj,bk⟩:=bc4 U)|((with_reducible refine gate_callee (f:=88) rfl ?_);refine goesL_ (some 7) rfl rfl Tryz.func88 KR rfl #[.int .i64 X,.int .i64 0,.int .i64 3] rfl AR ?_;(with_reducible refine(spec_l1In.calls X 0 3 true _ A2.out).mono ?_);rintro e w' ⟨rfl,⟨nd,rfl⟩⟩;refine⟨_,rfl,?_⟩))
   (try simp only[Act.put,List.setIfInBounds_toArray,List.set_cons_zero,List.set_cons_succ])
   go_cut [21] (fun du wc=>∃(kq:Nat)(aa:Bool),du = .bool aa∧Aside0 (spec_l10Ok.j0 kq 3 D aa D X J Y=some r)∧Aside0 (kq≤k)∧Aside0 (wc.heap[am]?=some (.cells #[.int .i64 D,.int .i64 X,.int .i64 J,.int .i64 Y] 57 (0,0)))∧Aside0 (Below w.heap.size w wc))
   case first =>
    have H:=ap.out;clear ap
    by_cases ab:D=2
    ·rw[if_pos ab] at H;obtain⟨Z,ar⟩:=eqq1 ab;clear ab;(first|rw[Z]|(simp only[i64_w,i32_w];rw[Z])|skip);have H':=ak H;clear H;go_wp2
     go_meet
     case rel=>exact⟨_,((D == 2)),FR,H',⟨by first|omega | exact Nat.le_refl _⟩,⟨PK U⟩,⟨PB⟩⟩
    ·rw[if_neg ab] at H;obtain⟨Z,ar⟩:=eqq2 ab;(first|rw[Z]|(simp only[i64_w,i32_w];rw[Z])|skip)
     by_cases ac:D=3
     ·rw[if_pos ac] at H;obtain⟨au,av⟩:=eqq1 ac;clear ac;have H':=ak H;clear H;go_wp2
      go_meet
      case rel=>exact⟨_,((D == 3)),FR,H',⟨by first|omega | exact Nat.le_refl _⟩,⟨PK U⟩,⟨PB⟩⟩
     ·rw[if_neg ac] at H;obtain⟨au,av⟩:=eqq2 ac;have H':=ak H;clear H;go_wp2
      go_meet
      case rel=>exact⟨_,((D == 4)),FR,H',⟨by first|omega | exact Nat.le_refl _⟩,⟨PK U⟩,⟨PB⟩⟩
   case rest =>
    clear ap;(try clear c1);(try clear p2);(try clear c3);(try clear c4);(try clear bm);(try clear bo);(try clear c6);(try clear c8);(try clear ab);(try clear Z);(try clear ar);(try clear ac);(try clear au);(try clear av);(try clear di);(try clear dj);(try clear dk);(try clear dl);(try clear bc);(try clear bd);(try clear bf);(try clear bg);(try clear bp);(try clear br);(try clear bu);(try clear bv);(try clear dn);(try clear dp);(try clear dq);(try clear dr);(try clear bh);(try clear bi);(try clear bj);(try clear bk);(try clear bw);(try clear bx);(try clear bz);(try clear b0);obtain⟨kq,aa,rfl,HA,dy,U,HB⟩:=hcut
    cases kq with
    | zero=>exact absurd HA.out (by simp[spec_l10Ok.j0])
    | succ kj11 =>
     have H:=HA.out;clear HA;simp only[spec_l10Ok.j0] at H
     by_cases aw:aa=true
     ·subst aw;rw[if_pos rfl] at H
      by_cases ae:J=0
      ·rw[if_pos ae] at H;obtain⟨cb,cd⟩:=eqq1 ae;clear ae;obtain rfl:=Option.some.inj H;obtain⟨_,_,_,_,_,_,_,_⟩:=bc4 U;go_wp2
       go_ret
       exact⟨RT,PB⟩
      ·rw[if_neg ae] at H;obtain⟨cb,cd⟩:=eqq2 ae;obtain rfl:=Option.some.inj H;obtain⟨_,_,_,_,_,_,_,_⟩:=bc4 U;go_wp2
       go_ret
       exact⟨RT,PB⟩
     ·replace aw:=Bool.eq_false_iff.mpr aw;subst aw;rw[if_neg nft] at H
      by_cases ag:D=5
      ·rw[if_pos ag] at H;obtain⟨ce,cf⟩:=eqq1 ag;clear ag;obtain⟨db,cr,H⟩:=obq H;(try dsimp only at H)
       by_cases ax:db=true
       ·subst ax;rw[if_pos rfl] at H;obtain⟨dc,dv,H⟩:=obq H;(try dsimp only at H);obtain rfl:=Option.some.inj H;obtain⟨_,_,_,_,_,_,_,_⟩:=bc4 U;go_wp2_with (first|(go_at_call 88;(with_reducible refine(spec_l1In.calls J 0 3 true _ cr.out).mono ?_);rintro e w' ⟨rfl,⟨nd,rfl⟩⟩)|(go_at_call 88;(with_reducible refine(spec_l1In.calls Y 0 3 dc _ dv.out).mono ?_);rintro e w' ⟨rfl,⟨nd,rfl⟩⟩))
        go_ret
        exact⟨RT,PB⟩
       ·replace ax:=Bool.eq_false_iff.mpr ax;subst ax;rw[if_neg nft] at H;obtain rfl:=Option.some.inj H;obtain⟨_,_,_,_,_,_,_,_⟩:=bc4 U;go_wp2_with (first|(go_at_call 88;(with_reducible refine(spec_l1In.calls J 0 3 false _ cr.out).mono ?_);rintro e w' ⟨rfl,⟨nd,rfl⟩⟩))
        go_ret
        exact⟨RT,PB⟩
      ·rw[if_neg ag] at H;obtain⟨ce,cf⟩:=eqq2 ag
       by_cases ah:D=6
       ·rw[if_pos ah] at H;obtain⟨cg,ch⟩:=eqq1 ah;clear ah;obtain⟨de,ct,H⟩:=obq H;(try dsimp only at H)
        by_cases ay:de=true
        ·subst ay;rw[if_pos rfl] at H;obtain rfl:=Option.some.inj H;obtain⟨_,_,_,_,_,_,_,_⟩:=bc4 U;go_wp2_with (first|(go_at_call 88;(with_reducible refine(spec_l1In.calls J 0 3 true _ ct.out).mono ?_);rintro e w' ⟨rfl,⟨nd,rfl⟩⟩))
         go_ret
         exact⟨RT,PB⟩
        ·replace ay:=Bool.eq_false_iff.mpr ay;subst ay;rw[if_neg nft] at H;obtain rfl:=Option.some.inj H;obtain⟨_,_,_,_,_,_,_,_⟩:=bc4 U;go_wp2_with (first|(go_at_call 88;(with_reducible refine(spec_l1In.calls J 0 3 false _ ct.out).mono ?_);rintro e w' ⟨rfl,⟨nd,rfl⟩⟩))
         go_ret
         exact⟨RT,PB⟩
       ·rw[if_neg ah] at H;obtain⟨cg,ch⟩:=eqq2 ah
        by_cases ai:D=7
        ·rw[if_pos ai] at H;obtain⟨ci,cj⟩:=eqq1 ai;clear ai;obtain⟨df,cu,H⟩:=obq H;(try dsimp only at H)
         by_cases az:df=true
         ·subst az;rw[if_pos rfl] at H;obtain rfl:=Option.some.inj H;obtain⟨_,_,_,_,_,_,_,_⟩:=bc4 U;go_wp2_with (first|(go_at_call 88;(with_reducible refine(spec_l1In.calls J 1 3 true _ cu.out).mono ?_);rintro e w' ⟨rfl,⟨nd,rfl⟩⟩))
          go_ret
          exact⟨RT,PB⟩
         ·replace az:=Bool.eq_false_iff.mpr az;subst az;rw[if_neg nft] at H;obtain rfl:=Option.some.inj H;obtain⟨_,_,_,_,_,_,_,_⟩:=bc4 U;go_wp2_with (first|(go_at_call 88;(with_reducible refine(spec_l1In.calls J 1 3 false _ cu.out).mono ?_);rintro e w' ⟨rfl,⟨nd,rfl⟩⟩))
          go_ret
          exact⟨RT,PB⟩
        ·rw[if_neg ai] at H;obtain⟨ci,cj⟩:=eqq2 ai
         by_cases aj:D=8
         ·rw[if_pos aj] at H;obtain⟨ck,cl⟩:=eqq1 aj;clear aj;obtain⟨dg,cv,H⟩:=obq H;(try dsimp only at H)
          by_cases ba:dg=true
          ·subst ba;rw[if_pos rfl] at H;obtain rfl:=Option.some.inj H;obtain⟨_,_,_,_,_,_,_,_⟩:=bc4 U;go_wp2_with (first|(go_at_call 88;(with_reducible refine(spec_l1In.calls J 0 2 true _ cv.out).mono ?_);rintro e w' ⟨rfl,⟨nd,rfl⟩⟩))
           go_ret
           exact⟨RT,PB⟩
          ·replace ba:=Bool.eq_false_iff.mpr ba;subst ba;rw[if_neg nft] at H;obtain rfl:=Option.some.inj H;obtain⟨_,_,_,_,_,_,_,_⟩:=bc4 U;go_wp2_with (first|(go_at_call 88;(with_reducible refine(spec_l1In.calls J 0 2 false _ cv.out).mono ?_);rintro e w' ⟨rfl,⟨nd,rfl⟩⟩))
           go_ret
           exact⟨RT,PB⟩
         ·rw[if_neg aj] at H;obtain⟨ck,cl⟩:=eqq2 aj
          by_cases al:D=9
          ·rw[if_pos al] at H;obtain⟨cm,cn⟩:=eqq1 al;clear al;obtain⟨dh,cw,H⟩:=obq H;(try dsimp only at H)
           by_cases bb:dh=true
           ·subst bb;rw[if_pos rfl] at H;obtain rfl:=Option.some.inj H;obtain⟨_,_,_,_,_,_,_,_⟩:=bc4 U;go_wp2_with (first|(go_at_call 88;(with_reducible refine(spec_l1In.calls J 0 2 true _ cw.out).mono ?_);rintro e w' ⟨rfl,⟨nd,rfl⟩⟩))
            go_ret
            exact⟨RT,PB⟩
           ·replace bb:=Bool.eq_false_iff.mpr bb;subst bb;rw[if_neg nft] at H;obtain rfl:=Option.some.inj H;obtain⟨_,_,_,_,_,_,_,_⟩:=bc4 U;go_wp2_with (first|(go_at_call 88;(with_reducible refine(spec_l1In.calls J 0 2 false _ cw.out).mono ?_);rintro e w' ⟨rfl,⟨nd,rfl⟩⟩))
            go_ret
            exact⟨RT,PB⟩
          ·rw[if_neg al] at H;obtain⟨cm,cn⟩:=eqq2 al;obtain rfl:=Option.some.inj H;go_wp2
           go_ret
           exact⟨RT,PB⟩
 ·replace c3:=Bool.eq_false_iff.mpr c3;subst c3;rw[if_neg nft] at H;obtain rfl:=Option.some.inj H;go_enter Tryz.func86,Tryz.ntmps86;go_wp2_with (first|((with_reducible refine gate_dst (N:=1) rfl ?_);refine bx_ (N:=1) #[.int .i64 D,.int .i64 X,.int .i64 J,.int .i64 Y] 57 ?_;intro am hg d7 hbox hb;have U:=ak hbox;have aq:=gy hg HB;replace HB:=bs HB hb;clear hb hbox hg;obtain⟨_,_,_,_,_,_,_,_⟩:=bc4 U)|(go_at_call 88;(with_reducible refine(spec_l1In.calls X 0 3 false _ A2.out).mono ?_);rintro e w' ⟨rfl,⟨nd,rfl⟩⟩))
  go_ret
  exact⟨RT,PB⟩
def spec_IsScript.l0:Nat→List (S57)→Int→Option (Bool)
  | 0,_,_=>none
  | k+1,D,J=>if J < (D.length:Int) then(if 0≤J then((spec_l10Ok.f k ((rd_T57 D J).f0) ((rd_T57 D J).f1) ((rd_T57 D J).f2) ((rd_T57 D J).f3)).bind fun U=>(if U=true then(spec_IsScript.l0 k D (wrap64 (J+1))) else(some false))) else(none)) else(some (decide ((D.length:Int)≤16)))
def spec_IsScript.f (k:Nat)(D:List (S57)):Option (Bool):=spec_IsScript.l0 k D 0
theorem spec_IsScript.calls (k:Nat)(A0:Option Addr)(c0:Nat)(J:List (S57))(r:Bool)(w:World)(aj:Kd.C k57 w A0 J.length J)(al:J.length≤c0)(h:spec_IsScript.f k J=some r) :
  Calls Tryz.prog 71 #[.slice A0 J.length c0] w fun e w'=>e = .returned (.bool r)∧Below w.heap.size w w':=by
 have ax:=Tryz.underlying57;have am:=ak aj;have ba:=ak al;clear aj al;have HB:=ak (Below.refl w.heap.size w);have H:=h;clear h;unfold spec_IsScript.f at H;have H':=ak H;clear H;go_enter Tryz.func71,Tryz.ntmps71;go_wp2
 go_loopg [3] k (fun kq v3 w'=>∃(D:Int),v3 = .int .i64 D∧Aside0 (spec_IsScript.l0 kq J D=some r)∧Aside0 (kq≤k)∧Aside0 (Below w.heap.size w w'))
 case atStart=>exact⟨(0),FR,H',⟨Nat.le_refl _⟩,⟨PB⟩⟩
 case round =>
  clear H';obtain⟨D,rfl,HA,ao,HB⟩:=hrel
  cases gk with
  | zero=>exact absurd HA.out (by simp[spec_IsScript.l0])
  | succ k1 =>
   have H:=HA.out;clear HA;simp only[spec_IsScript.l0] at H
   by_cases c2:D < (J.length:Int)
   ·rw[if_pos c2] at H;have aq:=decide_eq_true c2;clear c2
    by_cases c3:0≤D
    ·rw[if_pos c3] at H;have az:=decide_eq_true c3;clear c3;obtain⟨ar,A4,H⟩:=obq H;(try dsimp only at H)
     by_cases c5:ar=true
     ·subst c5;rw[if_pos rfl] at H;have H':=ak H;clear H;have aa:0≤(D:Int):=od;have ab:D < (J.length:Int):=od;obtain⟨ai,ac,U,X,Y,Z⟩:=at_T57 am.out D aa ab;cases ac;replace U:=hx_ HB U;replace X:=hx_ HB X;replace Y:=hx_ HB Y;replace Z:=hx_ HB Z;replace aa:=eq_true aa;replace ab:=eq_true ab;go_wp2_with (first|(go_at_call 86;(with_reducible refine(spec_l10Ok.calls k1 ((rd_T57 J D).f0) ((rd_T57 J D).f1) ((rd_T57 J D).f2) ((rd_T57 J D).f3) true _ A4.out).mono ?_);rintro e w6 ⟨rfl,hb⟩;replace HB:=bs HB hb;clear hb))
      go_roundg k1
      case measure=>have:=ao.out;omega
      case rel=>exact⟨(wrap64 (D+1)),FR,H',⟨by have:=ao.out;omega⟩,⟨PB⟩⟩
     ·replace c5:=Bool.eq_false_iff.mpr c5;subst c5;rw[if_neg nft] at H;obtain rfl:=Option.some.inj H;have aa:0≤(D:Int):=od;have ab:D < (J.length:Int):=od;obtain⟨ai,ac,U,X,Y,Z⟩:=at_T57 am.out D aa ab;cases ac;replace U:=hx_ HB U;replace X:=hx_ HB X;replace Y:=hx_ HB Y;replace Z:=hx_ HB Z;replace aa:=eq_true aa;replace ab:=eq_true ab;go_wp2_with (first|(go_at_call 86;(with_reducible refine(spec_l10Ok.calls k1 ((rd_T57 J D).f0) ((rd_T57 J D).f1) ((rd_T57 J D).f2) ((rd_T57 J D).f3) false _ A4.out).mono ?_);rintro e w7 ⟨rfl,hb⟩;replace HB:=bs HB hb;clear hb))
      go_ret
      exact⟨RT,PB⟩
    ·rw[if_neg c3] at H;exact absurd H (by simp)
   ·rw[if_neg c2] at H;have aq:=decide_eq_false c2;clear c2;obtain rfl:=Option.some.inj H;go_wp2
    go_ret
    exact⟨RT,PB⟩

end Go.Proofs.YteemhimikamihaaGreat.MFnReplays
