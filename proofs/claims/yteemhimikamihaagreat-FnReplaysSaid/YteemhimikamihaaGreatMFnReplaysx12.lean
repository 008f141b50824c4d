import Derived.Test.YteemhimikamihaaGreatShr2
import Derived.Test.YteemhimikamihaaGreatMFnReplaysx0
import Derived.Test.YteemhimikamihaaGreatMFnReplaysx11
import Derived.Test.YteemhimikamihaaGreatMFnReplaysx1
namespace Go.Proofs.YteemhimikamihaaGreat.MFnReplays
open Go.RowKit Go.Proofs.YteemhimikamihaaGreatW.PrintWords Go.Proofs.YteemhimikamihaaGreatW.PrintLast Go.Proofs.YteemhimikamihaaGreatW.PrintMore
attribute [local go_sem] max2_int min2_int max_two min_two max_three min_three max_four min_four
set_option linter.unusedVariables false
set_option maxHeartbeats 8000000
set_option maxRecDepth 100000
set_option linter.unusedSimpArgs false

def spec_IsAddress.f (D:Int)(J:Int)(U:Int):Option (Bool):=(spec_l1In.f D 1 9).bind fun X=>(if X=true then((spec_l1In.f J 0 99).bind fun Y=>(if Y=true then((spec_l1In.f U 0 99).bind fun Z=>(some Z)) else(some false))) else(some false))
theorem spec_IsAddress.calls (D:Int)(J:Int)(U:Int)(r:Bool)(w:World)(h:spec_IsAddress.f D J U=some r) :
  Calls Tryz.prog 101 #[.agg #[.int .i64 D,.int .i64 J,.int .i64 U]] w fun e w'=>e = .returned (.bool r)∧Below w.heap.size w w':=by
 have aw:=Tryz.underlying48;have HB:=ak (Below.refl w.heap.size w);have H:=h;clear h;unfold spec_IsAddress.f at H;obtain⟨ah,A2,H⟩:=obq H;(try dsimp only at H)
 by_cases Y:ah=true
 ·subst Y;rw[if_pos rfl] at H;obtain⟨ai,A4,H⟩:=obq H;(try dsimp only at H);go_enter Tryz.func101,Tryz.ntmps101
  try go_wp2_with (first|((with_reducible refine gate_dst (N:=1) rfl ?_);refine bx_ (N:=1) #[.int .i64 D,.int .i64 J,.int .i64 U] 48 ?_;intro Z hg w7 hbox hb;have X:=ak hbox;have aa:=gy hg HB;replace HB:=bs HB hb;clear hb hbox hg;obtain⟨ao,ap,aq,ar,au,av⟩:=bc3 X)|((with_reducible refine gate_callee (f:=88) rfl ?_);refine hold_ ?_))
  (refine unhold_ ?_;refine goesL_ (some 5) rfl rfl Tryz.func88 KR rfl #[.int .i64 D,.int .i64 1,.int .i64 9] rfl AR ?_;(with_reducible refine(spec_l1In.calls D 1 9 true _ A2.out).mono ?_);rintro e w' ⟨rfl,⟨nd,rfl⟩⟩;refine⟨_,rfl,?_⟩)
  by_cases c5:ai=true
  ·subst c5;rw[if_pos rfl] at H;obtain⟨aj,A6,H⟩:=obq H;(try dsimp only at H);obtain rfl:=Option.some.inj H;go_wp2_with (first|(go_at_call 88;(with_reducible refine(spec_l1In.calls J 0 99 true _ A4.out).mono ?_);rintro e w' ⟨rfl,⟨nd,rfl⟩⟩)|(go_at_call 88;(with_reducible refine(spec_l1In.calls U 0 99 aj _ A6.out).mono ?_);rintro e w' ⟨rfl,⟨nd,rfl⟩⟩))
   go_ret
   exact⟨RT,PB⟩
  ·replace c5:=Bool.eq_false_iff.mpr c5;subst c5;rw[if_neg nft] at H;obtain rfl:=Option.some.inj H;go_wp2_with (first|(go_at_call 88;(with_reducible refine(spec_l1In.calls J 0 99 false _ A4.out).mono ?_);rintro e w' ⟨rfl,⟨nd,rfl⟩⟩))
   go_ret
   exact⟨RT,PB⟩
 ·replace Y:=Bool.eq_false_iff.mpr Y;subst Y;rw[if_neg nft] at H;obtain rfl:=Option.some.inj H;go_enter Tryz.func101,Tryz.ntmps101;go_wp2_with (first|((with_reducible refine gate_dst (N:=1) rfl ?_);refine bx_ (N:=1) #[.int .i64 D,.int .i64 J,.int .i64 U] 48 ?_;intro Z hg ay hbox hb;have X:=ak hbox;have aa:=gy hg HB;replace HB:=bs HB hb;clear hb hbox hg;obtain⟨_,_,_,_,_,_⟩:=bc3 X)|(go_at_call 88;(with_reducible refine(spec_l1In.calls D 1 9 false _ A2.out).mono ?_);rintro e w' ⟨rfl,⟨nd,rfl⟩⟩))
  go_ret
  exact⟨RT,PB⟩
def spec_l5Bytes.l0:Nat→List Int→Int→Option (Bool)
  | 0,_,_=>none
  | k+1,J,D=>if D < (J.length:Int) then(if 0≤D then((spec_l1In.f (rd J D) 0 255).bind fun U=>(if U=true then(spec_l5Bytes.l0 k J (wrap64 (D+1))) else(some false))) else(none)) else(some true)
def spec_l5Bytes.f (k:Nat)(D:List Int):Option (Bool):=spec_l5Bytes.l0 k D 0
theorem spec_l5Bytes.calls (k:Nat)(A0:Option Addr)(c0:Nat)(J:List Int)(r:Bool)(w:World)(ag:Kd.C (Kd.int .i64) w A0 J.length J)(ah:J.length≤c0)(h:spec_l5Bytes.f k J=some r) :
  Calls Tryz.prog 106 #[.slice A0 J.length c0] w fun e w'=>e = .returned (.bool r)∧Drawn0 w w':=by
 have ai:=ak ag;have aw:=ak ah;clear ag ah;have H:=h;clear h;unfold spec_l5Bytes.f at H;have H':=ak H;clear H;go_enter Tryz.func106,Tryz.ntmps106;go_wp2
 go_loopg [3] k (fun kq v3 w'=>∃(D:Int),v3 = .int .i64 D∧Aside0 (spec_l5Bytes.l0 kq J D=some r)∧Aside0 (kq≤k)∧Drawn0 w w')
 case atStart=>exact⟨(0),FR,H',⟨Nat.le_refl _⟩,by repeat(first|exact Drawn0.refl _ | apply Drawn0.step)⟩
 case round =>
  clear H'
  try clear c1
  obtain⟨D,rfl,HA,aj,⟨m1,rfl⟩⟩:=hrel
  cases gk with
  | zero=>exact absurd HA.out (by simp[spec_l5Bytes.l0])
  | succ k1 =>
   have H:=HA.out;clear HA;simp only[spec_l5Bytes.l0] at H
   by_cases Z:D < (J.length:Int)
   ·rw[if_pos Z] at H;have am:=decide_eq_true Z;clear Z
    by_cases c3:0≤D
    ·rw[if_pos c3] at H;have av:=decide_eq_true c3;clear c3;obtain⟨ao,A4,H⟩:=obq H;(try dsimp only at H)
     by_cases c5:ao=true
     ·subst c5;rw[if_pos rfl] at H;have H':=ak H;clear H;have U:0≤(D:Int):=od;have X:D < (J.length:Int):=od;obtain⟨ae,Y,aa⟩:=Kd.at_int ai.out D U X;cases Y;replace U:=eq_true U;replace X:=eq_true X;go_wp2_with (first|(go_at_call 88;(with_reducible refine(spec_l1In.calls (rd J D) 0 255 true _ A4.out).mono ?_);rintro e w' ⟨rfl,⟨nd,rfl⟩⟩))
      go_roundg k1
      case measure=>have:=aj.out;omega
      case rel=>exact⟨(wrap64 (D+1)),FR,H',⟨by have:=aj.out;omega⟩,by repeat(first|exact Drawn0.refl _ | apply Drawn0.step)⟩
     ·replace c5:=Bool.eq_false_iff.mpr c5;subst c5;rw[if_neg nft] at H;obtain rfl:=Option.some.inj H;have U:0≤(D:Int):=od;have X:D < (J.length:Int):=od;obtain⟨ae,Y,aa⟩:=Kd.at_int ai.out D U X;cases Y;replace U:=eq_true U;replace X:=eq_true X;go_wp2_with (first|(go_at_call 88;(with_reducible refine(spec_l1In.calls (rd J D) 0 255 false _ A4.out).mono ?_);rintro e w' ⟨rfl,⟨nd,rfl⟩⟩))
      go_ret
      exact⟨FR,by repeat(first|exact Drawn0.refl _ | apply Drawn0.step)⟩
    ·rw[if_neg c3] at H;exact absurd H (by simp)
   ·rw[if_neg Z] at H;have am:=decide_eq_false Z;clear Z;obtain rfl:=Option.some.inj H;go_wp2
    go_ret
    exact⟨FR,by repeat(first|exact Drawn0.refl _ | apply Drawn0.step)⟩
attribute [local go_sem high] eqA48
def spec_IsResource.j0:Nat→Bool→Int→List Int→Int→Int→Int→Option (Bool)
  | 0,_,_,_,_,_,_=>none
  | k+1,aa,D,J,U,X,Y=>if aa=true then(some false) else(if D=3 then((spec_IsAddress.f U X Y).bind fun Z=>(if Z=true then(some ((J.length:Int) == 0)) else(some false))) else(if (U == 0 && (X == 0 && (Y == 0)))=true then(if D=4 then(some ((J.length:Int) == 0)) else(some true)) else(some false)))
def spec_IsResource.f (k:Nat)(J:Int)(D:List Int)(U:Int)(X:Int)(Y:Int):Option (Bool):=(spec_l1In.f J 1 4).bind fun Z=>(if Z=true then((spec_l5Bytes.f k D).bind fun aa=>(if aa=true then(spec_IsResource.j0 k (decide ((D.length:Int) > 6)) J D U X Y) else(spec_IsResource.j0 k true J D U X Y))) else(spec_IsResource.j0 k true J D U X Y))
theorem spec_IsResource.calls (k:Nat)(D:Int)(ag:Option Addr)(ah:Nat)(Z:List Int)(U:Int)(X:Int)(Y:Int)(r:Bool)(w:World)(ai:Kd.C (Kd.int .i64) w ag Z.length Z)(aj:Z.length≤ah)(h:spec_IsResource.f k D Z U X Y=some r) :
  Calls Tryz.prog 102 #[.agg #[.int .i64 D,.slice ag Z.length ah,.int .i64 U,.int .i64 X,.int .i64 Y]] w fun e w'=>e = .returned (.bool r)∧Below w.heap.size w w':=by
 have dw:=Tryz.underlying81;have dx:=Tryz.underlying48;have al:=ak ai;have am:=ak aj;clear ai aj;have HB:=ak (Below.refl w.heap.size w);have H:=h;clear h;unfold spec_IsResource.f at H;have bc:=ak H;clear H;go_enter Tryz.func102,Tryz.ntmps102
 go_upto_region 1 with (first|((with_reducible refine gate_dst (N:=1) rfl ?_);(try(refine gate_guard (by rfl) ?_;dsimp only));refine bx_ (N:=1) #[.int .i64 D,.slice ag Z.length ah,.int .i64 U,.int .i64 X,.int .i64 Y] 81 ?_;intro bv hg w3 hbox hb;have J:=ak hbox;have du:=gy hg HB;replace HB:=bs HB hb;clear hb hbox hg))
 (try simp only[Act.put,List.setIfInBounds_toArray,List.set_cons_zero,List.set_cons_succ])
 go_cut [18] (fun de wc=>∃(kq:Nat)(ab:Bool),de = .bool ab∧Aside0 (spec_IsResource.j0 kq ab D Z U X Y=some r)∧Aside0 (kq≤k)∧Aside0 (wc.heap[bv]?=some (.cells #[.int .i64 D,(.slice ag Z.length ah),.int .i64 U,.int .i64 X,.int .i64 Y] 81 (0,0)))∧Aside0 (Below w.heap.size w wc))
 case first =>
  have H:=bc.out;clear bc;obtain⟨ca,A4,H⟩:=obq H;(try dsimp only at H)
  by_cases c5:ca=true
  ·subst c5;rw[if_pos rfl] at H;obtain⟨cb,A6,H⟩:=obq H;(try dsimp only at H);obtain⟨bf,bg,bh,bi,bj,bk,bl,bm,bo,bp⟩:=bc5 J
   try go_wp2_with (first|((with_reducible refine gate_callee (f:=88) rfl ?_);refine hold_ ?_))
   (refine unhold_ ?_;refine goesL_ (some 5) rfl rfl Tryz.func88 KR rfl #[.int .i64 D,.int .i64 1,.int .i64 4] rfl AR ?_;(with_reducible refine(spec_l1In.calls D 1 4 true _ A4.out).mono ?_);rintro e w' ⟨rfl,⟨nd,rfl⟩⟩;refine⟨_,rfl,?_⟩)
   by_cases c7:cb=true
   ·subst c7;rw[if_pos rfl] at H;have H':=ak H;clear H;go_wp2_with (first|(go_at_call 106;(with_reducible refine(spec_l5Bytes.calls k _ _ Z true _ ?side1 am.out A6.out).mono ?_);(case side1=>exact Kd.C_below al.out PB);rintro e w' ⟨rfl,⟨nd,rfl⟩⟩))
    go_meet
    case rel=>exact⟨_,(decide ((Z.length:Int) > 6)),FR,H',⟨by first|omega | exact Nat.le_refl _⟩,⟨PK J⟩,⟨PB⟩⟩
   ·replace c7:=Bool.eq_false_iff.mpr c7;subst c7;rw[if_neg nft] at H;have H':=ak H;clear H;go_wp2_with (first|(go_at_call 106;(with_reducible refine(spec_l5Bytes.calls k _ _ Z false _ ?side1 am.out A6.out).mono ?_);(case side1=>exact Kd.C_below al.out PB);rintro e w' ⟨rfl,⟨nd,rfl⟩⟩))
    go_meet
    case rel=>exact⟨_,(true),FR,H',⟨by first|omega | exact Nat.le_refl _⟩,⟨PK J⟩,⟨PB⟩⟩
  ·replace c5:=Bool.eq_false_iff.mpr c5;subst c5;rw[if_neg nft] at H;have H':=ak H;clear H;obtain⟨aq,ar,au,av,aw,ax,ay,az,ba,bb⟩:=bc5 J;go_wp2_with (first|(go_at_call 88;(with_reducible refine(spec_l1In.calls D 1 4 false _ A4.out).mono ?_);rintro e w' ⟨rfl,⟨nd,rfl⟩⟩))
   go_meet
   case rel=>exact⟨_,(true),FR,H',⟨by first|omega | exact Nat.le_refl _⟩,⟨PK J⟩,⟨PB⟩⟩
 case rest =>
  clear bc;(try clear c1);(try clear p2);(try clear c5);(try clear c7);(try clear c8);(try clear dy);(try clear aq);(try clear ar);(try clear au);(try clear av);(try clear aw);(try clear bf);(try clear bg);(try clear bh);(try clear bi);(try clear bj);(try clear dh);(try clear di);(try clear dj);(try clear dk);(try clear dl);(try clear ax);(try clear ay);(try clear az);(try clear ba);(try clear bb);(try clear bk);(try clear bl);(try clear bm);(try clear bo);(try clear bp);(try clear dn);(try clear dp);(try clear dq);(try clear dr);(try clear dt);obtain⟨kq,ab,rfl,HA,dz,J,HB⟩:=hcut
  cases kq with
  | zero=>exact absurd HA.out (by simp[spec_IsResource.j0])
  | succ kj1 =>
   have H:=HA.out;clear HA;simp only[spec_IsResource.j0] at H
   by_cases ao:ab=true
   ·subst ao;rw[if_pos rfl] at H;obtain rfl:=Option.some.inj H;go_wp2
    go_ret
    exact⟨RT,PB⟩
   ·replace ao:=Bool.eq_false_iff.mpr ao;subst ao;rw[if_neg nft] at H
    by_cases ac:D=3
    ·rw[if_pos ac] at H;obtain⟨bw,bx⟩:=eqq1 ac;clear ac;obtain⟨cd,b9,H⟩:=obq H;(try dsimp only at H)
     by_cases ap:cd=true
     ·subst ap;rw[if_pos rfl] at H;obtain rfl:=Option.some.inj H;obtain⟨ce,cf,cg,ch,_,ci,cj,ck,cl,_⟩:=bc5 J;go_wp2_with (first|(go_at_call 101;(with_reducible refine(spec_IsAddress.calls U X Y true _ b9.out).mono ?_);rintro e d7 ⟨rfl,hb⟩;replace J:=kf J hb;replace HB:=bs HB hb;clear hb;obtain⟨cm,cn,co,cp,_,cq,cr,ct,cu,_⟩:=bc5 J))
      go_ret
      exact⟨RT,PB⟩
     ·replace ap:=Bool.eq_false_iff.mpr ap;subst ap;rw[if_neg nft] at H;obtain rfl:=Option.some.inj H;obtain⟨_,_,_,_,_,_,_,_,_,_⟩:=bc5 J;go_wp2_with (first|(go_at_call 101;(with_reducible refine(spec_IsAddress.calls U X Y false _ b9.out).mono ?_);rintro e d8 ⟨rfl,hb⟩;replace HB:=bs HB hb;clear hb))
      go_ret
      exact⟨RT,PB⟩
    ·rw[if_neg ac] at H;obtain⟨bw,bx⟩:=eqq2 ac
     by_cases aa:(U == 0 && (X == 0 && (Y == 0)))=true
     ·rw[if_pos aa] at H;have bz:(U == 0 && (X == 0 && (Y == 0)))=true:=aa;(try(have b0:decide (U=0 && (X == 0 && (Y == 0)))=true:=by simpa using aa));(try(have b4:(U == 0 && (X == 0 && (Y == 0)))=true:=by simpa using aa));clear aa
      by_cases ae:D=4
      ·rw[if_pos ae] at H;obtain⟨b5,b6⟩:=eqq1 ae;clear ae;obtain rfl:=Option.some.inj H;obtain⟨_,_,_,_,_,_,_,_,_,_⟩:=bc5 J;go_wp2
       go_ret
       exact⟨RT,PB⟩
      ·rw[if_neg ae] at H;obtain⟨b5,b6⟩:=eqq2 ae;obtain rfl:=Option.some.inj H;obtain⟨cv,cw,cx,cy,_,cz,da,db,dc,_⟩:=bc5 J;go_wp2
       go_ret
       exact⟨RT,PB⟩
     ·rw[if_neg aa] at H
      have bz:(U == 0 && (X == 0 && (Y == 0)))=false:=by simpa using aa
      (try(have b0:decide (U=0 && (X == 0 && (Y == 0)))=false:=by simpa using aa));(try(have b4:(U == 0 && (X == 0 && (Y == 0)))=false:=by simpa using aa));(try(have dv:¬(U=0 && (X == 0 && (Y == 0))):=by simpa using aa));clear aa;obtain rfl:=Option.some.inj H;obtain⟨_,_,_,_,_,_,_,_,_,_⟩:=bc5 J;go_wp2
      go_ret
      exact⟨RT,PB⟩
def spec_IsSite.l0:Nat→List (S83)→Int→Option (Bool)
  | 0,_,_=>none
  | k+1,D,J=>if J < (D.length:Int) then(if 0≤J then((spec_IsAddress.f ((rd_T83 D J).f0.f0) ((rd_T83 D J).f0.f1) ((rd_T83 D J).f0.f2)).bind fun U=>(if U=true then((spec_l1In.f ((rd_T83 D J).f1) 0 1000).bind fun X=>(if X=true then((spec_IsResource.f k ((rd_T83 D J).f2.f0) ((rd_T83 D J).f2.f1) ((rd_T83 D J).f2.f2.f0) ((rd_T83 D J).f2.f2.f1) ((rd_T83 D J).f2.f2.f2)).bind fun Y=>(if Y=true then(spec_IsSite.l0 k D (wrap64 (J+1))) else(some false))) else(some false))) else(some false))) else(none)) else(some (decide ((D.length:Int)≤12)))
def spec_IsSite.f (k:Nat)(D:List (S83)):Option (Bool):=spec_IsSite.l0 k D 0
theorem spec_IsSite.calls (k:Nat)(A0:Option Addr)(c0:Nat)(J:List (S83))(r:Bool)(w:World)(co:Kd.C k83 w A0 J.length J)(cp:J.length≤c0)(h:spec_IsSite.f k J=some r) :
  Calls Tryz.prog 87 #[.slice A0 J.length c0] w fun e w'=>e = .returned (.bool r)∧Below w.heap.size w w':=by
 have de:=Tryz.underlying48;have df:=Tryz.underlying81;have bw:=ak co;have di:=ak cp;clear co cp;have HB:=ak (Below.refl w.heap.size w);have H:=h;clear h;unfold spec_IsSite.f at H;have H':=ak H;clear H;go_enter Tryz.func87,Tryz.ntmps87;go_wp2
 go_loopg [3] k (fun kq v3 w'=>∃(D:Int),v3 = .int .i64 D∧Aside0 (spec_IsSite.l0 kq J D=some r)∧Aside0 (kq≤k)∧Aside0 (Below w.heap.size w w'))
 case atStart=>exact⟨(0),FR,H',⟨Nat.le_refl _⟩,⟨PB⟩⟩
 case round =>
  clear H';obtain⟨D,rfl,HA,cq,HB⟩:=hrel
  cases gk with
  | zero=>exact absurd HA.out (by simp[spec_IsSite.l0])
  | succ k1 =>
   have H:=HA.out;clear HA;simp only[spec_IsSite.l0] at H
   by_cases c2:D < (J.length:Int)
   ·rw[if_pos c2] at H;have cv:=decide_eq_true c2;clear c2
    by_cases c3:0≤D
    ·rw[if_pos c3] at H;have dh:=decide_eq_true c3;clear c3;obtain⟨cw,A4,H⟩:=obq H;(try dsimp only at H)
     by_cases c5:cw=true
     ·subst c5;rw[if_pos rfl] at H;obtain⟨cx,A6,H⟩:=obq H;(try dsimp only at H)
      by_cases c7:cx=true
      ·subst c7;rw[if_pos rfl] at H;obtain⟨cz,A8,H⟩:=obq H;(try dsimp only at H)
       by_cases c9:cz=true
       ·subst c9;rw[if_pos rfl] at H;have H':=ak H;clear H;have al:0≤(D:Int):=od;have am:D < (J.length:Int):=od;obtain⟨bd,b6,b7,br,U,X,Y,Z,aa,ab,ac,ae,ag,ah,ai⟩:=at_T83 bw.out D al am;cases br;replace U:=hx_ HB U;replace X:=hx_ HB X;replace Y:=hx_ HB Y;replace Z:=hx_ HB Z;replace aa:=hx_ HB aa;replace ab:=hx_ HB ab;replace ac:=hx_ HB ac;replace ae:=hx_ HB ae;replace ag:=hx_ HB ag;have bz:=ak ai;have b0:=ak ah;clear ai ah;replace al:=eq_true al;replace am:=eq_true am;go_wp2_with (first|(go_at_call 101;(with_reducible refine(spec_IsAddress.calls ((rd_T83 J D).f0.f0) ((rd_T83 J D).f0.f1) ((rd_T83 J D).f0.f2) true _ A4.out).mono ?_);rintro e dj ⟨rfl,hb⟩;replace HB:=bs HB hb;clear hb;have bb:0≤(D:Int):=od;have bc:D < (J.length:Int):=od;obtain⟨bx,cd,ce,b8,ao,ap,aq,ar,au,aj,av,aw,ax,ay,az⟩:=at_T83 bw.out D bb bc;obtain rfl:bd=bx:=(by injection b8);replace ao:=hx_ HB ao;replace ap:=hx_ HB ap;replace aq:=hx_ HB aq;replace ar:=hx_ HB ar;replace au:=hx_ HB au;replace aj:=hx_ HB aj;replace av:=hx_ HB av;replace aw:=hx_ HB aw;replace ax:=hx_ HB ax;have b9:=ak az;have ca:=ak ay;clear az ay;replace bb:=eq_true bb;replace bc:=eq_true bc)|(go_at_call 88;(with_reducible refine(spec_l1In.calls ((rd_T83 J D).f1) 0 1000 true _ A6.out).mono ?_);rintro e w' ⟨rfl,⟨nd,rfl⟩⟩;have bu:0≤(D:Int):=od;have bv:D < (J.length:Int):=od;obtain⟨cb,ch,ci,cf,bf,bg,bh,bi,bj,ba,bk,bl,bm,bo,bp⟩:=at_T83 bw.out D bu bv;obtain rfl:bd=cb:=(by injection cf);replace bf:=hx_ HB bf;replace bg:=hx_ HB bg;replace bh:=hx_ HB bh;replace bi:=hx_ HB bi;replace bj:=hx_ HB bj;replace ba:=hx_ HB ba;replace bk:=hx_ HB bk;replace bl:=hx_ HB bl;replace bm:=hx_ HB bm;have b4:=ak bp;have b5:=ak bo;clear bp bo;replace bu:=eq_true bu;replace bv:=eq_true bv;have ea_:=Option.some.inj (aj.symm.trans ba);injection ea_ with ea_ en_ ec_;subst ea_;subst ec_;clear en_)|(go_at_call 102;(with_reducible refine(spec_IsResource.calls k1 ((rd_T83 J D).f2.f0) _ _ ((rd_T83 J D).f2.f1) ((rd_T83 J D).f2.f2.f0) ((rd_T83 J D).f2.f2.f1) ((rd_T83 J D).f2.f2.f2) true _ ?side1 b5.out A8.out).mono ?_);(case side1=>exact Kd.C_below b4.out PB);rintro e dk ⟨rfl,hb⟩;replace HB:=bs HB hb;clear hb))
        go_roundg k1
        case measure=>have:=cq.out;omega
        case rel=>exact⟨(wrap64 (D+1)),FR,H',⟨by have:=cq.out;omega⟩,⟨PB⟩⟩
       ·replace c9:=Bool.eq_false_iff.mpr c9;subst c9;rw[if_neg nft] at H;obtain rfl:=Option.some.inj H;have al:0≤(D:Int):=od;have am:D < (J.length:Int):=od;obtain⟨bd,b6,b7,br,U,X,Y,Z,aa,ab,ac,ae,ag,ah,ai⟩:=at_T83 bw.out D al am;cases br;replace U:=hx_ HB U;replace X:=hx_ HB X;replace Y:=hx_ HB Y;replace Z:=hx_ HB Z;replace aa:=hx_ HB aa;replace ab:=hx_ HB ab;replace ac:=hx_ HB ac;replace ae:=hx_ HB ae;replace ag:=hx_ HB ag;have bz:=ak ai;have b0:=ak ah;clear ai ah;replace al:=eq_true al;replace am:=eq_true am;go_wp2_with (first|(go_at_call 101;(with_reducible refine(spec_IsAddress.calls ((rd_T83 J D).f0.f0) ((rd_T83 J D).f0.f1) ((rd_T83 J D).f0.f2) true _ A4.out).mono ?_);rintro e dl ⟨rfl,hb⟩;replace HB:=bs HB hb;clear hb;have bb:0≤(D:Int):=od;have bc:D < (J.length:Int):=od;obtain⟨bx,cd,ce,b8,ao,ap,aq,ar,au,aj,av,aw,ax,ay,az⟩:=at_T83 bw.out D bb bc;obtain rfl:bd=bx:=(by injection b8);replace ao:=hx_ HB ao;replace ap:=hx_ HB ap;replace aq:=hx_ HB aq;replace ar:=hx_ HB ar;replace au:=hx_ HB au;replace aj:=hx_ HB aj;replace av:=hx_ HB av;replace aw:=hx_ HB aw;replace ax:=hx_ HB ax;have b9:=ak az;have ca:=ak ay;clear az ay;replace bb:=eq_true bb;replace bc:=eq_true bc)|(go_at_call 88;(with_reducible refine(spec_l1In.calls ((rd_T83 J D).f1) 0 1000 true _ A6.out).mono ?_);rintro e w' ⟨rfl,⟨nd,rfl⟩⟩;have bu:0≤(D:Int):=od;have bv:D < (J.length:Int):=od;obtain⟨cb,ch,ci,cf,bf,bg,bh,bi,bj,ba,bk,bl,bm,bo,bp⟩:=at_T83 bw.out D bu bv;obtain rfl:bd=cb:=(by injection cf);replace bf:=hx_ HB bf;replace bg:=hx_ HB bg;replace bh:=hx_ HB bh;replace bi:=hx_ HB bi;replace bj:=hx_ HB bj;replace ba:=hx_ HB ba;replace bk:=hx_ HB bk;replace bl:=hx_ HB bl;replace bm:=hx_ HB bm;have b4:=ak bp;have b5:=ak bo;clear bp bo;replace bu:=eq_true bu;replace bv:=eq_true bv;have ea_:=Option.some.inj (aj.symm.trans ba);injection ea_ with ea_ en_ ec_;subst ea_;subst ec_;clear en_)|(go_at_call 102;(with_reducible refine(spec_IsResource.calls k1 ((rd_T83 J D).f2.f0) _ _ ((rd_T83 J D).f2.f1) ((rd_T83 J D).f2.f2.f0) ((rd_T83 J D).f2.f2.f1) ((rd_T83 J D).f2.f2.f2) false _ ?side1 b5.out A8.out).mono ?_);(case side1=>exact Kd.C_below b4.out PB);rintro e dn ⟨rfl,hb⟩;replace HB:=bs HB hb;clear hb))
        go_ret
        exact⟨RT,PB⟩
      ·replace c7:=Bool.eq_false_iff.mpr c7;subst c7;rw[if_neg nft] at H;obtain rfl:=Option.some.inj H;have al:0≤(D:Int):=od;have am:D < (J.length:Int):=od;obtain⟨bd,b6,b7,br,U,X,Y,Z,aa,ab,ac,ae,ag,ah,ai⟩:=at_T83 bw.out D al am;cases br;replace U:=hx_ HB U;replace X:=hx_ HB X;replace Y:=hx_ HB Y;replace Z:=hx_ HB Z;replace aa:=hx_ HB aa;replace ab:=hx_ HB ab;replace ac:=hx_ HB ac;replace ae:=hx_ HB ae;replace ag:=hx_ HB ag;have bz:=ak ai;have b0:=ak ah;clear ai ah;replace al:=eq_true al;replace am:=eq_true am;go_wp2_with (first|(go_at_call 101;(with_reducible refine(spec_IsAddress.calls ((rd_T83 J D).f0.f0) ((rd_T83 J D).f0.f1) ((rd_T83 J D).f0.f2) true _ A4.out).mono ?_);rintro e dp ⟨rfl,hb⟩;replace HB:=bs HB hb;clear hb;have bb:0≤(D:Int):=od;have bc:D < (J.length:Int):=od;obtain⟨bx,cd,ce,b8,ao,ap,aq,ar,au,aj,av,aw,ax,ay,az⟩:=at_T83 bw.out D bb bc;obtain rfl:bd=bx:=(by injection b8);replace ao:=hx_ HB ao;replace ap:=hx_ HB ap;replace aq:=hx_ HB aq;replace ar:=hx_ HB ar;replace au:=hx_ HB au;replace aj:=hx_ HB aj;replace av:=hx_ HB av;replace aw:=hx_ HB aw;replace ax:=hx_ HB ax;have b9:=ak az;have ca:=ak ay;clear az ay;replace bb:=eq_true bb;replace bc:=eq_true bc)|(go_at_call 88;(with_reducible refine(spec_l1In.calls ((rd_T83 J D).f1) 0 1000 false _ A6.out).mono ?_);rintro e w' ⟨rfl,⟨nd,rfl⟩⟩))
       go_ret
       exact⟨RT,PB⟩
     ·replace c5:=Bool.eq_false_iff.mpr c5;subst c5;rw[if_neg nft] at H;obtain rfl:=Option.some.inj H;have al:0≤(D:Int):=od;have am:D < (J.length:Int):=od;obtain⟨bd,b6,b7,br,U,X,Y,Z,aa,ab,ac,ae,ag,ah,ai⟩:=at_T83 bw.out D al am;cases br;replace U:=hx_ HB U;replace X:=hx_ HB X;replace Y:=hx_ HB Y;replace Z:=hx_ HB Z;replace aa:=hx_ HB aa;replace ab:=hx_ HB ab;replace ac:=hx_ HB ac;replace ae:=hx_ HB ae;replace ag:=hx_ HB ag;have bz:=ak ai;have b0:=ak ah;clear ai ah;replace al:=eq_true al;replace am:=eq_true am;go_wp2_with (first|(go_at_call 101;(with_reducible refine(spec_IsAddress.calls ((rd_T83 J D).f0.f0) ((rd_T83 J D).f0.f1) ((rd_T83 J D).f0.f2) false _ A4.out).mono ?_);rintro e dq ⟨rfl,hb⟩;replace HB:=bs HB hb;clear hb))
      go_ret
      exact⟨RT,PB⟩
    ·rw[if_neg c3] at H;exact absurd H (by simp)
   ·rw[if_neg c2] at H;have cv:=decide_eq_false c2;clear c2;obtain rfl:=Option.some.inj H;go_wp2
    go_ret
    exact⟨RT,PB⟩
def spec_l11All.l0:Nat→List Int→Int→Int→Option (Bool)
  | 0,_,_,_=>none
  | k+1,D,X,J=>if J < (D.length:Int) then(if 0≤J then((spec_l1In.f (rd D J) 0 999).bind fun U=>(if U=true then(spec_l11All.l0 k D X (wrap64 (J+1))) else(some false))) else(none)) else(some ((D.length:Int) == X))
def spec_l11All.f (k:Nat)(D:List Int)(J:Int):Option (Bool):=spec_l11All.l0 k D J 0
theorem spec_l11All.calls (k:Nat)(A0:Option Addr)(c0:Nat)(J:List Int)(a1:Int)(r:Bool)(w:World)(ag:Kd.C (Kd.int .i64) w A0 J.length J)(ah:J.length≤c0)(h:spec_l11All.f k J a1=some r) :
  Calls Tryz.prog 89 #[.slice A0 J.length c0,.int .i64 a1] w fun e w'=>e = .returned (.bool r)∧Drawn0 w w':=by
 have ai:=ak ag;have ax:=ak ah;clear ag ah;have H:=h;clear h;unfold spec_l11All.f at H;have H':=ak H;clear H;go_enter Tryz.func89,Tryz.ntmps89;go_wp2
 go_loopg [5] k (fun kq v5 w'=>∃(D:Int),v5 = .int .i64 D∧Aside0 (spec_l11All.l0 kq J a1 D=some r)∧Aside0 (kq≤k)∧Drawn0 w w')
 case atStart=>exact⟨(0),FR,H',⟨Nat.le_refl _⟩,by repeat(first|exact Drawn0.refl _ | apply Drawn0.step)⟩
 case round =>
  clear H'
  try clear p2
  obtain⟨D,rfl,HA,aj,⟨m1,rfl⟩⟩:=hrel
  cases gk with
  | zero=>exact absurd HA.out (by simp[spec_l11All.l0])
  | succ k1 =>
   have H:=HA.out;clear HA;simp only[spec_l11All.l0] at H
   by_cases Z:D < (J.length:Int)
   ·rw[if_pos Z] at H;have ao:=decide_eq_true Z;clear Z
    by_cases c4:0≤D
    ·rw[if_pos c4] at H;have aw:=decide_eq_true c4;clear c4;obtain⟨ap,A5,H⟩:=obq H;(try dsimp only at H)
     by_cases c6:ap=true
     ·subst c6;rw[if_pos rfl] at H;have H':=ak H;clear H;have U:0≤(D:Int):=od;have X:D < (J.length:Int):=od;obtain⟨ae,Y,aa⟩:=Kd.at_int ai.out D U X;cases Y;replace U:=eq_true U;replace X:=eq_true X;go_wp2_with (first|(go_at_call 88;(with_reducible refine(spec_l1In.calls (rd J D) 0 999 true _ A5.out).mono ?_);rintro e w' ⟨rfl,⟨nd,rfl⟩⟩))
      go_roundg k1
      case measure=>have:=aj.out;omega
      case rel=>exact⟨(wrap64 (D+1)),FR,H',⟨by have:=aj.out;omega⟩,by repeat(first|exact Drawn0.refl _ | apply Drawn0.step)⟩
     ·replace c6:=Bool.eq_false_iff.mpr c6;subst c6;rw[if_neg nft] at H;obtain rfl:=Option.some.inj H;have U:0≤(D:Int):=od;have X:D < (J.length:Int):=od;obtain⟨ae,Y,aa⟩:=Kd.at_int ai.out D U X;cases Y;replace U:=eq_true U;replace X:=eq_true X;go_wp2_with (first|(go_at_call 88;(with_reducible refine(spec_l1In.calls (rd J D) 0 999 false _ A5.out).mono ?_);rintro e w' ⟨rfl,⟨nd,rfl⟩⟩))
      go_ret
      exact⟨FR,by repeat(first|exact Drawn0.refl _ | apply Drawn0.step)⟩
    ·rw[if_neg c4] at H;exact absurd H (by simp)
   ·rw[if_neg Z] at H;have ao:=decide_eq_false Z;clear Z;obtain rfl:=Option.some.inj H;go_wp2
    go_ret
    exact⟨FR,by repeat(first|exact Drawn0.refl _ | apply Drawn0.step)⟩
def spec_IsVisit.f (k:Nat)(J:List (S83))(U:Int)(X:Int)(D:List Int):Option (Bool):=(spec_IsSite.f k J).bind fun Y=>(if Y=true then((spec_l1In.f U 0 1000).bind fun Z=>(if Z=true then((spec_l1In.f X 0 9999).bind fun aa=>(if aa=true then(if (D.length:Int)≤8 then((spec_l11All.f k D (D.length:Int)).bind fun ab=>(some ab)) else(some false)) else(some false))) else(some false))) else(some false))
theorem spec_IsVisit.calls (k:Nat)(X:Option Addr)(Y:Nat)(J:List (S83))(Z:Int)(aa:Int)(ab:Option Addr)(ac:Nat)(U:List Int)(r:Bool)(w:World)(aj:Kd.C k83 w X J.length J)(al:J.length≤Y)(am:Kd.C (Kd.int .i64) w ab U.length U)(ao:U.length≤ac)(h:spec_IsVisit.f k J Z aa U=some r) :
  Calls Tryz.prog 72 #[.agg #[.slice X J.length Y,.int .i64 Z,.int .i64 aa,.slice ab U.length ac]] w fun e w'=>e = .returned (.bool r)∧Below w.heap.size w w':=by
 have ci:=Tryz.underlying28;have ae:=ak aj;have ag:=ak al;clear aj al;have ar:=ak am;have au:=ak ao;clear am ao;have HB:=ak (Below.refl w.heap.size w);have H:=h;clear h;unfold spec_IsVisit.f at H;obtain⟨bd,A2,H⟩:=obq H;(try dsimp only at H)
 by_cases c3:bd=true
 ·subst c3;rw[if_pos rfl] at H;obtain⟨bf,A4,H⟩:=obq H;(try dsimp only at H)
  by_cases c5:bf=true
  ·subst c5;rw[if_pos rfl] at H;obtain⟨bg,A6,H⟩:=obq H;(try dsimp only at H)
   by_cases c7:bg=true
   ·subst c7;rw[if_pos rfl] at H
    by_cases c8:(U.length:Int)≤8
    ·rw[if_pos c8] at H;have bi:=decide_eq_true c8;have bj:decide (U.length≤8)=true:=decide_eq_true (by omega);clear c8;obtain⟨bk,A9,H⟩:=obq H;(try dsimp only at H);obtain rfl:=Option.some.inj H;go_enter Tryz.func72,Tryz.ntmps72;go_wp2_with (first|((with_reducible refine gate_dst (N:=1) rfl ?_);(try(refine gate_guard (by rfl) ?_;dsimp only));refine bx_ (N:=1) #[.slice X J.length Y,.int .i64 Z,.int .i64 aa,.slice ab U.length ac] 28 ?_;intro ah hg ck hbox hb;have D:=ak hbox;have ai:=gy hg HB;replace HB:=bs HB hb;clear hb hbox hg;obtain⟨_,_,_,_,_,_,_,_⟩:=bc4 D)|(go_at_call 87;(with_reducible refine(spec_IsSite.calls k _ _ J true _ ?side1 ag.out A2.out).mono ?_);(case side1=>exact Cq ae);rintro e cl ⟨rfl,hb⟩;replace D:=kf D hb;replace HB:=bs HB hb;clear hb;obtain⟨_,_,_,_,_,_,_,_⟩:=bc4 D)|(go_at_call 88;(with_reducible refine(spec_l1In.calls Z 0 1000 true _ A4.out).mono ?_);rintro e w' ⟨rfl,⟨nd,rfl⟩⟩)|(go_at_call 88;(with_reducible refine(spec_l1In.calls aa 0 9999 true _ A6.out).mono ?_);rintro e w' ⟨rfl,⟨nd,rfl⟩⟩)|(go_at_call 89;(with_reducible refine(spec_l11All.calls k _ _ U (U.length:Int) bk _ ?side1 au.out A9.out).mono ?_);(case side1=>exact Kd.C_below ar.out PB);rintro e w' ⟨rfl,⟨nd,rfl⟩⟩))
     go_ret
     exact⟨RT,PB⟩
    ·rw[if_neg c8] at H;have bi:=decide_eq_false c8;have bj:decide (U.length≤8)=false:=decide_eq_false (by omega);clear c8;obtain rfl:=Option.some.inj H;go_enter Tryz.func72,Tryz.ntmps72;go_wp2_with (first|((with_reducible refine gate_dst (N:=1) rfl ?_);(try(refine gate_guard (by rfl) ?_;dsimp only));refine bx_ (N:=1) #[.slice X J.length Y,.int .i64 Z,.int .i64 aa,.slice ab U.length ac] 28 ?_;intro ah hg cm hbox hb;have D:=ak hbox;have ai:=gy hg HB;replace HB:=bs HB hb;clear hb hbox hg;obtain⟨bl,bm,bo,bp,br,bu,bv,bw⟩:=bc4 D)|(go_at_call 87;(with_reducible refine(spec_IsSite.calls k _ _ J true _ ?side1 ag.out A2.out).mono ?_);(case side1=>exact Cq ae);rintro e cn ⟨rfl,hb⟩;replace D:=kf D hb;replace HB:=bs HB hb;clear hb;obtain⟨bx,bz,b0,b4,b5,b6,b7,b8⟩:=bc4 D)|(go_at_call 88;(with_reducible refine(spec_l1In.calls Z 0 1000 true _ A4.out).mono ?_);rintro e w' ⟨rfl,⟨nd,rfl⟩⟩)|(go_at_call 88;(with_reducible refine(spec_l1In.calls aa 0 9999 true _ A6.out).mono ?_);rintro e w' ⟨rfl,⟨nd,rfl⟩⟩))
     go_ret
     exact⟨RT,PB⟩
   ·replace c7:=Bool.eq_false_iff.mpr c7;subst c7;rw[if_neg nft] at H;obtain rfl:=Option.some.inj H;go_enter Tryz.func72,Tryz.ntmps72;go_wp2_with (first|((with_reducible refine gate_dst (N:=1) rfl ?_);(try(refine gate_guard (by rfl) ?_;dsimp only));refine bx_ (N:=1) #[.slice X J.length Y,.int .i64 Z,.int .i64 aa,.slice ab U.length ac] 28 ?_;intro ah hg co hbox hb;have D:=ak hbox;have ai:=gy hg HB;replace HB:=bs HB hb;clear hb hbox hg;obtain⟨_,_,_,_,_,_,_,_⟩:=bc4 D)|(go_at_call 87;(with_reducible refine(spec_IsSite.calls k _ _ J true _ ?side1 ag.out A2.out).mono ?_);(case side1=>exact Cq ae);rintro e cp ⟨rfl,hb⟩;replace D:=kf D hb;replace HB:=bs HB hb;clear hb;obtain⟨_,_,_,_,_,_,_,_⟩:=bc4 D)|(go_at_call 88;(with_reducible refine(spec_l1In.calls Z 0 1000 true _ A4.out).mono ?_);rintro e w' ⟨rfl,⟨nd,rfl⟩⟩)|(go_at_call 88;(with_reducible refine(spec_l1In.calls aa 0 9999 false _ A6.out).mono ?_);rintro e w' ⟨rfl,⟨nd,rfl⟩⟩))
    go_ret
    exact⟨RT,PB⟩
  ·replace c5:=Bool.eq_false_iff.mpr c5;subst c5;rw[if_neg nft] at H;obtain rfl:=Option.some.inj H;go_enter Tryz.func72,Tryz.ntmps72;go_wp2_with (first|((with_reducible refine gate_dst (N:=1) rfl ?_);(try(refine gate_guard (by rfl) ?_;dsimp only));refine bx_ (N:=1) #[.slice X J.length Y,.int .i64 Z,.int .i64 aa,.slice ab U.length ac] 28 ?_;intro ah hg cq hbox hb;have D:=ak hbox;have ai:=gy hg HB;replace HB:=bs HB hb;clear hb hbox hg;obtain⟨b9,ca,cb,cd,ce,cf,cg,ch⟩:=bc4 D)|(go_at_call 87;(with_reducible refine(spec_IsSite.calls k _ _ J true _ ?side1 ag.out A2.out).mono ?_);(case side1=>exact Cq ae);rintro e cr ⟨rfl,hb⟩;replace D:=kf D hb;replace HB:=bs HB hb;clear hb;obtain⟨_,_,_,_,_,_,_,_⟩:=bc4 D)|(go_at_call 88;(with_reducible refine(spec_l1In.calls Z 0 1000 false _ A4.out).mono ?_);rintro e w' ⟨rfl,⟨nd,rfl⟩⟩))
   go_ret
   exact⟨RT,PB⟩
 ·replace c3:=Bool.eq_false_iff.mpr c3;subst c3;rw[if_neg nft] at H;obtain rfl:=Option.some.inj H;go_enter Tryz.func72,Tryz.ntmps72;go_wp2_with (first|((with_reducible refine gate_dst (N:=1) rfl ?_);(try(refine gate_guard (by rfl) ?_;dsimp only));refine bx_ (N:=1) #[.slice X J.length Y,.int .i64 Z,.int .i64 aa,.slice ab U.length ac] 28 ?_;intro ah hg ct hbox hb;have D:=ak hbox;have ai:=gy hg HB;replace HB:=bs HB hb;clear hb hbox hg;obtain⟨_,_,_,_,_,_,_,_⟩:=bc4 D)|(go_at_call 87;(with_reducible refine(spec_IsSite.calls k _ _ J false _ ?side1 ag.out A2.out).mono ?_);(case side1=>exact Cq ae);rintro e cu ⟨rfl,hb⟩;replace HB:=bs HB hb;clear hb))
  go_ret
  exact⟨RT,PB⟩
def spec_IsDone.f (J:List (S57))(D:Int)(U:List Int)(X:List Int)(Y:List Int):Option (Bool):=some (decide (D≥(J.length:Int)))
theorem spec_IsDone.calls (A0:Option Addr)(c0:Nat)(l0:List (S57))(X:Int)(Y:Option Addr)(Z:Nat)(D:List Int)(aa:Option Addr)(ab:Nat)(J:List Int)(ac:Option Addr)(ae:Nat)(U:List Int)(r:Bool)(w:World)(aq:Kd.C k57 w A0 l0.length l0)(ar:l0.length≤c0)(ag:Kd.C (Kd.int .i64) w Y D.length D)(ah:D.length≤Z)(ai:Kd.C (Kd.int .i64) w aa J.length J)(aj:J.length≤ab)(al:Kd.C (Kd.int .i64) w ac U.length U)(am:U.length≤ae)(h:spec_IsDone.f l0 X D J U=some r) :
  Calls Tryz.prog 73 #[.slice A0 l0.length c0,.agg #[.int .i64 X,.slice Y D.length Z,.slice aa J.length ab,.slice ac U.length ae]] w fun e w'=>e = .returned (.bool r)∧Below w.heap.size w w':=by
 have bf:=Tryz.underlying35;have bg:=ak aq;have bh:=ak ar;clear aq ar;have aw:=ak ag;have ax:=ak ah;clear ag ah;have ay:=ak ai;have az:=ak aj;clear ai aj;have ba:=ak al;have bb:=ak am;clear al am;have HB:=ak (Below.refl w.heap.size w);have H:=h;clear h;unfold spec_IsDone.f at H;obtain rfl:=Option.some.inj H;go_enter Tryz.func73,Tryz.ntmps73;go_wp2_with (first|((with_reducible refine gate_dst (N:=3) rfl ?_);refine bx_ (N:=3) #[.int .i64 X,.slice Y D.length Z,.slice aa J.length ab,.slice ac U.length ae] 35 ?_;intro bc hg w3 hbox hb;have ap:=ak hbox;have bd:=gy hg HB;replace HB:=bs HB hb;clear hb hbox hg;obtain⟨_,_,_,_,_,_,_,_⟩:=bc4 ap))
 go_ret
 exact⟨RT,PB⟩

def spec_IsState.f (k:Nat)(D:Int)(J:List Int)(U:List Int)(X:List Int):Option (Bool):=(spec_l1In.f D 0 19).bind fun Y=>(if Y=true then((spec_l11All.f k J 4).bind fun Z=>(if Z=true then((spec_l11All.f k U 3).bind fun aa=>(if aa=true then((spec_l11All.f k X 4).bind fun ab=>(some ab)) else(some false))) else(some false))) else(some false))
theorem spec_IsState.calls (k:Nat)(D:Int)(Z:Option Addr)(aa:Nat)(J:List Int)(ab:Option Addr)(ac:Nat)(U:List Int)(ae:Option Addr)(ag:Nat)(X:List Int)(r:Bool)(w:World)(ah:Kd.C (Kd.int .i64) w Z J.length J)(ai:J.length≤aa)(aj:Kd.C (Kd.int .i64) w ab U.length U)(al:U.length≤ac)(am:Kd.C (Kd.int .i64) w ae X.length X)(ao:X.length≤ag)(h:spec_IsState.f k D J U X=some r) :
  Calls Tryz.prog 103 #[.agg #[.int .i64 D,.slice Z J.length aa,.slice ab U.length ac,.slice ae X.length ag]] w fun e w'=>e = .returned (.bool r)∧Below w.heap.size w w':=by
 have b4:=Tryz.underlying35;have ap:=ak ah;have aq:=ak ai;clear ah ai;have ar:=ak aj;have au:=ak al;clear aj al;have ax:=ak am;have ay:=ak ao;clear am ao;have HB:=ak (Below.refl w.heap.size w);have H:=h;clear h;unfold spec_IsState.f at H;obtain⟨bh,A2,H⟩:=obq H;(try dsimp only at H)
 by_cases c3:bh=true
 ·subst c3;rw[if_pos rfl] at H;obtain⟨bj,A4,H⟩:=obq H;(try dsimp only at H)
  by_cases c5:bj=true
  ·subst c5;rw[if_pos rfl] at H;obtain⟨bk,A6,H⟩:=obq H;(try dsimp only at H);go_enter Tryz.func103,Tryz.ntmps103
   try go_wp2_with (first|((with_reducible refine gate_dst (N:=1) rfl ?_);refine bx_ (N:=1) #[.int .i64 D,.slice Z J.length aa,.slice ab U.length ac,.slice ae X.length ag] 35 ?_;intro av hg w9 hbox hb;have Y:=ak hbox;have aw:=gy hg HB;replace HB:=bs HB hb;clear hb hbox hg;obtain⟨_,_,_,_,_,_,_,_⟩:=bc4 Y)|(go_at_call 88;(with_reducible refine(spec_l1In.calls D 0 19 true _ A2.out).mono ?_);rintro e w' ⟨rfl,⟨nd,rfl⟩⟩)|(go_at_call 89;refine hold_ ?_))
   (refine unhold_ ?_;(with_reducible refine(spec_l11All.calls k _ _ J 4 true _ ?side1 aq.out A4.out).mono ?_);(case side1=>exact Kd.C_below ap.out PB);rintro e w' ⟨rfl,⟨nd,rfl⟩⟩)
   by_cases c7:bk=true
   ·subst c7;rw[if_pos rfl] at H;obtain⟨bl,A8,H⟩:=obq H;(try dsimp only at H);obtain rfl:=Option.some.inj H;go_wp2_with (first|(go_at_call 89;(with_reducible refine(spec_l11All.calls k _ _ U 3 true _ ?side1 au.out A6.out).mono ?_);(case side1=>exact Kd.C_below ar.out PB);rintro e w' ⟨rfl,⟨nd,rfl⟩⟩)|(go_at_call 89;(with_reducible refine(spec_l11All.calls k _ _ X 4 bl _ ?side1 ay.out A8.out).mono ?_);(case side1=>exact Kd.C_below ax.out PB);rintro e w' ⟨rfl,⟨nd,rfl⟩⟩))
    go_ret
    exact⟨RT,PB⟩
   ·replace c7:=Bool.eq_false_iff.mpr c7;subst c7;rw[if_neg nft] at H;obtain rfl:=Option.some.inj H;go_wp2_with (first|(go_at_call 89;(with_reducible refine(spec_l11All.calls k _ _ U 3 false _ ?side1 au.out A6.out).mono ?_);(case side1=>exact Kd.C_below ar.out PB);rintro e w' ⟨rfl,⟨nd,rfl⟩⟩))
    go_ret
    exact⟨RT,PB⟩
  ·replace c5:=Bool.eq_false_iff.mpr c5;subst c5;rw[if_neg nft] at H;obtain rfl:=Option.some.inj H;go_enter Tryz.func103,Tryz.ntmps103;go_wp2_with (first|((with_reducible refine gate_dst (N:=1) rfl ?_);refine bx_ (N:=1) #[.int .i64 D,.slice Z J.length aa,.slice ab U.length ac,.slice ae X.length ag] 35 ?_;intro av hg b6 hbox hb;have Y:=ak hbox;have aw:=gy hg HB;replace HB:=bs HB hb;clear hb hbox hg;obtain⟨bm,bo,bp,br,bu,bv,bw,bx⟩:=bc4 Y)|(go_at_call 88;(with_reducible refine(spec_l1In.calls D 0 19 true _ A2.out).mono ?_);rintro e w' ⟨rfl,⟨nd,rfl⟩⟩)|(go_at_call 89;(with_reducible refine(spec_l11All.calls k _ _ J 4 false _ ?side1 aq.out A4.out).mono ?_);(case side1=>exact Kd.C_below ap.out PB);rintro e w' ⟨rfl,⟨nd,rfl⟩⟩))
   go_ret
   exact⟨RT,PB⟩
 ·replace c3:=Bool.eq_false_iff.mpr c3;subst c3;rw[if_neg nft] at H;obtain rfl:=Option.some.inj H;go_enter Tryz.func103,Tryz.ntmps103;go_wp2_with (first|((with_reducible refine gate_dst (N:=1) rfl ?_);refine bx_ (N:=1) #[.int .i64 D,.slice Z J.length aa,.slice ab U.length ac,.slice ae X.length ag] 35 ?_;intro av hg b7 hbox hb;have Y:=ak hbox;have aw:=gy hg HB;replace HB:=bs HB hb;clear hb hbox hg;obtain⟨_,_,_,_,_,_,_,_⟩:=bc4 Y)|(go_at_call 88;(with_reducible refine(spec_l1In.calls D 0 19 false _ A2.out).mono ?_);rintro e w' ⟨rfl,⟨nd,rfl⟩⟩))
  go_ret
  exact⟨RT,PB⟩
def spec_l11Can.f (k:Nat)(l0:List (S57))(D:Int)(J:List Int)(U:List Int)(X:List Int):Option (Bool):=(spec_IsScript.f k l0).bind fun Y=>(if Y=true then((spec_IsState.f k D J U X).bind fun Z=>(if Z=true then(some (decide (D < (l0.length:Int)))) else(some false))) else(some false))
theorem spec_l11Can.calls (k:Nat)(A0:Option Addr)(c0:Nat)(Z:List (S57))(Y:Int)(aa:Option Addr)(ab:Nat)(J:List Int)(ac:Option Addr)(ae:Nat)(U:List Int)(ag:Option Addr)(ah:Nat)(X:List Int)(r:Bool)(w:World)(bh:Kd.C k57 w A0 Z.length Z)(bi:Z.length≤c0)(ai:Kd.C (Kd.int .i64) w aa J.length J)(aj:J.length≤ab)(al:Kd.C (Kd.int .i64) w ac U.length U)(am:U.length≤ae)(ao:Kd.C (Kd.int .i64) w ag X.length X)(ap:X.length≤ah)(h:spec_l11Can.f k Z Y J U X=some r) :
  Calls Tryz.prog 90 #[.slice A0 Z.length c0,.agg #[.int .i64 Y,.slice aa J.length ab,.slice ac U.length ae,.slice ag X.length ah]] w fun e w'=>e = .returned (.bool r)∧Below w.heap.size w w':=by
 have b5:=Tryz.underlying35;have bc:=ak bh;have bd:=ak bi;clear bh bi;have aq:=ak ai;have ar:=ak aj;clear ai aj;have au:=ak al;have av:=ak am;clear al am;have aw:=ak ao;have ax:=ak ap;clear ao ap;have HB:=ak (Below.refl w.heap.size w);have H:=h;clear h;unfold spec_l11Can.f at H;obtain⟨bl,A3,H⟩:=obq H;(try dsimp only at H)
 by_cases c4:bl=true
 ·subst c4;rw[if_pos rfl] at H;obtain⟨bo,A5,H⟩:=obq H;(try dsimp only at H)
  by_cases c6:bo=true
  ·subst c6;rw[if_pos rfl] at H;obtain rfl:=Option.some.inj H;go_enter Tryz.func90,Tryz.ntmps90;go_wp2_with (first|((with_reducible refine gate_dst (N:=3) rfl ?_);(try(refine gate_guard (by rfl) ?_;dsimp only));refine bx_ (N:=3) #[.int .i64 Y,.slice aa J.length ab,.slice ac U.length ae,.slice ag X.length ah] 35 ?_;intro ay hg w7 hbox hb;have D:=ak hbox;have az:=gy hg HB;replace HB:=bs HB hb;clear hb hbox hg)|(go_at_call 71;(with_reducible refine(spec_IsScript.calls k _ _ Z true _ ?side1 bd.out A3.out).mono ?_);(case side1=>exact Cq bc);rintro e w8 ⟨rfl,hb⟩;replace D:=kf D hb;replace HB:=bs HB hb;clear hb;obtain⟨_,_,_,_,_,_,_,_⟩:=bc4 D)|(go_at_call 103;(with_reducible refine(spec_IsState.calls k Y _ _ J _ _ U _ _ X true _ ?side1 ar.out ?side3 av.out ?side5 ax.out A5.out).mono ?_);(case side1=>exact Cq aq);(case side3=>exact Cq au);(case side5=>exact Cq aw);rintro e b6 ⟨rfl,hb⟩;replace D:=kf D hb;replace HB:=bs HB hb;clear hb;obtain⟨_,_,_,_,_,_,_,_⟩:=bc4 D))
   go_ret
   exact⟨RT,PB⟩
  ·replace c6:=Bool.eq_false_iff.mpr c6;subst c6;rw[if_neg nft] at H;obtain rfl:=Option.some.inj H;go_enter Tryz.func90,Tryz.ntmps90;go_wp2_with (first|((with_reducible refine gate_dst (N:=3) rfl ?_);(try(refine gate_guard (by rfl) ?_;dsimp only));refine bx_ (N:=3) #[.int .i64 Y,.slice aa J.length ab,.slice ac U.length ae,.slice ag X.length ah] 35 ?_;intro ay hg b7 hbox hb;have D:=ak hbox;have az:=gy hg HB;replace HB:=bs HB hb;clear hb hbox hg)|(go_at_call 71;(with_reducible refine(spec_IsScript.calls k _ _ Z true _ ?side1 bd.out A3.out).mono ?_);(case side1=>exact Cq bc);rintro e b8 ⟨rfl,hb⟩;replace D:=kf D hb;replace HB:=bs HB hb;clear hb;obtain⟨bp,br,bu,bv,bw,bx,bz,b0⟩:=bc4 D)|(go_at_call 103;(with_reducible refine(spec_IsState.calls k Y _ _ J _ _ U _ _ X false _ ?side1 ar.out ?side3 av.out ?side5 ax.out A5.out).mono ?_);(case side1=>exact Cq aq);(case side3=>exact Cq au);(case side5=>exact Cq aw);rintro e b9 ⟨rfl,hb⟩;replace HB:=bs HB hb;clear hb))
   go_ret
   exact⟨RT,PB⟩
 ·replace c4:=Bool.eq_false_iff.mpr c4;subst c4;rw[if_neg nft] at H;obtain rfl:=Option.some.inj H;go_enter Tryz.func90,Tryz.ntmps90;go_wp2_with (first|((with_reducible refine gate_dst (N:=3) rfl ?_);(try(refine gate_guard (by rfl) ?_;dsimp only));refine bx_ (N:=3) #[.int .i64 Y,.slice aa J.length ab,.slice ac U.length ae,.slice ag X.length ah] 35 ?_;intro ay hg ca hbox hb;have az:=gy hg HB;replace HB:=bs HB hb;clear hb hbox hg)|(go_at_call 71;(with_reducible refine(spec_IsScript.calls k _ _ Z false _ ?side1 bd.out A3.out).mono ?_);(case side1=>exact Cq bc);rintro e cb ⟨rfl,hb⟩;replace HB:=bs HB hb;clear hb))
  go_ret
  exact⟨RT,PB⟩
def spec_Asks.f (J:Int):Option (Bool):=(spec_l1In.f J 1 4).bind fun D=>(some D)
theorem spec_Asks.calls (D:Int)(r:Bool)(w:World)(h:spec_Asks.f D=some r) :
  Calls Tryz.prog 91 #[.int .i64 D] w fun e w'=>e = .returned (.bool r)∧Drawn0 w w':=by
 have H:=h;clear h;unfold spec_Asks.f at H;obtain⟨U,X,H⟩:=obq H;(try dsimp only at H);obtain rfl:=Option.some.inj H;go_enter Tryz.func91,Tryz.ntmps91;go_wp2_with (first|(go_at_call 88;(with_reducible refine(spec_l1In.calls D 1 4 U _ X.out).mono ?_);rintro e w' ⟨rfl,⟨nd,rfl⟩⟩))
 go_ret
 exact⟨FR,by repeat(first|exact Drawn0.refl _ | apply Drawn0.step)⟩

end Go.Proofs.YteemhimikamihaaGreat.MFnReplays
