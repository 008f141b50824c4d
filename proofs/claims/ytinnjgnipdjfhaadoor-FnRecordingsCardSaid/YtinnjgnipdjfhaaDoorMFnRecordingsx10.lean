import Derived.Test.YtinnjgnipdjfhaaDoorShr2
import Derived.Test.YtinnjgnipdjfhaaDoorMFnRecordingsx0
import Derived.Test.YtinnjgnipdjfhaaDoorMFnRecordingsx9
import Derived.Test.YtinnjgnipdjfhaaDoorMFnRecordingsx5
import Derived.Test.YtinnjgnipdjfhaaDoorMFnRecordingsx4
import Derived.Test.YtinnjgnipdjfhaaDoorTab
import Derived.Test.YtinnjgnipdjfhaaDoorMFnRecordingsx1
namespace Go.Proofs.YtinnjgnipdjfhaaDoor.MFnRecordings
open Go.RowKit Go.Proofs.YtinnjgnipdjfhaaDoorW.PrintWords Go.Proofs.YtinnjgnipdjfhaaDoorW.PrintLast Go.Proofs.YtinnjgnipdjfhaaDoorW.PrintMore
attribute [local go_sem] max2_int min2_int max_two min_two max_three min_three max_four min_four
set_option linter.unusedVariables false
set_option maxHeartbeats 8000000
set_option maxRecDepth 100000
set_option linter.unusedSimpArgs false

abbrev b21_0:Array Bool:=#[true,true,true,true,true,true,true,true,true]
abbrev b21_1:Array Bool:=#[true,true,true,true,true,true,true,true,false]
abbrev b21_2:Array Bool:=#[true,true,true,true,true,true,true,false,false]
abbrev b21_3:Array Bool:=#[true,true,true,true,true,true,false,false,false]
abbrev b21_4:Array Bool:=#[true,true,true,false,true,true,false,false,false]
abbrev b21_5:Array Bool:=#[true,true,false,false,true,true,false,false,false]
abbrev b21_6:Array Bool:=#[true,true,false,false,true,false,false,false,false]
abbrev b21_7:Array Bool:=#[true,false,false,false,true,false,false,false,false]
abbrev b21_8:Array Bool:=#[true,false,false,false,false,false,false,false,false]
abbrev b21_9:Array Bool:=#[false,false,false,false,false,false,false,false,false]
def slices_ContainsFunc_33.f (k:Nat)(J:List (S51))(U:Int):Option (Bool):=(slices_IndexFunc_33.f k J U).bind fun D=>(some (decide (D≥0)))
theorem slices_ContainsFunc_33.calls (k:Nat)(Y:Option Addr)(Z:Nat)(D:List (S51))(a1:Int)(r:Bool)(w:World)(J:Kd.C k51 w Y D.length D)(U:D.length≤Z)(h:slices_ContainsFunc_33.f k D a1=some r) :
  Calls Tryd.prog 32 #[.slice Y D.length Z,.func (.func 33) #[] #[]] w fun e w'=>e = .returned (.bool r)∧Below w.heap.size w w':=by
 have ac:=ak J;have ae:=ak U;clear J U;have HB:=ak (Below.refl w.heap.size w);have H:=h;clear h;unfold slices_ContainsFunc_33.f at H;replace H:=Option.bind_eq_some_iff.mp H;obtain⟨aa,X,H⟩:=H;(try dsimp only at H);have A3:=ak X;clear X;obtain rfl:=Option.some.inj H;go_enter Tryd.func32,Tryd.ntmps32;go_wp2_with (first|(go_at_call 57;(with_reducible refine(slices_IndexFunc_33.calls k _ _ D a1 aa _ ?side1 ae.out A3.out).mono ?_);(case side1=>exact CR (ac.out));rintro e w4 ⟨rfl,hb⟩;replace HB:=bs HB hb;clear hb))
 go_ret
 exact⟨RT,PB⟩
def impl_AreEntries.f (k:Nat)(J:List (S51)):Option (Bool):=if (J.length:Int)≤16 then((slices_ContainsFunc_33.f k J 90000033).bind fun D=>(some (!D))) else(some false)
theorem impl_AreEntries.calls (k:Nat)(A0:Option Addr)(c0:Nat)(D:List (S51))(r:Bool)(w:World)(U:Kd.C k51 w A0 D.length D)(X:D.length≤c0)(h:impl_AreEntries.f k D=some r) :
  Calls Tryd.prog 12 #[.slice A0 D.length c0] w fun e w'=>e = .returned (.bool r)∧Below w.heap.size w w':=by
 have af:=ak U;have ag:=ak X;clear U X;have HB:=ak (Below.refl w.heap.size w);have H:=h;clear h;unfold impl_AreEntries.f at H
 by_cases J:(D.length:Int)≤16
 ·rw[if_pos J] at H;have Z:decide ((D.length:Int)≤16)=true:=decide_eq_true J;have aa:decide (D.length≤16)=true:=decide_eq_true (by omega);clear J;replace H:=Option.bind_eq_some_iff.mp H;obtain⟨ab,Y,H⟩:=H;(try dsimp only at H);have A3:=ak Y;clear Y;obtain rfl:=Option.some.inj H;go_enter Tryd.func12,Tryd.ntmps12;go_wp2_with (first|(go_at_call 32;(with_reducible refine(slices_ContainsFunc_33.calls k _ _ D 90000033 ab _ ?side1 ag.out A3.out).mono ?_);(case side1=>exact CR (af.out));rintro e w4 ⟨rfl,hb⟩;replace HB:=bs HB hb;clear hb))
  go_ret
  exact⟨RT,PB⟩
 ·rw[if_neg J] at H;have Z:decide ((D.length:Int)≤16)=false:=decide_eq_false J;have aa:decide (D.length≤16)=false:=decide_eq_false (by omega);clear J;obtain rfl:=Option.some.inj H;go_enter Tryd.func12,Tryd.ntmps12;go_wp2
  go_ret
  exact⟨RT,PB⟩
def impl_CountAsks.l0:Nat→Int→List (S66)→Int→Int→Option (Int)
  | 0,_,_,_,_=>none
  | k+1,U,J,X,D=>if D < X then(if 0≤D then(if D < (J.length:Int) then((impl_Asks.f ((rd_T66 J D).f0)).bind fun Y=>(if Y=true then(impl_CountAsks.l0 k (wrap64 (U+1)) J X (wrap64 (D+1))) else(impl_CountAsks.l0 k U J X (wrap64 (D+1))))) else(none)) else(none)) else(some U)
def impl_CountAsks.f (k:Nat)(D:List (S66)):Option (Int):=impl_CountAsks.l0 k 0 D (D.length:Int) 0
theorem impl_CountAsks.calls (k:Nat)(A0:Option Addr)(c0:Nat)(Z:List (S66))(r:Int)(w:World)(aq:Kd.C k66 w A0 Z.length Z)(ar:Z.length≤c0)(h:impl_CountAsks.f k Z=some r) :
  Calls Tryd.prog 13 #[.slice A0 Z.length c0] w fun e w'=>e = .returned (.int .i64 r)∧Below w.heap.size w w':=by
 have bi:=Tryd.underlying66;have au:=ak aq;have bo:=ak ar;clear aq ar;have HB:=ak (Below.refl w.heap.size w);have H:=h;clear h;unfold impl_CountAsks.f at H;have H':=ak H;clear H;go_enter Tryd.func13,Tryd.ntmps13;go_wp2
 go_loopg [3,8] k (fun kq v3 v8 w'=>∃(ac:Int)(D:Int),v3 = .int .i64 ac∧v8 = .int .i64 D∧Aside0 (impl_CountAsks.l0 kq ac Z (Z.length:Int) D=some r)∧Aside0 (kq≤k)∧Aside0 (Below w.heap.size w w'))
 case atStart=>exact⟨(0),(0),FR,FR,H',⟨Nat.le_refl _⟩,⟨PB⟩⟩
 case round =>
  clear H'
  try clear c1
  obtain⟨ac,D,rfl,rfl,HA,ag,HB⟩:=hrel
  cases gk with
  | zero=>exact absurd HA.out (by simp[impl_CountAsks.l0])
  | succ k1 =>
   have H:=HA.out;clear HA;simp only[impl_CountAsks.l0] at H
   by_cases c2:D < (Z.length:Int)
   ·rw[if_pos c2] at H;have aw:decide (D < (Z.length:Int))=true:=decide_eq_true c2;clear c2
    by_cases c3:0≤D
    ·rw[if_pos c3] at H;have bl:decide (0≤D)=true:=decide_eq_true c3;clear c3
     by_cases c4:D < (Z.length:Int)
     ·rw[if_pos c4] at H;have bm:decide (D < (Z.length:Int))=true:=decide_eq_true c4;clear c4;replace H:=Option.bind_eq_some_iff.mp H;obtain⟨ax,av,H⟩:=H;(try dsimp only at H);have A5:=ak av;clear av
      by_cases c6:ax=true
      ·subst c6;rw[if_pos rfl] at H;have H':=ak H;clear H;have aa:0≤(D:Int):=od;have ab:D < (Z.length:Int):=od;obtain⟨am,af,J,U,X,Y⟩:=at_T66 au.out D aa ab;cases af;replace J:=hx_ HB J;replace U:=hx_ HB U;replace X:=hx_ HB X;replace Y:=hx_ HB Y;replace aa:=eq_true aa;replace ab:=eq_true ab;go_wp2_with (first|((with_reducible refine gate_dst (N:=5) rfl ?_);refine bx_ (N:=5) #[.int .i64 0,.int .i64 0,.int .i64 0,.int .i64 0] 66 ?_;intro ao hg w7 hbox hb;have ae:=ak hbox;have ap:=gy hg HB;replace HB:=bs HB hb;clear hb hbox hg;obtain⟨_,_,_,_,_,_,_,_⟩:=bc4 ae)|(go_at_call 35;(with_reducible refine(impl_Asks.calls ((rd_T66 Z D).f0) true _ A5.out).mono ?_);rintro e w' ⟨rfl,⟨nd,rfl⟩⟩))
       go_roundg k1
       case measure=>have:=ag.out;omega
       case rel=>exact⟨(wrap64 (ac+1)),(wrap64 (D+1)),FR,FR,H',⟨by have:=ag.out;omega⟩,⟨PB⟩⟩
      ·replace c6:=Bool.eq_false_iff.mpr c6;subst c6;rw[if_neg (show ¬(false=true) by decide)] at H;have H':=ak H;clear H;have aa:0≤(D:Int):=od;have ab:D < (Z.length:Int):=od;obtain⟨am,af,J,U,X,Y⟩:=at_T66 au.out D aa ab;cases af;replace J:=hx_ HB J;replace U:=hx_ HB U;replace X:=hx_ HB X;replace Y:=hx_ HB Y;replace aa:=eq_true aa;replace ab:=eq_true ab;go_wp2_with (first|((with_reducible refine gate_dst (N:=5) rfl ?_);refine bx_ (N:=5) #[.int .i64 0,.int .i64 0,.int .i64 0,.int .i64 0] 66 ?_;intro ao hg w9 hbox hb;have ae:=ak hbox;have ap:=gy hg HB;replace HB:=bs HB hb;clear hb hbox hg;obtain⟨ay,az,ba,_,bb,bc,bd,_⟩:=bc4 ae)|(go_at_call 35;(with_reducible refine(impl_Asks.calls ((rd_T66 Z D).f0) false _ A5.out).mono ?_);rintro e w' ⟨rfl,⟨nd,rfl⟩⟩))
       go_roundg k1
       case measure=>have:=ag.out;omega
       case rel=>exact⟨(ac),(wrap64 (D+1)),FR,FR,H',⟨by have:=ag.out;omega⟩,⟨PB⟩⟩
     ·rw[if_neg c4] at H;exact absurd H (by simp)
    ·rw[if_neg c3] at H;exact absurd H (by simp)
   ·rw[if_neg c2] at H;have aw:decide (D < (Z.length:Int))=false:=decide_eq_false c2;clear c2;obtain rfl:=Option.some.inj H;go_wp2
    go_ret
    exact⟨RT,PB⟩
def impl_OpName.f (J:Int):Option (ByteArray):=(some (([(⟨#[]⟩:ByteArray),(⟨#[102,101,116,99,104]⟩:ByteArray),(⟨#[99,108,111,99,107]⟩:ByteArray),(⟨#[114,97,110,100,111,109]⟩:ByteArray),(⟨#[105,110,112,117,116]⟩:ByteArray),(⟨#[97,100,100]⟩:ByteArray),(⟨#[112,117,116]⟩:ByteArray),(⟨#[115,107,105,112]⟩:ByteArray),(⟨#[103,101,116]⟩:ByteArray),(⟨#[107,101,101,112]⟩:ByteArray)]:List ByteArray):List ByteArray)).bind fun D=>((impl_at.f J (D.length:Int)).bind fun U=>(if U=true then(if 0≤J then(if J < (D.length:Int) then(some (rdOf ByteArray.empty D J)) else(none)) else(none)) else(some (⟨#[]⟩:ByteArray))))
theorem impl_OpName.calls (J:Int)(r:ByteArray)(w:World)(h:impl_OpName.f J=some r) :
  Calls Tryd.prog 42 #[.int .i64 J] w fun e w'=>e = .returned (.string r)∧Below w.heap.size w w':=by
 have HB:=ak (Below.refl w.heap.size w);have H:=h;clear h;unfold impl_OpName.f at H;obtain⟨D,U⟩:∃ y_:List ByteArray,y_=(([(⟨#[]⟩:ByteArray),(⟨#[102,101,116,99,104]⟩:ByteArray),(⟨#[99,108,111,99,107]⟩:ByteArray),(⟨#[114,97,110,100,111,109]⟩:ByteArray),(⟨#[105,110,112,117,116]⟩:ByteArray),(⟨#[97,100,100]⟩:ByteArray),(⟨#[112,117,116]⟩:ByteArray),(⟨#[115,107,105,112]⟩:ByteArray),(⟨#[103,101,116]⟩:ByteArray),(⟨#[107,101,101,112]⟩:ByteArray)]:List ByteArray)):=⟨_,rfl⟩
 replace H:((impl_at.f J (D.length:Int)).bind fun Z=>(if Z=true then(if 0≤J then(if J < (D.length:Int) then(some (rdOf ByteArray.empty D J)) else(none)) else(none)) else(some (⟨#[]⟩:ByteArray))))=some r:=by first|(rw[U];with_reducible exact H)|(have H2_:=(Option.bind_some _ _).symm.trans H;rw[U];with_reducible exact H2_)|exact H
 have X:=ak U;clear U;replace H:=Option.bind_eq_some_iff.mp H;obtain⟨Z,ag,H⟩:=H;(try dsimp only at H);have A2:=ak ag;clear ag
 by_cases c3:Z=true
 ·subst c3;rw[if_pos rfl] at H
  by_cases c4:0≤J
  ·rw[if_pos c4] at H;have ao:decide (0≤J)=true:=decide_eq_true c4;clear c4
   by_cases c5:J < (D.length:Int)
   ·rw[if_pos c5] at H;have ap:decide (J < (D.length:Int))=true:=decide_eq_true c5;clear c5;obtain rfl:=Option.some.inj H;go_enter Tryd.func42,Tryd.ntmps42;go_wp2_with (first|((with_reducible refine gate_dst (N:=4) rfl ?_);refine Kd.R_lit Kd.string _ 9 ?hg (N:=4) ?hd (xs:=([(⟨#[]⟩:ByteArray),(⟨#[102,101,116,99,104]⟩:ByteArray),(⟨#[99,108,111,99,107]⟩:ByteArray),(⟨#[114,97,110,100,111,109]⟩:ByteArray),(⟨#[105,110,112,117,116]⟩:ByteArray),(⟨#[97,100,100]⟩:ByteArray),(⟨#[112,117,116]⟩:ByteArray),(⟨#[115,107,105,112]⟩:ByteArray),(⟨#[103,101,116]⟩:ByteArray),(⟨#[107,101,101,112]⟩:ByteArray)]:List ByteArray)) (inner:=[.string (⟨#[]⟩:ByteArray),.string (⟨#[102,101,116,99,104]⟩:ByteArray),.string (⟨#[99,108,111,99,107]⟩:ByteArray),.string (⟨#[114,97,110,100,111,109]⟩:ByteArray),.string (⟨#[105,110,112,117,116]⟩:ByteArray),.string (⟨#[97,100,100]⟩:ByteArray),.string (⟨#[112,117,116]⟩:ByteArray),.string (⟨#[115,107,105,112]⟩:ByteArray),.string (⟨#[103,101,116]⟩:ByteArray),.string (⟨#[107,101,101,112]⟩:ByteArray)]) (ok:=fun _=>True) (okp:=fun _=>True) ?hr ?hp (fun _ hk=>hk) trivial (Below.refl _ _) (Nat.le_refl _) (by simp) ?_;(case hd=>rfl);(case hg=>rfl);(case hr=>first|(go_simp;done)|(go_simp;rfl));(case hp=>exact(Reps.one (show Kd.M Kd.string _ _ _ (⟨#[]⟩:ByteArray) [.string (⟨#[]⟩:ByteArray)] from rfl) (Reps.one (show Kd.M Kd.string _ _ _ (⟨#[102,101,116,99,104]⟩:ByteArray) [.string (⟨#[102,101,116,99,104]⟩:ByteArray)] from rfl) (Reps.one (show Kd.M Kd.string _ _ _ (⟨#[99,108,111,99,107]⟩:ByteArray) [.string (⟨#[99,108,111,99,107]⟩:ByteArray)] from rfl) (Reps.one (show Kd.M Kd.string _ _ _ (⟨#[114,97,110,100,111,109]⟩:ByteArray) [.string (⟨#[114,97,110,100,111,109]⟩:ByteArray)] from rfl) (Reps.one (show Kd.M Kd.string _ _ _ (⟨#[105,110,112,117,116]⟩:ByteArray) [.string (⟨#[105,110,112,117,116]⟩:ByteArray)] from rfl) (Reps.one (show Kd.M Kd.string _ _ _ (⟨#[97,100,100]⟩:ByteArray) [.string (⟨#[97,100,100]⟩:ByteArray)] from rfl) (Reps.one (show Kd.M Kd.string _ _ _ (⟨#[112,117,116]⟩:ByteArray) [.string (⟨#[112,117,116]⟩:ByteArray)] from rfl) (Reps.one (show Kd.M Kd.string _ _ _ (⟨#[115,107,105,112]⟩:ByteArray) [.string (⟨#[115,107,105,112]⟩:ByteArray)] from rfl) (Reps.one (show Kd.M Kd.string _ _ _ (⟨#[103,101,116]⟩:ByteArray) [.string (⟨#[103,101,116]⟩:ByteArray)] from rfl) (Reps.one (show Kd.M Kd.string _ _ _ (⟨#[107,101,101,112]⟩:ByteArray) [.string (⟨#[107,101,101,112]⟩:ByteArray)] from rfl) (Reps.none _ _))))))))))));intro ah w6 ho7 hb hg_ hnew_;clear hg_ hnew_;(first|rw[←X.out] at ho7|(simp only[Int.reduceToNat] at ho7;rw[←X.out] at ho7));have Y:=Rn0 ho7 HB;replace HB:=bs HB hb;clear hb ho7;obtain⟨au,av,rfl⟩:=Kd.R_slice Y.out)|(go_at_call 53;(with_reducible refine(impl_at.calls J (D.length:Int) true _ A2.out).mono ?_);rintro e w' ⟨rfl,⟨nd,rfl⟩⟩;have aa:0≤(J:Int):=od;have ab:J < (D.length:Int):=od;obtain⟨am,ai,aj⟩:=Kd.at_string (Kd.R_reads' Y.out).2.2 J aa ab;cases ai;replace aa:=eq_true aa;replace ab:=eq_true ab))
    go_ret
    exact⟨RT,PB⟩
   ·rw[if_neg c5] at H;exact absurd H (by simp)
  ·rw[if_neg c4] at H;exact absurd H (by simp)
 ·replace c3:=Bool.eq_false_iff.mpr c3;subst c3;rw[if_neg (show ¬(false=true) by decide)] at H;obtain rfl:=Option.some.inj H;go_enter Tryd.func42,Tryd.ntmps42;go_wp2_with (first|((with_reducible refine gate_dst (N:=4) rfl ?_);refine Kd.R_lit Kd.string _ 9 ?hg (N:=4) ?hd (xs:=([(⟨#[]⟩:ByteArray),(⟨#[102,101,116,99,104]⟩:ByteArray),(⟨#[99,108,111,99,107]⟩:ByteArray),(⟨#[114,97,110,100,111,109]⟩:ByteArray),(⟨#[105,110,112,117,116]⟩:ByteArray),(⟨#[97,100,100]⟩:ByteArray),(⟨#[112,117,116]⟩:ByteArray),(⟨#[115,107,105,112]⟩:ByteArray),(⟨#[103,101,116]⟩:ByteArray),(⟨#[107,101,101,112]⟩:ByteArray)]:List ByteArray)) (inner:=[.string (⟨#[]⟩:ByteArray),.string (⟨#[102,101,116,99,104]⟩:ByteArray),.string (⟨#[99,108,111,99,107]⟩:ByteArray),.string (⟨#[114,97,110,100,111,109]⟩:ByteArray),.string (⟨#[105,110,112,117,116]⟩:ByteArray),.string (⟨#[97,100,100]⟩:ByteArray),.string (⟨#[112,117,116]⟩:ByteArray),.string (⟨#[115,107,105,112]⟩:ByteArray),.string (⟨#[103,101,116]⟩:ByteArray),.string (⟨#[107,101,101,112]⟩:ByteArray)]) (ok:=fun _=>True) (okp:=fun _=>True) ?hr ?hp (fun _ hk=>hk) trivial (Below.refl _ _) (Nat.le_refl _) (by simp) ?_;(case hd=>rfl);(case hg=>rfl);(case hr=>first|(go_simp;done)|(go_simp;rfl));(case hp=>exact(Reps.one (show Kd.M Kd.string _ _ _ (⟨#[]⟩:ByteArray) [.string (⟨#[]⟩:ByteArray)] from rfl) (Reps.one (show Kd.M Kd.string _ _ _ (⟨#[102,101,116,99,104]⟩:ByteArray) [.string (⟨#[102,101,116,99,104]⟩:ByteArray)] from rfl) (Reps.one (show Kd.M Kd.string _ _ _ (⟨#[99,108,111,99,107]⟩:ByteArray) [.string (⟨#[99,108,111,99,107]⟩:ByteArray)] from rfl) (Reps.one (show Kd.M Kd.string _ _ _ (⟨#[114,97,110,100,111,109]⟩:ByteArray) [.string (⟨#[114,97,110,100,111,109]⟩:ByteArray)] from rfl) (Reps.one (show Kd.M Kd.string _ _ _ (⟨#[105,110,112,117,116]⟩:ByteArray) [.string (⟨#[105,110,112,117,116]⟩:ByteArray)] from rfl) (Reps.one (show Kd.M Kd.string _ _ _ (⟨#[97,100,100]⟩:ByteArray) [.string (⟨#[97,100,100]⟩:ByteArray)] from rfl) (Reps.one (show Kd.M Kd.string _ _ _ (⟨#[112,117,116]⟩:ByteArray) [.string (⟨#[112,117,116]⟩:ByteArray)] from rfl) (Reps.one (show Kd.M Kd.string _ _ _ (⟨#[115,107,105,112]⟩:ByteArray) [.string (⟨#[115,107,105,112]⟩:ByteArray)] from rfl) (Reps.one (show Kd.M Kd.string _ _ _ (⟨#[103,101,116]⟩:ByteArray) [.string (⟨#[103,101,116]⟩:ByteArray)] from rfl) (Reps.one (show Kd.M Kd.string _ _ _ (⟨#[107,101,101,112]⟩:ByteArray) [.string (⟨#[107,101,101,112]⟩:ByteArray)] from rfl) (Reps.none _ _))))))))))));intro ah w9 ho10 hb hg_ hnew_;clear hg_ hnew_;(first|rw[←X.out] at ho10|(simp only[Int.reduceToNat] at ho10;rw[←X.out] at ho10));have Y:=Rn0 ho10 HB;replace HB:=bs HB hb;clear hb ho10;obtain⟨aq,ar,rfl⟩:=Kd.R_slice Y.out)|(go_at_call 53;(with_reducible refine(impl_at.calls J (D.length:Int) false _ A2.out).mono ?_);rintro e w' ⟨rfl,⟨nd,rfl⟩⟩))
  go_ret
  exact⟨RT,PB⟩
def impl_FormatInt.f (D:Int):Option (ByteArray):=if -9223372036854775808≤D∧D≤9223372036854775807 then some ⟨(Lib.itoa D).toArray⟩ else none
theorem impl_FormatInt.calls (D:Int)(r:ByteArray)(w:World)(h:impl_FormatInt.f D=some r)(HTB:Aside0 (Tb w)) :
  Calls Tryd.prog 44 #[.int .i64 D] w fun e w'=>e = .returned (.string r)∧Below w.heap.size w w':=by
 unfold impl_FormatInt.f at h
 by_cases c:-9223372036854775808≤D∧D≤9223372036854775807
 ·rw[if_pos c] at h;obtain rfl:=Option.some.inj h;clear h;have C:=ak c;clear c;go_enter Tryd.func44,Tryd.ntmps44;go_wp2_with (go_at_call 63;refine(Any.strconv_Itoa Tryd.laysM171 D C.out.1 C.out.2 _ HTB.out.here).mono ?_;rintro e w' ⟨rfl,k1,os,rfl⟩)
  go_ret
  exact⟨rfl,Lib.below_grow _ _ (Nat.le_refl _) _ _⟩
 ·rw[if_neg c] at h;exact absurd h (by simp)
def impl_AddressText.f (Y:Int)(Z:Int)(U:Int):Option (ByteArray):=(impl_IsAddress.f Y Z U).bind fun aa=>(if aa=true then((impl_FormatInt.f Y).bind fun D=>(if D.size+1≤9223372036854775807 then((impl_FormatInt.f Z).bind fun J=>(if (D++(⟨#[47]⟩:ByteArray)).size+J.size≤9223372036854775807 then(if U=0 then(some ((D++(⟨#[47]⟩:ByteArray))++J)) else((impl_FormatInt.f U).bind fun X=>(if 1+X.size≤9223372036854775807 then(if ((D++(⟨#[47]⟩:ByteArray))++J).size+((⟨#[63]⟩:ByteArray)++X).size≤9223372036854775807 then(some (((D++(⟨#[47]⟩:ByteArray))++J)++((⟨#[63]⟩:ByteArray)++X))) else(none)) else(none)))) else(none))) else(none))) else(some (⟨#[]⟩:ByteArray)))
def impl_AddressText.T3:Bool×List (List Nat×List Nat):=(true,[([],[]),([0],[0]),([1],[1]),([2],[2]),([],[]),([4],[4]),([5,2],[5]),([3,6],[3,6]),([7,6,0,1,2,3,4,5,6,7],[7])])
def impl_AddressText.B3:List Nat:=[0,1,3,7,0,16,55,127,255]
theorem impl_AddressText.tab3:rtab .any (opsOf Tryd.f43 3)=impl_AddressText.T3:=by kernel_rfl
theorem impl_AddressText.bits3:waitsOk impl_AddressText.T3.2 impl_AddressText.B3=true:=by kernel_rfl
theorem impl_AddressText.calls (U:Int)(X:Int)(J:Int)(r:ByteArray)(w:World)(h:impl_AddressText.f U X J=some r)(HTB:Aside0 (Tb w)) :
  Calls Tryd.prog 43 #[.agg #[.int .i64 U,.int .i64 X,.int .i64 J]] w fun e w'=>e = .returned (.string r)∧Below w.heap.size w w':=by
 have b0:=Tryd.underlying46;have HB:=ak (Below.refl w.heap.size w);have H:=h;clear h;unfold impl_AddressText.f at H;replace H:=Option.bind_eq_some_iff.mp H;obtain⟨aq,am,H⟩:=H;(try dsimp only at H);have A2:=ak am;clear am
 by_cases c3:aq=true
 ·subst c3;rw[if_pos rfl] at H;replace H:=Option.bind_eq_some_iff.mp H;obtain⟨Y,ao,H⟩:=H;(try dsimp only at H);have A4:=ak ao;clear ao
  by_cases c5:Y.size+1≤9223372036854775807
  ·rw[if_pos c5] at H;have b4:=eq_true c5;have b5:decide (Y.size+1≤9223372036854775807)=true:=decide_eq_true c5
   try have b6:(9223372036854775807 < Y.size+1)=False:=eq_false (Nat.not_lt.2 c5)
   replace H:=Option.bind_eq_some_iff.mp H;obtain⟨aa,ap,H⟩:=H;(try dsimp only at H);have A6:=ak ap;clear ap
   by_cases c7:(Y++(⟨#[47]⟩:ByteArray)).size+aa.size≤9223372036854775807
   ·rw[if_pos c7] at H;have b7:=eq_true c7;have b8:decide ((Y++(⟨#[47]⟩:ByteArray)).size+aa.size≤9223372036854775807)=true:=decide_eq_true c7
    try have b9:(9223372036854775807 < (Y++(⟨#[47]⟩:ByteArray)).size+aa.size)=False:=eq_false (Nat.not_lt.2 c7)
    have ca:(9223372036854775807 < Y.size+1+aa.size)=False:=eq_false (by have q_:=c7;simp only[ByteArray.size_append] at q_;have l0_:(⟨#[47]⟩:ByteArray).size=1:=rfl;omega)
    by_cases c8:J=0
    ·rw[if_pos c8] at H;have au:(J == 0)=true:=beq_iff_eq.mpr c8;have av:(J != 0)=false:=bne_eq_false_iff_eq.mpr c8;clear c8;obtain rfl:=Option.some.inj H;go_enter Tryd.func43,Tryd.ntmps43
     try go_wp2_with (first|((with_reducible refine gate_dst (N:=1) rfl ?_);refine bx_ (N:=1) #[.int .i64 U,.int .i64 X,.int .i64 J] 46 ?_;intro Z hg w9 hbox hb;have D:=ak hbox;have ag:=gy hg HB;replace HB:=bs HB hb;clear hb hbox hg;obtain⟨aw,ax,ay,az,ba,bb⟩:=bc3 D)|(go_at_call 34;(with_reducible refine(impl_IsAddress.calls U X J true _ A2.out).mono ?_);rintro e bl ⟨rfl,hb⟩;replace D:=kf D hb;replace HB:=bs HB hb;clear hb))
     replace D:=ak (blk_drew D.out);replace HB:=ak (below_drew1 HB.out);refine start_ (n:=9) (S:=fun w'=>w'.cell? ⟨Z,0,none⟩=some (.int .i64 U)∧w'.cell? ⟨Z,1,none⟩=some (.int .i64 X)∧w'.cell? ⟨Z,2,none⟩=some (.int .i64 J)) (ds:=[]) b21_9 KR rfl rfl ⟨bq D 0,bq D 1,bq D 2⟩ (fun hHeld=>?_);refine with_tabW impl_AddressText.tab3 impl_AddressText.bits3 (fun HT_ HW_=>?_)
     generalize bl.drew=cb at D HB hHeld ⊢
     refine pu_ (i:=0) (N:=some 7) b21_8 HT_ ?_;refine pu_ (i:=4) (N:=some 11) b21_7 HT_ ?_;refine tk_ (i:=1) (N:=some 8) b21_6 rfl rfl HT_ HW_ hHeld ?_;refine tq_ (i:=5) (N:=some 12) b21_5 rfl rfl (take_ofW HT_.out HW_.out KR) hHeld ?_
     refine one_ (i:=2) (N:=some 9) b21_4 rfl rfl (one_of HT_.out KR) (by decide) (fun K hK=>?_);refine goes_ Tryd.func44 KR rfl #[.int .i64 U] (by rfl) rfl rfl AR ?_
     with_reducible refine(impl_FormatInt.calls U Y _ A4.out ?tbl).mono ?_
     (case tbl=>exact tb_on HTB (by repeat(first|(with_reducible first|exact HB.out | apply below_alloc | apply pw_below_drewN | apply below_drew1)|exact HB.out)));rintro e cd ⟨rfl,hb⟩;refine⟨_,rfl,?_⟩;replace D:=kf D hb;replace HB:=bs HB hb;(try clear hb);(try clear hb2);(try clear hk);(try clear hi);refine hK.out _ _ ⟨bq D 0,bq D 1,bq D 2⟩ (fun hHeld=>?_);clear hK K;refine nq_ (N:=(some 9)) ?_
     refine pu_ (i:=3) (N:=some 10) b21_3 HT_ ?_;refine one_ (i:=6) (N:=some 13) b21_2 rfl rfl (one_of HT_.out KR) (by decide) (fun K hK=>?_);refine goes_ Tryd.func44 KR rfl #[.int .i64 X] (by rfl) rfl rfl AR ?_
     with_reducible refine(impl_FormatInt.calls X aa _ A6.out ?tbl).mono ?_
     (case tbl=>exact tb_on HTB (by repeat(first|(with_reducible first|exact HB.out | apply below_alloc | apply pw_below_drewN | apply below_drew1)|exact HB.out)));rintro e ce ⟨rfl,hb⟩;refine⟨_,rfl,?_⟩;replace D:=kf D hb;replace HB:=bs HB hb;(try clear hb);(try clear hb2);(try clear hk);(try clear hi);refine hK.out _ _ ⟨bq D 0,bq D 1,bq D 2⟩ (fun hHeld=>?_);clear hK K;refine nq_ (N:=(some 13)) ?_
     refine pu_ (i:=7) (N:=some 14) b21_1 HT_ ?_;refine pu_ (i:=8) (N:=some 3) b21_0 HT_ ?_;refine done_ (done_of HT_.out KR) ?_;obtain⟨_,_,_,_,_,_⟩:=bc3 D
     try go_wp2
     go_ret
     exact⟨RT,PB⟩
    ·rw[if_neg c8] at H;have au:(J == 0)=false:=beq_eq_false_iff_ne.mpr c8;have av:(J != 0)=true:=bne_iff_ne.mpr c8;replace H:=Option.bind_eq_some_iff.mp H;obtain⟨ab,aj,H⟩:=H;(try dsimp only at H);have bm:=ak aj;clear aj
     by_cases ae:1+ab.size≤9223372036854775807
     ·rw[if_pos ae] at H;have bp:=eq_true ae;have br:decide (1+ab.size≤9223372036854775807)=true:=decide_eq_true ae
      try have bu:(9223372036854775807 < 1+ab.size)=False:=eq_false (Nat.not_lt.2 ae)
      by_cases ac:((Y++(⟨#[47]⟩:ByteArray))++aa).size+((⟨#[63]⟩:ByteArray)++ab).size≤9223372036854775807
      ·rw[if_pos ac] at H;have bv:=eq_true ac;have bw:decide (((Y++(⟨#[47]⟩:ByteArray))++aa).size+((⟨#[63]⟩:ByteArray)++ab).size≤9223372036854775807)=true:=decide_eq_true ac
       try have bx:(9223372036854775807 < ((Y++(⟨#[47]⟩:ByteArray))++aa).size+((⟨#[63]⟩:ByteArray)++ab).size)=False:=eq_false (Nat.not_lt.2 ac)
       have bz:(9223372036854775807 < Y.size+1+aa.size+(1+ab.size))=False:=eq_false (by have q_:=ac;simp only[ByteArray.size_append] at q_;have l0_:(⟨#[47]⟩:ByteArray).size=1:=rfl;have l1_:(⟨#[63]⟩:ByteArray).size=1:=rfl;omega);obtain rfl:=Option.some.inj H;go_enter Tryd.func43,Tryd.ntmps43
       try go_wp2_with (first|((with_reducible refine gate_dst (N:=1) rfl ?_);refine bx_ (N:=1) #[.int .i64 U,.int .i64 X,.int .i64 J] 46 ?_;intro Z hg cf hbox hb;have D:=ak hbox;have ag:=gy hg HB;replace HB:=bs HB hb;clear hb hbox hg;obtain⟨_,_,_,_,_,_⟩:=bc3 D)|(go_at_call 34;(with_reducible refine(impl_IsAddress.calls U X J true _ A2.out).mono ?_);rintro e bo ⟨rfl,hb⟩;replace D:=kf D hb;replace HB:=bs HB hb;clear hb))
       replace D:=ak (blk_drew D.out);replace HB:=ak (below_drew1 HB.out);refine start_ (n:=9) (S:=fun w'=>w'.cell? ⟨Z,0,none⟩=some (.int .i64 U)∧w'.cell? ⟨Z,1,none⟩=some (.int .i64 X)∧w'.cell? ⟨Z,2,none⟩=some (.int .i64 J)) (ds:=[]) b21_9 KR rfl rfl ⟨bq D 0,bq D 1,bq D 2⟩ (fun hHeld=>?_);refine with_tabW impl_AddressText.tab3 impl_AddressText.bits3 (fun HT_ HW_=>?_)
       generalize bo.drew=cg at D HB hHeld ⊢
       refine pu_ (i:=0) (N:=some 7) b21_8 HT_ ?_;refine pu_ (i:=4) (N:=some 11) b21_7 HT_ ?_;refine tk_ (i:=1) (N:=some 8) b21_6 rfl rfl HT_ HW_ hHeld ?_;refine tq_ (i:=5) (N:=some 12) b21_5 rfl rfl (take_ofW HT_.out HW_.out KR) hHeld ?_
       refine one_ (i:=2) (N:=some 9) b21_4 rfl rfl (one_of HT_.out KR) (by decide) (fun K hK=>?_);refine goes_ Tryd.func44 KR rfl #[.int .i64 U] (by rfl) rfl rfl AR ?_
       with_reducible refine(impl_FormatInt.calls U Y _ A4.out ?tbl).mono ?_
       (case tbl=>exact tb_on HTB (by repeat(first|(with_reducible first|exact HB.out | apply below_alloc | apply pw_below_drewN | apply below_drew1)|exact HB.out)));rintro e ch ⟨rfl,hb⟩;refine⟨_,rfl,?_⟩;replace D:=kf D hb;replace HB:=bs HB hb;(try clear hb);(try clear hb2);(try clear hk);(try clear hi);refine hK.out _ _ ⟨bq D 0,bq D 1,bq D 2⟩ (fun hHeld=>?_);clear hK K;refine nq_ (N:=(some 9)) ?_
       refine pu_ (i:=3) (N:=some 10) b21_3 HT_ ?_;refine one_ (i:=6) (N:=some 13) b21_2 rfl rfl (one_of HT_.out KR) (by decide) (fun K hK=>?_);refine goes_ Tryd.func44 KR rfl #[.int .i64 X] (by rfl) rfl rfl AR ?_
       with_reducible refine(impl_FormatInt.calls X aa _ A6.out ?tbl).mono ?_
       (case tbl=>exact tb_on HTB (by repeat(first|(with_reducible first|exact HB.out | apply below_alloc | apply pw_below_drewN | apply below_drew1)|exact HB.out)));rintro e ci ⟨rfl,hb⟩;refine⟨_,rfl,?_⟩;replace D:=kf D hb;replace HB:=bs HB hb;(try clear hb);(try clear hb2);(try clear hk);(try clear hi);refine hK.out _ _ ⟨bq D 0,bq D 1,bq D 2⟩ (fun hHeld=>?_);clear hK K;refine nq_ (N:=(some 13)) ?_
       refine pu_ (i:=7) (N:=some 14) b21_1 HT_ ?_;refine pu_ (i:=8) (N:=some 3) b21_0 HT_ ?_;refine done_ (done_of HT_.out KR) ?_;obtain⟨_,_,_,_,_,_⟩:=bc3 D
       try go_wp2_with (first|(go_at_call 44;(with_reducible refine(impl_FormatInt.calls J ab _ bm.out ?tbl).mono ?_);(case tbl=>exact tb_on HTB (by repeat(first|(with_reducible first|exact HB.out | apply below_alloc | apply pw_below_drewN | apply below_drew1)|exact HB.out)));rintro e cj ⟨rfl,hb⟩;replace D:=kf D hb;replace HB:=bs HB hb;clear hb))
       go_ret
       exact⟨RT,PB⟩
      ·rw[if_neg ac] at H;exact absurd H (by simp)
     ·rw[if_neg ae] at H;exact absurd H (by simp)
   ·rw[if_neg c7] at H;exact absurd H (by simp)
  ·rw[if_neg c5] at H;exact absurd H (by simp)
 ·replace c3:=Bool.eq_false_iff.mpr c3;subst c3;rw[if_neg (show ¬(false=true) by decide)] at H;obtain rfl:=Option.some.inj H;go_enter Tryd.func43,Tryd.ntmps43;go_wp2_with (first|((with_reducible refine gate_dst (N:=1) rfl ?_);refine bx_ (N:=1) #[.int .i64 U,.int .i64 X,.int .i64 J] 46 ?_;intro Z hg ck hbox hb;have D:=ak hbox;have ag:=gy hg HB;replace HB:=bs HB hb;clear hb hbox hg;obtain⟨bc,bd,bf,bg,bh,bi⟩:=bc3 D)|(go_at_call 34;(with_reducible refine(impl_IsAddress.calls U X J false _ A2.out).mono ?_);rintro e cl ⟨rfl,hb⟩;replace D:=kf D hb;replace HB:=bs HB hb;clear hb))
  go_ret
  exact⟨RT,PB⟩
def impl_EntryText.f (ac:Int)(U:Int)(X:Int)(Y:Int)(Z:Int):Option (ByteArray):=(impl_OpName.f ac).bind fun D=>((impl_IsAddress.f U X Y).bind fun ae=>(if ae=true then((impl_AddressText.f U X Y).bind fun J=>(if 1+J.size≤9223372036854775807 then(if D.size+((⟨#[32]⟩:ByteArray)++J).size≤9223372036854775807 then(if (D++((⟨#[32]⟩:ByteArray)++J)).size+1≤9223372036854775807 then((impl_FormatInt.f Z).bind fun aa=>(if ((D++((⟨#[32]⟩:ByteArray)++J))++(⟨#[61]⟩:ByteArray)).size+aa.size≤9223372036854775807 then(some (((D++((⟨#[32]⟩:ByteArray)++J))++(⟨#[61]⟩:ByteArray))++aa)) else(none))) else(none)) else(none)) else(none))) else(if D.size+1≤9223372036854775807 then((impl_FormatInt.f Z).bind fun ab=>(if (D++(⟨#[61]⟩:ByteArray)).size+ab.size≤9223372036854775807 then(some ((D++(⟨#[61]⟩:ByteArray))++ab)) else(none))) else(none))))
theorem impl_EntryText.calls (aa:Int)(X:Int)(Y:Int)(Z:Int)(ab:Int)(r:ByteArray)(w:World)(h:impl_EntryText.f aa X Y Z ab=some r)(HTB:Aside0 (Tb w)) :
  Calls Tryd.prog 18 #[.agg #[.int .i64 aa,.int .i64 X,.int .i64 Y,.int .i64 Z,.int .i64 ab]] w fun e w'=>e = .returned (.string r)∧Below w.heap.size w w':=by
 have bx:=Tryd.underlying51;have bz:=Tryd.underlying46;have HB:=ak (Below.refl w.heap.size w);have H:=h;clear h;unfold impl_EntryText.f at H;replace H:=Option.bind_eq_some_iff.mp H;obtain⟨J,ar,H⟩:=H;(try dsimp only at H);have A2:=ak ar;clear ar;replace H:=Option.bind_eq_some_iff.mp H;obtain⟨ax,au,H⟩:=H;(try dsimp only at H);have A3:=ak au;clear au
 by_cases c4:ax=true
 ·subst c4;rw[if_pos rfl] at H;replace H:=Option.bind_eq_some_iff.mp H;obtain⟨U,av,H⟩:=H;(try dsimp only at H);have A5:=ak av;clear av
  by_cases c6:1+U.size≤9223372036854775807
  ·rw[if_pos c6] at H;have b4:=eq_true c6;have b5:decide (1+U.size≤9223372036854775807)=true:=decide_eq_true c6
   try have b6:(9223372036854775807 < 1+U.size)=False:=eq_false (Nat.not_lt.2 c6)
   by_cases c7:J.size+((⟨#[32]⟩:ByteArray)++U).size≤9223372036854775807
   ·rw[if_pos c7] at H;have b7:=eq_true c7;have b8:decide (J.size+((⟨#[32]⟩:ByteArray)++U).size≤9223372036854775807)=true:=decide_eq_true c7
    try have b9:(9223372036854775807 < J.size+((⟨#[32]⟩:ByteArray)++U).size)=False:=eq_false (Nat.not_lt.2 c7)
    have ca:(9223372036854775807 < J.size+(1+U.size))=False:=eq_false (by have q_:=c7;simp only[ByteArray.size_append] at q_;have l0_:(⟨#[32]⟩:ByteArray).size=1:=rfl;omega)
    by_cases c8:(J++((⟨#[32]⟩:ByteArray)++U)).size+1≤9223372036854775807
    ·rw[if_pos c8] at H;have cb:=eq_true c8;have cd:decide ((J++((⟨#[32]⟩:ByteArray)++U)).size+1≤9223372036854775807)=true:=decide_eq_true c8
     try have ce:(9223372036854775807 < (J++((⟨#[32]⟩:ByteArray)++U)).size+1)=False:=eq_false (Nat.not_lt.2 c8)
     have cf:(9223372036854775807 < J.size+(1+U.size)+1)=False:=eq_false (by have q_:=c8;simp only[ByteArray.size_append] at q_;have l0_:(⟨#[32]⟩:ByteArray).size=1:=rfl;omega);replace H:=Option.bind_eq_some_iff.mp H;obtain⟨ac,aw,H⟩:=H;(try dsimp only at H);have A9:=ak aw;clear aw
     by_cases af:((J++((⟨#[32]⟩:ByteArray)++U))++(⟨#[61]⟩:ByteArray)).size+ac.size≤9223372036854775807
     ·rw[if_pos af] at H;have bi:=eq_true af;have bj:decide (((J++((⟨#[32]⟩:ByteArray)++U))++(⟨#[61]⟩:ByteArray)).size+ac.size≤9223372036854775807)=true:=decide_eq_true af
      try have bk:(9223372036854775807 < ((J++((⟨#[32]⟩:ByteArray)++U))++(⟨#[61]⟩:ByteArray)).size+ac.size)=False:=eq_false (Nat.not_lt.2 af)
      have bl:(9223372036854775807 < J.size+(1+U.size)+1+ac.size)=False:=eq_false (by have q_:=af;simp only[ByteArray.size_append] at q_;have l0_:(⟨#[32]⟩:ByteArray).size=1:=rfl;have l1_:(⟨#[61]⟩:ByteArray).size=1:=rfl;omega);obtain rfl:=Option.some.inj H;go_enter Tryd.func18,Tryd.ntmps18;go_wp2_with (first|((with_reducible refine gate_dst (N:=1) rfl ?_);refine bx_ (N:=1) #[.int .i64 aa,.int .i64 X,.int .i64 Y,.int .i64 Z,.int .i64 ab] 51 ?_;intro ap hg ch hbox hb;have D:=ak hbox;have aq:=gy hg HB;replace HB:=bs HB hb;clear hb hbox hg;obtain⟨_,_,_,_,_,_,_,_,_,_⟩:=bc5 D)|(go_at_call 42;(with_reducible refine(impl_OpName.calls aa J _ A2.out).mono ?_);rintro e ci ⟨rfl,hb⟩;replace D:=kf D hb;replace HB:=bs HB hb;clear hb;obtain⟨_,_,_,_,_,_,_,_,_,_⟩:=bc5 D)|(go_at_call 34;(with_reducible refine(impl_IsAddress.calls X Y Z true _ A3.out).mono ?_);rintro e cj ⟨rfl,hb⟩;replace D:=kf D hb;replace HB:=bs HB hb;clear hb;obtain⟨_,_,_,_,_,_,_,_,_,_⟩:=bc5 D)|(go_at_call 43;(with_reducible refine(impl_AddressText.calls X Y Z U _ A5.out ?tbl).mono ?_);(case tbl=>exact tb_on HTB (by repeat(first|(with_reducible first|exact HB.out | apply below_alloc | apply pw_below_drewN | apply below_drew1)|exact HB.out)));rintro e ck ⟨rfl,hb⟩;replace D:=kf D hb;replace HB:=bs HB hb;clear hb;obtain⟨_,_,_,_,_,_,_,_,_,_⟩:=bc5 D)|(go_at_call 44;(with_reducible refine(impl_FormatInt.calls ab ac _ A9.out ?tbl).mono ?_);(case tbl=>exact tb_on HTB (by repeat(first|(with_reducible first|exact HB.out | apply below_alloc | apply pw_below_drewN | apply below_drew1)|exact HB.out)));rintro e cl ⟨rfl,hb⟩;replace D:=kf D hb;replace HB:=bs HB hb;clear hb))
      go_ret
      exact⟨RT,PB⟩
     ·rw[if_neg af] at H;exact absurd H (by simp)
    ·rw[if_neg c8] at H;exact absurd H (by simp)
   ·rw[if_neg c7] at H;exact absurd H (by simp)
  ·rw[if_neg c6] at H;exact absurd H (by simp)
 ·replace c4:=Bool.eq_false_iff.mpr c4;subst c4;rw[if_neg (show ¬(false=true) by decide)] at H
  by_cases ah:J.size+1≤9223372036854775807
  ·rw[if_pos ah] at H;have bm:=eq_true ah;have bo:decide (J.size+1≤9223372036854775807)=true:=decide_eq_true ah
   try have bp:(9223372036854775807 < J.size+1)=False:=eq_false (Nat.not_lt.2 ah)
   replace H:=Option.bind_eq_some_iff.mp H;obtain⟨ae,am,H⟩:=H;(try dsimp only at H);have bh:=ak am;clear am
   by_cases ag:(J++(⟨#[61]⟩:ByteArray)).size+ae.size≤9223372036854775807
   ·rw[if_pos ag] at H;have br:=eq_true ag;have bu:decide ((J++(⟨#[61]⟩:ByteArray)).size+ae.size≤9223372036854775807)=true:=decide_eq_true ag
    try have bv:(9223372036854775807 < (J++(⟨#[61]⟩:ByteArray)).size+ae.size)=False:=eq_false (Nat.not_lt.2 ag)
    have bw:(9223372036854775807 < J.size+1+ae.size)=False:=eq_false (by have q_:=ag;simp only[ByteArray.size_append] at q_;have l0_:(⟨#[61]⟩:ByteArray).size=1:=rfl;omega);obtain rfl:=Option.some.inj H;go_enter Tryd.func18,Tryd.ntmps18;go_wp2_with (first|((with_reducible refine gate_dst (N:=1) rfl ?_);refine bx_ (N:=1) #[.int .i64 aa,.int .i64 X,.int .i64 Y,.int .i64 Z,.int .i64 ab] 51 ?_;intro ap hg cm hbox hb;have D:=ak hbox;have aq:=gy hg HB;replace HB:=bs HB hb;clear hb hbox hg;obtain⟨_,_,_,_,_,_,_,_,_,_⟩:=bc5 D)|(go_at_call 42;(with_reducible refine(impl_OpName.calls aa J _ A2.out).mono ?_);rintro e cn ⟨rfl,hb⟩;replace D:=kf D hb;replace HB:=bs HB hb;clear hb;obtain⟨_,_,_,_,_,_,_,_,_,_⟩:=bc5 D)|(go_at_call 34;(with_reducible refine(impl_IsAddress.calls X Y Z false _ A3.out).mono ?_);rintro e co ⟨rfl,hb⟩;replace D:=kf D hb;replace HB:=bs HB hb;clear hb;obtain⟨ay,az,ba,_,_,bb,bc,bd,_,_⟩:=bc5 D)|(go_at_call 44;(with_reducible refine(impl_FormatInt.calls ab ae _ bh.out ?tbl).mono ?_);(case tbl=>exact tb_on HTB (by repeat(first|(with_reducible first|exact HB.out | apply below_alloc | apply pw_below_drewN | apply below_drew1)|exact HB.out)));rintro e cp ⟨rfl,hb⟩;replace D:=kf D hb;replace HB:=bs HB hb;clear hb))
    go_ret
    exact⟨RT,PB⟩
   ·rw[if_neg ag] at H;exact absurd H (by simp)
  ·rw[if_neg ah] at H;exact absurd H (by simp)
attribute [local go_sem high] eqA51
def impl_Entry.l0:Nat→List (S51)→List (S51)→Int→Int→Option (Bool)
  | 0,_,_,_,_=>none
  | k+1,J,U,X,D=>if D < X then(if 0≤D then(if D < (J.length:Int) then(if D < (U.length:Int) then(if (!(((rd_T51 J D).f0) == ((rd_T51 U D).f0)) || ((!(((rd_T51 J D).f1.f0) == ((rd_T51 U D).f1.f0)) || (!(((rd_T51 J D).f1.f1) == ((rd_T51 U D).f1.f1)) || (!(((rd_T51 J D).f1.f2) == ((rd_T51 U D).f1.f2))))) || (!(((rd_T51 J D).f2) == ((rd_T51 U D).f2)))))=true then(some false) else(impl_Entry.l0 k J U X (wrap64 (D+1)))) else(none)) else(none)) else(none)) else(some true)
def impl_Entry.f (k:Nat)(D:List (S51))(J:List (S51)):Option (Bool):=if (D.length:Int)=(J.length:Int) then(impl_Entry.l0 k D J (D.length:Int) 0) else(some false)
theorem impl_Entry.calls (k:Nat)(A0:Option Addr)(c0:Nat)(J:List (S51))(A1:Option Addr)(c1:Nat)(U:List (S51))(r:Bool)(w:World)(bd:Kd.C k51 w A0 J.length J)(bf:J.length≤c0)(bg:Kd.C k51 w A1 U.length U)(bh:U.length≤c1)(h:impl_Entry.f k J U=some r) :
  Calls Tryd.prog 45 #[.slice A0 J.length c0,.slice A1 U.length c1] w fun e w'=>e = .returned (.bool r)∧Drawn0 w w':=by
 have bw:=Tryd.underlying51;have bi:=ak bd;have b4:=ak bf;clear bd bf;have bj:=ak bg;have b5:=ak bh;clear bg bh;have H:=h;clear h;unfold impl_Entry.f at H
 by_cases c3:(J.length:Int)=(U.length:Int)
 ·rw[if_pos c3] at H;have av:((J.length:Int) == (U.length:Int))=true:=beq_iff_eq.mpr c3;have aw:((J.length:Int) != (U.length:Int))=false:=bne_eq_false_iff_eq.mpr c3
  have ax:(J.length == U.length)=true:=by first|simpa using c3|(simp at c3 ⊢;omega)
  clear c3;have H':=ak H;clear H;go_enter Tryd.func45,Tryd.ntmps45;go_wp2
  repeat(go_quiet (fail);try go_wp2)
  go_loopg [13] k (fun kq bv w'=>∃(D:Int),bv = .int .i64 D∧Aside0 (impl_Entry.l0 kq J U (J.length:Int) D=some r)∧Aside0 (kq≤k)∧Drawn0 w w')
  case atStart=>exact⟨(0),FR,H',⟨Nat.le_refl _⟩,by repeat(first|exact Drawn0.refl _ | apply Drawn0.step)⟩
  case round =>
   clear H';(try clear c1);(try clear p2);(try clear c3);(try clear av);(try clear aw);(try clear ax);obtain⟨D,rfl,HA,bk,⟨m1,rfl⟩⟩:=hrel
   cases gk with
   | zero=>exact absurd HA.out (by simp[impl_Entry.l0])
   | succ k1 =>
    have H:=HA.out;clear HA;simp only[impl_Entry.l0] at H
    by_cases c4:D < (J.length:Int)
    ·rw[if_pos c4] at H;have bm:decide (D < (J.length:Int))=true:=decide_eq_true c4;clear c4
     by_cases c5:0≤D
     ·rw[if_pos c5] at H;have bx:decide (0≤D)=true:=decide_eq_true c5;clear c5
      by_cases c6:D < (J.length:Int)
      ·rw[if_pos c6] at H;have bz:decide (D < (J.length:Int))=true:=decide_eq_true c6;clear c6
       by_cases c7:D < (U.length:Int)
       ·rw[if_pos c7] at H;have b0:decide (D < (U.length:Int))=true:=decide_eq_true c7;clear c7
        by_cases c8:(!(((rd_T51 J D).f0) == ((rd_T51 U D).f0)) || ((!(((rd_T51 J D).f1.f0) == ((rd_T51 U D).f1.f0)) || (!(((rd_T51 J D).f1.f1) == ((rd_T51 U D).f1.f1)) || (!(((rd_T51 J D).f1.f2) == ((rd_T51 U D).f1.f2))))) || (!(((rd_T51 J D).f2) == ((rd_T51 U D).f2)))))=true
        ·rw[if_pos c8] at H;have bo:(!(((rd_T51 J D).f0) == ((rd_T51 U D).f0)) || ((!(((rd_T51 J D).f1.f0) == ((rd_T51 U D).f1.f0)) || (!(((rd_T51 J D).f1.f1) == ((rd_T51 U D).f1.f1)) || (!(((rd_T51 J D).f1.f2) == ((rd_T51 U D).f1.f2))))) || (!(((rd_T51 J D).f2) == ((rd_T51 U D).f2)))))=true:=c8;clear c8;obtain rfl:=Option.some.inj H;have X:0≤(D:Int):=od;have Y:D < (J.length:Int):=od;obtain⟨bb,ac,ah,ai,aj,al,am⟩:=at_T51 bi.out D X Y;cases ac;replace X:=eq_true X;replace Y:=eq_true Y;have Z:0≤(D:Int):=od;have aa:D < (U.length:Int):=od;obtain⟨bc,ae,ao,ap,aq,ar,au⟩:=at_T51 bj.out D Z aa;cases ae;replace Z:=eq_true Z;replace aa:=eq_true aa;go_wp2
         repeat(go_quiet (fail);try go_wp2)
         go_ret
         exact⟨FR,by repeat(first|exact Drawn0.refl _ | apply Drawn0.step)⟩
        ·rw[if_neg c8] at H
         have bo:(!(((rd_T51 J D).f0) == ((rd_T51 U D).f0)) || ((!(((rd_T51 J D).f1.f0) == ((rd_T51 U D).f1.f0)) || (!(((rd_T51 J D).f1.f1) == ((rd_T51 U D).f1.f1)) || (!(((rd_T51 J D).f1.f2) == ((rd_T51 U D).f1.f2))))) || (!(((rd_T51 J D).f2) == ((rd_T51 U D).f2)))))=false:=by simpa using c8
         clear c8;have H':=ak H;clear H;have X:0≤(D:Int):=od;have Y:D < (J.length:Int):=od;obtain⟨bb,ac,ah,ai,aj,al,am⟩:=at_T51 bi.out D X Y;cases ac;replace X:=eq_true X;replace Y:=eq_true Y;have Z:0≤(D:Int):=od;have aa:D < (U.length:Int):=od;obtain⟨bc,ae,ao,ap,aq,ar,au⟩:=at_T51 bj.out D Z aa;cases ae;replace Z:=eq_true Z;replace aa:=eq_true aa;go_wp2
         repeat(go_quiet (fail);try go_wp2)
         go_roundg k1
         case measure=>have:=bk.out;omega
         case rel=>exact⟨(wrap64 (D+1)),FR,H',⟨by have:=bk.out;omega⟩,by repeat(first|exact Drawn0.refl _ | apply Drawn0.step)⟩
       ·rw[if_neg c7] at H;exact absurd H (by simp)
      ·rw[if_neg c6] at H;exact absurd H (by simp)
     ·rw[if_neg c5] at H;exact absurd H (by simp)
    ·rw[if_neg c4] at H;have bm:decide (D < (J.length:Int))=false:=decide_eq_false c4;clear c4;obtain rfl:=Option.some.inj H;go_wp2
     repeat(go_quiet (fail);try go_wp2)
     go_ret
     exact⟨FR,by repeat(first|exact Drawn0.refl _ | apply Drawn0.step)⟩
 ·rw[if_neg c3] at H;have av:((J.length:Int) == (U.length:Int))=false:=beq_eq_false_iff_ne.mpr c3;have aw:((J.length:Int) != (U.length:Int))=true:=bne_iff_ne.mpr c3
  have ax:(J.length == U.length)=false:=by first|simpa using c3|(simp at c3 ⊢;omega)
  obtain rfl:=Option.some.inj H;go_enter Tryd.func45,Tryd.ntmps45;go_wp2
  repeat(go_quiet (fail);try go_wp2)
  go_ret
  exact⟨FR,by repeat(first|exact Drawn0.refl _ | apply Drawn0.step)⟩
def impl_EqualEntries.f (k:Nat)(J:List (S51))(U:List (S51)):Option (Bool):=(impl_Entry.f k J U).bind fun D=>(some D)
theorem impl_EqualEntries.calls (k:Nat)(A0:Option Addr)(c0:Nat)(D:List (S51))(A1:Option Addr)(c1:Nat)(J:List (S51))(r:Bool)(w:World)(U:Kd.C k51 w A0 D.length D)(X:D.length≤c0)(Y:Kd.C k51 w A1 J.length J)(Z:J.length≤c1)(h:impl_EqualEntries.f k D J=some r) :
  Calls Tryd.prog 19 #[.slice A0 D.length c0,.slice A1 J.length c1] w fun e w'=>e = .returned (.bool r)∧Drawn0 w w':=by
 have ah:=ak U;have ai:=ak X;clear U X;have aj:=ak Y;have al:=ak Z;clear Y Z;have H:=h;clear h;unfold impl_EqualEntries.f at H;replace H:=Option.bind_eq_some_iff.mp H;obtain⟨ag,aa,H⟩:=H;(try dsimp only at H);have A3:=ak aa;clear aa;obtain rfl:=Option.some.inj H;go_enter Tryd.func19,Tryd.ntmps19;go_wp2_with (first|(go_at_call 45;(with_reducible refine(impl_Entry.calls k _ _ D _ _ J ag _ ?side1 ai.out ?side3 al.out A3.out).mono ?_);(case side1=>exact CR (ah.out));(case side3=>exact CR (aj.out));rintro e w' ⟨rfl,⟨nd,rfl⟩⟩))
 go_ret
 exact⟨FR,by repeat(first|exact Drawn0.refl _ | apply Drawn0.step)⟩

end Go.Proofs.YtinnjgnipdjfhaaDoor.MFnRecordings
