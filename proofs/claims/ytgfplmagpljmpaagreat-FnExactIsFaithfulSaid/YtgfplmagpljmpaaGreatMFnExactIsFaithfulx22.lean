import Derived.Test.YtgfplmagpljmpaaGreatRun
import Derived.Test.YtgfplmagpljmpaaGreatShr2
import Derived.Test.YtgfplmagpljmpaaGreatMFnExactIsFaithfulx0
import Derived.Test.YtgfplmagpljmpaaGreatMFnExactIsFaithfulx19
import Derived.Test.YtgfplmagpljmpaaGreatMFnExactIsFaithfulx21
namespace Go.Proofs.YtgfplmagpljmpaaGreat.MFnExactIsFaithful
open Go.RowKit Go.Proofs.YtgfplmagpljmpaaGreatW.PrintWords Go.Proofs.YtgfplmagpljmpaaGreatW.PrintLast Go.Proofs.YtgfplmagpljmpaaGreatW.PrintMore
attribute [local go_sem] max2_int min2_int max_two min_two max_three min_three max_four min_four
set_option linter.unusedVariables false
set_option maxHeartbeats 8000000
set_option maxRecDepth 100000
set_option linter.unusedSimpArgs false

abbrev b31_11:Array Bool:=mkB 15 32767
abbrev b31_12:Array Bool:=mkB 15 16383
abbrev b31_13:Array Bool:=mkB 15 8191
abbrev b31_14:Array Bool:=mkB 15 4095
abbrev b31_15:Array Bool:=mkB 15 2047
abbrev b31_20:Array Bool:=mkB 15 255
abbrev b31_21:Array Bool:=mkB 15 127
abbrev b31_22:Array Bool:=mkB 15 63
abbrev b31_23:Array Bool:=mkB 15 31
abbrev b31_24:Array Bool:=mkB 15 15
abbrev b31_25:Array Bool:=mkB 15 7
abbrev b31_26:Array Bool:=mkB 15 3
abbrev b31_27:Array Bool:=mkB 15 1
abbrev b31_28:Array Bool:=#[false,false,false,false,false,false,false,false,false,false,false,false,false,false,false]
theorem impl_IsFaithful.fld (w:World)(x y z:Int)(a b c:Value):(Instr.field 47 (.agg #[.int .i64 x,.int .i64 y,.int .i64 z,a,b,c]) 0).run Tryz.prog w = .ok (.int .i64 x) w:=by kernel_rfl
attribute [local go_sem high] impl_IsFaithful.fld
def impl_IsFaithful.f (k:Nat)(l0:List (S54))(J:List (S80))(U:Int)(X:Int)(Y:List Int):Option (Bool):=(impl_RecordVisit.f k l0 J U X Y).bind fun D=>((impl_Replay.f k l0 D.1).bind fun Z=>(if Z.1=0 then((impl_TraceReplay.f k l0 D.1).bind fun ab=>((impl_TraceVisit.f k l0 J U X Y).bind fun ac=>((slices_EqualFunc_27.f k ab ac 90000027).bind fun ae=>(some ae)))) else(some false)))
def impl_IsFaithful.T2:Bool×List (List Nat×List Nat):=(true,[([],[]),([],[]),([0,1],[0,1]),([2],[2]),([3],[3]),([4,2],[4]),([5],[5]),([5],[5]),([6,7,5,5],[5,6,7]),([5],[5]),([5],[5]),([9,10,8,5],[5,9,10]),([8,11,11,5],[5,8,11]),([5,12],[5,12]),([13,12,0,1,2,3,4,5,6,7,8,9,10,11,12,13],[13])])
def impl_IsFaithful.B2:List Nat:=[0,0,3,7,15,31,63,63,255,63,63,2047,4095,8191,16383]
theorem impl_IsFaithful.tab2:rtab .any (opsOf Tryz.f9 2)=impl_IsFaithful.T2:=by kernel_rfl
theorem impl_IsFaithful.bits2:waitsOk impl_IsFaithful.T2.2 impl_IsFaithful.B2=true:=by kernel_rfl
theorem impl_IsFaithful.calls (k:Nat)(A0:Option Addr)(c0:Nat)(l0:List (S54))(au:Option Addr)(av:Nat)(ab:List (S80))(ai:Int)(aj:Int)(aw:Option Addr)(ax:Nat)(ac:List Int)(r:Bool)(w:World)(da:Kd.C k54 w A0 l0.length l0)(db:l0.length≤c0)(b4:Kd.C k80 w au ab.length ab)(b5:ab.length≤av)(b6:Kd.C (Kd.int .i64) w aw ac.length ac)(b7:ac.length≤ax)(h:impl_IsFaithful.f k l0 ab ai aj ac=some r) :
  Calls Tryz.prog 9 #[.slice A0 l0.length c0,.agg #[.slice au ab.length av,.int .i64 ai,.int .i64 aj,.slice aw ac.length ax]] w fun e w'=>e = .returned (.bool r)∧Below w.heap.size w w':=by
 have ek:=Tryz.underlying34;have el:=Tryz.underlying43;have bd:=ak da;have bf:=ak db;clear da db;have bg:=ak b4;have bh:=ak b5;clear b4 b5;have bi:=ak b6;have bj:=ak b7;clear b6 b7;have HB:=ak (Below.refl w.heap.size w);have H:=h;clear h;unfold impl_IsFaithful.f at H;replace H:=Option.bind_eq_some_iff.mp H;obtain⟨⟨am,ay,az,ba,al⟩,dc,H⟩:=H;(try dsimp only at H);have A3:=ak dc;clear dc;replace H:=Option.bind_eq_some_iff.mp H;obtain⟨⟨ao,b8,b9,ca,cb,cd⟩,de,H⟩:=H;(try dsimp only at H);have A4:=ak de;clear de
 by_cases c5:ao=0
 ·rw[if_pos c5] at H;have di:(ao == 0)=true:=beq_iff_eq.mpr c5;have dj:(ao != 0)=false:=bne_eq_false_iff_eq.mpr c5;clear c5;replace H:=Option.bind_eq_some_iff.mp H;obtain⟨bk,df,H⟩:=H;(try dsimp only at H);have A6:=ak df;clear df;replace H:=Option.bind_eq_some_iff.mp H;obtain⟨bl,dg,H⟩:=H;(try dsimp only at H);have A7:=ak dg;clear dg;replace H:=Option.bind_eq_some_iff.mp H;obtain⟨cu,dh,H⟩:=H;(try dsimp only at H);have A8:=ak dh;clear dh;obtain rfl:=Option.some.inj H;go_enter Tryz.func9,Tryz.ntmps9
  try go_wp2_with (first|((with_reducible refine gate_dst (N:=3) rfl ?_);refine bx_ (N:=3) #[.slice au ab.length av,.int .i64 ai,.int .i64 aj,.slice aw ac.length ax] 34 ?_;intro bc hg w9 hbox hb;have D:=ak hbox;have cv:=gy hg HB;replace HB:=bs HB hb;clear hb hbox hg;obtain⟨dv,dw,dx,dy,dz,d7,d8,d9⟩:=bc4 D)|(go_at_call 22;(with_reducible refine(impl_RecordVisit.calls k _ _ l0 _ _ ab ai aj _ _ ac am ay az ba al _ ?side1 bf.out ?side3 bh.out ?side5 bj.out A3.out).mono ?_);(case side1=>exact Cq bd);(case side3=>exact Cq bg);(case side5=>exact Cq bi);rintro e ep ⟨b0,dk,dl,cw,rfl,ho0,ho1,ho2,ho3,hb⟩;have Z:=Rn0 ho0 HB;have X:=Rn0 ho1 HB;have Y:=Rn0 ho2 HB;have J:=Rn0 ho3 HB;replace D:=kf D hb;replace HB:=bs HB hb;clear hb ho0 ho1 ho2 ho3)|((with_reducible refine gate_dst (N:=6) rfl ?_);refine bx_ (N:=6) #[.int .i64 0,.slice none 0 0,.slice none 0 0,.slice none 0 0] 43 ?_;intro aa hg ec hbox hb;replace Z:=Rb Z hb;replace X:=Rb X hb;replace Y:=Rb Y hb;replace J:=Rb J hb;have U:=ak hbox;have ce:=gy hg HB;replace HB:=bs HB hb;have ap:=gm hg D;have aq:=gn hg D;replace D:=kf D hb;clear hb hbox hg;have ee:=aq.out;have ef:=ap.out;obtain⟨_,_,_,_,_,_,_,_⟩:=bc4 U;obtain⟨bm,bo,rfl⟩:=Kd.R_slice X.out;obtain⟨bp,br,rfl⟩:=Kd.R_slice Y.out;obtain⟨bu,bv,rfl⟩:=Kd.R_slice J.out))
  generalize hW_:((((ec.setCell ⟨aa,0,none⟩ (.int .i64 ay)).setCell ⟨aa,1,none⟩ (.slice bm az.length bo)).setCell ⟨aa,2,none⟩ (.slice bp ba.length br)).setCell ⟨aa,3,none⟩ (.slice bu al.length bv))=cf;replace Z:Aside0 (Kd.R k94 94 cf w.heap.size (fun _=>True) b0 am):=⟨by rw[←hW_];exact RX (Rt Z.out U) (fun _ hk=>trivial)⟩;replace X:=R1 hW_ X U;replace Y:=R1 hW_ Y U;replace J:=R1 hW_ J U;replace D:=BE hW_ D;replace U:Aside0 (cf.heap[aa]?=some (.cells #[.int .i64 ay,.slice bm az.length bo,.slice bp ba.length br,.slice bu al.length bv] 43 (0,0))):=BP hW_ U;replace HB:=BL hW_ HB;(try clear hW_);replace Z:=ak (Kd.R_drew Z.out);replace X:=ak (Kd.R_drew X.out);replace Y:=ak (Kd.R_drew Y.out);replace J:=ak (Kd.R_drew J.out);replace D:=ak (blk_drew D.out);replace U:=ak (blk_drew U.out);replace HB:=ak (below_drew1 HB.out);obtain⟨cg,ch,ci⟩:=Kd.R_slice Z.out;(first|subst ci|(injection ci with f1_ f2_ f3_;have f4_:=f1_.symm;have f5_:=f3_.symm;clear f1_ f2_ f3_;subst f4_;subst f5_));refine start_ (n:=15) (S:=fun w'=>w'.cell? ⟨bc,0,none⟩=some (.slice au ab.length av)∧w'.cell? ⟨bc,1,none⟩=some (.int .i64 ai)∧w'.cell? ⟨bc,2,none⟩=some (.int .i64 aj)∧w'.cell? ⟨bc,3,none⟩=some (.slice aw ac.length ax)) (ds:=[]) b31_28 KR rfl rfl ⟨bq D 0,bq D 1,bq D 2,bq D 3⟩ (fun hHeld=>?_);refine with_tabW impl_IsFaithful.tab2 impl_IsFaithful.bits2 (fun HT_ HW_=>?_)
  generalize cf.drew=eq at Z X Y J D U HB hHeld ⊢
  refine pu_ (i:=0) (N:=some 13) b31_27 HT_ ?_;refine pu_ (i:=1) (N:=some 14) b31_26 HT_ ?_;refine one_ (i:=2) (N:=some 15) b31_25 rfl rfl (one_of HT_.out KR) (by decide) (fun K hK=>?_);refine goes_ Tryz.func23 KR rfl #[.slice A0 l0.length c0,.slice cg am.length ch] (by rfl) rfl rfl AR ?_
  with_reducible refine(impl_Replay.calls k _ _ l0 _ _ am ao b8 b9 ca cb cd _ ?side1 ?side2 ?side3 ?side4 A4.out).mono ?_
  (case side1=>exact Cq bd);(case side2=>exact bf.out);(case side3=>exact CR (rr Z));(case side4=>exact rl Z);rintro e er ⟨cx,cy,cz,rfl,ho0,ho1,ho2,hb⟩;refine⟨_,rfl,?_⟩;replace Z:=Rb Z hb;have ae:=Rn3 ho0 HB X Y J;have af:=Rn3 ho1 HB X Y J;have ag:=Rn3 ho2 HB X Y J;replace X:=Ro3 (W1:=w) (W2:=w) (W3:=w) (base1:=0) (base2:=0) (base3:=0) X hb ho0 ho1 ho2;replace Y:=Ro3 (W1:=w) (W2:=w) (W3:=w) (base1:=0) (base2:=0) (base3:=0) Y hb ho0 ho1 ho2;replace J:=Ro3 (W1:=w) (W2:=w) (W3:=w) (base1:=0) (base2:=0) (base3:=0) J hb ho0 ho1 ho2;replace D:=kf D hb;replace U:=kf U hb;replace HB:=bs HB hb;(try clear hb);(try clear hb2);(try clear hk);(try clear hi);(try clear ho0);(try clear ho1);(try clear ho2);refine hK.out _ _ ⟨bq D 0,bq D 1,bq D 2,bq D 3⟩ (fun hHeld=>?_);clear hK K;refine nq_ (N:=(some 15)) ?_
  refine pu_ (i:=3) (N:=some 16) b31_24 HT_ ?_;refine pu_ (i:=4) (N:=some 17) b31_23 HT_ ?_;refine pu_ (i:=5) (N:=some 18) b31_22 HT_ ?_;refine pu_ (i:=6) (N:=some 19) b31_21 HT_ ?_;refine pu_ (i:=7) (N:=some 20) b31_20 HT_ ?_;refine pu_ (i:=9) (N:=some 22) #[true,true,true,true,true,true,true,true,false,true,false,false,false,false,false] HT_ ?_;refine tk_ (i:=10) (N:=some 23) #[true,true,true,true,true,true,true,true,false,true,true,false,false,false,false] rfl rfl HT_ HW_ hHeld ?_;refine one_ (i:=8) (N:=some 21) b31_15 rfl rfl (one_of HT_.out KR) (by decide) (fun K hK=>?_);refine goes_ Tryz.func25 KR rfl #[.slice A0 l0.length c0,.slice cg am.length ch] (by rfl) rfl rfl AR ?_
  with_reducible refine(impl_TraceReplay.calls k _ _ l0 _ _ am bk _ ?side1 ?side2 ?side3 ?side4 A6.out).mono ?_
  (case side1=>exact Cq bd);(case side2=>exact bf.out);(case side3=>exact CR (rr Z));(case side4=>exact rl Z);rintro e es ⟨eg,rfl,ho0,hb⟩;refine⟨_,rfl,?_⟩;replace Z:=Rb Z hb;have ah:=ak (Kd.S_lower (Kd.S_newB (Kd.S_new' (Kd.S_new' (Kd.S_new' (Kd.S_new' (Kd.S_new' (Kd.S_new' ho0 (Kd.R_lt (PR X))) (Kd.R_lt (PR Y))) (Kd.R_lt (PR J))) (Kd.R_lt (PR ae))) (Kd.R_lt (PR af))) (Kd.R_lt (PR ag))) (g:=aa) (o:=.cells #[.int .i64 ay,.slice bm az.length bo,.slice bp ba.length br,.slice bu al.length bv] 43 (0,0)) (PK U)) (below_size PB));replace X:=Rb X hb;replace Y:=Rb Y hb;replace J:=Rb J hb;replace ae:=Rb ae hb;replace af:=Rb af hb;replace ag:=Rb ag hb;replace D:=kf D hb;replace U:=kf U hb;replace HB:=bs HB hb;(try clear hb);(try clear hb2);(try clear hk);(try clear hi);(try clear ho0);refine hK.out _ _ ⟨bq D 0,bq D 1,bq D 2,bq D 3⟩ (fun hHeld=>?_);clear hK K;refine nq_ (N:=(some 21)) ?_
  refine one_ (i:=11) (N:=some 24) b31_14 rfl rfl (one_of HT_.out KR) (by decide) (fun K hK=>?_);refine goes_ Tryz.func26 KR rfl #[.slice A0 l0.length c0,.agg #[.slice au ab.length av,.int .i64 ai,.int .i64 aj,.slice aw ac.length ax]] (by rfl) rfl rfl AR ?_
  with_reducible refine(impl_TraceVisit.calls k _ _ l0 _ _ ab ai aj _ _ ac bl _ ?side1 ?side2 ?side3 ?side4 ?side5 ?side6 A7.out).mono ?_
  (case side1=>exact Cq bd);(case side2=>exact bf.out);(case side3=>exact Cq bg);(case side4=>exact bh.out);(case side5=>exact Cq bi);(case side6=>exact bj.out);rintro e et ⟨eh,rfl,ho0,hb⟩;refine⟨_,rfl,?_⟩;replace Z:=Rb Z hb;have bb:=ak (Kd.S_lower (Kd.S_newB (Kd.S_new' (Kd.S_new' (Kd.S_new' (Kd.S_new' (Kd.S_new' (Kd.S_new' (Kd.S_new' ho0 (Kd.R_lt (PR X))) (Kd.R_lt (PR Y))) (Kd.R_lt (PR J))) (Kd.R_lt (PR ae))) (Kd.R_lt (PR af))) (Kd.R_lt (PR ag))) (Kd.S_lt (PS ah))) (g:=aa) (o:=.cells #[.int .i64 ay,.slice bm az.length bo,.slice bp ba.length br,.slice bu al.length bv] 43 (0,0)) (PK U)) (below_size PB));replace X:=Rb X hb;replace Y:=Rb Y hb;replace J:=Rb J hb;replace ae:=Rb ae hb;replace af:=Rb af hb;replace ag:=Rb ag hb;replace ah:=ak (Kd.S_elder' (PS ah) (Kd.S_base ho0) hb);replace D:=kf D hb;replace U:=kf U hb;replace HB:=bs HB hb;(try clear hb);(try clear hb2);(try clear hk);(try clear hi);(try clear ho0);obtain⟨dn,dp,cj⟩:=Kd.S_slice ah.out;(first|subst cj|(injection cj with f1_ f2_ f3_;have f4_:=f1_.symm;have f5_:=f3_.symm;clear f1_ f2_ f3_;subst f4_;subst f5_));obtain⟨dq,dr,ck⟩:=Kd.S_slice bb.out;(first|subst ck|(injection ck with f1_ f2_ f3_;have f4_:=f1_.symm;have f5_:=f3_.symm;clear f1_ f2_ f3_;subst f4_;subst f5_));refine hK.out _ _ ⟨bq D 0,bq D 1,bq D 2,bq D 3⟩ (fun hHeld=>?_);clear hK K;refine nq_ (N:=(some 24)) ?_
  refine one_ (i:=12) (N:=some 25) b31_13 rfl rfl (one_of HT_.out KR) (by decide) (fun K hK=>?_);refine goes_ Tryz.func24 KR rfl #[.slice dn bk.length dp,.slice dq bl.length dr,.func (.func 27) #[] #[]] (by rfl) rfl rfl AR ?_
  with_reducible refine(slices_EqualFunc_27.calls k _ _ bk _ _ bl 90000027 cu _ ?side1 ?side2 ?side3 ?side4 A8.out).mono ?_
  (case side1=>exact CR ((Kd.S_reads' ah.out).2.2));(case side2=>exact(Kd.S_reads' ah.out).2.1);(case side3=>exact CR ((Kd.S_reads' bb.out).2.2));(case side4=>exact(Kd.S_reads' bb.out).2.1);rintro e eu ⟨rfl,hb⟩;refine⟨_,rfl,?_⟩;replace Z:=Rb Z hb;replace X:=Rb X hb;replace Y:=Rb Y hb;replace J:=Rb J hb;replace ae:=Rb ae hb;replace af:=Rb af hb;replace ag:=Rb ag hb;replace ah:=Sb ah hb;replace bb:=Sb bb hb;replace D:=kf D hb;replace U:=kf U hb;replace HB:=bs HB hb;(try clear hb);(try clear hb2);(try clear hk);(try clear hi);refine hK.out _ _ ⟨bq D 0,bq D 1,bq D 2,bq D 3⟩ (fun hHeld=>?_);clear hK K;refine nq_ (N:=(some 25)) ?_
  refine pu_ (i:=13) (N:=some 26) b31_12 HT_ ?_;refine pu_ (i:=14) (N:=some 4) b31_11 HT_ ?_;refine done_ (done_of HT_.out KR) ?_
  try go_wp2
  go_ret
  exact⟨RT,PB⟩
 ·rw[if_neg c5] at H;have di:(ao == 0)=false:=beq_eq_false_iff_ne.mpr c5;have dj:(ao != 0)=true:=bne_iff_ne.mpr c5;obtain rfl:=Option.some.inj H;go_enter Tryz.func9,Tryz.ntmps9
  try go_wp2_with (first|((with_reducible refine gate_dst (N:=3) rfl ?_);refine bx_ (N:=3) #[.slice au ab.length av,.int .i64 ai,.int .i64 aj,.slice aw ac.length ax] 34 ?_;intro bc hg ev hbox hb;have D:=ak hbox;have cv:=gy hg HB;replace HB:=bs HB hb;clear hb hbox hg;obtain⟨_,_,_,_,_,_,_,_⟩:=bc4 D)|(go_at_call 22;(with_reducible refine(impl_RecordVisit.calls k _ _ l0 _ _ ab ai aj _ _ ac am ay az ba al _ ?side1 bf.out ?side3 bh.out ?side5 bj.out A3.out).mono ?_);(case side1=>exact Cq bd);(case side3=>exact Cq bg);(case side5=>exact Cq bi);rintro e ew ⟨b0,dk,dl,cw,rfl,ho0,ho1,ho2,ho3,hb⟩;have Z:=Rn0 ho0 HB;have X:=Rn0 ho1 HB;have Y:=Rn0 ho2 HB;have J:=Rn0 ho3 HB;replace D:=kf D hb;replace HB:=bs HB hb;clear hb ho0 ho1 ho2 ho3)|((with_reducible refine gate_dst (N:=6) rfl ?_);refine bx_ (N:=6) #[.int .i64 0,.slice none 0 0,.slice none 0 0,.slice none 0 0] 43 ?_;intro aa hg ed hbox hb;replace Z:=Rb Z hb;replace X:=Rb X hb;replace Y:=Rb Y hb;replace J:=Rb J hb;have U:=ak hbox;have ce:=gy hg HB;replace HB:=bs HB hb;have ap:=gm hg D;have aq:=gn hg D;replace D:=kf D hb;clear hb hbox hg;have ei:=aq.out;have ej:=ap.out;obtain⟨_,_,_,_,_,_,_,_⟩:=bc4 U;obtain⟨cl,cm,rfl⟩:=Kd.R_slice X.out;obtain⟨cn,co,rfl⟩:=Kd.R_slice Y.out;obtain⟨cp,cq,rfl⟩:=Kd.R_slice J.out))
  generalize hW_:((((ed.setCell ⟨aa,0,none⟩ (.int .i64 ay)).setCell ⟨aa,1,none⟩ (.slice cl az.length cm)).setCell ⟨aa,2,none⟩ (.slice cn ba.length co)).setCell ⟨aa,3,none⟩ (.slice cp al.length cq))=cr;replace Z:Aside0 (Kd.R k94 94 cr w.heap.size (fun _=>True) b0 am):=⟨by rw[←hW_];exact RX (Rt Z.out U) (fun _ hk=>trivial)⟩;replace X:=R1 hW_ X U;replace Y:=R1 hW_ Y U;replace J:=R1 hW_ J U;replace D:=BE hW_ D;replace U:Aside0 (cr.heap[aa]?=some (.cells #[.int .i64 ay,.slice cl az.length cm,.slice cn ba.length co,.slice cp al.length cq] 43 (0,0))):=BP hW_ U;replace HB:=BL hW_ HB;(try clear hW_);replace Z:=ak (Kd.R_drew Z.out);replace X:=ak (Kd.R_drew X.out);replace Y:=ak (Kd.R_drew Y.out);replace J:=ak (Kd.R_drew J.out);replace D:=ak (blk_drew D.out);replace U:=ak (blk_drew U.out);replace HB:=ak (below_drew1 HB.out);obtain⟨dt,du,ct⟩:=Kd.R_slice Z.out;(first|subst ct|(injection ct with f1_ f2_ f3_;have f4_:=f1_.symm;have f5_:=f3_.symm;clear f1_ f2_ f3_;subst f4_;subst f5_));refine start_ (n:=15) (S:=fun w'=>True) (ds:=[]) b31_28 KR rfl rfl trivial (fun hHeld=>?_);refine with_tabW impl_IsFaithful.tab2 impl_IsFaithful.bits2 (fun HT_ HW_=>?_)
  generalize cr.drew=ex at Z X Y J D U HB hHeld ⊢
  refine pu_ (i:=0) (N:=some 13) b31_27 HT_ ?_;refine pu_ (i:=1) (N:=some 14) b31_26 HT_ ?_;refine one_ (i:=2) (N:=some 15) b31_25 rfl rfl (one_of HT_.out KR) (by decide) (fun K hK=>?_);refine goes_ Tryz.func23 KR rfl #[.slice A0 l0.length c0,.slice dt am.length du] (by rfl) rfl rfl AR ?_
  with_reducible refine(impl_Replay.calls k _ _ l0 _ _ am ao b8 b9 ca cb cd _ ?side1 ?side2 ?side3 ?side4 A4.out).mono ?_
  (case side1=>exact Cq bd);(case side2=>exact bf.out);(case side3=>exact CR (rr Z));(case side4=>exact rl Z);rintro e ey ⟨cx,cy,cz,rfl,ho0,ho1,ho2,hb⟩;refine⟨_,rfl,?_⟩;replace Z:=Rb Z hb;have ae:=Rn3 ho0 HB X Y J;have af:=Rn3 ho1 HB X Y J;have ag:=Rn3 ho2 HB X Y J;replace X:=Ro3 (W1:=w) (W2:=w) (W3:=w) (base1:=0) (base2:=0) (base3:=0) X hb ho0 ho1 ho2;replace Y:=Ro3 (W1:=w) (W2:=w) (W3:=w) (base1:=0) (base2:=0) (base3:=0) Y hb ho0 ho1 ho2;replace J:=Ro3 (W1:=w) (W2:=w) (W3:=w) (base1:=0) (base2:=0) (base3:=0) J hb ho0 ho1 ho2;replace D:=kf D hb;replace U:=kf U hb;replace HB:=bs HB hb;(try clear hb);(try clear hb2);(try clear hk);(try clear hi);(try clear ho0);(try clear ho1);(try clear ho2);refine hK.out _ _ trivial (fun hHeld=>?_);clear hK K;refine nq_ (N:=(some 15)) ?_
  refine pu_ (i:=3) (N:=some 16) b31_24 HT_ ?_;refine pu_ (i:=4) (N:=some 17) b31_23 HT_ ?_;refine pu_ (i:=5) (N:=some 18) b31_22 HT_ ?_;refine un_ (i:=6) (N:=some 19) b31_21 HT_ ?_;refine un_ (i:=7) (N:=some 20) b31_20 HT_ ?_;refine un_ (i:=8) (N:=some 21) #[true,true,true,true,true,true,true,true,true,false,false,false,false,false,false] HT_ ?_;refine un_ (i:=9) (N:=some 22) #[true,true,true,true,true,true,true,true,true,true,false,false,false,false,false] HT_ ?_;refine un_ (i:=10) (N:=some 23) b31_15 HT_ ?_;refine un_ (i:=11) (N:=some 24) b31_14 HT_ ?_;refine un_ (i:=12) (N:=some 25) b31_13 HT_ ?_;refine pu_ (i:=13) (N:=some 26) b31_12 HT_ ?_;refine pu_ (i:=14) (N:=some 4) b31_11 HT_ ?_;refine done_ (done_of HT_.out KR) ?_
  try go_wp2
  go_ret
  exact⟨RT,PB⟩
def laws_eqOp.f (D:Int)(J:Int)(U:Int)(X:Int)(Y:Int)(Z:Int)(aa:Int)(ab:Int):Option (Bool):=if D=Y then(if J=Z then(if U=aa then(if X=ab then(some true) else(some false)) else(some false)) else(some false)) else(some false)
theorem laws_eqOp.calls (D:Int)(J:Int)(U:Int)(X:Int)(Y:Int)(Z:Int)(aa:Int)(ab:Int)(r:Bool)(w:World)(hT_:r=true)(h:laws_eqOp.f D J U X Y Z aa ab=some r) :
  Calls Tryz.prog 28 #[.agg #[.int .i64 D,.int .i64 J,.int .i64 U,.int .i64 X],.agg #[.int .i64 Y,.int .i64 Z,.int .i64 aa,.int .i64 ab]] w fun e w'=>e = .returned (.bool r)∧Below w.heap.size w w':=by
 have bk:=Tryz.underlying54;have HB:=ak (Below.refl w.heap.size w);have H:=h;clear h;unfold laws_eqOp.f at H
 by_cases c3:D=Y
 ·rw[if_pos c3] at H;have am:(D == Y)=true:=beq_iff_eq.mpr c3;have ao:(D != Y)=false:=bne_eq_false_iff_eq.mpr c3;clear c3
  by_cases c4:J=Z
  ·rw[if_pos c4] at H;have ap:(J == Z)=true:=beq_iff_eq.mpr c4;have aq:(J != Z)=false:=bne_eq_false_iff_eq.mpr c4;clear c4
   by_cases c5:U=aa
   ·rw[if_pos c5] at H;have ar:(U == aa)=true:=beq_iff_eq.mpr c5;have au:(U != aa)=false:=bne_eq_false_iff_eq.mpr c5;clear c5
    by_cases c6:X=ab
    ·rw[if_pos c6] at H;have av:(X == ab)=true:=beq_iff_eq.mpr c6;have aw:(X != ab)=false:=bne_eq_false_iff_eq.mpr c6;clear c6;obtain rfl:=Option.some.inj H;go_enter Tryz.func28,Tryz.ntmps28;go_wp2_with (first|((with_reducible refine gate_dst (N:=2) rfl ?_);refine bx_ (N:=2) #[.int .i64 D,.int .i64 J,.int .i64 U,.int .i64 X] 54 ?_;intro bg hg w7 hbox hb;have ac:=ak hbox;have bh:=gy hg HB;replace HB:=bs HB hb;clear hb hbox hg)|((with_reducible refine gate_dst (N:=3) rfl ?_);refine bx_ (N:=3) #[.int .i64 Y,.int .i64 Z,.int .i64 aa,.int .i64 ab] 54 ?_;intro bi hg w8 hbox hb;have al:=ak hbox;have bj:=gy hg HB;replace HB:=bs HB hb;have ae:=gm hg ac;have af:=gn hg ac;replace ac:=kf ac hb;clear hb hbox hg;have bl:=ae.out;have bm:=af.out;obtain⟨ax,ay,az,ba,bb,bc,bd,bf⟩:=bc4 ac;obtain⟨_,_,_,_,_,_,_,_⟩:=bc4 al))
     go_ret
     exact⟨RT,PB⟩
    ·rw[if_neg c6] at H;have av:(X == ab)=false:=beq_eq_false_iff_ne.mpr c6;have aw:(X != ab)=true:=bne_iff_ne.mpr c6
     cases (Option.some.inj H).trans hT_
   ·rw[if_neg c5] at H;have ar:(U == aa)=false:=beq_eq_false_iff_ne.mpr c5;have au:(U != aa)=true:=bne_iff_ne.mpr c5
    cases (Option.some.inj H).trans hT_
  ·rw[if_neg c4] at H;have ap:(J == Z)=false:=beq_eq_false_iff_ne.mpr c4;have aq:(J != Z)=true:=bne_iff_ne.mpr c4
   cases (Option.some.inj H).trans hT_
 ·rw[if_neg c3] at H;have am:(D == Y)=false:=beq_eq_false_iff_ne.mpr c3;have ao:(D != Y)=true:=bne_iff_ne.mpr c3
  cases (Option.some.inj H).trans hT_
def laws_eqOpS.l0:Nat→List (S54)→List (S54)→Int→Option (Bool)
  | 0,_,_,_=>none
  | k+1,J,U,D=>if D < (J.length:Int) then(if 0≤D then(if D < (U.length:Int) then((laws_eqOp.f ((rd_T54 J D).f0) ((rd_T54 J D).f1) ((rd_T54 J D).f2) ((rd_T54 J D).f3) ((rd_T54 U D).f0) ((rd_T54 U D).f1) ((rd_T54 U D).f2) ((rd_T54 U D).f3)).bind fun X=>(if X=true then(laws_eqOpS.l0 k J U (wrap64 (D+1))) else(some false))) else(none)) else(none)) else(some true)
def laws_eqOpS.f (k:Nat)(D:List (S54))(J:List (S54)):Option (Bool):=if (D.length:Int)=(J.length:Int) then(laws_eqOpS.l0 k D J 0) else(some false)
def laws_eqOpS.T6:Bool×List (List Nat×List Nat):=(true,[([],[]),([],[]),([0,1],[0,1]),([2],[2]),([],[]),([],[]),([4,5],[4,5]),([6],[6]),([3,7],[3,7]),([8],[8])])
def laws_eqOpS.B6:List Nat:=[0,0,3,7,0,0,48,112,255,511]
theorem laws_eqOpS.tab6:rtab .any (opsOf Tryz.f10 6)=laws_eqOpS.T6:=by kernel_rfl
theorem laws_eqOpS.bits6:waitsOk laws_eqOpS.T6.2 laws_eqOpS.B6=true:=by kernel_rfl
theorem laws_eqOpS.calls (k:Nat)(A0:Option Addr)(c0:Nat)(J:List (S54))(A1:Option Addr)(c1:Nat)(U:List (S54))(r:Bool)(w:World)(bb:Kd.C k54 w A0 J.length J)(bc:J.length≤c0)(bd:Kd.C k54 w A1 U.length U)(bf:U.length≤c1)(hT_:r=true)(h:laws_eqOpS.f k J U=some r) :
  Calls Tryz.prog 10 #[.slice A0 J.length c0,.slice A1 U.length c1] w fun e w'=>e = .returned (.bool r)∧Below w.heap.size w w':=by
 have br:=Tryz.underlying54;have bo:=ak bb;have bz:=ak bc;clear bb bc;have bp:=ak bd;have b0:=ak bf;clear bd bf;have HB:=ak (Below.refl w.heap.size w);have H:=h;clear h;unfold laws_eqOpS.f at H
 by_cases c3:(J.length:Int)=(U.length:Int)
 ·rw[if_pos c3] at H;have aq:((J.length:Int) == (U.length:Int))=true:=beq_iff_eq.mpr c3;have ar:((J.length:Int) != (U.length:Int))=false:=bne_eq_false_iff_eq.mpr c3
  have au:(J.length == U.length)=true:=by first|simpa using c3|(simp at c3 ⊢;omega)
  clear c3;have H':=ak H;clear H;go_enter Tryz.func10,Tryz.ntmps10;go_wp2
  go_loopg [5] k (fun kq v5 w'=>∃(D:Int),v5 = .int .i64 D∧Aside0 (laws_eqOpS.l0 kq J U D=some r)∧Aside0 (kq≤k)∧Aside0 (Below w.heap.size w w'))
  case atStart=>exact⟨(0),FR,H',⟨Nat.le_refl _⟩,⟨PB⟩⟩
  case round =>
   clear H';(try clear c1);(try clear p2);(try clear c3);(try clear aq);(try clear ar);(try clear au);obtain⟨D,rfl,HA,bg,HB⟩:=hrel
   cases gk with
   | zero=>exact absurd HA.out (by simp[laws_eqOpS.l0])
   | succ k1 =>
    have H:=HA.out;clear HA;simp only[laws_eqOpS.l0] at H
    by_cases c4:D < (J.length:Int)
    ·rw[if_pos c4] at H;have bj:decide (D < (J.length:Int))=true:=decide_eq_true c4;clear c4
     by_cases c5:0≤D
     ·rw[if_pos c5] at H;have bv:decide (0≤D)=true:=decide_eq_true c5;clear c5
      by_cases c6:D < (U.length:Int)
      ·rw[if_pos c6] at H;have bw:decide (D < (U.length:Int))=true:=decide_eq_true c6;clear c6;replace H:=Option.bind_eq_some_iff.mp H;obtain⟨ax,bh,H⟩:=H;(try dsimp only at H);have A7:=ak bh;clear bh
       by_cases c8:ax=true
       ·subst c8;rw[if_pos rfl] at H;have H':=ak H;clear H
        try go_wp2
        replace HB:=ak (below_drew1 HB.out);have aj:0≤(D:Int):=od;have al:D < (J.length:Int):=od;obtain⟨X,az,Z,aa,ab,ac⟩:=at_T54 bo.out D aj al;have hw1025_3:=ac;have hw1025_2:=ab;have hw1025_1:=aa;have hw1025_0:=Z;cases az;replace Z:=hx_ HB Z;replace aa:=hx_ HB aa;replace ab:=hx_ HB ab;replace ac:=hx_ HB ac;replace aj:=eq_true aj;replace al:=eq_true al;have am:0≤(D:Int):=od;have ao:D < (U.length:Int):=od;obtain⟨Y,ba,ae,af,ag,ah⟩:=at_T54 bp.out D am ao;have hw1026_3:=ah;have hw1026_2:=ag;have hw1026_1:=af;have hw1026_0:=ae;cases ba;replace ae:=hx_ HB ae;replace af:=hx_ HB af;replace ag:=hx_ HB ag;replace ah:=hx_ HB ah;replace am:=eq_true am;replace ao:=eq_true ao;refine start_ (n:=10) (S:=fun w'=>w'.cell? (X.add ((D).toNat * 4))=some (.int .i64 ((rd_T54 J D).f0))∧w'.cell? ⟨(X.add ((D).toNat * 4)).block,(X.add ((D).toNat * 4)).off+1,none⟩=some (.int .i64 ((rd_T54 J D).f1))∧w'.cell? ⟨(X.add ((D).toNat * 4)).block,(X.add ((D).toNat * 4)).off+2,none⟩=some (.int .i64 ((rd_T54 J D).f2))∧w'.cell? ⟨(X.add ((D).toNat * 4)).block,(X.add ((D).toNat * 4)).off+3,none⟩=some (.int .i64 ((rd_T54 J D).f3))∧w'.cell? (Y.add ((D).toNat * 4))=some (.int .i64 ((rd_T54 U D).f0))∧w'.cell? ⟨(Y.add ((D).toNat * 4)).block,(Y.add ((D).toNat * 4)).off+1,none⟩=some (.int .i64 ((rd_T54 U D).f1))∧w'.cell? ⟨(Y.add ((D).toNat * 4)).block,(Y.add ((D).toNat * 4)).off+2,none⟩=some (.int .i64 ((rd_T54 U D).f2))∧w'.cell? ⟨(Y.add ((D).toNat * 4)).block,(Y.add ((D).toNat * 4)).off+3,none⟩=some (.int .i64 ((rd_T54 U D).f3))) (ds:=[]) #[false,false,false,false,false,false,false,false,false,false] KR rfl rfl ⟨((HB.out.cell (World.block_lt_of_cell? w _ hw1025_0)).trans hw1025_0),((HB.out.cell (World.block_lt_of_cell? w _ hw1025_1)).trans hw1025_1),((HB.out.cell (World.block_lt_of_cell? w _ hw1025_2)).trans hw1025_2),((HB.out.cell (World.block_lt_of_cell? w _ hw1025_3)).trans hw1025_3),((HB.out.cell (World.block_lt_of_cell? w _ hw1026_0)).trans hw1026_0),((HB.out.cell (World.block_lt_of_cell? w _ hw1026_1)).trans hw1026_1),((HB.out.cell (World.block_lt_of_cell? w _ hw1026_2)).trans hw1026_2),((HB.out.cell (World.block_lt_of_cell? w _ hw1026_3)).trans hw1026_3)⟩ (fun hHeld=>?_);refine with_tabW laws_eqOpS.tab6 laws_eqOpS.bits6 (fun HT_ HW_=>?_)
        generalize wr.drew=w9 at HB Z aa ab ac ae af ag ah hHeld ⊢
        refine pu_ (i:=0) (N:=some 17) #[true,false,false,false,false,false,false,false,false,false] HT_ ?_;refine pu_ (i:=1) (N:=some 18) #[true,true,false,false,false,false,false,false,false,false] HT_ ?_;refine pu_ (i:=2) (N:=some 19) #[true,true,true,false,false,false,false,false,false,false] HT_ ?_;refine pu_ (i:=4) (N:=some 21) #[true,true,true,false,true,false,false,false,false,false] HT_ ?_;refine pu_ (i:=5) (N:=some 22) #[true,true,true,false,true,true,false,false,false,false] HT_ ?_;refine pu_ (i:=6) (N:=some 23) #[true,true,true,false,true,true,true,false,false,false] HT_ ?_;refine tk_ (i:=3) (N:=some 20) #[true,true,true,true,true,true,true,false,false,false] rfl rfl HT_ HW_ hHeld ?_;refine tq_ (i:=7) (N:=some 24) #[true,true,true,true,true,true,true,true,false,false] rfl rfl (take_ofW HT_.out HW_.out KR) hHeld ?_
        refine one_ (i:=8) (N:=some 25) #[true,true,true,true,true,true,true,true,true,false] rfl rfl (one_of HT_.out KR) (by decide) (fun K hK=>?_);refine goes_ Tryz.func28 KR rfl #[.agg #[.int .i64 ((rd_T54 J D).f0),.int .i64 ((rd_T54 J D).f1),.int .i64 ((rd_T54 J D).f2),.int .i64 ((rd_T54 J D).f3)],.agg #[.int .i64 ((rd_T54 U D).f0),.int .i64 ((rd_T54 U D).f1),.int .i64 ((rd_T54 U D).f2),.int .i64 ((rd_T54 U D).f3)]] (by rfl) rfl rfl AR ?_
        with_reducible refine(laws_eqOp.calls ((rd_T54 J D).f0) ((rd_T54 J D).f1) ((rd_T54 J D).f2) ((rd_T54 J D).f3) ((rd_T54 U D).f0) ((rd_T54 U D).f1) ((rd_T54 U D).f2) ((rd_T54 U D).f3) true _ rfl A7.out).mono ?_
        rintro e b4 ⟨rfl,hb⟩;refine⟨_,rfl,?_⟩;replace HB:=bs HB hb;(try clear hb);(try clear hb2);(try clear hk);(try clear hi);refine hK.out _ _ ⟨((HB.out.cell (World.block_lt_of_cell? w _ hw1025_0)).trans hw1025_0),((HB.out.cell (World.block_lt_of_cell? w _ hw1025_1)).trans hw1025_1),((HB.out.cell (World.block_lt_of_cell? w _ hw1025_2)).trans hw1025_2),((HB.out.cell (World.block_lt_of_cell? w _ hw1025_3)).trans hw1025_3),((HB.out.cell (World.block_lt_of_cell? w _ hw1026_0)).trans hw1026_0),((HB.out.cell (World.block_lt_of_cell? w _ hw1026_1)).trans hw1026_1),((HB.out.cell (World.block_lt_of_cell? w _ hw1026_2)).trans hw1026_2),((HB.out.cell (World.block_lt_of_cell? w _ hw1026_3)).trans hw1026_3)⟩ (fun hHeld=>?_);clear hK K;refine nq_ (N:=(some 25)) ?_
        refine pu_ (i:=9) (N:=some 26) #[true,true,true,true,true,true,true,true,true,true] HT_ ?_;refine done_ (done_of HT_.out KR) ?_
        try go_wp2
        go_roundg k1
        case measure=>have:=bg.out;omega
        case rel=>exact⟨(wrap64 (D+1)),FR,H',⟨by have:=bg.out;omega⟩,⟨PB⟩⟩
       ·replace c8:=Bool.eq_false_iff.mpr c8;subst c8;rw[if_neg (show ¬(false=true) by decide)] at H
        cases (Option.some.inj H).trans hT_
      ·rw[if_neg c6] at H;exact absurd H (by simp)
     ·rw[if_neg c5] at H;exact absurd H (by simp)
    ·rw[if_neg c4] at H;have bj:decide (D < (J.length:Int))=false:=decide_eq_false c4;clear c4;obtain rfl:=Option.some.inj H;go_wp2
     go_ret
     exact⟨RT,PB⟩
 ·rw[if_neg c3] at H;have aq:((J.length:Int) == (U.length:Int))=false:=beq_eq_false_iff_ne.mpr c3;have ar:((J.length:Int) != (U.length:Int))=true:=bne_iff_ne.mpr c3
  have au:(J.length == U.length)=false:=by first|simpa using c3|(simp at c3 ⊢;omega)
  cases (Option.some.inj H).trans hT_

def laws_eqAddress.f (D:Int)(J:Int)(U:Int)(X:Int)(Y:Int)(Z:Int):Option (Bool):=if D=X then(if J=Y then(if U=Z then(some true) else(some false)) else(some false)) else(some false)
theorem laws_eqAddress.calls (D:Int)(J:Int)(U:Int)(X:Int)(Y:Int)(Z:Int)(r:Bool)(w:World)(hT_:r=true)(h:laws_eqAddress.f D J U X Y Z=some r) :
  Calls Tryz.prog 64 #[.agg #[.int .i64 D,.int .i64 J,.int .i64 U],.agg #[.int .i64 X,.int .i64 Y,.int .i64 Z]] w fun e w'=>e = .returned (.bool r)∧Below w.heap.size w w':=by
 have aw:=Tryz.underlying76;have HB:=ak (Below.refl w.heap.size w);have H:=h;clear h;unfold laws_eqAddress.f at H
 by_cases c3:D=X
 ·rw[if_pos c3] at H;have ai:(D == X)=true:=beq_iff_eq.mpr c3;have aj:(D != X)=false:=bne_eq_false_iff_eq.mpr c3;clear c3
  by_cases c4:J=Y
  ·rw[if_pos c4] at H;have al:(J == Y)=true:=beq_iff_eq.mpr c4;have am:(J != Y)=false:=bne_eq_false_iff_eq.mpr c4;clear c4
   by_cases c5:U=Z
   ·rw[if_pos c5] at H;have ao:(U == Z)=true:=beq_iff_eq.mpr c5;have ap:(U != Z)=false:=bne_eq_false_iff_eq.mpr c5;clear c5;obtain rfl:=Option.some.inj H;go_enter Tryz.func64,Tryz.ntmps64;go_wp2_with (first|((with_reducible refine gate_dst (N:=2) rfl ?_);refine bx_ (N:=2) #[.int .i64 D,.int .i64 J,.int .i64 U] 76 ?_;intro aq hg w6 hbox hb;have aa:=ak hbox;have ar:=gy hg HB;replace HB:=bs HB hb;clear hb hbox hg)|((with_reducible refine gate_dst (N:=3) rfl ?_);refine bx_ (N:=3) #[.int .i64 X,.int .i64 Y,.int .i64 Z] 76 ?_;intro au hg w7 hbox hb;have ah:=ak hbox;have av:=gy hg HB;replace HB:=bs HB hb;have ab:=gm hg aa;have ac:=gn hg aa;replace aa:=kf aa hb;clear hb hbox hg;have ax:=ab.out;have ay:=ac.out;obtain⟨_,_,_,_,_,_⟩:=bc3 aa;obtain⟨_,_,_,_,_,_⟩:=bc3 ah))
    go_ret
    exact⟨RT,PB⟩
   ·rw[if_neg c5] at H;have ao:(U == Z)=false:=beq_eq_false_iff_ne.mpr c5;have ap:(U != Z)=true:=bne_iff_ne.mpr c5
    cases (Option.some.inj H).trans hT_
  ·rw[if_neg c4] at H;have al:(J == Y)=false:=beq_eq_false_iff_ne.mpr c4;have am:(J != Y)=true:=bne_iff_ne.mpr c4
   cases (Option.some.inj H).trans hT_
 ·rw[if_neg c3] at H;have ai:(D == X)=false:=beq_eq_false_iff_ne.mpr c3;have aj:(D != X)=true:=bne_iff_ne.mpr c3
  cases (Option.some.inj H).trans hT_
def laws_eqIntS.l0:Nat→List Int→List Int→Int→Option (Bool)
  | 0,_,_,_=>none
  | k+1,J,U,D=>if D < (J.length:Int) then(if 0≤D then(if D < (U.length:Int) then(if (rd J D)=(rd U D) then(laws_eqIntS.l0 k J U (wrap64 (D+1))) else(some false)) else(none)) else(none)) else(some true)
def laws_eqIntS.f (k:Nat)(D:List Int)(J:List Int):Option (Bool):=if (D.length:Int)=(J.length:Int) then(laws_eqIntS.l0 k D J 0) else(some false)
theorem laws_eqIntS.calls (k:Nat)(A0:Option Addr)(c0:Nat)(J:List Int)(A1:Option Addr)(c1:Nat)(U:List Int)(r:Bool)(w:World)(ao:Kd.C (Kd.int .i64) w A0 J.length J)(ap:J.length≤c0)(aq:Kd.C (Kd.int .i64) w A1 U.length U)(ar:U.length≤c1)(hT_:r=true)(h:laws_eqIntS.f k J U=some r) :
  Calls Tryz.prog 30 #[.slice A0 J.length c0,.slice A1 U.length c1] w fun e w'=>e = .returned (.bool r)∧Drawn0 w w':=by
 have bf:=ak ao;have bm:=ak ap;clear ao ap;have bg:=ak aq;have bo:=ak ar;clear aq ar;have H:=h;clear h;unfold laws_eqIntS.f at H
 by_cases X:(J.length:Int)=(U.length:Int)
 ·rw[if_pos X] at H;have af:((J.length:Int) == (U.length:Int))=true:=beq_iff_eq.mpr X;have ag:((J.length:Int) != (U.length:Int))=false:=bne_eq_false_iff_eq.mpr X
  have ah:(J.length == U.length)=true:=by first|simpa using X|(simp at X ⊢;omega)
  clear X;have H':=ak H;clear H;go_enter Tryz.func30,Tryz.ntmps30;go_wp2
  repeat(go_quiet (fail);try go_wp2)
  go_loopg [5] k (fun kq v5 w'=>∃(D:Int),v5 = .int .i64 D∧Aside0 (laws_eqIntS.l0 kq J U D=some r)∧Aside0 (kq≤k)∧Drawn0 w w')
  case atStart=>exact⟨(0),FR,H',⟨Nat.le_refl _⟩,by repeat(first|exact Drawn0.refl _ | apply Drawn0.step)⟩
  case round =>
   clear H';(try clear c1);(try clear p2);(try clear X);(try clear af);(try clear ag);(try clear ah);obtain⟨D,rfl,HA,au,⟨m1,rfl⟩⟩:=hrel
   cases gk with
   | zero=>exact absurd HA.out (by simp[laws_eqIntS.l0])
   | succ k1 =>
    have H:=HA.out;clear HA;simp only[laws_eqIntS.l0] at H
    by_cases c4:D < (J.length:Int)
    ·rw[if_pos c4] at H;have aw:decide (D < (J.length:Int))=true:=decide_eq_true c4;clear c4
     by_cases c5:0≤D
     ·rw[if_pos c5] at H;have bk:decide (0≤D)=true:=decide_eq_true c5;clear c5
      by_cases c6:D < (U.length:Int)
      ·rw[if_pos c6] at H;have bl:decide (D < (U.length:Int))=true:=decide_eq_true c6;clear c6
       by_cases c7:(rd J D)=(rd U D)
       ·rw[if_pos c7] at H;have ax:((rd J D) == (rd U D))=true:=beq_iff_eq.mpr c7;have ay:((rd J D) != (rd U D))=false:=bne_eq_false_iff_eq.mpr c7;clear c7;have H':=ak H;clear H;have Y:0≤(D:Int):=od;have Z:D < (J.length:Int):=od;obtain⟨bh,al,az⟩:=Kd.at_int bf.out D Y Z;cases al;replace Y:=eq_true Y;replace Z:=eq_true Z;have aa:0≤(D:Int):=od;have ab:D < (U.length:Int):=od;obtain⟨bi,am,ba⟩:=Kd.at_int bg.out D aa ab;cases am;replace aa:=eq_true aa;replace ab:=eq_true ab;go_wp2
        repeat(go_quiet (fail);try go_wp2)
        go_roundg k1
        case measure=>have:=au.out;omega
        case rel=>exact⟨(wrap64 (D+1)),FR,H',⟨by have:=au.out;omega⟩,by repeat(first|exact Drawn0.refl _ | apply Drawn0.step)⟩
       ·rw[if_neg c7] at H;have ax:((rd J D) == (rd U D))=false:=beq_eq_false_iff_ne.mpr c7;have ay:((rd J D) != (rd U D))=true:=bne_iff_ne.mpr c7
        cases (Option.some.inj H).trans hT_
      ·rw[if_neg c6] at H;exact absurd H (by simp)
     ·rw[if_neg c5] at H;exact absurd H (by simp)
    ·rw[if_neg c4] at H;have aw:decide (D < (J.length:Int))=false:=decide_eq_false c4;clear c4;obtain rfl:=Option.some.inj H;go_wp2
     repeat(go_quiet (fail);try go_wp2)
     go_ret
     exact⟨FR,by repeat(first|exact Drawn0.refl _ | apply Drawn0.step)⟩
 ·rw[if_neg X] at H;have af:((J.length:Int) == (U.length:Int))=false:=beq_eq_false_iff_ne.mpr X;have ag:((J.length:Int) != (U.length:Int))=true:=bne_iff_ne.mpr X
  have ah:(J.length == U.length)=false:=by first|simpa using X|(simp at X ⊢;omega)
  cases (Option.some.inj H).trans hT_
def laws_eqResource.f (k:Nat)(U:Int)(X:List Int)(Y:Int)(Z:Int)(aa:Int)(ab:Int)(ac:List Int)(ae:Int)(af:Int)(ag:Int):Option (Bool):=if U=ab then((laws_eqIntS.f k X ac).bind fun D=>(if D=true then((laws_eqAddress.f Y Z aa ae af ag).bind fun J=>(if J=true then(some true) else(some false))) else(some false))) else(some false)
theorem laws_eqResource.calls (k:Nat)(J:Int)(aj:Option Addr)(al:Nat)(U:List Int)(Z:Int)(aa:Int)(ab:Int)(X:Int)(am:Option Addr)(ao:Nat)(Y:List Int)(ac:Int)(ae:Int)(af:Int)(r:Bool)(w:World)(aq:Kd.C (Kd.int .i64) w aj U.length U)(ar:U.length≤al)(au:Kd.C (Kd.int .i64) w am Y.length Y)(av:Y.length≤ao)(hT_:r=true)(h:laws_eqResource.f k J U Z aa ab X Y ac ae af=some r) :
  Calls Tryz.prog 65 #[.agg #[.int .i64 J,.slice aj U.length al,.int .i64 Z,.int .i64 aa,.int .i64 ab],.agg #[.int .i64 X,.slice am Y.length ao,.int .i64 ac,.int .i64 ae,.int .i64 af]] w fun e w'=>e = .returned (.bool r)∧Below w.heap.size w w':=by
 have ci:=Tryz.underlying78;have cj:=Tryz.underlying76;have aw:=ak aq;have ax:=ak ar;clear aq ar;have ay:=ak au;have az:=ak av;clear au av;have HB:=ak (Below.refl w.heap.size w);have H:=h;clear h;unfold laws_eqResource.f at H
 by_cases c3:J=X
 ·rw[if_pos c3] at H;have bh:(J == X)=true:=beq_iff_eq.mpr c3;have bi:(J != X)=false:=bne_eq_false_iff_eq.mpr c3;clear c3;replace H:=Option.bind_eq_some_iff.mp H;obtain⟨ba,bf,H⟩:=H;(try dsimp only at H);have A4:=ak bf;clear bf
  by_cases c5:ba=true
  ·subst c5;rw[if_pos rfl] at H;replace H:=Option.bind_eq_some_iff.mp H;obtain⟨bc,bg,H⟩:=H;(try dsimp only at H);have A6:=ak bg;clear bg
   by_cases c7:bc=true
   ·subst c7;rw[if_pos rfl] at H;obtain rfl:=Option.some.inj H;go_enter Tryz.func65,Tryz.ntmps65;go_wp2_with (first|((with_reducible refine gate_dst (N:=2) rfl ?_);refine bx_ (N:=2) #[.int .i64 J,.slice aj U.length al,.int .i64 Z,.int .i64 aa,.int .i64 ab] 78 ?_;intro cb hg w8 hbox hb;have D:=ak hbox;have cd:=gy hg HB;replace HB:=bs HB hb;clear hb hbox hg)|((with_reducible refine gate_dst (N:=3) rfl ?_);refine bx_ (N:=3) #[.int .i64 X,.slice am Y.length ao,.int .i64 ac,.int .i64 ae,.int .i64 af] 78 ?_;intro ce hg w9 hbox hb;have ag:=ak hbox;have cf:=gy hg HB;replace HB:=bs HB hb;have ah:=gm hg D;have ai:=gn hg D;replace D:=kf D hb;clear hb hbox hg;have cg:=ah.out;have ch:=ai.out;obtain⟨bj,bk,bl,bm,bo,bp,br,bu,bv,bw⟩:=bc5 D;obtain⟨bx,bz,b0,b4,b5,b6,b7,b8,b9,ca⟩:=bc5 ag)|(go_at_call 30;(with_reducible refine(laws_eqIntS.calls k _ _ U _ _ Y true _ ?side1 ax.out ?side3 az.out rfl A4.out).mono ?_);(case side1=>exact Cq aw);(case side3=>exact Cq ay);rintro e w' ⟨rfl,⟨nd,rfl⟩⟩)|(go_at_call 64;(with_reducible refine(laws_eqAddress.calls Z aa ab ac ae af true _ rfl A6.out).mono ?_);rintro e cm ⟨rfl,hb⟩;replace D:=kf D hb;replace ag:=kf ag hb;replace HB:=bs HB hb;clear hb))
    go_ret
    exact⟨RT,PB⟩
   ·replace c7:=Bool.eq_false_iff.mpr c7;subst c7;rw[if_neg (show ¬(false=true) by decide)] at H
    cases (Option.some.inj H).trans hT_
  ·replace c5:=Bool.eq_false_iff.mpr c5;subst c5;rw[if_neg (show ¬(false=true) by decide)] at H
   cases (Option.some.inj H).trans hT_
 ·rw[if_neg c3] at H;have bh:(J == X)=false:=beq_eq_false_iff_ne.mpr c3;have bi:(J != X)=true:=bne_iff_ne.mpr c3
  cases (Option.some.inj H).trans hT_
def laws_eqVersion.f (k:Nat)(U:Int)(X:Int)(Y:Int)(Z:Int)(aa:Int)(ab:List Int)(ac:Int)(ae:Int)(af:Int)(ag:Int)(ah:Int)(ai:Int)(aj:Int)(al:Int)(am:List Int)(ao:Int)(ap:Int)(aq:Int):Option (Bool):=(laws_eqAddress.f U X Y ag ah ai).bind fun D=>(if D=true then(if Z=aj then((laws_eqResource.f k aa ab ac ae af al am ao ap aq).bind fun J=>(if J=true then(some true) else(some false))) else(some false)) else(some false))
theorem laws_eqVersion.calls (k:Nat)(aa:Int)(ab:Int)(ac:Int)(U:Int)(ae:Int)(av:Option Addr)(aw:Nat)(X:List Int)(af:Int)(ag:Int)(ah:Int)(ai:Int)(aj:Int)(al:Int)(Y:Int)(am:Int)(ax:Option Addr)(ay:Nat)(Z:List Int)(ao:Int)(ap:Int)(aq:Int)(r:Bool)(w:World)(ba:Kd.C (Kd.int .i64) w av X.length X)(bb:X.length≤aw)(bc:Kd.C (Kd.int .i64) w ax Z.length Z)(bd:Z.length≤ay)(hT_:r=true)(h:laws_eqVersion.f k aa ab ac U ae X af ag ah ai aj al Y am Z ao ap aq=some r) :
  Calls Tryz.prog 42 #[.agg #[.int .i64 aa,.int .i64 ab,.int .i64 ac,.int .i64 U,.int .i64 ae,.slice av X.length aw,.int .i64 af,.int .i64 ag,.int .i64 ah],.agg #[.int .i64 ai,.int .i64 aj,.int .i64 al,.int .i64 Y,.int .i64 am,.slice ax Z.length ay,.int .i64 ao,.int .i64 ap,.int .i64 aq]] w fun e w'=>e = .returned (.bool r)∧Below w.heap.size w w':=by
 have cz:=Tryz.underlying80;have da:=Tryz.underlying76;have db:=Tryz.underlying78;have bf:=ak ba;have bg:=ak bb;clear ba bb;have bh:=ak bc;have bi:=ak bd;clear bc bd;have HB:=ak (Below.refl w.heap.size w);have H:=h;clear h;unfold laws_eqVersion.f at H;replace H:=Option.bind_eq_some_iff.mp H;obtain⟨bj,bo,H⟩:=H;(try dsimp only at H);have A3:=ak bo;clear bo
 by_cases c4:bj=true
 ·subst c4;rw[if_pos rfl] at H
  by_cases c5:U=Y
  ·rw[if_pos c5] at H;have br:(U == Y)=true:=beq_iff_eq.mpr c5;have bu:(U != Y)=false:=bne_eq_false_iff_eq.mpr c5;clear c5;replace H:=Option.bind_eq_some_iff.mp H;obtain⟨bl,bp,H⟩:=H;(try dsimp only at H);have A6:=ak bp;clear bp
   by_cases c7:bl=true
   ·subst c7;rw[if_pos rfl] at H;obtain rfl:=Option.some.inj H;go_enter Tryz.func42,Tryz.ntmps42;go_wp2_with (first|((with_reducible refine gate_dst (N:=2) rfl ?_);refine bx_ (N:=2) #[.int .i64 aa,.int .i64 ab,.int .i64 ac,.int .i64 U,.int .i64 ae,.slice av X.length aw,.int .i64 af,.int .i64 ag,.int .i64 ah] 80 ?_;intro ct hg w8 hbox hb;have D:=ak hbox;have cu:=gy hg HB;replace HB:=bs HB hb;clear hb hbox hg)|((with_reducible refine gate_dst (N:=3) rfl ?_);refine bx_ (N:=3) #[.int .i64 ai,.int .i64 aj,.int .i64 al,.int .i64 Y,.int .i64 am,.slice ax Z.length ay,.int .i64 ao,.int .i64 ap,.int .i64 aq] 80 ?_;intro cv hg w9 hbox hb;have J:=ak hbox;have cw:=gy hg HB;replace HB:=bs HB hb;have ar:=gm hg D;have au:=gn hg D;replace D:=kf D hb;clear hb hbox hg;have cx:=ar.out;have cy:=au.out;obtain⟨bv,bw,bx,bz,b0,_,_,_,_,b4,b5,b6,b7,b8,_,_,_,_⟩:=bc9 D;obtain⟨b9,ca,cb,cd,ce,_,_,_,_,cf,cg,ch,ci,cj,_,_,_,_⟩:=bc9 J)|(go_at_call 64;(with_reducible refine(laws_eqAddress.calls aa ab ac ai aj al true _ rfl A3.out).mono ?_);rintro e df ⟨rfl,hb⟩;replace D:=kf D hb;replace J:=kf J hb;replace HB:=bs HB hb;clear hb;obtain⟨_,_,_,_,_,_,_,_,_,_,_,_,_,_,_,_,_,_⟩:=bc9 D;obtain⟨ck,cl,cm,cn,_,_,_,_,_,co,cp,cq,cr,_,_,_,_,_⟩:=bc9 J)|(go_at_call 65;(with_reducible refine(laws_eqResource.calls k ae _ _ X af ag ah am _ _ Z ao ap aq true _ ?side1 bg.out ?side3 bi.out rfl A6.out).mono ?_);(case side1=>exact Cq bf);(case side3=>exact Cq bh);rintro e dg ⟨rfl,hb⟩;replace D:=kf D hb;replace J:=kf J hb;replace HB:=bs HB hb;clear hb))
    go_ret
    exact⟨RT,PB⟩
   ·replace c7:=Bool.eq_false_iff.mpr c7;subst c7;rw[if_neg (show ¬(false=true) by decide)] at H
    cases (Option.some.inj H).trans hT_
  ·rw[if_neg c5] at H;have br:(U == Y)=false:=beq_eq_false_iff_ne.mpr c5;have bu:(U != Y)=true:=bne_iff_ne.mpr c5
   cases (Option.some.inj H).trans hT_
 ·replace c4:=Bool.eq_false_iff.mpr c4;subst c4;rw[if_neg (show ¬(false=true) by decide)] at H
  cases (Option.some.inj H).trans hT_
def laws_eqVersionS.l0:Nat→List (S80)→List (S80)→Int→Option (Bool)
  | 0,_,_,_=>none
  | k+1,J,U,D=>if D < (J.length:Int) then(if 0≤D then(if D < (U.length:Int) then((laws_eqVersion.f k ((rd_T80 J D).f0.f0) ((rd_T80 J D).f0.f1) ((rd_T80 J D).f0.f2) ((rd_T80 J D).f1) ((rd_T80 J D).f2.f0) ((rd_T80 J D).f2.f1) ((rd_T80 J D).f2.f2.f0) ((rd_T80 J D).f2.f2.f1) ((rd_T80 J D).f2.f2.f2) ((rd_T80 U D).f0.f0) ((rd_T80 U D).f0.f1) ((rd_T80 U D).f0.f2) ((rd_T80 U D).f1) ((rd_T80 U D).f2.f0) ((rd_T80 U D).f2.f1) ((rd_T80 U D).f2.f2.f0) ((rd_T80 U D).f2.f2.f1) ((rd_T80 U D).f2.f2.f2)).bind fun X=>(if X=true then(laws_eqVersionS.l0 k J U (wrap64 (D+1))) else(some false))) else(none)) else(none)) else(some true)
def laws_eqVersionS.f (k:Nat)(D:List (S80))(J:List (S80)):Option (Bool):=if (D.length:Int)=(J.length:Int) then(laws_eqVersionS.l0 k D J 0) else(some false)
def laws_eqVersionS.T6:Bool×List (List Nat×List Nat):=(true,[([],[]),([],[]),([0,1],[0,1]),([2],[2]),([],[]),([],[]),([4,5],[4,5]),([6],[6]),([3,7],[3,7]),([8],[8])])
def laws_eqVersionS.B6:List Nat:=[0,0,3,7,0,0,48,112,255,511]
theorem laws_eqVersionS.tab6:rtab .any (opsOf Tryz.f29 6)=laws_eqVersionS.T6:=by kernel_rfl
theorem laws_eqVersionS.bits6:waitsOk laws_eqVersionS.T6.2 laws_eqVersionS.B6=true:=by kernel_rfl
theorem laws_eqVersionS.calls (k:Nat)(A0:Option Addr)(c0:Nat)(X:List (S80))(A1:Option Addr)(c1:Nat)(Y:List (S80))(r:Bool)(w:World)(b6:Kd.C k80 w A0 X.length X)(b7:X.length≤c0)(b8:Kd.C k80 w A1 Y.length Y)(b9:Y.length≤c1)(hT_:r=true)(h:laws_eqVersionS.f k X Y=some r) :
  Calls Tryz.prog 29 #[.slice A0 X.length c0,.slice A1 Y.length c1] w fun e w'=>e = .returned (.bool r)∧Below w.heap.size w w':=by
 have ck:=Tryz.underlying80;have ci:=ak b6;have cp:=ak b7;clear b6 b7;have cj:=ak b8;have cq:=ak b9;clear b8 b9;have HB:=ak (Below.refl w.heap.size w);have H:=h;clear h;unfold laws_eqVersionS.f at H
 by_cases c3:(X.length:Int)=(Y.length:Int)
 ·rw[if_pos c3] at H;have br:((X.length:Int) == (Y.length:Int))=true:=beq_iff_eq.mpr c3;have bu:((X.length:Int) != (Y.length:Int))=false:=bne_eq_false_iff_eq.mpr c3
  have bv:(X.length == Y.length)=true:=by first|simpa using c3|(simp at c3 ⊢;omega)
  clear c3;have H':=ak H;clear H;go_enter Tryz.func29,Tryz.ntmps29;go_wp2
  go_loopg [5] k (fun kq v5 w'=>∃(D:Int),v5 = .int .i64 D∧Aside0 (laws_eqVersionS.l0 kq X Y D=some r)∧Aside0 (kq≤k)∧Aside0 (Below w.heap.size w w'))
  case atStart=>exact⟨(0),FR,H',⟨Nat.le_refl _⟩,⟨PB⟩⟩
  case round =>
   clear H';(try clear c1);(try clear c2);(try clear p2);(try clear c3);(try clear br);(try clear bu);(try clear bv);obtain⟨D,rfl,HA,ca,HB⟩:=hrel
   cases gk with
   | zero=>exact absurd HA.out (by simp[laws_eqVersionS.l0])
   | succ k1 =>
    have H:=HA.out;clear HA;simp only[laws_eqVersionS.l0] at H
    by_cases c4:D < (X.length:Int)
    ·rw[if_pos c4] at H;have ce:decide (D < (X.length:Int))=true:=decide_eq_true c4;clear c4
     by_cases c5:0≤D
     ·rw[if_pos c5] at H;have cm:decide (0≤D)=true:=decide_eq_true c5;clear c5
      by_cases c6:D < (Y.length:Int)
      ·rw[if_pos c6] at H;have cn:decide (D < (Y.length:Int))=true:=decide_eq_true c6;clear c6;replace H:=Option.bind_eq_some_iff.mp H;obtain⟨bz,cb,H⟩:=H;(try dsimp only at H);have A7:=ak cb;clear cb
       by_cases c8:bz=true
       ·subst c8;rw[if_pos rfl] at H;have H':=ak H;clear H
        try go_wp2
        replace HB:=ak (below_drew1 HB.out);have bi:0≤(D:Int):=od;have bj:D < (X.length:Int):=od;obtain⟨J,bd,bf,b4,Z,aa,ab,ac,ae,af,ag,ah,ai,ax,ay⟩:=at_T80 ci.out D bi bj;have hw1040_8:=ai;have hw1040_7:=ah;have hw1040_6:=ag;have hw1040_5:=af;have hw1040_4:=ae;have hw1040_3:=ac;have hw1040_2:=ab;have hw1040_1:=aa;have hw1040_0:=Z;cases b4;replace Z:=hx_ HB Z;replace aa:=hx_ HB aa;replace ab:=hx_ HB ab;replace ac:=hx_ HB ac;replace ae:=hx_ HB ae;replace af:=hx_ HB af;replace ag:=hx_ HB ag;replace ah:=hx_ HB ah;replace ai:=hx_ HB ai;have az:=ak ay;have bm:=ak ax;clear ay ax;replace bi:=eq_true bi;replace bj:=eq_true bj;have bk:0≤(D:Int):=od;have bl:D < (Y.length:Int):=od;obtain⟨U,bg,bh,b5,aj,al,am,ao,ap,aq,ar,au,av,ba,bb⟩:=at_T80 cj.out D bk bl;have hw1041_8:=av;have hw1041_7:=au;have hw1041_6:=ar;have hw1041_5:=aq;have hw1041_4:=ap;have hw1041_3:=ao;have hw1041_2:=am;have hw1041_1:=al;have hw1041_0:=aj;cases b5;replace aj:=hx_ HB aj;replace al:=hx_ HB al;replace am:=hx_ HB am;replace ao:=hx_ HB ao;replace ap:=hx_ HB ap;replace aq:=hx_ HB aq;replace ar:=hx_ HB ar;replace au:=hx_ HB au;replace av:=hx_ HB av;have bc:=ak bb;have bo:=ak ba;clear bb ba;replace bk:=eq_true bk;replace bl:=eq_true bl;refine start_ (n:=10) (S:=fun w'=>w'.cell? (J.add ((D).toNat * 9))=some (.int .i64 ((rd_T80 X D).f0.f0))∧w'.cell? ⟨(J.add ((D).toNat * 9)).block,(J.add ((D).toNat * 9)).off+1,none⟩=some (.int .i64 ((rd_T80 X D).f0.f1))∧w'.cell? ⟨(J.add ((D).toNat * 9)).block,(J.add ((D).toNat * 9)).off+2,none⟩=some (.int .i64 ((rd_T80 X D).f0.f2))∧w'.cell? ⟨(J.add ((D).toNat * 9)).block,(J.add ((D).toNat * 9)).off+3,none⟩=some (.int .i64 ((rd_T80 X D).f1))∧w'.cell? ⟨(J.add ((D).toNat * 9)).block,(J.add ((D).toNat * 9)).off+4,none⟩=some (.int .i64 ((rd_T80 X D).f2.f0))∧w'.cell? ⟨(J.add ((D).toNat * 9)).block,(J.add ((D).toNat * 9)).off+5,none⟩=some (.slice bd ((rd_T80 X D).f2.f1).length bf)∧w'.cell? ⟨(J.add ((D).toNat * 9)).block,(J.add ((D).toNat * 9)).off+6,none⟩=some (.int .i64 ((rd_T80 X D).f2.f2.f0))∧w'.cell? ⟨(J.add ((D).toNat * 9)).block,(J.add ((D).toNat * 9)).off+7,none⟩=some (.int .i64 ((rd_T80 X D).f2.f2.f1))∧w'.cell? ⟨(J.add ((D).toNat * 9)).block,(J.add ((D).toNat * 9)).off+8,none⟩=some (.int .i64 ((rd_T80 X D).f2.f2.f2))∧w'.cell? (U.add ((D).toNat * 9))=some (.int .i64 ((rd_T80 Y D).f0.f0))∧w'.cell? ⟨(U.add ((D).toNat * 9)).block,(U.add ((D).toNat * 9)).off+1,none⟩=some (.int .i64 ((rd_T80 Y D).f0.f1))∧w'.cell? ⟨(U.add ((D).toNat * 9)).block,(U.add ((D).toNat * 9)).off+2,none⟩=some (.int .i64 ((rd_T80 Y D).f0.f2))∧w'.cell? ⟨(U.add ((D).toNat * 9)).block,(U.add ((D).toNat * 9)).off+3,none⟩=some (.int .i64 ((rd_T80 Y D).f1))∧w'.cell? ⟨(U.add ((D).toNat * 9)).block,(U.add ((D).toNat * 9)).off+4,none⟩=some (.int .i64 ((rd_T80 Y D).f2.f0))∧w'.cell? ⟨(U.add ((D).toNat * 9)).block,(U.add ((D).toNat * 9)).off+5,none⟩=some (.slice bg ((rd_T80 Y D).f2.f1).length bh)∧w'.cell? ⟨(U.add ((D).toNat * 9)).block,(U.add ((D).toNat * 9)).off+6,none⟩=some (.int .i64 ((rd_T80 Y D).f2.f2.f0))∧w'.cell? ⟨(U.add ((D).toNat * 9)).block,(U.add ((D).toNat * 9)).off+7,none⟩=some (.int .i64 ((rd_T80 Y D).f2.f2.f1))∧w'.cell? ⟨(U.add ((D).toNat * 9)).block,(U.add ((D).toNat * 9)).off+8,none⟩=some (.int .i64 ((rd_T80 Y D).f2.f2.f2))) (ds:=[]) #[false,false,false,false,false,false,false,false,false,false] KR rfl rfl ⟨((HB.out.cell (World.block_lt_of_cell? w _ hw1040_0)).trans hw1040_0),((HB.out.cell (World.block_lt_of_cell? w _ hw1040_1)).trans hw1040_1),((HB.out.cell (World.block_lt_of_cell? w _ hw1040_2)).trans hw1040_2),((HB.out.cell (World.block_lt_of_cell? w _ hw1040_3)).trans hw1040_3),((HB.out.cell (World.block_lt_of_cell? w _ hw1040_4)).trans hw1040_4),((HB.out.cell (World.block_lt_of_cell? w _ hw1040_5)).trans hw1040_5),((HB.out.cell (World.block_lt_of_cell? w _ hw1040_6)).trans hw1040_6),((HB.out.cell (World.block_lt_of_cell? w _ hw1040_7)).trans hw1040_7),((HB.out.cell (World.block_lt_of_cell? w _ hw1040_8)).trans hw1040_8),((HB.out.cell (World.block_lt_of_cell? w _ hw1041_0)).trans hw1041_0),((HB.out.cell (World.block_lt_of_cell? w _ hw1041_1)).trans hw1041_1),((HB.out.cell (World.block_lt_of_cell? w _ hw1041_2)).trans hw1041_2),((HB.out.cell (World.block_lt_of_cell? w _ hw1041_3)).trans hw1041_3),((HB.out.cell (World.block_lt_of_cell? w _ hw1041_4)).trans hw1041_4),((HB.out.cell (World.block_lt_of_cell? w _ hw1041_5)).trans hw1041_5),((HB.out.cell (World.block_lt_of_cell? w _ hw1041_6)).trans hw1041_6),((HB.out.cell (World.block_lt_of_cell? w _ hw1041_7)).trans hw1041_7),((HB.out.cell (World.block_lt_of_cell? w _ hw1041_8)).trans hw1041_8)⟩ (fun hHeld=>?_);refine with_tabW laws_eqVersionS.tab6 laws_eqVersionS.bits6 (fun HT_ HW_=>?_)
        generalize wr.drew=w9 at HB az bc Z aa ab ac ae af ag ah ai aj al am ao ap aq ar au av hHeld ⊢
        refine pu_ (i:=0) (N:=some 17) #[true,false,false,false,false,false,false,false,false,false] HT_ ?_;refine pu_ (i:=1) (N:=some 18) #[true,true,false,false,false,false,false,false,false,false] HT_ ?_;refine pu_ (i:=2) (N:=some 19) #[true,true,true,false,false,false,false,false,false,false] HT_ ?_;refine pu_ (i:=4) (N:=some 21) #[true,true,true,false,true,false,false,false,false,false] HT_ ?_;refine pu_ (i:=5) (N:=some 22) #[true,true,true,false,true,true,false,false,false,false] HT_ ?_;refine pu_ (i:=6) (N:=some 23) #[true,true,true,false,true,true,true,false,false,false] HT_ ?_;refine tk_ (i:=3) (N:=some 20) #[true,true,true,true,true,true,true,false,false,false] rfl rfl HT_ HW_ hHeld ?_;refine tq_ (i:=7) (N:=some 24) #[true,true,true,true,true,true,true,true,false,false] rfl rfl (take_ofW HT_.out HW_.out KR) hHeld ?_
        refine one_ (i:=8) (N:=some 25) #[true,true,true,true,true,true,true,true,true,false] rfl rfl (one_of HT_.out KR) (by decide) (fun K hK=>?_);refine goes_ Tryz.func42 KR rfl #[.agg #[.int .i64 ((rd_T80 X D).f0.f0),.int .i64 ((rd_T80 X D).f0.f1),.int .i64 ((rd_T80 X D).f0.f2),.int .i64 ((rd_T80 X D).f1),.int .i64 ((rd_T80 X D).f2.f0),.slice bd ((rd_T80 X D).f2.f1).length bf,.int .i64 ((rd_T80 X D).f2.f2.f0),.int .i64 ((rd_T80 X D).f2.f2.f1),.int .i64 ((rd_T80 X D).f2.f2.f2)],.agg #[.int .i64 ((rd_T80 Y D).f0.f0),.int .i64 ((rd_T80 Y D).f0.f1),.int .i64 ((rd_T80 Y D).f0.f2),.int .i64 ((rd_T80 Y D).f1),.int .i64 ((rd_T80 Y D).f2.f0),.slice bg ((rd_T80 Y D).f2.f1).length bh,.int .i64 ((rd_T80 Y D).f2.f2.f0),.int .i64 ((rd_T80 Y D).f2.f2.f1),.int .i64 ((rd_T80 Y D).f2.f2.f2)]] (by rfl) rfl rfl AR ?_
        with_reducible refine(laws_eqVersion.calls k1 ((rd_T80 X D).f0.f0) ((rd_T80 X D).f0.f1) ((rd_T80 X D).f0.f2) ((rd_T80 X D).f1) ((rd_T80 X D).f2.f0) _ _ ((rd_T80 X D).f2.f1) ((rd_T80 X D).f2.f2.f0) ((rd_T80 X D).f2.f2.f1) ((rd_T80 X D).f2.f2.f2) ((rd_T80 Y D).f0.f0) ((rd_T80 Y D).f0.f1) ((rd_T80 Y D).f0.f2) ((rd_T80 Y D).f1) ((rd_T80 Y D).f2.f0) _ _ ((rd_T80 Y D).f2.f1) ((rd_T80 Y D).f2.f2.f0) ((rd_T80 Y D).f2.f2.f1) ((rd_T80 Y D).f2.f2.f2) true _ ?side1 ?side2 ?side3 ?side4 rfl A7.out).mono ?_
        (case side1=>exact Cq az);(case side2=>exact bm.out);(case side3=>exact Cq bc);(case side4=>exact bo.out);rintro e cr ⟨rfl,hb⟩;refine⟨_,rfl,?_⟩;replace HB:=bs HB hb;(try clear hb);(try clear hb2);(try clear hk);(try clear hi);refine hK.out _ _ ⟨((HB.out.cell (World.block_lt_of_cell? w _ hw1040_0)).trans hw1040_0),((HB.out.cell (World.block_lt_of_cell? w _ hw1040_1)).trans hw1040_1),((HB.out.cell (World.block_lt_of_cell? w _ hw1040_2)).trans hw1040_2),((HB.out.cell (World.block_lt_of_cell? w _ hw1040_3)).trans hw1040_3),((HB.out.cell (World.block_lt_of_cell? w _ hw1040_4)).trans hw1040_4),((HB.out.cell (World.block_lt_of_cell? w _ hw1040_5)).trans hw1040_5),((HB.out.cell (World.block_lt_of_cell? w _ hw1040_6)).trans hw1040_6),((HB.out.cell (World.block_lt_of_cell? w _ hw1040_7)).trans hw1040_7),((HB.out.cell (World.block_lt_of_cell? w _ hw1040_8)).trans hw1040_8),((HB.out.cell (World.block_lt_of_cell? w _ hw1041_0)).trans hw1041_0),((HB.out.cell (World.block_lt_of_cell? w _ hw1041_1)).trans hw1041_1),((HB.out.cell (World.block_lt_of_cell? w _ hw1041_2)).trans hw1041_2),((HB.out.cell (World.block_lt_of_cell? w _ hw1041_3)).trans hw1041_3),((HB.out.cell (World.block_lt_of_cell? w _ hw1041_4)).trans hw1041_4),((HB.out.cell (World.block_lt_of_cell? w _ hw1041_5)).trans hw1041_5),((HB.out.cell (World.block_lt_of_cell? w _ hw1041_6)).trans hw1041_6),((HB.out.cell (World.block_lt_of_cell? w _ hw1041_7)).trans hw1041_7),((HB.out.cell (World.block_lt_of_cell? w _ hw1041_8)).trans hw1041_8)⟩ (fun hHeld=>?_);clear hK K;refine nq_ (N:=(some 25)) ?_
        refine pu_ (i:=9) (N:=some 26) #[true,true,true,true,true,true,true,true,true,true] HT_ ?_;refine done_ (done_of HT_.out KR) ?_
        try go_wp2
        go_roundg k1
        case measure=>have:=ca.out;omega
        case rel=>exact⟨(wrap64 (D+1)),FR,H',⟨by have:=ca.out;omega⟩,⟨PB⟩⟩
       ·replace c8:=Bool.eq_false_iff.mpr c8;subst c8;rw[if_neg (show ¬(false=true) by decide)] at H
        cases (Option.some.inj H).trans hT_
      ·rw[if_neg c6] at H;exact absurd H (by simp)
     ·rw[if_neg c5] at H;exact absurd H (by simp)
    ·rw[if_neg c4] at H;have ce:decide (D < (X.length:Int))=false:=decide_eq_false c4;clear c4;obtain rfl:=Option.some.inj H;go_wp2
     go_ret
     exact⟨RT,PB⟩
 ·rw[if_neg c3] at H;have br:((X.length:Int) == (Y.length:Int))=false:=beq_eq_false_iff_ne.mpr c3;have bu:((X.length:Int) != (Y.length:Int))=true:=bne_iff_ne.mpr c3
  have bv:(X.length == Y.length)=false:=by first|simpa using c3|(simp at c3 ⊢;omega)
  cases (Option.some.inj H).trans hT_
def laws_eqVisit.f (k:Nat)(U:List (S80))(X:Int)(Y:Int)(Z:List Int)(aa:List (S80))(ab:Int)(ac:Int)(ae:List Int):Option (Bool):=(laws_eqVersionS.f k U aa).bind fun D=>(if D=true then(if X=ab then(if Y=ac then((laws_eqIntS.f k Z ae).bind fun J=>(if J=true then(some true) else(some false))) else(some false)) else(some false)) else(some false))
theorem laws_eqVisit.calls (k:Nat)(ah:Option Addr)(ai:Nat)(J:List (S80))(U:Int)(X:Int)(aj:Option Addr)(al:Nat)(Y:List Int)(am:Option Addr)(ao:Nat)(Z:List (S80))(aa:Int)(ab:Int)(ap:Option Addr)(aq:Nat)(ac:List Int)(r:Bool)(w:World)(av:Kd.C k80 w ah J.length J)(aw:J.length≤ai)(ax:Kd.C (Kd.int .i64) w aj Y.length Y)(ay:Y.length≤al)(az:Kd.C k80 w am Z.length Z)(ba:Z.length≤ao)(bb:Kd.C (Kd.int .i64) w ap ac.length ac)(bc:ac.length≤aq)(hT_:r=true)(h:laws_eqVisit.f k J U X Y Z aa ab ac=some r) :
  Calls Tryz.prog 11 #[.agg #[.slice ah J.length ai,.int .i64 U,.int .i64 X,.slice aj Y.length al],.agg #[.slice am Z.length ao,.int .i64 aa,.int .i64 ab,.slice ap ac.length aq]] w fun e w'=>e = .returned (.bool r)∧Below w.heap.size w w':=by
 have cr:=Tryz.underlying34;have bd:=ak av;have bf:=ak aw;clear av aw;have bg:=ak ax;have bh:=ak ay;clear ax ay;have bi:=ak az;have bj:=ak ba;clear az ba;have bk:=ak bb;have bl:=ak bc;clear bb bc;have HB:=ak (Below.refl w.heap.size w);have H:=h;clear h;unfold laws_eqVisit.f at H;replace H:=Option.bind_eq_some_iff.mp H;obtain⟨bm,bu,H⟩:=H;(try dsimp only at H);have A3:=ak bu;clear bu
 by_cases c4:bm=true
 ·subst c4;rw[if_pos rfl] at H
  by_cases c5:U=aa
  ·rw[if_pos c5] at H;have bw:(U == aa)=true:=beq_iff_eq.mpr c5;have bx:(U != aa)=false:=bne_eq_false_iff_eq.mpr c5;clear c5
   by_cases c6:X=ab
   ·rw[if_pos c6] at H;have bz:(X == ab)=true:=beq_iff_eq.mpr c6;have b0:(X != ab)=false:=bne_eq_false_iff_eq.mpr c6;clear c6;replace H:=Option.bind_eq_some_iff.mp H;obtain⟨bp,bv,H⟩:=H;(try dsimp only at H);have A7:=ak bv;clear bv
    by_cases c8:bp=true
    ·subst c8;rw[if_pos rfl] at H;obtain rfl:=Option.some.inj H;go_enter Tryz.func11,Tryz.ntmps11;go_wp2_with (first|((with_reducible refine gate_dst (N:=2) rfl ?_);refine bx_ (N:=2) #[.slice ah J.length ai,.int .i64 U,.int .i64 X,.slice aj Y.length al] 34 ?_;intro cl hg w9 hbox hb;have D:=ak hbox;have cm:=gy hg HB;replace HB:=bs HB hb;clear hb hbox hg)|((with_reducible refine gate_dst (N:=3) rfl ?_);refine bx_ (N:=3) #[.slice am Z.length ao,.int .i64 aa,.int .i64 ab,.slice ap ac.length aq] 34 ?_;intro cn hg cv hbox hb;have ae:=ak hbox;have co:=gy hg HB;replace HB:=bs HB hb;have af:=gm hg D;have ag:=gn hg D;replace D:=kf D hb;clear hb hbox hg;have cp:=af.out;have cq:=ag.out;obtain⟨b4,b5,b6,b7,b8,b9,ca,cb⟩:=bc4 D;obtain⟨_,_,_,_,_,_,_,_⟩:=bc4 ae)|(go_at_call 29;(with_reducible refine(laws_eqVersionS.calls k _ _ J _ _ Z true _ ?side1 bf.out ?side3 bj.out rfl A3.out).mono ?_);(case side1=>exact Cq bd);(case side3=>exact Cq bi);rintro e cw ⟨rfl,hb⟩;replace D:=kf D hb;replace ae:=kf ae hb;replace HB:=bs HB hb;clear hb;obtain⟨cd,ce,cf,cg,ch,ci,cj,ck⟩:=bc4 D;obtain⟨_,_,_,_,_,_,_,_⟩:=bc4 ae)|(go_at_call 30;(with_reducible refine(laws_eqIntS.calls k _ _ Y _ _ ac true _ ?side1 bh.out ?side3 bl.out rfl A7.out).mono ?_);(case side1=>exact Cq bg);(case side3=>exact Cq bk);rintro e w' ⟨rfl,⟨nd,rfl⟩⟩))
     go_ret
     exact⟨RT,PB⟩
    ·replace c8:=Bool.eq_false_iff.mpr c8;subst c8;rw[if_neg (show ¬(false=true) by decide)] at H
     cases (Option.some.inj H).trans hT_
   ·rw[if_neg c6] at H;have bz:(X == ab)=false:=beq_eq_false_iff_ne.mpr c6;have b0:(X != ab)=true:=bne_iff_ne.mpr c6
    cases (Option.some.inj H).trans hT_
  ·rw[if_neg c5] at H;have bw:(U == aa)=false:=beq_eq_false_iff_ne.mpr c5;have bx:(U != aa)=true:=bne_iff_ne.mpr c5
   cases (Option.some.inj H).trans hT_
 ·replace c4:=Bool.eq_false_iff.mpr c4;subst c4;rw[if_neg (show ¬(false=true) by decide)] at H
  cases (Option.some.inj H).trans hT_

end Go.Proofs.YtgfplmagpljmpaaGreat.MFnExactIsFaithful
