/- Plain lemmas on the helpers of the law FnExactRecordVisit: sizes, copies, equality with itself, marks and what holds them. Written by a program of this session. -/
import Derived.Test.YtlkehcbhbflpoaaGreatGen
import Derived.Test.YtlkehcbhbflpoaaGreatMFnExactRecordVisitx0
import Derived.Test.YtlkehcbhbflpoaaGreatMFnExactRecordVisitx1
import Derived.Test.YtlkehcbhbflpoaaGreatMFnExactRecordVisitx2
import Derived.Test.YtlkehcbhbflpoaaGreatMFnExactRecordVisitx3
import Derived.Test.YtlkehcbhbflpoaaGreatMFnExactRecordVisitx4
import Derived.Test.YtlkehcbhbflpoaaGreatMFnExactRecordVisitx5
import Derived.Test.YtlkehcbhbflpoaaGreatMFnExactRecordVisitx6
import Derived.Test.YtlkehcbhbflpoaaGreatMFnExactRecordVisitx7
import Derived.Test.YtlkehcbhbflpoaaGreatMFnExactRecordVisitx8
import Derived.Test.YtlkehcbhbflpoaaGreatMFnExactRecordVisitx9
import Derived.Test.YtlkehcbhbflpoaaGreatMFnExactRecordVisitx10
import Derived.Test.YtlkehcbhbflpoaaGreatMFnExactRecordVisitx11
import Derived.Test.YtlkehcbhbflpoaaGreatMFnExactRecordVisitx90
namespace Go.Proofs.YtlkehcbhbflpoaaGreat.MFnExactRecordVisit
open Go.RowKit Go.Proofs.YtlkehcbhbflpoaaGreatW.PrintWords Go.Proofs.YtlkehcbhbflpoaaGreatW.PrintLast Go.Proofs.YtlkehcbhbflpoaaGreatW.PrintMore Go.Proofs.YtlkehcbhbflpoaaGreat.Gen
set_option linter.unusedVariables false
set_option linter.unusedSimpArgs false
theorem szIntS_some (l:List Int)(a:Int)(h:l.length≤maxLen)(h0:0≤a)(h1:a≤1048576):∃ r,laws_szIntS.f l a=some r∧r≤1048576∧(0≤r→l.length≤1048576):=by
  unfold maxLen at h
  unfold laws_szIntS.f
  rw[w64 (by omega) (by omega)]
  by_cases c:a - (l.length:Int) < 0
  · rw[if_pos c];exact⟨_,rfl,by omega,by omega⟩
  · rw[if_neg c];exact⟨_,rfl,by omega,by omega⟩
theorem toIntS_ev (l:List Int)(h:l.length≤1048576):Ev (fun k=>laws_toIntS.f k l) l:=by
  unfold laws_toIntS.f
  refine Ev.pos (by omega) ?_
  refine Ev.pos (by simp only[Int.toNat_natCast];omega) ?_
  simp only[Int.toNat_natCast]
  refine Ev.cast (ev_fill (fun k x i=>laws_toIntS.l0 k l x i) l 0 id 0 (fun k x=>by simp[laws_toIntS.l0]) ?_) (List.map_id l)
  intro i x r hi hx h
  refine Ev.round (fun _=>by rw[laws_toIntS.l0]) ?_
  refine Ev.pos (by omega) ?_
  refine Ev.pos (by omega) ?_
  refine Ev.pos (by omega) ?_
  have e1:wrap64 ((i:Int)+1)=((i+1:Nat):Int):=by rw[w64 (by omega) (by omega)];omega
  simp only[e1]
  exact h
theorem eqIntSb_refl (l:List Int)(h:l.length≤16777216):Ev (fun k=>laws_eqIntS.f k l l) true:=by
  unfold laws_eqIntS.f
  refine Ev.pos rfl ?_
  refine ev_down (fun k i=>laws_eqIntS.l0 k l l (i:Int)) l.length (fun _=>true) (Ev.round (fun _=>by rw[laws_eqIntS.l0]) (Ev.neg (by omega) (Ev.now _))) (fun i hi h=>?_)
  refine Ev.round (fun _=>by rw[laws_eqIntS.l0]) ?_
  refine Ev.pos (by omega) ?_
  refine Ev.pos (by omega) ?_
  refine Ev.pos (by omega) ?_
  refine Ev.pos rfl ?_
  have e1:wrap64 ((i:Int)+1)=((i+1:Nat):Int):=by rw[w64 (by omega) (by omega)];omega
  simp only[e1]
  exact h
theorem eqIntS_refl (l:List Int)(h:l.length≤1048576):Ev (fun k=>laws_eqIntS.f k l l) true:=eqIntSb_refl l (by omega)
theorem markIntSb_ev (l:List Int)(a:Int)(h:l.length≤16777216)(h0:0≤a)(h1:a≤1152921504606846976):Ev (fun k=>laws_markIntS.f k l a) (a+(l.length:Int),(List.range l.length).map fun j:Nat=>a+(j:Int)):=by
  unfold laws_markIntS.f
  have main:=ev_down (fun k i=>laws_markIntS.l0 k ((List.range i).map (fun j:Nat=>a+(j:Int))++l.drop i) (a+(i:Int)) (i:Int)) l.length (fun _=>(a+(l.length:Int),(List.range l.length).map fun j:Nat=>a+(j:Int)))
    (Ev.round (fun _=>by rw[laws_markIntS.l0]) (Ev.neg (by simp) (Ev.const fun _=>by simp)))
    (fun i hi h=>?_)
  · simpa using main
  refine Ev.round (fun _=>by rw[laws_markIntS.l0]) ?_
  refine Ev.pos (by simp;omega) ?_
  refine Ev.pos (by omega) ?_
  have e1:wrap64 ((i:Int)+1)=((i+1:Nat):Int):=by rw[w64 (by omega) (by omega)];omega
  have e2:wrap64 (a+(i:Int)+1)=a+((i+1:Nat):Int):=by rw[w64 (by omega) (by omega)];omega
  have e3:((List.range i).map (fun j:Nat=>a+(j:Int))++l.drop i).set i (a+(i:Int))=(List.range (i+1)).map (fun j:Nat=>a+(j:Int))++l.drop (i+1):=by
    rw[List.set_append_right _ _ (by simp),drop_cons l i hi 0,List.range_succ,List.map_append,List.append_assoc]
    simp
  simp only[e1,e2,Int.toNat_natCast,e3]
  exact h
theorem markIntS_ev (l:List Int)(a:Int)(h:l.length≤1048576)(h0:0≤a)(h1:a≤1152921504606846976):Ev (fun k=>laws_markIntS.f k l a) (a+(l.length:Int),(List.range l.length).map fun j:Nat=>a+(j:Int)):=markIntSb_ev l a (by omega) h0 h1
theorem heldIntSb_ev (n:Nat)(a:Int)(h:n≤16777216)(h0:0≤a)(h1:a≤1152921504606846976):Ev (fun k=>laws_heldIntS.f k ((List.range n).map fun j:Nat=>a+(j:Int)) a) (a+(n:Int)):=by
  unfold laws_heldIntS.f
  have main:=ev_down (fun k i=>laws_heldIntS.l0 k ((List.range n).map fun j:Nat=>a+(j:Int)) (a+(i:Int)) (i:Int)) n (fun _=>a+(n:Int))
    (Ev.round (fun _=>by rw[laws_heldIntS.l0]) (Ev.neg (by simp) (Ev.now _)))
    (fun i hi h=>?_)
  · simpa using main
  refine Ev.round (fun _=>by rw[laws_heldIntS.l0]) ?_
  refine Ev.pos (by simp;omega) ?_
  refine Ev.pos (by omega) ?_
  refine Ev.pos ?_ ?_
  · rw[rd_nat,getD_in _ _ (by simpa using hi)]
    simp
  have e1:wrap64 ((i:Int)+1)=((i+1:Nat):Int):=by rw[w64 (by omega) (by omega)];omega
  have e2:wrap64 (a+(i:Int)+1)=a+((i+1:Nat):Int):=by rw[w64 (by omega) (by omega)];omega
  simp only[e1,e2]
  exact h
theorem heldIntS_ev (n:Nat)(a:Int)(h:n≤1048576)(h0:0≤a)(h1:a≤1152921504606846976):Ev (fun k=>laws_heldIntS.f k ((List.range n).map fun j:Nat=>a+(j:Int)) a) (a+(n:Int)):=heldIntSb_ev n a (by omega) h0 h1
def FitlawsVersion (y:S76):Prop:=y.f2.f1.length≤1048576
def cvVersion (y:S76):S89:=(⟨(⟨y.f0.f0,y.f0.f1,y.f0.f2⟩:S64),y.f1,(⟨y.f2.f0,y.f2.f1,(⟨y.f2.f2.f0,y.f2.f2.f1,y.f2.f2.f2⟩:S64)⟩:S87)⟩:S89)
def FitimplVersion (y:S89):Prop:=y.f2.f1.length≤1048576
def FitlawsOp (y:S58):Prop:=True
def cvOp (y:S58):S56:=(⟨y.f0,y.f1,y.f2,y.f3⟩:S56)
def FitimplOp (y:S56):Prop:=True
def FitimplEntry (y:S66):Prop:=True
theorem toAddress_eq (a0:Int)(a1:Int)(a2:Int):laws_toAddress.f a0 a1 a2=some (a0,a1,a2):=by
  simp[laws_toAddress.f]
theorem eqAddress_refl (a0:Int)(a1:Int)(a2:Int):laws_eqAddress.f a0 a1 a2 a0 a1 a2=some true:=by
  simp[laws_eqAddress.f]
theorem toResource_ev (a0:Int)(a1:List Int)(a2:Int)(a3:Int)(a4:Int)(ha1:a1.length≤1048576):Ev (fun k=>laws_toResource.f k a0 a1 a2 a3 a4) (a0,a1,a2,a3,a4):=by
  unfold laws_toResource.f
  refine Ev.bind (toIntS_ev a1 ha1) ?_
  refine Ev.now_bind (toAddress_eq a2 a3 a4) ?_
  exact Ev.now _
theorem eqResource_refl (a0:Int)(a1:List Int)(a2:Int)(a3:Int)(a4:Int)(ha1:a1.length≤1048576):Ev (fun k=>laws_eqResource.f k a0 a1 a2 a3 a4 a0 a1 a2 a3 a4) true:=by
  unfold laws_eqResource.f
  refine Ev.pos rfl ?_
  refine Ev.bind (eqIntS_refl a1 ha1) ?_
  refine Ev.pos rfl ?_
  refine Ev.now_bind (eqAddress_refl a2 a3 a4) ?_
  refine Ev.pos rfl ?_
  exact Ev.now _
theorem szResource_some (a0:Int)(a1:List Int)(a2:Int)(a3:Int)(a4:Int)(n:Int)(ma1:a1.length≤maxLen)(h0:0≤n)(h1:n≤1048576):∃ r,laws_szResource.f a0 a1 a2 a3 a4 n=some r∧r≤1048576∧(0≤r→a1.length≤1048576):=by
  unfold laws_szResource.f
  obtain⟨r0,e0,b0,g0⟩:=szIntS_some a1 n ma1 (by omega) (by omega)
  rw[e0]
  simp only[Option.bind_some]
  by_cases c0:r0 < 0
  · rw[if_pos c0];exact⟨_,rfl,by omega,fun h=>by omega⟩
  rw[if_neg c0]
  exact⟨_,rfl,by omega,fun _=>(g0 (by omega))⟩
theorem toVersion_ev (a0:Int)(a1:Int)(a2:Int)(a3:Int)(a4:Int)(a5:List Int)(a6:Int)(a7:Int)(a8:Int)(ha5:a5.length≤1048576):Ev (fun k=>laws_toVersion.f k a0 a1 a2 a3 a4 a5 a6 a7 a8) (a0,a1,a2,a3,a4,a5,a6,a7,a8):=by
  unfold laws_toVersion.f
  refine Ev.now_bind (toAddress_eq a0 a1 a2) ?_
  refine Ev.bind (toResource_ev a4 a5 a6 a7 a8 ha5) ?_
  exact Ev.now _
theorem eqVersion_refl (a0:Int)(a1:Int)(a2:Int)(a3:Int)(a4:Int)(a5:List Int)(a6:Int)(a7:Int)(a8:Int)(ha5:a5.length≤1048576):Ev (fun k=>laws_eqVersion.f k a0 a1 a2 a3 a4 a5 a6 a7 a8 a0 a1 a2 a3 a4 a5 a6 a7 a8) true:=by
  unfold laws_eqVersion.f
  refine Ev.now_bind (eqAddress_refl a0 a1 a2) ?_
  refine Ev.pos rfl ?_
  refine Ev.pos rfl ?_
  refine Ev.bind (eqResource_refl a4 a5 a6 a7 a8 ha5) ?_
  refine Ev.pos rfl ?_
  exact Ev.now _
theorem szVersion_some (a0:Int)(a1:Int)(a2:Int)(a3:Int)(a4:Int)(a5:List Int)(a6:Int)(a7:Int)(a8:Int)(n:Int)(ma5:a5.length≤maxLen)(h0:0≤n)(h1:n≤1048576):∃ r,laws_szVersion.f a0 a1 a2 a3 a4 a5 a6 a7 a8 n=some r∧r≤1048576∧(0≤r→a5.length≤1048576):=by
  unfold laws_szVersion.f
  obtain⟨r0,e0,b0,g0⟩:=szResource_some a4 a5 a6 a7 a8 n ma5 (by omega) (by omega)
  rw[e0]
  simp only[Option.bind_some]
  by_cases c0:r0 < 0
  · rw[if_pos c0];exact⟨_,rfl,by omega,fun h=>by omega⟩
  rw[if_neg c0]
  exact⟨_,rfl,by omega,fun _=>(g0 (by omega))⟩
def MaxVersion (y:S76):Prop:=y.f2.f1.length≤maxLen
theorem szVersionS_some (l:List S76)(a:Int)(h:l.length≤maxLen∧∀ y∈l,MaxVersion y)(h0:0≤a)(h1:a≤1048576):∃ r,Ev (fun k=>laws_szVersionS.f k l a) r∧r≤1048576∧(0≤r→l.length≤1048576∧∀ y∈l,FitlawsVersion y):=by
  obtain⟨h,hy⟩:=h
  unfold maxLen at h
  unfold laws_szVersionS.f
  rw[w64 (by omega) (by omega)]
  by_cases c:a - (l.length:Int) < 0
  · exact⟨-1,Ev.pos c (Ev.now _),by omega,fun h=>by omega⟩
  have key:∀ d i:Nat,i+d=l.length→∀ b:Int,0≤b→b≤1048576→∃ r,Ev (fun k=>laws_szVersionS.l0 k l b (i:Int)) r∧r≤1048576∧(0≤r→∀ y∈l.drop i,FitlawsVersion y):=by
    intro d
    induction d with
    | zero =>
      intro i hi b hb0 hb1
      obtain rfl:i=l.length:=by omega
      exact⟨b,Ev.round (fun _=>by rw[laws_szVersionS.l0]) (Ev.neg (by omega) (Ev.now _)),hb1,fun _=>by simp⟩
    | succ d ih =>
      intro i hi b hb0 hb1
      have hil:i < l.length:=by omega
      have hmem:=getD_mem l i hil z76
      obtain⟨r0,e0,b0,g0⟩:=szVersion_some (l.getD i z76).f0.f0 (l.getD i z76).f0.f1 (l.getD i z76).f0.f2 (l.getD i z76).f1 (l.getD i z76).f2.f0 (l.getD i z76).f2.f1 (l.getD i z76).f2.f2.f0 (l.getD i z76).f2.f2.f1 (l.getD i z76).f2.f2.f2 b (hy _ hmem) hb0 hb1
      by_cases c0:r0 < 0
      · refine⟨-1,?_,by omega,fun h=>by omega⟩
        refine Ev.round (fun _=>by rw[laws_szVersionS.l0]) ?_
        refine Ev.pos (by omega) ?_
        refine Ev.pos (by omega) ?_
        refine Ev.now_bind e0 ?_
        refine Ev.pos c0 ?_
        exact Ev.now _
      obtain⟨r,er,br,gr⟩:=ih (i+1) (by omega) r0 (by omega) b0
      refine⟨r,?_,br,fun hr=>?_⟩
      · refine Ev.round (fun _=>by rw[laws_szVersionS.l0]) ?_
        refine Ev.pos (by omega) ?_
        refine Ev.pos (by omega) ?_
        refine Ev.now_bind e0 ?_
        refine Ev.neg c0 ?_
        have e1:wrap64 ((i:Int)+1)=((i+1:Nat):Int):=by rw[w64 (by omega) (by omega)];omega
        simp only[e1]
        exact er
      · rw[drop_cons l i hil z76]
        intro y hy2
        rcases List.mem_cons.1 hy2 with rfl | hy2
        · exact g0 (by omega)
        · exact gr hr y hy2
  obtain⟨r,er,br,gr⟩:=key l.length 0 (by omega) (a - (l.length:Int)) (by omega) (by omega)
  exact⟨r,Ev.neg c er,br,fun hr=>⟨by omega,by simpa using gr hr⟩⟩
theorem toVersionS_ev (l:List S76)(h:l.length≤1048576)(hy:∀ y∈l,FitlawsVersion y):Ev (fun k=>laws_toVersionS.f k l) (l.map cvVersion):=by
  unfold laws_toVersionS.f
  refine Ev.pos (by omega) ?_
  refine Ev.pos (by simp only[Int.toNat_natCast];omega) ?_
  simp only[Int.toNat_natCast]
  refine ev_fill (fun k x i=>laws_toVersionS.l0 k l x i) l z76 cvVersion z89 (fun k x=>by simp[laws_toVersionS.l0]) ?_
  intro i x r hi hx h
  have hmem:=getD_mem l i hi z76
  refine Ev.round (fun _=>by rw[laws_toVersionS.l0]) ?_
  refine Ev.pos (by omega) ?_
  refine Ev.pos (by omega) ?_
  refine Ev.bind (toVersion_ev _ _ _ _ _ _ _ _ _ (hy _ hmem)) ?_
  refine Ev.pos (by omega) ?_
  have e1:wrap64 ((i:Int)+1)=((i+1:Nat):Int):=by rw[w64 (by omega) (by omega)];omega
  simp only[e1]
  exact h
theorem eqVersionS_refl (l:List S89)(h:l.length≤1048576)(hy:∀ y∈l,FitimplVersion y):Ev (fun k=>laws_eqVersionS.f k l l) true:=by
  unfold laws_eqVersionS.f
  refine Ev.pos rfl ?_
  refine ev_down (fun k i=>laws_eqVersionS.l0 k l l (i:Int)) l.length (fun _=>true) (Ev.round (fun _=>by rw[laws_eqVersionS.l0]) (Ev.neg (by omega) (Ev.now _))) (fun i hi h=>?_)
  have hmem:=getD_mem l i hi z89
  refine Ev.round (fun _=>by rw[laws_eqVersionS.l0]) ?_
  refine Ev.pos (by omega) ?_
  refine Ev.pos (by omega) ?_
  refine Ev.pos (by omega) ?_
  refine Ev.bind (eqVersion_refl _ _ _ _ _ _ _ _ _ (hy _ hmem)) ?_
  refine Ev.pos rfl ?_
  have e1:wrap64 ((i:Int)+1)=((i+1:Nat):Int):=by rw[w64 (by omega) (by omega)];omega
  simp only[e1]
  exact h
theorem toOp_eq (a0:Int)(a1:Int)(a2:Int)(a3:Int):laws_toOp.f a0 a1 a2 a3=some (a0,a1,a2,a3):=by
  simp[laws_toOp.f]
theorem eqOp_refl (a0:Int)(a1:Int)(a2:Int)(a3:Int):laws_eqOp.f a0 a1 a2 a3 a0 a1 a2 a3=some true:=by
  simp[laws_eqOp.f]
theorem szOpS_some (l:List S58)(a:Int)(h:l.length≤maxLen)(h0:0≤a)(h1:a≤1048576):∃ r,laws_szOpS.f l a=some r∧r≤1048576∧(0≤r→l.length≤1048576):=by
  unfold maxLen at h
  unfold laws_szOpS.f
  rw[w64 (by omega) (by omega)]
  by_cases c:a - (l.length:Int) < 0
  · rw[if_pos c];exact⟨_,rfl,by omega,by omega⟩
  · rw[if_neg c];exact⟨_,rfl,by omega,by omega⟩
theorem toOpS_ev (l:List S58)(h:l.length≤1048576):Ev (fun k=>laws_toOpS.f k l) (l.map cvOp):=by
  unfold laws_toOpS.f
  refine Ev.pos (by omega) ?_
  refine Ev.pos (by simp only[Int.toNat_natCast];omega) ?_
  simp only[Int.toNat_natCast]
  refine ev_fill (fun k x i=>laws_toOpS.l0 k l x i) l z58 cvOp z56 (fun k x=>by simp[laws_toOpS.l0]) ?_
  intro i x r hi hx h
  have hmem:=getD_mem l i hi z58
  refine Ev.round (fun _=>by rw[laws_toOpS.l0]) ?_
  refine Ev.pos (by omega) ?_
  refine Ev.pos (by omega) ?_
  refine Ev.now_bind (toOp_eq _ _ _ _) ?_
  refine Ev.pos (by omega) ?_
  have e1:wrap64 ((i:Int)+1)=((i+1:Nat):Int):=by rw[w64 (by omega) (by omega)];omega
  simp only[e1]
  exact h
theorem eqOpS_refl (l:List S56)(h:l.length≤1048576):Ev (fun k=>laws_eqOpS.f k l l) true:=by
  unfold laws_eqOpS.f
  refine Ev.pos rfl ?_
  refine ev_down (fun k i=>laws_eqOpS.l0 k l l (i:Int)) l.length (fun _=>true) (Ev.round (fun _=>by rw[laws_eqOpS.l0]) (Ev.neg (by omega) (Ev.now _))) (fun i hi h=>?_)
  have hmem:=getD_mem l i hi z56
  refine Ev.round (fun _=>by rw[laws_eqOpS.l0]) ?_
  refine Ev.pos (by omega) ?_
  refine Ev.pos (by omega) ?_
  refine Ev.pos (by omega) ?_
  refine Ev.now_bind (eqOp_refl _ _ _ _) ?_
  refine Ev.pos rfl ?_
  have e1:wrap64 ((i:Int)+1)=((i+1:Nat):Int):=by rw[w64 (by omega) (by omega)];omega
  simp only[e1]
  exact h
def mkOp (c:Int):S56:=(⟨c,c+1,c+2,c+3⟩:S56)
theorem markOpS_ev (l:List S56)(a:Int)(h:l.length≤1048576)(h0:0≤a)(h1:a≤1152921504600000000):Ev (fun k=>laws_markOpS.f k l a) (a+4 * (l.length:Int),(List.range l.length).map fun j:Nat=>mkOp (a+4 * (j:Int))):=by
  unfold laws_markOpS.f
  have main:=ev_down (fun k i=>laws_markOpS.l0 k ((List.range i).map (fun j:Nat=>mkOp (a+4 * (j:Int)))++l.drop i) (a+4 * (i:Int)) (i:Int)) l.length (fun _=>(a+4 * (l.length:Int),(List.range l.length).map fun j:Nat=>mkOp (a+4 * (j:Int))))
    (Ev.round (fun _=>by rw[laws_markOpS.l0]) (Ev.neg (by simp) (Ev.const fun _=>by simp)))
    (fun i hi h=>?_)
  · simpa using main
  refine Ev.round (fun _=>by rw[laws_markOpS.l0]) ?_
  refine Ev.pos (by simp;omega) ?_
  refine Ev.pos (by omega) ?_
  have e1:wrap64 ((i:Int)+1)=((i+1:Nat):Int):=by rw[w64 (by omega) (by omega)];omega
  have hlen:((List.range i).map (fun j:Nat=>mkOp (a+4 * (j:Int)))++l.drop i).length=l.length:=by simp;omega
  have e3:∀ v,((List.range i).map (fun j:Nat=>mkOp (a+4 * (j:Int)))++l.drop i).set i v=(List.range i).map (fun j:Nat=>mkOp (a+4 * (j:Int)))++v :: l.drop (i+1):=by
    intro v
    rw[List.set_append_right _ _ (by simp),drop_cons l i hi z56]
    simp
  have e4:∀ v u,((List.range i).map (fun j:Nat=>mkOp (a+4 * (j:Int)))++u :: l.drop (i+1)).set i v=(List.range i).map (fun j:Nat=>mkOp (a+4 * (j:Int)))++v :: l.drop (i+1):=by
    intro v u
    rw[List.set_append_right _ _ (by simp)]
    simp
  have e5:∀ u,rd_T56 ((List.range i).map (fun j:Nat=>mkOp (a+4 * (j:Int)))++u :: l.drop (i+1)) (i:Int)=u:=by
    intro u
    unfold rd_T56
    simp[List.getD_eq_getElem?_getD]
  have w0:wrap64 (a+4 * (i:Int)+1)=a+4 * (i:Int)+1:=(w64 (by omega) (by omega)).trans (by omega)
  have w1:wrap64 (a+4 * (i:Int)+1+1)=a+4 * (i:Int)+2:=(w64 (by omega) (by omega)).trans (by omega)
  have w2:wrap64 (a+4 * (i:Int)+2+1)=a+4 * (i:Int)+3:=(w64 (by omega) (by omega)).trans (by omega)
  have w3:wrap64 (a+4 * (i:Int)+3+1)=a+4 * (i:Int)+4:=(w64 (by omega) (by omega)).trans (by omega)
  simp only[e1,w0,w1,w2,w3,Int.toNat_natCast,Option.bind_some,e3,e4,e5]
  have e9:(List.range (i+1)).map (fun j:Nat=>mkOp (a+4 * (j:Int)))++l.drop (i+1)=(List.range i).map (fun j:Nat=>mkOp (a+4 * (j:Int)))++mkOp (a+4 * (i:Int)) :: l.drop (i+1):=by
    rw[List.range_succ,List.map_append,List.append_assoc]
    rfl
  rw[e9,show a+4 * ((i+1:Nat):Int)=a+4 * (i:Int)+4 by omega] at h
  exact h
theorem eqState_refl (a0:Int)(a1:List Int)(a2:List Int)(a3:List Int)(ha1:a1.length≤1048576)(ha2:a2.length≤1048576)(ha3:a3.length≤1048576):Ev (fun k=>laws_eqState.f k a0 a1 a2 a3 a0 a1 a2 a3) true:=by
  unfold laws_eqState.f
  refine Ev.pos rfl ?_
  refine Ev.bind (eqIntS_refl a1 ha1) ?_
  refine Ev.pos rfl ?_
  refine Ev.bind (eqIntS_refl a2 ha2) ?_
  refine Ev.pos rfl ?_
  refine Ev.bind (eqIntS_refl a3 ha3) ?_
  refine Ev.pos rfl ?_
  exact Ev.now _
theorem markState_ev (a0:Int)(a1:List Int)(a2:List Int)(a3:List Int)(n:Int)(ha1:a1.length≤1048576)(ha2:a2.length≤1048576)(ha3:a3.length≤1048576)(h0:0≤n)(h1:n≤1152921504600000000):Ev (fun k=>laws_markState.f k a0 a1 a2 a3 n) (n+(a1.length:Int)+(a2.length:Int)+(a3.length:Int),((List.range a1.length).map fun j:Nat=>n+(j:Int)),((List.range a2.length).map fun j:Nat=>n+(a1.length:Int)+(j:Int)),((List.range a3.length).map fun j:Nat=>n+(a1.length:Int)+(a2.length:Int)+(j:Int))):=by
  unfold laws_markState.f
  refine Ev.bind (markIntS_ev a1 _ ha1 (by omega) (by omega)) ?_
  refine Ev.bind (markIntS_ev a2 _ ha2 (by omega) (by omega)) ?_
  refine Ev.bind (markIntS_ev a3 _ ha3 (by omega) (by omega)) ?_
  exact Ev.now _
theorem heldState_ev (a0:Int)(m0:Nat)(hm0:m0≤1048576)(m1:Nat)(hm1:m1≤1048576)(m2:Nat)(hm2:m2≤1048576)(n:Int)(h0:0≤n)(h1:n≤1152921504600000000):Ev (fun k=>laws_heldState.f k a0 ((List.range m0).map fun j:Nat=>n+(j:Int)) ((List.range m1).map fun j:Nat=>n+(m0:Int)+(j:Int)) ((List.range m2).map fun j:Nat=>n+(m0:Int)+(m1:Int)+(j:Int)) n) (n+(m0:Int)+(m1:Int)+(m2:Int)):=by
  unfold laws_heldState.f
  refine Ev.bind (heldIntS_ev m0 _ hm0 (by omega) (by omega)) ?_
  refine Ev.neg (by omega) ?_
  refine Ev.bind (heldIntS_ev m1 _ hm1 (by omega) (by omega)) ?_
  refine Ev.neg (by omega) ?_
  refine Ev.bind (heldIntS_ev m2 _ hm2 (by omega) (by omega)) ?_
  refine Ev.neg (by omega) ?_
  exact Ev.now _
theorem eqEntry_refl (a0:Int)(a1:Int)(a2:Int)(a3:Int)(a4:Int):laws_eqEntry.f a0 a1 a2 a3 a4 a0 a1 a2 a3 a4=some true:=by
  simp[laws_eqEntry.f,eqAddress_refl]
theorem eqEntryS_refl (l:List S66)(h:l.length≤1048576):Ev (fun k=>laws_eqEntryS.f k l l) true:=by
  unfold laws_eqEntryS.f
  refine Ev.pos rfl ?_
  refine ev_down (fun k i=>laws_eqEntryS.l0 k l l (i:Int)) l.length (fun _=>true) (Ev.round (fun _=>by rw[laws_eqEntryS.l0]) (Ev.neg (by omega) (Ev.now _))) (fun i hi h=>?_)
  have hmem:=getD_mem l i hi z66
  refine Ev.round (fun _=>by rw[laws_eqEntryS.l0]) ?_
  refine Ev.pos (by omega) ?_
  refine Ev.pos (by omega) ?_
  refine Ev.pos (by omega) ?_
  refine Ev.now_bind (eqEntry_refl _ _ _ _ _) ?_
  refine Ev.pos rfl ?_
  have e1:wrap64 ((i:Int)+1)=((i+1:Nat):Int):=by rw[w64 (by omega) (by omega)];omega
  simp only[e1]
  exact h
def mkEntry (c:Int):S66:=(⟨c,(⟨c+1,c+2,c+3⟩:S64),c+4⟩:S66)
theorem markEntryS_ev (l:List S66)(a:Int)(h:l.length≤1048576)(h0:0≤a)(h1:a≤1152921504600000000):Ev (fun k=>laws_markEntryS.f k l a) (a+5 * (l.length:Int),(List.range l.length).map fun j:Nat=>mkEntry (a+5 * (j:Int))):=by
  unfold laws_markEntryS.f
  have main:=ev_down (fun k i=>laws_markEntryS.l0 k ((List.range i).map (fun j:Nat=>mkEntry (a+5 * (j:Int)))++l.drop i) (a+5 * (i:Int)) (i:Int)) l.length (fun _=>(a+5 * (l.length:Int),(List.range l.length).map fun j:Nat=>mkEntry (a+5 * (j:Int))))
    (Ev.round (fun _=>by rw[laws_markEntryS.l0]) (Ev.neg (by simp) (Ev.const fun _=>by simp)))
    (fun i hi h=>?_)
  · simpa using main
  refine Ev.round (fun _=>by rw[laws_markEntryS.l0]) ?_
  refine Ev.pos (by simp;omega) ?_
  refine Ev.pos (by omega) ?_
  have e1:wrap64 ((i:Int)+1)=((i+1:Nat):Int):=by rw[w64 (by omega) (by omega)];omega
  have hlen:((List.range i).map (fun j:Nat=>mkEntry (a+5 * (j:Int)))++l.drop i).length=l.length:=by simp;omega
  have e3:∀ v,((List.range i).map (fun j:Nat=>mkEntry (a+5 * (j:Int)))++l.drop i).set i v=(List.range i).map (fun j:Nat=>mkEntry (a+5 * (j:Int)))++v :: l.drop (i+1):=by
    intro v
    rw[List.set_append_right _ _ (by simp),drop_cons l i hi z66]
    simp
  have e4:∀ v u,((List.range i).map (fun j:Nat=>mkEntry (a+5 * (j:Int)))++u :: l.drop (i+1)).set i v=(List.range i).map (fun j:Nat=>mkEntry (a+5 * (j:Int)))++v :: l.drop (i+1):=by
    intro v u
    rw[List.set_append_right _ _ (by simp)]
    simp
  have e5:∀ u,rd_T66 ((List.range i).map (fun j:Nat=>mkEntry (a+5 * (j:Int)))++u :: l.drop (i+1)) (i:Int)=u:=by
    intro u
    unfold rd_T66
    simp[List.getD_eq_getElem?_getD]
  have w0:wrap64 (a+5 * (i:Int)+1)=a+5 * (i:Int)+1:=(w64 (by omega) (by omega)).trans (by omega)
  have w1:wrap64 (a+5 * (i:Int)+1+1)=a+5 * (i:Int)+2:=(w64 (by omega) (by omega)).trans (by omega)
  have w2:wrap64 (a+5 * (i:Int)+2+1)=a+5 * (i:Int)+3:=(w64 (by omega) (by omega)).trans (by omega)
  have w3:wrap64 (a+5 * (i:Int)+3+1)=a+5 * (i:Int)+4:=(w64 (by omega) (by omega)).trans (by omega)
  have w4:wrap64 (a+5 * (i:Int)+4+1)=a+5 * (i:Int)+5:=(w64 (by omega) (by omega)).trans (by omega)
  simp only[e1,w0,w1,w2,w3,w4,Int.toNat_natCast,Option.bind_some,e3,e4,e5]
  have e9:(List.range (i+1)).map (fun j:Nat=>mkEntry (a+5 * (j:Int)))++l.drop (i+1)=(List.range i).map (fun j:Nat=>mkEntry (a+5 * (j:Int)))++mkEntry (a+5 * (i:Int)) :: l.drop (i+1):=by
    rw[List.range_succ,List.map_append,List.append_assoc]
    rfl
  rw[e9,show a+5 * ((i+1:Nat):Int)=a+5 * (i:Int)+5 by omega] at h
  exact h
theorem heldEntryS_ev (n:Nat)(a:Int)(h:n≤1048576)(h0:0≤a)(h1:a≤1152921504600000000):Ev (fun k=>laws_heldEntryS.f k ((List.range n).map fun j:Nat=>mkEntry (a+5 * (j:Int))) a) (a+5 * (n:Int)):=by
  unfold laws_heldEntryS.f
  have main:=ev_down (fun k i=>laws_heldEntryS.l0 k ((List.range n).map fun j:Nat=>mkEntry (a+5 * (j:Int))) (a+5 * (i:Int)) (i:Int)) n (fun _=>a+5 * (n:Int))
    (Ev.round (fun _=>by rw[laws_heldEntryS.l0]) (Ev.neg (by simp) (Ev.now _)))
    (fun i hi h=>?_)
  · simpa using main
  have e5:rd_T66 ((List.range n).map fun j:Nat=>mkEntry (a+5 * (j:Int))) (i:Int)=mkEntry (a+5 * (i:Int)):=by
    unfold rd_T66
    simp[List.getD_eq_getElem?_getD,hi]
  refine Ev.round (fun _=>by rw[laws_heldEntryS.l0]) ?_
  refine Ev.pos (by simp;omega) ?_
  refine Ev.pos (by omega) ?_
  have e1:wrap64 ((i:Int)+1)=((i+1:Nat):Int):=by rw[w64 (by omega) (by omega)];omega
  have w0:wrap64 (a+5 * (i:Int)+1)=a+5 * (i:Int)+1:=(w64 (by omega) (by omega)).trans (by omega)
  have w1:wrap64 (a+5 * (i:Int)+1+1)=a+5 * (i:Int)+2:=(w64 (by omega) (by omega)).trans (by omega)
  have w2:wrap64 (a+5 * (i:Int)+2+1)=a+5 * (i:Int)+3:=(w64 (by omega) (by omega)).trans (by omega)
  have w3:wrap64 (a+5 * (i:Int)+3+1)=a+5 * (i:Int)+4:=(w64 (by omega) (by omega)).trans (by omega)
  have w4:wrap64 (a+5 * (i:Int)+4+1)=a+5 * (i:Int)+5:=(w64 (by omega) (by omega)).trans (by omega)
  simp only[e1,e5,w0,w1,w2,w3,w4]
  rw[show a+5 * ((i+1:Nat):Int)=a+5 * (i:Int)+5 by omega] at h
  exact(Ev.pos rfl (Ev.pos rfl (Ev.pos rfl (Ev.pos rfl (Ev.pos rfl  h)))))
theorem toVisit_ev (a0:List S76)(a1:Int)(a2:Int)(a3:List Int)(ha0:(a0.length≤1048576∧∀ e_∈a0,FitlawsVersion e_))(ha3:a3.length≤1048576):Ev (fun k=>laws_toVisit.f k a0 a1 a2 a3) (a0.map cvVersion,a1,a2,a3):=by
  unfold laws_toVisit.f
  refine Ev.bind (toVersionS_ev a0 ha0.1 ha0.2) ?_
  refine Ev.bind (toIntS_ev a3 ha3) ?_
  exact Ev.now _
theorem eqVisit_refl (a0:List S89)(a1:Int)(a2:Int)(a3:List Int)(ha0:(a0.length≤1048576∧∀ e_∈a0,FitimplVersion e_))(ha3:a3.length≤1048576):Ev (fun k=>laws_eqVisit.f k a0 a1 a2 a3 a0 a1 a2 a3) true:=by
  unfold laws_eqVisit.f
  refine Ev.bind (eqVersionS_refl a0 ha0.1 ha0.2) ?_
  refine Ev.pos rfl ?_
  refine Ev.pos rfl ?_
  refine Ev.pos rfl ?_
  refine Ev.bind (eqIntS_refl a3 ha3) ?_
  refine Ev.pos rfl ?_
  exact Ev.now _
theorem szVisit_some (a0:List S76)(a1:Int)(a2:Int)(a3:List Int)(n:Int)(ma0:(a0.length≤maxLen∧∀ e_∈a0,MaxVersion e_))(ma3:a3.length≤maxLen)(h0:0≤n)(h1:n≤1048576):∃ r,Ev (fun k=>laws_szVisit.f k a0 a1 a2 a3 n) r∧r≤1048576∧(0≤r→(a0.length≤1048576∧∀ e_∈a0,FitlawsVersion e_)∧a3.length≤1048576):=by
  unfold laws_szVisit.f
  obtain⟨r0,e0,b0,g0⟩:=szVersionS_some a0 n ma0 (by omega) (by omega)
  by_cases c0:r0 < 0
  · refine⟨-1,?_,by omega,fun h=>by omega⟩
    refine Ev.bind e0 ?_
    exact Ev.pos c0 (Ev.now _)
  obtain⟨r1,e1,b1,g1⟩:=szIntS_some a3 r0 ma3 (by omega) (by omega)
  by_cases c1:r1 < 0
  · refine⟨-1,?_,by omega,fun h=>by omega⟩
    refine Ev.bind e0 ?_
    refine Ev.neg c0 ?_
    refine Ev.now_bind e1 ?_
    exact Ev.pos c1 (Ev.now _)
  refine⟨r1,?_,by omega,fun _=>⟨(g0 (by omega)),(g1 (by omega))⟩⟩
  refine Ev.bind e0 ?_
  refine Ev.neg c0 ?_
  refine Ev.now_bind e1 ?_
  exact Ev.neg c1 (Ev.now _)
end Go.Proofs.YtlkehcbhbflpoaaGreat.MFnExactRecordVisit
