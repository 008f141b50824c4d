/- Plain lemmas on the helpers of the law FnExactIsFaithful: sizes, copies, equality with itself, marks and what holds them. Written by a program of this session. -/
import Derived.Test.YtgfplmagpljmpaaGreatGen
import Derived.Test.YtgfplmagpljmpaaGreatMFnExactIsFaithfulx0
import Derived.Test.YtgfplmagpljmpaaGreatMFnExactIsFaithfulx1
import Derived.Test.YtgfplmagpljmpaaGreatMFnExactIsFaithfulx2
import Derived.Test.YtgfplmagpljmpaaGreatMFnExactIsFaithfulx3
import Derived.Test.YtgfplmagpljmpaaGreatMFnExactIsFaithfulx4
import Derived.Test.YtgfplmagpljmpaaGreatMFnExactIsFaithfulx5
import Derived.Test.YtgfplmagpljmpaaGreatMFnExactIsFaithfulx6
import Derived.Test.YtgfplmagpljmpaaGreatMFnExactIsFaithfulx7
import Derived.Test.YtgfplmagpljmpaaGreatMFnExactIsFaithfulx8
import Derived.Test.YtgfplmagpljmpaaGreatMFnExactIsFaithfulx9
import Derived.Test.YtgfplmagpljmpaaGreatMFnExactIsFaithfulx10
import Derived.Test.YtgfplmagpljmpaaGreatMFnExactIsFaithfulx11
import Derived.Test.YtgfplmagpljmpaaGreatMFnExactIsFaithfulx12
import Derived.Test.YtgfplmagpljmpaaGreatMFnExactIsFaithfulx13
import Derived.Test.YtgfplmagpljmpaaGreatMFnExactIsFaithfulx14
import Derived.Test.YtgfplmagpljmpaaGreatMFnExactIsFaithfulx15
import Derived.Test.YtgfplmagpljmpaaGreatMFnExactIsFaithfulx16
import Derived.Test.YtgfplmagpljmpaaGreatMFnExactIsFaithfulx17
import Derived.Test.YtgfplmagpljmpaaGreatMFnExactIsFaithfulx18
import Derived.Test.YtgfplmagpljmpaaGreatMFnExactIsFaithfulx19
import Derived.Test.YtgfplmagpljmpaaGreatMFnExactIsFaithfulx20
import Derived.Test.YtgfplmagpljmpaaGreatMFnExactIsFaithfulx21
import Derived.Test.YtgfplmagpljmpaaGreatMFnExactIsFaithfulx22
import Derived.Test.YtgfplmagpljmpaaGreatMFnExactIsFaithfulx23
namespace Go.Proofs.YtgfplmagpljmpaaGreat.MFnExactIsFaithful
open Go.RowKit Go.Proofs.YtgfplmagpljmpaaGreatW.PrintWords Go.Proofs.YtgfplmagpljmpaaGreatW.PrintLast Go.Proofs.YtgfplmagpljmpaaGreatW.PrintMore Go.Proofs.YtgfplmagpljmpaaGreat.Gen
set_option linter.unusedVariables false
set_option linter.unusedSimpArgs false
theorem szIntS_some (l:List Int)(a:Int)(h:l.length≤maxLen)(h0:0≤a)(h1:a≤1048576):∃ r,laws_szIntS.f l a=some r∧r≤1048576∧(0≤r→l.length≤1048576):=by
  unfold maxLen at h
  unfold laws_szIntS.f
  rw[w64 (by omega) (by omega)]
  by_cases c:a - (l.length:Int) < 0
  · rw[if_pos c];exact⟨_,rfl,by omega,by omega⟩
  · rw[if_neg c];exact⟨_,rfl,by omega,by omega⟩
theorem toIntS_ev (l:List Int)(h:l.length≤1048576):Ev (fun k=>laws_toIntS.f k l) l:=by
  unfold laws_toIntS.f
  refine Ev.pos (by omega) ?_
  refine Ev.pos (by simp only[Int.toNat_natCast];omega) ?_
  simp only[Int.toNat_natCast]
  refine Ev.cast (ev_fill (fun k x i=>laws_toIntS.l0 k l x i) l 0 id 0 (fun k x=>by simp[laws_toIntS.l0]) ?_) (List.map_id l)
  intro i x r hi hx h
  refine Ev.round (fun _=>by rw[laws_toIntS.l0]) ?_
  refine Ev.pos (by omega) ?_
  refine Ev.pos (by omega) ?_
  refine Ev.pos (by omega) ?_
  have e1:wrap64 ((i:Int)+1)=((i+1:Nat):Int):=by rw[w64 (by omega) (by omega)];omega
  simp only[e1]
  exact h
theorem eqIntSb_refl (l:List Int)(h:l.length≤16777216):Ev (fun k=>laws_eqIntS.f k l l) true:=by
  unfold laws_eqIntS.f
  refine Ev.pos rfl ?_
  refine ev_down (fun k i=>laws_eqIntS.l0 k l l (i:Int)) l.length (fun _=>true) (Ev.round (fun _=>by rw[laws_eqIntS.l0]) (Ev.neg (by omega) (Ev.now _))) (fun i hi h=>?_)
  refine Ev.round (fun _=>by rw[laws_eqIntS.l0]) ?_
  refine Ev.pos (by omega) ?_
  refine Ev.pos (by omega) ?_
  refine Ev.pos (by omega) ?_
  refine Ev.pos rfl ?_
  have e1:wrap64 ((i:Int)+1)=((i+1:Nat):Int):=by rw[w64 (by omega) (by omega)];omega
  simp only[e1]
  exact h
theorem eqIntS_refl (l:List Int)(h:l.length≤1048576):Ev (fun k=>laws_eqIntS.f k l l) true:=eqIntSb_refl l (by omega)
def FitlawsVersion (y:S70):Prop:=y.f2.f1.length≤1048576
def cvVersion (y:S70):S80:=(⟨(⟨y.f0.f0,y.f0.f1,y.f0.f2⟩:S76),y.f1,(⟨y.f2.f0,y.f2.f1,(⟨y.f2.f2.f0,y.f2.f2.f1,y.f2.f2.f2⟩:S76)⟩:S78)⟩:S80)
def FitimplVersion (y:S80):Prop:=y.f2.f1.length≤1048576
def FitlawsOp (y:S56):Prop:=True
def cvOp (y:S56):S54:=(⟨y.f0,y.f1,y.f2,y.f3⟩:S54)
def FitimplOp (y:S54):Prop:=True
theorem toAddress_eq (a0:Int)(a1:Int)(a2:Int):laws_toAddress.f a0 a1 a2=some (a0,a1,a2):=by
  simp[laws_toAddress.f]
theorem eqAddress_refl (a0:Int)(a1:Int)(a2:Int):laws_eqAddress.f a0 a1 a2 a0 a1 a2=some true:=by
  simp[laws_eqAddress.f]
theorem toResource_ev (a0:Int)(a1:List Int)(a2:Int)(a3:Int)(a4:Int)(ha1:a1.length≤1048576):Ev (fun k=>laws_toResource.f k a0 a1 a2 a3 a4) (a0,a1,a2,a3,a4):=by
  unfold laws_toResource.f
  refine Ev.bind (toIntS_ev a1 ha1) ?_
  refine Ev.now_bind (toAddress_eq a2 a3 a4) ?_
  exact Ev.now _
theorem eqResource_refl (a0:Int)(a1:List Int)(a2:Int)(a3:Int)(a4:Int)(ha1:a1.length≤1048576):Ev (fun k=>laws_eqResource.f k a0 a1 a2 a3 a4 a0 a1 a2 a3 a4) true:=by
  unfold laws_eqResource.f
  refine Ev.pos rfl ?_
  refine Ev.bind (eqIntS_refl a1 ha1) ?_
  refine Ev.pos rfl ?_
  refine Ev.now_bind (eqAddress_refl a2 a3 a4) ?_
  refine Ev.pos rfl ?_
  exact Ev.now _
theorem szResource_some (a0:Int)(a1:List Int)(a2:Int)(a3:Int)(a4:Int)(n:Int)(ma1:a1.length≤maxLen)(h0:0≤n)(h1:n≤1048576):∃ r,laws_szResource.f a0 a1 a2 a3 a4 n=some r∧r≤1048576∧(0≤r→a1.length≤1048576):=by
  unfold laws_szResource.f
  obtain⟨r0,e0,b0,g0⟩:=szIntS_some a1 n ma1 (by omega) (by omega)
  rw[e0]
  simp only[Option.bind_some]
  by_cases c0:r0 < 0
  · rw[if_pos c0];exact⟨_,rfl,by omega,fun h=>by omega⟩
  rw[if_neg c0]
  exact⟨_,rfl,by omega,fun _=>(g0 (by omega))⟩
theorem toVersion_ev (a0:Int)(a1:Int)(a2:Int)(a3:Int)(a4:Int)(a5:List Int)(a6:Int)(a7:Int)(a8:Int)(ha5:a5.length≤1048576):Ev (fun k=>laws_toVersion.f k a0 a1 a2 a3 a4 a5 a6 a7 a8) (a0,a1,a2,a3,a4,a5,a6,a7,a8):=by
  unfold laws_toVersion.f
  refine Ev.now_bind (toAddress_eq a0 a1 a2) ?_
  refine Ev.bind (toResource_ev a4 a5 a6 a7 a8 ha5) ?_
  exact Ev.now _
theorem eqVersion_refl (a0:Int)(a1:Int)(a2:Int)(a3:Int)(a4:Int)(a5:List Int)(a6:Int)(a7:Int)(a8:Int)(ha5:a5.length≤1048576):Ev (fun k=>laws_eqVersion.f k a0 a1 a2 a3 a4 a5 a6 a7 a8 a0 a1 a2 a3 a4 a5 a6 a7 a8) true:=by
  unfold laws_eqVersion.f
  refine Ev.now_bind (eqAddress_refl a0 a1 a2) ?_
  refine Ev.pos rfl ?_
  refine Ev.pos rfl ?_
  refine Ev.bind (eqResource_refl a4 a5 a6 a7 a8 ha5) ?_
  refine Ev.pos rfl ?_
  exact Ev.now _
theorem szVersion_some (a0:Int)(a1:Int)(a2:Int)(a3:Int)(a4:Int)(a5:List Int)(a6:Int)(a7:Int)(a8:Int)(n:Int)(ma5:a5.length≤maxLen)(h0:0≤n)(h1:n≤1048576):∃ r,laws_szVersion.f a0 a1 a2 a3 a4 a5 a6 a7 a8 n=some r∧r≤1048576∧(0≤r→a5.length≤1048576):=by
  unfold laws_szVersion.f
  obtain⟨r0,e0,b0,g0⟩:=szResource_some a4 a5 a6 a7 a8 n ma5 (by omega) (by omega)
  rw[e0]
  simp only[Option.bind_some]
  by_cases c0:r0 < 0
  · rw[if_pos c0];exact⟨_,rfl,by omega,fun h=>by omega⟩
  rw[if_neg c0]
  exact⟨_,rfl,by omega,fun _=>(g0 (by omega))⟩
def MaxVersion (y:S70):Prop:=y.f2.f1.length≤maxLen
theorem szVersionS_some (l:List S70)(a:Int)(h:l.length≤maxLen∧∀ y∈l,MaxVersion y)(h0:0≤a)(h1:a≤1048576):∃ r,Ev (fun k=>laws_szVersionS.f k l a) r∧r≤1048576∧(0≤r→l.length≤1048576∧∀ y∈l,FitlawsVersion y):=by
  obtain⟨h,hy⟩:=h
  unfold maxLen at h
  unfold laws_szVersionS.f
  rw[w64 (by omega) (by omega)]
  by_cases c:a - (l.length:Int) < 0
  · exact⟨-1,Ev.pos c (Ev.now _),by omega,fun h=>by omega⟩
  have key:∀ d i:Nat,i+d=l.length→∀ b:Int,0≤b→b≤1048576→∃ r,Ev (fun k=>laws_szVersionS.l0 k l b (i:Int)) r∧r≤1048576∧(0≤r→∀ y∈l.drop i,FitlawsVersion y):=by
    intro d
    induction d with
    | zero =>
      intro i hi b hb0 hb1
      obtain rfl:i=l.length:=by omega
      exact⟨b,Ev.round (fun _=>by rw[laws_szVersionS.l0]) (Ev.neg (by omega) (Ev.now _)),hb1,fun _=>by simp⟩
    | succ d ih =>
      intro i hi b hb0 hb1
      have hil:i < l.length:=by omega
      have hmem:=getD_mem l i hil z70
      obtain⟨r0,e0,b0,g0⟩:=szVersion_some (l.getD i z70).f0.f0 (l.getD i z70).f0.f1 (l.getD i z70).f0.f2 (l.getD i z70).f1 (l.getD i z70).f2.f0 (l.getD i z70).f2.f1 (l.getD i z70).f2.f2.f0 (l.getD i z70).f2.f2.f1 (l.getD i z70).f2.f2.f2 b (hy _ hmem) hb0 hb1
      by_cases c0:r0 < 0
      · refine⟨-1,?_,by omega,fun h=>by omega⟩
        refine Ev.round (fun _=>by rw[laws_szVersionS.l0]) ?_
        refine Ev.pos (by omega) ?_
        refine Ev.pos (by omega) ?_
        refine Ev.now_bind e0 ?_
        refine Ev.pos c0 ?_
        exact Ev.now _
      obtain⟨r,er,br,gr⟩:=ih (i+1) (by omega) r0 (by omega) b0
      refine⟨r,?_,br,fun hr=>?_⟩
      · refine Ev.round (fun _=>by rw[laws_szVersionS.l0]) ?_
        refine Ev.pos (by omega) ?_
        refine Ev.pos (by omega) ?_
        refine Ev.now_bind e0 ?_
        refine Ev.neg c0 ?_
        have e1:wrap64 ((i:Int)+1)=((i+1:Nat):Int):=by rw[w64 (by omega) (by omega)];omega
        simp only[e1]
        exact er
      · rw[drop_cons l i hil z70]
        intro y hy2
        rcases List.mem_cons.1 hy2 with rfl | hy2
        · exact g0 (by omega)
        · exact gr hr y hy2
  obtain⟨r,er,br,gr⟩:=key l.length 0 (by omega) (a - (l.length:Int)) (by omega) (by omega)
  exact⟨r,Ev.neg c er,br,fun hr=>⟨by omega,by simpa using gr hr⟩⟩
theorem toVersionS_ev (l:List S70)(h:l.length≤1048576)(hy:∀ y∈l,FitlawsVersion y):Ev (fun k=>laws_toVersionS.f k l) (l.map cvVersion):=by
  unfold laws_toVersionS.f
  refine Ev.pos (by omega) ?_
  refine Ev.pos (by simp only[Int.toNat_natCast];omega) ?_
  simp only[Int.toNat_natCast]
  refine ev_fill (fun k x i=>laws_toVersionS.l0 k l x i) l z70 cvVersion z80 (fun k x=>by simp[laws_toVersionS.l0]) ?_
  intro i x r hi hx h
  have hmem:=getD_mem l i hi z70
  refine Ev.round (fun _=>by rw[laws_toVersionS.l0]) ?_
  refine Ev.pos (by omega) ?_
  refine Ev.pos (by omega) ?_
  refine Ev.bind (toVersion_ev _ _ _ _ _ _ _ _ _ (hy _ hmem)) ?_
  refine Ev.pos (by omega) ?_
  have e1:wrap64 ((i:Int)+1)=((i+1:Nat):Int):=by rw[w64 (by omega) (by omega)];omega
  simp only[e1]
  exact h
theorem eqVersionS_refl (l:List S80)(h:l.length≤1048576)(hy:∀ y∈l,FitimplVersion y):Ev (fun k=>laws_eqVersionS.f k l l) true:=by
  unfold laws_eqVersionS.f
  refine Ev.pos rfl ?_
  refine ev_down (fun k i=>laws_eqVersionS.l0 k l l (i:Int)) l.length (fun _=>true) (Ev.round (fun _=>by rw[laws_eqVersionS.l0]) (Ev.neg (by omega) (Ev.now _))) (fun i hi h=>?_)
  have hmem:=getD_mem l i hi z80
  refine Ev.round (fun _=>by rw[laws_eqVersionS.l0]) ?_
  refine Ev.pos (by omega) ?_
  refine Ev.pos (by omega) ?_
  refine Ev.pos (by omega) ?_
  refine Ev.bind (eqVersion_refl _ _ _ _ _ _ _ _ _ (hy _ hmem)) ?_
  refine Ev.pos rfl ?_
  have e1:wrap64 ((i:Int)+1)=((i+1:Nat):Int):=by rw[w64 (by omega) (by omega)];omega
  simp only[e1]
  exact h
theorem toOp_eq (a0:Int)(a1:Int)(a2:Int)(a3:Int):laws_toOp.f a0 a1 a2 a3=some (a0,a1,a2,a3):=by
  simp[laws_toOp.f]
theorem eqOp_refl (a0:Int)(a1:Int)(a2:Int)(a3:Int):laws_eqOp.f a0 a1 a2 a3 a0 a1 a2 a3=some true:=by
  simp[laws_eqOp.f]
theorem szOpS_some (l:List S56)(a:Int)(h:l.length≤maxLen)(h0:0≤a)(h1:a≤1048576):∃ r,laws_szOpS.f l a=some r∧r≤1048576∧(0≤r→l.length≤1048576):=by
  unfold maxLen at h
  unfold laws_szOpS.f
  rw[w64 (by omega) (by omega)]
  by_cases c:a - (l.length:Int) < 0
  · rw[if_pos c];exact⟨_,rfl,by omega,by omega⟩
  · rw[if_neg c];exact⟨_,rfl,by omega,by omega⟩
theorem toOpS_ev (l:List S56)(h:l.length≤1048576):Ev (fun k=>laws_toOpS.f k l) (l.map cvOp):=by
  unfold laws_toOpS.f
  refine Ev.pos (by omega) ?_
  refine Ev.pos (by simp only[Int.toNat_natCast];omega) ?_
  simp only[Int.toNat_natCast]
  refine ev_fill (fun k x i=>laws_toOpS.l0 k l x i) l z56 cvOp z54 (fun k x=>by simp[laws_toOpS.l0]) ?_
  intro i x r hi hx h
  have hmem:=getD_mem l i hi z56
  refine Ev.round (fun _=>by rw[laws_toOpS.l0]) ?_
  refine Ev.pos (by omega) ?_
  refine Ev.pos (by omega) ?_
  refine Ev.now_bind (toOp_eq _ _ _ _) ?_
  refine Ev.pos (by omega) ?_
  have e1:wrap64 ((i:Int)+1)=((i+1:Nat):Int):=by rw[w64 (by omega) (by omega)];omega
  simp only[e1]
  exact h
theorem eqOpS_refl (l:List S54)(h:l.length≤1048576):Ev (fun k=>laws_eqOpS.f k l l) true:=by
  unfold laws_eqOpS.f
  refine Ev.pos rfl ?_
  refine ev_down (fun k i=>laws_eqOpS.l0 k l l (i:Int)) l.length (fun _=>true) (Ev.round (fun _=>by rw[laws_eqOpS.l0]) (Ev.neg (by omega) (Ev.now _))) (fun i hi h=>?_)
  have hmem:=getD_mem l i hi z54
  refine Ev.round (fun _=>by rw[laws_eqOpS.l0]) ?_
  refine Ev.pos (by omega) ?_
  refine Ev.pos (by omega) ?_
  refine Ev.pos (by omega) ?_
  refine Ev.now_bind (eqOp_refl _ _ _ _) ?_
  refine Ev.pos rfl ?_
  have e1:wrap64 ((i:Int)+1)=((i+1:Nat):Int):=by rw[w64 (by omega) (by omega)];omega
  simp only[e1]
  exact h
theorem toVisit_ev (a0:List S70)(a1:Int)(a2:Int)(a3:List Int)(ha0:(a0.length≤1048576∧∀ e_∈a0,FitlawsVersion e_))(ha3:a3.length≤1048576):Ev (fun k=>laws_toVisit.f k a0 a1 a2 a3) (a0.map cvVersion,a1,a2,a3):=by
  unfold laws_toVisit.f
  refine Ev.bind (toVersionS_ev a0 ha0.1 ha0.2) ?_
  refine Ev.bind (toIntS_ev a3 ha3) ?_
  exact Ev.now _
theorem eqVisit_refl (a0:List S80)(a1:Int)(a2:Int)(a3:List Int)(ha0:(a0.length≤1048576∧∀ e_∈a0,FitimplVersion e_))(ha3:a3.length≤1048576):Ev (fun k=>laws_eqVisit.f k a0 a1 a2 a3 a0 a1 a2 a3) true:=by
  unfold laws_eqVisit.f
  refine Ev.bind (eqVersionS_refl a0 ha0.1 ha0.2) ?_
  refine Ev.pos rfl ?_
  refine Ev.pos rfl ?_
  refine Ev.pos rfl ?_
  refine Ev.bind (eqIntS_refl a3 ha3) ?_
  refine Ev.pos rfl ?_
  exact Ev.now _
theorem szVisit_some (a0:List S70)(a1:Int)(a2:Int)(a3:List Int)(n:Int)(ma0:(a0.length≤maxLen∧∀ e_∈a0,MaxVersion e_))(ma3:a3.length≤maxLen)(h0:0≤n)(h1:n≤1048576):∃ r,Ev (fun k=>laws_szVisit.f k a0 a1 a2 a3 n) r∧r≤1048576∧(0≤r→(a0.length≤1048576∧∀ e_∈a0,FitlawsVersion e_)∧a3.length≤1048576):=by
  unfold laws_szVisit.f
  obtain⟨r0,e0,b0,g0⟩:=szVersionS_some a0 n ma0 (by omega) (by omega)
  by_cases c0:r0 < 0
  · refine⟨-1,?_,by omega,fun h=>by omega⟩
    refine Ev.bind e0 ?_
    exact Ev.pos c0 (Ev.now _)
  obtain⟨r1,e1,b1,g1⟩:=szIntS_some a3 r0 ma3 (by omega) (by omega)
  by_cases c1:r1 < 0
  · refine⟨-1,?_,by omega,fun h=>by omega⟩
    refine Ev.bind e0 ?_
    refine Ev.neg c0 ?_
    refine Ev.now_bind e1 ?_
    exact Ev.pos c1 (Ev.now _)
  refine⟨r1,?_,by omega,fun _=>⟨(g0 (by omega)),(g1 (by omega))⟩⟩
  refine Ev.bind e0 ?_
  refine Ev.neg c0 ?_
  refine Ev.now_bind e1 ?_
  exact Ev.neg c1 (Ev.now _)
end Go.Proofs.YtgfplmagpljmpaaGreat.MFnExactIsFaithful
