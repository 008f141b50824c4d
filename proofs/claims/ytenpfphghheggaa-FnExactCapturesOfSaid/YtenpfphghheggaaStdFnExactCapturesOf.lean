/- Plain lemmas on the helpers of the law FnExactCapturesOf: sizes, copies, equality with itself, marks and what holds them. Written by a program of this session. -/
import Derived.Test.YtenpfphghheggaaGen
import Derived.Test.YtenpfphghheggaaMFnExactCapturesOfx0
import Derived.Test.YtenpfphghheggaaMFnExactCapturesOfx1
import Derived.Test.YtenpfphghheggaaMFnExactCapturesOfx2
import Derived.Test.YtenpfphghheggaaMFnExactCapturesOfx3
import Derived.Test.YtenpfphghheggaaMFnExactCapturesOfx4
import Derived.Test.YtenpfphghheggaaMFnExactCapturesOfx5
import Derived.Test.YtenpfphghheggaaMFnExactCapturesOfx6
import Derived.Test.YtenpfphghheggaaMFnExactCapturesOfx7
import Derived.Test.YtenpfphghheggaaMFnExactCapturesOfx8
import Derived.Test.YtenpfphghheggaaMFnExactCapturesOfx9
import Derived.Test.YtenpfphghheggaaMFnExactCapturesOfx10
import Derived.Test.YtenpfphghheggaaMFnExactCapturesOfx11
import Derived.Test.YtenpfphghheggaaMFnExactCapturesOfx12
import Derived.Test.YtenpfphghheggaaMFnExactCapturesOfx13
import Derived.Test.YtenpfphghheggaaMFnExactCapturesOfx14
import Derived.Test.YtenpfphghheggaaMFnExactCapturesOfx15
import Derived.Test.YtenpfphghheggaaMFnExactCapturesOfx16
import Derived.Test.YtenpfphghheggaaMFnExactCapturesOfx17
import Derived.Test.YtenpfphghheggaaMFnExactCapturesOfx90
namespace Go.Proofs.Ytenpfphghheggaa.MFnExactCapturesOf
open Go.RowKit Go.Proofs.YtenpfphghheggaaW.PrintWords Go.Proofs.YtenpfphghheggaaW.PrintLast Go.Proofs.YtenpfphghheggaaW.PrintMore Go.Proofs.Ytenpfphghheggaa.Gen
set_option linter.unusedVariables false
set_option linter.unusedSimpArgs false
theorem szIntS_some (l:List Int)(a:Int)(h:l.length≤maxLen)(h0:0≤a)(h1:a≤1048576):∃ r,laws_szIntS.f l a=some r∧r≤1048576∧(0≤r→l.length≤1048576):=by
  unfold maxLen at h
  unfold laws_szIntS.f
  rw[w64 (by omega) (by omega)]
  by_cases c:a - (l.length:Int) < 0
  · rw[if_pos c];exact⟨_,rfl,by omega,by omega⟩
  · rw[if_neg c];exact⟨_,rfl,by omega,by omega⟩
theorem toIntS_ev (l:List Int)(h:l.length≤1048576):Ev (fun k=>laws_toIntS.f k l) l:=by
  unfold laws_toIntS.f
  refine Ev.pos (by omega) ?_
  refine Ev.pos (by simp only[Int.toNat_natCast];omega) ?_
  simp only[Int.toNat_natCast]
  refine Ev.cast (ev_fill (fun k x i=>laws_toIntS.l0 k l x i) l 0 id 0 (fun k x=>by simp[laws_toIntS.l0]) ?_) (List.map_id l)
  intro i x r hi hx h
  refine Ev.round (fun _=>by rw[laws_toIntS.l0]) ?_
  refine Ev.pos (by omega) ?_
  refine Ev.pos (by omega) ?_
  refine Ev.pos (by omega) ?_
  have e1:wrap64 ((i:Int)+1)=((i+1:Nat):Int):=by rw[w64 (by omega) (by omega)];omega
  simp only[e1]
  exact h
theorem eqIntSb_refl (l:List Int)(h:l.length≤16777216):Ev (fun k=>laws_eqIntS.f k l l) true:=by
  unfold laws_eqIntS.f
  refine Ev.pos rfl ?_
  refine ev_down (fun k i=>laws_eqIntS.l0 k l l (i:Int)) l.length (fun _=>true) (Ev.round (fun _=>by rw[laws_eqIntS.l0]) (Ev.neg (by omega) (Ev.now _))) (fun i hi h=>?_)
  refine Ev.round (fun _=>by rw[laws_eqIntS.l0]) ?_
  refine Ev.pos (by omega) ?_
  refine Ev.pos (by omega) ?_
  refine Ev.pos (by omega) ?_
  refine Ev.pos rfl ?_
  have e1:wrap64 ((i:Int)+1)=((i+1:Nat):Int):=by rw[w64 (by omega) (by omega)];omega
  simp only[e1]
  exact h
theorem eqIntS_refl (l:List Int)(h:l.length≤1048576):Ev (fun k=>laws_eqIntS.f k l l) true:=eqIntSb_refl l (by omega)
theorem markIntSb_ev (l:List Int)(a:Int)(h:l.length≤16777216)(h0:0≤a)(h1:a≤1152921504606846976):Ev (fun k=>laws_markIntS.f k l a) (a+(l.length:Int),(List.range l.length).map fun j:Nat=>a+(j:Int)):=by
  unfold laws_markIntS.f
  have main:=ev_down (fun k i=>laws_markIntS.l0 k ((List.range i).map (fun j:Nat=>a+(j:Int))++l.drop i) (a+(i:Int)) (i:Int)) l.length (fun _=>(a+(l.length:Int),(List.range l.length).map fun j:Nat=>a+(j:Int)))
    (Ev.round (fun _=>by rw[laws_markIntS.l0]) (Ev.neg (by simp) (Ev.const fun _=>by simp)))
    (fun i hi h=>?_)
  · simpa using main
  refine Ev.round (fun _=>by rw[laws_markIntS.l0]) ?_
  refine Ev.pos (by simp;omega) ?_
  refine Ev.pos (by omega) ?_
  have e1:wrap64 ((i:Int)+1)=((i+1:Nat):Int):=by rw[w64 (by omega) (by omega)];omega
  have e2:wrap64 (a+(i:Int)+1)=a+((i+1:Nat):Int):=by rw[w64 (by omega) (by omega)];omega
  have e3:((List.range i).map (fun j:Nat=>a+(j:Int))++l.drop i).set i (a+(i:Int))=(List.range (i+1)).map (fun j:Nat=>a+(j:Int))++l.drop (i+1):=by
    rw[List.set_append_right _ _ (by simp),drop_cons l i hi 0,List.range_succ,List.map_append,List.append_assoc]
    simp
  simp only[e1,e2,Int.toNat_natCast,e3]
  exact h
theorem markIntS_ev (l:List Int)(a:Int)(h:l.length≤1048576)(h0:0≤a)(h1:a≤1152921504606846976):Ev (fun k=>laws_markIntS.f k l a) (a+(l.length:Int),(List.range l.length).map fun j:Nat=>a+(j:Int)):=markIntSb_ev l a (by omega) h0 h1
theorem heldIntSb_ev (n:Nat)(a:Int)(h:n≤16777216)(h0:0≤a)(h1:a≤1152921504606846976):Ev (fun k=>laws_heldIntS.f k ((List.range n).map fun j:Nat=>a+(j:Int)) a) (a+(n:Int)):=by
  unfold laws_heldIntS.f
  have main:=ev_down (fun k i=>laws_heldIntS.l0 k ((List.range n).map fun j:Nat=>a+(j:Int)) (a+(i:Int)) (i:Int)) n (fun _=>a+(n:Int))
    (Ev.round (fun _=>by rw[laws_heldIntS.l0]) (Ev.neg (by simp) (Ev.now _)))
    (fun i hi h=>?_)
  · simpa using main
  refine Ev.round (fun _=>by rw[laws_heldIntS.l0]) ?_
  refine Ev.pos (by simp;omega) ?_
  refine Ev.pos (by omega) ?_
  refine Ev.pos ?_ ?_
  · rw[rd_nat,getD_in _ _ (by simpa using hi)]
    simp
  have e1:wrap64 ((i:Int)+1)=((i+1:Nat):Int):=by rw[w64 (by omega) (by omega)];omega
  have e2:wrap64 (a+(i:Int)+1)=a+((i+1:Nat):Int):=by rw[w64 (by omega) (by omega)];omega
  simp only[e1,e2]
  exact h
theorem heldIntS_ev (n:Nat)(a:Int)(h:n≤1048576)(h0:0≤a)(h1:a≤1152921504606846976):Ev (fun k=>laws_heldIntS.f k ((List.range n).map fun j:Nat=>a+(j:Int)) a) (a+(n:Int)):=heldIntSb_ev n a (by omega) h0 h1
def FitlawsVersion (y:S78):Prop:=y.f2.f1.length≤1048576
def cvVersion (y:S78):S86:=(⟨(⟨y.f0.f0,y.f0.f1,y.f0.f2⟩:S52),y.f1,(⟨y.f2.f0,y.f2.f1,(⟨y.f2.f2.f0,y.f2.f2.f1,y.f2.f2.f2⟩:S52)⟩:S56)⟩:S86)
def FitimplVersion (y:S86):Prop:=y.f2.f1.length≤1048576
def FitlawsOp (y:S65):Prop:=True
def cvOp (y:S65):S63:=(⟨y.f0,y.f1,y.f2,y.f3⟩:S63)
def FitimplOp (y:S63):Prop:=True
def FitimplCapture (y:S61):Prop:=y.f2.f1.length≤1048576
theorem toAddress_eq (a0:Int)(a1:Int)(a2:Int):laws_toAddress.f a0 a1 a2=some (a0,a1,a2):=by
  simp[laws_toAddress.f]
theorem eqAddress_refl (a0:Int)(a1:Int)(a2:Int):laws_eqAddress.f a0 a1 a2 a0 a1 a2=some true:=by
  simp[laws_eqAddress.f]
theorem toResource_ev (a0:Int)(a1:List Int)(a2:Int)(a3:Int)(a4:Int)(ha1:a1.length≤1048576):Ev (fun k=>laws_toResource.f k a0 a1 a2 a3 a4) (a0,a1,a2,a3,a4):=by
  unfold laws_toResource.f
  refine Ev.bind (toIntS_ev a1 ha1) ?_
  refine Ev.now_bind (toAddress_eq a2 a3 a4) ?_
  exact Ev.now _
theorem eqResource_refl (a0:Int)(a1:List Int)(a2:Int)(a3:Int)(a4:Int)(ha1:a1.length≤1048576):Ev (fun k=>laws_eqResource.f k a0 a1 a2 a3 a4 a0 a1 a2 a3 a4) true:=by
  unfold laws_eqResource.f
  refine Ev.pos rfl ?_
  refine Ev.bind (eqIntS_refl a1 ha1) ?_
  refine Ev.pos rfl ?_
  refine Ev.now_bind (eqAddress_refl a2 a3 a4) ?_
  refine Ev.pos rfl ?_
  exact Ev.now _
theorem szResource_some (a0:Int)(a1:List Int)(a2:Int)(a3:Int)(a4:Int)(n:Int)(ma1:a1.length≤maxLen)(h0:0≤n)(h1:n≤1048576):∃ r,laws_szResource.f a0 a1 a2 a3 a4 n=some r∧r≤1048576∧(0≤r→a1.length≤1048576):=by
  unfold laws_szResource.f
  obtain⟨r0,e0,b0,g0⟩:=szIntS_some a1 n ma1 (by omega) (by omega)
  rw[e0]
  simp only[Option.bind_some]
  by_cases c0:r0 < 0
  · rw[if_pos c0];exact⟨_,rfl,by omega,fun h=>by omega⟩
  rw[if_neg c0]
  exact⟨_,rfl,by omega,fun _=>(g0 (by omega))⟩
theorem toVersion_ev (a0:Int)(a1:Int)(a2:Int)(a3:Int)(a4:Int)(a5:List Int)(a6:Int)(a7:Int)(a8:Int)(ha5:a5.length≤1048576):Ev (fun k=>laws_toVersion.f k a0 a1 a2 a3 a4 a5 a6 a7 a8) (a0,a1,a2,a3,a4,a5,a6,a7,a8):=by
  unfold laws_toVersion.f
  refine Ev.now_bind (toAddress_eq a0 a1 a2) ?_
  refine Ev.bind (toResource_ev a4 a5 a6 a7 a8 ha5) ?_
  exact Ev.now _
theorem eqVersion_refl (a0:Int)(a1:Int)(a2:Int)(a3:Int)(a4:Int)(a5:List Int)(a6:Int)(a7:Int)(a8:Int)(ha5:a5.length≤1048576):Ev (fun k=>laws_eqVersion.f k a0 a1 a2 a3 a4 a5 a6 a7 a8 a0 a1 a2 a3 a4 a5 a6 a7 a8) true:=by
  unfold laws_eqVersion.f
  refine Ev.now_bind (eqAddress_refl a0 a1 a2) ?_
  refine Ev.pos rfl ?_
  refine Ev.pos rfl ?_
  refine Ev.bind (eqResource_refl a4 a5 a6 a7 a8 ha5) ?_
  refine Ev.pos rfl ?_
  exact Ev.now _
theorem szVersion_some (a0:Int)(a1:Int)(a2:Int)(a3:Int)(a4:Int)(a5:List Int)(a6:Int)(a7:Int)(a8:Int)(n:Int)(ma5:a5.length≤maxLen)(h0:0≤n)(h1:n≤1048576):∃ r,laws_szVersion.f a0 a1 a2 a3 a4 a5 a6 a7 a8 n=some r∧r≤1048576∧(0≤r→a5.length≤1048576):=by
  unfold laws_szVersion.f
  obtain⟨r0,e0,b0,g0⟩:=szResource_some a4 a5 a6 a7 a8 n ma5 (by omega) (by omega)
  rw[e0]
  simp only[Option.bind_some]
  by_cases c0:r0 < 0
  · rw[if_pos c0];exact⟨_,rfl,by omega,fun h=>by omega⟩
  rw[if_neg c0]
  exact⟨_,rfl,by omega,fun _=>(g0 (by omega))⟩
def MaxVersion (y:S78):Prop:=y.f2.f1.length≤maxLen
theorem szVersionS_some (l:List S78)(a:Int)(h:l.length≤maxLen∧∀ y∈l,MaxVersion y)(h0:0≤a)(h1:a≤1048576):∃ r,Ev (fun k=>laws_szVersionS.f k l a) r∧r≤1048576∧(0≤r→l.length≤1048576∧∀ y∈l,FitlawsVersion y):=by
  obtain⟨h,hy⟩:=h
  unfold maxLen at h
  unfold laws_szVersionS.f
  rw[w64 (by omega) (by omega)]
  by_cases c:a - (l.length:Int) < 0
  · exact⟨-1,Ev.pos c (Ev.now _),by omega,fun h=>by omega⟩
  have key:∀ d i:Nat,i+d=l.length→∀ b:Int,0≤b→b≤1048576→∃ r,Ev (fun k=>laws_szVersionS.l0 k l b (i:Int)) r∧r≤1048576∧(0≤r→∀ y∈l.drop i,FitlawsVersion y):=by
    intro d
    induction d with
    | zero =>
      intro i hi b hb0 hb1
      obtain rfl:i=l.length:=by omega
      exact⟨b,Ev.round (fun _=>by rw[laws_szVersionS.l0]) (Ev.neg (by omega) (Ev.now _)),hb1,fun _=>by simp⟩
    | succ d ih =>
      intro i hi b hb0 hb1
      have hil:i < l.length:=by omega
      have hmem:=getD_mem l i hil z78
      obtain⟨r0,e0,b0,g0⟩:=szVersion_some (l.getD i z78).f0.f0 (l.getD i z78).f0.f1 (l.getD i z78).f0.f2 (l.getD i z78).f1 (l.getD i z78).f2.f0 (l.getD i z78).f2.f1 (l.getD i z78).f2.f2.f0 (l.getD i z78).f2.f2.f1 (l.getD i z78).f2.f2.f2 b (hy _ hmem) hb0 hb1
      by_cases c0:r0 < 0
      · refine⟨-1,?_,by omega,fun h=>by omega⟩
        refine Ev.round (fun _=>by rw[laws_szVersionS.l0]) ?_
        refine Ev.pos (by omega) ?_
        refine Ev.pos (by omega) ?_
        refine Ev.now_bind e0 ?_
        refine Ev.pos c0 ?_
        exact Ev.now _
      obtain⟨r,er,br,gr⟩:=ih (i+1) (by omega) r0 (by omega) b0
      refine⟨r,?_,br,fun hr=>?_⟩
      · refine Ev.round (fun _=>by rw[laws_szVersionS.l0]) ?_
        refine Ev.pos (by omega) ?_
        refine Ev.pos (by omega) ?_
        refine Ev.now_bind e0 ?_
        refine Ev.neg c0 ?_
        have e1:wrap64 ((i:Int)+1)=((i+1:Nat):Int):=by rw[w64 (by omega) (by omega)];omega
        simp only[e1]
        exact er
      · rw[drop_cons l i hil z78]
        intro y hy2
        rcases List.mem_cons.1 hy2 with rfl | hy2
        · exact g0 (by omega)
        · exact gr hr y hy2
  obtain⟨r,er,br,gr⟩:=key l.length 0 (by omega) (a - (l.length:Int)) (by omega) (by omega)
  exact⟨r,Ev.neg c er,br,fun hr=>⟨by omega,by simpa using gr hr⟩⟩
theorem toVersionS_ev (l:List S78)(h:l.length≤1048576)(hy:∀ y∈l,FitlawsVersion y):Ev (fun k=>laws_toVersionS.f k l) (l.map cvVersion):=by
  unfold laws_toVersionS.f
  refine Ev.pos (by omega) ?_
  refine Ev.pos (by simp only[Int.toNat_natCast];omega) ?_
  simp only[Int.toNat_natCast]
  refine ev_fill (fun k x i=>laws_toVersionS.l0 k l x i) l z78 cvVersion z86 (fun k x=>by simp[laws_toVersionS.l0]) ?_
  intro i x r hi hx h
  have hmem:=getD_mem l i hi z78
  refine Ev.round (fun _=>by rw[laws_toVersionS.l0]) ?_
  refine Ev.pos (by omega) ?_
  refine Ev.pos (by omega) ?_
  refine Ev.bind (toVersion_ev _ _ _ _ _ _ _ _ _ (hy _ hmem)) ?_
  refine Ev.pos (by omega) ?_
  have e1:wrap64 ((i:Int)+1)=((i+1:Nat):Int):=by rw[w64 (by omega) (by omega)];omega
  simp only[e1]
  exact h
theorem eqVersionS_refl (l:List S86)(h:l.length≤1048576)(hy:∀ y∈l,FitimplVersion y):Ev (fun k=>laws_eqVersionS.f k l l) true:=by
  unfold laws_eqVersionS.f
  refine Ev.pos rfl ?_
  refine ev_down (fun k i=>laws_eqVersionS.l0 k l l (i:Int)) l.length (fun _=>true) (Ev.round (fun _=>by rw[laws_eqVersionS.l0]) (Ev.neg (by omega) (Ev.now _))) (fun i hi h=>?_)
  have hmem:=getD_mem l i hi z86
  refine Ev.round (fun _=>by rw[laws_eqVersionS.l0]) ?_
  refine Ev.pos (by omega) ?_
  refine Ev.pos (by omega) ?_
  refine Ev.pos (by omega) ?_
  refine Ev.bind (eqVersion_refl _ _ _ _ _ _ _ _ _ (hy _ hmem)) ?_
  refine Ev.pos rfl ?_
  have e1:wrap64 ((i:Int)+1)=((i+1:Nat):Int):=by rw[w64 (by omega) (by omega)];omega
  simp only[e1]
  exact h
theorem toOp_eq (a0:Int)(a1:Int)(a2:Int)(a3:Int):laws_toOp.f a0 a1 a2 a3=some (a0,a1,a2,a3):=by
  simp[laws_toOp.f]
theorem eqOp_refl (a0:Int)(a1:Int)(a2:Int)(a3:Int):laws_eqOp.f a0 a1 a2 a3 a0 a1 a2 a3=some true:=by
  simp[laws_eqOp.f]
theorem szOpS_some (l:List S65)(a:Int)(h:l.length≤maxLen)(h0:0≤a)(h1:a≤1048576):∃ r,laws_szOpS.f l a=some r∧r≤1048576∧(0≤r→l.length≤1048576):=by
  unfold maxLen at h
  unfold laws_szOpS.f
  rw[w64 (by omega) (by omega)]
  by_cases c:a - (l.length:Int) < 0
  · rw[if_pos c];exact⟨_,rfl,by omega,by omega⟩
  · rw[if_neg c];exact⟨_,rfl,by omega,by omega⟩
theorem toOpS_ev (l:List S65)(h:l.length≤1048576):Ev (fun k=>laws_toOpS.f k l) (l.map cvOp):=by
  unfold laws_toOpS.f
  refine Ev.pos (by omega) ?_
  refine Ev.pos (by simp only[Int.toNat_natCast];omega) ?_
  simp only[Int.toNat_natCast]
  refine ev_fill (fun k x i=>laws_toOpS.l0 k l x i) l z65 cvOp z63 (fun k x=>by simp[laws_toOpS.l0]) ?_
  intro i x r hi hx h
  have hmem:=getD_mem l i hi z65
  refine Ev.round (fun _=>by rw[laws_toOpS.l0]) ?_
  refine Ev.pos (by omega) ?_
  refine Ev.pos (by omega) ?_
  refine Ev.now_bind (toOp_eq _ _ _ _) ?_
  refine Ev.pos (by omega) ?_
  have e1:wrap64 ((i:Int)+1)=((i+1:Nat):Int):=by rw[w64 (by omega) (by omega)];omega
  simp only[e1]
  exact h
theorem eqOpS_refl (l:List S63)(h:l.length≤1048576):Ev (fun k=>laws_eqOpS.f k l l) true:=by
  unfold laws_eqOpS.f
  refine Ev.pos rfl ?_
  refine ev_down (fun k i=>laws_eqOpS.l0 k l l (i:Int)) l.length (fun _=>true) (Ev.round (fun _=>by rw[laws_eqOpS.l0]) (Ev.neg (by omega) (Ev.now _))) (fun i hi h=>?_)
  have hmem:=getD_mem l i hi z63
  refine Ev.round (fun _=>by rw[laws_eqOpS.l0]) ?_
  refine Ev.pos (by omega) ?_
  refine Ev.pos (by omega) ?_
  refine Ev.pos (by omega) ?_
  refine Ev.now_bind (eqOp_refl _ _ _ _) ?_
  refine Ev.pos rfl ?_
  have e1:wrap64 ((i:Int)+1)=((i+1:Nat):Int):=by rw[w64 (by omega) (by omega)];omega
  simp only[e1]
  exact h
def mkOp (c:Int):S63:=(⟨c,c+1,c+2,c+3⟩:S63)
theorem markOpS_ev (l:List S63)(a:Int)(h:l.length≤1048576)(h0:0≤a)(h1:a≤1152921504600000000):Ev (fun k=>laws_markOpS.f k l a) (a+4 * (l.length:Int),(List.range l.length).map fun j:Nat=>mkOp (a+4 * (j:Int))):=by
  unfold laws_markOpS.f
  have main:=ev_down (fun k i=>laws_markOpS.l0 k ((List.range i).map (fun j:Nat=>mkOp (a+4 * (j:Int)))++l.drop i) (a+4 * (i:Int)) (i:Int)) l.length (fun _=>(a+4 * (l.length:Int),(List.range l.length).map fun j:Nat=>mkOp (a+4 * (j:Int))))
    (Ev.round (fun _=>by rw[laws_markOpS.l0]) (Ev.neg (by simp) (Ev.const fun _=>by simp)))
    (fun i hi h=>?_)
  · simpa using main
  refine Ev.round (fun _=>by rw[laws_markOpS.l0]) ?_
  refine Ev.pos (by simp;omega) ?_
  refine Ev.pos (by omega) ?_
  have e1:wrap64 ((i:Int)+1)=((i+1:Nat):Int):=by rw[w64 (by omega) (by omega)];omega
  have hlen:((List.range i).map (fun j:Nat=>mkOp (a+4 * (j:Int)))++l.drop i).length=l.length:=by simp;omega
  have e3:∀ v,((List.range i).map (fun j:Nat=>mkOp (a+4 * (j:Int)))++l.drop i).set i v=(List.range i).map (fun j:Nat=>mkOp (a+4 * (j:Int)))++v :: l.drop (i+1):=by
    intro v
    rw[List.set_append_right _ _ (by simp),drop_cons l i hi z63]
    simp
  have e4:∀ v u,((List.range i).map (fun j:Nat=>mkOp (a+4 * (j:Int)))++u :: l.drop (i+1)).set i v=(List.range i).map (fun j:Nat=>mkOp (a+4 * (j:Int)))++v :: l.drop (i+1):=by
    intro v u
    rw[List.set_append_right _ _ (by simp)]
    simp
  have e5:∀ u,rd_T63 ((List.range i).map (fun j:Nat=>mkOp (a+4 * (j:Int)))++u :: l.drop (i+1)) (i:Int)=u:=by
    intro u
    unfold rd_T63
    simp[List.getD_eq_getElem?_getD]
  have w0:wrap64 (a+4 * (i:Int)+1)=a+4 * (i:Int)+1:=(w64 (by omega) (by omega)).trans (by omega)
  have w1:wrap64 (a+4 * (i:Int)+1+1)=a+4 * (i:Int)+2:=(w64 (by omega) (by omega)).trans (by omega)
  have w2:wrap64 (a+4 * (i:Int)+2+1)=a+4 * (i:Int)+3:=(w64 (by omega) (by omega)).trans (by omega)
  have w3:wrap64 (a+4 * (i:Int)+3+1)=a+4 * (i:Int)+4:=(w64 (by omega) (by omega)).trans (by omega)
  simp only[e1,w0,w1,w2,w3,Int.toNat_natCast,Option.bind_some,e3,e4,e5]
  have e9:(List.range (i+1)).map (fun j:Nat=>mkOp (a+4 * (j:Int)))++l.drop (i+1)=(List.range i).map (fun j:Nat=>mkOp (a+4 * (j:Int)))++mkOp (a+4 * (i:Int)) :: l.drop (i+1):=by
    rw[List.range_succ,List.map_append,List.append_assoc]
    rfl
  rw[e9,show a+4 * ((i+1:Nat):Int)=a+4 * (i:Int)+4 by omega] at h
  exact h
theorem eqCapture_refl (a0:Int)(a1:Int)(a2:Int)(a3:Int)(a4:Int)(a5:List Int)(a6:Int)(a7:Int)(a8:Int)(ha5:a5.length≤1048576):Ev (fun k=>laws_eqCapture.f k a0 a1 a2 a3 a4 a5 a6 a7 a8 a0 a1 a2 a3 a4 a5 a6 a7 a8) true:=by
  unfold laws_eqCapture.f
  refine Ev.now_bind (eqAddress_refl a0 a1 a2) ?_
  refine Ev.pos rfl ?_
  refine Ev.pos rfl ?_
  refine Ev.bind (eqResource_refl a4 a5 a6 a7 a8 ha5) ?_
  refine Ev.pos rfl ?_
  exact Ev.now _
theorem eqCaptureS_refl (l:List S61)(h:l.length≤1048576)(hy:∀ y∈l,FitimplCapture y):Ev (fun k=>laws_eqCaptureS.f k l l) true:=by
  unfold laws_eqCaptureS.f
  refine Ev.pos rfl ?_
  refine ev_down (fun k i=>laws_eqCaptureS.l0 k l l (i:Int)) l.length (fun _=>true) (Ev.round (fun _=>by rw[laws_eqCaptureS.l0]) (Ev.neg (by omega) (Ev.now _))) (fun i hi h=>?_)
  have hmem:=getD_mem l i hi z61
  refine Ev.round (fun _=>by rw[laws_eqCaptureS.l0]) ?_
  refine Ev.pos (by omega) ?_
  refine Ev.pos (by omega) ?_
  refine Ev.pos (by omega) ?_
  refine Ev.bind (eqCapture_refl _ _ _ _ _ _ _ _ _ (hy _ hmem)) ?_
  refine Ev.pos rfl ?_
  have e1:wrap64 ((i:Int)+1)=((i+1:Nat):Int):=by rw[w64 (by omega) (by omega)];omega
  simp only[e1]
  exact h
theorem toVisit_ev (a0:List S78)(a1:Int)(a2:Int)(a3:List Int)(ha0:(a0.length≤1048576∧∀ e_∈a0,FitlawsVersion e_))(ha3:a3.length≤1048576):Ev (fun k=>laws_toVisit.f k a0 a1 a2 a3) (a0.map cvVersion,a1,a2,a3):=by
  unfold laws_toVisit.f
  refine Ev.bind (toVersionS_ev a0 ha0.1 ha0.2) ?_
  refine Ev.bind (toIntS_ev a3 ha3) ?_
  exact Ev.now _
theorem eqVisit_refl (a0:List S86)(a1:Int)(a2:Int)(a3:List Int)(ha0:(a0.length≤1048576∧∀ e_∈a0,FitimplVersion e_))(ha3:a3.length≤1048576):Ev (fun k=>laws_eqVisit.f k a0 a1 a2 a3 a0 a1 a2 a3) true:=by
  unfold laws_eqVisit.f
  refine Ev.bind (eqVersionS_refl a0 ha0.1 ha0.2) ?_
  refine Ev.pos rfl ?_
  refine Ev.pos rfl ?_
  refine Ev.pos rfl ?_
  refine Ev.bind (eqIntS_refl a3 ha3) ?_
  refine Ev.pos rfl ?_
  exact Ev.now _
theorem szVisit_some (a0:List S78)(a1:Int)(a2:Int)(a3:List Int)(n:Int)(ma0:(a0.length≤maxLen∧∀ e_∈a0,MaxVersion e_))(ma3:a3.length≤maxLen)(h0:0≤n)(h1:n≤1048576):∃ r,Ev (fun k=>laws_szVisit.f k a0 a1 a2 a3 n) r∧r≤1048576∧(0≤r→(a0.length≤1048576∧∀ e_∈a0,FitlawsVersion e_)∧a3.length≤1048576):=by
  unfold laws_szVisit.f
  obtain⟨r0,e0,b0,g0⟩:=szVersionS_some a0 n ma0 (by omega) (by omega)
  by_cases c0:r0 < 0
  · refine⟨-1,?_,by omega,fun h=>by omega⟩
    refine Ev.bind e0 ?_
    exact Ev.pos c0 (Ev.now _)
  obtain⟨r1,e1,b1,g1⟩:=szIntS_some a3 r0 ma3 (by omega) (by omega)
  by_cases c1:r1 < 0
  · refine⟨-1,?_,by omega,fun h=>by omega⟩
    refine Ev.bind e0 ?_
    refine Ev.neg c0 ?_
    refine Ev.now_bind e1 ?_
    exact Ev.pos c1 (Ev.now _)
  refine⟨r1,?_,by omega,fun _=>⟨(g0 (by omega)),(g1 (by omega))⟩⟩
  refine Ev.bind e0 ?_
  refine Ev.neg c0 ?_
  refine Ev.now_bind e1 ?_
  exact Ev.neg c1 (Ev.now _)
end Go.Proofs.Ytenpfphghheggaa.MFnExactCapturesOf
