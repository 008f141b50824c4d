/- FnCaptures: whatever bytes a script, a visit and captures are drawn from, every fetch of a visit leaves a capture of what the site had then and of nothing else, these are valid captures, and captures that were added once are not added again. No condition. -/
import Derived.Test.YtcbelifjkpbkfaaGreatMFnCapturesx90
import Derived.Test.YtcbelifjkpbkfaaGreatStdFnCaptures
namespace Go.Proofs.YtcbelifjkpbkfaaGreat.Pure
open Go.RowKit Go.Proofs.YtcbelifjkpbkfaaGreat.MFnCaptures Go.Proofs.YtcbelifjkpbkfaaGreatW.PrintWords Go.Proofs.YtcbelifjkpbkfaaGreatW.PrintLast Go.Proofs.YtcbelifjkpbkfaaGreatW.PrintMore Go.Proofs.YtcbelifjkpbkfaaGreat.Gen
set_option linter.unusedVariables false
set_option linter.unusedSimpArgs false
def FitimplVersion (y:S110):Prop:=y.f2.f1.length≤1048576
def FitimplCapture (y:S45):Prop:=y.f2.f1.length≤1048576
/-- A cursor that stands in its bytes or behind them. -/
def Cur (b:List Int)(i:Int):Prop:=b.length≤1048576∧0≤i∧i≤(b.length:Int)
theorem and255 (v:Int):0≤Go.bits .and .i64 v 255∧Go.bits .and .i64 v 255≤255:=by
  have hle:(BitVec.ofInt IntKind.i64.bits v &&& BitVec.ofInt IntKind.i64.bits 255).toNat≤255:=by
    rw[BitVec.toNat_and]
    exact Nat.le_trans Nat.and_le_right (by decide)
  have e:Go.bits .and .i64 v 255=(((BitVec.ofInt IntKind.i64.bits v &&& BitVec.ofInt IntKind.i64.bits 255).toNat:Nat):Int):=by
    simp only[Go.bits]
    rw[IntKind.wrap_i64]
    omega
  rw[e]
  omega
/-- From some number of rounds on g answers something of which Q is true. -/
def Any {α:Type}(g:Nat→Option α)(Q:α→Prop):Prop:=∃ r,Ev g r∧Q r
theorem Any.of {α:Type}{g:Nat→Option α}{Q:α→Prop}{r:α}(h:Ev g r)(q:Q r):Any g Q:=⟨r,h,q⟩
theorem Any.now {α:Type}{Q:α→Prop}{r:α}(q:Q r):Any (fun _=>some r) Q:=⟨r,Ev.now r,q⟩
theorem Any.mono {α:Type}{g:Nat→Option α}{P Q:α→Prop}(h:Any g P)(m:∀ r,P r→Q r):Any g Q:=by
  obtain⟨r,e,q⟩:=h
  exact⟨r,e,m r q⟩
theorem Any.bind {α β:Type}{f:Nat→Option β}{g:Nat→β→Option α}{P:β→Prop}{Q:α→Prop}(h:Any f P)(k:∀ x,P x→Any (fun n=>g n x) Q):Any (fun n=>(f n).bind (g n)) Q:=by
  obtain⟨x,e,p⟩:=h
  obtain⟨r,e2,q⟩:=k x p
  exact⟨r,Ev.bind e e2,q⟩
theorem Any.ev {α β:Type}{f:Nat→Option β}{g:Nat→β→Option α}{v:β}{Q:α→Prop}(h:Ev f v)(k:Any (fun n=>g n v) Q):Any (fun n=>(f n).bind (g n)) Q:=by
  obtain⟨r,e2,q⟩:=k
  exact⟨r,Ev.bind h e2,q⟩
theorem Any.opt {α β:Type}{o:Option β}{g:Nat→β→Option α}{P:β→Prop}{Q:α→Prop}(h:∃ x,o=some x∧P x)(k:∀ x,P x→Any (fun n=>g n x) Q):Any (fun n=>o.bind (g n)) Q:=by
  obtain⟨x,e,p⟩:=h
  obtain⟨r,e2,q⟩:=k x p
  exact⟨r,Ev.now_bind e e2,q⟩
theorem Any.ite {α:Type}{c:Prop} [Decidable c] {A B:Nat→Option α}{Q:α→Prop}(k:c→Any A Q)(l:¬c→Any B Q):Any (fun n=>if c then A n else B n) Q:=by
  by_cases h:c
  · obtain⟨r,e,q⟩:=k h
    exact⟨r,Ev.pos h e,q⟩
  · obtain⟨r,e,q⟩:=l h
    exact⟨r,Ev.neg h e,q⟩
theorem Any.pos {α:Type}{c:Prop} [Decidable c] {A B:Nat→Option α}{Q:α→Prop}(h:c)(k:Any A Q):Any (fun n=>if c then A n else B n) Q:=by
  obtain⟨r,e,q⟩:=k
  exact⟨r,Ev.pos h e,q⟩
theorem Any.neg {α:Type}{c:Prop} [Decidable c] {A B:Nat→Option α}{Q:α→Prop}(h:¬c)(k:Any B Q):Any (fun n=>if c then A n else B n) Q:=by
  obtain⟨r,e,q⟩:=k
  exact⟨r,Ev.neg h e,q⟩
theorem Any.round {α:Type}{g f:Nat→Option α}{Q:α→Prop}(h:∀ k,g (k+1)=f k)(k:Any f Q):Any g Q:=by
  obtain⟨r,e,q⟩:=k
  exact⟨r,Ev.round h e,q⟩
theorem Any.to {α:Type}{g:Nat→Option α}{v:α}(h:Any g (fun r=>r=v)):Ev g v:=by
  obtain⟨r,e,rfl⟩:=h
  exact e
theorem Any.then_ {α β:Type}{f:Nat→Option β}{g:Nat→β→Option α}{P:β→Prop}{v:α}(h:Any f P)(k:∀ x,P x→Ev (fun n=>g n x) v):Ev (fun n=>(f n).bind (g n)) v:=by
  obtain⟨x,e,p⟩:=h
  exact Ev.bind e (k x p)
theorem l1New_ev (b:List Int)(hb:b.length≤1048576):∃ h,Ev (fun k=>spec_l1New.f k b) (b,0,h):=by
  unfold spec_l1New.f
  have key:∀ d i:Nat,i+d=b.length→∀ h:Int,∃ g,Ev (fun k=>spec_l1New.l0 k b h (i:Int)) (b,0,g):=by
    intro d
    induction d with
    | zero =>
      intro i hi h
      refine⟨h,?_⟩
      refine Ev.round (fun _=>by rw[spec_l1New.l0]) ?_
      refine Ev.neg (by omega) ?_
      exact Ev.now _
    | succ d ih =>
      intro i hi h
      by_cases h4:(i:Int) < 4000
      · have e1:wrap64 ((i:Int)+1)=((i+1:Nat):Int):=by rw[w64 (by omega) (by omega)];omega
        obtain⟨g,hg⟩:=ih (i+1) (by omega) (Go.bits .and .i64 (wrap64 ((wrap64 ((wrap64 (h * 137))+(wrap64 (rd b (i:Int)))))+11)) 1073741823)
        refine⟨g,?_⟩
        refine Ev.round (fun _=>by rw[spec_l1New.l0]) ?_
        refine Ev.pos (by omega) ?_
        refine Ev.pos h4 ?_
        refine Ev.pos (by omega) ?_
        simp only[e1]
        exact hg
      · refine⟨h,?_⟩
        refine Ev.round (fun _=>by rw[spec_l1New.l0]) ?_
        refine Ev.pos (by omega) ?_
        refine Ev.neg h4 ?_
        exact Ev.now _
  exact key b.length 0 (by omega) _
theorem cur0 (b:List Int)(hb:b.length≤1048576):Cur b 0:=⟨hb,by omega,by omega⟩
theorem aNew (b:List Int)(hb:b.length≤1048576):Any (fun k=>spec_l1New.f k b) (fun x=>x.1=b∧Cur b x.2.1):=by
  obtain⟨h,e⟩:=l1New_ev b hb
  exact⟨_,e,rfl,cur0 b hb⟩
theorem l1Byte_some (b:List Int)(i h:Int)(c:Cur b i):∃ x j g,spec_l1Byte.f b i h=some (x,j,g)∧(0≤x∧x≤255)∧Cur b j:=by
  obtain⟨c1,c2,c3⟩:=c
  unfold spec_l1Byte.f
  by_cases hi:i < (b.length:Int)
  · rw[if_pos hi,if_pos c2]
    exact⟨_,_,_,rfl,and255 _,c1,by rw[w64 (by omega) (by omega)];omega,by rw[w64 (by omega) (by omega)];omega⟩
  · rw[if_neg hi]
    exact⟨_,_,_,rfl,and255 _,c1,c2,c3⟩
theorem l1Below_some (b:List Int)(i h n:Int)(c:Cur b i):∃ x j g,spec_l1Below.f b i h n=some (x,j,g)∧0≤x∧(0 < n→x < n)∧Cur b j:=by
  unfold spec_l1Below.f
  by_cases h0:n≤0
  · rw[if_pos h0]
    exact⟨0,i,h,rfl,by omega,by omega,c⟩
  rw[if_neg h0]
  by_cases h1:n≤256
  · rw[if_pos h1]
    obtain⟨x,j,g,e,b1,cj⟩:=l1Byte_some b i h c
    rw[e]
    simp only[Option.bind_some]
    rw[if_neg (by omega)]
    refine⟨_,_,_,rfl,?_,?_,cj⟩
    · rw[Int.tmod_eq_emod_of_nonneg b1.1]
      exact Int.emod_nonneg _ (by omega)
    · intro hn
      rw[Int.tmod_eq_emod_of_nonneg b1.1]
      exact Int.emod_lt_of_pos _ hn
  · rw[if_neg h1]
    obtain⟨x,j,g,e,b1,cj⟩:=l1Byte_some b i h c
    obtain⟨y,j2,g2,e2,b2,cj2⟩:=l1Byte_some b j g cj
    obtain⟨z,j3,g3,e3,b3,cj3⟩:=l1Byte_some b j2 g2 cj2
    rw[e]
    simp only[Option.bind_some]
    rw[e2]
    simp only[Option.bind_some]
    rw[e3]
    simp only[Option.bind_some]
    rw[if_neg (by omega)]
    have hv:0≤wrap64 (wrap64 (wrap64 (x * 65536)+wrap64 (y * 256))+z):=by
      rw[w64 (n:=x * 65536) (by omega) (by omega),w64 (n:=y * 256) (by omega) (by omega),w64 (n:=x * 65536+y * 256) (by omega) (by omega),w64 (by omega) (by omega)]
      omega
    refine⟨_,_,_,rfl,?_,?_,cj3⟩
    · rw[Int.tmod_eq_emod_of_nonneg hv]
      exact Int.emod_nonneg _ (by omega)
    · intro hn
      rw[Int.tmod_eq_emod_of_nonneg hv]
      exact Int.emod_lt_of_pos _ hn
theorem l1Below_lt (b:List Int)(i h n:Int)(hn:0 < n)(c:Cur b i):∃ x j g,spec_l1Below.f b i h n=some (x,j,g)∧(0≤x∧x < n)∧Cur b j:=by
  obtain⟨x,j,g,e,h0,h1,cj⟩:=l1Below_some b i h n c
  exact⟨x,j,g,e,⟨h0,h1 hn⟩,cj⟩
theorem l1Once_some (b:List Int)(i h n:Int)(c:Cur b i):∃ x j g,spec_l1Once.f b i h n=some (x,j,g)∧Cur b j:=by
  obtain⟨x,j,g,e,_,_,cj⟩:=l1Below_some b i h n c
  unfold spec_l1Once.f
  rw[e]
  exact⟨_,_,_,rfl,cj⟩
theorem l10Op_ev (b:List Int)(i h:Int)(c:Cur b i):∃ y0 y1 y2 y3 j g,Ev (fun k=>spec_l10Op.f k b i h) (y0,y1,y2,y3,j,g)∧Cur b j:=by
  have hj:∀ (i h k0 a:Int),Cur b i→∃ y0 y1 y2 y3 j g,Ev (fun k=>spec_l10Op.j0 k b i h k0 a 0 0) (y0,y1,y2,y3,j,g)∧Cur b j:=by
    intro i h k0 a c
    obtain⟨x,j,g,e,hx,cj⟩:=l1Below_lt b i h 3 (by omega) c
    obtain⟨x2,j2,g2,e2,hx2,cj2⟩:=l1Below_lt b j g 3 (by omega) cj
    obtain⟨z,m,n,e3,hx3,cm⟩:=l1Below_lt b i h 4 (by omega) c
    obtain⟨z2,m2,n2,e4,hx4,cm2⟩:=l1Below_lt b m n 4 (by omega) cm
    by_cases h1:k0=1
    · iterate 6 apply Exists.intro
      refine⟨?_,cj2⟩
      refine Ev.round (fun _=>by rw[spec_l10Op.j0]) ?_
      refine Ev.pos h1 ?_
      refine Ev.now_bind e ?_
      refine Ev.now_bind e2 ?_
      exact Ev.now _
    by_cases h5:k0=5
    · iterate 6 apply Exists.intro
      refine⟨?_,cm2⟩
      refine Ev.round (fun _=>by rw[spec_l10Op.j0]) ?_
      refine Ev.neg h1 ?_
      refine Ev.pos h5 ?_
      refine Ev.now_bind e3 ?_
      refine Ev.now_bind e4 ?_
      exact Ev.now _
    by_cases h6:k0=6
    · iterate 6 apply Exists.intro
      refine⟨?_,cm⟩
      refine Ev.round (fun _=>by rw[spec_l10Op.j0]) ?_
      refine Ev.neg h1 ?_
      refine Ev.neg h5 ?_
      refine Ev.pos h6 ?_
      refine Ev.now_bind e3 ?_
      exact Ev.now _
    by_cases h7:k0=7
    · iterate 6 apply Exists.intro
      refine⟨?_,cj⟩
      refine Ev.round (fun _=>by rw[spec_l10Op.j0]) ?_
      refine Ev.neg h1 ?_
      refine Ev.neg h5 ?_
      refine Ev.neg h6 ?_
      refine Ev.pos h7 ?_
      refine Ev.now_bind e ?_
      exact Ev.now _
    by_cases h8:k0=8
    · iterate 6 apply Exists.intro
      refine⟨?_,cj⟩
      refine Ev.round (fun _=>by rw[spec_l10Op.j0]) ?_
      refine Ev.neg h1 ?_
      refine Ev.neg h5 ?_
      refine Ev.neg h6 ?_
      refine Ev.neg h7 ?_
      refine Ev.pos h8 ?_
      refine Ev.now_bind e ?_
      exact Ev.now _
    by_cases h9:k0=9
    · iterate 6 apply Exists.intro
      refine⟨?_,cj⟩
      refine Ev.round (fun _=>by rw[spec_l10Op.j0]) ?_
      refine Ev.neg h1 ?_
      refine Ev.neg h5 ?_
      refine Ev.neg h6 ?_
      refine Ev.neg h7 ?_
      refine Ev.neg h8 ?_
      refine Ev.pos h9 ?_
      refine Ev.now_bind e ?_
      exact Ev.now _
    · iterate 6 apply Exists.intro
      refine⟨?_,c⟩
      refine Ev.round (fun _=>by rw[spec_l10Op.j0]) ?_
      refine Ev.neg h1 ?_
      refine Ev.neg h5 ?_
      refine Ev.neg h6 ?_
      refine Ev.neg h7 ?_
      refine Ev.neg h8 ?_
      refine Ev.neg h9 ?_
      exact Ev.now _
  unfold spec_l10Op.f
  obtain⟨x,j,g,e,hx,cj⟩:=l1Below_lt b i h 9 (by omega) c
  obtain⟨x2,j2,g2,e2,hx2,cj2⟩:=l1Below_lt b j g 3 (by omega) cj
  obtain⟨x3,j3,g3,e3,cj3⟩:=l1Once_some b j2 g2 3 cj2
  cases x3 with
  | true =>
    obtain⟨y0,y1,y2,y3,j4,g4,ev,c4⟩:=hj j3 g3 1 x2 cj3
    refine⟨y0,y1,y2,y3,j4,g4,?_,c4⟩
    refine Ev.now_bind e ?_
    refine Ev.now_bind e2 ?_
    refine Ev.now_bind e3 ?_
    exact Ev.pos rfl ev
  | false =>
    obtain⟨y0,y1,y2,y3,j4,g4,ev,c4⟩:=hj j3 g3 (wrap64 (1+x)) x2 cj3
    refine⟨y0,y1,y2,y3,j4,g4,?_,c4⟩
    refine Ev.now_bind e ?_
    refine Ev.now_bind e2 ?_
    refine Ev.now_bind e3 ?_
    exact Ev.neg (by simp) ev
theorem l10Draw_ev (b:List Int)(i h:Int)(c:Cur b i):∃ l j g,Ev (fun k=>spec_l10Draw.f k b i h) (l,j,g)∧l.length≤12∧Cur b j:=by
  unfold spec_l10Draw.f
  obtain⟨x,j,g,e,hx,cj⟩:=l1Below_lt b i h 13 (by omega) c
  have key:∀ (d:Nat) (l:List S106) (i h:Int),Cur b i→d+l.length≤12→∃ l' j g,Ev (fun k=>spec_l10Draw.l0 k l (d:Int) b i h) (l',j,g)∧l'.length≤12∧Cur b j:=by
    intro d
    induction d with
    | zero =>
      intro l i h c hl
      refine⟨l,i,h,?_,by omega,c⟩
      refine Ev.round (fun _=>by rw[spec_l10Draw.l0]) ?_
      refine Ev.neg (by omega) ?_
      exact Ev.now _
    | succ d ih =>
      intro l i h c hl
      obtain⟨y0,y1,y2,y3,j,g,ev,cj⟩:=l10Op_ev b i h c
      obtain⟨l',j',g',ev',hl',cj'⟩:=ih (l++[(⟨y0,y1,y2,y3⟩:S106)]) j g cj (by simp;omega)
      refine⟨l',j',g',?_,hl',cj'⟩
      have e1:wrap64 (((d+1:Nat):Int) - 1)=(d:Int):=by rw[w64 (by omega) (by omega)];omega
      refine Ev.round (fun _=>by rw[spec_l10Draw.l0]) ?_
      refine Ev.pos (by omega) ?_
      refine Ev.bind ev ?_
      refine Ev.pos (by omega) ?_
      simp only[e1]
      exact ev'
  obtain⟨l',j',g',ev',hl',cj'⟩:=key x.toNat [] j g cj (by simp;omega)
  refine⟨l',j',g',?_,hl',cj'⟩
  refine Ev.now_bind e ?_
  rw[show(x.toNat:Int)=x by omega] at ev'
  exact ev'
theorem l1Int_some (b:List Int)(i h:Int)(l:List Int)(hl:0 < l.length)(c:Cur b i):∃ x j g,spec_l1Int.f b i h l=some (x,j,g)∧x∈l∧Cur b j:=by
  obtain⟨x,j,g,e,hx,cj⟩:=l1Below_lt b i h (l.length:Int) (by omega) c
  unfold spec_l1Int.f
  rw[e]
  simp only[Option.bind_some]
  rw[if_pos hx.1,if_pos hx.2]
  refine⟨_,_,_,rfl,?_,cj⟩
  exact getD_mem l x.toNat (by omega) 0
theorem l4Raw_some (b:List Int)(i h:Int)(c:Cur b i):∃ x j g,spec_l4Raw.f b i h=some (x,j,g)∧(-9223372036854775808≤x∧x≤9223372036854775807)∧Cur b j:=by
  unfold spec_l4Raw.f
  obtain⟨x,j,g,e,hx,cj⟩:=l1Int_some b i h [-1,0,9,10,99,100,9223372036854775807,-9223372036854775808] (by simp) c
  rw[e]
  refine⟨x,j,g,rfl,?_,cj⟩
  simp only[List.mem_cons,List.not_mem_nil,or_false] at hx
  omega
theorem l10Any_ev (b:List Int)(i h:Int)(c:Cur b i):∃ l j g,Ev (fun k=>spec_l10Any.f k b i h) (l,j,g)∧l.length≤17∧Cur b j:=by
  unfold spec_l10Any.f
  obtain⟨l,j,g,ev,hl,cj⟩:=l10Draw_ev b i h c
  by_cases h0:l.length=0
  · refine⟨l,j,g,?_,by omega,cj⟩
    refine Ev.bind ev ?_
    refine Ev.pos (by simp[h0]) ?_
    exact Ev.now _
  obtain⟨x,j2,g2,e2,hx,cj2⟩:=l1Below_lt b j g (l.length:Int) (by omega) cj
  obtain⟨y,j3,g3,e3,hy,cj3⟩:=l1Below_lt b j2 g2 12 (by omega) cj2
  obtain⟨v1,m1,n1,f1,_,cm1⟩:=l1Int_some b j3 g3 [0,10,5] (by simp) cj3
  obtain⟨v2,m2,n2,f2,_,cm2⟩:=l1Int_some b j3 g3 [-1,3,4] (by simp) cj3
  obtain⟨v3,m3,n3,f3,_,cm3⟩:=l4Raw_some b j3 g3 cj3
  have hne:¬(l.length:Int)=0:=by omega
  by_cases c0:y=0
  · iterate 3 apply Exists.intro
    refine⟨?_,?_,cm1⟩
    · refine Ev.bind ev ?_
      refine Ev.neg hne ?_
      refine Ev.now_bind e2 ?_
      refine Ev.now_bind e3 ?_
      refine Ev.pos c0 ?_
      refine Ev.now_bind f1 ?_
      refine Ev.pos hx.1 ?_
      refine Ev.pos hx.2 ?_
      exact Ev.now _
    · simp;omega
  by_cases c1:y=1
  · iterate 3 apply Exists.intro
    refine⟨?_,?_,cm2⟩
    · refine Ev.bind ev ?_
      refine Ev.neg hne ?_
      refine Ev.now_bind e2 ?_
      refine Ev.now_bind e3 ?_
      refine Ev.neg c0 ?_
      refine Ev.pos c1 ?_
      refine Ev.now_bind f2 ?_
      refine Ev.pos hx.1 ?_
      refine Ev.pos hx.2 ?_
      exact Ev.now _
    · simp;omega
  by_cases c2:y=2
  · iterate 3 apply Exists.intro
    refine⟨?_,?_,cm3⟩
    · refine Ev.bind ev ?_
      refine Ev.neg hne ?_
      refine Ev.now_bind e2 ?_
      refine Ev.now_bind e3 ?_
      refine Ev.neg c0 ?_
      refine Ev.neg c1 ?_
      refine Ev.pos c2 ?_
      refine Ev.now_bind f3 ?_
      refine Ev.pos hx.1 ?_
      refine Ev.pos hx.2 ?_
      exact Ev.now _
    · simp;omega
  by_cases c3:y=3
  · iterate 3 apply Exists.intro
    refine⟨?_,?_,cm3⟩
    · refine Ev.bind ev ?_
      refine Ev.neg hne ?_
      refine Ev.now_bind e2 ?_
      refine Ev.now_bind e3 ?_
      refine Ev.neg c0 ?_
      refine Ev.neg c1 ?_
      refine Ev.neg c2 ?_
      refine Ev.pos c3 ?_
      refine Ev.now_bind f3 ?_
      refine Ev.pos hx.1 ?_
      refine Ev.pos hx.2 ?_
      exact Ev.now _
    · simp;omega
  have key:∀ (d:Nat) (l:List S106),l.length+d=17→∃ l',Ev (fun k=>spec_l10Any.l0 k l b j3 g3) (l',j3,g3)∧l'.length≤17:=by
    intro d
    induction d with
    | zero =>
      intro l hl
      refine⟨l,?_,by omega⟩
      refine Ev.round (fun _=>by rw[spec_l10Any.l0]) ?_
      refine Ev.neg (by omega) ?_
      exact Ev.now _
    | succ d ih =>
      intro l hl
      obtain⟨l',ev',hl'⟩:=ih (l++[(⟨2,0,0,0⟩:S106)]) (by simp;omega)
      refine⟨l',?_,hl'⟩
      refine Ev.round (fun _=>by rw[spec_l10Any.l0]) ?_
      refine Ev.pos (by omega) ?_
      exact Ev.pos (by omega) ev'
  by_cases c4:y=4
  · obtain⟨l',ev',hl'⟩:=key (17 - l.length) l (by omega)
    refine⟨l',j3,g3,?_,hl',cj3⟩
    refine Ev.bind ev ?_
    refine Ev.neg hne ?_
    refine Ev.now_bind e2 ?_
    refine Ev.now_bind e3 ?_
    refine Ev.neg c0 ?_
    refine Ev.neg c1 ?_
    refine Ev.neg c2 ?_
    refine Ev.neg c3 ?_
    exact Ev.pos c4 ev'
  · refine⟨l,j3,g3,?_,by omega,cj3⟩
    refine Ev.bind ev ?_
    refine Ev.neg hne ?_
    refine Ev.now_bind e2 ?_
    refine Ev.now_bind e3 ?_
    refine Ev.neg c0 ?_
    refine Ev.neg c1 ?_
    refine Ev.neg c2 ?_
    refine Ev.neg c3 ?_
    refine Ev.neg c4 ?_
    exact Ev.now _
theorem a10Any (b:List Int)(i h:Int)(c:Cur b i):Any (fun k=>spec_l10Any.f k b i h) (fun x=>x.1.length≤17∧Cur b x.2.1):=by
  obtain⟨l,j,g,e,hl,cj⟩:=l10Any_ev b i h c
  exact⟨_,e,hl,cj⟩
theorem aBelow (b:List Int)(i h n:Int)(hn:0 < n)(c:Cur b i):∃ x,spec_l1Below.f b i h n=some x∧((0≤x.1∧x.1 < n)∧Cur b x.2.1):=by
  obtain⟨x,j,g,e,hx,cj⟩:=l1Below_lt b i h n hn c
  exact⟨(x,j,g),e,hx,cj⟩
theorem l4Draw_some (b:List Int)(i h:Int)(c:Cur b i):∃ x y z j g,spec_l4Draw.f b i h=some (x,y,z,j,g)∧(1≤x∧x≤3∧0≤y∧y≤2∧0≤z∧z≤2)∧Cur b j:=by
  obtain⟨x,j,g,e,hx,cj⟩:=l1Below_lt b i h 3 (by omega) c
  obtain⟨y,j2,g2,e2,hy,cj2⟩:=l1Below_lt b j g 3 (by omega) cj
  obtain⟨z,j3,g3,e3,hz,cj3⟩:=l1Below_lt b j2 g2 3 (by omega) cj2
  have ew:wrap64 (1+x)=1+x:=w64 (by omega) (by omega)
  refine⟨1+x,y,z,j3,g3,?_,by omega,cj3⟩
  unfold spec_l4Draw.f
  rw[e,Option.bind_some]
  dsimp only
  rw[e2,Option.bind_some]
  dsimp only
  rw[e3,Option.bind_some]
  dsimp only
  rw[ew]
theorem l5Body_ev (b:List Int)(i h:Int)(c:Cur b i):∃ l j g,Ev (fun k=>spec_l5Body.f k b i h) (l,j,g)∧l.length≤4∧Cur b j:=by
  obtain⟨n,j,g,e,hn,cj⟩:=l1Below_lt b i h 5 (by omega) c
  have key:∀ (d:Nat) (l:List Int) (i h:Int),Cur b i→l.length+d≤4→∃ l' j g,Ev (fun k=>spec_l5Body.l0 k l (d:Int) b i h) (l',j,g)∧l'.length≤4∧Cur b j:=by
    intro d
    induction d with
    | zero =>
      intro l i h c hl
      refine⟨l,i,h,?_,by omega,c⟩
      refine Ev.round (fun _=>by rw[spec_l5Body.l0]) ?_
      exact Ev.neg (by omega) (Ev.now _)
    | succ d ih =>
      intro l i h c hl
      obtain⟨x,j,g,e,hx,cj⟩:=l1Below_lt b i h 9 (by omega) c
      have e1:wrap64 (((d+1:Nat):Int) - 1)=(d:Int):=by rw[w64 (by omega) (by omega)];omega
      obtain⟨l',j',g',ev,hl',cj'⟩:=ih (l++[x]) j g cj (by rw[List.length_append,List.length_singleton];omega)
      refine⟨l',j',g',?_,hl',cj'⟩
      refine Ev.round (fun _=>by rw[spec_l5Body.l0]) ?_
      refine Ev.pos (by omega) ?_
      refine Ev.now_bind e ?_
      refine Ev.pos (by omega) ?_
      simp only[e1]
      exact ev
  obtain⟨l,j',g',ev,hl,cj'⟩:=key n.toNat [] j g cj (by simp;omega)
  refine⟨l,j',g',?_,hl,cj'⟩
  unfold spec_l5Body.f
  refine Ev.now_bind e ?_
  have en:((n.toNat:Nat):Int)=n:=by omega
  rw[en] at ev
  exact ev
theorem l5Draw_ev (b:List Int)(i h:Int)(c:Cur b i):∃ k0 l x y z j g,Ev (fun k=>spec_l5Draw.f k b i h) (k0,l,x,y,z,j,g)∧l.length≤4∧Cur b j:=by
  obtain⟨n,j,g,e,hn,cj⟩:=l1Below_lt b i h 6 (by omega) c
  unfold spec_l5Draw.f
  by_cases h0:n=0
  · obtain⟨x,y,z,j2,g2,e2,_,cj2⟩:=l4Draw_some b j g cj
    refine⟨3,[],x,y,z,j2,g2,?_,by simp,cj2⟩
    refine Ev.now_bind e ?_
    refine Ev.pos h0 ?_
    refine Ev.now_bind e2 ?_
    exact Ev.now _
  · by_cases h1:n=1
    · refine⟨4,[],0,0,0,j,g,?_,by simp,cj⟩
      refine Ev.now_bind e ?_
      refine Ev.neg h0 ?_
      refine Ev.pos h1 ?_
      exact Ev.now _
    · obtain⟨x,j2,g2,e2,hx,cj2⟩:=l1Below_lt b j g 2 (by omega) cj
      obtain⟨l,j3,g3,ev,hl,cj3⟩:=l5Body_ev b j2 g2 cj2
      refine⟨wrap64 (1+x),l,0,0,0,j3,g3,?_,hl,cj3⟩
      refine Ev.now_bind e ?_
      refine Ev.neg h0 ?_
      refine Ev.neg h1 ?_
      refine Ev.now_bind e2 ?_
      refine Ev.bind ev ?_
      exact Ev.now _
def DrawnV (y:S110):Prop:=FitimplVersion y∧0≤y.f1∧y.f1≤11
theorem l9Draw_ev (b:List Int)(i h:Int)(c:Cur b i):∃ l j g,Ev (fun k=>spec_l9Draw.f k b i h) (l,j,g)∧l.length≤8∧(∀ y∈l,DrawnV y)∧Cur b j:=by
  obtain⟨n,j,g,e,hn,cj⟩:=l1Below_lt b i h 9 (by omega) c
  have key:∀ (d:Nat) (l:List S110) (i h:Int),Cur b i→l.length+d≤8→(∀ y∈l,DrawnV y)→∃ l' j g,Ev (fun k=>spec_l9Draw.l0 k l (d:Int) b i h) (l',j,g)∧l'.length≤8∧(∀ y∈l',DrawnV y)∧Cur b j:=by
    intro d
    induction d with
    | zero =>
      intro l i h c hl hd
      refine⟨l,i,h,?_,by omega,hd,c⟩
      refine Ev.round (fun _=>by rw[spec_l9Draw.l0]) ?_
      exact Ev.neg (by omega) (Ev.now _)
    | succ d ih =>
      intro l i h c hl hd
      obtain⟨a,p,q,j,g,e,_,cj⟩:=l4Draw_some b i h c
      obtain⟨t,j2,g2,e2,ht,cj2⟩:=l1Below_lt b j g 12 (by omega) cj
      obtain⟨k0,bd,x,y,z,j3,g3,ev,hbd,cj3⟩:=l5Draw_ev b j2 g2 cj2
      have e1:wrap64 (((d+1:Nat):Int) - 1)=(d:Int):=by rw[w64 (by omega) (by omega)];omega
      obtain⟨l',j',g',ev',hl',hd',cj'⟩:=ih (l++[⟨⟨a,p,q⟩,t,⟨k0,bd,⟨x,y,z⟩⟩⟩]) j3 g3 cj3 (by rw[List.length_append,List.length_singleton];omega) (by
        intro y hy
        rcases List.mem_append.1 hy with hy | hy
        · exact hd y hy
        · rw[List.mem_singleton] at hy
          rw[hy]
          refine⟨?_,ht.1,?_⟩
          · show bd.length≤1048576
            omega
          · show t≤11
            omega)
      refine⟨l',j',g',?_,hl',hd',cj'⟩
      refine Ev.round (fun _=>by rw[spec_l9Draw.l0]) ?_
      refine Ev.pos (by omega) ?_
      refine Ev.now_bind e ?_
      refine Ev.now_bind e2 ?_
      refine Ev.bind ev ?_
      refine Ev.pos (by omega) ?_
      simp only[e1]
      exact ev'
  obtain⟨l,j',g',ev,hl,hd,cj'⟩:=key n.toNat [] j g cj (by simp;omega) (by simp)
  refine⟨l,j',g',?_,hl,hd,cj'⟩
  unfold spec_l9Draw.f
  refine Ev.now_bind e ?_
  have en:((n.toNat:Nat):Int)=n:=by omega
  rw[en] at ev
  exact ev
theorem a9Draw (b:List Int)(i h:Int)(c:Cur b i):Any (fun k=>spec_l9Draw.f k b i h) (fun x=>x.1.length≤8∧(∀ y∈x.1,FitimplVersion y)∧Cur b x.2.1):=by
  obtain⟨l,j,g,e,hl,hd,cj⟩:=l9Draw_ev b i h c
  exact⟨_,e,hl,fun y hy=>(hd y hy).1,cj⟩
/-- What a visit is drawn as: a short site, and few inputs. -/
def VisitOk (b:List Int)(x:List S110×Int×Int×List Int×Int×Int):Prop:=x.1.length≤8∧(∀ y∈x.1,FitimplVersion y)∧x.2.2.2.1.length≤9∧Cur b x.2.2.2.2.1
theorem a12Draw (b:List Int)(i h:Int)(c:Cur b i):Any (fun k=>spec_l12Draw.f k b i h) (fun x=>VisitOk b x∧x.2.2.2.1.length≤3∧(0≤x.2.1∧x.2.1≤11)):=by
  unfold spec_l12Draw.f
  refine Any.bind (a9Draw b i h c) ?_
  intro x hx
  refine Any.opt (aBelow b _ _ 12 (by omega) hx.2.2) ?_
  intro t ht
  refine Any.opt (aBelow b _ _ 50 (by omega) ht.2) ?_
  intro s hs
  refine Any.opt (aBelow b _ _ 4 (by omega) hs.2) ?_
  intro n hn
  have key:∀ (d:Nat) (l:List Int) (i h:Int),Cur b i→l.length+d≤3→Any (fun k=>spec_l12Draw.l0 k (d:Int) b i h x.1 t.1 s.1 l) (fun x=>VisitOk b x∧x.2.2.2.1.length≤3∧(0≤x.2.1∧x.2.1≤11)):=by
    intro d
    induction d with
    | zero =>
      intro l i h c hl
      refine Any.round (fun _=>by rw[spec_l12Draw.l0]) ?_
      refine Any.neg (by omega) (Any.now ⟨⟨hx.1,hx.2.1,?_,c⟩,?_,ht.1.1,?_⟩)
      · dsimp only;omega
      · dsimp only;omega
      · dsimp only;omega
    | succ d ih =>
      intro l i h c hl
      have e1:wrap64 (((d+1:Nat):Int) - 1)=(d:Int):=by rw[w64 (by omega) (by omega)];omega
      refine Any.round (fun _=>by rw[spec_l12Draw.l0]) ?_
      refine Any.pos (by omega) ?_
      refine Any.opt (aBelow b _ _ 9 (by omega) c) ?_
      intro v hv
      refine Any.pos (by omega) ?_
      simp only[e1]
      exact ih _ _ _ hv.2 (by rw[List.length_append,List.length_singleton];omega)
  have h:=key n.1.toNat [] n.2.1 n.2.2 hn.2 (by rw[List.length_nil];omega)
  have en:((n.1.toNat:Nat):Int)=n.1:=by omega
  rw[en] at h
  exact h
theorem l4Any_some (b:List Int)(i h:Int)(c:Cur b i):∃ x y z j g,spec_l4Any.f b i h=some (x,y,z,j,g)∧Cur b j:=by
  obtain⟨x,y,z,j,g,e,_,cj⟩:=l4Draw_some b i h c
  obtain⟨n,j2,g2,e2,hn,cj2⟩:=l1Below_lt b j g 9 (by omega) cj
  obtain⟨v,j3,g3,e3,_,cj3⟩:=l4Raw_some b j2 g2 cj2
  unfold spec_l4Any.f
  rw[e,Option.bind_some]
  dsimp only
  rw[e2,Option.bind_some]
  dsimp only
  rw[e3,Option.bind_some,Option.bind_some,Option.bind_some]
  dsimp only
  by_cases h0:n=0
  · rw[if_pos h0]
    exact⟨_,_,_,_,_,rfl,cj3⟩
  · rw[if_neg h0]
    by_cases h1:n=1
    · rw[if_pos h1]
      exact⟨_,_,_,_,_,rfl,cj3⟩
    · rw[if_neg h1]
      by_cases h2:n=2
      · rw[if_pos h2]
        exact⟨_,_,_,_,_,rfl,cj3⟩
      · rw[if_neg h2]
        exact⟨_,_,_,_,_,rfl,cj2⟩
theorem a4Any (b:List Int)(i h:Int)(c:Cur b i):∃ x,spec_l4Any.f b i h=some x∧Cur b x.2.2.2.1:=by
  obtain⟨x,y,z,j,g,e,cj⟩:=l4Any_some b i h c
  exact⟨(x,y,z,j,g),e,cj⟩
theorem aInt (b:List Int)(i h:Int)(l:List Int)(hl:0 < l.length)(c:Cur b i):∃ x,spec_l1Int.f b i h l=some x∧(x.1∈l∧Cur b x.2.1):=by
  obtain⟨x,j,g,e,hx,cj⟩:=l1Int_some b i h l hl c
  exact⟨(x,j,g),e,hx,cj⟩
theorem l5Any_ev (b:List Int)(i h:Int)(c:Cur b i):∃ k0 l x y z j g,Ev (fun k=>spec_l5Any.f k b i h) (k0,l,x,y,z,j,g)∧l.length≤7∧Cur b j:=by
  obtain⟨k0,l,x,y,z,j,g,ev,hl,cj⟩:=l5Draw_ev b i h c
  obtain⟨n,j2,g2,e2,hn,cj2⟩:=l1Below_lt b j g 9 (by omega) cj
  unfold spec_l5Any.f
  by_cases h0:n=0
  · obtain⟨v,j3,g3,e3,_,cj3⟩:=l1Int_some b j2 g2 [0,5,3,4] (by simp) cj2
    exact⟨_,_,_,_,_,_,_,Ev.bind ev (Ev.now_bind e2 (Ev.pos h0 (Ev.now_bind e3 (Ev.now _)))),by dsimp only;omega,cj3⟩
  · by_cases h1:n=1
    · obtain⟨v,j3,g3,e3,_,cj3⟩:=l1Int_some b j2 g2 [(-1),255,256] (by simp) cj2
      exact⟨_,_,_,_,_,_,_,Ev.bind ev (Ev.now_bind e2 (Ev.neg h0 (Ev.pos h1 (Ev.now_bind e3 (Ev.pos (by dsimp only;omega) (Ev.now _)))))),by rw[List.length_append,List.length_singleton];dsimp only;omega,cj3⟩
    · by_cases h2:n=2
      · exact⟨_,_,_,_,_,_,_,Ev.bind ev (Ev.now_bind e2 (Ev.neg h0 (Ev.neg h1 (Ev.pos h2 (Ev.now _))))),by simp,cj2⟩
      · by_cases h3:n=3
        · obtain⟨x3,y3,z3,j3,g3,e3,cj3⟩:=l4Any_some b j2 g2 cj2
          exact⟨_,_,_,_,_,_,_,Ev.bind ev (Ev.now_bind e2 (Ev.neg h0 (Ev.neg h1 (Ev.neg h2 (Ev.pos h3 (Ev.now_bind e3 (Ev.now _))))))),by dsimp only;omega,cj3⟩
        · exact⟨_,_,_,_,_,_,_,Ev.bind ev (Ev.now_bind e2 (Ev.neg h0 (Ev.neg h1 (Ev.neg h2 (Ev.neg h3 (Ev.now _)))))),by dsimp only;omega,cj2⟩
theorem a5Any (b:List Int)(i h:Int)(c:Cur b i):Any (fun k=>spec_l5Any.f k b i h) (fun x=>x.2.1.length≤7∧Cur b x.2.2.2.2.2.1):=by
  obtain⟨k0,l,x,y,z,j,g,e,hl,cj⟩:=l5Any_ev b i h c
  exact⟨_,e,hl,cj⟩
theorem setV {l:List S110}(h:∀ y∈l,FitimplVersion y)(i:Nat){x:S110}(hx:x.f2.f1.length≤1048576):∀ y∈l.set i x,FitimplVersion y:=by
  intro y hy
  rcases List.mem_or_eq_of_mem_set hy with h1 | h1
  · exact h y h1
  · rw[h1]
    exact hx
theorem rdV {l:List S110}(h:∀ y∈l,FitimplVersion y)(i:Int)(h0:0≤i)(h1:i < (l.length:Int)):(rd_T110 l i).f2.f1.length≤1048576:=h _ (getD_mem l i.toNat (by omega) z110)
theorem a9Any (b:List Int)(i h:Int)(c:Cur b i):Any (fun k=>spec_l9Any.f k b i h) (fun x=>x.1.length≤8∧(∀ y∈x.1,FitimplVersion y)∧Cur b x.2.1):=by
  unfold spec_l9Any.f
  refine Any.bind (a9Draw b i h c) ?_
  intro x hx
  refine Any.ite (fun _=>Any.now hx) (fun hne=>?_)
  refine Any.opt (aBelow b _ _ _ (by omega) hx.2.2) ?_
  intro y hy
  refine Any.opt (aBelow b _ _ 9 (by omega) hy.2) ?_
  intro z hz
  have hr:=rdV hx.2.1 y.1 hy.1.1 hy.1.2
  refine Any.ite (fun _=>?_) (fun _=>?_)
  · refine Any.opt (a4Any b _ _ hz.2) ?_
    intro v hv
    exact Any.pos hy.1.1 (Any.pos hy.1.2 (Any.now ⟨by rw[List.length_set];exact hx.1,setV hx.2.1 _ hr,hv⟩))
  refine Any.ite (fun _=>?_) (fun _=>?_)
  · refine Any.opt (aInt b _ _ _ (by simp) hz.2) ?_
    intro v hv
    exact Any.pos hy.1.1 (Any.pos hy.1.2 (Any.now ⟨by rw[List.length_set];exact hx.1,setV hx.2.1 _ hr,hv.2⟩))
  refine Any.ite (fun _=>?_) (fun _=>?_)
  · refine Any.bind (a5Any b _ _ hz.2) ?_
    intro v hv
    exact Any.pos hy.1.1 (Any.pos hy.1.2 (Any.now ⟨by rw[List.length_set];exact hx.1,setV hx.2.1 _ (Nat.le_trans hv.1 (by omega)),hv.2⟩))
  · exact Any.now ⟨hx.1,hx.2.1,hz.2⟩
theorem a12Any (b:List Int)(i h:Int)(c:Cur b i):Any (fun k=>spec_l12Any.f k b i h) (VisitOk b):=by
  unfold spec_l12Any.f
  refine Any.bind (a12Draw b i h c) ?_
  intro x hx
  obtain⟨⟨q1,q2,q3,q4⟩,q5,_⟩:=hx
  refine Any.opt (aBelow b _ _ 9 (by omega) q4) ?_
  intro y hy
  refine Any.ite (fun _=>?_) (fun _=>?_)
  · refine Any.opt (aInt b _ _ _ (by simp) hy.2) ?_
    intro v hv
    exact Any.now ⟨q1,q2,q3,hv.2⟩
  refine Any.ite (fun _=>?_) (fun _=>?_)
  · refine Any.opt (aInt b _ _ _ (by simp) hy.2) ?_
    intro v hv
    exact Any.now ⟨q1,q2,q3,hv.2⟩
  refine Any.ite (fun _=>?_) (fun _=>?_)
  · refine Any.opt (aInt b _ _ _ (by simp) hy.2) ?_
    intro v hv
    exact Any.pos (by omega) (Any.now ⟨q1,q2,by rw[List.length_append,List.length_singleton];omega,hv.2⟩)
  refine Any.ite (fun _=>?_) (fun _=>?_)
  · refine Any.bind (a9Any b _ _ hy.2) ?_
    intro v hv
    exact Any.now ⟨hv.1,hv.2.1,q3,hv.2.2⟩
  refine Any.ite (fun _=>?_) (fun _=>?_)
  · have key:∀ (d:Nat) (l:List Int),l.length+d=9→Any (fun k=>spec_l12Any.l0 k b y.2.1 y.2.2 x.1 x.2.1 x.2.2.1 l) (VisitOk b):=by
      intro d
      induction d with
      | zero =>
        intro l hl
        refine Any.round (fun _=>by rw[spec_l12Any.l0]) ?_
        refine Any.neg (by omega) (Any.now ⟨q1,q2,?_,hy.2⟩)
        dsimp only
        omega
      | succ d ih =>
        intro l hl
        refine Any.round (fun _=>by rw[spec_l12Any.l0]) ?_
        refine Any.pos (by omega) ?_
        refine Any.pos (by omega) ?_
        exact ih _ (by rw[List.length_append,List.length_singleton];omega)
    exact key (9 - x.2.2.2.1.length) x.2.2.2.1 (by omega)
  · exact Any.now ⟨q1,q2,q3,hy.2⟩
theorem drawCapturesOf_any (b:List Int)(hb:b.length≤1048576):Any (fun k=>spec_DrawCapturesOf.f k b) (fun x=>x.1.length≤17∧x.2.1.length≤8∧(∀ y∈x.2.1,FitimplVersion y)∧x.2.2.2.2.length≤9):=by
  unfold spec_DrawCapturesOf.f spec_DrawRecordVisit.f
  refine Any.bind (P:=fun x=>x.1.length≤17∧x.2.1.length≤8∧(∀ y∈x.2.1,FitimplVersion y)∧x.2.2.2.2.length≤9) ?_ (fun x hx=>Any.now hx)
  refine Any.bind (aNew b hb) ?_
  intro x hx
  rw[hx.1]
  refine Any.bind (a10Any b _ _ hx.2) ?_
  intro y hy
  refine Any.bind (a12Any b _ _ hy.2) ?_
  intro z hz
  exact Any.now ⟨hy.1,hz.1,hz.2.1,hz.2.2.1⟩
theorem l15Draw_ev (b:List Int)(i h:Int)(c:Cur b i):∃ l j g,Ev (fun k=>spec_l15Draw.f k b i h) (l,j,g)∧l.length≤7∧(∀ y∈l,FitimplCapture y)∧Cur b j:=by
  obtain⟨n,j,g,e,hn,cj⟩:=l1Below_lt b i h 8 (by omega) c
  have key:∀ (d:Nat) (l:List S45) (i h:Int),Cur b i→l.length+d≤7→(∀ y∈l,FitimplCapture y)→∃ l' j g,Ev (fun k=>spec_l15Draw.l0 k l (d:Int) b i h) (l',j,g)∧l'.length≤7∧(∀ y∈l',FitimplCapture y)∧Cur b j:=by
    intro d
    induction d with
    | zero =>
      intro l i h c hl hd
      refine⟨l,i,h,?_,by omega,hd,c⟩
      refine Ev.round (fun _=>by rw[spec_l15Draw.l0]) ?_
      exact Ev.neg (by omega) (Ev.now _)
    | succ d ih =>
      intro l i h c hl hd
      obtain⟨a,p,q,j,g,e,_,cj⟩:=l4Draw_some b i h c
      obtain⟨t,j2,g2,e2,ht,cj2⟩:=l1Below_lt b j g 20 (by omega) cj
      obtain⟨k0,bd,x,y,z,j3,g3,ev,hbd,cj3⟩:=l5Draw_ev b j2 g2 cj2
      have e1:wrap64 (((d+1:Nat):Int) - 1)=(d:Int):=by rw[w64 (by omega) (by omega)];omega
      obtain⟨l',j',g',ev',hl',hd',cj'⟩:=ih (l++[⟨⟨a,p,q⟩,t,⟨k0,bd,⟨x,y,z⟩⟩⟩]) j3 g3 cj3 (by rw[List.length_append,List.length_singleton];omega) (by
        intro y hy
        rcases List.mem_append.1 hy with hy | hy
        · exact hd y hy
        · rw[List.mem_singleton] at hy
          rw[hy]
          show bd.length≤1048576
          omega)
      refine⟨l',j',g',?_,hl',hd',cj'⟩
      refine Ev.round (fun _=>by rw[spec_l15Draw.l0]) ?_
      refine Ev.pos (by omega) ?_
      refine Ev.now_bind e ?_
      refine Ev.now_bind e2 ?_
      refine Ev.bind ev ?_
      refine Ev.pos (by omega) ?_
      simp only[e1]
      exact ev'
  obtain⟨l,j',g',ev,hl,hd,cj'⟩:=key n.toNat [] j g cj (by simp;omega) (by simp)
  refine⟨l,j',g',?_,hl,hd,cj'⟩
  unfold spec_l15Draw.f
  refine Ev.now_bind e ?_
  have en:((n.toNat:Nat):Int)=n:=by omega
  rw[en] at ev
  exact ev
theorem l15Any_ev (b:List Int)(i h:Int)(c:Cur b i):∃ l j g,Ev (fun k=>spec_l15Any.f k b i h) (l,j,g)∧l.length≤7∧(∀ y∈l,FitimplCapture y)∧Cur b j:=by
  obtain⟨l,j,g,ev,hl,hf,cj⟩:=l15Draw_ev b i h c
  unfold spec_l15Any.f
  by_cases hz:(l.length:Int)=0
  · exact⟨l,j,g,Ev.bind ev (Ev.pos hz (Ev.now _)),hl,hf,cj⟩
  obtain⟨m,j2,g2,e2,hm,cj2⟩:=l1Below_lt b j g (l.length:Int) (by omega) cj
  obtain⟨n,j3,g3,e3,hn,cj3⟩:=l1Below_lt b j2 g2 9 (by omega) cj2
  have hset:∀ y:S45,FitimplCapture y→(l.set (m:Int).toNat y).length≤7∧∀ z∈l.set (m:Int).toNat y,FitimplCapture z:=by
    intro y hy
    refine⟨by rw[List.length_set];exact hl,fun z hz=>?_⟩
    rcases List.mem_or_eq_of_mem_set hz with hz | hz
    · exact hf z hz
    · rw[hz];exact hy
  have hrd:FitimplCapture (rd_T45 l m):=by
    have h1:=getD_mem l m.toNat (by omega) z45
    exact hf _ h1
  by_cases h0:n=0
  · obtain⟨x3,y3,z3,j4,g4,e4,cj4⟩:=l4Any_some b j3 g3 cj3
    obtain⟨s1,s2⟩:=hset ⟨⟨x3,y3,z3⟩,(rd_T45 l m).f1,⟨(rd_T45 l m).f2.f0,(rd_T45 l m).f2.f1,⟨(rd_T45 l m).f2.f2.f0,(rd_T45 l m).f2.f2.f1,(rd_T45 l m).f2.f2.f2⟩⟩⟩ hrd
    exact⟨_,_,_,Ev.bind ev (Ev.neg hz (Ev.now_bind e2 (Ev.now_bind e3 (Ev.pos h0 (Ev.now_bind e4 (Ev.pos hm.1 (Ev.pos hm.2 (Ev.now _)))))))),s1,s2,cj4⟩
  · by_cases h1:n=1
    · obtain⟨v,j4,g4,e4,_,cj4⟩:=l1Int_some b j3 g3 [(-1),2000,2001,9223372036854775807] (by simp) cj3
      obtain⟨s1,s2⟩:=hset ⟨⟨(rd_T45 l m).f0.f0,(rd_T45 l m).f0.f1,(rd_T45 l m).f0.f2⟩,v,⟨(rd_T45 l m).f2.f0,(rd_T45 l m).f2.f1,⟨(rd_T45 l m).f2.f2.f0,(rd_T45 l m).f2.f2.f1,(rd_T45 l m).f2.f2.f2⟩⟩⟩ hrd
      exact⟨_,_,_,Ev.bind ev (Ev.neg hz (Ev.now_bind e2 (Ev.now_bind e3 (Ev.neg h0 (Ev.pos h1 (Ev.now_bind e4 (Ev.pos hm.1 (Ev.pos hm.2 (Ev.now _))))))))),s1,s2,cj4⟩
    · by_cases h2:n=2
      · obtain⟨k0,bd,x,y,z,j4,g4,ev4,hbd,cj4⟩:=l5Any_ev b j3 g3 cj3
        obtain⟨s1,s2⟩:=hset ⟨⟨(rd_T45 l m).f0.f0,(rd_T45 l m).f0.f1,(rd_T45 l m).f0.f2⟩,(rd_T45 l m).f1,⟨k0,bd,⟨x,y,z⟩⟩⟩ (show bd.length≤1048576 by omega)
        exact⟨_,_,_,Ev.bind ev (Ev.neg hz (Ev.now_bind e2 (Ev.now_bind e3 (Ev.neg h0 (Ev.neg h1 (Ev.pos h2 (Ev.bind ev4 (Ev.pos hm.1 (Ev.pos hm.2 (Ev.now _)))))))))),s1,s2,cj4⟩
      · exact⟨_,_,_,Ev.bind ev (Ev.neg hz (Ev.now_bind e2 (Ev.now_bind e3 (Ev.neg h0 (Ev.neg h1 (Ev.neg h2 (Ev.now _))))))),hl,hf,cj3⟩
theorem a15Any (b:List Int)(i h:Int)(c:Cur b i):Any (fun k=>spec_l15Any.f k b i h) (fun x=>x.1.length≤7∧(∀ y∈x.1,FitimplCapture y)∧Cur b x.2.1):=by
  obtain⟨l,j,g,e,hl,hf,cj⟩:=l15Any_ev b i h c
  exact⟨_,e,hl,hf,cj⟩
theorem aOnce (b:List Int)(i h n:Int)(c:Cur b i):∃ x,spec_l1Once.f b i h n=some x∧Cur b x.2.1:=by
  obtain⟨x,j,g,e,cj⟩:=l1Once_some b i h n c
  exact⟨(x,j,g),e,cj⟩
theorem l5Copy_eq (k:Int)(b:List Int)(h p q:Int)(hb:b.length≤1048576):spec_l5Copy.f k b h p q=some (k,b,h,p,q):=by
  simp only[spec_l5Copy.f,Option.bind_some,List.nil_append,List.length_nil]
  rw[if_pos (by omega)]
theorem l15Copy_ev (l:List S45)(h:l.length≤1048576)(hf:∀ y∈l,FitimplCapture y):Ev (fun k=>spec_l15Copy.f k l) l:=by
  unfold spec_l15Copy.f
  have key:∀ d i:Nat,i+d=l.length→Ev (fun k=>spec_l15Copy.l0 k l (l.take i) (i:Int)) l:=by
    intro d
    induction d with
    | zero =>
      intro i hi
      refine Ev.round (fun _=>by rw[spec_l15Copy.l0]) ?_
      refine Ev.neg (by omega) ?_
      rw[List.take_of_length_le (by omega)]
      exact Ev.now _
    | succ d ih =>
      intro i hi
      have hil:i < l.length:=by omega
      have e1:wrap64 ((i:Int)+1)=((i+1:Nat):Int):=by rw[w64 (by omega) (by omega)];omega
      have hfit:(rd_T45 l (i:Int)).f2.f1.length≤1048576:=hf _ (getD_mem l i hil z45)
      have hn:=ih (i+1) (by omega)
      have et:l.take (i+1)=l.take i++[rd_T45 l (i:Int)]:=by
        rw[List.take_succ_eq_append_getElem hil]
        show _=l.take i++[l.getD ((i:Int)).toNat z45]
        rw[Int.toNat_natCast,getD_in l i hil]
      rw[et] at hn
      refine Ev.round (fun _=>by rw[spec_l15Copy.l0]) ?_
      refine Ev.pos (by omega) ?_
      refine Ev.pos (by omega) ?_
      refine Ev.now_bind (l5Copy_eq _ _ _ _ _ hfit) ?_
      refine Ev.pos (by rw[List.length_take];omega) ?_
      simp only[e1]
      exact hn
  exact key l.length 0 (by omega)
theorem snocFit {l e:List S45}(h:∀ y∈l,FitimplCapture y)(he:∀ y∈e,FitimplCapture y):∀ y∈l++e,FitimplCapture y:=by
  intro y hy
  rcases List.mem_append.1 hy with h1 | h1
  · exact h y h1
  · exact he y h1
theorem drawAdd_any (b:List Int)(hb:b.length≤1048576):Any (fun k=>spec_DrawAddCaptures.f k b) (fun x=>(x.1.length≤7∧∀ y∈x.1,FitimplCapture y)∧x.2.length≤21∧∀ y∈x.2,FitimplCapture y):=by
  unfold spec_DrawAddCaptures.f
  refine Any.bind (aNew b hb) ?_
  intro x hx
  rw[hx.1]
  refine Any.bind (a15Any b _ _ hx.2) ?_
  intro a ha
  obtain⟨al,af,ac⟩:=ha
  obtain⟨c0,j0,g0,e0,hc0,hf0,cj0⟩:=l15Draw_ev b a.2.1 a.2.2 ac
  refine Any.ev e0 ?_
  dsimp only
  have k2:∀ (d:Nat) (c:List S45),c.length+d=21→(∀ y∈c,FitimplCapture y)→Any (fun k=>spec_DrawAddCaptures.l1 k a.1 c) (fun x=>(x.1.length≤7∧∀ y∈x.1,FitimplCapture y)∧x.2.length≤21∧∀ y∈x.2,FitimplCapture y):=by
    intro d
    induction d with
    | zero =>
      intro c hc hf
      refine Any.round (fun _=>by rw[spec_DrawAddCaptures.l1]) ?_
      refine Any.neg (by omega) (Any.now ⟨⟨al,af⟩,?_,hf⟩)
      dsimp only
      omega
    | succ d ih =>
      intro c hc hf
      refine Any.round (fun _=>by rw[spec_DrawAddCaptures.l1]) ?_
      refine Any.pos (by omega) (Any.pos (by omega) ?_)
      refine ih _ (by rw[List.length_append,List.length_singleton];omega) (snocFit hf ?_)
      intro y hy
      rw[List.mem_singleton.1 hy]
      show([]:List Int).length≤1048576
      simp
  have k1:∀ (c:List S45) (i h:Int),c.length≤14→(∀ y∈c,FitimplCapture y)→Cur b i→Any (fun k=>spec_DrawAddCaptures.j1 k a.1 c b i h) (fun x=>(x.1.length≤7∧∀ y∈x.1,FitimplCapture y)∧x.2.length≤21∧∀ y∈x.2,FitimplCapture y):=by
    intro c i h hc hf hi
    refine Any.round (fun _=>by rw[spec_DrawAddCaptures.j1]) ?_
    refine Any.opt (aOnce b _ _ _ hi) ?_
    intro v hv
    refine Any.ite (fun _=>k2 (21 - c.length) c (by omega) hf) (fun _=>Any.now ⟨⟨al,af⟩,?_,hf⟩)
    dsimp only
    omega
  have key:∀ (d n:Nat) (c:List S45) (i h:Int),n+d=a.1.length→c.length≤7+n→(∀ y∈c,FitimplCapture y)→Cur b i→Any (fun k=>spec_DrawAddCaptures.l0 k a.1 c (n:Int) b i h) (fun x=>(x.1.length≤7∧∀ y∈x.1,FitimplCapture y)∧x.2.length≤21∧∀ y∈x.2,FitimplCapture y):=by
    intro d
    induction d with
    | zero =>
      intro n c i h hn hc hf hi
      refine Any.round (fun _=>by rw[spec_DrawAddCaptures.l0]) ?_
      exact Any.neg (by omega) (k1 c i h (by omega) hf hi)
    | succ d ih =>
      intro n c i h hn hc hf hi
      have e1:wrap64 ((n:Int)+1)=((n+1:Nat):Int):=by rw[w64 (by omega) (by omega)];omega
      refine Any.round (fun _=>by rw[spec_DrawAddCaptures.l0]) ?_
      refine Any.pos (by omega) ?_
      refine Any.opt (aOnce b _ _ _ hi) ?_
      intro v hv
      refine Any.ite (fun _=>?_) (fun _=>k1 c _ _ (by omega) hf hv)
      simp only[e1]
      refine Any.pos (by omega) (Any.pos (by omega) (Any.pos (by omega) ?_))
      have hsub:∀ y∈(a.1.take ((n+1:Nat):Int).toNat).drop (n:Int).toNat,FitimplCapture y:=fun y hy=>af y (List.mem_of_mem_take (List.mem_of_mem_drop hy))
      have hlen:((a.1.take ((n+1:Nat):Int).toNat).drop (n:Int).toNat).length≤1:=by
        rw[List.length_drop,List.length_take]
        omega
      refine Any.ev (l15Copy_ev _ (by omega) hsub) (Any.pos (by omega) ?_)
      exact ih (n+1) _ _ _ (by omega) (by rw[List.length_append];omega) (snocFit hf hsub) hv
  exact key a.1.length 0 c0 j0 g0 (Nat.zero_add _) (by omega) hf0 cj0
theorem drawCI_any (b:List Int)(hb:b.length≤1048576):Any (fun k=>spec_DrawCaptureInts.f k b) (fun x=>x.2.2.2.2.2.1.length≤1048576):=by
  unfold spec_DrawCaptureInts.f
  refine Any.bind (aNew b hb) ?_
  intro x hx
  rw[hx.1]
  refine Any.bind (a15Any b _ _ hx.2) ?_
  intro y hy
  refine Any.ite (fun _=>Any.now (by simp)) (fun c=>Any.pos (by omega) (Any.now ?_))
  exact hy.2.1 _ (getD_mem y.1 0 (by omega) z45)
theorem ev_any {α:Type}(F:Nat→Int→Option Bool)(l:List α)(d:α)(p:α→Bool)
    (hend:∀ k,F (k+1) (l.length:Int)=some false)
    (hyes:∀ i:Nat,i < l.length→p (l.getD i d)=true→Ev (fun k=>F k (i:Int)) true)
    (hno:∀ i:Nat,i < l.length→p (l.getD i d)=false→∀ r,Ev (fun k=>F k ((i+1:Nat):Int)) r→Ev (fun k=>F k (i:Int)) r) :
    Ev (fun k=>F k 0) (l.any p):=by
  have h:=ev_down (fun k i=>F k (i:Int)) l.length (fun i=>(l.drop i).any p) (Ev.round hend (Ev.const fun _=>by simp))
    (fun i hi h=>by
      rw[drop_cons l i hi d,List.any_cons]
      cases hp:p (l.getD i d) with
      | true=>simpa using hyes i hi hp
      | false=>simpa using hno i hi hp _ h)
  simpa using h
theorem ri_eq (k:Int)(b:List Int)(h p q:Int)(hb:b.length≤1048576):impl_ResourceInts.f k b h p q=some ([k,h,p,q,(b.length:Int)]++b):=by
  unfold impl_ResourceInts.f
  rw[Option.bind_some,if_pos (by simp;omega)]
theorem ci_eq (a p q t k:Int)(b:List Int)(h p2 q2:Int)(hb:b.length≤1048576):impl_CaptureInts.f a p q t k b h p2 q2=some ([a,p,q,t]++([k,h,p2,q2,(b.length:Int)]++b)):=by
  unfold impl_CaptureInts.f
  rw[Option.bind_some,ri_eq _ _ _ _ _ hb,Option.bind_some,if_pos (by simp;omega)]
/-- A resource, as the printed functions hand it on. -/
abbrev Rsc:=Int×List Int×Int×Int×Int
def pHere (a p q t:Int)(y:S110):Bool:=(y.f0.f0 == a && (y.f0.f1 == p && (y.f0.f2 == q))) && decide (y.f1≤t)
def ansStep (a p q t:Int)(r:Rsc)(y:S110):Rsc:=if pHere a p q t y=true then(y.f2.f0,y.f2.f1,y.f2.f2.f0,y.f2.f2.f1,y.f2.f2.f2) else r
def pAnswer (l:List S110)(a p q t:Int):Rsc:=l.foldl (ansStep a p q t) (4,[],0,0,0)
theorem pAnswer_fit (l:List S110)(a p q t:Int)(hf:∀ y∈l,FitimplVersion y):(pAnswer l a p q t).2.1.length≤1048576:=by
  have key:∀ (l:List S110) (r:Rsc),(∀ y∈l,FitimplVersion y)→r.2.1.length≤1048576→(l.foldl (ansStep a p q t) r).2.1.length≤1048576:=by
    intro l
    induction l with
    | nil=>intro r _ h;exact h
    | cons y l ih =>
      intro r hf h
      rw[List.foldl_cons]
      refine ih _ (fun z hz=>hf z (List.mem_cons_of_mem _ hz)) ?_
      unfold ansStep
      split
      · exact hf y (by simp)
      · exact h
  exact key l _ hf (by simp)
abbrev Trail:=Int×List Int×Int×Int×Int×List S39
def pHasA (c:List S39)(a p q:Int):Bool:=c.any fun y=>y.f0 == a && (y.f1 == p && (y.f2 == q))
def pTrail (l:List S110)(t:Int):Nat→List S39→Rsc→Trail
  | 0,c,r=>(r.1,r.2.1,r.2.2.1,r.2.2.2.1,r.2.2.2.2,c)
  | n+1,c,r=>if r.1=3∧pHasA c r.2.2.1 r.2.2.2.1 r.2.2.2.2=false then pTrail l t n (c++[⟨r.2.2.1,r.2.2.2.1,r.2.2.2.2⟩]) (pAnswer l r.2.2.1 r.2.2.2.1 r.2.2.2.2 t) else(r.1,r.2.1,r.2.2.1,r.2.2.2.1,r.2.2.2.2,c)
def pFollow (l:List S110)(a p q t:Int):Trail:=pTrail l t 4 [⟨a,p,q⟩] (pAnswer l a p q t)
theorem pTrail_fit (l:List S110)(t:Int)(hf:∀ y∈l,FitimplVersion y):∀ (n:Nat) (c:List S39) (r:Rsc),r.2.1.length≤1048576→(pTrail l t n c r).2.1.length≤1048576∧(pTrail l t n c r).2.2.2.2.2.length≤c.length+n:=by
  intro n
  induction n with
  | zero=>intro c r h;exact⟨h,Nat.le_refl _⟩
  | succ n ih =>
    intro c r h
    unfold pTrail
    split
    · have:=ih (c++[⟨r.2.2.1,r.2.2.2.1,r.2.2.2.2⟩]) _ (pAnswer_fit l r.2.2.1 r.2.2.2.1 r.2.2.2.2 t hf)
      refine⟨this.1,?_⟩
      have h2:=this.2
      rw[List.length_append,List.length_singleton] at h2
      omega
    · exact⟨h,Nat.le_add_right _ _⟩
theorem pFollow_fit (l:List S110)(a p q t:Int)(hf:∀ y∈l,FitimplVersion y):(pFollow l a p q t).2.1.length≤1048576:=(pTrail_fit l t hf 4 _ _ (pAnswer_fit l a p q t hf)).1
def pOp (y:S106):Bool :=
  pIn y.f1 0 3 && (
    if y.f0=1 then pIn y.f2 1 9 && pIn y.f3 0 99
    else if y.f0=2∨y.f0=3∨y.f0=4 then decide (y.f2=0) && (y.f3 == 0)
    else if y.f0=5 then pIn y.f2 0 3 && pIn y.f3 0 3
    else if y.f0=6 then pIn y.f2 0 3 && (y.f3 == 0)
    else if y.f0=7 then pIn y.f2 1 3 && (y.f3 == 0)
    else if y.f0=8 then pIn y.f2 0 2 && (y.f3 == 0)
    else if y.f0=9 then pIn y.f2 0 2 && (y.f3 == 0)
    else false)
def pScript (l:List S106):Bool:=l.all pOp && decide ((l.length:Int)≤16)
theorem not_any {α:Type}(l:List α)(p:α→Bool):(!(l.any fun y=>!p y))=l.all p:=by
  rw[List.all_eq_not_any_not]
def pState (a:Int)(r s n:List Int):Bool :=
  pIn a 0 19 && ((r.all (pIn · 0 999) && ((r.length:Int) == 4)) && ((s.all (pIn · 0 999) && ((s.length:Int) == 3)) && (n.all (pIn · 0 999) && ((n.length:Int) == 4))))
def pCan (l:List S106)(a:Int)(r s n:List Int):Bool:=pScript l && (pState a r s n && decide (a < (l.length:Int)))
theorem pCan_facts {l:List S106}{a:Int}{r s n:List Int}(h:pCan l a r s n=true):0≤a∧a < (l.length:Int)∧r.length=4∧s.length=3∧n.length=4∧(∀ y∈r,0≤y∧y≤999)∧(∀ y∈s,0≤y∧y≤999)∧(∀ y∈n,0≤y∧y≤999)∧(∀ y∈l,pOp y=true)∧a≤19∧l.length≤16:=by
  unfold pCan pScript pState at h
  simp only[pIn,Bool.and_eq_true,decide_eq_true_eq,List.all_eq_true,beq_iff_eq] at h
  obtain⟨⟨h1,h2⟩,⟨⟨h3,h3'⟩,⟨h4,h5⟩,⟨h6,h7⟩,h8,h9⟩,h10⟩:=h
  exact⟨h3,h10,by omega,by omega,by omega,h4,h6,h8,h1,h3',by omega⟩
theorem pOp_reg {y:S106}(h:pOp y=true):0≤y.f1∧y.f1≤3:=by
  unfold pOp at h
  simp only[pIn,Bool.and_eq_true,decide_eq_true_eq] at h
  exact h.1
def pClamp (v:Int):Int:=mx 0 (mn 999 v)
theorem pClamp_in (v:Int):0≤pClamp v∧pClamp v≤999:=by
  unfold pClamp mx mn
  constructor <;> (split <;> split <;> omega)
theorem pClamp_impl (v:Int):mn (mx v 0) 999=pClamp v:=by
  unfold pClamp mx mn
  split <;> split <;> split <;> (try split) <;> omega
def pStep (l:List S106)(a:Int)(r s n:List Int)(v:Int):Int×List Int×List Int×List Int :=
  if pCan l a r s n=true then(
    if (rd_T106 l a).f0=5 then(wrap64 (a+1),r.set (rd_T106 l a).f1.toNat (Int.tmod (wrap64 (rd r (rd_T106 l a).f2+rd r (rd_T106 l a).f3)) 1000),s,n)
    else if (rd_T106 l a).f0=6 then(wrap64 (a+1),r,s,n.set (rd_T106 l a).f2.toNat (rd r (rd_T106 l a).f1))
    else if (rd_T106 l a).f0=7 then(if Int.tmod (rd r (rd_T106 l a).f1) 2=0 then(wrap64 (wrap64 (a+1)+(rd_T106 l a).f2),r,s,n) else(wrap64 (a+1),r,s,n))
    else if (rd_T106 l a).f0=8 then(wrap64 (a+1),r.set (rd_T106 l a).f1.toNat (rd s (rd_T106 l a).f2),s,n)
    else if (rd_T106 l a).f0=9 then(wrap64 (a+1),r,s.set (rd_T106 l a).f2.toNat (rd r (rd_T106 l a).f1),n)
    else(wrap64 (a+1),r.set (rd_T106 l a).f1.toNat (pClamp v),s,n)) else(a,r,s,n)
theorem pStep_len (l:List S106)(a:Int)(r s n:List Int)(v:Int):(pStep l a r s n v).2.1.length=r.length∧(pStep l a r s n v).2.2.1.length=s.length∧(pStep l a r s n v).2.2.2.length=n.length:=by
  unfold pStep
  repeat' split
  all_goals simp only[List.length_set,and_self]
theorem pOp_5 {y:S106}(h:pOp y=true)(c:y.f0=5):0≤y.f2∧y.f2≤3∧0≤y.f3∧y.f3≤3:=by
  unfold pOp at h
  rw[if_neg (by omega),if_neg (by omega),if_pos c] at h
  simp only[pIn,Bool.and_eq_true,decide_eq_true_eq] at h
  omega
theorem pOp_6 {y:S106}(h:pOp y=true)(c:y.f0=6):0≤y.f2∧y.f2≤3:=by
  unfold pOp at h
  rw[if_neg (by omega),if_neg (by omega),if_neg (by omega),if_pos c] at h
  simp only[pIn,Bool.and_eq_true,decide_eq_true_eq] at h
  omega
theorem pOp_7 {y:S106}(h:pOp y=true)(c:y.f0=7):1≤y.f2∧y.f2≤3:=by
  unfold pOp at h
  rw[if_neg (by omega),if_neg (by omega),if_neg (by omega),if_neg (by omega),if_pos c] at h
  simp only[pIn,Bool.and_eq_true,decide_eq_true_eq] at h
  omega
theorem pOp_8 {y:S106}(h:pOp y=true)(c:y.f0=8):0≤y.f2∧y.f2≤2:=by
  unfold pOp at h
  rw[if_neg (by omega),if_neg (by omega),if_neg (by omega),if_neg (by omega),if_neg (by omega),if_pos c] at h
  simp only[pIn,Bool.and_eq_true,decide_eq_true_eq] at h
  omega
theorem pOp_9 {y:S106}(h:pOp y=true)(c:y.f0=9):0≤y.f2∧y.f2≤2:=by
  unfold pOp at h
  rw[if_neg (by omega),if_neg (by omega),if_neg (by omega),if_neg (by omega),if_neg (by omega),if_neg (by omega),if_pos c] at h
  simp only[pIn,Bool.and_eq_true,decide_eq_true_eq] at h
  omega
def pAsks (k:Int):Bool:=decide (1≤k) && decide (k≤4)
def pWant (l:List S106)(a:Int)(r s n:List Int):Int×Int×Int×Int :=
  if pCan l a r s n=true∧pAsks (rd_T106 l a).f0=true then(if (rd_T106 l a).f0=1 then((rd_T106 l a).f0,(rd_T106 l a).f2,(rd_T106 l a).f3,Int.tmod (rd r (rd_T106 l a).f1) 100) else((rd_T106 l a).f0,0,0,0)) else(0,0,0,0)
theorem pOp_kind {y:S106}(h:pOp y=true):1≤y.f0∧y.f0≤9:=by
  unfold pOp at h
  simp only[Bool.and_eq_true] at h
  have h2:=h.2
  by_cases h1:y.f0=1
  · omega
  rw[if_neg h1] at h2
  by_cases h2':y.f0=2∨y.f0=3∨y.f0=4
  · omega
  rw[if_neg h2'] at h2
  by_cases h5:y.f0=5
  · omega
  rw[if_neg h5] at h2
  by_cases h6:y.f0=6
  · omega
  rw[if_neg h6] at h2
  by_cases h7:y.f0=7
  · omega
  rw[if_neg h7] at h2
  by_cases h8:y.f0=8
  · omega
  rw[if_neg h8] at h2
  by_cases h9:y.f0=9
  · omega
  rw[if_neg h9] at h2
  simp at h2
theorem rd_in {l:List Int}(h:∀ y∈l,0≤y∧y≤999)(i:Int):0≤rd l i∧rd l i≤999:=by
  unfold rd
  rw[List.getD_eq_getElem?_getD]
  cases e:l[i.toNat]? with
  | none=>simp
  | some y=>exact h y (List.mem_of_getElem? e)
theorem Ev.ite_to {α:Type}{c:Prop} [Decidable c] {A B:Nat→Option α}{r:α}(k:c→Ev A r)(l:¬c→Ev B r):Ev (fun n=>if c then A n else B n) r:=by
  by_cases h:c
  · exact Ev.pos h (k h)
  · exact Ev.neg h (l h)
theorem set_in {l:List Int}(h:∀ y∈l,0≤y∧y≤999)(i:Nat){x:Int}(hx:0≤x∧x≤999):∀ y∈l.set i x,0≤y∧y≤999:=by
  intro y hy
  rcases List.mem_or_eq_of_mem_set hy with h1 | h1
  · exact h y h1
  · omega
theorem tmod_in (m:Int)(h:0≤m):0≤Int.tmod m 1000∧Int.tmod m 1000≤999:=by
  rw[Int.tmod_eq_emod_of_nonneg h]
  omega
theorem pState_mk {a:Int}{r s n:List Int}(ha:0≤a∧a≤19)(h1:r.length=4)(h2:s.length=3)(h3:n.length=4)(k1:∀ y∈r,0≤y∧y≤999)(k2:∀ y∈s,0≤y∧y≤999)(k3:∀ y∈n,0≤y∧y≤999):pState a r s n=true:=by
  unfold pState
  simp only[pIn,Bool.and_eq_true,decide_eq_true_eq,List.all_eq_true,beq_iff_eq]
  exact⟨ha,⟨k1,by omega⟩,⟨k2,by omega⟩,k3,by omega⟩
theorem pStep_ok (l:List S106)(a:Int)(r s n:List Int)(v:Int)(hc:pCan l a r s n=true):pState (pStep l a r s n v).1 (pStep l a r s n v).2.1 (pStep l a r s n v).2.2.1 (pStep l a r s n v).2.2.2=true∧a < (pStep l a r s n v).1∧(pStep l a r s n v).1≤a+4:=by
  obtain⟨f1,f2,f3,f4,f5,f6,f7,f8,f9,f10,f11⟩:=pCan_facts hc
  have ho:pOp (rd_T106 l a)=true:=f9 _ (getD_mem l a.toNat (by omega) z106)
  have ew:wrap64 (a+1)=a+1:=w64 (by omega) (by omega)
  unfold pStep
  rw[if_pos hc]
  generalize rd_T106 l a=y at ho
  by_cases c5:y.f0=5
  · rw[if_pos c5,ew]
    have g1:=rd_in f6 y.f2
    have g2:=rd_in f6 y.f3
    refine⟨pState_mk (by dsimp only;omega) (by simpa using f3) f4 f5 (set_in f6 _ (tmod_in _ ?_)) f7 f8,by dsimp only;omega,by dsimp only;omega⟩
    rw[w64 (by omega) (by omega)]
    omega
  rw[if_neg c5]
  by_cases c6:y.f0=6
  · rw[if_pos c6,ew]
    exact⟨pState_mk (by dsimp only;omega) f3 f4 (by simpa using f5) f6 f7 (set_in f8 _ (rd_in f6 _)),by dsimp only;omega,by dsimp only;omega⟩
  rw[if_neg c6]
  by_cases c7:y.f0=7
  · have g:=pOp_7 ho c7
    rw[if_pos c7,ew]
    by_cases c:Int.tmod (rd r y.f1) 2=0
    · rw[if_pos c,w64 (by omega) (by omega)]
      exact⟨pState_mk (by dsimp only;omega) f3 f4 f5 f6 f7 f8,by dsimp only;omega,by dsimp only;omega⟩
    · rw[if_neg c]
      exact⟨pState_mk (by dsimp only;omega) f3 f4 f5 f6 f7 f8,by dsimp only;omega,by dsimp only;omega⟩
  rw[if_neg c7]
  by_cases c8:y.f0=8
  · rw[if_pos c8,ew]
    exact⟨pState_mk (by dsimp only;omega) (by simpa using f3) f4 f5 (set_in f6 _ (rd_in f7 _)) f7 f8,by dsimp only;omega,by dsimp only;omega⟩
  rw[if_neg c8]
  by_cases c9:y.f0=9
  · rw[if_pos c9,ew]
    exact⟨pState_mk (by dsimp only;omega) f3 (by simpa using f4) f5 f6 (set_in f7 _ (rd_in f6 _)) f8,by dsimp only;omega,by dsimp only;omega⟩
  rw[if_neg c9,ew]
  exact⟨pState_mk (by dsimp only;omega) (by simpa using f3) f4 f5 (set_in f6 _ (pClamp_in v)) f7 f8,by dsimp only;omega,by dsimp only;omega⟩
theorem pWant_ok (l:List S106)(a:Int)(r s n:List Int)(hc:pCan l a r s n=true)(h:0 < (pWant l a r s n).1):pAsks (pWant l a r s n).1=true∧((pWant l a r s n).1=1→pAddr (pWant l a r s n).2.1 (pWant l a r s n).2.2.1 (pWant l a r s n).2.2.2=true):=by
  obtain⟨f1,f2,f3,f4,f5,f6,f7,f8,f9,f10,f11⟩:=pCan_facts hc
  have ho:pOp (rd_T106 l a)=true:=f9 _ (getD_mem l a.toNat (by omega) z106)
  unfold pWant at h ⊢
  generalize rd_T106 l a=y at ho h ⊢
  by_cases c:pCan l a r s n=true∧pAsks y.f0=true
  · rw[if_pos c] at h ⊢
    by_cases c1:y.f0=1
    · rw[if_pos c1] at h ⊢
      refine⟨c.2,fun _=>?_⟩
      have g:=rd_in f6 y.f1
      have hg:0≤Int.tmod (rd r y.f1) 100∧Int.tmod (rd r y.f1) 100≤99:=by
        rw[Int.tmod_eq_emod_of_nonneg g.1]
        omega
      unfold pOp at ho
      rw[if_pos c1] at ho
      unfold pAddr
      simp only[pIn,Bool.and_eq_true,decide_eq_true_eq] at ho ⊢
      exact⟨ho.2.1,ho.2.2,hg⟩
    · rw[if_neg c1] at h ⊢
      exact⟨c.2,fun e=>absurd e c1⟩
  · rw[if_neg c] at h
    exact absurd h (by simp)
theorem pStep_one (l:List S106)(a:Int)(r s n:List Int)(v u:Int)(h:(pWant l a r s n).1=0):pStep l a r s n v=pStep l a r s n u:=by
  by_cases hc:pCan l a r s n=true
  · obtain⟨f1,f2,f3,f4,f5,f6,f7,f8,f9,f10,f11⟩:=pCan_facts hc
    have ho:pOp (rd_T106 l a)=true:=f9 _ (getD_mem l a.toNat (by omega) z106)
    unfold pWant at h
    unfold pStep
    rw[if_pos hc,if_pos hc]
    generalize rd_T106 l a=y at ho h ⊢
    have hk:¬(1≤y.f0∧y.f0≤4):=by
      intro hk
      have e:pAsks y.f0=true:=by unfold pAsks;simp;omega
      rw[if_pos ⟨hc,e⟩] at h
      split at h
      · dsimp only at h;omega
      · dsimp only at h;omega
    have hkind:1≤y.f0∧y.f0≤9:=pOp_kind ho
    repeat' split
    all_goals first|rfl | omega
  · unfold pStep
    rw[if_neg hc,if_neg hc]
def z0:Int×List Int×List Int×List Int:=(0,[0,0,0,0],[0,0,0],[0,0,0,0])
theorem pWant_nn (l:List S106)(a:Int)(r s n:List Int)(hc:pCan l a r s n=true):0≤(pWant l a r s n).1:=by
  unfold pWant
  split
  · rename_i c
    have:=c.2
    unfold pAsks at this
    simp only[Bool.and_eq_true,decide_eq_true_eq] at this
    split <;> (dsimp only;omega)
  · simp
theorem pScript_len {l:List S106}(h:pScript l=true):l.length≤16:=by
  unfold pScript at h
  simp only[Bool.and_eq_true,decide_eq_true_eq] at h
  omega
def StOk (z:Int×List Int×List Int×List Int):Prop:=pState z.1 z.2.1 z.2.2.1 z.2.2.2=true
theorem z0_ok:StOk z0:=by unfold StOk;decide
theorem can_of {l:List S106}(hs:pScript l=true){z:Int×List Int×List Int×List Int}(hz:StOk z)(h:¬(l.length:Int)≤z.1):pCan l z.1 z.2.1 z.2.2.1 z.2.2.2=true:=by
  unfold pCan
  unfold StOk at hz
  rw[hs,hz]
  simp only[Bool.true_and,decide_eq_true_eq]
  omega
theorem StOk_len {z:Int×List Int×List Int×List Int}(h:StOk z):z.2.1.length=4∧z.2.2.1.length=3∧z.2.2.2.length=4:=by
  unfold StOk pState at h
  simp only[Bool.and_eq_true,beq_iff_eq] at h
  omega
def pRes (k:Int)(b:List Int)(h p q:Int):Bool :=
  if k=1∨k=2 then decide ((b.length:Int)≤6) && (b.all (pIn · 0 255) && pZero h p q)
  else if k=3 then decide ((b.length:Int)=0) && pAddr h p q
  else if k=4 then decide ((b.length:Int)=0) && pZero h p q
  else false
def pVersion (y:S110):Bool:=pAddr y.f0.f0 y.f0.f1 y.f0.f2 && (pIn y.f1 0 1000 && pRes y.f2.f0 y.f2.f1 y.f2.f2.f0 y.f2.f2.f1 y.f2.f2.f2)
def pIsSite (l:List S110):Bool:=l.all pVersion && decide ((l.length:Int)≤12)
def pVisit (s:List S110)(t sd:Int)(i:List Int):Bool:=pIsSite s && (pIn t 0 1000 && (pIn sd 0 9999 && (decide ((i.length:Int)≤8) && i.all (pIn · 0 999))))
def pMod (a b:Int):Int:=if 1≤b∧b≤1000000000000 then Int.tmod (wrap64 ((Int.tmod a b)+b)) b else 0
def hashStep (d y:Int):Int:=Int.tmod (wrap64 ((wrap64 ((wrap64 (d * 1000003))+pMod y 2147483647))+13)) 2147483647
def pHash (l:List Int):Int:=l.foldl hashStep 11
def pSum (b:List Int):Int:=b.foldl (fun x y=>x+y) 0
def pVal (k:Int)(b:List Int)(h p q:Int):Int :=
  if pRes k b h p q=true∧(k=1∨k=2) then(if pSum b % 1000 < 999 then pSum b % 1000+1 else 999) else 0
theorem fold_mod (b:List Int):∀ x:Int,b.foldl (fun x y=>(x+y) % 1000) (x % 1000)=(b.foldl (fun x y=>x+y) x) % 1000:=by
  induction b with
  | nil=>intro x;rfl
  | cons y b ih =>
    intro x
    rw[List.foldl_cons,List.foldl_cons,←ih (x+y)]
    congr 1
    omega
theorem pRes_body {k:Int}{b:List Int}{h p q:Int}(hr:pRes k b h p q=true)(hk:k=1∨k=2):b.length≤6∧∀ y∈b,0≤y∧y≤255:=by
  unfold pRes at hr
  rw[if_pos hk] at hr
  simp only[Bool.and_eq_true,decide_eq_true_eq,List.all_eq_true] at hr
  exact⟨by omega,fun y hy=>hr.2.1 y hy⟩
def pLive (s:List S110)(tk sd:Int)(ins:List Int)(w0 w1 w2 w3 n:Int):Int :=
  if pVisit s tk sd ins=true∧pIn n 0 100=true then
    if w0=1 then pVal (pFollow s w1 w2 w3 (wrap64 (tk+n))).1 (pFollow s w1 w2 w3 (wrap64 (tk+n))).2.1 (pFollow s w1 w2 w3 (wrap64 (tk+n))).2.2.1 (pFollow s w1 w2 w3 (wrap64 (tk+n))).2.2.2.1 (pFollow s w1 w2 w3 (wrap64 (tk+n))).2.2.2.2.1
    else if w0=2 then mn 999 (wrap64 (tk+n))
    else if w0=3 then pMod (pHash [sd,n]) 1000
    else if w0=4 then(if (ins.length:Int) > 0 then rd ins (Int.tmod n (ins.length:Int)) else 0)
    else 0
  else 0
/-- A visit, with at most so many rounds. -/
def pSeen (l:List S106)(s:List S110)(tk sd:Int)(ins:List Int):Nat→List S41→List S35→(Int×List Int×List Int×List Int)→List S41×List S35
  | 0,es,tr,_=>(es,tr)
  | m+1,es,tr,z =>
    if (l.length:Int)≤z.1 then(es,tr)
    else if (pWant l z.1 z.2.1 z.2.2.1 z.2.2.2).1=0 then
      pSeen l s tk sd ins m es (tr++[⟨(pStep l z.1 z.2.1 z.2.2.1 z.2.2.2 0).1,(pStep l z.1 z.2.1 z.2.2.1 z.2.2.2 0).2.1,(pStep l z.1 z.2.1 z.2.2.1 z.2.2.2 0).2.2.1,(pStep l z.1 z.2.1 z.2.2.1 z.2.2.2 0).2.2.2⟩]) (pStep l z.1 z.2.1 z.2.2.1 z.2.2.2 0)
    else pSeen l s tk sd ins m (es++[⟨(pWant l z.1 z.2.1 z.2.2.1 z.2.2.2).1,⟨(pWant l z.1 z.2.1 z.2.2.1 z.2.2.2).2.1,(pWant l z.1 z.2.1 z.2.2.1 z.2.2.2).2.2.1,(pWant l z.1 z.2.1 z.2.2.1 z.2.2.2).2.2.2⟩,pAns l s tk sd ins es z⟩]) (tr++[⟨(pStep l z.1 z.2.1 z.2.2.1 z.2.2.2 (pAns l s tk sd ins es z)).1,(pStep l z.1 z.2.1 z.2.2.1 z.2.2.2 (pAns l s tk sd ins es z)).2.1,(pStep l z.1 z.2.1 z.2.2.1 z.2.2.2 (pAns l s tk sd ins es z)).2.2.1,(pStep l z.1 z.2.1 z.2.2.1 z.2.2.2 (pAns l s tk sd ins es z)).2.2.2⟩]) (pStep l z.1 z.2.1 z.2.2.1 z.2.2.2 (pAns l s tk sd ins es z))
where pAns (l:List S106) (s:List S110) (tk sd:Int) (ins:List Int) (es:List S41) (z:Int×List Int×List Int×List Int):Int:=pLive s tk sd ins (pWant l z.1 z.2.1 z.2.2.1 z.2.2.2).1 (pWant l z.1 z.2.1 z.2.2.1 z.2.2.2).2.1 (pWant l z.1 z.2.1 z.2.2.1 z.2.2.2).2.2.1 (pWant l z.1 z.2.1 z.2.2.1 z.2.2.2).2.2.2 (es.length:Int)
def pVis (l:List S106)(s:List S110)(tk sd:Int)(ins:List Int):List S41×List S35 :=
  if pScript l=true∧pVisit s tk sd ins=true then pSeen l s tk sd ins 40 [] [⟨0,[0,0,0,0],[0,0,0],[0,0,0,0]⟩] z0 else([],[⟨0,[0,0,0,0],[0,0,0],[0,0,0,0]⟩])
def Row3 (y:S35):Prop:=y.f1.length=4∧y.f2.length=3∧y.f3.length=4
theorem StOk_row {z:Int×List Int×List Int×List Int}(h:StOk z):Row3 ⟨z.1,z.2.1,z.2.2.1,z.2.2.2⟩:=StOk_len h
theorem tr_add {c:Nat}{tr:List S35}(ht:tr.length≤c∧∀ y∈tr,Row3 y){z:Int×List Int×List Int×List Int}(h:StOk z):(tr++[(⟨z.1,z.2.1,z.2.2.1,z.2.2.2⟩:S35)]).length≤c+1∧∀ y∈tr++[(⟨z.1,z.2.1,z.2.2.1,z.2.2.2⟩:S35)],Row3 y:=by
  refine⟨by rw[List.length_append,List.length_singleton];omega,fun y hy=>?_⟩
  rcases List.mem_append.1 hy with hy | hy
  · exact ht.2 y hy
  · rw[List.mem_singleton.1 hy]
    exact StOk_row h
theorem pSeen_tr (l:List S106)(s:List S110)(tk sd:Int)(ins:List Int)(hs:pScript l=true):∀ (m c d:Nat) (es:List S41) (tr:List S35) (z:Int×List Int×List Int×List Int),StOk z→es.length≤d→1≤tr.length→(tr.length≤c∧∀ y∈tr,Row3 y) →
    ((pSeen l s tk sd ins m es tr z).2.length≤c+m∧∀ y∈(pSeen l s tk sd ins m es tr z).2,Row3 y)∧(pSeen l s tk sd ins m es tr z).1.length≤d+m∧1≤(pSeen l s tk sd ins m es tr z).2.length:=by
  intro m
  induction m with
  | zero=>intro c d es tr z hz hd h1 ht;exact⟨ht,hd,h1⟩
  | succ m ih =>
    intro c d es tr z hz hd h1 ht
    rw[pSeen]
    by_cases c1:(l.length:Int)≤z.1
    · rw[if_pos c1]
      dsimp only
      exact⟨⟨by omega,ht.2⟩,by omega,h1⟩
    rw[if_neg c1]
    have hc:=can_of hs hz c1
    have e:c+1+m=c+(m+1):=by omega
    have e2:d+1+m=d+(m+1):=by omega
    split
    · have hk:=(pStep_ok l z.1 z.2.1 z.2.2.1 z.2.2.2 0 hc).1
      have r:=ih (c+1) d es _ _ hk hd (by rw[List.length_append,List.length_singleton];omega) (tr_add ht hk)
      rw[e] at r
      exact⟨r.1,by omega,r.2.2⟩
    · have hk:=(pStep_ok l z.1 z.2.1 z.2.2.1 z.2.2.2 (pSeen.pAns l s tk sd ins es z) hc).1
      have r:=fun x:S41=>ih (c+1) (d+1) (es++[x]) _ _ hk (by rw[List.length_append,List.length_singleton];omega) (by rw[List.length_append,List.length_singleton];omega) (tr_add ht hk)
      rw[e,e2] at r
      exact r _
theorem pVis_tr (l:List S106)(s:List S110)(tk sd:Int)(ins:List Int):((pVis l s tk sd ins).2.length≤41∧∀ y∈(pVis l s tk sd ins).2,Row3 y)∧(pVis l s tk sd ins).1.length≤40∧1≤(pVis l s tk sd ins).2.length:=by
  have h0:([⟨0,[0,0,0,0],[0,0,0],[0,0,0,0]⟩]:List S35).length≤1∧∀ y∈([⟨0,[0,0,0,0],[0,0,0],[0,0,0,0]⟩]:List S35),Row3 y:=by
    refine⟨by simp,fun y hy=>?_⟩
    rw[List.mem_singleton.1 hy]
    exact⟨rfl,rfl,rfl⟩
  unfold pVis
  split
  · rename_i h
    exact pSeen_tr l s tk sd ins h.1 40 1 0 [] _ z0 z0_ok (by simp) (by simp) h0
  · exact⟨⟨by simp,h0.2⟩,by simp,by simp⟩
/-- The captures of a recording, from its i-th entry on. -/
def pCaptAt (s:List S110)(tk:Int)(es:List S41)(i:Nat)(out:List S45):List S45 :=
  if (rd_T41 es (i:Int)).f0=1 then out++[⟨⟨(rd_T41 es (i:Int)).f1.f0,(rd_T41 es (i:Int)).f1.f1,(rd_T41 es (i:Int)).f1.f2⟩,wrap64 (tk+(i:Int)),⟨(pFollow s (rd_T41 es (i:Int)).f1.f0 (rd_T41 es (i:Int)).f1.f1 (rd_T41 es (i:Int)).f1.f2 (wrap64 (tk+(i:Int)))).1,(pFollow s (rd_T41 es (i:Int)).f1.f0 (rd_T41 es (i:Int)).f1.f1 (rd_T41 es (i:Int)).f1.f2 (wrap64 (tk+(i:Int)))).2.1,⟨(pFollow s (rd_T41 es (i:Int)).f1.f0 (rd_T41 es (i:Int)).f1.f1 (rd_T41 es (i:Int)).f1.f2 (wrap64 (tk+(i:Int)))).2.2.1,(pFollow s (rd_T41 es (i:Int)).f1.f0 (rd_T41 es (i:Int)).f1.f1 (rd_T41 es (i:Int)).f1.f2 (wrap64 (tk+(i:Int)))).2.2.2.1,(pFollow s (rd_T41 es (i:Int)).f1.f0 (rd_T41 es (i:Int)).f1.f1 (rd_T41 es (i:Int)).f1.f2 (wrap64 (tk+(i:Int)))).2.2.2.2.1⟩⟩⟩] else out
def pCapt (s:List S110)(tk:Int)(es:List S41):Nat→Nat→List S45→List S45
  | 0,_,out=>out
  | d+1,i,out=>pCapt s tk es d (i+1) (pCaptAt s tk es i out)
def pCaptures (l:List S106)(s:List S110)(tk sd:Int)(ins:List Int):List S45:=pCapt s tk (pVis l s tk sd ins).1 (pVis l s tk sd ins).1.length 0 []
theorem pCaptAt_len (s:List S110)(tk:Int)(es:List S41)(i:Nat)(out:List S45):(pCaptAt s tk es i out).length≤out.length+1:=by
  unfold pCaptAt
  split
  · rw[List.length_append,List.length_singleton];omega
  · omega
theorem pCaptAt_fit (s:List S110)(tk:Int)(es:List S41)(hf:∀ y∈s,FitimplVersion y)(i:Nat)(out:List S45)(h:∀ y∈out,FitimplCapture y):(∀ y∈pCaptAt s tk es i out,FitimplCapture y)∧(pCaptAt s tk es i out).length≤out.length+1:=by
  unfold pCaptAt
  split
  · refine⟨fun y hy=>?_,by rw[List.length_append,List.length_singleton];omega⟩
    rcases List.mem_append.1 hy with h1 | h1
    · exact h y h1
    · rw[List.mem_singleton] at h1
      rw[h1]
      exact pFollow_fit s _ _ _ _ hf
  · exact⟨h,Nat.le_succ _⟩
theorem pCapt_fit (s:List S110)(tk:Int)(es:List S41)(hf:∀ y∈s,FitimplVersion y):∀ (d i:Nat) (out:List S45),(∀ y∈out,FitimplCapture y)→(∀ y∈pCapt s tk es d i out,FitimplCapture y)∧(pCapt s tk es d i out).length≤out.length+d:=by
  intro d
  induction d with
  | zero=>intro i out h;exact⟨h,Nat.le_refl _⟩
  | succ d ih =>
    intro i out h
    obtain⟨h1,h2⟩:=pCaptAt_fit s tk es hf i out h
    obtain⟨h3,h4⟩:=ih (i+1) _ h1
    exact⟨h3,by rw[pCapt];omega⟩
theorem pCaptures_fit (l:List S106)(s:List S110)(tk sd:Int)(ins:List Int)(hf:∀ y∈s,FitimplVersion y):(∀ y∈pCaptures l s tk sd ins,FitimplCapture y)∧(pCaptures l s tk sd ins).length≤40:=by
  obtain⟨_,y3,_⟩:=pVis_tr l s tk sd ins
  obtain⟨h1,h2⟩:=pCapt_fit s tk (pVis l s tk sd ins).1 hf (pVis l s tk sd ins).1.length 0 [] (fun y hy=>by cases hy)
  unfold pCaptures
  rw[List.length_nil] at h2
  exact⟨h1,by omega⟩
theorem copyResource_eq (k:Int)(b:List Int)(h p q:Int)(hb:b.length≤1048576):impl_copyResource.f k b h p q=some (k,b,h,p,q):=by
  simp only[impl_copyResource.f,slices_Clone_int_int.f,Option.bind_some,List.nil_append,List.length_nil]
  rw[if_pos (by omega)]
  rfl
theorem iAnswer_ev (l:List S110)(a p q t:Int)(h:l.length≤1048576)(hf:∀ y∈l,FitimplVersion y):Ev (fun k=>impl_AnswerAt.f k l a p q t) (pAnswer l a p q t):=by
  unfold impl_AnswerAt.f pAnswer
  have key:∀ i:Nat,i≤l.length→Ev (fun k=>impl_AnswerAt.l0 k l t ((i:Int) - 1) a p q) ((l.take i).foldl (ansStep a p q t) (4,[],0,0,0)):=by
    intro i
    induction i with
    | zero =>
      intro _
      refine Ev.round (fun _=>by rw[impl_AnswerAt.l0]) ?_
      exact Ev.neg (by omega) (Ev.now _)
    | succ i ih =>
      intro hi
      have h0:=ih (by omega)
      have e0:((i+1:Nat):Int) - 1=(i:Int):=by omega
      have e1:wrap64 ((i:Int) - 1)=(i:Int) - 1:=w64 (by omega) (by omega)
      have hfy:FitimplVersion (rd_T110 l (i:Int)):=hf _ (getD_mem l i (by omega) z110)
      have e2:(l.take (i+1)).foldl (ansStep a p q t) (4,[],0,0,0)=ansStep a p q t ((l.take i).foldl (ansStep a p q t) (4,[],0,0,0)) (rd_T110 l (i:Int)):=by
        rw[List.take_succ_eq_append_getElem (by omega),List.foldl_append]
        have e3:rd_T110 l (i:Int)=l[i]'(by omega):=getD_in l i (by omega) z110
        rw[e3]
        rfl
      rw[e2,e0]
      generalize (l.take i).foldl (ansStep a p q t) (4,[],0,0,0)=x at h0
      refine Ev.round (fun _=>by rw[impl_AnswerAt.l0]) ?_
      refine Ev.pos (by omega) ?_
      refine Ev.pos (by omega) ?_
      refine Ev.pos (by omega) ?_
      generalize hy:rd_T110 l (i:Int)=y at hfy
      simp only[e1]
      unfold ansStep pHere
      cases c1:(y.f0.f0 == a && (y.f0.f1 == p && (y.f0.f2 == q))) with
      | false=>exact Ev.neg (by simp) h0
      | true =>
        refine Ev.pos rfl ?_
        by_cases c2:y.f1≤t
        · rw[decide_eq_true c2]
          exact Ev.pos c2 (Ev.now_bind (copyResource_eq _ _ _ _ _ hfy) (Ev.now _))
        · rw[decide_eq_false c2]
          exact Ev.neg c2 h0
  have h1:=key l.length (by omega)
  rw[List.take_length] at h1
  rw[w64 (by omega) (by omega)]
  exact h1
theorem iHas_ev (c:List S39)(a p q:Int)(h:c.length≤1048576):Ev (fun k=>impl_Address_42.f k c a p q) (pHasA c a p q):=by
  unfold impl_Address_42.f pHasA
  have hx:∃ r:Int,Ev (fun k=>impl_Address_69.f k c a p q) r∧decide (r≥0)=c.any fun y=>y.f0 == a && (y.f1 == p && (y.f2 == q)):=by
    unfold impl_Address_69.f
    refine ev_find (fun k i=>impl_Address_69.l0 k c (c.length:Int) i a p q) c z39 (fun y=>y.f0 == a && (y.f1 == p && (y.f2 == q))) (fun k=>by rw[impl_Address_69.l0,if_neg (by omega)]) ?_ ?_
    · intro i hi hp
      have hp':(a == (rd_T39 c (i:Int)).f0 && (p == (rd_T39 c (i:Int)).f1 && (q == (rd_T39 c (i:Int)).f2)))=true:=by
        rw[Bool.beq_comm (a:=a),Bool.beq_comm (a:=p),Bool.beq_comm (a:=q)]
        exact hp
      refine Ev.round (fun _=>by rw[impl_Address_69.l0]) ?_
      exact Ev.pos (by omega) (Ev.pos (by omega) (Ev.pos (by omega) (Ev.pos hp' (Ev.now _))))
    · intro i hi hp r hr
      have e1:wrap64 ((i:Int)+1)=((i+1:Nat):Int):=by rw[w64 (by omega) (by omega)];omega
      have hp':(a == (rd_T39 c (i:Int)).f0 && (p == (rd_T39 c (i:Int)).f1 && (q == (rd_T39 c (i:Int)).f2)))=false:=by
        rw[Bool.beq_comm (a:=a),Bool.beq_comm (a:=p),Bool.beq_comm (a:=q)]
        exact hp
      refine Ev.round (fun _=>by rw[impl_Address_69.l0]) ?_
      refine Ev.pos (by omega) ?_
      refine Ev.pos (by omega) ?_
      refine Ev.pos (by omega) ?_
      refine Ev.neg (ne_true_of_eq_false hp') ?_
      simp only[e1]
      exact hr
  obtain⟨r,hr,hd⟩:=hx
  rw[←hd]
  exact Ev.bind hr (Ev.now _)
theorem iTrail_ev (l:List S110)(t:Int)(h:l.length≤1048576)(hf:∀ y∈l,FitimplVersion y):∀ (n:Nat) (c:List S39) (r:Rsc),c.length+n=5→Ev (fun k=>impl_FollowAt.l0 k l t c r.1 r.2.1 r.2.2.1 r.2.2.2.1 r.2.2.2.2) (pTrail l t n c r):=by
  intro n
  induction n with
  | zero =>
    intro c r hn
    refine Ev.round (fun _=>by rw[impl_FollowAt.l0]) ?_
    by_cases c1:r.1=3
    · exact Ev.pos c1 (Ev.neg (by omega) (Ev.now _))
    · exact Ev.neg c1 (Ev.now _)
  | succ n ih =>
    intro c r hn
    unfold pTrail
    refine Ev.round (fun _=>by rw[impl_FollowAt.l0]) ?_
    by_cases c1:r.1=3
    · refine Ev.pos c1 ?_
      refine Ev.pos (by omega) ?_
      refine Ev.bind (iHas_ev c r.2.2.1 r.2.2.2.1 r.2.2.2.2 (by omega)) ?_
      cases c2:pHasA c r.2.2.1 r.2.2.2.1 r.2.2.2.2 with
      | true =>
        rw[if_neg (by simp)]
        exact Ev.pos rfl (Ev.now _)
      | false =>
        rw[if_pos ⟨c1,rfl⟩]
        refine Ev.neg (by simp) ?_
        refine Ev.pos (by omega) ?_
        refine Ev.bind (iAnswer_ev l _ _ _ t h hf) ?_
        exact ih _ _ (by simp only[List.length_append,List.length_singleton];omega)
    · rw[if_neg (fun z=>c1 z.1)]
      exact Ev.neg c1 (Ev.now _)
theorem iFollow_ev (l:List S110)(a p q t:Int)(h:l.length≤1048576)(hf:∀ y∈l,FitimplVersion y):Ev (fun k=>impl_FollowAt.f k l a p q t) (pFollow l a p q t):=by
  unfold impl_FollowAt.f pFollow
  exact Ev.bind (iAnswer_ev l a p q t h hf) (iTrail_ev l t h hf 4 _ _ rfl)
theorem at_eq (a b:Int):impl_at.f a b=some (decide (0≤a) && decide (a < b)):=by
  unfold impl_at.f
  by_cases h:0≤a <;> simp[h]
theorem InRange_eq (a b c:Int):impl_InRange.f a b c=some (decide (b≤a) && decide (a≤c)):=by
  unfold impl_InRange.f
  by_cases h:b≤a <;> simp[h]
theorem pIn_at (a:Int):(decide (0≤a) && decide (a < 4))=pIn a 0 3:=by
  have:(a < 4)=(a≤3):=by apply propext;omega
  simp only[this]
theorem pIn_at3 (a:Int):(decide (0≤a) && decide (a < 3))=pIn a 0 2:=by
  have:(a < 3)=(a≤2):=by apply propext;omega
  simp only[this]
theorem iOp_ev (y:S106):Ev (fun k=>impl_isOp.f k y.f0 y.f1 y.f2 y.f3) (pOp y):=by
  unfold impl_isOp.f pOp
  refine Ev.now_and ((at_eq _ _).trans (congrArg some (pIn_at _))) fun _=>?_
  by_cases h1:y.f0=1
  · rw[if_pos h1]
    refine Ev.pos h1 ?_
    exact Ev.now_and (InRange_eq _ _ _) fun _=>Ev.now_bind (InRange_eq _ _ _) (Ev.now _)
  rw[if_neg h1]
  refine Ev.neg h1 ?_
  have hj:∀ x:Bool,(x=true↔y.f0=2∨y.f0=3∨y.f0=4)→Ev (fun k=>impl_isOp.j0 k y.f0 x y.f0 y.f1 y.f2 y.f3) (if y.f0=2∨y.f0=3∨y.f0=4 then decide (y.f2=0) && (y.f3 == 0)
    else if y.f0=5 then pIn y.f2 0 3 && pIn y.f3 0 3
    else if y.f0=6 then pIn y.f2 0 3 && (y.f3 == 0)
    else if y.f0=7 then pIn y.f2 1 3 && (y.f3 == 0)
    else if y.f0=8 then pIn y.f2 0 2 && (y.f3 == 0)
    else if y.f0=9 then pIn y.f2 0 2 && (y.f3 == 0)
    else false):=by
    intro x hx
    refine Ev.round (fun _=>by rw[impl_isOp.j0]) ?_
    cases x with
    | true =>
      rw[if_pos (hx.1 rfl)]
      refine Ev.pos rfl ?_
      exact Ev.if_and fun _=>Ev.now _
    | false =>
      have hno:¬(y.f0=2∨y.f0=3∨y.f0=4):=fun c=>by simpa using hx.2 c
      rw[if_neg hno]
      refine Ev.neg (by simp) ?_
      refine Ev.ite (fun _=>?_) (fun _=>?_)
      · exact Ev.now_and ((at_eq _ _).trans (congrArg some (pIn_at _))) fun _=>Ev.now_bind ((at_eq _ _).trans (congrArg some (pIn_at _))) (Ev.now _)
      refine Ev.ite (fun _=>?_) (fun _=>?_)
      · exact Ev.now_and ((at_eq _ _).trans (congrArg some (pIn_at _))) fun _=>Ev.now _
      refine Ev.ite (fun _=>?_) (fun _=>?_)
      · exact Ev.now_and (InRange_eq _ _ _) fun _=>Ev.now _
      refine Ev.ite (fun _=>?_) (fun _=>?_)
      · exact Ev.now_and ((at_eq _ _).trans (congrArg some (pIn_at3 _))) fun _=>Ev.now _
      refine Ev.ite (fun _=>?_) (fun _=>?_)
      · exact Ev.now_and ((at_eq _ _).trans (congrArg some (pIn_at3 _))) fun _=>Ev.now _
      · exact Ev.now _
  by_cases h2:y.f0=2
  · refine Ev.pos h2 (hj _ ?_)
    simp[h2]
  refine Ev.neg h2 ?_
  by_cases h3:y.f0=3
  · refine Ev.pos h3 (hj _ ?_)
    simp[h3]
  refine Ev.neg h3 (hj _ ?_)
  simp[h2,h3]
theorem iIsScript_ev (l:List S106)(h:l.length≤1048576):Ev (fun k=>impl_IsScript.f k l) (pScript l):=by
  unfold impl_IsScript.f pScript
  rw[Bool.and_comm]
  refine Ev.if_and fun _=>?_
  rw[←not_any]
  refine Ev.no ?_
  unfold slices_ContainsFunc_71.f
  have hf:∃ r:Int,Ev (fun k=>slices_IndexFunc_71.l0 k l (l.length:Int) 0) r∧decide (r≥0)=l.any (fun y=>!pOp y):=by
    refine ev_find (fun k i=>slices_IndexFunc_71.l0 k l (l.length:Int) i) l z106 (fun y=>!pOp y) (fun k=>by rw[slices_IndexFunc_71.l0,if_neg (by omega)]) ?_ ?_
    · intro i hi hp
      refine Ev.round (fun _=>by rw[slices_IndexFunc_71.l0]) ?_
      refine Ev.pos (by omega) ?_
      refine Ev.pos (by omega) ?_
      refine Ev.pos (by omega) ?_
      refine Ev.bind (Ev.no (iOp_ev (rd_T106 l (i:Int)))) ?_
      refine Ev.pos hp ?_
      exact Ev.now _
    · intro i hi hp r hr
      have e1:wrap64 ((i:Int)+1)=((i+1:Nat):Int):=by rw[w64 (by omega) (by omega)];omega
      refine Ev.round (fun _=>by rw[slices_IndexFunc_71.l0]) ?_
      refine Ev.pos (by omega) ?_
      refine Ev.pos (by omega) ?_
      refine Ev.pos (by omega) ?_
      refine Ev.bind (Ev.no (iOp_ev (rd_T106 l (i:Int)))) ?_
      refine Ev.neg (ne_true_of_eq_false hp) ?_
      simp only[e1]
      exact hr
  obtain⟨r,hr,hd⟩:=hf
  rw[←hd]
  exact Ev.bind hr (Ev.now _)
theorem allIn_ev (l:List Int)(a b:Int)(h:l.length≤1048576):Ev (fun k=>impl_allIn.f k l a b) (l.all (pIn · a b)):=by
  unfold impl_allIn.f
  refine Ev.cast (ev_all (fun k i=>impl_allIn.l0 k a b l (l.length:Int) i) l 0 (pIn · a b) true (fun k=>by rw[impl_allIn.l0,if_neg (by omega)]) ?_ ?_) (Bool.and_true _)
  · intro i hi hp r hr
    have e1:wrap64 ((i:Int)+1)=((i+1:Nat):Int):=by rw[w64 (by omega) (by omega)];omega
    refine Ev.round (fun _=>by rw[impl_allIn.l0]) ?_
    refine Ev.pos (by omega) ?_
    refine Ev.pos (by omega) ?_
    refine Ev.pos (by omega) ?_
    refine Ev.now_bind (InRange_eq _ _ _) ?_
    refine Ev.pos ?_ ?_
    · rw[rd_nat];exact hp
    · simp only[e1];exact hr
  · intro i hi hp
    refine Ev.round (fun _=>by rw[impl_allIn.l0]) ?_
    refine Ev.pos (by omega) ?_
    refine Ev.pos (by omega) ?_
    refine Ev.pos (by omega) ?_
    refine Ev.now_bind (InRange_eq _ _ _) ?_
    refine Ev.neg ?_ (Ev.now _)
    rw[rd_nat];exact ne_true_of_eq_false hp
theorem iIsState_ev (a:Int)(r s n:List Int)(h1:r.length≤1048576)(h2:s.length≤1048576)(h3:n.length≤1048576):Ev (fun k=>impl_IsState.f k a r s n) (pState a r s n):=by
  unfold impl_IsState.f pState
  refine Ev.cast (Ev.now_and (InRange_eq _ _ _) fun _=>Ev.if_and fun _=>Ev.if_and fun _=>Ev.if_and fun _=>Ev.and (allIn_ev r 0 999 h1) fun _=>Ev.and (allIn_ev s 0 999 h2) fun _=>Ev.id (allIn_ev n 0 999 h3)) ?_
  rw[Bool.eq_iff_iff]
  simp only[Bool.and_eq_true,decide_eq_true_eq,beq_iff_eq]
  constructor
  · rintro⟨a1,a2,a3,a4,a5,a6,a7⟩;exact⟨a1,⟨a5,a2⟩,⟨a6,a3⟩,a7,a4⟩
  · rintro⟨a1,⟨a5,a2⟩,⟨a6,a3⟩,a7,a4⟩;exact⟨a1,a2,a3,a4,a5,a6,a7⟩
theorem iCan_ev (l:List S106)(a:Int)(r s n:List Int)(h:l.length≤1048576)(h1:r.length≤1048576)(h2:s.length≤1048576)(h3:n.length≤1048576):Ev (fun k=>impl_canStep.f k l a r s n) (pCan l a r s n):=by
  unfold impl_canStep.f pCan
  exact Ev.and (iIsScript_ev l h) fun _=>Ev.and (iIsState_ev a r s n h1 h2 h3) fun _=>Ev.now _
theorem iAsks_eq (k:Int):impl_Asks.f k=some (pAsks k):=by
  unfold impl_Asks.f pAsks
  rw[InRange_eq]
  rfl
theorem iWant_ev (l:List S106)(a:Int)(r s n:List Int)(h:l.length≤1048576)(h1:r.length≤1048576)(h2:s.length≤1048576)(h3:n.length≤1048576):Ev (fun k=>impl_WantOf.f k l a r s n) (pWant l a r s n):=by
  unfold impl_WantOf.f pWant
  refine Ev.bind (iCan_ev l a r s n h h1 h2 h3) ?_
  have hj:Ev (fun k=>impl_WantOf.j0 k l true a r s n) (0,0,0,0):=by
    refine Ev.round (fun _=>by rw[impl_WantOf.j0]) ?_
    refine Ev.pos rfl ?_
    exact Ev.now _
  cases hc:pCan l a r s n with
  | false=>exact Ev.neg (by simp) (Ev.cast hj (by simp))
  | true =>
    obtain⟨f1,f2,f3,f4,f5,f6,f7,f8,f9,_,_⟩:=pCan_facts hc
    refine Ev.pos rfl ?_
    refine Ev.pos f1 ?_
    refine Ev.pos f2 ?_
    refine Ev.now_bind (iAsks_eq _) ?_
    cases hk:pAsks (rd_T106 l a).f0 with
    | false=>exact Ev.cast hj (by simp)
    | true =>
      have hr:=pOp_reg (f9 _ (getD_mem l a.toNat (by omega) z106))
      have hr':0≤(rd_T106 l a).f1∧(rd_T106 l a).f1≤3:=hr
      rw[if_pos ⟨rfl,rfl⟩]
      refine Ev.round (fun _=>by rw[impl_WantOf.j0]) ?_
      refine Ev.neg (by simp) ?_
      refine Ev.pos f1 ?_
      refine Ev.pos f2 ?_
      refine Ev.ite (fun _=>?_) (fun _=>Ev.now _)
      exact Ev.pos hr'.1 (Ev.pos (by omega) (Ev.now _))
theorem iCopy_eq (a:Int)(r s n:List Int)(h1:r.length≤1048576)(h2:s.length≤1048576)(h3:n.length≤1048576):impl_copyState.f a r s n=some (a,r,s,n):=by
  simp only[impl_copyState.f,slices_Clone_int_int.f,Option.bind_some,List.nil_append,List.length_nil]
  rw[if_pos (by omega),if_pos (by omega),if_pos (by omega)]
  rfl
theorem iStep_ev (l:List S106)(a:Int)(r s n:List Int)(v:Int)(h:l.length≤1048576)(h1:r.length≤1048576)(h2:s.length≤1048576)(h3:n.length≤1048576):Ev (fun k=>impl_StepState.f k l a r s n v) (pStep l a r s n v):=by
  unfold impl_StepState.f
  refine Ev.now_bind (iCopy_eq a r s n h1 h2 h3) ?_
  refine Ev.bind (iCan_ev l a r s n h h1 h2 h3) ?_
  dsimp only
  unfold pStep
  by_cases c:pCan l a r s n=true
  · obtain⟨f1,f2,f3,f4,f5,f6,f7,f8,f9,f10,f11⟩:=pCan_facts c
    have ho:pOp (rd_T106 l a)=true:=f9 _ (getD_mem l a.toNat (by omega) z106)
    have hr:=pOp_reg ho
    refine Ev.rpos c ?_
    refine Ev.pos c ?_
    refine Ev.pos f1 ?_
    refine Ev.pos f2 ?_
    refine Ev.ite (fun c5=>?_) (fun c5=>?_)
    · have ha:=pOp_5 ho c5
      refine Ev.pos ha.1 ?_
      refine Ev.pos (by omega) ?_
      refine Ev.pos ha.2.2.1 ?_
      refine Ev.pos (by omega) ?_
      refine Ev.pos hr.1 ?_
      refine Ev.pos (by omega) ?_
      exact Ev.now _
    refine Ev.ite (fun c6=>?_) (fun c6=>?_)
    · have ha:=pOp_6 ho c6
      refine Ev.pos hr.1 ?_
      refine Ev.pos (by omega) ?_
      refine Ev.pos ha.1 ?_
      refine Ev.pos (by omega) ?_
      exact Ev.now _
    refine Ev.ite (fun c7=>?_) (fun c7=>?_)
    · refine Ev.pos hr.1 ?_
      refine Ev.pos (by omega) ?_
      exact Ev.ite (fun _=>Ev.now _) (fun _=>Ev.now _)
    refine Ev.ite (fun c8=>?_) (fun c8=>?_)
    · have ha:=pOp_8 ho c8
      refine Ev.pos ha.1 ?_
      refine Ev.pos (by omega) ?_
      refine Ev.pos hr.1 ?_
      refine Ev.pos (by omega) ?_
      exact Ev.now _
    refine Ev.ite (fun c9=>?_) (fun c9=>?_)
    · have ha:=pOp_9 ho c9
      refine Ev.pos hr.1 ?_
      refine Ev.pos (by omega) ?_
      refine Ev.pos ha.1 ?_
      refine Ev.pos (by omega) ?_
      exact Ev.now _
    refine Ev.pos hr.1 ?_
    refine Ev.pos (by omega) ?_
    rw[←pClamp_impl v]
    exact Ev.now _
  · refine Ev.rneg c ?_
    exact Ev.neg c (Ev.now _)
theorem iStart_eq:impl_StartState.f=some (0,[0,0,0,0],[0,0,0],[0,0,0,0]):=rfl
theorem iIsAddress_eq (h p q:Int):impl_IsAddress.f h p q=some (pAddr h p q):=by
  simp only[impl_IsAddress.f,InRange_eq,Option.bind_some,some_and]
theorem iIsResource_ev (k:Int)(b:List Int)(h p q:Int)(hb:b.length≤1048576):Ev (fun n=>impl_IsResource.f n k b h p q) (pRes k b h p q):=by
  have hj:∀ x:Bool,(x=true↔k=1∨k=2)→Ev (fun n=>impl_IsResource.j0 n k x k b h p q) (pRes k b h p q):=by
    intro x hx
    refine Ev.round (fun _=>by rw[impl_IsResource.j0]) ?_
    unfold pRes
    cases x with
    | true =>
      refine Ev.rpos (hx.1 rfl) ?_
      refine Ev.pos rfl ?_
      exact Ev.if_and fun _=>Ev.and (allIn_ev b 0 255 hb) fun _=>Ev.now _
    | false =>
      have hno:¬(k=1∨k=2):=fun c=>by simpa using hx.2 c
      refine Ev.rneg hno ?_
      refine Ev.neg (by simp) ?_
      by_cases h3:k=3
      · refine Ev.rpos h3 ?_
        refine Ev.pos h3 ?_
        exact Ev.if_and fun _=>Ev.now_bind (iIsAddress_eq _ _ _) (Ev.now _)
      · refine Ev.rneg h3 ?_
        refine Ev.neg h3 ?_
        by_cases h4:k=4
        · refine Ev.rpos h4 ?_
          refine Ev.pos h4 ?_
          exact Ev.if_and fun _=>Ev.now _
        · refine Ev.rneg h4 ?_
          refine Ev.neg h4 ?_
          exact Ev.now _
  unfold impl_IsResource.f
  by_cases h1:k=1
  · refine Ev.pos h1 (hj _ ?_)
    simp[h1]
  · refine Ev.neg h1 (hj _ ?_)
    simp[h1]
theorem iIsSiteLit_ev (y:S110)(hf:FitimplVersion y):Ev (fun k=>impl_IsSite_lit1.f k y.f0.f0 y.f0.f1 y.f0.f2 y.f1 y.f2.f0 y.f2.f1 y.f2.f2.f0 y.f2.f2.f1 y.f2.f2.f2) (!pVersion y):=by
  unfold impl_IsSite_lit1.f pVersion
  refine Ev.now_bind (iIsAddress_eq _ _ _) ?_
  cases p1:pAddr y.f0.f0 y.f0.f1 y.f0.f2 with
  | false=>exact Ev.neg (by simp) (Ev.now _)
  | true =>
    refine Ev.pos rfl ?_
    refine Ev.now_bind (InRange_eq _ _ _) ?_
    cases p2:pIn y.f1 0 1000 with
    | false=>exact Ev.neg (ne_true_of_eq_false p2) (Ev.now _)
    | true =>
      refine Ev.pos p2 ?_
      rw[Bool.true_and,Bool.true_and]
      exact Ev.no (iIsResource_ev _ _ _ _ _ hf)
theorem iIsSite_ev (l:List S110)(h:l.length≤1048576)(hf:∀ y∈l,FitimplVersion y):Ev (fun k=>impl_IsSite.f k l) (pIsSite l):=by
  unfold impl_IsSite.f pIsSite
  rw[Bool.and_comm]
  refine Ev.if_and fun _=>?_
  rw[←any_not]
  refine Ev.no ?_
  unfold slices_ContainsFunc_88.f
  have hf:∃ r:Int,Ev (fun k=>slices_IndexFunc_88.l0 k l (l.length:Int) 0) r∧decide (r≥0)=l.any (fun y=>!pVersion y):=by
    refine ev_find (fun k i=>slices_IndexFunc_88.l0 k l (l.length:Int) i) l z110 (fun y=>!pVersion y) (fun k=>by rw[slices_IndexFunc_88.l0,if_neg (by omega)]) ?_ ?_
    · intro i hi hp
      refine Ev.round (fun _=>by rw[slices_IndexFunc_88.l0]) ?_
      refine Ev.pos (by omega) ?_
      refine Ev.pos (by omega) ?_
      refine Ev.pos (by omega) ?_
      refine Ev.bind (iIsSiteLit_ev (rd_T110 l (i:Int)) (hf _ (getD_mem l i hi z110))) ?_
      refine Ev.pos hp ?_
      exact Ev.now _
    · intro i hi hp r hr
      have e1:wrap64 ((i:Int)+1)=((i+1:Nat):Int):=by rw[w64 (by omega) (by omega)];omega
      refine Ev.round (fun _=>by rw[slices_IndexFunc_88.l0]) ?_
      refine Ev.pos (by omega) ?_
      refine Ev.pos (by omega) ?_
      refine Ev.pos (by omega) ?_
      refine Ev.bind (iIsSiteLit_ev (rd_T110 l (i:Int)) (hf _ (getD_mem l i hi z110))) ?_
      refine Ev.neg (ne_true_of_eq_false hp) ?_
      simp only[e1]
      exact hr
  obtain⟨r,hr,hd⟩:=hf
  rw[←hd]
  exact Ev.bind hr (Ev.now _)
theorem iIsVisit_ev (s:List S110)(t sd:Int)(i:List Int)(h:s.length≤1048576)(hf:∀ y∈s,FitimplVersion y)(hi:i.length≤1048576):Ev (fun k=>impl_IsVisit.f k s t sd i) (pVisit s t sd i):=by
  unfold impl_IsVisit.f pVisit
  exact Ev.and (iIsSite_ev s h hf) fun _=>Ev.now_and (InRange_eq _ _ _) fun _=>Ev.now_and (InRange_eq _ _ _) fun _=>Ev.if_and fun _=>Ev.id (allIn_ev i 0 999 hi)
theorem iMod_eq (a b:Int):impl_Mod.f a b=some (pMod a b):=by
  unfold impl_Mod.f pMod
  rw[InRange_eq,Option.bind_some]
  by_cases h:1≤b∧b≤1000000000000
  · rw[if_pos h,if_pos (by simp[h.1,h.2]),if_neg (by omega)]
  · rw[if_neg h,if_neg]
    intro c
    simp only[Bool.and_eq_true,decide_eq_true_eq] at c
    exact h c
theorem iHash_ev (l:List Int)(h:l.length≤1048576):Ev (fun k=>impl_Hash.f k l) (pHash l):=by
  unfold impl_Hash.f pHash
  refine ev_foldl (fun k x i=>impl_Hash.l0 k x l (l.length:Int) i) l 0 hashStep (fun x=>x) (fun _ _=>True) 11 trivial ?_ ?_
  · intro x _
    refine Ev.round (fun _=>by rw[impl_Hash.l0]) ?_
    exact Ev.neg (by omega) (Ev.now _)
  · intro i x hi _
    have e1:wrap64 ((i:Int)+1)=((i+1:Nat):Int):=by rw[w64 (by omega) (by omega)];omega
    refine⟨trivial,fun r hr=>?_⟩
    refine Ev.round (fun _=>by rw[impl_Hash.l0]) ?_
    refine Ev.pos (by omega) ?_
    refine Ev.pos (by omega) ?_
    refine Ev.pos (by omega) ?_
    simp only[e1,rd_nat]
    exact Ev.now_bind (iMod_eq _ _) hr
theorem hasBody_eq (k:Int):impl_hasBody.f k=some (decide (k=1∨k=2)):=by
  unfold impl_hasBody.f
  by_cases h:k=1
  · simp[h]
  · by_cases h2:k=2
    · simp[h2]
    · simp[h,h2]
theorem iValue_ev (k:Int)(b:List Int)(h p q:Int)(hb:b.length≤1048576):Ev (fun n=>impl_ValueOfResource.f n k b h p q) (pVal k b h p q):=by
  have hj1:Ev (fun n=>impl_ValueOfResource.j0 n true k b h p q) 0:=by
    refine Ev.round (fun _=>by rw[impl_ValueOfResource.j0]) ?_
    refine Ev.pos rfl ?_
    exact Ev.now _
  unfold impl_ValueOfResource.f pVal
  refine Ev.bind (iIsResource_ev k b h p q hb) ?_
  cases hr:pRes k b h p q with
  | false =>
    refine Ev.neg (by simp) ?_
    exact Ev.cast hj1 (by simp)
  | true =>
    refine Ev.pos rfl ?_
    refine Ev.now_bind (hasBody_eq k) ?_
    by_cases hk:k=1∨k=2
    · rw[if_pos ⟨rfl,hk⟩,decide_eq_true hk]
      obtain⟨hl,hy⟩:=pRes_body hr hk
      refine Ev.round (fun _=>by rw[impl_ValueOfResource.j0]) ?_
      refine Ev.neg (by simp) ?_
      refine ev_foldl (fun n x i=>impl_ValueOfResource.l0 n x b (b.length:Int) i) b 0 (fun x y=>x+y) (fun x=>if x % 1000 < 999 then x % 1000+1 else 999) (fun i x=>0≤x∧x≤255 * (i:Int)) 0 ⟨by omega,by omega⟩ ?_ ?_
      · intro x hx
        have e2:Int.tmod x 1000=x % 1000:=Int.tmod_eq_emod_of_nonneg (by omega)
        refine Ev.round (fun _=>by rw[impl_ValueOfResource.l0]) ?_
        refine Ev.neg (by omega) ?_
        simp only[e2]
        by_cases c:x % 1000 < 999
        · refine Ev.rpos c ?_
          refine Ev.pos c ?_
          rw[w64 (by omega) (by omega)]
          exact Ev.now _
        · refine Ev.rneg c ?_
          refine Ev.neg c ?_
          exact Ev.cast (Ev.now _) (by omega)
      · intro i x hi hx
        have e1:wrap64 ((i:Int)+1)=((i+1:Nat):Int):=by rw[w64 (by omega) (by omega)];omega
        have hv:=hy _ (getD_mem b i hi 0)
        refine⟨⟨by omega,by omega⟩,fun r hr2=>?_⟩
        refine Ev.round (fun _=>by rw[impl_ValueOfResource.l0]) ?_
        refine Ev.pos (by omega) ?_
        refine Ev.pos (by omega) ?_
        refine Ev.pos (by omega) ?_
        have e2:wrap64 (x+rd b (i:Int))=x+b.getD i 0:=by
          rw[rd_nat,w64 (by omega) (by omega)]
        simp only[e1,e2]
        exact hr2
    · rw[if_neg (fun c=>hk c.2),decide_eq_false hk]
      exact hj1
theorem iLive_ev (s:List S110)(tk sd:Int)(ins:List Int)(w0 w1 w2 w3 n:Int)(h:s.length≤1048576)(hf:∀ y∈s,FitimplVersion y)(hi:ins.length≤1048576):Ev (fun k=>impl_LiveValue.f k s tk sd ins w0 w1 w2 w3 n) (pLive s tk sd ins w0 w1 w2 w3 n):=by
  have hno:¬(pVisit s tk sd ins=true∧pIn n 0 100=true)→Ev (fun k=>impl_LiveValue.j0 k n true s tk sd ins w0 w1 w2 w3) (pLive s tk sd ins w0 w1 w2 w3 n):=by
    intro c
    unfold pLive
    rw[if_neg c]
    refine Ev.round (fun _=>by rw[impl_LiveValue.j0]) ?_
    exact Ev.pos rfl (Ev.now _)
  unfold impl_LiveValue.f
  refine Ev.bind (iIsVisit_ev s tk sd ins h hf hi) ?_
  cases hv:pVisit s tk sd ins with
  | false =>
    refine Ev.neg (by simp) ?_
    exact hno (by simp[hv])
  | true =>
    refine Ev.pos rfl ?_
    refine Ev.now_bind (InRange_eq _ _ _) ?_
    cases hp:pIn n 0 100 with
    | false =>
      have hp2:(decide (0≤n) && decide (n≤100))=false:=hp
      rw[hp2]
      exact hno (by simp[hp])
    | true =>
      have hp2:(decide (0≤n) && decide (n≤100))=true:=hp
      rw[hp2]
      unfold pLive
      rw[if_pos ⟨hv,hp⟩]
      simp only[pIn,Bool.and_eq_true,decide_eq_true_eq] at hp
      refine Ev.round (fun _=>by rw[impl_LiveValue.j0]) ?_
      refine Ev.neg (by simp) ?_
      by_cases c1:w0=1
      · rw[if_pos c1]
        exact Ev.pos c1 (Ev.bind (iFollow_ev s w1 w2 w3 (wrap64 (tk+n)) h hf) (Ev.id (iValue_ev _ _ _ _ _ (pFollow_fit s w1 w2 w3 (wrap64 (tk+n)) hf))))
      rw[if_neg c1]
      refine Ev.neg c1 ?_
      by_cases c2:w0=2
      · rw[if_pos c2]
        exact Ev.pos c2 (Ev.now _)
      rw[if_neg c2]
      refine Ev.neg c2 ?_
      by_cases c3:w0=3
      · rw[if_pos c3]
        exact Ev.pos c3 (Ev.bind (iHash_ev _ (by simp)) (Ev.now_bind (iMod_eq _ _) (Ev.now _)))
      rw[if_neg c3]
      refine Ev.neg c3 ?_
      by_cases c4:w0=4
      · refine Ev.rpos c4 ?_
        refine Ev.pos c4 ?_
        by_cases c5:(ins.length:Int) > 0
        · refine Ev.rpos c5 ?_
          have m0:0≤Int.tmod n (ins.length:Int):=Int.tmod_nonneg _ hp.1
          have m1:Int.tmod n (ins.length:Int) < (ins.length:Int):=Int.tmod_lt_of_pos _ c5
          exact Ev.pos c5 (Ev.neg (by omega) (Ev.pos m0 (Ev.pos m1 (Ev.now _))))
        · refine Ev.rneg c5 ?_
          exact Ev.neg c5 (Ev.now _)
      refine Ev.rneg c4 ?_
      exact Ev.neg c4 (Ev.now _)
theorem i13_l0 (l:List S106)(s:List S110)(tk sd:Int)(ins:List Int)(hs:pScript l=true)(h:s.length≤1048576)(hf:∀ y∈s,FitimplVersion y)(hi:ins.length≤1048576):∀ (m:Nat) (es:List S41) (tr:List S35) (z:Int×List Int×List Int×List Int),StOk z→(l.length:Int)≤z.1+(m:Int)→es.length+m≤1000→tr.length+m≤1000 →
    Ev (fun k=>impl_visited.l0 k l es tr s tk sd ins z.1 z.2.1 z.2.2.1 z.2.2.2) (pSeen l s tk sd ins (m+1) es tr z):=by
  have hl:=pScript_len hs
  intro m
  induction m with
  | zero =>
    intro es tr z hz hm he ht
    have c1:(l.length:Int)≤z.1:=by omega
    rw[pSeen,if_pos c1]
    refine Ev.round (fun _=>by rw[impl_visited.l0]) ?_
    refine Ev.now_bind rfl ?_
    exact Ev.pos (decide_eq_true c1) (Ev.now _)
  | succ m ih =>
    intro es tr z hz hm he ht
    by_cases c1:(l.length:Int)≤z.1
    · rw[pSeen,if_pos c1]
      refine Ev.round (fun _=>by rw[impl_visited.l0]) ?_
      refine Ev.now_bind rfl ?_
      exact Ev.pos (decide_eq_true c1) (Ev.now _)
    have hc:=can_of hs hz c1
    obtain⟨g1,g2,g3⟩:=StOk_len hz
    have hw:=iWant_ev l z.1 z.2.1 z.2.2.1 z.2.2.2 (by omega) (by omega) (by omega) (by omega)
    have hst:=fun v=>iStep_ev l z.1 z.2.1 z.2.2.1 z.2.2.2 v (by omega) (by omega) (by omega) (by omega)
    have hok:=fun v=>pStep_ok l z.1 z.2.1 z.2.2.1 z.2.2.2 v hc
    rw[pSeen,if_neg c1]
    unfold pSeen.pAns
    refine Ev.round (fun _=>by rw[impl_visited.l0]) ?_
    refine Ev.now_bind rfl ?_
    refine Ev.neg (by simp only[decide_eq_true_eq];omega) ?_
    refine Ev.bind hw ?_
    generalize pWant l z.1 z.2.1 z.2.2.1 z.2.2.2=w
    try dsimp only
    by_cases cw:w.1=0
    · rw[if_pos cw]
      refine Ev.pos cw ?_
      refine Ev.bind (hst 0) ?_
      refine Ev.pos (by omega) ?_
      exact ih es _ _ (hok 0).1 (by have:=(hok 0).2.1;omega) (by omega) (by rw[List.length_append,List.length_singleton];omega)
    rw[if_neg cw]
    refine Ev.neg cw ?_
    refine Ev.bind (iLive_ev s tk sd ins w.1 w.2.1 w.2.2.1 w.2.2.2 (es.length:Int) h hf hi) ?_
    refine Ev.pos (by omega) ?_
    generalize pLive s tk sd ins w.1 w.2.1 w.2.2.1 w.2.2.2 (es.length:Int)=v
    refine Ev.bind (hst v) ?_
    refine Ev.pos (by omega) ?_
    exact ih _ _ _ (hok v).1 (by have:=(hok v).2.1;omega) (by rw[List.length_append,List.length_singleton];omega) (by rw[List.length_append,List.length_singleton];omega)
theorem i13_ev (l:List S106)(s:List S110)(tk sd:Int)(ins:List Int)(hl:l.length≤1048576)(h:s.length≤1048576)(hf:∀ y∈s,FitimplVersion y)(hi:ins.length≤1048576):Ev (fun k=>impl_visited.f k l s tk sd ins) (pVis l s tk sd ins):=by
  unfold impl_visited.f pVis
  refine Ev.now_bind iStart_eq ?_
  refine Ev.now_bind rfl ?_
  refine Ev.bind (iIsScript_ev l hl) ?_
  by_cases c1:pScript l=true
  · refine Ev.pos c1 ?_
    refine Ev.bind (iIsVisit_ev s tk sd ins h hf hi) ?_
    refine Ev.round (fun _=>by rw[impl_visited.j0]) ?_
    by_cases c2:pVisit s tk sd ins=true
    · rw[if_pos ⟨c1,c2⟩]
      have:=pScript_len c1
      refine Ev.neg (by simp[c2]) ?_
      exact i13_l0 l s tk sd ins c1 h hf hi 39 [] _ z0 z0_ok (by show _≤(0:Int)+((39:Nat):Int);omega) (by simp) (by simp)
    · rw[if_neg (fun h=>c2 h.2)]
      exact Ev.pos (by simp[c2]) (Ev.now _)
  · rw[if_neg (fun h=>c1 h.1)]
    refine Ev.neg c1 ?_
    refine Ev.round (fun _=>by rw[impl_visited.j0]) ?_
    exact Ev.pos rfl (Ev.now _)
def pLast (tr:List S35):S35:=rd_T35 tr ((tr.length:Int) - 1)
theorem pLast_row {tr:List S35}(h:∀ y∈tr,Row3 y)(h1:1≤tr.length):Row3 (pLast tr):=by
  unfold pLast
  have e:(tr.length:Int) - 1=((tr.length - 1:Nat):Int):=by omega
  rw[e]
  exact h _ (getD_mem tr (tr.length - 1) (by omega) z35)
theorem iRec_ev (l:List S106)(s:List S110)(tk sd:Int)(ins:List Int)(hl:l.length≤1048576)(h:s.length≤1048576)(hf:∀ y∈s,FitimplVersion y)(hi:ins.length≤1048576):Ev (fun k=>impl_RecordVisit.f k l s tk sd ins) ((pVis l s tk sd ins).1,(pLast (pVis l s tk sd ins).2).f0,(pLast (pVis l s tk sd ins).2).f1,(pLast (pVis l s tk sd ins).2).f2,(pLast (pVis l s tk sd ins).2).f3):=by
  obtain⟨⟨y1,y2⟩,y3,y4⟩:=pVis_tr l s tk sd ins
  unfold impl_RecordVisit.f
  refine Ev.bind (i13_ev l s tk sd ins hl h hf hi) ?_
  generalize pVis l s tk sd ins=z at y1 y2 y3 y4 ⊢
  obtain⟨g1,g2,g3⟩:=pLast_row y2 y4
  have e1:wrap64 ((z.2.length:Int) - 1)=(z.2.length:Int) - 1:=w64 (by omega) (by omega)
  have e2:impl_last.f z.2=some ((pLast z.2).f0,(pLast z.2).f1,(pLast z.2).f2,(pLast z.2).f3):=by
    unfold impl_last.f
    rw[e1,if_pos (by omega),if_pos (by omega)]
    unfold pLast at g1 g2 g3 ⊢
    rw[iCopy_eq _ _ _ _ (by omega) (by omega) (by omega)]
    rfl
  exact Ev.now_bind e2 (Ev.now _)
theorem iCapt_ev (s:List S110)(tk sd:Int)(ins:List Int)(es:List S41)(h:s.length≤1048576)(hf:∀ y∈s,FitimplVersion y)(he:es.length≤1048576):∀ (d i:Nat) (out:List S45),i+d=es.length→out.length≤i→Ev (fun k=>impl_CapturesOf.l0 k out es (es.length:Int) (i:Int) s tk sd ins) (pCapt s tk es d i out):=by
  intro d
  induction d with
  | zero =>
    intro i out hi ho
    refine Ev.round (fun _=>by rw[impl_CapturesOf.l0]) ?_
    exact Ev.neg (by omega) (Ev.now _)
  | succ d ih =>
    intro i out hi ho
    have e1:wrap64 ((i:Int)+1)=((i+1:Nat):Int):=by rw[w64 (by omega) (by omega)];omega
    have hn:=ih (i+1) (pCaptAt s tk es i out) (by omega) (by have:=pCaptAt_len s tk es i out;omega)
    unfold pCapt
    unfold pCaptAt at hn ⊢
    refine Ev.round (fun _=>by rw[impl_CapturesOf.l0]) ?_
    refine Ev.pos (by omega) ?_
    refine Ev.pos (by omega) ?_
    refine Ev.pos (by omega) ?_
    by_cases c:(rd_T41 es (i:Int)).f0=1
    · rw[if_pos c] at hn ⊢
      refine Ev.pos c ?_
      refine Ev.bind (iFollow_ev s _ _ _ _ h hf) ?_
      refine Ev.pos (by omega) ?_
      simp only[e1]
      exact hn
    · rw[if_neg c] at hn ⊢
      refine Ev.neg c ?_
      simp only[e1]
      exact hn
theorem iCaptures_ev (l:List S106)(s:List S110)(tk sd:Int)(ins:List Int)(hl:l.length≤1048576)(h:s.length≤1048576)(hf:∀ y∈s,FitimplVersion y)(hi:ins.length≤1048576):Ev (fun k=>impl_CapturesOf.f k l s tk sd ins) (pCaptures l s tk sd ins):=by
  obtain⟨_,y3,_⟩:=pVis_tr l s tk sd ins
  unfold impl_CapturesOf.f pCaptures
  refine Ev.bind (iRec_ev l s tk sd ins hl h hf hi) ?_
  exact iCapt_ev s tk sd ins (pVis l s tk sd ins).1 h hf (by omega) _ 0 [] (Nat.zero_add _) (Nat.le_refl _)
def pCapture (y:S45):Bool:=pAddr y.f0.f0 y.f0.f1 y.f0.f2 && (pIn y.f1 0 2000 && pRes y.f2.f0 y.f2.f1 y.f2.f2.f0 y.f2.f2.f1 y.f2.f2.f2)
def pAreCaptures (l:List S45):Bool:=l.all pCapture && decide ((l.length:Int)≤20)
theorem iAreCapturesLit_ev (y:S45)(hf:FitimplCapture y):Ev (fun k=>impl_AreCaptures_lit1.f k y.f0.f0 y.f0.f1 y.f0.f2 y.f1 y.f2.f0 y.f2.f1 y.f2.f2.f0 y.f2.f2.f1 y.f2.f2.f2) (!pCapture y):=by
  unfold impl_AreCaptures_lit1.f pCapture
  refine Ev.now_bind (iIsAddress_eq _ _ _) ?_
  cases p1:pAddr y.f0.f0 y.f0.f1 y.f0.f2 with
  | false=>exact Ev.neg (by simp) (Ev.now _)
  | true =>
    refine Ev.pos rfl ?_
    refine Ev.now_bind (InRange_eq _ _ _) ?_
    cases p2:pIn y.f1 0 2000 with
    | false=>exact Ev.neg (ne_true_of_eq_false p2) (Ev.now _)
    | true =>
      refine Ev.pos p2 ?_
      rw[Bool.true_and,Bool.true_and]
      exact Ev.no (iIsResource_ev _ _ _ _ _ hf)
theorem iAreCaptures_ev (l:List S45)(h:l.length≤1048576)(hf:∀ y∈l,FitimplCapture y):Ev (fun k=>impl_AreCaptures.f k l) (pAreCaptures l):=by
  unfold impl_AreCaptures.f pAreCaptures
  rw[Bool.and_comm]
  refine Ev.if_and fun _=>?_
  rw[←any_not]
  refine Ev.no ?_
  unfold slices_ContainsFunc_26.f
  have hf:∃ r:Int,Ev (fun k=>slices_IndexFunc_26.l0 k l (l.length:Int) 0) r∧decide (r≥0)=l.any (fun y=>!pCapture y):=by
    refine ev_find (fun k i=>slices_IndexFunc_26.l0 k l (l.length:Int) i) l z45 (fun y=>!pCapture y) (fun k=>by rw[slices_IndexFunc_26.l0,if_neg (by omega)]) ?_ ?_
    · intro i hi hp
      refine Ev.round (fun _=>by rw[slices_IndexFunc_26.l0]) ?_
      refine Ev.pos (by omega) ?_
      refine Ev.pos (by omega) ?_
      refine Ev.pos (by omega) ?_
      refine Ev.bind (iAreCapturesLit_ev (rd_T45 l (i:Int)) (hf _ (getD_mem l i hi z45))) ?_
      refine Ev.pos hp ?_
      exact Ev.now _
    · intro i hi hp r hr
      have e1:wrap64 ((i:Int)+1)=((i+1:Nat):Int):=by rw[w64 (by omega) (by omega)];omega
      refine Ev.round (fun _=>by rw[slices_IndexFunc_26.l0]) ?_
      refine Ev.pos (by omega) ?_
      refine Ev.pos (by omega) ?_
      refine Ev.pos (by omega) ?_
      refine Ev.bind (iAreCapturesLit_ev (rd_T45 l (i:Int)) (hf _ (getD_mem l i hi z45))) ?_
      refine Ev.neg (ne_true_of_eq_false hp) ?_
      simp only[e1]
      exact hr
  obtain⟨r,hr,hd⟩:=hf
  rw[←hd]
  exact Ev.bind hr (Ev.now _)
theorem sorted_eq (l:List Int)(h:l.length≤4194304):impl_sorted.f l=some (Lib.compact (l.mergeSort fun x y=>decide (x≤y))):=by
  unfold impl_sorted.f slices_Clone_int_int.f
  rw[Option.bind_some,List.nil_append,if_pos (by simp only[List.length_nil];omega),Option.bind_some,if_pos (by omega)]
def pPut:List Int→Int→List Int
  | [],n=>[n]
  | y :: l,n=>if y < n then y :: pPut l n else if y=n then y :: l else n :: y :: l
theorem pPut_mem (l:List Int)(n x:Int):x∈pPut l n↔x=n∨x∈l:=by
  induction l with
  | nil=>simp[pPut]
  | cons y l ih =>
    unfold pPut
    split
    · rw[List.mem_cons,ih,List.mem_cons]
      constructor
      · rintro(h | h | h)
        · exact Or.inr (Or.inl h)
        · exact Or.inl h
        · exact Or.inr (Or.inr h)
      · rintro(h | h | h)
        · exact Or.inr (Or.inl h)
        · exact Or.inl h
        · exact Or.inr (Or.inr h)
    · split
      · rename_i h
        subst h
        simp
      · simp
theorem pPut_length (l:List Int)(n:Int):(pPut l n).length≤l.length+1:=by
  induction l with
  | nil=>simp[pPut]
  | cons y l ih =>
    unfold pPut
    split
    · simp only[List.length_cons]
      omega
    · split
      · simp
      · simp
theorem asc_unique:∀ (a b:List Int),a.Pairwise (· < ·)→b.Pairwise (· < ·)→(∀ x,x∈a↔x∈b)→a=b
  | [],[],_,_,_=>rfl
  | [],y :: b,_,_,h=>absurd ((h y).2 (List.mem_cons_self ..)) (by simp)
  | x :: a,[],_,_,h=>absurd ((h x).1 (List.mem_cons_self ..)) (by simp)
  | x :: a,y :: b,ha,hb,h=>by
    obtain⟨ha1,ha2⟩:=List.pairwise_cons.1 ha
    obtain⟨hb1,hb2⟩:=List.pairwise_cons.1 hb
    have e:x=y:=by
      rcases List.mem_cons.1 ((h x).1 (List.mem_cons_self ..)) with e | e
      · exact e
      · rcases List.mem_cons.1 ((h y).2 (List.mem_cons_self ..)) with e2 | e2
        · exact e2.symm
        · have h1:=hb1 x e
          have h2:=ha1 y e2
          omega
    subst e
    rw[asc_unique a b ha2 hb2 (fun z=>by
      constructor
      · intro hz
        have h1:=ha1 z hz
        rcases List.mem_cons.1 ((h z).1 (List.mem_cons_of_mem _ hz)) with e | e
        · omega
        · exact e
      · intro hz
        have h1:=hb1 z hz
        rcases List.mem_cons.1 ((h z).2 (List.mem_cons_of_mem _ hz)) with e | e
        · omega
        · exact e)]
theorem pPut_asc (l:List Int)(n:Int)(h:l.Pairwise (· < ·)):(pPut l n).Pairwise (· < ·):=by
  induction l with
  | nil=>simp[pPut]
  | cons y l ih =>
    obtain⟨h1,h2⟩:=List.pairwise_cons.1 h
    unfold pPut
    split
    · rename_i c
      refine List.pairwise_cons.2 ⟨fun z hz=>?_,ih h2⟩
      rcases (pPut_mem l n z).1 hz with e | e
      · omega
      · exact h1 z e
    · split
      · exact h
      · refine List.pairwise_cons.2 ⟨fun z hz=>?_,h⟩
        rcases List.mem_cons.1 hz with e | e
        · omega
        · have:=h1 z e
          omega
theorem compact_asc (d:Array Int)(hs:∀ i j,i < j→j < d.size→d[i]!≤d[j]!):∀ m,m≤d.size→(Lib.compactUpTo d m).Pairwise (· < ·)∧(∀ x∈Lib.compactUpTo d m,∃ j,j < m∧x=d[j]!)∧∀ j,j < m→d[j]!∈Lib.compactUpTo d m:=by
  intro m
  induction m with
  | zero=>intro _;exact⟨by simp[Lib.compactUpTo],by simp[Lib.compactUpTo],fun j hj=>by omega⟩
  | succ m ih =>
    intro hm
    obtain⟨h1,h2,h3⟩:=ih (by omega)
    rw[Lib.compactUpTo_succ]
    by_cases hk:m=0∨d[m]!≠d[m - 1]!
    · have hk2:Lib.keeps d m=true:=by unfold Lib.keeps;exact decide_eq_true hk
      rw[hk2,if_pos rfl]
      refine⟨List.pairwise_append.2 ⟨h1,List.pairwise_singleton _ _,?_⟩,?_,?_⟩
      · intro x hx y hy
        rw[List.mem_singleton] at hy
        subst hy
        obtain⟨j,hj,rfl⟩:=h2 x hx
        have ha:d[m - 1]!≤d[m]!:=hs (m - 1) m (by omega) (by omega)
        have hb:d[j]!≤d[m - 1]!:=by
          by_cases e:j=m - 1
          · subst e;exact Int.le_refl _
          · exact hs j (m - 1) (by omega) (by omega)
        rcases hk with hk | hk
        · omega
        · omega
      · intro x hx
        rcases List.mem_append.1 hx with hx | hx
        · obtain⟨j,hj,e⟩:=h2 x hx
          exact⟨j,by omega,e⟩
        · rw[List.mem_singleton] at hx
          exact⟨m,by omega,hx⟩
      · intro j hj
        by_cases e:j=m
        · subst e;exact List.mem_append.2 (Or.inr (List.mem_singleton.2 rfl))
        · exact List.mem_append.2 (Or.inl (h3 j (by omega)))
    · have hk2:Lib.keeps d m=false:=by unfold Lib.keeps;exact decide_eq_false hk
      rw[hk2,if_neg (by simp),List.append_nil]
      refine⟨h1,fun x hx=>?_,fun j hj=>?_⟩
      · obtain⟨j,hj,e⟩:=h2 x hx
        exact⟨j,by omega,e⟩
      · by_cases e:j=m
        · subst e
          have e2:d[j]! =d[j - 1]!:=Classical.byContradiction fun c=>hk (Or.inr c)
          rw[e2]
          exact h3 (j - 1) (by omega)
        · exact h3 j (by omega)
/-- Sorted and each once: whatever the way, the same list. -/
theorem sorted_asc (zs:List Int):(Lib.compact (zs.mergeSort fun x y=>decide (x≤y))).Pairwise (· < ·)∧∀ x,x∈Lib.compact (zs.mergeSort fun x y=>decide (x≤y))↔x∈zs:=by
  have hp:=List.mergeSort_perm zs fun x y=>decide (x≤y)
  have hs:=List.pairwise_mergeSort (le:=fun x y:Int=>decide (x≤y)) (fun a b c h1 h2=>by simp only[decide_eq_true_eq] at *;omega) (fun a b=>by simp only[Bool.or_eq_true,decide_eq_true_eq];omega) zs
  generalize (zs.mergeSort fun x y=>decide (x≤y))=ys at hp hs
  have hd:∀ i j,i < j→j < ys.toArray.size→ys.toArray[i]!≤ys.toArray[j]!:=by
    intro i j hij hj
    have hj':j < ys.length:=by simpa using hj
    have:=List.pairwise_iff_getElem.1 hs i j (by omega) hj' hij
    simp only[decide_eq_true_eq] at this
    simpa [getElem!_pos,hj',show i < ys.length by omega] using this
  obtain⟨h1,h2,h3⟩:=compact_asc ys.toArray hd ys.length (by simp)
  refine⟨h1,fun x=>?_⟩
  rw[←hp.mem_iff]
  constructor
  · intro hx
    obtain⟨j,hj,rfl⟩:=h2 x hx
    simp[getElem!_pos,hj]
  · intro hx
    obtain⟨j,hj,rfl⟩:=List.mem_iff_getElem.1 hx
    have:=h3 j hj
    have e:ys.toArray[j]! =ys[j]:=by simp[getElem!_pos,hj]
    rw[e] at this
    exact this
theorem put_fold {α:Type}(p:α→Bool)(g:α→Int):∀ (l:List α) (s:List Int),(s.Pairwise (· < ·)→(l.foldl (fun s y=>if p y=true then pPut s (g y) else s) s).Pairwise (· < ·))∧(∀ x,x∈l.foldl (fun s y=>if p y=true then pPut s (g y) else s) s↔x∈s∨∃ y∈l,p y=true∧g y=x):=by
  intro l
  induction l with
  | nil=>intro s;exact⟨fun h=>h,fun x=>by simp⟩
  | cons y l ih =>
    intro s
    rw[List.foldl_cons]
    by_cases c:p y=true
    · rw[if_pos c]
      obtain⟨h1,h2⟩:=ih (pPut s (g y))
      refine⟨fun h=>h1 (pPut_asc s _ h),fun x=>?_⟩
      rw[h2,pPut_mem]
      constructor
      · rintro((h | h)|⟨z,hz,hp,hg⟩)
        · exact Or.inr ⟨y,List.mem_cons_self ..,c,h.symm⟩
        · exact Or.inl h
        · exact Or.inr ⟨z,List.mem_cons_of_mem _ hz,hp,hg⟩
      · rintro(h | ⟨z,hz,hp,hg⟩)
        · exact Or.inl (Or.inr h)
        · rcases List.mem_cons.1 hz with e | e
          · subst e;exact Or.inl (Or.inl hg.symm)
          · exact Or.inr ⟨z,e,hp,hg⟩
    · rw[if_neg c]
      obtain⟨h1,h2⟩:=ih s
      refine⟨h1,fun x=>?_⟩
      rw[h2]
      constructor
      · rintro(h | ⟨z,hz,hp,hg⟩)
        · exact Or.inl h
        · exact Or.inr ⟨z,List.mem_cons_of_mem _ hz,hp,hg⟩
      · rintro(h | ⟨z,hz,hp,hg⟩)
        · exact Or.inl h
        · rcases List.mem_cons.1 hz with e | e
          · subst e;exact absurd hp c
          · exact Or.inr ⟨z,e,hp,hg⟩
theorem app_fold {α:Type}(p:α→Bool)(g:α→Int):∀ (l:List α) (s:List Int),(l.foldl (fun s y=>if p y=true then s++[g y] else s) s).length≤s.length+l.length∧(∀ x,x∈l.foldl (fun s y=>if p y=true then s++[g y] else s) s↔x∈s∨∃ y∈l,p y=true∧g y=x):=by
  intro l
  induction l with
  | nil=>intro s;exact⟨Nat.le_refl _,fun x=>by simp⟩
  | cons y l ih =>
    intro s
    rw[List.foldl_cons,List.length_cons]
    by_cases c:p y=true
    · rw[if_pos c]
      obtain⟨h1,h2⟩:=ih (s++[g y])
      rw[List.length_append,List.length_singleton] at h1
      refine⟨by omega,fun x=>?_⟩
      rw[h2,List.mem_append,List.mem_singleton]
      constructor
      · rintro((h | h)|⟨z,hz,hp,hg⟩)
        · exact Or.inl h
        · exact Or.inr ⟨y,List.mem_cons_self ..,c,h.symm⟩
        · exact Or.inr ⟨z,List.mem_cons_of_mem _ hz,hp,hg⟩
      · rintro(h | ⟨z,hz,hp,hg⟩)
        · exact Or.inl (Or.inl h)
        · rcases List.mem_cons.1 hz with e | e
          · subst e;exact Or.inl (Or.inr hg.symm)
          · exact Or.inr ⟨z,e,hp,hg⟩
    · rw[if_neg c]
      obtain⟨h1,h2⟩:=ih s
      refine⟨by omega,fun x=>?_⟩
      rw[h2]
      constructor
      · rintro(h | ⟨z,hz,hp,hg⟩)
        · exact Or.inl h
        · exact Or.inr ⟨z,List.mem_cons_of_mem _ hz,hp,hg⟩
      · rintro(h | ⟨z,hz,hp,hg⟩)
        · exact Or.inl h
        · rcases List.mem_cons.1 hz with e | e
          · subst e;exact absurd hp c
          · exact Or.inr ⟨z,e,hp,hg⟩
theorem put_sorted {α:Type}(p:α→Bool)(g:α→Int)(l:List α):l.foldl (fun s y=>if p y=true then pPut s (g y) else s) []=Lib.compact ((l.foldl (fun s y=>if p y=true then s++[g y] else s) []).mergeSort fun x y=>decide (x≤y)):=by
  obtain⟨a1,a2⟩:=put_fold p g l []
  obtain⟨_,b2⟩:=app_fold p g l []
  obtain⟨c1,c2⟩:=sorted_asc (l.foldl (fun s y=>if p y=true then s++[g y] else s) [])
  exact asc_unique _ _ (a1 List.Pairwise.nil) c1 (fun x=>by rw[a2,c2,b2])
def chHereCapture (a p q:Int)(y:S45):Bool:=(y.f0.f0 == a && (y.f0.f1 == p && (y.f0.f2 == q)))
def pChangesCapture (l:List S45)(a p q:Int):List Int:=l.foldl (fun s y=>if chHereCapture a p q y=true then pPut s y.f1 else s) []
theorem pChangesCapture_length (l:List S45)(a p q:Int):(pChangesCapture l a p q).length≤l.length:=by
  unfold pChangesCapture
  have key:∀ (l:List S45) (s:List Int),(l.foldl (fun s y=>if chHereCapture a p q y=true then pPut s y.f1 else s) s).length≤s.length+l.length:=by
    intro l
    induction l with
    | nil=>intro s;exact Nat.le_refl _
    | cons y l ih =>
      intro s
      rw[List.foldl_cons,List.length_cons]
      refine Nat.le_trans (ih _) ?_
      split
      · have:=pPut_length s y.f1
        omega
      · omega
  simpa using key l []
theorem iTicks_ev (l:List S45)(a p q:Int)(h:l.length≤1048576):Ev (fun k=>impl_TicksOf.f k l a p q) (pChangesCapture l a p q):=by
  have e0:pChangesCapture l a p q=Lib.compact ((l.foldl (fun s y=>if chHereCapture a p q y=true then s++[y.f1] else s) []).mergeSort fun x y=>decide (x≤y)):=put_sorted (chHereCapture a p q) (fun y=>y.f1) l
  rw[e0]
  unfold impl_TicksOf.f
  refine ev_foldl (fun k (s:List Int) i=>impl_TicksOf.l0 k s l (l.length:Int) i a p q) l z45 (fun s y=>if chHereCapture a p q y=true then s++[y.f1] else s) (fun s=>Lib.compact (s.mergeSort fun x y=>decide (x≤y))) (fun i s=>s.length≤i) [] (by simp) ?_ ?_
  · intro s hs
    refine Ev.round (fun _=>by rw[impl_TicksOf.l0]) ?_
    exact Ev.neg (by omega) (Ev.now_bind (sorted_eq s (by omega)) (Ev.now _))
  · intro i s hi hs
    have e1:wrap64 ((i:Int)+1)=((i+1:Nat):Int):=by rw[w64 (by omega) (by omega)];omega
    refine⟨?_,fun r hr=>?_⟩
    · show(if chHereCapture a p q (rd_T45 l (i:Int))=true then s++[(rd_T45 l (i:Int)).f1] else s).length≤i+1
      split
      · rw[List.length_append,List.length_singleton]
        omega
      · omega
    have hr':Ev (fun k=>impl_TicksOf.l0 k (if chHereCapture a p q (rd_T45 l (i:Int))=true then s++[(rd_T45 l (i:Int)).f1] else s) l (l.length:Int) ((i+1:Nat):Int) a p q) r:=hr
    refine Ev.round (fun _=>by rw[impl_TicksOf.l0]) ?_
    refine Ev.pos (by omega) ?_
    refine Ev.pos (by omega) ?_
    refine Ev.pos (by omega) ?_
    generalize hy:rd_T45 l (i:Int)=y at hr'
    simp only[e1]
    unfold chHereCapture at hr'
    cases c1:(y.f0.f0 == a && (y.f0.f1 == p && (y.f0.f2 == q))) with
    | false =>
      rw[c1] at hr'
      exact Ev.neg (by simp) hr'
    | true =>
      rw[c1] at hr'
      refine Ev.pos rfl ?_
      refine Ev.pos (by omega) ?_
      exact hr'
theorem copyCaptures_ev (l:List S45)(h:l.length≤1048576)(hf:∀ y∈l,FitimplCapture y):Ev (fun k=>impl_copyCaptures.f k l) l:=by
  unfold impl_copyCaptures.f
  have key:∀ d i:Nat,i+d=l.length→Ev (fun k=>impl_copyCaptures.l0 k (l.take i) l (l.length:Int) (i:Int)) l:=by
    intro d
    induction d with
    | zero =>
      intro i hi
      refine Ev.round (fun _=>by rw[impl_copyCaptures.l0]) ?_
      refine Ev.neg (by omega) ?_
      rw[List.take_of_length_le (by omega)]
      exact Ev.now _
    | succ d ih =>
      intro i hi
      have hil:i < l.length:=by omega
      have e1:wrap64 ((i:Int)+1)=((i+1:Nat):Int):=by rw[w64 (by omega) (by omega)];omega
      have hfit:(rd_T45 l (i:Int)).f2.f1.length≤1048576:=hf _ (getD_mem l i hil z45)
      have hn:=ih (i+1) (by omega)
      have et:l.take (i+1)=l.take i++[rd_T45 l (i:Int)]:=by
        rw[List.take_succ_eq_append_getElem hil]
        show _=l.take i++[l.getD ((i:Int)).toNat z45]
        rw[Int.toNat_natCast,getD_in l i hil]
      rw[et] at hn
      refine Ev.round (fun _=>by rw[impl_copyCaptures.l0]) ?_
      refine Ev.pos (by omega) ?_
      refine Ev.pos (by omega) ?_
      refine Ev.pos (by omega) ?_
      refine Ev.now_bind (copyResource_eq _ _ _ _ _ hfit) ?_
      refine Ev.pos (by rw[List.length_take];omega) ?_
      simp only[e1]
      exact hn
  exact key l.length 0 (by omega)
theorem iEqualInts_ev (a b:List Int)(h:a.length≤1048576):Ev (fun k=>slices_Equal_int_int.f k a b) (decide (a=b)):=by
  unfold slices_Equal_int_int.f
  by_cases hl:a.length=b.length
  · refine Ev.pos (by omega) ?_
    rw[←zip_all_eq a b hl]
    refine ev_all2 (fun k i=>slices_Equal_int_int.l0 k a b (a.length:Int) i) a b 0 (fun x y=>decide (x=y)) hl (fun k=>by rw[slices_Equal_int_int.l0,if_neg (by omega)]) ?_ ?_
    · intro i hi hp r hr
      have e1:wrap64 ((i:Int)+1)=((i+1:Nat):Int):=by rw[w64 (by omega) (by omega)];omega
      refine Ev.round (fun _=>by rw[slices_Equal_int_int.l0]) ?_
      refine Ev.pos (by omega) ?_
      refine Ev.pos (by omega) ?_
      refine Ev.pos (by omega) ?_
      refine Ev.pos (by omega) ?_
      refine Ev.pos ?_ ?_
      · rw[rd_nat,rd_nat];exact of_decide_eq_true hp
      · simp only[e1];exact hr
    · intro i hi hp
      refine Ev.round (fun _=>by rw[slices_Equal_int_int.l0]) ?_
      refine Ev.pos (by omega) ?_
      refine Ev.pos (by omega) ?_
      refine Ev.pos (by omega) ?_
      refine Ev.pos (by omega) ?_
      refine Ev.neg ?_ (Ev.now _)
      rw[rd_nat,rd_nat];exact of_decide_eq_false hp
  · have hne:a≠b:=fun e=>hl (by rw[e])
    rw[decide_eq_false hne]
    exact Ev.neg (by omega) (Ev.now _)
abbrev pEqAddr (h p q h' p' q':Int):Bool:=h == h' && (p == p' && (q == q'))
def pEqRes (k:Int)(b:List Int)(h p q:Int)(k':Int)(b':List Int)(h' p' q':Int):Bool:=decide (k=k') && (pEqAddr h p q h' p' q' && decide (b=b'))
theorem iEqualResources_ev (k:Int)(b:List Int)(h p q:Int)(k':Int)(b':List Int)(h' p' q':Int)(hb:b.length≤1048576):Ev (fun n=>impl_EqualResources.f n k b h p q k' b' h' p' q') (pEqRes k b h p q k' b' h' p' q'):=by
  unfold impl_EqualResources.f pEqRes
  exact Ev.if_and fun _=>Ev.ifb_and fun _=>Ev.id (iEqualInts_ev b b' hb)
def pSame (x y:S45):Bool:=pEqAddr x.f0.f0 x.f0.f1 x.f0.f2 y.f0.f0 y.f0.f1 y.f0.f2 && (decide (x.f1=y.f1) && pEqRes x.f2.f0 x.f2.f1 x.f2.f2.f0 x.f2.f2.f1 x.f2.f2.f2 y.f2.f0 y.f2.f1 y.f2.f2.f0 y.f2.f2.f1 y.f2.f2.f2)
def pEqCaptures (a b:List S45):Bool:=decide ((a.length:Int)=(b.length:Int)) && (a.zip b).all fun q=>pSame q.1 q.2
theorem iSame_ev (x y:S45)(hf:FitimplCapture x):Ev (fun n=>impl_sameCapture.f n x.f0.f0 x.f0.f1 x.f0.f2 x.f1 x.f2.f0 x.f2.f1 x.f2.f2.f0 x.f2.f2.f1 x.f2.f2.f2 y.f0.f0 y.f0.f1 y.f0.f2 y.f1 y.f2.f0 y.f2.f1 y.f2.f2.f0 y.f2.f2.f1 y.f2.f2.f2) (pSame x y):=by
  unfold impl_sameCapture.f pSame
  exact Ev.ifb_and fun _=>Ev.if_and fun _=>Ev.id (iEqualResources_ev _ _ _ _ _ _ _ _ _ _ hf)
def capIn (out:List S45)(y:S45):Bool:=out.any fun z=>pSame z y
def pAddStep (out:List S45)(y:S45):List S45:=if capIn out y=true then out else out++[y]
def pAdd (a b:List S45):List S45×Bool:=if pAreCaptures (b.foldl pAddStep a)=true then(b.foldl pAddStep a,true) else(a,false)
theorem pAddStep_fit {out:List S45}{y:S45}(h:∀ z∈out,FitimplCapture z)(hy:FitimplCapture y):∀ z∈pAddStep out y,FitimplCapture z:=by
  unfold pAddStep
  split
  · exact h
  · intro z hz
    rcases List.mem_append.1 hz with h1 | h1
    · exact h z h1
    · rw[List.mem_singleton] at h1
      rw[h1]
      exact hy
theorem pAddStep_len (out:List S45)(y:S45):out.length≤(pAddStep out y).length∧(pAddStep out y).length≤out.length+1:=by
  unfold pAddStep
  split
  · omega
  · rw[List.length_append,List.length_singleton]
    omega
theorem pAdd_fit (a b:List S45)(ha:∀ z∈a,FitimplCapture z)(hb:∀ z∈b,FitimplCapture z):(∀ z∈(pAdd a b).1,FitimplCapture z)∧(pAdd a b).1.length≤a.length+b.length:=by
  have key:∀ (b a:List S45),(∀ z∈a,FitimplCapture z)→(∀ z∈b,FitimplCapture z)→(∀ z∈b.foldl pAddStep a,FitimplCapture z)∧(b.foldl pAddStep a).length≤a.length+b.length:=by
    intro b
    induction b with
    | nil=>intro a ha _;exact⟨ha,by simp⟩
    | cons y b ih =>
      intro a ha hb
      rw[List.foldl_cons,List.length_cons]
      have h1:=ih (pAddStep a y) (pAddStep_fit ha (hb y (List.mem_cons_self ..))) (fun z hz=>hb z (List.mem_cons_of_mem _ hz))
      have h2:=pAddStep_len a y
      exact⟨h1.1,by omega⟩
  unfold pAdd
  split
  · exact key b a ha hb
  · exact⟨ha,by dsimp only;omega⟩
theorem hasCapture_ev (out:List S45)(y:S45)(h:out.length≤1048576)(hf:∀ z∈out,FitimplCapture z):Ev (fun k=>impl_hasCapture.f k out y.f0.f0 y.f0.f1 y.f0.f2 y.f1 y.f2.f0 y.f2.f1 y.f2.f2.f0 y.f2.f2.f1 y.f2.f2.f2) (capIn out y):=by
  unfold impl_hasCapture.f
  have hx:∃ r:Int,Ev (fun k=>impl_hasCapture_at.l0 y.f0.f0 y.f0.f1 y.f0.f2 y.f1 y.f2.f0 y.f2.f1 y.f2.f2.f0 y.f2.f2.f1 y.f2.f2.f2 k out (out.length:Int) 0) r∧decide (r≥0)=out.any (fun z=>pSame z y):=by
    refine ev_find (fun k i=>impl_hasCapture_at.l0 y.f0.f0 y.f0.f1 y.f0.f2 y.f1 y.f2.f0 y.f2.f1 y.f2.f2.f0 y.f2.f2.f1 y.f2.f2.f2 k out (out.length:Int) i) out z45 (fun z=>pSame z y) (fun k=>by rw[impl_hasCapture_at.l0,if_neg (by omega)]) ?_ ?_
    · intro i hi hp
      refine Ev.round (fun _=>by rw[impl_hasCapture_at.l0]) ?_
      refine Ev.pos (by omega) ?_
      refine Ev.pos (by omega) ?_
      refine Ev.pos (by omega) ?_
      unfold impl_hasCapture_lit1.f
      refine Ev.bind (Ev.id (iSame_ev (rd_T45 out (i:Int)) y (hf _ (getD_mem out i hi z45)))) ?_
      exact Ev.pos hp (Ev.now _)
    · intro i hi hp r hr
      have e1:wrap64 ((i:Int)+1)=((i+1:Nat):Int):=by rw[w64 (by omega) (by omega)];omega
      refine Ev.round (fun _=>by rw[impl_hasCapture_at.l0]) ?_
      refine Ev.pos (by omega) ?_
      refine Ev.pos (by omega) ?_
      refine Ev.pos (by omega) ?_
      unfold impl_hasCapture_lit1.f
      refine Ev.bind (Ev.id (iSame_ev (rd_T45 out (i:Int)) y (hf _ (getD_mem out i hi z45)))) ?_
      refine Ev.neg (ne_true_of_eq_false hp) ?_
      simp only[e1]
      exact hr
  obtain⟨r,hr,hd⟩:=hx
  unfold capIn
  rw[←hd]
  exact Ev.bind hr (Ev.now _)
theorem iAdd_ev (a b:List S45)(h:a.length+b.length≤1048576)(ha:∀ z∈a,FitimplCapture z)(hb:∀ z∈b,FitimplCapture z):Ev (fun k=>impl_AddCaptures.f k a b) (pAdd a b):=by
  unfold impl_AddCaptures.f
  refine Ev.bind (copyCaptures_ev a (by omega) ha) ?_
  refine ev_foldl (fun k out i=>impl_AddCaptures.l0 k a out b (b.length:Int) i) b z45 pAddStep (fun out=>if pAreCaptures out=true then(out,true) else(a,false)) (fun i out=>out.length≤a.length+i∧∀ z∈out,FitimplCapture z) a ⟨by omega,ha⟩ ?_ ?_
  · intro out hout
    refine Ev.round (fun _=>by rw[impl_AddCaptures.l0]) ?_
    refine Ev.neg (by omega) ?_
    refine Ev.bind (iAreCaptures_ev out (by omega) hout.2) ?_
    refine Ev.ite (fun _=>Ev.now _) (fun _=>?_)
    exact Ev.bind (copyCaptures_ev a (by omega) ha) (Ev.now _)
  · intro i out hi hout
    have hy:FitimplCapture (b.getD i z45):=hb _ (getD_mem b i hi z45)
    have hlen:=pAddStep_len out (b.getD i z45)
    refine⟨⟨by omega,pAddStep_fit hout.2 hy⟩,fun r hr=>?_⟩
    have e1:wrap64 ((i:Int)+1)=((i+1:Nat):Int):=by rw[w64 (by omega) (by omega)];omega
    refine Ev.round (fun _=>by rw[impl_AddCaptures.l0]) ?_
    refine Ev.pos (by omega) ?_
    refine Ev.pos (by omega) ?_
    refine Ev.pos (by omega) ?_
    refine Ev.bind (hasCapture_ev out (rd_T45 b (i:Int)) (by omega) hout.2) ?_
    have eg:rd_T45 b (i:Int)=b.getD i z45:=rfl
    by_cases c:capIn out (b.getD i z45)=true
    · refine Ev.pos c ?_
      have e:pAddStep out (b.getD i z45)=out:=by unfold pAddStep;rw[if_pos c]
      rw[e] at hr
      simp only[e1]
      exact hr
    · refine Ev.neg c ?_
      have e:pAddStep out (b.getD i z45)=out++[b.getD i z45]:=by unfold pAddStep;rw[if_neg c]
      rw[e] at hr
      refine Ev.now_bind (copyResource_eq _ _ _ _ _ hy) ?_
      refine Ev.pos (by omega) ?_
      simp only[e1]
      exact hr
theorem iEqualCaptures_ev (a b:List S45)(h:a.length≤1048576)(hf:∀ y∈a,FitimplCapture y):Ev (fun k=>impl_EqualCaptures.f k a b) (pEqCaptures a b):=by
  unfold impl_EqualCaptures.f
  refine Ev.id ?_
  unfold slices_EqualFunc_38.f pEqCaptures
  refine Ev.if_and fun hl=>?_
  refine ev_all2 (fun k i=>slices_EqualFunc_38.l0 k b a (a.length:Int) i) a b z45 pSame (by omega) (fun k=>by rw[slices_EqualFunc_38.l0,if_neg (by omega)]) ?_ ?_
  · intro i hi hp r hr
    have e1:wrap64 ((i:Int)+1)=((i+1:Nat):Int):=by rw[w64 (by omega) (by omega)];omega
    refine Ev.round (fun _=>by rw[slices_EqualFunc_38.l0]) ?_
    refine Ev.pos (by omega) ?_
    refine Ev.pos (by omega) ?_
    refine Ev.pos (by omega) ?_
    refine Ev.pos (by omega) ?_
    refine Ev.bind (iSame_ev (rd_T45 a (i:Int)) (rd_T45 b (i:Int)) (hf _ (getD_mem a i hi z45))) ?_
    refine Ev.pos hp ?_
    simp only[e1];exact hr
  · intro i hi hp
    refine Ev.round (fun _=>by rw[slices_EqualFunc_38.l0]) ?_
    refine Ev.pos (by omega) ?_
    refine Ev.pos (by omega) ?_
    refine Ev.pos (by omega) ?_
    refine Ev.pos (by omega) ?_
    refine Ev.bind (iSame_ev (rd_T45 a (i:Int)) (rd_T45 b (i:Int)) (hf _ (getD_mem a i hi z45))) ?_
    refine Ev.neg (ne_true_of_eq_false hp) ?_
    exact Ev.now _
theorem contains_ev (l:List Int)(x:Int)(h:l.length≤1048576)(hx:x∈l):Ev (fun k=>laws_contains.f k l x) true:=by
  unfold laws_contains.f
  obtain⟨n,hn,e⟩:=List.getElem_of_mem hx
  have key:∀ (d i:Nat),i+d=n→Ev (fun k=>laws_contains.l0 k l x (i:Int)) true:=by
    intro d
    induction d with
    | zero =>
      intro i hi
      refine Ev.round (fun _=>by rw[laws_contains.l0]) ?_
      refine Ev.pos (by omega) ?_
      refine Ev.pos (by omega) ?_
      refine Ev.pos ?_ (Ev.now _)
      rw[rd_nat]
      obtain rfl:i=n:=by omega
      rw[List.getD_eq_getElem?_getD,List.getElem?_eq_getElem hn]
      exact e
    | succ d ih =>
      intro i hi
      have e1:wrap64 ((i:Int)+1)=((i+1:Nat):Int):=by rw[w64 (by omega) (by omega)];omega
      refine Ev.round (fun _=>by rw[laws_contains.l0]) ?_
      refine Ev.pos (by omega) ?_
      refine Ev.pos (by omega) ?_
      refine Ev.ite_to (fun _=>Ev.now _) (fun _=>?_)
      simp only[e1]
      exact ih (i+1) (by omega)
  exact key n 0 (by omega)
theorem pValIn (k:Int)(b:List Int)(h p q:Int):0≤pVal k b h p q∧pVal k b h p q≤999:=by
  unfold pVal
  split
  · split
    · omega
    · omega
  · omega
theorem pVal_pos (k:Int)(b:List Int)(h p q:Int):pVal k b h p q > 0↔(pRes k b h p q=true∧k≤2):=by
  have hk:pRes k b h p q=true→(k=1∨k=2)∨k=3∨k=4:=by
    intro hr
    unfold pRes at hr
    by_cases c:k=1∨k=2
    · exact Or.inl c
    · rw[if_neg c] at hr
      by_cases c3:k=3
      · exact Or.inr (Or.inl c3)
      · rw[if_neg c3] at hr
        by_cases c4:k=4
        · exact Or.inr (Or.inr c4)
        · rw[if_neg c4] at hr
          exact absurd hr (by simp)
  unfold pVal
  by_cases c:pRes k b h p q=true∧(k=1∨k=2)
  · rw[if_pos c]
    have hge:0≤pSum b % 1000:=Int.emod_nonneg _ (by omega)
    refine⟨fun _=>⟨c.1,by omega⟩,fun _=>?_⟩
    split <;> omega
  · rw[if_neg c]
    refine⟨fun h=>absurd h (by omega),fun h=>?_⟩
    rcases hk h.1 with h2 | h2
    · exact absurd ⟨h.1,h2⟩ c
    · omega
theorem pLive_in (s:List S110)(tk sd:Int)(ins:List Int)(w0 w1 w2 w3 n:Int):0≤pLive s tk sd ins w0 w1 w2 w3 n∧pLive s tk sd ins w0 w1 w2 w3 n≤999:=by
  unfold pLive
  by_cases c:pVisit s tk sd ins=true∧pIn n 0 100=true
  · rw[if_pos c]
    have hv:=c.1
    have hn:=c.2
    unfold pVisit at hv
    simp only[pIn,Bool.and_eq_true,decide_eq_true_eq,List.all_eq_true] at hv hn
    obtain⟨_,ht,_,_,hi⟩:=hv
    by_cases c1:w0=1
    · rw[if_pos c1]
      exact pValIn _ _ _ _ _
    rw[if_neg c1]
    by_cases c2:w0=2
    · rw[if_pos c2,w64 (by omega) (by omega)]
      unfold mn
      split <;> omega
    rw[if_neg c2]
    by_cases c3:w0=3
    · rw[if_pos c3]
      unfold pMod
      rw[if_pos (by omega)]
      generalize pHash [sd,n]=m
      have h1:-1000 < Int.tmod m 1000∧Int.tmod m 1000 < 1000:=by
        rcases Int.le_total 0 m with h | h
        · rw[Int.tmod_eq_emod_of_nonneg h]
          omega
        · obtain⟨u,rfl⟩:∃ u:Int,m = -u:=⟨-m,by omega⟩
          rw[Int.neg_tmod,Int.tmod_eq_emod_of_nonneg (by omega:0≤u)]
          omega
      rw[w64 (by omega) (by omega),Int.tmod_eq_emod_of_nonneg (by omega)]
      omega
    rw[if_neg c3]
    by_cases c4:w0=4
    · rw[if_pos c4]
      split
      · exact rd_in hi _
      · omega
    · rw[if_neg c4]
      omega
  · rw[if_neg c]
    omega
theorem pLive_none {s:List S110}{tk sd:Int}{ins:List Int}(h:pVisit s tk sd ins=false)(w0 w1 w2 w3 n:Int):pLive s tk sd ins w0 w1 w2 w3 n=0:=by
  unfold pLive
  rw[if_neg (by rw[h];simp)]
def pEntry (y:S41):Bool:=(decide (1≤y.f0) && decide (y.f0≤4)) && (pIn y.f2 0 999 && (if y.f0=1 then pAddr y.f1.f0 y.f1.f1 y.f1.f2 else pZero y.f1.f0 y.f1.f1 y.f1.f2))
def pEntries (l:List S41):Bool:=l.all pEntry && decide ((l.length:Int)≤16)
theorem not_any' {α:Type}(l:List α)(p:α→Bool):(!(l.any fun y=>!p y))=l.all p:=by
  rw[List.all_eq_not_any_not]
theorem not_zero (a b c:Int):(!(a == 0) || (!(b == 0) || (!(c == 0))))=!pZero a b c:=by
  unfold pZero
  cases (a == 0) <;> cases (b == 0) <;> cases (c == 0) <;> rfl
def ansOf (s:List S110)(u:Int)(y:S39):Rsc:=pAnswer s y.f0 y.f1 y.f2 u
def Links (s:List S110)(u:Int)(c:List S39):Prop:=∀ i,i+1 < c.length→(ansOf s u (c.getD i z39)).1=3∧(⟨(ansOf s u (c.getD i z39)).2.2.1,(ansOf s u (c.getD i z39)).2.2.2.1,(ansOf s u (c.getD i z39)).2.2.2.2⟩:S39)=c.getD (i+1) z39
def Apart (c:List S39):Prop:=∀ i k,k < i→i < c.length→c.getD i z39≠c.getD k z39
theorem getD_app {α:Type}(c e:List α)(i:Nat)(d:α)(h:i < c.length):(c++e).getD i d=c.getD i d:=by
  simp[List.getD_eq_getElem?_getD,List.getElem?_append,h]
theorem getD_last {α:Type}(c:List α)(z d:α):(c++[z]).getD c.length d=z:=by
  simp[List.getD_eq_getElem?_getD]
theorem trail_ok (s:List S110)(u:Int)(z0:S39):∀ (n:Nat) (c:List S39) (r:Rsc),0 < c.length→c.length+n=5→c.getD 0 z39=z0→r=ansOf s u (c.getD (c.length - 1) z39)→Links s u c→Apart c →
    ∃ C:List S39,∃ f:Rsc,pTrail s u n c r=(f.1,f.2.1,f.2.2.1,f.2.2.2.1,f.2.2.2.2,C)∧0 < C.length∧C.length≤5∧C.getD 0 z39=z0∧f=ansOf s u (C.getD (C.length - 1) z39)∧Links s u C∧Apart C:=by
  intro n
  induction n with
  | zero =>
    intro c r h0 h5 hz hr hl ha
    exact⟨c,r,rfl,h0,by omega,hz,hr,hl,ha⟩
  | succ n ih =>
    intro c r h0 h5 hz hr hl ha
    unfold pTrail
    by_cases hc:r.1=3∧pHasA c r.2.2.1 r.2.2.2.1 r.2.2.2.2=false
    · rw[if_pos hc]
      have hlen:(c++[(⟨r.2.2.1,r.2.2.2.1,r.2.2.2.2⟩:S39)]).length=c.length+1:=by rw[List.length_append,List.length_singleton]
      refine ih _ _ (by omega) (by omega) ?_ ?_ ?_ ?_
      · rw[getD_app c _ 0 _ h0]
        exact hz
      · rw[hlen,Nat.add_sub_cancel,getD_last]
        rfl
      · intro i hi
        rw[hlen] at hi
        rw[getD_app c _ i _ (by omega)]
        by_cases he:i+1 < c.length
        · rw[getD_app c _ (i+1) _ he]
          exact hl i he
        · have e:i+1=c.length:=by omega
          have e2:i=c.length - 1:=by omega
          rw[e,getD_last,e2,←hr]
          exact⟨hc.1,rfl⟩
      · intro i k hk hi
        rw[hlen] at hi
        rw[getD_app c _ k _ (by omega)]
        by_cases he:i < c.length
        · rw[getD_app c _ i _ he]
          exact ha i k hk he
        · have e:i=c.length:=by omega
          rw[e,getD_last]
          have hh:=hc.2
          unfold pHasA at hh
          rw[List.any_eq_false] at hh
          have hm:=hh _ (getD_mem c k (by omega) z39)
          intro hq
          apply hm
          rw[←hq]
          simp
    · rw[if_neg hc]
      exact⟨c,r,rfl,h0,by omega,hz,hr,hl,ha⟩
theorem follow_ok (s:List S110)(a p q u:Int):∃ C:List S39,∃ f:Rsc,pFollow s a p q u=(f.1,f.2.1,f.2.2.1,f.2.2.2.1,f.2.2.2.2,C)∧0 < C.length∧C.length≤5∧C.getD 0 z39=⟨a,p,q⟩∧f=ansOf s u (C.getD (C.length - 1) z39)∧Links s u C∧Apart C:=by
  unfold pFollow
  refine trail_ok s u ⟨a,p,q⟩ 4 [⟨a,p,q⟩] _ (by simp) rfl rfl rfl ?_ ?_
  · intro i hi
    simp at hi
  · intro i k hk hi
    simp at hi
    omega
/-- The n-th entry of a recording: valid, and its value is what the visit answers. -/
def EntryAt (s:List S110)(tk sd:Int)(ins:List Int)(n:Nat)(e:S41):Prop:=pEntry e=true∧e.f2=pLive s tk sd ins e.f0 e.f1.f0 e.f1.f1 e.f1.f2 (n:Int)
def EntriesOk (s:List S110)(tk sd:Int)(ins:List Int)(es:List S41):Prop:=∀ n,n < es.length→EntryAt s tk sd ins n (es.getD n z41)
theorem entries_snoc {s:List S110}{tk sd:Int}{ins:List Int}{es:List S41}{e:S41}(h:EntriesOk s tk sd ins es)(he:EntryAt s tk sd ins es.length e):EntriesOk s tk sd ins (es++[e]):=by
  intro n hn
  rw[List.length_append,List.length_singleton] at hn
  by_cases c:n < es.length
  · rw[getD_app _ _ _ _ c]
    exact h n c
  · obtain rfl:n=es.length:=by omega
    rw[getD_last]
    exact he
theorem pWant_zero (l:List S106)(a:Int)(r s n:List Int)(h:¬(pWant l a r s n).1=1):pZero (pWant l a r s n).2.1 (pWant l a r s n).2.2.1 (pWant l a r s n).2.2.2=true:=by
  unfold pWant at h ⊢
  by_cases c:pCan l a r s n=true∧pAsks (rd_T106 l a).f0=true
  · rw[if_pos c] at h ⊢
    by_cases c1:(rd_T106 l a).f0=1
    · rw[if_pos c1] at h
      exact absurd c1 h
    · rw[if_neg c1]
      rfl
  · rw[if_neg c]
    rfl
theorem want_entry (l:List S106)(s:List S110)(tk sd:Int)(ins:List Int)(es:List S41)(z:Int×List Int×List Int×List Int)(hc:pCan l z.1 z.2.1 z.2.2.1 z.2.2.2=true)(hw:¬(pWant l z.1 z.2.1 z.2.2.1 z.2.2.2).1=0):EntryAt s tk sd ins es.length ⟨(pWant l z.1 z.2.1 z.2.2.1 z.2.2.2).1,⟨(pWant l z.1 z.2.1 z.2.2.1 z.2.2.2).2.1,(pWant l z.1 z.2.1 z.2.2.1 z.2.2.2).2.2.1,(pWant l z.1 z.2.1 z.2.2.1 z.2.2.2).2.2.2⟩,pSeen.pAns l s tk sd ins es z⟩:=by
  have hn:=pWant_nn l z.1 z.2.1 z.2.2.1 z.2.2.2 hc
  obtain⟨h1,h2⟩:=pWant_ok l z.1 z.2.1 z.2.2.1 z.2.2.2 hc (by omega)
  have h3:=pLive_in s tk sd ins (pWant l z.1 z.2.1 z.2.2.1 z.2.2.2).1 (pWant l z.1 z.2.1 z.2.2.1 z.2.2.2).2.1 (pWant l z.1 z.2.1 z.2.2.1 z.2.2.2).2.2.1 (pWant l z.1 z.2.1 z.2.2.1 z.2.2.2).2.2.2 (es.length:Int)
  have h4:=pWant_zero l z.1 z.2.1 z.2.2.1 z.2.2.2
  refine⟨?_,rfl⟩
  unfold pEntry pSeen.pAns
  generalize (pWant l z.1 z.2.1 z.2.2.1 z.2.2.2)=q at h1 h2 h3 h4 ⊢
  unfold pAsks at h1
  dsimp only
  simp only[Bool.and_eq_true,decide_eq_true_eq,pIn] at h1 ⊢
  refine⟨h1,h3,?_⟩
  by_cases c:q.1=1
  · rw[if_pos c]
    exact h2 c
  · rw[if_neg c]
    exact h4 c
theorem pSeen_ok (l:List S106)(s:List S110)(tk sd:Int)(ins:List Int)(hs:pScript l=true):∀ (m:Nat) (es:List S41) (tr:List S35) (z:Int×List Int×List Int×List Int),StOk z→(es.length:Int)≤z.1→es.length≤l.length→EntriesOk s tk sd ins es →
    (pSeen l s tk sd ins m es tr z).1.length≤l.length∧EntriesOk s tk sd ins (pSeen l s tk sd ins m es tr z).1:=by
  intro m
  induction m with
  | zero=>intro es tr z hz h1 h2 h3;exact⟨h2,h3⟩
  | succ m ih =>
    intro es tr z hz h1 h2 h3
    rw[pSeen]
    by_cases c1:(l.length:Int)≤z.1
    · rw[if_pos c1]
      exact⟨h2,h3⟩
    rw[if_neg c1]
    have hc:=can_of hs hz c1
    by_cases c2:(pWant l z.1 z.2.1 z.2.2.1 z.2.2.2).1=0
    · rw[if_pos c2]
      obtain⟨hk,hp,_⟩:=pStep_ok l z.1 z.2.1 z.2.2.1 z.2.2.2 0 hc
      exact ih es _ _ hk (by omega) h2 h3
    · rw[if_neg c2]
      obtain⟨hk,hp,_⟩:=pStep_ok l z.1 z.2.1 z.2.2.1 z.2.2.2 (pSeen.pAns l s tk sd ins es z) hc
      exact ih _ _ _ hk (by rw[List.length_append,List.length_singleton];omega) (by rw[List.length_append,List.length_singleton];omega) (entries_snoc h3 (want_entry l s tk sd ins es z hc c2))
theorem pVis_ok (l:List S106)(s:List S110)(tk sd:Int)(ins:List Int):(pVis l s tk sd ins).1.length≤16∧EntriesOk s tk sd ins (pVis l s tk sd ins).1∧((pVis l s tk sd ins).1.length≠0→pVisit s tk sd ins=true):=by
  unfold pVis
  split
  · rename_i h
    have hl:=pScript_len h.1
    obtain⟨h1,h2⟩:=pSeen_ok l s tk sd ins h.1 40 [] [⟨0,[0,0,0,0],[0,0,0],[0,0,0,0]⟩] z0 z0_ok (by simp[z0]) (by simp) (fun n hn=>absurd hn (by simp))
    exact⟨by omega,h2,fun _=>h.2⟩
  · exact⟨by simp,fun n hn=>absurd hn (by simp),fun h=>absurd rfl h⟩
def capOf (s:List S110)(tk:Int)(es:List S41)(i:Nat):S45:=⟨⟨(rd_T41 es (i:Int)).f1.f0,(rd_T41 es (i:Int)).f1.f1,(rd_T41 es (i:Int)).f1.f2⟩,wrap64 (tk+(i:Int)),⟨(pFollow s (rd_T41 es (i:Int)).f1.f0 (rd_T41 es (i:Int)).f1.f1 (rd_T41 es (i:Int)).f1.f2 (wrap64 (tk+(i:Int)))).1,(pFollow s (rd_T41 es (i:Int)).f1.f0 (rd_T41 es (i:Int)).f1.f1 (rd_T41 es (i:Int)).f1.f2 (wrap64 (tk+(i:Int)))).2.1,⟨(pFollow s (rd_T41 es (i:Int)).f1.f0 (rd_T41 es (i:Int)).f1.f1 (rd_T41 es (i:Int)).f1.f2 (wrap64 (tk+(i:Int)))).2.2.1,(pFollow s (rd_T41 es (i:Int)).f1.f0 (rd_T41 es (i:Int)).f1.f1 (rd_T41 es (i:Int)).f1.f2 (wrap64 (tk+(i:Int)))).2.2.2.1,(pFollow s (rd_T41 es (i:Int)).f1.f0 (rd_T41 es (i:Int)).f1.f1 (rd_T41 es (i:Int)).f1.f2 (wrap64 (tk+(i:Int)))).2.2.2.2.1⟩⟩⟩
theorem capAt_pos (s:List S110)(tk:Int)(es:List S41)(i:Nat)(out:List S45)(c:(rd_T41 es (i:Int)).f0=1):pCaptAt s tk es i out=out++[capOf s tk es i]:=by
  unfold pCaptAt capOf
  rw[if_pos c]
theorem capAt_neg (s:List S110)(tk:Int)(es:List S41)(i:Nat)(out:List S45)(c:¬(rd_T41 es (i:Int)).f0=1):pCaptAt s tk es i out=out:=by
  unfold pCaptAt
  rw[if_neg c]
theorem pCapt_pre (s:List S110)(tk:Int)(es:List S41):∀ (d i:Nat) (out:List S45),∃ g,pCapt s tk es d i out=out++g:=by
  intro d
  induction d with
  | zero=>intro i out;exact⟨[],by simp[pCapt]⟩
  | succ d ih =>
    intro i out
    obtain⟨g,e⟩:=ih (i+1) (pCaptAt s tk es i out)
    unfold pCapt
    by_cases c:(rd_T41 es (i:Int)).f0=1
    · rw[capAt_pos s tk es i out c] at e ⊢
      exact⟨[capOf s tk es i]++g,by rw[e,List.append_assoc]⟩
    · rw[capAt_neg s tk es i out c] at e ⊢
      exact⟨g,e⟩
theorem pAnswer_res (l:List S110)(a p q t:Int)(hl:∀ y∈l,pRes y.f2.f0 y.f2.f1 y.f2.f2.f0 y.f2.f2.f1 y.f2.f2.f2=true):pRes (pAnswer l a p q t).1 (pAnswer l a p q t).2.1 (pAnswer l a p q t).2.2.1 (pAnswer l a p q t).2.2.2.1 (pAnswer l a p q t).2.2.2.2=true:=by
  have key:∀ (l:List S110) (r:Rsc),(∀ y∈l,pRes y.f2.f0 y.f2.f1 y.f2.f2.f0 y.f2.f2.f1 y.f2.f2.f2=true)→pRes r.1 r.2.1 r.2.2.1 r.2.2.2.1 r.2.2.2.2=true→pRes (l.foldl (ansStep a p q t) r).1 (l.foldl (ansStep a p q t) r).2.1 (l.foldl (ansStep a p q t) r).2.2.1 (l.foldl (ansStep a p q t) r).2.2.2.1 (l.foldl (ansStep a p q t) r).2.2.2.2=true:=by
    intro l
    induction l with
    | nil=>intro r _ h;exact h
    | cons y l ih =>
      intro r hl h
      rw[List.foldl_cons]
      refine ih _ (fun z hz=>hl z (List.mem_cons_of_mem _ hz)) ?_
      unfold ansStep
      split
      · exact hl y (List.mem_cons_self ..)
      · exact h
  exact key l (4,[],0,0,0) hl (by decide)
theorem pFollow_res (l:List S110)(a p q t:Int)(hl:∀ y∈l,pRes y.f2.f0 y.f2.f1 y.f2.f2.f0 y.f2.f2.f1 y.f2.f2.f2=true):pRes (pFollow l a p q t).1 (pFollow l a p q t).2.1 (pFollow l a p q t).2.2.1 (pFollow l a p q t).2.2.2.1 (pFollow l a p q t).2.2.2.2.1=true:=by
  have key:∀ (n:Nat) (c:List S39) (r:Rsc),pRes r.1 r.2.1 r.2.2.1 r.2.2.2.1 r.2.2.2.2=true→pRes (pTrail l t n c r).1 (pTrail l t n c r).2.1 (pTrail l t n c r).2.2.1 (pTrail l t n c r).2.2.2.1 (pTrail l t n c r).2.2.2.2.1=true:=by
    intro n
    induction n with
    | zero=>intro c r h;exact h
    | succ n ih =>
      intro c r h
      unfold pTrail
      split
      · exact ih _ _ (pAnswer_res l _ _ _ t hl)
      · exact h
  exact key 4 _ _ (pAnswer_res l a p q t hl)
theorem site_res {s:List S110}{tk sd:Int}{ins:List Int}(hv:pVisit s tk sd ins=true):∀ y∈s,pRes y.f2.f0 y.f2.f1 y.f2.f2.f0 y.f2.f2.f1 y.f2.f2.f2=true:=by
  intro y hy
  unfold pVisit pIsSite at hv
  simp only[Bool.and_eq_true,List.all_eq_true] at hv
  have h:=hv.1.1 y hy
  unfold pVersion at h
  simp only[Bool.and_eq_true] at h
  exact h.2.2
theorem capOf_ok {s:List S110}{tk sd:Int}{ins:List Int}{es:List S41}(hv:pVisit s tk sd ins=true)(he:EntriesOk s tk sd ins es)(hl:es.length≤16)(i:Nat)(hi:i < es.length)(c:(rd_T41 es (i:Int)).f0=1) :
    pCapture (capOf s tk es i)=true∧(rd_T41 es (i:Int)).f2=pVal (pFollow s (rd_T41 es (i:Int)).f1.f0 (rd_T41 es (i:Int)).f1.f1 (rd_T41 es (i:Int)).f1.f2 (wrap64 (tk+(i:Int)))).1 (pFollow s (rd_T41 es (i:Int)).f1.f0 (rd_T41 es (i:Int)).f1.f1 (rd_T41 es (i:Int)).f1.f2 (wrap64 (tk+(i:Int)))).2.1 (pFollow s (rd_T41 es (i:Int)).f1.f0 (rd_T41 es (i:Int)).f1.f1 (rd_T41 es (i:Int)).f1.f2 (wrap64 (tk+(i:Int)))).2.2.1 (pFollow s (rd_T41 es (i:Int)).f1.f0 (rd_T41 es (i:Int)).f1.f1 (rd_T41 es (i:Int)).f1.f2 (wrap64 (tk+(i:Int)))).2.2.2.1 (pFollow s (rd_T41 es (i:Int)).f1.f0 (rd_T41 es (i:Int)).f1.f1 (rd_T41 es (i:Int)).f1.f2 (wrap64 (tk+(i:Int)))).2.2.2.2.1:=by
  have h:EntryAt s tk sd ins i (rd_T41 es (i:Int)):=he i hi
  obtain⟨h1,h2⟩:=h
  have hr:=pFollow_res s (rd_T41 es (i:Int)).f1.f0 (rd_T41 es (i:Int)).f1.f1 (rd_T41 es (i:Int)).f1.f2 (wrap64 (tk+(i:Int))) (site_res hv)
  have hv':=hv
  unfold pVisit at hv'
  simp only[pIn,Bool.and_eq_true,decide_eq_true_eq] at hv'
  obtain⟨_,ht,_⟩:=hv'
  have hin:pIn (i:Int) 0 100=true:=by simp only[pIn,Bool.and_eq_true,decide_eq_true_eq];omega
  unfold pLive at h2
  rw[if_pos ⟨hv,hin⟩,if_pos c] at h2
  refine⟨?_,h2⟩
  unfold pEntry at h1
  rw[if_pos c] at h1
  simp only[Bool.and_eq_true] at h1
  unfold pCapture capOf
  dsimp only
  have e:wrap64 (tk+(i:Int))=tk+(i:Int):=w64 (by omega) (by omega)
  simp only[Bool.and_eq_true]
  refine⟨h1.2.2,?_,hr⟩
  rw[e]
  simp only[pIn,Bool.and_eq_true,decide_eq_true_eq]
  omega
theorem pCapt_all {s:List S110}{tk sd:Int}{ins:List Int}{es:List S41}(hv:es.length≠0→pVisit s tk sd ins=true)(he:EntriesOk s tk sd ins es)(hl:es.length≤16):∀ (d i:Nat) (out:List S45),i+d=es.length→out.length≤i→out.all pCapture=true→(pCapt s tk es d i out).all pCapture=true∧(pCapt s tk es d i out).length≤es.length:=by
  intro d
  induction d with
  | zero=>intro i out hi ho h;exact⟨h,by rw[pCapt];omega⟩
  | succ d ih =>
    intro i out hi ho h
    unfold pCapt
    have hlen:=pCaptAt_len s tk es i out
    refine ih (i+1) _ (by omega) (by omega) ?_
    by_cases c:(rd_T41 es (i:Int)).f0=1
    · rw[capAt_pos s tk es i out c,List.all_append,h]
      have:=(capOf_ok (hv (by omega)) he hl i (by omega) c).1
      simp[this]
    · rw[capAt_neg s tk es i out c]
      exact h
theorem pCaptures_are (l:List S106)(s:List S110)(tk sd:Int)(ins:List Int):pAreCaptures (pCaptures l s tk sd ins)=true:=by
  obtain⟨h1,h2,h3⟩:=pVis_ok l s tk sd ins
  obtain⟨g1,g2⟩:=pCapt_all h3 h2 h1 (pVis l s tk sd ins).1.length 0 [] (Nat.zero_add _) (Nat.le_refl _) rfl
  unfold pAreCaptures pCaptures
  rw[g1,Bool.true_and]
  exact decide_eq_true (by omega)
theorem ticks_in (a p q t:Int):∀ (l:List S45) (acc:List Int),(t∈acc∨∃ y∈l,chHereCapture a p q y=true∧y.f1=t)→t∈l.foldl (fun s y=>if chHereCapture a p q y=true then pPut s y.f1 else s) acc:=by
  intro l
  induction l with
  | nil =>
    intro acc h
    rcases h with h | ⟨y,hy,_⟩
    · exact h
    · cases hy
  | cons y l ih =>
    intro acc h
    rw[List.foldl_cons]
    refine ih _ ?_
    rcases h with h | ⟨x,hx,hc,ht⟩
    · left
      split
      · exact(pPut_mem _ _ _).2 (Or.inr h)
      · exact h
    · rcases List.mem_cons.1 hx with rfl | hx
      · left
        rw[if_pos hc]
        exact(pPut_mem _ _ _).2 (Or.inl ht.symm)
      · exact Or.inr ⟨x,hx,hc,ht⟩
theorem pSame_self (y:S45):pSame y y=true:=by
  unfold pSame pEqAddr pEqRes pEqAddr
  simp
theorem capIn_step {out:List S45}(x y:S45)(h:capIn out x=true):capIn (pAddStep out y) x=true:=by
  unfold pAddStep
  split
  · exact h
  · unfold capIn at h ⊢
    rw[List.any_append,h,Bool.true_or]
theorem capIn_new (out:List S45)(y:S45):capIn (pAddStep out y) y=true:=by
  unfold pAddStep
  split
  · assumption
  · unfold capIn
    rw[List.any_append]
    simp[pSame_self]
theorem capIn_fold (x:S45):∀ (b out:List S45),(capIn out x=true∨x∈b)→capIn (b.foldl pAddStep out) x=true:=by
  intro b
  induction b with
  | nil =>
    intro out h
    rcases h with h | h
    · exact h
    · cases h
  | cons y b ih =>
    intro out h
    rw[List.foldl_cons]
    rcases h with h | h
    · exact ih _ (Or.inl (capIn_step x y h))
    · rcases List.mem_cons.1 h with rfl | h
      · exact ih _ (Or.inl (capIn_new out x))
      · exact ih _ (Or.inr h)
theorem fold_same:∀ (b out:List S45),(∀ x∈b,capIn out x=true)→b.foldl pAddStep out=out:=by
  intro b
  induction b with
  | nil=>intro out _;rfl
  | cons y b ih =>
    intro out h
    rw[List.foldl_cons]
    have e:pAddStep out y=out:=by unfold pAddStep;rw[if_pos (h y (List.mem_cons_self ..))]
    rw[e]
    exact ih out (fun x hx=>h x (List.mem_cons_of_mem _ hx))
theorem fold_len:∀ (b out:List S45),out.length≤(b.foldl pAddStep out).length∧(b.foldl pAddStep out).length≤out.length+b.length:=by
  intro b
  induction b with
  | nil=>intro out;exact⟨Nat.le_refl _,Nat.le_refl _⟩
  | cons y b ih =>
    intro out
    rw[List.foldl_cons,List.length_cons]
    have h1:=ih (pAddStep out y)
    have h2:=pAddStep_len out y
    omega
theorem pAdd_again {a b:List S45}(h:(pAdd a b).2=true):pAdd (pAdd a b).1 b=((pAdd a b).1,true)∧a.length≤(pAdd a b).1.length∧(pAdd a b).1.length≤a.length+b.length:=by
  unfold pAdd at h ⊢
  split at h
  · rename_i c
    rw[if_pos c]
    dsimp only
    have e:=fold_same b (b.foldl pAddStep a) (fun x hx=>capIn_fold x b a (Or.inr hx))
    rw[e,if_pos c]
    exact⟨rfl,fold_len b a⟩
  · cases h
theorem pAdd_no {a b:List S45}(h:(pAdd a b).2=false):(pAdd a b).1=a:=by
  unfold pAdd at h ⊢
  split at h
  · cases h
  · rename_i c
    rw[if_neg c]
theorem pEqC_self (a:List S45):pEqCaptures a a=true:=by
  unfold pEqCaptures
  rw[decide_eq_true rfl,Bool.true_and,List.all_eq_true]
  intro q hq
  have e:∀ (a:List S45),∀ q∈a.zip a,q.1=q.2:=by
    intro a
    induction a with
    | nil=>intro q hq;cases hq
    | cons y a ih =>
      intro q hq
      rw[List.zip_cons_cons] at hq
      rcases List.mem_cons.1 hq with rfl | hq
      · rfl
      · exact ih q hq
  rw[e a q hq]
  exact pSame_self _
theorem capt_step (b:List Int)(s:List S110)(tk sd:Int)(ins:List Int)(X:List S45)(es:List S41)(hs:s.length≤1048576)(hf:∀ y∈s,FitimplVersion y)(hv:es.length≠0→pVisit s tk sd ins=true)(he:EntriesOk s tk sd ins es)(hl:es.length≤16)(hXl:X.length≤40)(hXf:∀ y∈X,FitimplCapture y)(hA:pAreCaptures X=true)(hj:Ev (fun k=>laws_FnCaptures.j1 k b false) true) :
    ∀ (d i:Nat) (out:List S45),i+d=es.length→out.length≤i→X=pCapt s tk es d i out→Ev (fun k=>laws_FnCaptures.l0 k b X es (out.length:Int) (i:Int) s tk sd ins) true:=by
  intro d
  induction d with
  | zero =>
    intro i out hi ho hx
    have hx':X=out:=by rw[hx,pCapt]
    have iA:=iAreCaptures_ev X (by omega) hXf
    rw[hA] at iA
    refine Ev.round (fun _=>by rw[laws_FnCaptures.l0]) ?_
    refine Ev.neg (by omega) ?_
    refine Ev.pos (by rw[hx']) ?_
    refine Ev.bind iA ?_
    exact hj
  | succ d ih =>
    intro i out hi ho hx
    have e1:wrap64 ((i:Int)+1)=((i+1:Nat):Int):=by rw[w64 (by omega) (by omega)];omega
    unfold pCapt at hx
    refine Ev.round (fun _=>by rw[laws_FnCaptures.l0]) ?_
    refine Ev.pos (by omega) ?_
    refine Ev.pos (by omega) ?_
    by_cases c:(rd_T41 es (i:Int)).f0=1
    · rw[capAt_pos s tk es i out c] at hx
      have hn:=ih (i+1) _ (by omega) (by rw[List.length_append,List.length_singleton];omega) hx
      obtain⟨g,eg⟩:=pCapt_pre s tk es d (i+1) (out++[capOf s tk es i])
      rw[eg] at hx
      have hlt:out.length < X.length:=by rw[hx,List.length_append,List.length_append,List.length_singleton];omega
      have hr:rd_T45 X (out.length:Int)=capOf s tk es i:=by
        show X.getD out.length z45=capOf s tk es i
        rw[hx,getD_app _ _ _ _ (by rw[List.length_append,List.length_singleton];omega),getD_last]
      have hin:capOf s tk es i∈X:=by rw[hx];simp
      have e2:wrap64 ((out.length:Int)+1)=((out++[capOf s tk es i]).length:Int):=by rw[List.length_append,List.length_singleton,w64 (by omega) (by omega)];omega
      obtain⟨q1,q2⟩:=capOf_ok (hv (by omega)) he hl i (by omega) c
      have qf:=pFollow_fit s (rd_T41 es (i:Int)).f1.f0 (rd_T41 es (i:Int)).f1.f1 (rd_T41 es (i:Int)).f1.f2 (wrap64 (tk+(i:Int))) hf
      refine Ev.pos c ?_
      refine Ev.neg (by omega) ?_
      refine Ev.pos (by omega) ?_
      refine Ev.pos (by omega) ?_
      simp only[hr]
      refine Ev.neg (by simp[capOf]) ?_
      refine Ev.pos rfl ?_
      refine Ev.bind (iValue_ev (capOf s tk es i).f2.f0 (capOf s tk es i).f2.f1 (capOf s tk es i).f2.f2.f0 (capOf s tk es i).f2.f2.f1 (capOf s tk es i).f2.f2.f2 qf) ?_
      refine Ev.pos q2.symm ?_
      refine Ev.bind (iTicks_ev X (capOf s tk es i).f0.f0 (capOf s tk es i).f0.f1 (capOf s tk es i).f0.f2 (by omega)) ?_
      have ht:(capOf s tk es i).f1∈pChangesCapture X (capOf s tk es i).f0.f0 (capOf s tk es i).f0.f1 (capOf s tk es i).f0.f2:=ticks_in _ _ _ _ X [] (Or.inr ⟨capOf s tk es i,hin,by simp[chHereCapture],rfl⟩)
      refine Ev.bind (contains_ev _ _ (by have:=pChangesCapture_length X (capOf s tk es i).f0.f0 (capOf s tk es i).f0.f1 (capOf s tk es i).f0.f2;omega) ht) ?_
      refine Ev.pos rfl ?_
      simp only[e1,e2]
      exact hn
    · rw[capAt_neg s tk es i out c] at hx
      have hn:=ih (i+1) _ (by omega) (by omega) hx
      refine Ev.neg c ?_
      simp only[e1]
      exact hn
theorem j2_ev (b:List Int)(hb:b.length≤1048576)(a y:List S45)(f:Bool)(hy:y.length≤1048576)(hyf:∀ z∈y,FitimplCapture z)(h:f=false→y=a):Ev (fun k=>laws_FnCaptures.j2 k b a y f) true:=by
  refine Ev.round (fun _=>by rw[laws_FnCaptures.j2]) ?_
  refine Any.then_ (drawCI_any b hb) ?_
  intro x hx
  obtain⟨x0,x1,x2,x3,x4,x5,x6,x7,x8⟩:=x
  have hx':x5.length≤1048576:=hx
  dsimp only
  have hlen:(([x0,x1,x2,x3]++([x4,x6,x7,x8,(x5.length:Int)]++x5)).length:Int) == wrap64 (4+(([x4,x6,x7,x8,(x5.length:Int)]++x5).length:Int)):=by
    have e:(([x4,x6,x7,x8,(x5.length:Int)]++x5).length:Int)=5+(x5.length:Int):=by simp;omega
    have e':(([x0,x1,x2,x3]++([x4,x6,x7,x8,(x5.length:Int)]++x5)).length:Int)=9+(x5.length:Int):=by simp;omega
    rw[e,e',w64 (by omega) (by omega)]
    simp
    omega
  have fin:Ev (fun _:Nat=>some ((([x0,x1,x2,x3]++([x4,x6,x7,x8,(x5.length:Int)]++x5)).length:Int) == wrap64 (4+(([x4,x6,x7,x8,(x5.length:Int)]++x5).length:Int)))) true:=Ev.cast (Ev.now _) hlen
  refine Ev.ite_to (fun _=>?_) (fun c=>?_)
  · exact Ev.now_bind (ci_eq _ _ _ _ _ _ _ _ _ hx') (Ev.now_bind (ri_eq _ _ _ _ _ hx') fin)
  · have e:=h (Bool.eq_false_iff.2 c)
    have q:=iEqualCaptures_ev y a hy hyf
    rw[←e] at q ⊢
    rw[pEqC_self] at q
    exact Ev.bind q (Ev.pos rfl (Ev.now_bind (ci_eq _ _ _ _ _ _ _ _ _ hx') (Ev.now_bind (ri_eq _ _ _ _ _ hx') fin)))
theorem j1_ev (b:List Int)(hb:b.length≤1048576):Ev (fun k=>laws_FnCaptures.j1 k b false) true:=by
  refine Ev.round (fun _=>by rw[laws_FnCaptures.j1]) ?_
  refine Ev.neg (by simp) ?_
  refine Any.then_ (drawAdd_any b hb) ?_
  intro x hx
  obtain⟨a,c⟩:=x
  obtain⟨⟨ha,haf⟩,hc,hcf⟩:=hx
  dsimp only at ha haf hc hcf ⊢
  obtain⟨fo,lo⟩:=pAdd_fit a c haf hcf
  have i1:=iAdd_ev a c (by omega) haf hcf
  refine Ev.bind i1 ?_
  cases h2:(pAdd a c).2 with
  | true =>
    obtain⟨g1,g2,g3⟩:=pAdd_again h2
    have i2:=iAdd_ev (pAdd a c).1 c (by omega) fo hcf
    have q:=iEqualCaptures_ev (pAdd a c).1 (pAdd a c).1 (by omega) fo
    rw[pEqC_self] at q
    rw[g1] at i2
    refine Ev.pos rfl ?_
    refine Ev.bind i2 ?_
    refine Ev.pos rfl ?_
    refine Ev.bind q ?_
    refine Ev.pos rfl ?_
    refine Ev.neg (by rw[w64 (by omega) (by omega)];omega) ?_
    refine Ev.neg (by omega) ?_
    exact j2_ev b hb a _ true (by omega) fo (fun h=>by cases h)
  | false =>
    refine Ev.neg (by simp) ?_
    exact j2_ev b hb a _ false (by omega) fo (fun _=>pAdd_no h2)
theorem FnCaptures (l0:List Int)(h0:(l0.length≤maxLen∧∀ e_∈l0,(Lit.int .u8 e_).wf=true)):∃ k,laws_FnCaptures.f k l0=some true:=by
  refine Ev.rounds ?_
  unfold laws_FnCaptures.f laws_big.f
  refine Ev.now_bind rfl ?_
  by_cases hb:(l0.length:Int) > 1048576
  · exact Ev.pos (by simpa using hb) (Ev.now _)
  have hlen:l0.length≤1048576:=by omega
  refine Ev.neg (by simpa using hb) ?_
  refine Any.then_ (drawCapturesOf_any l0 hlen) ?_
  intro x hx
  obtain⟨l,s,tk,sd,ins⟩:=x
  obtain⟨h1,h2,hf,h3⟩:=hx
  dsimp only at h1 h2 hf h3 ⊢
  have hs:s.length≤1048576:=by omega
  obtain⟨v1,v2,v3⟩:=pVis_ok l s tk sd ins
  obtain⟨fo,xl⟩:=pCaptures_fit l s tk sd ins hf
  have hA:=pCaptures_are l s tk sd ins
  refine Ev.bind (iCaptures_ev l s tk sd ins (by omega) hs hf (by omega)) ?_
  refine Ev.bind (iRec_ev l s tk sd ins (by omega) hs hf (by omega)) ?_
  exact capt_step l0 s tk sd ins (pCaptures l s tk sd ins) (pVis l s tk sd ins).1 hs hf v3 v2 v1 xl fo hA (j1_ev l0 hlen) (pVis l s tk sd ins).1.length 0 [] (Nat.zero_add _) (Nat.le_refl _) rfl
end Go.Proofs.YtcbelifjkpbkfaaGreat.Pure
