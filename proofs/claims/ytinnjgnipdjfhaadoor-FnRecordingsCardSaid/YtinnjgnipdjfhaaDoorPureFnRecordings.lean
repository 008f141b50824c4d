/- FnRecordings: whatever bytes a script and a visit are drawn from, the recording has every value that the script asked for and no other, and the states of the visit follow from it step by step. The table that strconv.Itoa reads is tied by the card. -/
import Derived.Test.YtinnjgnipdjfhaaDoorMFnRecordingsx90
import Derived.Test.YtinnjgnipdjfhaaDoorStdFnRecordings
namespace Go.Proofs.YtinnjgnipdjfhaaDoor.Pure
open Go.RowKit Go.Proofs.YtinnjgnipdjfhaaDoor.MFnRecordings Go.Proofs.YtinnjgnipdjfhaaDoorW.PrintWords Go.Proofs.YtinnjgnipdjfhaaDoorW.PrintLast Go.Proofs.YtinnjgnipdjfhaaDoorW.PrintMore Go.Proofs.YtinnjgnipdjfhaaDoor.Gen
set_option linter.unusedVariables false
set_option linter.unusedSimpArgs false
def FitimplVersion (y:S96):Prop:=y.f2.f1.length≤1048576
/-- A cursor that stands in its bytes or behind them. -/
def Cur (b:List Int)(i:Int):Prop:=b.length≤1048576∧0≤i∧i≤(b.length:Int)
theorem and255 (v:Int):0≤Go.bits .and .i64 v 255∧Go.bits .and .i64 v 255≤255:=by
  have hle:(BitVec.ofInt IntKind.i64.bits v &&& BitVec.ofInt IntKind.i64.bits 255).toNat≤255:=by
    rw[BitVec.toNat_and]
    exact Nat.le_trans Nat.and_le_right (by decide)
  have e:Go.bits .and .i64 v 255=(((BitVec.ofInt IntKind.i64.bits v &&& BitVec.ofInt IntKind.i64.bits 255).toNat:Nat):Int):=by
    simp only[Go.bits]
    rw[IntKind.wrap_i64]
    omega
  rw[e]
  omega
/-- From some number of rounds on g answers something of which Q is true. -/
def Any {α:Type}(g:Nat→Option α)(Q:α→Prop):Prop:=∃ r,Ev g r∧Q r
theorem Any.of {α:Type}{g:Nat→Option α}{Q:α→Prop}{r:α}(h:Ev g r)(q:Q r):Any g Q:=⟨r,h,q⟩
theorem Any.now {α:Type}{Q:α→Prop}{r:α}(q:Q r):Any (fun _=>some r) Q:=⟨r,Ev.now r,q⟩
theorem Any.mono {α:Type}{g:Nat→Option α}{P Q:α→Prop}(h:Any g P)(m:∀ r,P r→Q r):Any g Q:=by
  obtain⟨r,e,q⟩:=h
  exact⟨r,e,m r q⟩
theorem Any.bind {α β:Type}{f:Nat→Option β}{g:Nat→β→Option α}{P:β→Prop}{Q:α→Prop}(h:Any f P)(k:∀ x,P x→Any (fun n=>g n x) Q):Any (fun n=>(f n).bind (g n)) Q:=by
  obtain⟨x,e,p⟩:=h
  obtain⟨r,e2,q⟩:=k x p
  exact⟨r,Ev.bind e e2,q⟩
theorem Any.ev {α β:Type}{f:Nat→Option β}{g:Nat→β→Option α}{v:β}{Q:α→Prop}(h:Ev f v)(k:Any (fun n=>g n v) Q):Any (fun n=>(f n).bind (g n)) Q:=by
  obtain⟨r,e2,q⟩:=k
  exact⟨r,Ev.bind h e2,q⟩
theorem Any.opt {α β:Type}{o:Option β}{g:Nat→β→Option α}{P:β→Prop}{Q:α→Prop}(h:∃ x,o=some x∧P x)(k:∀ x,P x→Any (fun n=>g n x) Q):Any (fun n=>o.bind (g n)) Q:=by
  obtain⟨x,e,p⟩:=h
  obtain⟨r,e2,q⟩:=k x p
  exact⟨r,Ev.now_bind e e2,q⟩
theorem Any.ite {α:Type}{c:Prop} [Decidable c] {A B:Nat→Option α}{Q:α→Prop}(k:c→Any A Q)(l:¬c→Any B Q):Any (fun n=>if c then A n else B n) Q:=by
  by_cases h:c
  · obtain⟨r,e,q⟩:=k h
    exact⟨r,Ev.pos h e,q⟩
  · obtain⟨r,e,q⟩:=l h
    exact⟨r,Ev.neg h e,q⟩
theorem Any.pos {α:Type}{c:Prop} [Decidable c] {A B:Nat→Option α}{Q:α→Prop}(h:c)(k:Any A Q):Any (fun n=>if c then A n else B n) Q:=by
  obtain⟨r,e,q⟩:=k
  exact⟨r,Ev.pos h e,q⟩
theorem Any.neg {α:Type}{c:Prop} [Decidable c] {A B:Nat→Option α}{Q:α→Prop}(h:¬c)(k:Any B Q):Any (fun n=>if c then A n else B n) Q:=by
  obtain⟨r,e,q⟩:=k
  exact⟨r,Ev.neg h e,q⟩
theorem Any.round {α:Type}{g f:Nat→Option α}{Q:α→Prop}(h:∀ k,g (k+1)=f k)(k:Any f Q):Any g Q:=by
  obtain⟨r,e,q⟩:=k
  exact⟨r,Ev.round h e,q⟩
theorem Any.to {α:Type}{g:Nat→Option α}{v:α}(h:Any g (fun r=>r=v)):Ev g v:=by
  obtain⟨r,e,rfl⟩:=h
  exact e
theorem Any.then_ {α β:Type}{f:Nat→Option β}{g:Nat→β→Option α}{P:β→Prop}{v:α}(h:Any f P)(k:∀ x,P x→Ev (fun n=>g n x) v):Ev (fun n=>(f n).bind (g n)) v:=by
  obtain⟨x,e,p⟩:=h
  exact Ev.bind e (k x p)
theorem l1New_ev (b:List Int)(hb:b.length≤1048576):∃ h,Ev (fun k=>spec_l1New.f k b) (b,0,h):=by
  unfold spec_l1New.f
  have key:∀ d i:Nat,i+d=b.length→∀ h:Int,∃ g,Ev (fun k=>spec_l1New.l0 k b h (i:Int)) (b,0,g):=by
    intro d
    induction d with
    | zero =>
      intro i hi h
      refine⟨h,?_⟩
      refine Ev.round (fun _=>by rw[spec_l1New.l0]) ?_
      refine Ev.neg (by omega) ?_
      exact Ev.now _
    | succ d ih =>
      intro i hi h
      by_cases h4:(i:Int) < 4000
      · have e1:wrap64 ((i:Int)+1)=((i+1:Nat):Int):=by rw[w64 (by omega) (by omega)];omega
        obtain⟨g,hg⟩:=ih (i+1) (by omega) (Go.bits .and .i64 (wrap64 ((wrap64 ((wrap64 (h * 137))+(wrap64 (rd b (i:Int)))))+11)) 1073741823)
        refine⟨g,?_⟩
        refine Ev.round (fun _=>by rw[spec_l1New.l0]) ?_
        refine Ev.pos (by omega) ?_
        refine Ev.pos h4 ?_
        refine Ev.pos (by omega) ?_
        simp only[e1]
        exact hg
      · refine⟨h,?_⟩
        refine Ev.round (fun _=>by rw[spec_l1New.l0]) ?_
        refine Ev.pos (by omega) ?_
        refine Ev.neg h4 ?_
        exact Ev.now _
  exact key b.length 0 (by omega) _
theorem cur0 (b:List Int)(hb:b.length≤1048576):Cur b 0:=⟨hb,by omega,by omega⟩
theorem aNew (b:List Int)(hb:b.length≤1048576):Any (fun k=>spec_l1New.f k b) (fun x=>x.1=b∧Cur b x.2.1):=by
  obtain⟨h,e⟩:=l1New_ev b hb
  exact⟨_,e,rfl,cur0 b hb⟩
theorem l1Byte_some (b:List Int)(i h:Int)(c:Cur b i):∃ x j g,spec_l1Byte.f b i h=some (x,j,g)∧(0≤x∧x≤255)∧Cur b j:=by
  obtain⟨c1,c2,c3⟩:=c
  unfold spec_l1Byte.f
  by_cases hi:i < (b.length:Int)
  · rw[if_pos hi,if_pos c2]
    exact⟨_,_,_,rfl,and255 _,c1,by rw[w64 (by omega) (by omega)];omega,by rw[w64 (by omega) (by omega)];omega⟩
  · rw[if_neg hi]
    exact⟨_,_,_,rfl,and255 _,c1,c2,c3⟩
theorem l1Below_some (b:List Int)(i h n:Int)(c:Cur b i):∃ x j g,spec_l1Below.f b i h n=some (x,j,g)∧0≤x∧(0 < n→x < n)∧Cur b j:=by
  unfold spec_l1Below.f
  by_cases h0:n≤0
  · rw[if_pos h0]
    exact⟨0,i,h,rfl,by omega,by omega,c⟩
  rw[if_neg h0]
  by_cases h1:n≤256
  · rw[if_pos h1]
    obtain⟨x,j,g,e,b1,cj⟩:=l1Byte_some b i h c
    rw[e]
    simp only[Option.bind_some]
    rw[if_neg (by omega)]
    refine⟨_,_,_,rfl,?_,?_,cj⟩
    · rw[Int.tmod_eq_emod_of_nonneg b1.1]
      exact Int.emod_nonneg _ (by omega)
    · intro hn
      rw[Int.tmod_eq_emod_of_nonneg b1.1]
      exact Int.emod_lt_of_pos _ hn
  · rw[if_neg h1]
    obtain⟨x,j,g,e,b1,cj⟩:=l1Byte_some b i h c
    obtain⟨y,j2,g2,e2,b2,cj2⟩:=l1Byte_some b j g cj
    obtain⟨z,j3,g3,e3,b3,cj3⟩:=l1Byte_some b j2 g2 cj2
    rw[e]
    simp only[Option.bind_some]
    rw[e2]
    simp only[Option.bind_some]
    rw[e3]
    simp only[Option.bind_some]
    rw[if_neg (by omega)]
    have hv:0≤wrap64 (wrap64 (wrap64 (x * 65536)+wrap64 (y * 256))+z):=by
      rw[w64 (n:=x * 65536) (by omega) (by omega),w64 (n:=y * 256) (by omega) (by omega),w64 (n:=x * 65536+y * 256) (by omega) (by omega),w64 (by omega) (by omega)]
      omega
    refine⟨_,_,_,rfl,?_,?_,cj3⟩
    · rw[Int.tmod_eq_emod_of_nonneg hv]
      exact Int.emod_nonneg _ (by omega)
    · intro hn
      rw[Int.tmod_eq_emod_of_nonneg hv]
      exact Int.emod_lt_of_pos _ hn
theorem l1Below_lt (b:List Int)(i h n:Int)(hn:0 < n)(c:Cur b i):∃ x j g,spec_l1Below.f b i h n=some (x,j,g)∧(0≤x∧x < n)∧Cur b j:=by
  obtain⟨x,j,g,e,h0,h1,cj⟩:=l1Below_some b i h n c
  exact⟨x,j,g,e,⟨h0,h1 hn⟩,cj⟩
theorem l1Once_some (b:List Int)(i h n:Int)(c:Cur b i):∃ x j g,spec_l1Once.f b i h n=some (x,j,g)∧Cur b j:=by
  obtain⟨x,j,g,e,_,_,cj⟩:=l1Below_some b i h n c
  unfold spec_l1Once.f
  rw[e]
  exact⟨_,_,_,rfl,cj⟩
theorem l10Op_ev (b:List Int)(i h:Int)(c:Cur b i):∃ y0 y1 y2 y3 j g,Ev (fun k=>spec_l10Op.f k b i h) (y0,y1,y2,y3,j,g)∧Cur b j:=by
  have hj:∀ (i h k0 a:Int),Cur b i→∃ y0 y1 y2 y3 j g,Ev (fun k=>spec_l10Op.j0 k b i h k0 a 0 0) (y0,y1,y2,y3,j,g)∧Cur b j:=by
    intro i h k0 a c
    obtain⟨x,j,g,e,hx,cj⟩:=l1Below_lt b i h 3 (by omega) c
    obtain⟨x2,j2,g2,e2,hx2,cj2⟩:=l1Below_lt b j g 3 (by omega) cj
    obtain⟨z,m,n,e3,hx3,cm⟩:=l1Below_lt b i h 4 (by omega) c
    obtain⟨z2,m2,n2,e4,hx4,cm2⟩:=l1Below_lt b m n 4 (by omega) cm
    by_cases h1:k0=1
    · iterate 6 apply Exists.intro
      refine⟨?_,cj2⟩
      refine Ev.round (fun _=>by rw[spec_l10Op.j0]) ?_
      refine Ev.pos h1 ?_
      refine Ev.now_bind e ?_
      refine Ev.now_bind e2 ?_
      exact Ev.now _
    by_cases h5:k0=5
    · iterate 6 apply Exists.intro
      refine⟨?_,cm2⟩
      refine Ev.round (fun _=>by rw[spec_l10Op.j0]) ?_
      refine Ev.neg h1 ?_
      refine Ev.pos h5 ?_
      refine Ev.now_bind e3 ?_
      refine Ev.now_bind e4 ?_
      exact Ev.now _
    by_cases h6:k0=6
    · iterate 6 apply Exists.intro
      refine⟨?_,cm⟩
      refine Ev.round (fun _=>by rw[spec_l10Op.j0]) ?_
      refine Ev.neg h1 ?_
      refine Ev.neg h5 ?_
      refine Ev.pos h6 ?_
      refine Ev.now_bind e3 ?_
      exact Ev.now _
    by_cases h7:k0=7
    · iterate 6 apply Exists.intro
      refine⟨?_,cj⟩
      refine Ev.round (fun _=>by rw[spec_l10Op.j0]) ?_
      refine Ev.neg h1 ?_
      refine Ev.neg h5 ?_
      refine Ev.neg h6 ?_
      refine Ev.pos h7 ?_
      refine Ev.now_bind e ?_
      exact Ev.now _
    by_cases h8:k0=8
    · iterate 6 apply Exists.intro
      refine⟨?_,cj⟩
      refine Ev.round (fun _=>by rw[spec_l10Op.j0]) ?_
      refine Ev.neg h1 ?_
      refine Ev.neg h5 ?_
      refine Ev.neg h6 ?_
      refine Ev.neg h7 ?_
      refine Ev.pos h8 ?_
      refine Ev.now_bind e ?_
      exact Ev.now _
    by_cases h9:k0=9
    · iterate 6 apply Exists.intro
      refine⟨?_,cj⟩
      refine Ev.round (fun _=>by rw[spec_l10Op.j0]) ?_
      refine Ev.neg h1 ?_
      refine Ev.neg h5 ?_
      refine Ev.neg h6 ?_
      refine Ev.neg h7 ?_
      refine Ev.neg h8 ?_
      refine Ev.pos h9 ?_
      refine Ev.now_bind e ?_
      exact Ev.now _
    · iterate 6 apply Exists.intro
      refine⟨?_,c⟩
      refine Ev.round (fun _=>by rw[spec_l10Op.j0]) ?_
      refine Ev.neg h1 ?_
      refine Ev.neg h5 ?_
      refine Ev.neg h6 ?_
      refine Ev.neg h7 ?_
      refine Ev.neg h8 ?_
      refine Ev.neg h9 ?_
      exact Ev.now _
  unfold spec_l10Op.f
  obtain⟨x,j,g,e,hx,cj⟩:=l1Below_lt b i h 9 (by omega) c
  obtain⟨x2,j2,g2,e2,hx2,cj2⟩:=l1Below_lt b j g 3 (by omega) cj
  obtain⟨x3,j3,g3,e3,cj3⟩:=l1Once_some b j2 g2 3 cj2
  cases x3 with
  | true =>
    obtain⟨y0,y1,y2,y3,j4,g4,ev,c4⟩:=hj j3 g3 1 x2 cj3
    refine⟨y0,y1,y2,y3,j4,g4,?_,c4⟩
    refine Ev.now_bind e ?_
    refine Ev.now_bind e2 ?_
    refine Ev.now_bind e3 ?_
    exact Ev.pos rfl ev
  | false =>
    obtain⟨y0,y1,y2,y3,j4,g4,ev,c4⟩:=hj j3 g3 (wrap64 (1+x)) x2 cj3
    refine⟨y0,y1,y2,y3,j4,g4,?_,c4⟩
    refine Ev.now_bind e ?_
    refine Ev.now_bind e2 ?_
    refine Ev.now_bind e3 ?_
    exact Ev.neg (by simp) ev
theorem l10Draw_ev (b:List Int)(i h:Int)(c:Cur b i):∃ l j g,Ev (fun k=>spec_l10Draw.f k b i h) (l,j,g)∧l.length≤12∧Cur b j:=by
  unfold spec_l10Draw.f
  obtain⟨x,j,g,e,hx,cj⟩:=l1Below_lt b i h 13 (by omega) c
  have key:∀ (d:Nat) (l:List S66) (i h:Int),Cur b i→d+l.length≤12→∃ l' j g,Ev (fun k=>spec_l10Draw.l0 k l (d:Int) b i h) (l',j,g)∧l'.length≤12∧Cur b j:=by
    intro d
    induction d with
    | zero =>
      intro l i h c hl
      refine⟨l,i,h,?_,by omega,c⟩
      refine Ev.round (fun _=>by rw[spec_l10Draw.l0]) ?_
      refine Ev.neg (by omega) ?_
      exact Ev.now _
    | succ d ih =>
      intro l i h c hl
      obtain⟨y0,y1,y2,y3,j,g,ev,cj⟩:=l10Op_ev b i h c
      obtain⟨l',j',g',ev',hl',cj'⟩:=ih (l++[(⟨y0,y1,y2,y3⟩:S66)]) j g cj (by simp;omega)
      refine⟨l',j',g',?_,hl',cj'⟩
      have e1:wrap64 (((d+1:Nat):Int) - 1)=(d:Int):=by rw[w64 (by omega) (by omega)];omega
      refine Ev.round (fun _=>by rw[spec_l10Draw.l0]) ?_
      refine Ev.pos (by omega) ?_
      refine Ev.bind ev ?_
      refine Ev.pos (by omega) ?_
      simp only[e1]
      exact ev'
  obtain⟨l',j',g',ev',hl',cj'⟩:=key x.toNat [] j g cj (by simp;omega)
  refine⟨l',j',g',?_,hl',cj'⟩
  refine Ev.now_bind e ?_
  rw[show(x.toNat:Int)=x by omega] at ev'
  exact ev'
theorem l1Int_some (b:List Int)(i h:Int)(l:List Int)(hl:0 < l.length)(c:Cur b i):∃ x j g,spec_l1Int.f b i h l=some (x,j,g)∧x∈l∧Cur b j:=by
  obtain⟨x,j,g,e,hx,cj⟩:=l1Below_lt b i h (l.length:Int) (by omega) c
  unfold spec_l1Int.f
  rw[e]
  simp only[Option.bind_some]
  rw[if_pos hx.1,if_pos hx.2]
  refine⟨_,_,_,rfl,?_,cj⟩
  exact getD_mem l x.toNat (by omega) 0
theorem l4Raw_some (b:List Int)(i h:Int)(c:Cur b i):∃ x j g,spec_l4Raw.f b i h=some (x,j,g)∧(-9223372036854775808≤x∧x≤9223372036854775807)∧Cur b j:=by
  unfold spec_l4Raw.f
  obtain⟨x,j,g,e,hx,cj⟩:=l1Int_some b i h [-1,0,9,10,99,100,9223372036854775807,-9223372036854775808] (by simp) c
  rw[e]
  refine⟨x,j,g,rfl,?_,cj⟩
  simp only[List.mem_cons,List.not_mem_nil,or_false] at hx
  omega
theorem l10Any_ev (b:List Int)(i h:Int)(c:Cur b i):∃ l j g,Ev (fun k=>spec_l10Any.f k b i h) (l,j,g)∧l.length≤17∧Cur b j:=by
  unfold spec_l10Any.f
  obtain⟨l,j,g,ev,hl,cj⟩:=l10Draw_ev b i h c
  by_cases h0:l.length=0
  · refine⟨l,j,g,?_,by omega,cj⟩
    refine Ev.bind ev ?_
    refine Ev.pos (by simp[h0]) ?_
    exact Ev.now _
  obtain⟨x,j2,g2,e2,hx,cj2⟩:=l1Below_lt b j g (l.length:Int) (by omega) cj
  obtain⟨y,j3,g3,e3,hy,cj3⟩:=l1Below_lt b j2 g2 12 (by omega) cj2
  obtain⟨v1,m1,n1,f1,_,cm1⟩:=l1Int_some b j3 g3 [0,10,5] (by simp) cj3
  obtain⟨v2,m2,n2,f2,_,cm2⟩:=l1Int_some b j3 g3 [-1,3,4] (by simp) cj3
  obtain⟨v3,m3,n3,f3,_,cm3⟩:=l4Raw_some b j3 g3 cj3
  have hne:¬(l.length:Int)=0:=by omega
  by_cases c0:y=0
  · iterate 3 apply Exists.intro
    refine⟨?_,?_,cm1⟩
    · refine Ev.bind ev ?_
      refine Ev.neg hne ?_
      refine Ev.now_bind e2 ?_
      refine Ev.now_bind e3 ?_
      refine Ev.pos c0 ?_
      refine Ev.now_bind f1 ?_
      refine Ev.pos hx.1 ?_
      refine Ev.pos hx.2 ?_
      exact Ev.now _
    · simp;omega
  by_cases c1:y=1
  · iterate 3 apply Exists.intro
    refine⟨?_,?_,cm2⟩
    · refine Ev.bind ev ?_
      refine Ev.neg hne ?_
      refine Ev.now_bind e2 ?_
      refine Ev.now_bind e3 ?_
      refine Ev.neg c0 ?_
      refine Ev.pos c1 ?_
      refine Ev.now_bind f2 ?_
      refine Ev.pos hx.1 ?_
      refine Ev.pos hx.2 ?_
      exact Ev.now _
    · simp;omega
  by_cases c2:y=2
  · iterate 3 apply Exists.intro
    refine⟨?_,?_,cm3⟩
    · refine Ev.bind ev ?_
      refine Ev.neg hne ?_
      refine Ev.now_bind e2 ?_
      refine Ev.now_bind e3 ?_
      refine Ev.neg c0 ?_
      refine Ev.neg c1 ?_
      refine Ev.pos c2 ?_
      refine Ev.now_bind f3 ?_
      refine Ev.pos hx.1 ?_
      refine Ev.pos hx.2 ?_
      exact Ev.now _
    · simp;omega
  by_cases c3:y=3
  · iterate 3 apply Exists.intro
    refine⟨?_,?_,cm3⟩
    · refine Ev.bind ev ?_
      refine Ev.neg hne ?_
      refine Ev.now_bind e2 ?_
      refine Ev.now_bind e3 ?_
      refine Ev.neg c0 ?_
      refine Ev.neg c1 ?_
      refine Ev.neg c2 ?_
      refine Ev.pos c3 ?_
      refine Ev.now_bind f3 ?_
      refine Ev.pos hx.1 ?_
      refine Ev.pos hx.2 ?_
      exact Ev.now _
    · simp;omega
  have key:∀ (d:Nat) (l:List S66),l.length+d=17→∃ l',Ev (fun k=>spec_l10Any.l0 k l b j3 g3) (l',j3,g3)∧l'.length≤17:=by
    intro d
    induction d with
    | zero =>
      intro l hl
      refine⟨l,?_,by omega⟩
      refine Ev.round (fun _=>by rw[spec_l10Any.l0]) ?_
      refine Ev.neg (by omega) ?_
      exact Ev.now _
    | succ d ih =>
      intro l hl
      obtain⟨l',ev',hl'⟩:=ih (l++[(⟨2,0,0,0⟩:S66)]) (by simp;omega)
      refine⟨l',?_,hl'⟩
      refine Ev.round (fun _=>by rw[spec_l10Any.l0]) ?_
      refine Ev.pos (by omega) ?_
      exact Ev.pos (by omega) ev'
  by_cases c4:y=4
  · obtain⟨l',ev',hl'⟩:=key (17 - l.length) l (by omega)
    refine⟨l',j3,g3,?_,hl',cj3⟩
    refine Ev.bind ev ?_
    refine Ev.neg hne ?_
    refine Ev.now_bind e2 ?_
    refine Ev.now_bind e3 ?_
    refine Ev.neg c0 ?_
    refine Ev.neg c1 ?_
    refine Ev.neg c2 ?_
    refine Ev.neg c3 ?_
    exact Ev.pos c4 ev'
  · refine⟨l,j3,g3,?_,by omega,cj3⟩
    refine Ev.bind ev ?_
    refine Ev.neg hne ?_
    refine Ev.now_bind e2 ?_
    refine Ev.now_bind e3 ?_
    refine Ev.neg c0 ?_
    refine Ev.neg c1 ?_
    refine Ev.neg c2 ?_
    refine Ev.neg c3 ?_
    refine Ev.neg c4 ?_
    exact Ev.now _
theorem a10Any (b:List Int)(i h:Int)(c:Cur b i):Any (fun k=>spec_l10Any.f k b i h) (fun x=>x.1.length≤17∧Cur b x.2.1):=by
  obtain⟨l,j,g,e,hl,cj⟩:=l10Any_ev b i h c
  exact⟨_,e,hl,cj⟩
theorem aBelow (b:List Int)(i h n:Int)(hn:0 < n)(c:Cur b i):∃ x,spec_l1Below.f b i h n=some x∧((0≤x.1∧x.1 < n)∧Cur b x.2.1):=by
  obtain⟨x,j,g,e,hx,cj⟩:=l1Below_lt b i h n hn c
  exact⟨(x,j,g),e,hx,cj⟩
theorem l4Draw_some (b:List Int)(i h:Int)(c:Cur b i):∃ x y z j g,spec_l4Draw.f b i h=some (x,y,z,j,g)∧(1≤x∧x≤3∧0≤y∧y≤2∧0≤z∧z≤2)∧Cur b j:=by
  obtain⟨x,j,g,e,hx,cj⟩:=l1Below_lt b i h 3 (by omega) c
  obtain⟨y,j2,g2,e2,hy,cj2⟩:=l1Below_lt b j g 3 (by omega) cj
  obtain⟨z,j3,g3,e3,hz,cj3⟩:=l1Below_lt b j2 g2 3 (by omega) cj2
  have ew:wrap64 (1+x)=1+x:=w64 (by omega) (by omega)
  refine⟨1+x,y,z,j3,g3,?_,by omega,cj3⟩
  unfold spec_l4Draw.f
  rw[e,Option.bind_some]
  dsimp only
  rw[e2,Option.bind_some]
  dsimp only
  rw[e3,Option.bind_some]
  dsimp only
  rw[ew]
theorem l5Body_ev (b:List Int)(i h:Int)(c:Cur b i):∃ l j g,Ev (fun k=>spec_l5Body.f k b i h) (l,j,g)∧l.length≤4∧Cur b j:=by
  obtain⟨n,j,g,e,hn,cj⟩:=l1Below_lt b i h 5 (by omega) c
  have key:∀ (d:Nat) (l:List Int) (i h:Int),Cur b i→l.length+d≤4→∃ l' j g,Ev (fun k=>spec_l5Body.l0 k l (d:Int) b i h) (l',j,g)∧l'.length≤4∧Cur b j:=by
    intro d
    induction d with
    | zero =>
      intro l i h c hl
      refine⟨l,i,h,?_,by omega,c⟩
      refine Ev.round (fun _=>by rw[spec_l5Body.l0]) ?_
      exact Ev.neg (by omega) (Ev.now _)
    | succ d ih =>
      intro l i h c hl
      obtain⟨x,j,g,e,hx,cj⟩:=l1Below_lt b i h 9 (by omega) c
      have e1:wrap64 (((d+1:Nat):Int) - 1)=(d:Int):=by rw[w64 (by omega) (by omega)];omega
      obtain⟨l',j',g',ev,hl',cj'⟩:=ih (l++[x]) j g cj (by rw[List.length_append,List.length_singleton];omega)
      refine⟨l',j',g',?_,hl',cj'⟩
      refine Ev.round (fun _=>by rw[spec_l5Body.l0]) ?_
      refine Ev.pos (by omega) ?_
      refine Ev.now_bind e ?_
      refine Ev.pos (by omega) ?_
      simp only[e1]
      exact ev
  obtain⟨l,j',g',ev,hl,cj'⟩:=key n.toNat [] j g cj (by simp;omega)
  refine⟨l,j',g',?_,hl,cj'⟩
  unfold spec_l5Body.f
  refine Ev.now_bind e ?_
  have en:((n.toNat:Nat):Int)=n:=by omega
  rw[en] at ev
  exact ev
theorem l5Draw_ev (b:List Int)(i h:Int)(c:Cur b i):∃ k0 l x y z j g,Ev (fun k=>spec_l5Draw.f k b i h) (k0,l,x,y,z,j,g)∧l.length≤4∧Cur b j:=by
  obtain⟨n,j,g,e,hn,cj⟩:=l1Below_lt b i h 6 (by omega) c
  unfold spec_l5Draw.f
  by_cases h0:n=0
  · obtain⟨x,y,z,j2,g2,e2,_,cj2⟩:=l4Draw_some b j g cj
    refine⟨3,[],x,y,z,j2,g2,?_,by simp,cj2⟩
    refine Ev.now_bind e ?_
    refine Ev.pos h0 ?_
    refine Ev.now_bind e2 ?_
    exact Ev.now _
  · by_cases h1:n=1
    · refine⟨4,[],0,0,0,j,g,?_,by simp,cj⟩
      refine Ev.now_bind e ?_
      refine Ev.neg h0 ?_
      refine Ev.pos h1 ?_
      exact Ev.now _
    · obtain⟨x,j2,g2,e2,hx,cj2⟩:=l1Below_lt b j g 2 (by omega) cj
      obtain⟨l,j3,g3,ev,hl,cj3⟩:=l5Body_ev b j2 g2 cj2
      refine⟨wrap64 (1+x),l,0,0,0,j3,g3,?_,hl,cj3⟩
      refine Ev.now_bind e ?_
      refine Ev.neg h0 ?_
      refine Ev.neg h1 ?_
      refine Ev.now_bind e2 ?_
      refine Ev.bind ev ?_
      exact Ev.now _
def DrawnV (y:S96):Prop:=FitimplVersion y∧0≤y.f1∧y.f1≤11
theorem l9Draw_ev (b:List Int)(i h:Int)(c:Cur b i):∃ l j g,Ev (fun k=>spec_l9Draw.f k b i h) (l,j,g)∧l.length≤8∧(∀ y∈l,DrawnV y)∧Cur b j:=by
  obtain⟨n,j,g,e,hn,cj⟩:=l1Below_lt b i h 9 (by omega) c
  have key:∀ (d:Nat) (l:List S96) (i h:Int),Cur b i→l.length+d≤8→(∀ y∈l,DrawnV y)→∃ l' j g,Ev (fun k=>spec_l9Draw.l0 k l (d:Int) b i h) (l',j,g)∧l'.length≤8∧(∀ y∈l',DrawnV y)∧Cur b j:=by
    intro d
    induction d with
    | zero =>
      intro l i h c hl hd
      refine⟨l,i,h,?_,by omega,hd,c⟩
      refine Ev.round (fun _=>by rw[spec_l9Draw.l0]) ?_
      exact Ev.neg (by omega) (Ev.now _)
    | succ d ih =>
      intro l i h c hl hd
      obtain⟨a,p,q,j,g,e,_,cj⟩:=l4Draw_some b i h c
      obtain⟨t,j2,g2,e2,ht,cj2⟩:=l1Below_lt b j g 12 (by omega) cj
      obtain⟨k0,bd,x,y,z,j3,g3,ev,hbd,cj3⟩:=l5Draw_ev b j2 g2 cj2
      have e1:wrap64 (((d+1:Nat):Int) - 1)=(d:Int):=by rw[w64 (by omega) (by omega)];omega
      obtain⟨l',j',g',ev',hl',hd',cj'⟩:=ih (l++[⟨⟨a,p,q⟩,t,⟨k0,bd,⟨x,y,z⟩⟩⟩]) j3 g3 cj3 (by rw[List.length_append,List.length_singleton];omega) (by
        intro y hy
        rcases List.mem_append.1 hy with hy | hy
        · exact hd y hy
        · rw[List.mem_singleton] at hy
          rw[hy]
          refine⟨?_,ht.1,?_⟩
          · show bd.length≤1048576
            omega
          · show t≤11
            omega)
      refine⟨l',j',g',?_,hl',hd',cj'⟩
      refine Ev.round (fun _=>by rw[spec_l9Draw.l0]) ?_
      refine Ev.pos (by omega) ?_
      refine Ev.now_bind e ?_
      refine Ev.now_bind e2 ?_
      refine Ev.bind ev ?_
      refine Ev.pos (by omega) ?_
      simp only[e1]
      exact ev'
  obtain⟨l,j',g',ev,hl,hd,cj'⟩:=key n.toNat [] j g cj (by simp;omega) (by simp)
  refine⟨l,j',g',?_,hl,hd,cj'⟩
  unfold spec_l9Draw.f
  refine Ev.now_bind e ?_
  have en:((n.toNat:Nat):Int)=n:=by omega
  rw[en] at ev
  exact ev
theorem a9Draw (b:List Int)(i h:Int)(c:Cur b i):Any (fun k=>spec_l9Draw.f k b i h) (fun x=>x.1.length≤8∧(∀ y∈x.1,FitimplVersion y)∧Cur b x.2.1):=by
  obtain⟨l,j,g,e,hl,hd,cj⟩:=l9Draw_ev b i h c
  exact⟨_,e,hl,fun y hy=>(hd y hy).1,cj⟩
/-- What a visit is drawn as: a short site, and few inputs. -/
def VisitOk (b:List Int)(x:List S96×Int×Int×List Int×Int×Int):Prop:=x.1.length≤8∧(∀ y∈x.1,FitimplVersion y)∧x.2.2.2.1.length≤9∧Cur b x.2.2.2.2.1
theorem a12Draw (b:List Int)(i h:Int)(c:Cur b i):Any (fun k=>spec_l12Draw.f k b i h) (fun x=>VisitOk b x∧x.2.2.2.1.length≤3∧(0≤x.2.1∧x.2.1≤11)):=by
  unfold spec_l12Draw.f
  refine Any.bind (a9Draw b i h c) ?_
  intro x hx
  refine Any.opt (aBelow b _ _ 12 (by omega) hx.2.2) ?_
  intro t ht
  refine Any.opt (aBelow b _ _ 50 (by omega) ht.2) ?_
  intro s hs
  refine Any.opt (aBelow b _ _ 4 (by omega) hs.2) ?_
  intro n hn
  have key:∀ (d:Nat) (l:List Int) (i h:Int),Cur b i→l.length+d≤3→Any (fun k=>spec_l12Draw.l0 k (d:Int) b i h x.1 t.1 s.1 l) (fun x=>VisitOk b x∧x.2.2.2.1.length≤3∧(0≤x.2.1∧x.2.1≤11)):=by
    intro d
    induction d with
    | zero =>
      intro l i h c hl
      refine Any.round (fun _=>by rw[spec_l12Draw.l0]) ?_
      refine Any.neg (by omega) (Any.now ⟨⟨hx.1,hx.2.1,?_,c⟩,?_,ht.1.1,?_⟩)
      · dsimp only;omega
      · dsimp only;omega
      · dsimp only;omega
    | succ d ih =>
      intro l i h c hl
      have e1:wrap64 (((d+1:Nat):Int) - 1)=(d:Int):=by rw[w64 (by omega) (by omega)];omega
      refine Any.round (fun _=>by rw[spec_l12Draw.l0]) ?_
      refine Any.pos (by omega) ?_
      refine Any.opt (aBelow b _ _ 9 (by omega) c) ?_
      intro v hv
      refine Any.pos (by omega) ?_
      simp only[e1]
      exact ih _ _ _ hv.2 (by rw[List.length_append,List.length_singleton];omega)
  have h:=key n.1.toNat [] n.2.1 n.2.2 hn.2 (by rw[List.length_nil];omega)
  have en:((n.1.toNat:Nat):Int)=n.1:=by omega
  rw[en] at h
  exact h
theorem l4Any_some (b:List Int)(i h:Int)(c:Cur b i):∃ x y z j g,spec_l4Any.f b i h=some (x,y,z,j,g)∧Cur b j:=by
  obtain⟨x,y,z,j,g,e,_,cj⟩:=l4Draw_some b i h c
  obtain⟨n,j2,g2,e2,hn,cj2⟩:=l1Below_lt b j g 9 (by omega) cj
  obtain⟨v,j3,g3,e3,_,cj3⟩:=l4Raw_some b j2 g2 cj2
  unfold spec_l4Any.f
  rw[e,Option.bind_some]
  dsimp only
  rw[e2,Option.bind_some]
  dsimp only
  rw[e3,Option.bind_some,Option.bind_some,Option.bind_some]
  dsimp only
  by_cases h0:n=0
  · rw[if_pos h0]
    exact⟨_,_,_,_,_,rfl,cj3⟩
  · rw[if_neg h0]
    by_cases h1:n=1
    · rw[if_pos h1]
      exact⟨_,_,_,_,_,rfl,cj3⟩
    · rw[if_neg h1]
      by_cases h2:n=2
      · rw[if_pos h2]
        exact⟨_,_,_,_,_,rfl,cj3⟩
      · rw[if_neg h2]
        exact⟨_,_,_,_,_,rfl,cj2⟩
theorem a4Any (b:List Int)(i h:Int)(c:Cur b i):∃ x,spec_l4Any.f b i h=some x∧Cur b x.2.2.2.1:=by
  obtain⟨x,y,z,j,g,e,cj⟩:=l4Any_some b i h c
  exact⟨(x,y,z,j,g),e,cj⟩
theorem aInt (b:List Int)(i h:Int)(l:List Int)(hl:0 < l.length)(c:Cur b i):∃ x,spec_l1Int.f b i h l=some x∧(x.1∈l∧Cur b x.2.1):=by
  obtain⟨x,j,g,e,hx,cj⟩:=l1Int_some b i h l hl c
  exact⟨(x,j,g),e,hx,cj⟩
theorem l5Any_ev (b:List Int)(i h:Int)(c:Cur b i):∃ k0 l x y z j g,Ev (fun k=>spec_l5Any.f k b i h) (k0,l,x,y,z,j,g)∧l.length≤7∧Cur b j:=by
  obtain⟨k0,l,x,y,z,j,g,ev,hl,cj⟩:=l5Draw_ev b i h c
  obtain⟨n,j2,g2,e2,hn,cj2⟩:=l1Below_lt b j g 9 (by omega) cj
  unfold spec_l5Any.f
  by_cases h0:n=0
  · obtain⟨v,j3,g3,e3,_,cj3⟩:=l1Int_some b j2 g2 [0,5,3,4] (by simp) cj2
    exact⟨_,_,_,_,_,_,_,Ev.bind ev (Ev.now_bind e2 (Ev.pos h0 (Ev.now_bind e3 (Ev.now _)))),by dsimp only;omega,cj3⟩
  · by_cases h1:n=1
    · obtain⟨v,j3,g3,e3,_,cj3⟩:=l1Int_some b j2 g2 [(-1),255,256] (by simp) cj2
      exact⟨_,_,_,_,_,_,_,Ev.bind ev (Ev.now_bind e2 (Ev.neg h0 (Ev.pos h1 (Ev.now_bind e3 (Ev.pos (by dsimp only;omega) (Ev.now _)))))),by rw[List.length_append,List.length_singleton];dsimp only;omega,cj3⟩
    · by_cases h2:n=2
      · exact⟨_,_,_,_,_,_,_,Ev.bind ev (Ev.now_bind e2 (Ev.neg h0 (Ev.neg h1 (Ev.pos h2 (Ev.now _))))),by simp,cj2⟩
      · by_cases h3:n=3
        · obtain⟨x3,y3,z3,j3,g3,e3,cj3⟩:=l4Any_some b j2 g2 cj2
          exact⟨_,_,_,_,_,_,_,Ev.bind ev (Ev.now_bind e2 (Ev.neg h0 (Ev.neg h1 (Ev.neg h2 (Ev.pos h3 (Ev.now_bind e3 (Ev.now _))))))),by dsimp only;omega,cj3⟩
        · exact⟨_,_,_,_,_,_,_,Ev.bind ev (Ev.now_bind e2 (Ev.neg h0 (Ev.neg h1 (Ev.neg h2 (Ev.neg h3 (Ev.now _)))))),by dsimp only;omega,cj2⟩
theorem a5Any (b:List Int)(i h:Int)(c:Cur b i):Any (fun k=>spec_l5Any.f k b i h) (fun x=>x.2.1.length≤7∧Cur b x.2.2.2.2.2.1):=by
  obtain⟨k0,l,x,y,z,j,g,e,hl,cj⟩:=l5Any_ev b i h c
  exact⟨_,e,hl,cj⟩
theorem setV {l:List S96}(h:∀ y∈l,FitimplVersion y)(i:Nat){x:S96}(hx:x.f2.f1.length≤1048576):∀ y∈l.set i x,FitimplVersion y:=by
  intro y hy
  rcases List.mem_or_eq_of_mem_set hy with h1 | h1
  · exact h y h1
  · rw[h1]
    exact hx
theorem rdV {l:List S96}(h:∀ y∈l,FitimplVersion y)(i:Int)(h0:0≤i)(h1:i < (l.length:Int)):(rd_T96 l i).f2.f1.length≤1048576:=h _ (getD_mem l i.toNat (by omega) z96)
theorem a9Any (b:List Int)(i h:Int)(c:Cur b i):Any (fun k=>spec_l9Any.f k b i h) (fun x=>x.1.length≤8∧(∀ y∈x.1,FitimplVersion y)∧Cur b x.2.1):=by
  unfold spec_l9Any.f
  refine Any.bind (a9Draw b i h c) ?_
  intro x hx
  refine Any.ite (fun _=>Any.now hx) (fun hne=>?_)
  refine Any.opt (aBelow b _ _ _ (by omega) hx.2.2) ?_
  intro y hy
  refine Any.opt (aBelow b _ _ 9 (by omega) hy.2) ?_
  intro z hz
  have hr:=rdV hx.2.1 y.1 hy.1.1 hy.1.2
  refine Any.ite (fun _=>?_) (fun _=>?_)
  · refine Any.opt (a4Any b _ _ hz.2) ?_
    intro v hv
    exact Any.pos hy.1.1 (Any.pos hy.1.2 (Any.now ⟨by rw[List.length_set];exact hx.1,setV hx.2.1 _ hr,hv⟩))
  refine Any.ite (fun _=>?_) (fun _=>?_)
  · refine Any.opt (aInt b _ _ _ (by simp) hz.2) ?_
    intro v hv
    exact Any.pos hy.1.1 (Any.pos hy.1.2 (Any.now ⟨by rw[List.length_set];exact hx.1,setV hx.2.1 _ hr,hv.2⟩))
  refine Any.ite (fun _=>?_) (fun _=>?_)
  · refine Any.bind (a5Any b _ _ hz.2) ?_
    intro v hv
    exact Any.pos hy.1.1 (Any.pos hy.1.2 (Any.now ⟨by rw[List.length_set];exact hx.1,setV hx.2.1 _ (Nat.le_trans hv.1 (by omega)),hv.2⟩))
  · exact Any.now ⟨hx.1,hx.2.1,hz.2⟩
theorem a12Any (b:List Int)(i h:Int)(c:Cur b i):Any (fun k=>spec_l12Any.f k b i h) (VisitOk b):=by
  unfold spec_l12Any.f
  refine Any.bind (a12Draw b i h c) ?_
  intro x hx
  obtain⟨⟨q1,q2,q3,q4⟩,q5,_⟩:=hx
  refine Any.opt (aBelow b _ _ 9 (by omega) q4) ?_
  intro y hy
  refine Any.ite (fun _=>?_) (fun _=>?_)
  · refine Any.opt (aInt b _ _ _ (by simp) hy.2) ?_
    intro v hv
    exact Any.now ⟨q1,q2,q3,hv.2⟩
  refine Any.ite (fun _=>?_) (fun _=>?_)
  · refine Any.opt (aInt b _ _ _ (by simp) hy.2) ?_
    intro v hv
    exact Any.now ⟨q1,q2,q3,hv.2⟩
  refine Any.ite (fun _=>?_) (fun _=>?_)
  · refine Any.opt (aInt b _ _ _ (by simp) hy.2) ?_
    intro v hv
    exact Any.pos (by omega) (Any.now ⟨q1,q2,by rw[List.length_append,List.length_singleton];omega,hv.2⟩)
  refine Any.ite (fun _=>?_) (fun _=>?_)
  · refine Any.bind (a9Any b _ _ hy.2) ?_
    intro v hv
    exact Any.now ⟨hv.1,hv.2.1,q3,hv.2.2⟩
  refine Any.ite (fun _=>?_) (fun _=>?_)
  · have key:∀ (d:Nat) (l:List Int),l.length+d=9→Any (fun k=>spec_l12Any.l0 k b y.2.1 y.2.2 x.1 x.2.1 x.2.2.1 l) (VisitOk b):=by
      intro d
      induction d with
      | zero =>
        intro l hl
        refine Any.round (fun _=>by rw[spec_l12Any.l0]) ?_
        refine Any.neg (by omega) (Any.now ⟨q1,q2,?_,hy.2⟩)
        dsimp only
        omega
      | succ d ih =>
        intro l hl
        refine Any.round (fun _=>by rw[spec_l12Any.l0]) ?_
        refine Any.pos (by omega) ?_
        refine Any.pos (by omega) ?_
        exact ih _ (by rw[List.length_append,List.length_singleton];omega)
    exact key (9 - x.2.2.2.1.length) x.2.2.2.1 (by omega)
  · exact Any.now ⟨q1,q2,q3,hy.2⟩
def pOp (y:S66):Bool :=
  pIn y.f1 0 3 && (
    if y.f0=1 then pIn y.f2 1 9 && pIn y.f3 0 99
    else if y.f0=2∨y.f0=3∨y.f0=4 then decide (y.f2=0) && (y.f3 == 0)
    else if y.f0=5 then pIn y.f2 0 3 && pIn y.f3 0 3
    else if y.f0=6 then pIn y.f2 0 3 && (y.f3 == 0)
    else if y.f0=7 then pIn y.f2 1 3 && (y.f3 == 0)
    else if y.f0=8 then pIn y.f2 0 2 && (y.f3 == 0)
    else if y.f0=9 then pIn y.f2 0 2 && (y.f3 == 0)
    else false)
def pScript (l:List S66):Bool:=l.all pOp && decide ((l.length:Int)≤16)
theorem not_any {α:Type}(l:List α)(p:α→Bool):(!(l.any fun y=>!p y))=l.all p:=by
  rw[List.all_eq_not_any_not]
def pState (a:Int)(r s n:List Int):Bool :=
  pIn a 0 19 && ((r.all (pIn · 0 999) && ((r.length:Int) == 4)) && ((s.all (pIn · 0 999) && ((s.length:Int) == 3)) && (n.all (pIn · 0 999) && ((n.length:Int) == 4))))
def pCan (l:List S66)(a:Int)(r s n:List Int):Bool:=pScript l && (pState a r s n && decide (a < (l.length:Int)))
theorem pCan_facts {l:List S66}{a:Int}{r s n:List Int}(h:pCan l a r s n=true):0≤a∧a < (l.length:Int)∧r.length=4∧s.length=3∧n.length=4∧(∀ y∈r,0≤y∧y≤999)∧(∀ y∈s,0≤y∧y≤999)∧(∀ y∈n,0≤y∧y≤999)∧(∀ y∈l,pOp y=true)∧a≤19∧l.length≤16:=by
  unfold pCan pScript pState at h
  simp only[pIn,Bool.and_eq_true,decide_eq_true_eq,List.all_eq_true,beq_iff_eq] at h
  obtain⟨⟨h1,h2⟩,⟨⟨h3,h3'⟩,⟨h4,h5⟩,⟨h6,h7⟩,h8,h9⟩,h10⟩:=h
  exact⟨h3,h10,by omega,by omega,by omega,h4,h6,h8,h1,h3',by omega⟩
theorem pOp_reg {y:S66}(h:pOp y=true):0≤y.f1∧y.f1≤3:=by
  unfold pOp at h
  simp only[pIn,Bool.and_eq_true,decide_eq_true_eq] at h
  exact h.1
def pClamp (v:Int):Int:=mx 0 (mn 999 v)
theorem pClamp_in (v:Int):0≤pClamp v∧pClamp v≤999:=by
  unfold pClamp mx mn
  constructor <;> (split <;> split <;> omega)
theorem pClamp_impl (v:Int):mn (mx v 0) 999=pClamp v:=by
  unfold pClamp mx mn
  split <;> split <;> split <;> (try split) <;> omega
def pStep (l:List S66)(a:Int)(r s n:List Int)(v:Int):Int×List Int×List Int×List Int :=
  if pCan l a r s n=true then(
    if (rd_T66 l a).f0=5 then(wrap64 (a+1),r.set (rd_T66 l a).f1.toNat (Int.tmod (wrap64 (rd r (rd_T66 l a).f2+rd r (rd_T66 l a).f3)) 1000),s,n)
    else if (rd_T66 l a).f0=6 then(wrap64 (a+1),r,s,n.set (rd_T66 l a).f2.toNat (rd r (rd_T66 l a).f1))
    else if (rd_T66 l a).f0=7 then(if Int.tmod (rd r (rd_T66 l a).f1) 2=0 then(wrap64 (wrap64 (a+1)+(rd_T66 l a).f2),r,s,n) else(wrap64 (a+1),r,s,n))
    else if (rd_T66 l a).f0=8 then(wrap64 (a+1),r.set (rd_T66 l a).f1.toNat (rd s (rd_T66 l a).f2),s,n)
    else if (rd_T66 l a).f0=9 then(wrap64 (a+1),r,s.set (rd_T66 l a).f2.toNat (rd r (rd_T66 l a).f1),n)
    else(wrap64 (a+1),r.set (rd_T66 l a).f1.toNat (pClamp v),s,n)) else(a,r,s,n)
theorem pStep_len (l:List S66)(a:Int)(r s n:List Int)(v:Int):(pStep l a r s n v).2.1.length=r.length∧(pStep l a r s n v).2.2.1.length=s.length∧(pStep l a r s n v).2.2.2.length=n.length:=by
  unfold pStep
  repeat' split
  all_goals simp only[List.length_set,and_self]
theorem pOp_5 {y:S66}(h:pOp y=true)(c:y.f0=5):0≤y.f2∧y.f2≤3∧0≤y.f3∧y.f3≤3:=by
  unfold pOp at h
  rw[if_neg (by omega),if_neg (by omega),if_pos c] at h
  simp only[pIn,Bool.and_eq_true,decide_eq_true_eq] at h
  omega
theorem pOp_6 {y:S66}(h:pOp y=true)(c:y.f0=6):0≤y.f2∧y.f2≤3:=by
  unfold pOp at h
  rw[if_neg (by omega),if_neg (by omega),if_neg (by omega),if_pos c] at h
  simp only[pIn,Bool.and_eq_true,decide_eq_true_eq] at h
  omega
theorem pOp_7 {y:S66}(h:pOp y=true)(c:y.f0=7):1≤y.f2∧y.f2≤3:=by
  unfold pOp at h
  rw[if_neg (by omega),if_neg (by omega),if_neg (by omega),if_neg (by omega),if_pos c] at h
  simp only[pIn,Bool.and_eq_true,decide_eq_true_eq] at h
  omega
theorem pOp_8 {y:S66}(h:pOp y=true)(c:y.f0=8):0≤y.f2∧y.f2≤2:=by
  unfold pOp at h
  rw[if_neg (by omega),if_neg (by omega),if_neg (by omega),if_neg (by omega),if_neg (by omega),if_pos c] at h
  simp only[pIn,Bool.and_eq_true,decide_eq_true_eq] at h
  omega
theorem pOp_9 {y:S66}(h:pOp y=true)(c:y.f0=9):0≤y.f2∧y.f2≤2:=by
  unfold pOp at h
  rw[if_neg (by omega),if_neg (by omega),if_neg (by omega),if_neg (by omega),if_neg (by omega),if_neg (by omega),if_pos c] at h
  simp only[pIn,Bool.and_eq_true,decide_eq_true_eq] at h
  omega
def pAsks (k:Int):Bool:=decide (1≤k) && decide (k≤4)
def pWant (l:List S66)(a:Int)(r s n:List Int):Int×Int×Int×Int :=
  if pCan l a r s n=true∧pAsks (rd_T66 l a).f0=true then(if (rd_T66 l a).f0=1 then((rd_T66 l a).f0,(rd_T66 l a).f2,(rd_T66 l a).f3,Int.tmod (rd r (rd_T66 l a).f1) 100) else((rd_T66 l a).f0,0,0,0)) else(0,0,0,0)
theorem pOp_kind {y:S66}(h:pOp y=true):1≤y.f0∧y.f0≤9:=by
  unfold pOp at h
  simp only[Bool.and_eq_true] at h
  have h2:=h.2
  by_cases h1:y.f0=1
  · omega
  rw[if_neg h1] at h2
  by_cases h2':y.f0=2∨y.f0=3∨y.f0=4
  · omega
  rw[if_neg h2'] at h2
  by_cases h5:y.f0=5
  · omega
  rw[if_neg h5] at h2
  by_cases h6:y.f0=6
  · omega
  rw[if_neg h6] at h2
  by_cases h7:y.f0=7
  · omega
  rw[if_neg h7] at h2
  by_cases h8:y.f0=8
  · omega
  rw[if_neg h8] at h2
  by_cases h9:y.f0=9
  · omega
  rw[if_neg h9] at h2
  simp at h2
theorem rd_in {l:List Int}(h:∀ y∈l,0≤y∧y≤999)(i:Int):0≤rd l i∧rd l i≤999:=by
  unfold rd
  rw[List.getD_eq_getElem?_getD]
  cases e:l[i.toNat]? with
  | none=>simp
  | some y=>exact h y (List.mem_of_getElem? e)
theorem Ev.ite_to {α:Type}{c:Prop} [Decidable c] {A B:Nat→Option α}{r:α}(k:c→Ev A r)(l:¬c→Ev B r):Ev (fun n=>if c then A n else B n) r:=by
  by_cases h:c
  · exact Ev.pos h (k h)
  · exact Ev.neg h (l h)
theorem set_in {l:List Int}(h:∀ y∈l,0≤y∧y≤999)(i:Nat){x:Int}(hx:0≤x∧x≤999):∀ y∈l.set i x,0≤y∧y≤999:=by
  intro y hy
  rcases List.mem_or_eq_of_mem_set hy with h1 | h1
  · exact h y h1
  · omega
theorem tmod_in (m:Int)(h:0≤m):0≤Int.tmod m 1000∧Int.tmod m 1000≤999:=by
  rw[Int.tmod_eq_emod_of_nonneg h]
  omega
theorem pState_mk {a:Int}{r s n:List Int}(ha:0≤a∧a≤19)(h1:r.length=4)(h2:s.length=3)(h3:n.length=4)(k1:∀ y∈r,0≤y∧y≤999)(k2:∀ y∈s,0≤y∧y≤999)(k3:∀ y∈n,0≤y∧y≤999):pState a r s n=true:=by
  unfold pState
  simp only[pIn,Bool.and_eq_true,decide_eq_true_eq,List.all_eq_true,beq_iff_eq]
  exact⟨ha,⟨k1,by omega⟩,⟨k2,by omega⟩,k3,by omega⟩
theorem pStep_ok (l:List S66)(a:Int)(r s n:List Int)(v:Int)(hc:pCan l a r s n=true):pState (pStep l a r s n v).1 (pStep l a r s n v).2.1 (pStep l a r s n v).2.2.1 (pStep l a r s n v).2.2.2=true∧a < (pStep l a r s n v).1∧(pStep l a r s n v).1≤a+4:=by
  obtain⟨f1,f2,f3,f4,f5,f6,f7,f8,f9,f10,f11⟩:=pCan_facts hc
  have ho:pOp (rd_T66 l a)=true:=f9 _ (getD_mem l a.toNat (by omega) z66)
  have ew:wrap64 (a+1)=a+1:=w64 (by omega) (by omega)
  unfold pStep
  rw[if_pos hc]
  generalize rd_T66 l a=y at ho
  by_cases c5:y.f0=5
  · rw[if_pos c5,ew]
    have g1:=rd_in f6 y.f2
    have g2:=rd_in f6 y.f3
    refine⟨pState_mk (by dsimp only;omega) (by simpa using f3) f4 f5 (set_in f6 _ (tmod_in _ ?_)) f7 f8,by dsimp only;omega,by dsimp only;omega⟩
    rw[w64 (by omega) (by omega)]
    omega
  rw[if_neg c5]
  by_cases c6:y.f0=6
  · rw[if_pos c6,ew]
    exact⟨pState_mk (by dsimp only;omega) f3 f4 (by simpa using f5) f6 f7 (set_in f8 _ (rd_in f6 _)),by dsimp only;omega,by dsimp only;omega⟩
  rw[if_neg c6]
  by_cases c7:y.f0=7
  · have g:=pOp_7 ho c7
    rw[if_pos c7,ew]
    by_cases c:Int.tmod (rd r y.f1) 2=0
    · rw[if_pos c,w64 (by omega) (by omega)]
      exact⟨pState_mk (by dsimp only;omega) f3 f4 f5 f6 f7 f8,by dsimp only;omega,by dsimp only;omega⟩
    · rw[if_neg c]
      exact⟨pState_mk (by dsimp only;omega) f3 f4 f5 f6 f7 f8,by dsimp only;omega,by dsimp only;omega⟩
  rw[if_neg c7]
  by_cases c8:y.f0=8
  · rw[if_pos c8,ew]
    exact⟨pState_mk (by dsimp only;omega) (by simpa using f3) f4 f5 (set_in f6 _ (rd_in f7 _)) f7 f8,by dsimp only;omega,by dsimp only;omega⟩
  rw[if_neg c8]
  by_cases c9:y.f0=9
  · rw[if_pos c9,ew]
    exact⟨pState_mk (by dsimp only;omega) f3 (by simpa using f4) f5 f6 (set_in f7 _ (rd_in f6 _)) f8,by dsimp only;omega,by dsimp only;omega⟩
  rw[if_neg c9,ew]
  exact⟨pState_mk (by dsimp only;omega) (by simpa using f3) f4 f5 (set_in f6 _ (pClamp_in v)) f7 f8,by dsimp only;omega,by dsimp only;omega⟩
theorem pWant_ok (l:List S66)(a:Int)(r s n:List Int)(hc:pCan l a r s n=true)(h:0 < (pWant l a r s n).1):pAsks (pWant l a r s n).1=true∧((pWant l a r s n).1=1→pAddr (pWant l a r s n).2.1 (pWant l a r s n).2.2.1 (pWant l a r s n).2.2.2=true):=by
  obtain⟨f1,f2,f3,f4,f5,f6,f7,f8,f9,f10,f11⟩:=pCan_facts hc
  have ho:pOp (rd_T66 l a)=true:=f9 _ (getD_mem l a.toNat (by omega) z66)
  unfold pWant at h ⊢
  generalize rd_T66 l a=y at ho h ⊢
  by_cases c:pCan l a r s n=true∧pAsks y.f0=true
  · rw[if_pos c] at h ⊢
    by_cases c1:y.f0=1
    · rw[if_pos c1] at h ⊢
      refine⟨c.2,fun _=>?_⟩
      have g:=rd_in f6 y.f1
      have hg:0≤Int.tmod (rd r y.f1) 100∧Int.tmod (rd r y.f1) 100≤99:=by
        rw[Int.tmod_eq_emod_of_nonneg g.1]
        omega
      unfold pOp at ho
      rw[if_pos c1] at ho
      unfold pAddr
      simp only[pIn,Bool.and_eq_true,decide_eq_true_eq] at ho ⊢
      exact⟨ho.2.1,ho.2.2,hg⟩
    · rw[if_neg c1] at h ⊢
      exact⟨c.2,fun e=>absurd e c1⟩
  · rw[if_neg c] at h
    exact absurd h (by simp)
theorem pStep_one (l:List S66)(a:Int)(r s n:List Int)(v u:Int)(h:(pWant l a r s n).1=0):pStep l a r s n v=pStep l a r s n u:=by
  by_cases hc:pCan l a r s n=true
  · obtain⟨f1,f2,f3,f4,f5,f6,f7,f8,f9,f10,f11⟩:=pCan_facts hc
    have ho:pOp (rd_T66 l a)=true:=f9 _ (getD_mem l a.toNat (by omega) z66)
    unfold pWant at h
    unfold pStep
    rw[if_pos hc,if_pos hc]
    generalize rd_T66 l a=y at ho h ⊢
    have hk:¬(1≤y.f0∧y.f0≤4):=by
      intro hk
      have e:pAsks y.f0=true:=by unfold pAsks;simp;omega
      rw[if_pos ⟨hc,e⟩] at h
      split at h
      · dsimp only at h;omega
      · dsimp only at h;omega
    have hkind:1≤y.f0∧y.f0≤9:=pOp_kind ho
    repeat' split
    all_goals first|rfl | omega
  · unfold pStep
    rw[if_neg hc,if_neg hc]
def z0:Int×List Int×List Int×List Int:=(0,[0,0,0,0],[0,0,0],[0,0,0,0])
theorem pWant_nn (l:List S66)(a:Int)(r s n:List Int)(hc:pCan l a r s n=true):0≤(pWant l a r s n).1:=by
  unfold pWant
  split
  · rename_i c
    have:=c.2
    unfold pAsks at this
    simp only[Bool.and_eq_true,decide_eq_true_eq] at this
    split <;> (dsimp only;omega)
  · simp
theorem pScript_len {l:List S66}(h:pScript l=true):l.length≤16:=by
  unfold pScript at h
  simp only[Bool.and_eq_true,decide_eq_true_eq] at h
  omega
def StOk (z:Int×List Int×List Int×List Int):Prop:=pState z.1 z.2.1 z.2.2.1 z.2.2.2=true
theorem z0_ok:StOk z0:=by unfold StOk;decide
theorem can_of {l:List S66}(hs:pScript l=true){z:Int×List Int×List Int×List Int}(hz:StOk z)(h:¬(l.length:Int)≤z.1):pCan l z.1 z.2.1 z.2.2.1 z.2.2.2=true:=by
  unfold pCan
  unfold StOk at hz
  rw[hs,hz]
  simp only[Bool.true_and,decide_eq_true_eq]
  omega
theorem StOk_len {z:Int×List Int×List Int×List Int}(h:StOk z):z.2.1.length=4∧z.2.2.1.length=3∧z.2.2.2.length=4:=by
  unfold StOk pState at h
  simp only[Bool.and_eq_true,beq_iff_eq] at h
  omega
def pRes (k:Int)(b:List Int)(h p q:Int):Bool :=
  if k=1∨k=2 then decide ((b.length:Int)≤6) && (b.all (pIn · 0 255) && pZero h p q)
  else if k=3 then decide ((b.length:Int)=0) && pAddr h p q
  else if k=4 then decide ((b.length:Int)=0) && pZero h p q
  else false
def pVersion (y:S96):Bool:=pAddr y.f0.f0 y.f0.f1 y.f0.f2 && (pIn y.f1 0 1000 && pRes y.f2.f0 y.f2.f1 y.f2.f2.f0 y.f2.f2.f1 y.f2.f2.f2)
def pIsSite (l:List S96):Bool:=l.all pVersion && decide ((l.length:Int)≤12)
def pVisit (s:List S96)(t sd:Int)(i:List Int):Bool:=pIsSite s && (pIn t 0 1000 && (pIn sd 0 9999 && (decide ((i.length:Int)≤8) && i.all (pIn · 0 999))))
/-- A resource, as the printed functions hand it on. -/
abbrev Rsc:=Int×List Int×Int×Int×Int
def pHere (a p q t:Int)(y:S96):Bool:=(y.f0.f0 == a && (y.f0.f1 == p && (y.f0.f2 == q))) && decide (y.f1≤t)
def ansStep (a p q t:Int)(r:Rsc)(y:S96):Rsc:=if pHere a p q t y=true then(y.f2.f0,y.f2.f1,y.f2.f2.f0,y.f2.f2.f1,y.f2.f2.f2) else r
def pAnswer (l:List S96)(a p q t:Int):Rsc:=l.foldl (ansStep a p q t) (4,[],0,0,0)
theorem pAnswer_fit (l:List S96)(a p q t:Int)(hf:∀ y∈l,FitimplVersion y):(pAnswer l a p q t).2.1.length≤1048576:=by
  have key:∀ (l:List S96) (r:Rsc),(∀ y∈l,FitimplVersion y)→r.2.1.length≤1048576→(l.foldl (ansStep a p q t) r).2.1.length≤1048576:=by
    intro l
    induction l with
    | nil=>intro r _ h;exact h
    | cons y l ih =>
      intro r hf h
      rw[List.foldl_cons]
      refine ih _ (fun z hz=>hf z (List.mem_cons_of_mem _ hz)) ?_
      unfold ansStep
      split
      · exact hf y (by simp)
      · exact h
  exact key l _ hf (by simp)
theorem ev_any {α:Type}(F:Nat→Int→Option Bool)(l:List α)(d:α)(p:α→Bool)
    (hend:∀ k,F (k+1) (l.length:Int)=some false)
    (hyes:∀ i:Nat,i < l.length→p (l.getD i d)=true→Ev (fun k=>F k (i:Int)) true)
    (hno:∀ i:Nat,i < l.length→p (l.getD i d)=false→∀ r,Ev (fun k=>F k ((i+1:Nat):Int)) r→Ev (fun k=>F k (i:Int)) r) :
    Ev (fun k=>F k 0) (l.any p):=by
  have h:=ev_down (fun k i=>F k (i:Int)) l.length (fun i=>(l.drop i).any p) (Ev.round hend (Ev.const fun _=>by simp))
    (fun i hi h=>by
      rw[drop_cons l i hi d,List.any_cons]
      cases hp:p (l.getD i d) with
      | true=>simpa using hyes i hi hp
      | false=>simpa using hno i hi hp _ h)
  simpa using h
abbrev Trail:=Int×List Int×Int×Int×Int×List S46
def pHasA (c:List S46)(a p q:Int):Bool:=c.any fun y=>y.f0 == a && (y.f1 == p && (y.f2 == q))
def pTrail (l:List S96)(t:Int):Nat→List S46→Rsc→Trail
  | 0,c,r=>(r.1,r.2.1,r.2.2.1,r.2.2.2.1,r.2.2.2.2,c)
  | n+1,c,r=>if r.1=3∧pHasA c r.2.2.1 r.2.2.2.1 r.2.2.2.2=false then pTrail l t n (c++[⟨r.2.2.1,r.2.2.2.1,r.2.2.2.2⟩]) (pAnswer l r.2.2.1 r.2.2.2.1 r.2.2.2.2 t) else(r.1,r.2.1,r.2.2.1,r.2.2.2.1,r.2.2.2.2,c)
def pFollow (l:List S96)(a p q t:Int):Trail:=pTrail l t 4 [⟨a,p,q⟩] (pAnswer l a p q t)
theorem pTrail_fit (l:List S96)(t:Int)(hf:∀ y∈l,FitimplVersion y):∀ (n:Nat) (c:List S46) (r:Rsc),r.2.1.length≤1048576→(pTrail l t n c r).2.1.length≤1048576∧(pTrail l t n c r).2.2.2.2.2.length≤c.length+n:=by
  intro n
  induction n with
  | zero=>intro c r h;exact⟨h,Nat.le_refl _⟩
  | succ n ih =>
    intro c r h
    unfold pTrail
    split
    · have:=ih (c++[⟨r.2.2.1,r.2.2.2.1,r.2.2.2.2⟩]) _ (pAnswer_fit l r.2.2.1 r.2.2.2.1 r.2.2.2.2 t hf)
      refine⟨this.1,?_⟩
      have h2:=this.2
      rw[List.length_append,List.length_singleton] at h2
      omega
    · exact⟨h,Nat.le_add_right _ _⟩
theorem pFollow_fit (l:List S96)(a p q t:Int)(hf:∀ y∈l,FitimplVersion y):(pFollow l a p q t).2.1.length≤1048576:=(pTrail_fit l t hf 4 _ _ (pAnswer_fit l a p q t hf)).1
def pMod (a b:Int):Int:=if 1≤b∧b≤1000000000000 then Int.tmod (wrap64 ((Int.tmod a b)+b)) b else 0
def hashStep (d y:Int):Int:=Int.tmod (wrap64 ((wrap64 ((wrap64 (d * 1000003))+pMod y 2147483647))+13)) 2147483647
def pHash (l:List Int):Int:=l.foldl hashStep 11
def pSum (b:List Int):Int:=b.foldl (fun x y=>x+y) 0
def pVal (k:Int)(b:List Int)(h p q:Int):Int :=
  if pRes k b h p q=true∧(k=1∨k=2) then(if pSum b % 1000 < 999 then pSum b % 1000+1 else 999) else 0
theorem fold_mod (b:List Int):∀ x:Int,b.foldl (fun x y=>(x+y) % 1000) (x % 1000)=(b.foldl (fun x y=>x+y) x) % 1000:=by
  induction b with
  | nil=>intro x;rfl
  | cons y b ih =>
    intro x
    rw[List.foldl_cons,List.foldl_cons,←ih (x+y)]
    congr 1
    omega
theorem pRes_body {k:Int}{b:List Int}{h p q:Int}(hr:pRes k b h p q=true)(hk:k=1∨k=2):b.length≤6∧∀ y∈b,0≤y∧y≤255:=by
  unfold pRes at hr
  rw[if_pos hk] at hr
  simp only[Bool.and_eq_true,decide_eq_true_eq,List.all_eq_true] at hr
  exact⟨by omega,fun y hy=>hr.2.1 y hy⟩
def pLive (s:List S96)(tk sd:Int)(ins:List Int)(w0 w1 w2 w3 n:Int):Int :=
  if pVisit s tk sd ins=true∧pIn n 0 100=true then
    if w0=1 then pVal (pFollow s w1 w2 w3 (wrap64 (tk+n))).1 (pFollow s w1 w2 w3 (wrap64 (tk+n))).2.1 (pFollow s w1 w2 w3 (wrap64 (tk+n))).2.2.1 (pFollow s w1 w2 w3 (wrap64 (tk+n))).2.2.2.1 (pFollow s w1 w2 w3 (wrap64 (tk+n))).2.2.2.2.1
    else if w0=2 then mn 999 (wrap64 (tk+n))
    else if w0=3 then pMod (pHash [sd,n]) 1000
    else if w0=4 then(if (ins.length:Int) > 0 then rd ins (Int.tmod n (ins.length:Int)) else 0)
    else 0
  else 0
/-- A visit, with at most so many rounds. -/
def pSeen (l:List S66)(s:List S96)(tk sd:Int)(ins:List Int):Nat→List S51→List S33→(Int×List Int×List Int×List Int)→List S51×List S33
  | 0,es,tr,_=>(es,tr)
  | m+1,es,tr,z =>
    if (l.length:Int)≤z.1 then(es,tr)
    else if (pWant l z.1 z.2.1 z.2.2.1 z.2.2.2).1=0 then
      pSeen l s tk sd ins m es (tr++[⟨(pStep l z.1 z.2.1 z.2.2.1 z.2.2.2 0).1,(pStep l z.1 z.2.1 z.2.2.1 z.2.2.2 0).2.1,(pStep l z.1 z.2.1 z.2.2.1 z.2.2.2 0).2.2.1,(pStep l z.1 z.2.1 z.2.2.1 z.2.2.2 0).2.2.2⟩]) (pStep l z.1 z.2.1 z.2.2.1 z.2.2.2 0)
    else pSeen l s tk sd ins m (es++[⟨(pWant l z.1 z.2.1 z.2.2.1 z.2.2.2).1,⟨(pWant l z.1 z.2.1 z.2.2.1 z.2.2.2).2.1,(pWant l z.1 z.2.1 z.2.2.1 z.2.2.2).2.2.1,(pWant l z.1 z.2.1 z.2.2.1 z.2.2.2).2.2.2⟩,pAns l s tk sd ins es z⟩]) (tr++[⟨(pStep l z.1 z.2.1 z.2.2.1 z.2.2.2 (pAns l s tk sd ins es z)).1,(pStep l z.1 z.2.1 z.2.2.1 z.2.2.2 (pAns l s tk sd ins es z)).2.1,(pStep l z.1 z.2.1 z.2.2.1 z.2.2.2 (pAns l s tk sd ins es z)).2.2.1,(pStep l z.1 z.2.1 z.2.2.1 z.2.2.2 (pAns l s tk sd ins es z)).2.2.2⟩]) (pStep l z.1 z.2.1 z.2.2.1 z.2.2.2 (pAns l s tk sd ins es z))
where pAns (l:List S66) (s:List S96) (tk sd:Int) (ins:List Int) (es:List S51) (z:Int×List Int×List Int×List Int):Int:=pLive s tk sd ins (pWant l z.1 z.2.1 z.2.2.1 z.2.2.2).1 (pWant l z.1 z.2.1 z.2.2.1 z.2.2.2).2.1 (pWant l z.1 z.2.1 z.2.2.1 z.2.2.2).2.2.1 (pWant l z.1 z.2.1 z.2.2.1 z.2.2.2).2.2.2 (es.length:Int)
def pVis (l:List S66)(s:List S96)(tk sd:Int)(ins:List Int):List S51×List S33 :=
  if pScript l=true∧pVisit s tk sd ins=true then pSeen l s tk sd ins 40 [] [⟨0,[0,0,0,0],[0,0,0],[0,0,0,0]⟩] z0 else([],[⟨0,[0,0,0,0],[0,0,0],[0,0,0,0]⟩])
theorem at_eq (a b:Int):impl_at.f a b=some (decide (0≤a) && decide (a < b)):=by
  unfold impl_at.f
  by_cases h:0≤a <;> simp[h]
theorem InRange_eq (a b c:Int):impl_InRange.f a b c=some (decide (b≤a) && decide (a≤c)):=by
  unfold impl_InRange.f
  by_cases h:b≤a <;> simp[h]
theorem pIn_at (a:Int):(decide (0≤a) && decide (a < 4))=pIn a 0 3:=by
  have:(a < 4)=(a≤3):=by apply propext;omega
  simp only[this]
theorem pIn_at3 (a:Int):(decide (0≤a) && decide (a < 3))=pIn a 0 2:=by
  have:(a < 3)=(a≤2):=by apply propext;omega
  simp only[this]
theorem iOp_ev (y:S66):Ev (fun k=>impl_isOp.f k y.f0 y.f1 y.f2 y.f3) (pOp y):=by
  unfold impl_isOp.f pOp
  refine Ev.now_and ((at_eq _ _).trans (congrArg some (pIn_at _))) fun _=>?_
  by_cases h1:y.f0=1
  · rw[if_pos h1]
    refine Ev.pos h1 ?_
    exact Ev.now_and (InRange_eq _ _ _) fun _=>Ev.now_bind (InRange_eq _ _ _) (Ev.now _)
  rw[if_neg h1]
  refine Ev.neg h1 ?_
  have hj:∀ x:Bool,(x=true↔y.f0=2∨y.f0=3∨y.f0=4)→Ev (fun k=>impl_isOp.j0 k y.f0 x y.f0 y.f1 y.f2 y.f3) (if y.f0=2∨y.f0=3∨y.f0=4 then decide (y.f2=0) && (y.f3 == 0)
    else if y.f0=5 then pIn y.f2 0 3 && pIn y.f3 0 3
    else if y.f0=6 then pIn y.f2 0 3 && (y.f3 == 0)
    else if y.f0=7 then pIn y.f2 1 3 && (y.f3 == 0)
    else if y.f0=8 then pIn y.f2 0 2 && (y.f3 == 0)
    else if y.f0=9 then pIn y.f2 0 2 && (y.f3 == 0)
    else false):=by
    intro x hx
    refine Ev.round (fun _=>by rw[impl_isOp.j0]) ?_
    cases x with
    | true =>
      rw[if_pos (hx.1 rfl)]
      refine Ev.pos rfl ?_
      exact Ev.if_and fun _=>Ev.now _
    | false =>
      have hno:¬(y.f0=2∨y.f0=3∨y.f0=4):=fun c=>by simpa using hx.2 c
      rw[if_neg hno]
      refine Ev.neg (by simp) ?_
      refine Ev.ite (fun _=>?_) (fun _=>?_)
      · exact Ev.now_and ((at_eq _ _).trans (congrArg some (pIn_at _))) fun _=>Ev.now_bind ((at_eq _ _).trans (congrArg some (pIn_at _))) (Ev.now _)
      refine Ev.ite (fun _=>?_) (fun _=>?_)
      · exact Ev.now_and ((at_eq _ _).trans (congrArg some (pIn_at _))) fun _=>Ev.now _
      refine Ev.ite (fun _=>?_) (fun _=>?_)
      · exact Ev.now_and (InRange_eq _ _ _) fun _=>Ev.now _
      refine Ev.ite (fun _=>?_) (fun _=>?_)
      · exact Ev.now_and ((at_eq _ _).trans (congrArg some (pIn_at3 _))) fun _=>Ev.now _
      refine Ev.ite (fun _=>?_) (fun _=>?_)
      · exact Ev.now_and ((at_eq _ _).trans (congrArg some (pIn_at3 _))) fun _=>Ev.now _
      · exact Ev.now _
  by_cases h2:y.f0=2
  · refine Ev.pos h2 (hj _ ?_)
    simp[h2]
  refine Ev.neg h2 ?_
  by_cases h3:y.f0=3
  · refine Ev.pos h3 (hj _ ?_)
    simp[h3]
  refine Ev.neg h3 (hj _ ?_)
  simp[h2,h3]
theorem iIsScript_ev (l:List S66)(h:l.length≤1048576):Ev (fun k=>impl_IsScript.f k l) (pScript l):=by
  unfold impl_IsScript.f pScript
  rw[Bool.and_comm]
  refine Ev.if_and fun _=>?_
  rw[←not_any]
  refine Ev.no ?_
  unfold slices_ContainsFunc_27.f
  have hf:∃ r:Int,Ev (fun k=>slices_IndexFunc_27.l0 k l (l.length:Int) 0) r∧decide (r≥0)=l.any (fun y=>!pOp y):=by
    refine ev_find (fun k i=>slices_IndexFunc_27.l0 k l (l.length:Int) i) l z66 (fun y=>!pOp y) (fun k=>by rw[slices_IndexFunc_27.l0,if_neg (by omega)]) ?_ ?_
    · intro i hi hp
      refine Ev.round (fun _=>by rw[slices_IndexFunc_27.l0]) ?_
      refine Ev.pos (by omega) ?_
      refine Ev.pos (by omega) ?_
      refine Ev.pos (by omega) ?_
      refine Ev.bind (Ev.no (iOp_ev (rd_T66 l (i:Int)))) ?_
      refine Ev.pos hp ?_
      exact Ev.now _
    · intro i hi hp r hr
      have e1:wrap64 ((i:Int)+1)=((i+1:Nat):Int):=by rw[w64 (by omega) (by omega)];omega
      refine Ev.round (fun _=>by rw[slices_IndexFunc_27.l0]) ?_
      refine Ev.pos (by omega) ?_
      refine Ev.pos (by omega) ?_
      refine Ev.pos (by omega) ?_
      refine Ev.bind (Ev.no (iOp_ev (rd_T66 l (i:Int)))) ?_
      refine Ev.neg (ne_true_of_eq_false hp) ?_
      simp only[e1]
      exact hr
  obtain⟨r,hr,hd⟩:=hf
  rw[←hd]
  exact Ev.bind hr (Ev.now _)
theorem allIn_ev (l:List Int)(a b:Int)(h:l.length≤1048576):Ev (fun k=>impl_allIn.f k l a b) (l.all (pIn · a b)):=by
  unfold impl_allIn.f
  refine Ev.cast (ev_all (fun k i=>impl_allIn.l0 k a b l (l.length:Int) i) l 0 (pIn · a b) true (fun k=>by rw[impl_allIn.l0,if_neg (by omega)]) ?_ ?_) (Bool.and_true _)
  · intro i hi hp r hr
    have e1:wrap64 ((i:Int)+1)=((i+1:Nat):Int):=by rw[w64 (by omega) (by omega)];omega
    refine Ev.round (fun _=>by rw[impl_allIn.l0]) ?_
    refine Ev.pos (by omega) ?_
    refine Ev.pos (by omega) ?_
    refine Ev.pos (by omega) ?_
    refine Ev.now_bind (InRange_eq _ _ _) ?_
    refine Ev.pos ?_ ?_
    · rw[rd_nat];exact hp
    · simp only[e1];exact hr
  · intro i hi hp
    refine Ev.round (fun _=>by rw[impl_allIn.l0]) ?_
    refine Ev.pos (by omega) ?_
    refine Ev.pos (by omega) ?_
    refine Ev.pos (by omega) ?_
    refine Ev.now_bind (InRange_eq _ _ _) ?_
    refine Ev.neg ?_ (Ev.now _)
    rw[rd_nat];exact ne_true_of_eq_false hp
theorem iIsState_ev (a:Int)(r s n:List Int)(h1:r.length≤1048576)(h2:s.length≤1048576)(h3:n.length≤1048576):Ev (fun k=>impl_IsState.f k a r s n) (pState a r s n):=by
  unfold impl_IsState.f pState
  refine Ev.cast (Ev.now_and (InRange_eq _ _ _) fun _=>Ev.if_and fun _=>Ev.if_and fun _=>Ev.if_and fun _=>Ev.and (allIn_ev r 0 999 h1) fun _=>Ev.and (allIn_ev s 0 999 h2) fun _=>Ev.id (allIn_ev n 0 999 h3)) ?_
  rw[Bool.eq_iff_iff]
  simp only[Bool.and_eq_true,decide_eq_true_eq,beq_iff_eq]
  constructor
  · rintro⟨a1,a2,a3,a4,a5,a6,a7⟩;exact⟨a1,⟨a5,a2⟩,⟨a6,a3⟩,a7,a4⟩
  · rintro⟨a1,⟨a5,a2⟩,⟨a6,a3⟩,a7,a4⟩;exact⟨a1,a2,a3,a4,a5,a6,a7⟩
theorem iCan_ev (l:List S66)(a:Int)(r s n:List Int)(h:l.length≤1048576)(h1:r.length≤1048576)(h2:s.length≤1048576)(h3:n.length≤1048576):Ev (fun k=>impl_canStep.f k l a r s n) (pCan l a r s n):=by
  unfold impl_canStep.f pCan
  exact Ev.and (iIsScript_ev l h) fun _=>Ev.and (iIsState_ev a r s n h1 h2 h3) fun _=>Ev.now _
theorem iAsks_eq (k:Int):impl_Asks.f k=some (pAsks k):=by
  unfold impl_Asks.f pAsks
  rw[InRange_eq]
  rfl
theorem iWant_ev (l:List S66)(a:Int)(r s n:List Int)(h:l.length≤1048576)(h1:r.length≤1048576)(h2:s.length≤1048576)(h3:n.length≤1048576):Ev (fun k=>impl_WantOf.f k l a r s n) (pWant l a r s n):=by
  unfold impl_WantOf.f pWant
  refine Ev.bind (iCan_ev l a r s n h h1 h2 h3) ?_
  have hj:Ev (fun k=>impl_WantOf.j0 k l true a r s n) (0,0,0,0):=by
    refine Ev.round (fun _=>by rw[impl_WantOf.j0]) ?_
    refine Ev.pos rfl ?_
    exact Ev.now _
  cases hc:pCan l a r s n with
  | false=>exact Ev.neg (by simp) (Ev.cast hj (by simp))
  | true =>
    obtain⟨f1,f2,f3,f4,f5,f6,f7,f8,f9,_,_⟩:=pCan_facts hc
    refine Ev.pos rfl ?_
    refine Ev.pos f1 ?_
    refine Ev.pos f2 ?_
    refine Ev.now_bind (iAsks_eq _) ?_
    cases hk:pAsks (rd_T66 l a).f0 with
    | false=>exact Ev.cast hj (by simp)
    | true =>
      have hr:=pOp_reg (f9 _ (getD_mem l a.toNat (by omega) z66))
      have hr':0≤(rd_T66 l a).f1∧(rd_T66 l a).f1≤3:=hr
      rw[if_pos ⟨rfl,rfl⟩]
      refine Ev.round (fun _=>by rw[impl_WantOf.j0]) ?_
      refine Ev.neg (by simp) ?_
      refine Ev.pos f1 ?_
      refine Ev.pos f2 ?_
      refine Ev.ite (fun _=>?_) (fun _=>Ev.now _)
      exact Ev.pos hr'.1 (Ev.pos (by omega) (Ev.now _))
theorem iCopy_eq (a:Int)(r s n:List Int)(h1:r.length≤1048576)(h2:s.length≤1048576)(h3:n.length≤1048576):impl_copyState.f a r s n=some (a,r,s,n):=by
  simp only[impl_copyState.f,slices_Clone_int_int.f,Option.bind_some,List.nil_append,List.length_nil]
  rw[if_pos (by omega),if_pos (by omega),if_pos (by omega)]
  rfl
theorem iStep_ev (l:List S66)(a:Int)(r s n:List Int)(v:Int)(h:l.length≤1048576)(h1:r.length≤1048576)(h2:s.length≤1048576)(h3:n.length≤1048576):Ev (fun k=>impl_StepState.f k l a r s n v) (pStep l a r s n v):=by
  unfold impl_StepState.f
  refine Ev.now_bind (iCopy_eq a r s n h1 h2 h3) ?_
  refine Ev.bind (iCan_ev l a r s n h h1 h2 h3) ?_
  dsimp only
  unfold pStep
  by_cases c:pCan l a r s n=true
  · obtain⟨f1,f2,f3,f4,f5,f6,f7,f8,f9,f10,f11⟩:=pCan_facts c
    have ho:pOp (rd_T66 l a)=true:=f9 _ (getD_mem l a.toNat (by omega) z66)
    have hr:=pOp_reg ho
    refine Ev.rpos c ?_
    refine Ev.pos c ?_
    refine Ev.pos f1 ?_
    refine Ev.pos f2 ?_
    refine Ev.ite (fun c5=>?_) (fun c5=>?_)
    · have ha:=pOp_5 ho c5
      refine Ev.pos ha.1 ?_
      refine Ev.pos (by omega) ?_
      refine Ev.pos ha.2.2.1 ?_
      refine Ev.pos (by omega) ?_
      refine Ev.pos hr.1 ?_
      refine Ev.pos (by omega) ?_
      exact Ev.now _
    refine Ev.ite (fun c6=>?_) (fun c6=>?_)
    · have ha:=pOp_6 ho c6
      refine Ev.pos hr.1 ?_
      refine Ev.pos (by omega) ?_
      refine Ev.pos ha.1 ?_
      refine Ev.pos (by omega) ?_
      exact Ev.now _
    refine Ev.ite (fun c7=>?_) (fun c7=>?_)
    · refine Ev.pos hr.1 ?_
      refine Ev.pos (by omega) ?_
      exact Ev.ite (fun _=>Ev.now _) (fun _=>Ev.now _)
    refine Ev.ite (fun c8=>?_) (fun c8=>?_)
    · have ha:=pOp_8 ho c8
      refine Ev.pos ha.1 ?_
      refine Ev.pos (by omega) ?_
      refine Ev.pos hr.1 ?_
      refine Ev.pos (by omega) ?_
      exact Ev.now _
    refine Ev.ite (fun c9=>?_) (fun c9=>?_)
    · have ha:=pOp_9 ho c9
      refine Ev.pos hr.1 ?_
      refine Ev.pos (by omega) ?_
      refine Ev.pos ha.1 ?_
      refine Ev.pos (by omega) ?_
      exact Ev.now _
    refine Ev.pos hr.1 ?_
    refine Ev.pos (by omega) ?_
    rw[←pClamp_impl v]
    exact Ev.now _
  · refine Ev.rneg c ?_
    exact Ev.neg c (Ev.now _)
theorem iStart_eq:impl_StartState.f=some (0,[0,0,0,0],[0,0,0],[0,0,0,0]):=rfl
theorem iIsAddress_eq (h p q:Int):impl_IsAddress.f h p q=some (pAddr h p q):=by
  simp only[impl_IsAddress.f,InRange_eq,Option.bind_some,some_and]
theorem iIsResource_ev (k:Int)(b:List Int)(h p q:Int)(hb:b.length≤1048576):Ev (fun n=>impl_IsResource.f n k b h p q) (pRes k b h p q):=by
  have hj:∀ x:Bool,(x=true↔k=1∨k=2)→Ev (fun n=>impl_IsResource.j0 n k x k b h p q) (pRes k b h p q):=by
    intro x hx
    refine Ev.round (fun _=>by rw[impl_IsResource.j0]) ?_
    unfold pRes
    cases x with
    | true =>
      refine Ev.rpos (hx.1 rfl) ?_
      refine Ev.pos rfl ?_
      exact Ev.if_and fun _=>Ev.and (allIn_ev b 0 255 hb) fun _=>Ev.now _
    | false =>
      have hno:¬(k=1∨k=2):=fun c=>by simpa using hx.2 c
      refine Ev.rneg hno ?_
      refine Ev.neg (by simp) ?_
      by_cases h3:k=3
      · refine Ev.rpos h3 ?_
        refine Ev.pos h3 ?_
        exact Ev.if_and fun _=>Ev.now_bind (iIsAddress_eq _ _ _) (Ev.now _)
      · refine Ev.rneg h3 ?_
        refine Ev.neg h3 ?_
        by_cases h4:k=4
        · refine Ev.rpos h4 ?_
          refine Ev.pos h4 ?_
          exact Ev.if_and fun _=>Ev.now _
        · refine Ev.rneg h4 ?_
          refine Ev.neg h4 ?_
          exact Ev.now _
  unfold impl_IsResource.f
  by_cases h1:k=1
  · refine Ev.pos h1 (hj _ ?_)
    simp[h1]
  · refine Ev.neg h1 (hj _ ?_)
    simp[h1]
theorem iIsSiteLit_ev (y:S96)(hf:FitimplVersion y):Ev (fun k=>impl_IsSite_lit1.f k y.f0.f0 y.f0.f1 y.f0.f2 y.f1 y.f2.f0 y.f2.f1 y.f2.f2.f0 y.f2.f2.f1 y.f2.f2.f2) (!pVersion y):=by
  unfold impl_IsSite_lit1.f pVersion
  refine Ev.now_bind (iIsAddress_eq _ _ _) ?_
  cases p1:pAddr y.f0.f0 y.f0.f1 y.f0.f2 with
  | false=>exact Ev.neg (by simp) (Ev.now _)
  | true =>
    refine Ev.pos rfl ?_
    refine Ev.now_bind (InRange_eq _ _ _) ?_
    cases p2:pIn y.f1 0 1000 with
    | false=>exact Ev.neg (ne_true_of_eq_false p2) (Ev.now _)
    | true =>
      refine Ev.pos p2 ?_
      rw[Bool.true_and,Bool.true_and]
      exact Ev.no (iIsResource_ev _ _ _ _ _ hf)
theorem iIsSite_ev (l:List S96)(h:l.length≤1048576)(hf:∀ y∈l,FitimplVersion y):Ev (fun k=>impl_IsSite.f k l) (pIsSite l):=by
  unfold impl_IsSite.f pIsSite
  rw[Bool.and_comm]
  refine Ev.if_and fun _=>?_
  rw[←any_not]
  refine Ev.no ?_
  unfold slices_ContainsFunc_55.f
  have hf:∃ r:Int,Ev (fun k=>slices_IndexFunc_55.l0 k l (l.length:Int) 0) r∧decide (r≥0)=l.any (fun y=>!pVersion y):=by
    refine ev_find (fun k i=>slices_IndexFunc_55.l0 k l (l.length:Int) i) l z96 (fun y=>!pVersion y) (fun k=>by rw[slices_IndexFunc_55.l0,if_neg (by omega)]) ?_ ?_
    · intro i hi hp
      refine Ev.round (fun _=>by rw[slices_IndexFunc_55.l0]) ?_
      refine Ev.pos (by omega) ?_
      refine Ev.pos (by omega) ?_
      refine Ev.pos (by omega) ?_
      refine Ev.bind (iIsSiteLit_ev (rd_T96 l (i:Int)) (hf _ (getD_mem l i hi z96))) ?_
      refine Ev.pos hp ?_
      exact Ev.now _
    · intro i hi hp r hr
      have e1:wrap64 ((i:Int)+1)=((i+1:Nat):Int):=by rw[w64 (by omega) (by omega)];omega
      refine Ev.round (fun _=>by rw[slices_IndexFunc_55.l0]) ?_
      refine Ev.pos (by omega) ?_
      refine Ev.pos (by omega) ?_
      refine Ev.pos (by omega) ?_
      refine Ev.bind (iIsSiteLit_ev (rd_T96 l (i:Int)) (hf _ (getD_mem l i hi z96))) ?_
      refine Ev.neg (ne_true_of_eq_false hp) ?_
      simp only[e1]
      exact hr
  obtain⟨r,hr,hd⟩:=hf
  rw[←hd]
  exact Ev.bind hr (Ev.now _)
theorem iIsVisit_ev (s:List S96)(t sd:Int)(i:List Int)(h:s.length≤1048576)(hf:∀ y∈s,FitimplVersion y)(hi:i.length≤1048576):Ev (fun k=>impl_IsVisit.f k s t sd i) (pVisit s t sd i):=by
  unfold impl_IsVisit.f pVisit
  exact Ev.and (iIsSite_ev s h hf) fun _=>Ev.now_and (InRange_eq _ _ _) fun _=>Ev.now_and (InRange_eq _ _ _) fun _=>Ev.if_and fun _=>Ev.id (allIn_ev i 0 999 hi)
theorem copyResource_eq (k:Int)(b:List Int)(h p q:Int)(hb:b.length≤1048576):impl_copyResource.f k b h p q=some (k,b,h,p,q):=by
  simp only[impl_copyResource.f,slices_Clone_int_int.f,Option.bind_some,List.nil_append,List.length_nil]
  rw[if_pos (by omega)]
  rfl
theorem iAnswer_ev (l:List S96)(a p q t:Int)(h:l.length≤1048576)(hf:∀ y∈l,FitimplVersion y):Ev (fun k=>impl_AnswerAt.f k l a p q t) (pAnswer l a p q t):=by
  unfold impl_AnswerAt.f pAnswer
  have key:∀ i:Nat,i≤l.length→Ev (fun k=>impl_AnswerAt.l0 k l t ((i:Int) - 1) a p q) ((l.take i).foldl (ansStep a p q t) (4,[],0,0,0)):=by
    intro i
    induction i with
    | zero =>
      intro _
      refine Ev.round (fun _=>by rw[impl_AnswerAt.l0]) ?_
      exact Ev.neg (by omega) (Ev.now _)
    | succ i ih =>
      intro hi
      have h0:=ih (by omega)
      have e0:((i+1:Nat):Int) - 1=(i:Int):=by omega
      have e1:wrap64 ((i:Int) - 1)=(i:Int) - 1:=w64 (by omega) (by omega)
      have hfy:FitimplVersion (rd_T96 l (i:Int)):=hf _ (getD_mem l i (by omega) z96)
      have e2:(l.take (i+1)).foldl (ansStep a p q t) (4,[],0,0,0)=ansStep a p q t ((l.take i).foldl (ansStep a p q t) (4,[],0,0,0)) (rd_T96 l (i:Int)):=by
        rw[List.take_succ_eq_append_getElem (by omega),List.foldl_append]
        have e3:rd_T96 l (i:Int)=l[i]'(by omega):=getD_in l i (by omega) z96
        rw[e3]
        rfl
      rw[e2,e0]
      generalize (l.take i).foldl (ansStep a p q t) (4,[],0,0,0)=x at h0
      refine Ev.round (fun _=>by rw[impl_AnswerAt.l0]) ?_
      refine Ev.pos (by omega) ?_
      refine Ev.pos (by omega) ?_
      refine Ev.pos (by omega) ?_
      generalize hy:rd_T96 l (i:Int)=y at hfy
      simp only[e1]
      unfold ansStep pHere
      cases c1:(y.f0.f0 == a && (y.f0.f1 == p && (y.f0.f2 == q))) with
      | false=>exact Ev.neg (by simp) h0
      | true =>
        refine Ev.pos rfl ?_
        by_cases c2:y.f1≤t
        · rw[decide_eq_true c2]
          exact Ev.pos c2 (Ev.now_bind (copyResource_eq _ _ _ _ _ hfy) (Ev.now _))
        · rw[decide_eq_false c2]
          exact Ev.neg c2 h0
  have h1:=key l.length (by omega)
  rw[List.take_length] at h1
  rw[w64 (by omega) (by omega)]
  exact h1
theorem iHas_ev (c:List S46)(a p q:Int)(h:c.length≤1048576):Ev (fun k=>impl_Address_60.f k c a p q) (pHasA c a p q):=by
  unfold impl_Address_60.f pHasA
  have hx:∃ r:Int,Ev (fun k=>impl_Address_71.f k c a p q) r∧decide (r≥0)=c.any fun y=>y.f0 == a && (y.f1 == p && (y.f2 == q)):=by
    unfold impl_Address_71.f
    refine ev_find (fun k i=>impl_Address_71.l0 k c (c.length:Int) i a p q) c z46 (fun y=>y.f0 == a && (y.f1 == p && (y.f2 == q))) (fun k=>by rw[impl_Address_71.l0,if_neg (by omega)]) ?_ ?_
    · intro i hi hp
      have hp':(a == (rd_T46 c (i:Int)).f0 && (p == (rd_T46 c (i:Int)).f1 && (q == (rd_T46 c (i:Int)).f2)))=true:=by
        rw[Bool.beq_comm (a:=a),Bool.beq_comm (a:=p),Bool.beq_comm (a:=q)]
        exact hp
      refine Ev.round (fun _=>by rw[impl_Address_71.l0]) ?_
      exact Ev.pos (by omega) (Ev.pos (by omega) (Ev.pos (by omega) (Ev.pos hp' (Ev.now _))))
    · intro i hi hp r hr
      have e1:wrap64 ((i:Int)+1)=((i+1:Nat):Int):=by rw[w64 (by omega) (by omega)];omega
      have hp':(a == (rd_T46 c (i:Int)).f0 && (p == (rd_T46 c (i:Int)).f1 && (q == (rd_T46 c (i:Int)).f2)))=false:=by
        rw[Bool.beq_comm (a:=a),Bool.beq_comm (a:=p),Bool.beq_comm (a:=q)]
        exact hp
      refine Ev.round (fun _=>by rw[impl_Address_71.l0]) ?_
      refine Ev.pos (by omega) ?_
      refine Ev.pos (by omega) ?_
      refine Ev.pos (by omega) ?_
      refine Ev.neg (ne_true_of_eq_false hp') ?_
      simp only[e1]
      exact hr
  obtain⟨r,hr,hd⟩:=hx
  rw[←hd]
  exact Ev.bind hr (Ev.now _)
theorem iTrail_ev (l:List S96)(t:Int)(h:l.length≤1048576)(hf:∀ y∈l,FitimplVersion y):∀ (n:Nat) (c:List S46) (r:Rsc),c.length+n=5→Ev (fun k=>impl_FollowAt.l0 k l t c r.1 r.2.1 r.2.2.1 r.2.2.2.1 r.2.2.2.2) (pTrail l t n c r):=by
  intro n
  induction n with
  | zero =>
    intro c r hn
    refine Ev.round (fun _=>by rw[impl_FollowAt.l0]) ?_
    by_cases c1:r.1=3
    · exact Ev.pos c1 (Ev.neg (by omega) (Ev.now _))
    · exact Ev.neg c1 (Ev.now _)
  | succ n ih =>
    intro c r hn
    unfold pTrail
    refine Ev.round (fun _=>by rw[impl_FollowAt.l0]) ?_
    by_cases c1:r.1=3
    · refine Ev.pos c1 ?_
      refine Ev.pos (by omega) ?_
      refine Ev.bind (iHas_ev c r.2.2.1 r.2.2.2.1 r.2.2.2.2 (by omega)) ?_
      cases c2:pHasA c r.2.2.1 r.2.2.2.1 r.2.2.2.2 with
      | true =>
        rw[if_neg (by simp)]
        exact Ev.pos rfl (Ev.now _)
      | false =>
        rw[if_pos ⟨c1,rfl⟩]
        refine Ev.neg (by simp) ?_
        refine Ev.pos (by omega) ?_
        refine Ev.bind (iAnswer_ev l _ _ _ t h hf) ?_
        exact ih _ _ (by simp only[List.length_append,List.length_singleton];omega)
    · rw[if_neg (fun z=>c1 z.1)]
      exact Ev.neg c1 (Ev.now _)
theorem iFollow_ev (l:List S96)(a p q t:Int)(h:l.length≤1048576)(hf:∀ y∈l,FitimplVersion y):Ev (fun k=>impl_FollowAt.f k l a p q t) (pFollow l a p q t):=by
  unfold impl_FollowAt.f pFollow
  exact Ev.bind (iAnswer_ev l a p q t h hf) (iTrail_ev l t h hf 4 _ _ rfl)
theorem iMod_eq (a b:Int):impl_Mod.f a b=some (pMod a b):=by
  unfold impl_Mod.f pMod
  rw[InRange_eq,Option.bind_some]
  by_cases h:1≤b∧b≤1000000000000
  · rw[if_pos h,if_pos (by simp[h.1,h.2]),if_neg (by omega)]
  · rw[if_neg h,if_neg]
    intro c
    simp only[Bool.and_eq_true,decide_eq_true_eq] at c
    exact h c
theorem iHash_ev (l:List Int)(h:l.length≤1048576):Ev (fun k=>impl_Hash.f k l) (pHash l):=by
  unfold impl_Hash.f pHash
  refine ev_foldl (fun k x i=>impl_Hash.l0 k x l (l.length:Int) i) l 0 hashStep (fun x=>x) (fun _ _=>True) 11 trivial ?_ ?_
  · intro x _
    refine Ev.round (fun _=>by rw[impl_Hash.l0]) ?_
    exact Ev.neg (by omega) (Ev.now _)
  · intro i x hi _
    have e1:wrap64 ((i:Int)+1)=((i+1:Nat):Int):=by rw[w64 (by omega) (by omega)];omega
    refine⟨trivial,fun r hr=>?_⟩
    refine Ev.round (fun _=>by rw[impl_Hash.l0]) ?_
    refine Ev.pos (by omega) ?_
    refine Ev.pos (by omega) ?_
    refine Ev.pos (by omega) ?_
    simp only[e1,rd_nat]
    exact Ev.now_bind (iMod_eq _ _) hr
theorem hasBody_eq (k:Int):impl_hasBody.f k=some (decide (k=1∨k=2)):=by
  unfold impl_hasBody.f
  by_cases h:k=1
  · simp[h]
  · by_cases h2:k=2
    · simp[h2]
    · simp[h,h2]
theorem iValue_ev (k:Int)(b:List Int)(h p q:Int)(hb:b.length≤1048576):Ev (fun n=>impl_ValueOfResource.f n k b h p q) (pVal k b h p q):=by
  have hj1:Ev (fun n=>impl_ValueOfResource.j0 n true k b h p q) 0:=by
    refine Ev.round (fun _=>by rw[impl_ValueOfResource.j0]) ?_
    refine Ev.pos rfl ?_
    exact Ev.now _
  unfold impl_ValueOfResource.f pVal
  refine Ev.bind (iIsResource_ev k b h p q hb) ?_
  cases hr:pRes k b h p q with
  | false =>
    refine Ev.neg (by simp) ?_
    exact Ev.cast hj1 (by simp)
  | true =>
    refine Ev.pos rfl ?_
    refine Ev.now_bind (hasBody_eq k) ?_
    by_cases hk:k=1∨k=2
    · rw[if_pos ⟨rfl,hk⟩,decide_eq_true hk]
      obtain⟨hl,hy⟩:=pRes_body hr hk
      refine Ev.round (fun _=>by rw[impl_ValueOfResource.j0]) ?_
      refine Ev.neg (by simp) ?_
      refine ev_foldl (fun n x i=>impl_ValueOfResource.l0 n x b (b.length:Int) i) b 0 (fun x y=>x+y) (fun x=>if x % 1000 < 999 then x % 1000+1 else 999) (fun i x=>0≤x∧x≤255 * (i:Int)) 0 ⟨by omega,by omega⟩ ?_ ?_
      · intro x hx
        have e2:Int.tmod x 1000=x % 1000:=Int.tmod_eq_emod_of_nonneg (by omega)
        refine Ev.round (fun _=>by rw[impl_ValueOfResource.l0]) ?_
        refine Ev.neg (by omega) ?_
        simp only[e2]
        by_cases c:x % 1000 < 999
        · refine Ev.rpos c ?_
          refine Ev.pos c ?_
          rw[w64 (by omega) (by omega)]
          exact Ev.now _
        · refine Ev.rneg c ?_
          refine Ev.neg c ?_
          exact Ev.cast (Ev.now _) (by omega)
      · intro i x hi hx
        have e1:wrap64 ((i:Int)+1)=((i+1:Nat):Int):=by rw[w64 (by omega) (by omega)];omega
        have hv:=hy _ (getD_mem b i hi 0)
        refine⟨⟨by omega,by omega⟩,fun r hr2=>?_⟩
        refine Ev.round (fun _=>by rw[impl_ValueOfResource.l0]) ?_
        refine Ev.pos (by omega) ?_
        refine Ev.pos (by omega) ?_
        refine Ev.pos (by omega) ?_
        have e2:wrap64 (x+rd b (i:Int))=x+b.getD i 0:=by
          rw[rd_nat,w64 (by omega) (by omega)]
        simp only[e1,e2]
        exact hr2
    · rw[if_neg (fun c=>hk c.2),decide_eq_false hk]
      exact hj1
theorem iLive_ev (s:List S96)(tk sd:Int)(ins:List Int)(w0 w1 w2 w3 n:Int)(h:s.length≤1048576)(hf:∀ y∈s,FitimplVersion y)(hi:ins.length≤1048576):Ev (fun k=>impl_LiveValue.f k s tk sd ins w0 w1 w2 w3 n) (pLive s tk sd ins w0 w1 w2 w3 n):=by
  have hno:¬(pVisit s tk sd ins=true∧pIn n 0 100=true)→Ev (fun k=>impl_LiveValue.j0 k n true s tk sd ins w0 w1 w2 w3) (pLive s tk sd ins w0 w1 w2 w3 n):=by
    intro c
    unfold pLive
    rw[if_neg c]
    refine Ev.round (fun _=>by rw[impl_LiveValue.j0]) ?_
    exact Ev.pos rfl (Ev.now _)
  unfold impl_LiveValue.f
  refine Ev.bind (iIsVisit_ev s tk sd ins h hf hi) ?_
  cases hv:pVisit s tk sd ins with
  | false =>
    refine Ev.neg (by simp) ?_
    exact hno (by simp[hv])
  | true =>
    refine Ev.pos rfl ?_
    refine Ev.now_bind (InRange_eq _ _ _) ?_
    cases hp:pIn n 0 100 with
    | false =>
      have hp2:(decide (0≤n) && decide (n≤100))=false:=hp
      rw[hp2]
      exact hno (by simp[hp])
    | true =>
      have hp2:(decide (0≤n) && decide (n≤100))=true:=hp
      rw[hp2]
      unfold pLive
      rw[if_pos ⟨hv,hp⟩]
      simp only[pIn,Bool.and_eq_true,decide_eq_true_eq] at hp
      refine Ev.round (fun _=>by rw[impl_LiveValue.j0]) ?_
      refine Ev.neg (by simp) ?_
      by_cases c1:w0=1
      · rw[if_pos c1]
        exact Ev.pos c1 (Ev.bind (iFollow_ev s w1 w2 w3 (wrap64 (tk+n)) h hf) (Ev.id (iValue_ev _ _ _ _ _ (pFollow_fit s w1 w2 w3 (wrap64 (tk+n)) hf))))
      rw[if_neg c1]
      refine Ev.neg c1 ?_
      by_cases c2:w0=2
      · rw[if_pos c2]
        exact Ev.pos c2 (Ev.now _)
      rw[if_neg c2]
      refine Ev.neg c2 ?_
      by_cases c3:w0=3
      · rw[if_pos c3]
        exact Ev.pos c3 (Ev.bind (iHash_ev _ (by simp)) (Ev.now_bind (iMod_eq _ _) (Ev.now _)))
      rw[if_neg c3]
      refine Ev.neg c3 ?_
      by_cases c4:w0=4
      · refine Ev.rpos c4 ?_
        refine Ev.pos c4 ?_
        by_cases c5:(ins.length:Int) > 0
        · refine Ev.rpos c5 ?_
          have m0:0≤Int.tmod n (ins.length:Int):=Int.tmod_nonneg _ hp.1
          have m1:Int.tmod n (ins.length:Int) < (ins.length:Int):=Int.tmod_lt_of_pos _ c5
          exact Ev.pos c5 (Ev.neg (by omega) (Ev.pos m0 (Ev.pos m1 (Ev.now _))))
        · refine Ev.rneg c5 ?_
          exact Ev.neg c5 (Ev.now _)
      refine Ev.rneg c4 ?_
      exact Ev.neg c4 (Ev.now _)
theorem i13_l0 (l:List S66)(s:List S96)(tk sd:Int)(ins:List Int)(hs:pScript l=true)(h:s.length≤1048576)(hf:∀ y∈s,FitimplVersion y)(hi:ins.length≤1048576):∀ (m:Nat) (es:List S51) (tr:List S33) (z:Int×List Int×List Int×List Int),StOk z→(l.length:Int)≤z.1+(m:Int)→es.length+m≤1000→tr.length+m≤1000 →
    Ev (fun k=>impl_visited.l0 k l es tr s tk sd ins z.1 z.2.1 z.2.2.1 z.2.2.2) (pSeen l s tk sd ins (m+1) es tr z):=by
  have hl:=pScript_len hs
  intro m
  induction m with
  | zero =>
    intro es tr z hz hm he ht
    have c1:(l.length:Int)≤z.1:=by omega
    rw[pSeen,if_pos c1]
    refine Ev.round (fun _=>by rw[impl_visited.l0]) ?_
    refine Ev.now_bind rfl ?_
    exact Ev.pos (decide_eq_true c1) (Ev.now _)
  | succ m ih =>
    intro es tr z hz hm he ht
    by_cases c1:(l.length:Int)≤z.1
    · rw[pSeen,if_pos c1]
      refine Ev.round (fun _=>by rw[impl_visited.l0]) ?_
      refine Ev.now_bind rfl ?_
      exact Ev.pos (decide_eq_true c1) (Ev.now _)
    have hc:=can_of hs hz c1
    obtain⟨g1,g2,g3⟩:=StOk_len hz
    have hw:=iWant_ev l z.1 z.2.1 z.2.2.1 z.2.2.2 (by omega) (by omega) (by omega) (by omega)
    have hst:=fun v=>iStep_ev l z.1 z.2.1 z.2.2.1 z.2.2.2 v (by omega) (by omega) (by omega) (by omega)
    have hok:=fun v=>pStep_ok l z.1 z.2.1 z.2.2.1 z.2.2.2 v hc
    rw[pSeen,if_neg c1]
    unfold pSeen.pAns
    refine Ev.round (fun _=>by rw[impl_visited.l0]) ?_
    refine Ev.now_bind rfl ?_
    refine Ev.neg (by simp only[decide_eq_true_eq];omega) ?_
    refine Ev.bind hw ?_
    generalize pWant l z.1 z.2.1 z.2.2.1 z.2.2.2=w
    try dsimp only
    by_cases cw:w.1=0
    · rw[if_pos cw]
      refine Ev.pos cw ?_
      refine Ev.bind (hst 0) ?_
      refine Ev.pos (by omega) ?_
      exact ih es _ _ (hok 0).1 (by have:=(hok 0).2.1;omega) (by omega) (by rw[List.length_append,List.length_singleton];omega)
    rw[if_neg cw]
    refine Ev.neg cw ?_
    refine Ev.bind (iLive_ev s tk sd ins w.1 w.2.1 w.2.2.1 w.2.2.2 (es.length:Int) h hf hi) ?_
    refine Ev.pos (by omega) ?_
    generalize pLive s tk sd ins w.1 w.2.1 w.2.2.1 w.2.2.2 (es.length:Int)=v
    refine Ev.bind (hst v) ?_
    refine Ev.pos (by omega) ?_
    exact ih _ _ _ (hok v).1 (by have:=(hok v).2.1;omega) (by rw[List.length_append,List.length_singleton];omega) (by rw[List.length_append,List.length_singleton];omega)
theorem i13_ev (l:List S66)(s:List S96)(tk sd:Int)(ins:List Int)(hl:l.length≤1048576)(h:s.length≤1048576)(hf:∀ y∈s,FitimplVersion y)(hi:ins.length≤1048576):Ev (fun k=>impl_visited.f k l s tk sd ins) (pVis l s tk sd ins):=by
  unfold impl_visited.f pVis
  refine Ev.now_bind iStart_eq ?_
  refine Ev.now_bind rfl ?_
  refine Ev.bind (iIsScript_ev l hl) ?_
  by_cases c1:pScript l=true
  · refine Ev.pos c1 ?_
    refine Ev.bind (iIsVisit_ev s tk sd ins h hf hi) ?_
    refine Ev.round (fun _=>by rw[impl_visited.j0]) ?_
    by_cases c2:pVisit s tk sd ins=true
    · rw[if_pos ⟨c1,c2⟩]
      have:=pScript_len c1
      refine Ev.neg (by simp[c2]) ?_
      exact i13_l0 l s tk sd ins c1 h hf hi 39 [] _ z0 z0_ok (by show _≤(0:Int)+((39:Nat):Int);omega) (by simp) (by simp)
    · rw[if_neg (fun h=>c2 h.2)]
      exact Ev.pos (by simp[c2]) (Ev.now _)
  · rw[if_neg (fun h=>c1 h.1)]
    refine Ev.neg c1 ?_
    refine Ev.round (fun _=>by rw[impl_visited.j0]) ?_
    exact Ev.pos rfl (Ev.now _)
def Row3 (y:S33):Prop:=y.f1.length=4∧y.f2.length=3∧y.f3.length=4
theorem StOk_row {z:Int×List Int×List Int×List Int}(h:StOk z):Row3 ⟨z.1,z.2.1,z.2.2.1,z.2.2.2⟩:=StOk_len h
theorem tr_add {c:Nat}{tr:List S33}(ht:tr.length≤c∧∀ y∈tr,Row3 y){z:Int×List Int×List Int×List Int}(h:StOk z):(tr++[(⟨z.1,z.2.1,z.2.2.1,z.2.2.2⟩:S33)]).length≤c+1∧∀ y∈tr++[(⟨z.1,z.2.1,z.2.2.1,z.2.2.2⟩:S33)],Row3 y:=by
  refine⟨by rw[List.length_append,List.length_singleton];omega,fun y hy=>?_⟩
  rcases List.mem_append.1 hy with hy | hy
  · exact ht.2 y hy
  · rw[List.mem_singleton.1 hy]
    exact StOk_row h
theorem pSeen_tr (l:List S66)(s:List S96)(tk sd:Int)(ins:List Int)(hs:pScript l=true):∀ (m c d:Nat) (es:List S51) (tr:List S33) (z:Int×List Int×List Int×List Int),StOk z→es.length≤d→1≤tr.length→(tr.length≤c∧∀ y∈tr,Row3 y) →
    ((pSeen l s tk sd ins m es tr z).2.length≤c+m∧∀ y∈(pSeen l s tk sd ins m es tr z).2,Row3 y)∧(pSeen l s tk sd ins m es tr z).1.length≤d+m∧1≤(pSeen l s tk sd ins m es tr z).2.length:=by
  intro m
  induction m with
  | zero=>intro c d es tr z hz hd h1 ht;exact⟨ht,hd,h1⟩
  | succ m ih =>
    intro c d es tr z hz hd h1 ht
    rw[pSeen]
    by_cases c1:(l.length:Int)≤z.1
    · rw[if_pos c1]
      dsimp only
      exact⟨⟨by omega,ht.2⟩,by omega,h1⟩
    rw[if_neg c1]
    have hc:=can_of hs hz c1
    have e:c+1+m=c+(m+1):=by omega
    have e2:d+1+m=d+(m+1):=by omega
    split
    · have hk:=(pStep_ok l z.1 z.2.1 z.2.2.1 z.2.2.2 0 hc).1
      have r:=ih (c+1) d es _ _ hk hd (by rw[List.length_append,List.length_singleton];omega) (tr_add ht hk)
      rw[e] at r
      exact⟨r.1,by omega,r.2.2⟩
    · have hk:=(pStep_ok l z.1 z.2.1 z.2.2.1 z.2.2.2 (pSeen.pAns l s tk sd ins es z) hc).1
      have r:=fun x:S51=>ih (c+1) (d+1) (es++[x]) _ _ hk (by rw[List.length_append,List.length_singleton];omega) (by rw[List.length_append,List.length_singleton];omega) (tr_add ht hk)
      rw[e,e2] at r
      exact r _
theorem pVis_tr (l:List S66)(s:List S96)(tk sd:Int)(ins:List Int):((pVis l s tk sd ins).2.length≤41∧∀ y∈(pVis l s tk sd ins).2,Row3 y)∧(pVis l s tk sd ins).1.length≤40∧1≤(pVis l s tk sd ins).2.length:=by
  have h0:([⟨0,[0,0,0,0],[0,0,0],[0,0,0,0]⟩]:List S33).length≤1∧∀ y∈([⟨0,[0,0,0,0],[0,0,0],[0,0,0,0]⟩]:List S33),Row3 y:=by
    refine⟨by simp,fun y hy=>?_⟩
    rw[List.mem_singleton.1 hy]
    exact⟨rfl,rfl,rfl⟩
  unfold pVis
  split
  · rename_i h
    exact pSeen_tr l s tk sd ins h.1 40 1 0 [] _ z0 z0_ok (by simp) (by simp) h0
  · exact⟨⟨by simp,h0.2⟩,by simp,by simp⟩
def pLast (tr:List S33):S33:=rd_T33 tr ((tr.length:Int) - 1)
theorem pLast_row {tr:List S33}(h:∀ y∈tr,Row3 y)(h1:1≤tr.length):Row3 (pLast tr):=by
  unfold pLast
  have e:(tr.length:Int) - 1=((tr.length - 1:Nat):Int):=by omega
  rw[e]
  exact h _ (getD_mem tr (tr.length - 1) (by omega) z33)
theorem iRec_ev (l:List S66)(s:List S96)(tk sd:Int)(ins:List Int)(hl:l.length≤1048576)(h:s.length≤1048576)(hf:∀ y∈s,FitimplVersion y)(hi:ins.length≤1048576):Ev (fun k=>impl_RecordVisit.f k l s tk sd ins) ((pVis l s tk sd ins).1,(pLast (pVis l s tk sd ins).2).f0,(pLast (pVis l s tk sd ins).2).f1,(pLast (pVis l s tk sd ins).2).f2,(pLast (pVis l s tk sd ins).2).f3):=by
  obtain⟨⟨y1,y2⟩,y3,y4⟩:=pVis_tr l s tk sd ins
  unfold impl_RecordVisit.f
  refine Ev.bind (i13_ev l s tk sd ins hl h hf hi) ?_
  generalize pVis l s tk sd ins=z at y1 y2 y3 y4 ⊢
  obtain⟨g1,g2,g3⟩:=pLast_row y2 y4
  have e1:wrap64 ((z.2.length:Int) - 1)=(z.2.length:Int) - 1:=w64 (by omega) (by omega)
  have e2:impl_last.f z.2=some ((pLast z.2).f0,(pLast z.2).f1,(pLast z.2).f2,(pLast z.2).f3):=by
    unfold impl_last.f
    rw[e1,if_pos (by omega),if_pos (by omega)]
    unfold pLast at g1 g2 g3 ⊢
    rw[iCopy_eq _ _ _ _ (by omega) (by omega) (by omega)]
    rfl
  exact Ev.now_bind e2 (Ev.now _)
theorem iTraceV_ev (l:List S66)(s:List S96)(tk sd:Int)(ins:List Int)(hl:l.length≤1048576)(h:s.length≤1048576)(hf:∀ y∈s,FitimplVersion y)(hi:ins.length≤1048576):Ev (fun k=>impl_TraceVisit.f k l s tk sd ins) (pVis l s tk sd ins).2:=by
  unfold impl_TraceVisit.f
  exact Ev.bind (i13_ev l s tk sd ins hl h hf hi) (Ev.now _)
theorem iEqualInts_ev (a b:List Int)(h:a.length≤1048576):Ev (fun k=>slices_Equal_int_int.f k a b) (decide (a=b)):=by
  unfold slices_Equal_int_int.f
  by_cases hl:a.length=b.length
  · refine Ev.pos (by omega) ?_
    rw[←zip_all_eq a b hl]
    refine ev_all2 (fun k i=>slices_Equal_int_int.l0 k a b (a.length:Int) i) a b 0 (fun x y=>decide (x=y)) hl (fun k=>by rw[slices_Equal_int_int.l0,if_neg (by omega)]) ?_ ?_
    · intro i hi hp r hr
      have e1:wrap64 ((i:Int)+1)=((i+1:Nat):Int):=by rw[w64 (by omega) (by omega)];omega
      refine Ev.round (fun _=>by rw[slices_Equal_int_int.l0]) ?_
      refine Ev.pos (by omega) ?_
      refine Ev.pos (by omega) ?_
      refine Ev.pos (by omega) ?_
      refine Ev.pos (by omega) ?_
      refine Ev.pos ?_ ?_
      · rw[rd_nat,rd_nat];exact of_decide_eq_true hp
      · simp only[e1];exact hr
    · intro i hi hp
      refine Ev.round (fun _=>by rw[slices_Equal_int_int.l0]) ?_
      refine Ev.pos (by omega) ?_
      refine Ev.pos (by omega) ?_
      refine Ev.pos (by omega) ?_
      refine Ev.pos (by omega) ?_
      refine Ev.neg ?_ (Ev.now _)
      rw[rd_nat,rd_nat];exact of_decide_eq_false hp
  · have hne:a≠b:=fun e=>hl (by rw[e])
    rw[decide_eq_false hne]
    exact Ev.neg (by omega) (Ev.now _)
def pEqStates (a:Int)(r s n:List Int)(b:Int)(r' s' n':List Int):Bool:=decide (a=b) && (decide (r=r') && (decide (s=s') && decide (n=n')))
theorem iEqualStates_ev (a:Int)(r s n:List Int)(b:Int)(r' s' n':List Int)(h1:r.length≤1048576)(h2:s.length≤1048576)(h3:n.length≤1048576):Ev (fun k=>impl_EqualStates.f k a r s n b r' s' n') (pEqStates a r s n b r' s' n'):=by
  unfold impl_EqualStates.f pEqStates
  exact Ev.if_and fun _=>Ev.and (iEqualInts_ev r r' h1) fun _=>Ev.and (iEqualInts_ev s s' h2) fun _=>Ev.id (iEqualInts_ev n n' h3)
def stepAsks (n:Int)(y:S66):Int:=if pAsks y.f0=true then n+1 else n
def pCountAsks (l:List S66):Int:=l.foldl stepAsks 0
theorem iCountAsks_ev (l:List S66)(h:l.length≤1048576):Ev (fun k=>impl_CountAsks.f k l) (pCountAsks l):=by
  unfold impl_CountAsks.f
  refine ev_foldl (fun k x i=>impl_CountAsks.l0 k x l (l.length:Int) i) l z66 stepAsks id (fun i x=>0≤x∧x≤(i:Int)) 0 ⟨by omega,by omega⟩ ?_ ?_
  · intro x hx
    refine Ev.round (fun _=>by rw[impl_CountAsks.l0]) ?_
    refine Ev.neg (by omega) ?_
    exact Ev.now _
  intro i x hi hx
  have e1:wrap64 ((i:Int)+1)=((i+1:Nat):Int):=by rw[w64 (by omega) (by omega)];omega
  unfold stepAsks
  cases c:pAsks (l.getD i z66).f0 with
  | true =>
    refine⟨by simp;omega,fun r h=>?_⟩
    refine Ev.round (fun _=>by rw[impl_CountAsks.l0]) ?_
    refine Ev.pos (by omega) ?_
    refine Ev.pos (by omega) ?_
    refine Ev.pos (by omega) ?_
    refine Ev.now_bind (iAsks_eq _) ?_
    refine Ev.pos c ?_
    rw[w64 (n:=x+1) (by omega) (by omega)]
    simp only[e1]
    exact h
  | false =>
    refine⟨by simp;omega,fun r h=>?_⟩
    refine Ev.round (fun _=>by rw[impl_CountAsks.l0]) ?_
    refine Ev.pos (by omega) ?_
    refine Ev.pos (by omega) ?_
    refine Ev.pos (by omega) ?_
    refine Ev.now_bind (iAsks_eq _) ?_
    refine Ev.neg (ne_true_of_eq_false c) ?_
    simp only[e1]
    exact h
def pEntry (y:S51):Bool:=(decide (1≤y.f0) && decide (y.f0≤4)) && (pIn y.f2 0 999 && (if y.f0=1 then pAddr y.f1.f0 y.f1.f1 y.f1.f2 else pZero y.f1.f0 y.f1.f1 y.f1.f2))
def pEntries (l:List S51):Bool:=l.all pEntry && decide ((l.length:Int)≤16)
theorem not_any' {α:Type}(l:List α)(p:α→Bool):(!(l.any fun y=>!p y))=l.all p:=by
  rw[List.all_eq_not_any_not]
theorem not_zero (a b c:Int):(!(a == 0) || (!(b == 0) || (!(c == 0))))=!pZero a b c:=by
  unfold pZero
  cases (a == 0) <;> cases (b == 0) <;> cases (c == 0) <;> rfl
theorem lit1_eq (y:S51):impl_AreEntries_lit1.f y.f0 y.f1.f0 y.f1.f1 y.f1.f2 y.f2=some (!pEntry y):=by
  unfold impl_AreEntries_lit1.f pEntry pIn
  rw[iIsAddress_eq,InRange_eq,iAsks_eq,not_zero]
  unfold pAsks
  by_cases h1:y.f0=1
  · have e1:(decide (1≤y.f0) && decide (y.f0≤4))=true:=by simp[h1]
    rw[e1]
    simp only[h1,if_true,Option.bind_some]
    cases pAddr y.f1.f0 y.f1.f1 y.f1.f2 <;> cases (decide (0≤y.f2) && decide (y.f2≤999)) <;> rfl
  · simp only[h1,if_false,Option.bind_some]
    cases (decide (1≤y.f0) && decide (y.f0≤4)) <;> cases pZero y.f1.f0 y.f1.f1 y.f1.f2 <;> cases (decide (0≤y.f2) && decide (y.f2≤999)) <;> rfl
theorem iAreEntries_ev (l:List S51)(h:l.length≤1048576):Ev (fun k=>impl_AreEntries.f k l) (pEntries l):=by
  unfold impl_AreEntries.f pEntries
  rw[Bool.and_comm]
  refine Ev.if_and fun _=>?_
  rw[←not_any']
  refine Ev.no ?_
  unfold slices_ContainsFunc_33.f
  have hf:∃ r:Int,Ev (fun k=>slices_IndexFunc_33.l0 k l (l.length:Int) 0) r∧decide (r≥0)=l.any (fun y=>!pEntry y):=by
    refine ev_find (fun k i=>slices_IndexFunc_33.l0 k l (l.length:Int) i) l z51 (fun y=>!pEntry y) (fun k=>by rw[slices_IndexFunc_33.l0,if_neg (by omega)]) ?_ ?_
    · intro i hi hp
      refine Ev.round (fun _=>by rw[slices_IndexFunc_33.l0]) ?_
      refine Ev.pos (by omega) ?_
      refine Ev.pos (by omega) ?_
      refine Ev.pos (by omega) ?_
      refine Ev.now_bind (lit1_eq (rd_T51 l (i:Int))) ?_
      refine Ev.pos hp ?_
      exact Ev.now _
    · intro i hi hp r hr
      have e1:wrap64 ((i:Int)+1)=((i+1:Nat):Int):=by rw[w64 (by omega) (by omega)];omega
      refine Ev.round (fun _=>by rw[slices_IndexFunc_33.l0]) ?_
      refine Ev.pos (by omega) ?_
      refine Ev.pos (by omega) ?_
      refine Ev.pos (by omega) ?_
      refine Ev.now_bind (lit1_eq (rd_T51 l (i:Int))) ?_
      refine Ev.neg (ne_true_of_eq_false hp) ?_
      simp only[e1]
      exact hr
  obtain⟨r,hr,hd⟩:=hf
  rw[←hd]
  exact Ev.bind hr (Ev.now _)
def pNe (x y:S51):Bool:=(!((x.f0) == (y.f0)) || ((!((x.f1.f0) == (y.f1.f0)) || (!((x.f1.f1) == (y.f1.f1)) || (!((x.f1.f2) == (y.f1.f2))))) || (!((x.f2) == (y.f2)))))
def pEqEntries (a b:List S51):Bool:=decide ((a.length:Int)=(b.length:Int)) && (a.zip b).all fun q=>!pNe q.1 q.2
theorem iEqualEntries_ev (a b:List S51)(h:a.length≤1048576):Ev (fun k=>impl_EqualEntries.f k a b) (pEqEntries a b):=by
  unfold impl_EqualEntries.f
  refine Ev.id ?_
  unfold impl_Entry.f pEqEntries
  refine Ev.if_and fun hl=>?_
  refine ev_all2 (fun k i=>impl_Entry.l0 k a b (a.length:Int) i) a b z51 (fun x y=>!pNe x y) (by omega) (fun k=>by rw[impl_Entry.l0,if_neg (by omega)]) ?_ ?_
  · intro i hi hp r hr
    have e1:wrap64 ((i:Int)+1)=((i+1:Nat):Int):=by rw[w64 (by omega) (by omega)];omega
    have hp':pNe (rd_T51 a (i:Int)) (rd_T51 b (i:Int))=false:=(Bool.not_eq_true' _).mp hp
    refine Ev.round (fun _=>by rw[impl_Entry.l0]) ?_
    refine Ev.pos (by omega) ?_
    refine Ev.pos (by omega) ?_
    refine Ev.pos (by omega) ?_
    refine Ev.pos (by omega) ?_
    refine Ev.neg (ne_true_of_eq_false hp') ?_
    simp only[e1];exact hr
  · intro i hi hp
    have hp':pNe (rd_T51 a (i:Int)) (rd_T51 b (i:Int))=true:=(Bool.not_eq_false' _).mp hp
    refine Ev.round (fun _=>by rw[impl_Entry.l0]) ?_
    refine Ev.pos (by omega) ?_
    refine Ev.pos (by omega) ?_
    refine Ev.pos (by omega) ?_
    refine Ev.pos (by omega) ?_
    refine Ev.pos hp' ?_
    exact Ev.now _
theorem iFmt_ok (n:Int)(h:-9223372036854775808≤n∧n≤9223372036854775807):∃ D:ByteArray,impl_FormatInt.f n=some D∧D.size≤21:=by
  unfold impl_FormatInt.f
  rw[if_pos h]
  refine⟨_,rfl,?_⟩
  have e:=Lib.itoa_length_le n h.1 h.2
  show(Lib.itoa n).toArray.size≤21
  rw[List.size_toArray]
  exact e
theorem op_cases1 (k:Int):(k < 0∨9 < k)∨k=0∨k=1∨k=2∨k=3∨k=4∨k=5∨k=6∨k=7∨k=8∨k=9:=by omega
theorem iOpName_ok (k:Int):∃ D:ByteArray,impl_OpName.f k=some D∧D.size≤6:=by
  unfold impl_OpName.f
  rw[Option.bind_some,at_eq]
  rcases op_cases1 k with h | h | h | h | h | h | h | h | h | h | h
  · have e:(decide (0≤k) && decide (k < ((([(⟨#[]⟩:ByteArray),(⟨#[102,101,116,99,104]⟩:ByteArray),(⟨#[99,108,111,99,107]⟩:ByteArray),(⟨#[114,97,110,100,111,109]⟩:ByteArray),(⟨#[105,110,112,117,116]⟩:ByteArray),(⟨#[97,100,100]⟩:ByteArray),(⟨#[112,117,116]⟩:ByteArray),(⟨#[115,107,105,112]⟩:ByteArray),(⟨#[103,101,116]⟩:ByteArray),(⟨#[107,101,101,112]⟩:ByteArray)]:List ByteArray)).length:Int)))=false:=by simp;omega
    rw[e]
    exact⟨_,rfl,by decide⟩
  all_goals (subst h;exact⟨_,rfl,by decide⟩)
theorem sz1 (x:UInt8):(⟨#[x]⟩:ByteArray).size=1:=rfl
theorem szapp (a b:ByteArray):(a++b).size=a.size+b.size:=ByteArray.size_append
theorem iAT_ok (a b c:Int)(ha:0≤a∧a≤1000)(hb:0≤b∧b≤1000)(hc:0≤c∧c≤1000):∃ D:ByteArray,impl_AddressText.f a b c=some D∧D.size≤65:=by
  obtain⟨A,ea,la⟩:=iFmt_ok a (by omega)
  obtain⟨B,eb,lb⟩:=iFmt_ok b (by omega)
  obtain⟨C,ec,lc⟩:=iFmt_ok c (by omega)
  unfold impl_AddressText.f
  rw[iIsAddress_eq,Option.bind_some]
  by_cases h:pAddr a b c=true
  · rw[if_pos h,ea,Option.bind_some,if_pos (by omega),eb,Option.bind_some,if_pos (by rw[szapp,sz1];omega)]
    by_cases hz:c=0
    · rw[if_pos hz]
      exact⟨_,rfl,by rw[szapp,szapp,sz1];omega⟩
    · rw[if_neg hz,ec,Option.bind_some,if_pos (by omega),if_pos (by rw[szapp,szapp,szapp,sz1,sz1];omega)]
      exact⟨_,rfl,by rw[szapp,szapp,szapp,szapp,sz1,sz1];omega⟩
  · rw[if_neg h]
    exact⟨_,rfl,by decide⟩
theorem not_nil {D:ByteArray}(h:1≤D.size):¬D.toList=([]:List UInt8):=by
  intro e
  rw[ByteArray.toList_eq] at e
  have e2:D.data.toList.length=0:=by rw[e];rfl
  have e3:D.size=D.data.toList.length:=rfl
  omega
theorem iET_ok (k a b c v:Int)(ha:0≤a∧a≤1000)(hb:0≤b∧b≤1000)(hc:0≤c∧c≤1000)(hv:0≤v∧v≤1000):∃ D:ByteArray,impl_EntryText.f k a b c v=some D∧¬D.toList=([]:List UInt8):=by
  obtain⟨O,eo,lo⟩:=iOpName_ok k
  obtain⟨A,ea,la⟩:=iAT_ok a b c ha hb hc
  obtain⟨V,ev,lv⟩:=iFmt_ok v (by omega)
  unfold impl_EntryText.f
  rw[eo,Option.bind_some,iIsAddress_eq,Option.bind_some]
  by_cases h:pAddr a b c=true
  · rw[if_pos h,ea,Option.bind_some,if_pos (by omega),if_pos (by rw[szapp,sz1];omega),if_pos (by rw[szapp,szapp,sz1];omega),ev,Option.bind_some,if_pos (by rw[szapp,szapp,szapp,sz1,sz1];omega)]
    exact⟨_,rfl,not_nil (by rw[szapp,szapp,szapp,szapp,sz1,sz1];omega)⟩
  · rw[if_neg h,if_pos (by omega),ev,Option.bind_some,if_pos (by rw[szapp,sz1];omega)]
    exact⟨_,rfl,not_nil (by rw[szapp,szapp,sz1];omega)⟩
theorem entry_small {e:S51}(h:pEntry e=true):(0≤e.f1.f0∧e.f1.f0≤1000)∧(0≤e.f1.f1∧e.f1.f1≤1000)∧(0≤e.f1.f2∧e.f1.f2≤1000)∧0≤e.f2∧e.f2≤1000:=by
  unfold pEntry at h
  simp only[Bool.and_eq_true,decide_eq_true_eq,pIn] at h
  obtain⟨_,h2,h3⟩:=h
  by_cases c:e.f0=1
  · rw[if_pos c] at h3
    unfold pAddr at h3
    simp only[Bool.and_eq_true,decide_eq_true_eq,pIn] at h3
    omega
  · rw[if_neg c] at h3
    unfold pZero at h3
    simp only[Bool.and_eq_true,beq_iff_eq] at h3
    omega
theorem pValIn (k:Int)(b:List Int)(h p q:Int):0≤pVal k b h p q∧pVal k b h p q≤999:=by
  unfold pVal
  split
  · split
    · omega
    · omega
  · omega
theorem pVal_pos (k:Int)(b:List Int)(h p q:Int):pVal k b h p q > 0↔(pRes k b h p q=true∧k≤2):=by
  have hk:pRes k b h p q=true→(k=1∨k=2)∨k=3∨k=4:=by
    intro hr
    unfold pRes at hr
    by_cases c:k=1∨k=2
    · exact Or.inl c
    · rw[if_neg c] at hr
      by_cases c3:k=3
      · exact Or.inr (Or.inl c3)
      · rw[if_neg c3] at hr
        by_cases c4:k=4
        · exact Or.inr (Or.inr c4)
        · rw[if_neg c4] at hr
          exact absurd hr (by simp)
  unfold pVal
  by_cases c:pRes k b h p q=true∧(k=1∨k=2)
  · rw[if_pos c]
    have hge:0≤pSum b % 1000:=Int.emod_nonneg _ (by omega)
    refine⟨fun _=>⟨c.1,by omega⟩,fun _=>?_⟩
    split <;> omega
  · rw[if_neg c]
    refine⟨fun h=>absurd h (by omega),fun h=>?_⟩
    rcases hk h.1 with h2 | h2
    · exact absurd ⟨h.1,h2⟩ c
    · omega
theorem pLive_in (s:List S96)(tk sd:Int)(ins:List Int)(w0 w1 w2 w3 n:Int):0≤pLive s tk sd ins w0 w1 w2 w3 n∧pLive s tk sd ins w0 w1 w2 w3 n≤999:=by
  unfold pLive
  by_cases c:pVisit s tk sd ins=true∧pIn n 0 100=true
  · rw[if_pos c]
    have hv:=c.1
    have hn:=c.2
    unfold pVisit at hv
    simp only[pIn,Bool.and_eq_true,decide_eq_true_eq,List.all_eq_true] at hv hn
    obtain⟨_,ht,_,_,hi⟩:=hv
    by_cases c1:w0=1
    · rw[if_pos c1]
      exact pValIn _ _ _ _ _
    rw[if_neg c1]
    by_cases c2:w0=2
    · rw[if_pos c2,w64 (by omega) (by omega)]
      unfold mn
      split <;> omega
    rw[if_neg c2]
    by_cases c3:w0=3
    · rw[if_pos c3]
      unfold pMod
      rw[if_pos (by omega)]
      generalize pHash [sd,n]=m
      have h1:-1000 < Int.tmod m 1000∧Int.tmod m 1000 < 1000:=by
        rcases Int.le_total 0 m with h | h
        · rw[Int.tmod_eq_emod_of_nonneg h]
          omega
        · obtain⟨u,rfl⟩:∃ u:Int,m = -u:=⟨-m,by omega⟩
          rw[Int.neg_tmod,Int.tmod_eq_emod_of_nonneg (by omega:0≤u)]
          omega
      rw[w64 (by omega) (by omega),Int.tmod_eq_emod_of_nonneg (by omega)]
      omega
    rw[if_neg c3]
    by_cases c4:w0=4
    · rw[if_pos c4]
      split
      · exact rd_in hi _
      · omega
    · rw[if_neg c4]
      omega
  · rw[if_neg c]
    omega
theorem pLive_none {s:List S96}{tk sd:Int}{ins:List Int}(h:pVisit s tk sd ins=false)(w0 w1 w2 w3 n:Int):pLive s tk sd ins w0 w1 w2 w3 n=0:=by
  unfold pLive
  rw[if_neg (by rw[h];simp)]
def ansOf (s:List S96)(u:Int)(y:S46):Rsc:=pAnswer s y.f0 y.f1 y.f2 u
def Links (s:List S96)(u:Int)(c:List S46):Prop:=∀ i,i+1 < c.length→(ansOf s u (c.getD i z46)).1=3∧(⟨(ansOf s u (c.getD i z46)).2.2.1,(ansOf s u (c.getD i z46)).2.2.2.1,(ansOf s u (c.getD i z46)).2.2.2.2⟩:S46)=c.getD (i+1) z46
def Apart (c:List S46):Prop:=∀ i k,k < i→i < c.length→c.getD i z46≠c.getD k z46
theorem getD_app {α:Type}(c e:List α)(i:Nat)(d:α)(h:i < c.length):(c++e).getD i d=c.getD i d:=by
  simp[List.getD_eq_getElem?_getD,List.getElem?_append,h]
theorem getD_last {α:Type}(c:List α)(z d:α):(c++[z]).getD c.length d=z:=by
  simp[List.getD_eq_getElem?_getD]
theorem trail_ok (s:List S96)(u:Int)(z0:S46):∀ (n:Nat) (c:List S46) (r:Rsc),0 < c.length→c.length+n=5→c.getD 0 z46=z0→r=ansOf s u (c.getD (c.length - 1) z46)→Links s u c→Apart c →
    ∃ C:List S46,∃ f:Rsc,pTrail s u n c r=(f.1,f.2.1,f.2.2.1,f.2.2.2.1,f.2.2.2.2,C)∧0 < C.length∧C.length≤5∧C.getD 0 z46=z0∧f=ansOf s u (C.getD (C.length - 1) z46)∧Links s u C∧Apart C:=by
  intro n
  induction n with
  | zero =>
    intro c r h0 h5 hz hr hl ha
    exact⟨c,r,rfl,h0,by omega,hz,hr,hl,ha⟩
  | succ n ih =>
    intro c r h0 h5 hz hr hl ha
    unfold pTrail
    by_cases hc:r.1=3∧pHasA c r.2.2.1 r.2.2.2.1 r.2.2.2.2=false
    · rw[if_pos hc]
      have hlen:(c++[(⟨r.2.2.1,r.2.2.2.1,r.2.2.2.2⟩:S46)]).length=c.length+1:=by rw[List.length_append,List.length_singleton]
      refine ih _ _ (by omega) (by omega) ?_ ?_ ?_ ?_
      · rw[getD_app c _ 0 _ h0]
        exact hz
      · rw[hlen,Nat.add_sub_cancel,getD_last]
        rfl
      · intro i hi
        rw[hlen] at hi
        rw[getD_app c _ i _ (by omega)]
        by_cases he:i+1 < c.length
        · rw[getD_app c _ (i+1) _ he]
          exact hl i he
        · have e:i+1=c.length:=by omega
          have e2:i=c.length - 1:=by omega
          rw[e,getD_last,e2,←hr]
          exact⟨hc.1,rfl⟩
      · intro i k hk hi
        rw[hlen] at hi
        rw[getD_app c _ k _ (by omega)]
        by_cases he:i < c.length
        · rw[getD_app c _ i _ he]
          exact ha i k hk he
        · have e:i=c.length:=by omega
          rw[e,getD_last]
          have hh:=hc.2
          unfold pHasA at hh
          rw[List.any_eq_false] at hh
          have hm:=hh _ (getD_mem c k (by omega) z46)
          intro hq
          apply hm
          rw[←hq]
          simp
    · rw[if_neg hc]
      exact⟨c,r,rfl,h0,by omega,hz,hr,hl,ha⟩
theorem follow_ok (s:List S96)(a p q u:Int):∃ C:List S46,∃ f:Rsc,pFollow s a p q u=(f.1,f.2.1,f.2.2.1,f.2.2.2.1,f.2.2.2.2,C)∧0 < C.length∧C.length≤5∧C.getD 0 z46=⟨a,p,q⟩∧f=ansOf s u (C.getD (C.length - 1) z46)∧Links s u C∧Apart C:=by
  unfold pFollow
  refine trail_ok s u ⟨a,p,q⟩ 4 [⟨a,p,q⟩] _ (by simp) rfl rfl rfl ?_ ?_
  · intro i hi
    simp at hi
  · intro i k hk hi
    simp at hi
    omega
/-- The n-th entry of a recording: valid, and its value is what the visit answers. -/
def EntryAt (s:List S96)(tk sd:Int)(ins:List Int)(n:Nat)(e:S51):Prop:=pEntry e=true∧e.f2=pLive s tk sd ins e.f0 e.f1.f0 e.f1.f1 e.f1.f2 (n:Int)
def EntriesOk (s:List S96)(tk sd:Int)(ins:List Int)(es:List S51):Prop:=∀ n,n < es.length→EntryAt s tk sd ins n (es.getD n z51)
theorem entries_snoc {s:List S96}{tk sd:Int}{ins:List Int}{es:List S51}{e:S51}(h:EntriesOk s tk sd ins es)(he:EntryAt s tk sd ins es.length e):EntriesOk s tk sd ins (es++[e]):=by
  intro n hn
  rw[List.length_append,List.length_singleton] at hn
  by_cases c:n < es.length
  · rw[getD_app _ _ _ _ c]
    exact h n c
  · obtain rfl:n=es.length:=by omega
    rw[getD_last]
    exact he
theorem pWant_zero (l:List S66)(a:Int)(r s n:List Int)(h:¬(pWant l a r s n).1=1):pZero (pWant l a r s n).2.1 (pWant l a r s n).2.2.1 (pWant l a r s n).2.2.2=true:=by
  unfold pWant at h ⊢
  by_cases c:pCan l a r s n=true∧pAsks (rd_T66 l a).f0=true
  · rw[if_pos c] at h ⊢
    by_cases c1:(rd_T66 l a).f0=1
    · rw[if_pos c1] at h
      exact absurd c1 h
    · rw[if_neg c1]
      rfl
  · rw[if_neg c]
    rfl
theorem want_entry (l:List S66)(s:List S96)(tk sd:Int)(ins:List Int)(es:List S51)(z:Int×List Int×List Int×List Int)(hc:pCan l z.1 z.2.1 z.2.2.1 z.2.2.2=true)(hw:¬(pWant l z.1 z.2.1 z.2.2.1 z.2.2.2).1=0):EntryAt s tk sd ins es.length ⟨(pWant l z.1 z.2.1 z.2.2.1 z.2.2.2).1,⟨(pWant l z.1 z.2.1 z.2.2.1 z.2.2.2).2.1,(pWant l z.1 z.2.1 z.2.2.1 z.2.2.2).2.2.1,(pWant l z.1 z.2.1 z.2.2.1 z.2.2.2).2.2.2⟩,pSeen.pAns l s tk sd ins es z⟩:=by
  have hn:=pWant_nn l z.1 z.2.1 z.2.2.1 z.2.2.2 hc
  obtain⟨h1,h2⟩:=pWant_ok l z.1 z.2.1 z.2.2.1 z.2.2.2 hc (by omega)
  have h3:=pLive_in s tk sd ins (pWant l z.1 z.2.1 z.2.2.1 z.2.2.2).1 (pWant l z.1 z.2.1 z.2.2.1 z.2.2.2).2.1 (pWant l z.1 z.2.1 z.2.2.1 z.2.2.2).2.2.1 (pWant l z.1 z.2.1 z.2.2.1 z.2.2.2).2.2.2 (es.length:Int)
  have h4:=pWant_zero l z.1 z.2.1 z.2.2.1 z.2.2.2
  refine⟨?_,rfl⟩
  unfold pEntry pSeen.pAns
  generalize (pWant l z.1 z.2.1 z.2.2.1 z.2.2.2)=q at h1 h2 h3 h4 ⊢
  unfold pAsks at h1
  dsimp only
  simp only[Bool.and_eq_true,decide_eq_true_eq,pIn] at h1 ⊢
  refine⟨h1,h3,?_⟩
  by_cases c:q.1=1
  · rw[if_pos c]
    exact h2 c
  · rw[if_neg c]
    exact h4 c
theorem pSeen_ok (l:List S66)(s:List S96)(tk sd:Int)(ins:List Int)(hs:pScript l=true):∀ (m:Nat) (es:List S51) (tr:List S33) (z:Int×List Int×List Int×List Int),StOk z→(es.length:Int)≤z.1→es.length≤l.length→EntriesOk s tk sd ins es →
    (pSeen l s tk sd ins m es tr z).1.length≤l.length∧EntriesOk s tk sd ins (pSeen l s tk sd ins m es tr z).1:=by
  intro m
  induction m with
  | zero=>intro es tr z hz h1 h2 h3;exact⟨h2,h3⟩
  | succ m ih =>
    intro es tr z hz h1 h2 h3
    rw[pSeen]
    by_cases c1:(l.length:Int)≤z.1
    · rw[if_pos c1]
      exact⟨h2,h3⟩
    rw[if_neg c1]
    have hc:=can_of hs hz c1
    by_cases c2:(pWant l z.1 z.2.1 z.2.2.1 z.2.2.2).1=0
    · rw[if_pos c2]
      obtain⟨hk,hp,_⟩:=pStep_ok l z.1 z.2.1 z.2.2.1 z.2.2.2 0 hc
      exact ih es _ _ hk (by omega) h2 h3
    · rw[if_neg c2]
      obtain⟨hk,hp,_⟩:=pStep_ok l z.1 z.2.1 z.2.2.1 z.2.2.2 (pSeen.pAns l s tk sd ins es z) hc
      exact ih _ _ _ hk (by rw[List.length_append,List.length_singleton];omega) (by rw[List.length_append,List.length_singleton];omega) (entries_snoc h3 (want_entry l s tk sd ins es z hc c2))
theorem pVis_ok (l:List S66)(s:List S96)(tk sd:Int)(ins:List Int):(pVis l s tk sd ins).1.length≤16∧EntriesOk s tk sd ins (pVis l s tk sd ins).1∧((pVis l s tk sd ins).1.length≠0→pVisit s tk sd ins=true):=by
  unfold pVis
  split
  · rename_i h
    have hl:=pScript_len h.1
    obtain⟨h1,h2⟩:=pSeen_ok l s tk sd ins h.1 40 [] [⟨0,[0,0,0,0],[0,0,0],[0,0,0,0]⟩] z0 z0_ok (by simp[z0]) (by simp) (fun n hn=>absurd hn (by simp))
    exact⟨by omega,h2,fun _=>h.2⟩
  · exact⟨by simp,fun n hn=>absurd hn (by simp),fun h=>absurd rfl h⟩
abbrev stOf (z:Int×List Int×List Int×List Int):S33:=⟨z.1,z.2.1,z.2.2.1,z.2.2.2⟩
theorem pSeen_pre (l:List S66)(s:List S96)(tk sd:Int)(ins:List Int):∀ (m:Nat) (es:List S51) (tr:List S33) (z:Int×List Int×List Int×List Int),(∃ f,(pSeen l s tk sd ins m es tr z).1=es++f)∧∃ g,(pSeen l s tk sd ins m es tr z).2=tr++g:=by
  intro m
  induction m with
  | zero=>intro es tr z;exact⟨⟨[],by simp[pSeen]⟩,[],by simp[pSeen]⟩
  | succ m ih =>
    intro es tr z
    rw[pSeen]
    split
    · exact⟨⟨[],by simp⟩,[],by simp⟩
    split
    · obtain⟨⟨f,hf⟩,g,hg⟩:=ih es (tr++[stOf (pStep l z.1 z.2.1 z.2.2.1 z.2.2.2 0)]) (pStep l z.1 z.2.1 z.2.2.1 z.2.2.2 0)
      exact⟨⟨f,hf⟩,_,by rw[hg,List.append_assoc]⟩
    · obtain⟨⟨f,hf⟩,g,hg⟩:=ih (es++[⟨(pWant l z.1 z.2.1 z.2.2.1 z.2.2.2).1,⟨(pWant l z.1 z.2.1 z.2.2.1 z.2.2.2).2.1,(pWant l z.1 z.2.1 z.2.2.1 z.2.2.2).2.2.1,(pWant l z.1 z.2.1 z.2.2.1 z.2.2.2).2.2.2⟩,pSeen.pAns l s tk sd ins es z⟩]) (tr++[stOf (pStep l z.1 z.2.1 z.2.2.1 z.2.2.2 (pSeen.pAns l s tk sd ins es z))]) (pStep l z.1 z.2.1 z.2.2.1 z.2.2.2 (pSeen.pAns l s tk sd ins es z))
      exact⟨⟨_,by rw[hf,List.append_assoc]⟩,_,by rw[hg,List.append_assoc]⟩
theorem pSeen_end (l:List S66)(s:List S96)(tk sd:Int)(ins:List Int)(hs:pScript l=true):∀ (m:Nat) (es:List S51) (tr:List S33) (z:Int×List Int×List Int×List Int),StOk z→(l.length:Int) - z.1≤(m:Int)→(∃ t0,tr=t0++[stOf z]) →
    ∃ z' t1,(pSeen l s tk sd ins m es tr z).2=t1++[stOf z']∧(l.length:Int)≤z'.1∧StOk z':=by
  intro m
  induction m with
  | zero=>intro es tr z hz hm ht;obtain⟨t0,e⟩:=ht;exact⟨z,t0,e,by omega,hz⟩
  | succ m ih =>
    intro es tr z hz hm ht
    rw[pSeen]
    by_cases c1:(l.length:Int)≤z.1
    · rw[if_pos c1]
      obtain⟨t0,e⟩:=ht
      exact⟨z,t0,e,c1,hz⟩
    rw[if_neg c1]
    have hc:=can_of hs hz c1
    split
    · obtain⟨hk,hp,_⟩:=pStep_ok l z.1 z.2.1 z.2.2.1 z.2.2.2 0 hc
      exact ih _ _ _ hk (by omega) ⟨_,rfl⟩
    · obtain⟨hk,hp,_⟩:=pStep_ok l z.1 z.2.1 z.2.2.1 z.2.2.2 (pSeen.pAns l s tk sd ins es z) hc
      exact ih _ _ _ hk (by omega) ⟨_,rfl⟩
def asksN (l:List S66):Nat:=l.countP fun y=>pAsks y.f0
theorem asks_fold:∀ (l:List S66) (c:Int),0≤c→c+(l.length:Int)≤1048576→l.foldl stepAsks c=c+(asksN l:Int):=by
  intro l
  induction l with
  | nil=>intro c _ _;simp[asksN]
  | cons y l ih =>
    intro c h0 h1
    rw[List.length_cons] at h1
    rw[List.foldl_cons]
    by_cases h:pAsks y.f0=true
    · have e:stepAsks c y=c+1:=by unfold stepAsks;rw[if_pos h]
      rw[e,ih (c+1) (by omega) (by omega)]
      simp only[asksN,List.countP_cons,h,if_true]
      omega
    · have e:stepAsks c y=c:=by unfold stepAsks;rw[if_neg h]
      rw[e,ih c h0 (by omega)]
      simp only[asksN,List.countP_cons,h]
      simp
theorem asks_take (l:List S66){a b:Nat}(h:a≤b):asksN (l.take a)≤asksN (l.take b):=by
  have e:l.take a=(l.take b).take a:=by rw[List.take_take,Nat.min_eq_left h]
  rw[e]
  exact List.Sublist.countP_le (List.take_sublist _ _)
theorem asks_all (l:List S66)(a:Nat):asksN (l.take a)≤asksN l:=List.Sublist.countP_le (List.take_sublist _ _)
theorem asks_one (l:List S66)(a:Nat)(h:a < l.length)(c:pAsks (l.getD a z66).f0=true):asksN (l.take a)+1≤asksN (l.take (a+1)):=by
  have e:l.take (a+1)=l.take a++[l.getD a z66]:=by
    rw[List.take_add_one,List.getD_eq_getElem?_getD,List.getElem?_eq_getElem h]
    rfl
  rw[e]
  unfold asksN
  rw[List.countP_append]
  simp only[List.countP_cons,List.countP_nil,c,if_true]
  omega
theorem want_asks (l:List S66)(a:Int)(r s n:List Int)(h:¬(pWant l a r s n).1=0):pAsks (rd_T66 l a).f0=true:=by
  unfold pWant at h
  split at h
  · rename_i c;exact c.2
  · exact absurd rfl h
theorem pSeen_asks (l:List S66)(s:List S96)(tk sd:Int)(ins:List Int)(hs:pScript l=true):∀ (m:Nat) (es:List S51) (tr:List S33) (z:Int×List Int×List Int×List Int),StOk z→es.length≤asksN (l.take z.1.toNat)→(pSeen l s tk sd ins m es tr z).1.length≤asksN l:=by
  intro m
  induction m with
  | zero=>intro es tr z hz h;exact Nat.le_trans h (asks_all l _)
  | succ m ih =>
    intro es tr z hz h
    rw[pSeen]
    by_cases c1:(l.length:Int)≤z.1
    · rw[if_pos c1]
      exact Nat.le_trans h (asks_all l _)
    rw[if_neg c1]
    have hc:=can_of hs hz c1
    obtain⟨f1,f2,_⟩:=pCan_facts hc
    by_cases c2:(pWant l z.1 z.2.1 z.2.2.1 z.2.2.2).1=0
    · rw[if_pos c2]
      obtain⟨hk,hp,_⟩:=pStep_ok l z.1 z.2.1 z.2.2.1 z.2.2.2 0 hc
      exact ih _ _ _ hk (Nat.le_trans h (asks_take l (by omega)))
    · rw[if_neg c2]
      obtain⟨hk,hp,_⟩:=pStep_ok l z.1 z.2.1 z.2.2.1 z.2.2.2 (pSeen.pAns l s tk sd ins es z) hc
      refine ih _ _ _ hk ?_
      have h1:=asks_one l z.1.toNat (by omega) (want_asks l z.1 z.2.1 z.2.2.1 z.2.2.2 c2)
      have h2:=asks_take l (a:=z.1.toNat+1) (b:=(pStep l z.1 z.2.1 z.2.2.1 z.2.2.2 (pSeen.pAns l s tk sd ins es z)).1.toNat) (by omega)
      rw[List.length_append,List.length_singleton]
      omega
theorem pEqSt_self (z:Int×List Int×List Int×List Int):pEqStates z.1 z.2.1 z.2.2.1 z.2.2.2 z.1 z.2.1 z.2.2.1 z.2.2.2=true:=by
  unfold pEqStates
  simp
theorem rec_j4 (l:List S66)(s:List S96)(tk sd:Int)(ins:List Int)(E:List S51)(T:List S33)(z z':Int×List Int×List Int×List Int)(v n':Int)(i:Nat)(hl:l.length≤1048576)(hz:StOk z)(hz':StOk z')(e:pStep l z.1 z.2.1 z.2.2.1 z.2.2.2 v=z')(h0:rd_T33 T (i:Int)=stOf z)(h1:rd_T33 T ((i+1:Nat):Int)=stOf z')(hlt:i+1 < T.length)(hT:T.length≤41)(hn:Ev (fun k=>laws_FnRecordings.l0 k l E T n' ((i+1:Nat):Int) s tk sd ins) true):Ev (fun k=>laws_FnRecordings.j4 k l E T n' (i:Int) v s tk sd ins) true:=by
  have e1:wrap64 ((i:Int)+1)=((i+1:Nat):Int):=by rw[w64 (by omega) (by omega)];omega
  obtain⟨g1,g2,g3⟩:=StOk_len hz
  obtain⟨k1,k2,k3⟩:=StOk_len hz'
  refine Ev.round (fun _=>by rw[laws_FnRecordings.j4]) ?_
  simp only[e1,h0,h1]
  refine Ev.pos (by omega) ?_
  refine Ev.pos (by omega) ?_
  refine Ev.pos (by omega) ?_
  refine Ev.pos (by omega) ?_
  refine Ev.bind (iStep_ev l z.1 z.2.1 z.2.2.1 z.2.2.2 v hl (by omega) (by omega) (by omega)) ?_
  rw[e]
  have q:=iEqualStates_ev z'.1 z'.2.1 z'.2.2.1 z'.2.2.2 z'.1 z'.2.1 z'.2.2.1 z'.2.2.2 (by omega) (by omega) (by omega)
  rw[pEqSt_self] at q
  exact Ev.bind q (Ev.pos rfl hn)
theorem nat_facts {a b:Nat}(h:a < b):¬((a:Int)≥(b:Int))∧0≤(a:Int)∧(a:Int) < (b:Int):=by omega
theorem rec_loop (l:List S66)(s:List S96)(tk sd:Int)(ins:List Int)(hs:pScript l=true)(h:s.length≤1048576)(hf:∀ y∈s,FitimplVersion y)(hi:ins.length≤1048576)(E:List S51)(T:List S33)(hE:E.length≤40)(hT:T.length≤41)(hfin:Ev (fun k=>laws_FnRecordings.l1 k E (E.length:Int) 0) true) :
    ∀ (m:Nat) (es:List S51) (t0:List S33) (z:Int×List Int×List Int×List Int),StOk z→E=(pSeen l s tk sd ins m es (t0++[stOf z]) z).1→T=(pSeen l s tk sd ins m es (t0++[stOf z]) z).2→Ev (fun k=>laws_FnRecordings.l0 k l E T (es.length:Int) (t0.length:Int) s tk sd ins) true:=by
  have hl:=pScript_len hs
  have stop:∀ (es:List S51) (t0:List S33) (z:Int×List Int×List Int×List Int),E=es→T=t0++[stOf z]→Ev (fun k=>laws_FnRecordings.l0 k l E T (es.length:Int) (t0.length:Int) s tk sd ins) true:=by
    intro es t0 z e1 e2
    have hlen:T.length=t0.length+1:=by rw[e2,List.length_append,List.length_singleton]
    have e3:wrap64 ((t0.length:Int)+1)=(t0.length:Int)+1:=w64 (by omega) (by omega)
    refine Ev.round (fun _=>by rw[laws_FnRecordings.l0]) ?_
    refine Ev.neg (by rw[e3];omega) ?_
    rw[←e1]
    exact hfin
  intro m
  induction m with
  | zero=>intro es t0 z hz h1 h2;exact stop es t0 z h1 h2
  | succ m ih =>
    intro es t0 z hz h1 h2
    rw[pSeen] at h1 h2
    by_cases c1:(l.length:Int)≤z.1
    · rw[if_pos c1] at h1 h2
      exact stop es t0 z h1 h2
    rw[if_neg c1] at h1 h2
    have hc:=can_of hs hz c1
    have hw0:=pWant_nn l z.1 z.2.1 z.2.2.1 z.2.2.2 hc
    obtain⟨g1,g2,g3⟩:=StOk_len hz
    have iW:=iWant_ev l z.1 z.2.1 z.2.2.1 z.2.2.2 (by omega) (by omega) (by omega) (by omega)
    have iL:Ev (fun k=>impl_LiveValue.f k s tk sd ins (pWant l z.1 z.2.1 z.2.2.1 z.2.2.2).1 (pWant l z.1 z.2.1 z.2.2.1 z.2.2.2).2.1 (pWant l z.1 z.2.1 z.2.2.1 z.2.2.2).2.2.1 (pWant l z.1 z.2.1 z.2.2.1 z.2.2.2).2.2.2 (es.length:Int)) (pSeen.pAns l s tk sd ins es z):=by
      unfold pSeen.pAns
      exact iLive_ev s tk sd ins (pWant l z.1 z.2.1 z.2.2.1 z.2.2.2).1 (pWant l z.1 z.2.1 z.2.2.1 z.2.2.2).2.1 (pWant l z.1 z.2.1 z.2.2.1 z.2.2.2).2.2.1 (pWant l z.1 z.2.1 z.2.2.1 z.2.2.2).2.2.2 (es.length:Int) h hf hi
    have hk0:=(pStep_ok l z.1 z.2.1 z.2.2.1 z.2.2.2 0 hc).1
    have hk1:=(pStep_ok l z.1 z.2.1 z.2.2.1 z.2.2.2 (pSeen.pAns l s tk sd ins es z) hc).1
    generalize pSeen.pAns l s tk sd ins es z=v at h1 h2 iL hk1
    generalize ep0:pStep l z.1 z.2.1 z.2.2.1 z.2.2.2 0=q at h1 h2 hk0
    generalize ep1:pStep l z.1 z.2.1 z.2.2.1 z.2.2.2 v=q2 at h1 h2 hk1
    generalize pWant l z.1 z.2.1 z.2.2.1 z.2.2.2=w at h1 h2 iL iW hw0
    have two:∀ (z':Int×List Int×List Int×List Int) (g:List S33),T=(t0++[stOf z])++[stOf z']++g→(rd_T33 T (t0.length:Int)=stOf z∧rd_T33 T ((t0.length+1:Nat):Int)=stOf z')∧t0.length+1 < T.length:=by
      intro z' g e
      refine⟨⟨?_,?_⟩,by rw[e];simp⟩
      · show T.getD t0.length z33=_
        rw[e,getD_app _ _ _ _ (by simp),getD_app _ _ _ _ (by simp),getD_last]
      · show T.getD (t0.length+1) z33=_
        have e3:t0.length+1=(t0++[stOf z]).length:=by simp
        rw[e,getD_app _ _ _ _ (by simp),e3,getD_last]
    have lt1:∀ n:Nat,n+1 < T.length→wrap64 ((n:Int)+1) < (T.length:Int):=by
      intro n hn
      rw[w64 (by omega) (by omega)]
      omega
    by_cases c2:w.1=0
    · rw[if_pos c2] at h1 h2
      obtain⟨_,g,eg⟩:=pSeen_pre l s tk sd ins m es (t0++[stOf z]++[stOf q]) q
      obtain⟨⟨q0,q1⟩,q3⟩:=two _ g (h2.trans eg)
      have hn:=ih es (t0++[stOf z]) _ hk0 h1 h2
      have fz:=nat_facts (Nat.lt_of_succ_lt q3)
      rw[List.length_append,List.length_singleton] at hn
      refine Ev.round (fun _=>by rw[laws_FnRecordings.l0]) ?_
      simp only[q0]
      refine Ev.pos (lt1 _ q3) ?_
      refine Ev.pos fz.2.1 ?_
      refine Ev.pos fz.2.2 ?_
      refine Ev.bind iW ?_
      refine Ev.neg (by omega) ?_
      exact rec_j4 l s tk sd ins E T z q 0 _ t0.length (by omega) hz hk0 ep0 q0 q1 q3 hT hn
    · rw[if_neg c2] at h1 h2
      obtain⟨⟨f,ef⟩,g,eg⟩:=pSeen_pre l s tk sd ins m (es++[⟨w.1,⟨w.2.1,w.2.2.1,w.2.2.2⟩,v⟩]) (t0++[stOf z]++[stOf q2]) q2
      obtain⟨⟨q0,q1⟩,q3⟩:=two _ g (h2.trans eg)
      have hEe:=h1.trans ef
      have hElt:es.length < E.length:=by rw[hEe];simp
      have qe:rd_T51 E (es.length:Int)=⟨w.1,⟨w.2.1,w.2.2.1,w.2.2.2⟩,v⟩:=by
        show E.getD es.length z51=_
        rw[hEe,getD_app _ _ _ _ (by simp),getD_last]
      have hn:=ih _ (t0++[stOf z]) _ hk1 h1 h2
      rw[List.length_append,List.length_singleton,List.length_append,List.length_singleton] at hn
      have e2:wrap64 ((es.length:Int)+1)=((es.length+1:Nat):Int):=by rw[w64 (by omega) (by omega)];omega
      have fe:=nat_facts hElt
      have fz:=nat_facts (Nat.lt_of_succ_lt q3)
      have cpos:w.1 > 0:=by omega
      have hn2:=rec_j4 l s tk sd ins E T z q2 v _ t0.length (by omega) hz hk1 ep1 q0 q1 q3 hT hn
      refine Ev.round (fun _=>by rw[laws_FnRecordings.l0]) ?_
      simp only[q0,qe]
      refine Ev.pos (lt1 _ q3) ?_
      refine Ev.pos fz.2.1 ?_
      refine Ev.pos fz.2.2 ?_
      refine Ev.bind iW ?_
      refine Ev.pos cpos ?_
      refine Ev.neg fe.1 ?_
      refine Ev.pos fe.2.1 ?_
      refine Ev.pos fe.2.2 ?_
      refine Ev.pos rfl ?_
      refine Ev.neg (by simp) ?_
      refine Ev.bind iL ?_
      refine Ev.pos rfl ?_
      rw[e2]
      exact hn2
theorem pEqE_self (a:List S51):pEqEntries a a=true:=by
  unfold pEqEntries
  rw[decide_eq_true rfl,Bool.true_and,List.all_eq_true]
  intro q hq
  have e:∀ (a:List S51),∀ q∈a.zip a,q.1=q.2:=by
    intro a
    induction a with
    | nil=>intro q hq;cases hq
    | cons y a ih =>
      intro q hq
      rw[List.zip_cons_cons] at hq
      rcases List.mem_cons.1 hq with rfl | hq
      · rfl
      · exact ih q hq
  rw[e a q hq]
  unfold pNe
  simp
theorem rec_l1 (E:List S51)(hE:E.length≤40)(hp:∀ n,n < E.length→pEntry (E.getD n z51)=true):∀ (d n:Nat),n+d=E.length→Ev (fun k=>laws_FnRecordings.l1 k E (E.length:Int) (n:Int)) true:=by
  intro d
  induction d with
  | zero =>
    intro n hn
    have q:=iEqualEntries_ev E E (by omega)
    rw[pEqE_self] at q
    refine Ev.round (fun _=>by rw[laws_FnRecordings.l1]) ?_
    exact Ev.neg (by omega) (Ev.pos rfl (Ev.bind q (Ev.now _)))
  | succ d ih =>
    intro n hn
    have e1:wrap64 ((n:Int)+1)=((n+1:Nat):Int):=by rw[w64 (by omega) (by omega)];omega
    have hn2:=ih (n+1) (by omega)
    have hq:pEntry (rd_T51 E (n:Int))=true:=hp n (by omega)
    obtain⟨a1,a2,a3,a4⟩:=entry_small hq
    obtain⟨D,eD,nD⟩:=iET_ok (rd_T51 E (n:Int)).f0 (rd_T51 E (n:Int)).f1.f0 (rd_T51 E (n:Int)).f1.f1 (rd_T51 E (n:Int)).f1.f2 (rd_T51 E (n:Int)).f2 a1 a2 a3 a4
    refine Ev.round (fun _=>by rw[laws_FnRecordings.l1]) ?_
    refine Ev.pos (by omega) ?_
    refine Ev.pos (by omega) ?_
    refine Ev.now_bind eD ?_
    refine Ev.neg nD ?_
    rw[e1]
    exact hn2
theorem drawRec_any (b:List Int)(hb:b.length≤1048576):Any (fun k=>spec_DrawRecordVisit.f k b) (fun x=>x.1.length≤17∧x.2.1.length≤8∧(∀ y∈x.2.1,FitimplVersion y)∧x.2.2.2.2.length≤9):=by
  unfold spec_DrawRecordVisit.f
  refine Any.bind (aNew b hb) ?_
  intro x hx
  rw[hx.1]
  refine Any.bind (a10Any b _ _ hx.2) ?_
  intro y hy
  refine Any.bind (a12Any b _ _ hy.2) ?_
  intro z hz
  exact Any.now ⟨hy.1,hz.1,hz.2.1,hz.2.2.1⟩
theorem iEqSt_self (a:Int)(r s n:List Int)(h:r.length≤1048576)(h2:s.length≤1048576)(h3:n.length≤1048576):Ev (fun k=>impl_EqualStates.f k a r s n a r s n) true:=by
  have q:=iEqualStates_ev a r s n a r s n h h2 h3
  have e:=pEqSt_self (a,r,s,n)
  rw[e] at q
  exact q
/-- What a visit of valid arguments gives. -/
theorem vis_yes (l:List S66)(s:List S96)(tk sd:Int)(ins:List Int)(h:s.length≤1048576)(hf:∀ y∈s,FitimplVersion y)(hi:ins.length≤1048576)(hs:pScript l=true)(hv:pVisit s tk sd ins=true) :
    ((l.length:Int)≤(pLast (pVis l s tk sd ins).2).f0∧(((pVis l s tk sd ins).1.length:Int)≤pCountAsks l∧pEntries (pVis l s tk sd ins).1=true))∧(rd_T33 (pVis l s tk sd ins).2 0=stOf z0∧Ev (fun k=>laws_FnRecordings.l0 k l (pVis l s tk sd ins).1 (pVis l s tk sd ins).2 0 0 s tk sd ins) true):=by
  have hl:=pScript_len hs
  obtain⟨v1,v2,v3⟩:=pVis_ok l s tk sd ins
  obtain⟨⟨y1,y2⟩,y3,y4⟩:=pVis_tr l s tk sd ins
  have e:pVis l s tk sd ins=pSeen l s tk sd ins 40 [] ([]++[stOf z0]) z0:=by
    unfold pVis
    rw[if_pos ⟨hs,hv⟩]
    rfl
  obtain⟨z',t1,e2,hz',_⟩:=pSeen_end l s tk sd ins hs 40 [] ([]++[stOf z0]) z0 z0_ok (by show(l.length:Int) - 0≤((40:Nat):Int);omega) ⟨[],rfl⟩
  have ha:=pSeen_asks l s tk sd ins hs 40 [] ([]++[stOf z0]) z0 z0_ok (Nat.zero_le _)
  obtain⟨_,g,eg⟩:=pSeen_pre l s tk sd ins 40 [] ([]++[stOf z0]) z0
  have hca:pCountAsks l=(asksN l:Int):=by
    unfold pCountAsks
    rw[asks_fold l 0 (by omega) (by omega)]
    omega
  have hl0:=rec_loop l s tk sd ins hs h hf hi (pVis l s tk sd ins).1 (pVis l s tk sd ins).2 y3 y1 (rec_l1 _ y3 (fun n hn=>(v2 n hn).1) _ 0 (Nat.zero_add _)) 40 [] [] z0 z0_ok (by rw[e]) (by rw[e])
  refine⟨⟨?_,?_,?_⟩,?_,hl0⟩
  · have e3:(pVis l s tk sd ins).2=t1++[stOf z']:=by rw[e,e2]
    rw[e3]
    have e4:pLast (t1++[stOf z'])=stOf z':=by
      unfold pLast
      have e5:(((t1++[stOf z']).length:Nat):Int) - 1=(t1.length:Int):=by rw[List.length_append,List.length_singleton];omega
      rw[e5]
      show(t1++[stOf z']).getD t1.length z33=_
      rw[getD_last]
    rw[e4]
    exact hz'
  · rw[hca,e]
    omega
  · unfold pEntries
    rw[Bool.and_eq_true,List.all_eq_true]
    refine⟨fun y hy=>?_,decide_eq_true (by omega)⟩
    obtain⟨n,hn,en⟩:=List.mem_iff_getElem.1 hy
    have q:=(v2 n hn).1
    rw[List.getD_eq_getElem?_getD,List.getElem?_eq_getElem hn] at q
    rw[←en]
    exact q
  · have e3:(pVis l s tk sd ins).2=[]++[stOf z0]++g:=by rw[e,eg]
    rw[e3]
    rfl
theorem FnRecordings (l0:List Int)(h0:(l0.length≤maxLen∧∀ e_∈l0,(Lit.int .u8 e_).wf=true)):∃ k,laws_FnRecordings.f k l0=some true:=by
  refine Ev.rounds ?_
  unfold laws_FnRecordings.f laws_big.f
  refine Ev.now_bind rfl ?_
  by_cases hb:(l0.length:Int) > 1048576
  · exact Ev.pos (by simpa using hb) (Ev.now _)
  have hlen:l0.length≤1048576:=by omega
  refine Ev.neg (by simpa using hb) ?_
  refine Any.then_ (drawRec_any l0 hlen) ?_
  intro x hx
  obtain⟨l,s,tk,sd,ins⟩:=x
  obtain⟨h1,h2,hf,h3⟩:=hx
  dsimp only at h1 h2 hf h3 ⊢
  have hs:s.length≤1048576:=by omega
  obtain⟨⟨y1,y2⟩,y3,y4⟩:=pVis_tr l s tk sd ins
  have iR:=iRec_ev l s tk sd ins (by omega) hs hf (by omega)
  have iT:=iTraceV_ev l s tk sd ins (by omega) hs hf (by omega)
  have yes:=vis_yes l s tk sd ins hs hf (by omega)
  have no:¬(pScript l=true∧pVisit s tk sd ins=true)→(pVis l s tk sd ins).1=[]∧(pVis l s tk sd ins).2=[stOf z0]:=by
    intro c
    unfold pVis
    rw[if_neg c]
    exact⟨rfl,rfl⟩
  have iS:=iIsScript_ev l (by omega)
  have iV:=iIsVisit_ev s tk sd ins hs hf (by omega)
  have iC:=iCountAsks_ev l (by omega)
  generalize pVis l s tk sd ins=V at y1 y2 y3 y4 iR iT yes no
  obtain⟨E,T⟩:=V
  dsimp only at y1 y2 y3 y4 iR iT yes no
  have first:rd_T33 T 0=stOf z0:=by
    by_cases c:pScript l=true∧pVisit s tk sd ins=true
    · exact(yes c.1 c.2).2.1
    · rw[(no c).2]
      rfl
  obtain⟨r1,r2,r3⟩:=pLast_row y2 y4
  have e1:wrap64 ((T.length:Int) - 1)=(T.length:Int) - 1:=w64 (by omega) (by omega)
  have iE:=iEqSt_self (pLast T).f0 (pLast T).f1 (pLast T).f2 (pLast T).f3 (by omega) (by omega) (by omega)
  have iZ:=iEqSt_self z0.1 z0.2.1 z0.2.2.1 z0.2.2.2 (by decide) (by decide) (by decide)
  have hP:rd_T33 T ((T.length:Int) - 1)=pLast T:=rfl
  refine Ev.bind iR ?_
  refine Ev.bind iT ?_
  refine Ev.neg (by omega) ?_
  simp only[e1,hP,first]
  refine Ev.pos (by omega) ?_
  refine Ev.pos (by omega) ?_
  refine Ev.bind iE ?_
  refine Ev.pos rfl ?_
  refine Ev.pos (by omega) ?_
  refine Ev.now_bind iStart_eq ?_
  refine Ev.bind iZ ?_
  refine Ev.round (fun _=>by rw[laws_FnRecordings.j0]) ?_
  refine Ev.neg (by simp) ?_
  refine Ev.bind iS ?_
  by_cases cs:pScript l=true
  · refine Ev.pos cs ?_
    refine Ev.bind iV ?_
    by_cases cv:pVisit s tk sd ins=true
    · obtain⟨⟨w1,w2,w3⟩,_,w4⟩:=yes cs cv
      have iA:=iAreEntries_ev E (by omega)
      rw[w3] at iA
      refine Ev.round (fun _=>by rw[laws_FnRecordings.j1]) ?_
      refine Ev.neg (by rw[cv];simp) ?_
      refine Ev.bind iA ?_
      refine Ev.pos rfl ?_
      refine Ev.bind iC ?_
      refine Ev.neg (by omega) ?_
      refine Ev.now_bind (show impl_IsDone.f l (pLast T).f0 (pLast T).f1 (pLast T).f2 (pLast T).f3=some true from congrArg some (decide_eq_true w1)) ?_
      refine Ev.round (fun _=>by rw[laws_FnRecordings.j2]) ?_
      exact Ev.neg (by simp) w4
    · obtain⟨n1,n2⟩:=no (fun h=>cv h.2)
      refine Ev.round (fun _=>by rw[laws_FnRecordings.j1]) ?_
      refine Ev.pos (by simp[cv]) ?_
      refine Ev.pos (by rw[n1];rfl) ?_
      rw[n2]
      exact Ev.now _
  · obtain⟨n1,n2⟩:=no (fun h=>cs h.1)
    refine Ev.neg cs ?_
    refine Ev.round (fun _=>by rw[laws_FnRecordings.j1]) ?_
    refine Ev.pos rfl ?_
    refine Ev.pos (by rw[n1];rfl) ?_
    rw[n2]
    exact Ev.now _
end Go.Proofs.YtinnjgnipdjfhaaDoor.Pure
