import Derived.Test.YteemhimikamihaaGreatMFnReplaysx90
import Derived.Test.YteemhimikamihaaGreatStdFnReplays
namespace Go.Proofs.YteemhimikamihaaGreat.Pure
open Go.RowKit Go.Proofs.YteemhimikamihaaGreat.MFnReplays Go.Proofs.YteemhimikamihaaGreatW.PrintWords Go.Proofs.YteemhimikamihaaGreatW.PrintLast Go.Proofs.YteemhimikamihaaGreatW.PrintMore Go.Proofs.YteemhimikamihaaGreat.Gen
set_option linter.unusedVariables false
set_option linter.unusedSimpArgs false
def FitimplVersion (y:S83):Prop:=y.f2.f1.length≤1048576
def Cur (b:List Int)(i:Int):Prop:=b.length≤1048576∧0≤i∧i≤(b.length:Int)
theorem and255 (v:Int):0≤Go.bits .and .i64 v 255∧Go.bits .and .i64 v 255≤255:=by
 have hle:(BitVec.ofInt IntKind.i64.bits v &&& BitVec.ofInt IntKind.i64.bits 255).toNat≤255:=by
  rw[BitVec.toNat_and]
  exact Nat.le_trans Nat.and_le_right (by decide)
 have e:Go.bits .and .i64 v 255=(((BitVec.ofInt IntKind.i64.bits v &&& BitVec.ofInt IntKind.i64.bits 255).toNat:Nat):Int):=by
  simp only[Go.bits]
  rw[IntKind.wrap_i64]
  omega
 rw[e]
 omega
def Any {α:Type}(g:Nat→Option α)(Q:α→Prop):Prop:=∃ r,Ev g r∧Q r
theorem Any.of {α:Type}{g:Nat→Option α}{Q:α→Prop}{r:α}(h:Ev g r)(q:Q r):Any g Q:=⟨r,h,q⟩
theorem Any.now {α:Type}{Q:α→Prop}{r:α}(q:Q r):Any (fun _=>some r) Q:=⟨r,Ev.now r,q⟩
theorem Any.mono {α:Type}{g:Nat→Option α}{P Q:α→Prop}(h:Any g P)(m:∀ r,P r→Q r):Any g Q:=by
 obtain⟨r,e,q⟩:=h
 exact⟨r,e,m r q⟩
theorem Any.bind {α β:Type}{f:Nat→Option β}{g:Nat→β→Option α}{P:β→Prop}{Q:α→Prop}(h:Any f P)(k:∀ x,P x→Any (fun n=>g n x) Q):Any (fun n=>(f n).bind (g n)) Q:=by
 obtain⟨x,e,p⟩:=h
 obtain⟨r,e2,q⟩:=k x p
 exact⟨r,Ev.bind e e2,q⟩
theorem Any.ev {α β:Type}{f:Nat→Option β}{g:Nat→β→Option α}{v:β}{Q:α→Prop}(h:Ev f v)(k:Any (fun n=>g n v) Q):Any (fun n=>(f n).bind (g n)) Q:=by
 obtain⟨r,e2,q⟩:=k
 exact⟨r,Ev.bind h e2,q⟩
theorem Any.opt {α β:Type}{o:Option β}{g:Nat→β→Option α}{P:β→Prop}{Q:α→Prop}(h:∃ x,o=some x∧P x)(k:∀ x,P x→Any (fun n=>g n x) Q):Any (fun n=>o.bind (g n)) Q:=by
 obtain⟨x,e,p⟩:=h
 obtain⟨r,e2,q⟩:=k x p
 exact⟨r,Ev.now_bind e e2,q⟩
theorem Any.ite {α:Type}{c:Prop} [Decidable c] {A B:Nat→Option α}{Q:α→Prop}(k:c→Any A Q)(l:¬c→Any B Q):Any (fun n=>if c then A n else B n) Q:=by
 by_cases h:c
 ·obtain⟨r,e,q⟩:=k h
  exact⟨r,Ev.pos h e,q⟩
 ·obtain⟨r,e,q⟩:=l h
  exact⟨r,Ev.neg h e,q⟩
theorem Any.pos {α:Type}{c:Prop} [Decidable c] {A B:Nat→Option α}{Q:α→Prop}(h:c)(k:Any A Q):Any (fun n=>if c then A n else B n) Q:=by
 obtain⟨r,e,q⟩:=k
 exact⟨r,Ev.pos h e,q⟩
theorem Any.neg {α:Type}{c:Prop} [Decidable c] {A B:Nat→Option α}{Q:α→Prop}(h:¬c)(k:Any B Q):Any (fun n=>if c then A n else B n) Q:=by
 obtain⟨r,e,q⟩:=k
 exact⟨r,Ev.neg h e,q⟩
theorem Any.round {α:Type}{g f:Nat→Option α}{Q:α→Prop}(h:∀ k,g (k+1)=f k)(k:Any f Q):Any g Q:=by
 obtain⟨r,e,q⟩:=k
 exact⟨r,Ev.round h e,q⟩
theorem Any.then_ {α β:Type}{f:Nat→Option β}{g:Nat→β→Option α}{P:β→Prop}{v:α}(h:Any f P)(k:∀ x,P x→Ev (fun n=>g n x) v):Ev (fun n=>(f n).bind (g n)) v:=by
 obtain⟨x,e,p⟩:=h
 exact Ev.bind e (k x p)
theorem l1New_ev (b:List Int)(hb:b.length≤1048576):∃ h,Ev (fun k=>spec_l1New.f k b) (b,0,h):=by
 unfold spec_l1New.f
 have key:∀ d i:Nat,i+d=b.length→∀ h:Int,∃ g,Ev (fun k=>spec_l1New.l0 k b h (i:Int)) (b,0,g):=by
  intro d
  induction d with
  | zero =>
   intro i hi h
   refine⟨h,?_⟩
   refine Ev.round (fun _=>by rw[spec_l1New.l0]) ?_
   refine Ev.neg (by omega) ?_
   exact Ev.now _
  | succ d ih =>
   intro i hi h
   by_cases h4:(i:Int) < 4000
   ·have e1:wrap64 ((i:Int)+1)=((i+1:Nat):Int):=by rw[w64 (by omega) (by omega)];omega
    obtain⟨g,hg⟩:=ih (i+1) (by omega) (Go.bits .and .i64 (wrap64 ((wrap64 ((wrap64 (h * 137))+(wrap64 (rd b (i:Int)))))+11)) 1073741823)
    refine⟨g,?_⟩
    refine Ev.round (fun _=>by rw[spec_l1New.l0]) ?_
    refine Ev.pos (by omega) ?_
    refine Ev.pos h4 ?_
    refine Ev.pos (by omega) ?_
    simp only[e1]
    exact hg
   ·refine⟨h,?_⟩
    refine Ev.round (fun _=>by rw[spec_l1New.l0]) ?_
    refine Ev.pos (by omega) ?_
    refine Ev.neg h4 ?_
    exact Ev.now _
 exact key b.length 0 (by omega) _
theorem cur0 (b:List Int)(hb:b.length≤1048576):Cur b 0:=⟨hb,by omega,by omega⟩
theorem aNew (b:List Int)(hb:b.length≤1048576):Any (fun k=>spec_l1New.f k b) (fun x=>x.1=b∧Cur b x.2.1):=by
 obtain⟨h,e⟩:=l1New_ev b hb
 exact⟨_,e,rfl,cur0 b hb⟩
theorem l1Byte_some (b:List Int)(i h:Int)(c:Cur b i):∃ x j g,spec_l1Byte.f b i h=some (x,j,g)∧(0≤x∧x≤255)∧Cur b j:=by
 obtain⟨c1,c2,c3⟩:=c
 unfold spec_l1Byte.f
 by_cases hi:i < (b.length:Int)
 ·rw[if_pos hi,if_pos c2]
  exact⟨_,_,_,rfl,and255 _,c1,by rw[w64 (by omega) (by omega)];omega,by rw[w64 (by omega) (by omega)];omega⟩
 ·rw[if_neg hi]
  exact⟨_,_,_,rfl,and255 _,c1,c2,c3⟩
theorem l1Below_some (b:List Int)(i h n:Int)(c:Cur b i):∃ x j g,spec_l1Below.f b i h n=some (x,j,g)∧0≤x∧(0 < n→x < n)∧Cur b j:=by
 unfold spec_l1Below.f
 by_cases h0:n≤0
 ·rw[if_pos h0]
  exact⟨0,i,h,rfl,by omega,by omega,c⟩
 rw[if_neg h0]
 by_cases h1:n≤256
 ·rw[if_pos h1]
  obtain⟨x,j,g,e,b1,cj⟩:=l1Byte_some b i h c
  rw[e]
  simp only[Option.bind_some]
  rw[if_neg (by omega)]
  refine⟨_,_,_,rfl,?_,?_,cj⟩
  ·rw[Int.tmod_eq_emod_of_nonneg b1.1]
   exact Int.emod_nonneg _ (by omega)
  ·intro hn
   rw[Int.tmod_eq_emod_of_nonneg b1.1]
   exact Int.emod_lt_of_pos _ hn
 ·rw[if_neg h1]
  obtain⟨x,j,g,e,b1,cj⟩:=l1Byte_some b i h c
  obtain⟨y,j2,g2,e2,b2,cj2⟩:=l1Byte_some b j g cj
  obtain⟨z,j3,g3,e3,b3,cj3⟩:=l1Byte_some b j2 g2 cj2
  rw[e]
  simp only[Option.bind_some]
  rw[e2]
  simp only[Option.bind_some]
  rw[e3]
  simp only[Option.bind_some]
  rw[if_neg (by omega)]
  have hv:0≤wrap64 (wrap64 (wrap64 (x * 65536)+wrap64 (y * 256))+z):=by
   rw[w64 (n:=x * 65536) (by omega) (by omega),w64 (n:=y * 256) (by omega) (by omega),w64 (n:=x * 65536+y * 256) (by omega) (by omega),w64 (by omega) (by omega)]
   omega
  refine⟨_,_,_,rfl,?_,?_,cj3⟩
  ·rw[Int.tmod_eq_emod_of_nonneg hv]
   exact Int.emod_nonneg _ (by omega)
  ·intro hn
   rw[Int.tmod_eq_emod_of_nonneg hv]
   exact Int.emod_lt_of_pos _ hn
theorem l1Below_lt (b:List Int)(i h n:Int)(hn:0 < n)(c:Cur b i):∃ x j g,spec_l1Below.f b i h n=some (x,j,g)∧(0≤x∧x < n)∧Cur b j:=by
 obtain⟨x,j,g,e,h0,h1,cj⟩:=l1Below_some b i h n c
 exact⟨x,j,g,e,⟨h0,h1 hn⟩,cj⟩
theorem l1Once_some (b:List Int)(i h n:Int)(c:Cur b i):∃ x j g,spec_l1Once.f b i h n=some (x,j,g)∧Cur b j:=by
 obtain⟨x,j,g,e,_,_,cj⟩:=l1Below_some b i h n c
 unfold spec_l1Once.f
 rw[e]
 exact⟨_,_,_,rfl,cj⟩
theorem l10Op_ev (b:List Int)(i h:Int)(c:Cur b i):∃ y0 y1 y2 y3 j g,Ev (fun k=>spec_l10Op.f k b i h) (y0,y1,y2,y3,j,g)∧Cur b j:=by
 have hj:∀ (i h k0 a:Int),Cur b i→∃ y0 y1 y2 y3 j g,Ev (fun k=>spec_l10Op.j0 k b i h k0 a 0 0) (y0,y1,y2,y3,j,g)∧Cur b j:=by
  intro i h k0 a c
  obtain⟨x,j,g,e,hx,cj⟩:=l1Below_lt b i h 3 (by omega) c
  obtain⟨x2,j2,g2,e2,hx2,cj2⟩:=l1Below_lt b j g 3 (by omega) cj
  obtain⟨z,m,n,e3,hx3,cm⟩:=l1Below_lt b i h 4 (by omega) c
  obtain⟨z2,m2,n2,e4,hx4,cm2⟩:=l1Below_lt b m n 4 (by omega) cm
  by_cases h1:k0=1
  ·iterate 6 apply Exists.intro
   refine⟨?_,cj2⟩
   refine Ev.round (fun _=>by rw[spec_l10Op.j0]) ?_
   refine Ev.pos h1 ?_
   refine Ev.now_bind e ?_
   refine Ev.now_bind e2 ?_
   exact Ev.now _
  by_cases h5:k0=5
  ·iterate 6 apply Exists.intro
   refine⟨?_,cm2⟩
   refine Ev.round (fun _=>by rw[spec_l10Op.j0]) ?_
   refine Ev.neg h1 ?_
   refine Ev.pos h5 ?_
   refine Ev.now_bind e3 ?_
   refine Ev.now_bind e4 ?_
   exact Ev.now _
  by_cases h6:k0=6
  ·iterate 6 apply Exists.intro
   refine⟨?_,cm⟩
   refine Ev.round (fun _=>by rw[spec_l10Op.j0]) ?_
   refine Ev.neg h1 ?_
   refine Ev.neg h5 ?_
   refine Ev.pos h6 ?_
   refine Ev.now_bind e3 ?_
   exact Ev.now _
  by_cases h7:k0=7
  ·iterate 6 apply Exists.intro
   refine⟨?_,cj⟩
   refine Ev.round (fun _=>by rw[spec_l10Op.j0]) ?_
   refine Ev.neg h1 ?_
   refine Ev.neg h5 ?_
   refine Ev.neg h6 ?_
   refine Ev.pos h7 ?_
   refine Ev.now_bind e ?_
   exact Ev.now _
  by_cases h8:k0=8
  ·iterate 6 apply Exists.intro
   refine⟨?_,cj⟩
   refine Ev.round (fun _=>by rw[spec_l10Op.j0]) ?_
   refine Ev.neg h1 ?_
   refine Ev.neg h5 ?_
   refine Ev.neg h6 ?_
   refine Ev.neg h7 ?_
   refine Ev.pos h8 ?_
   refine Ev.now_bind e ?_
   exact Ev.now _
  by_cases h9:k0=9
  ·iterate 6 apply Exists.intro
   refine⟨?_,cj⟩
   refine Ev.round (fun _=>by rw[spec_l10Op.j0]) ?_
   refine Ev.neg h1 ?_
   refine Ev.neg h5 ?_
   refine Ev.neg h6 ?_
   refine Ev.neg h7 ?_
   refine Ev.neg h8 ?_
   refine Ev.pos h9 ?_
   refine Ev.now_bind e ?_
   exact Ev.now _
  ·iterate 6 apply Exists.intro
   refine⟨?_,c⟩
   refine Ev.round (fun _=>by rw[spec_l10Op.j0]) ?_
   refine Ev.neg h1 ?_
   refine Ev.neg h5 ?_
   refine Ev.neg h6 ?_
   refine Ev.neg h7 ?_
   refine Ev.neg h8 ?_
   refine Ev.neg h9 ?_
   exact Ev.now _
 unfold spec_l10Op.f
 obtain⟨x,j,g,e,hx,cj⟩:=l1Below_lt b i h 9 (by omega) c
 obtain⟨x2,j2,g2,e2,hx2,cj2⟩:=l1Below_lt b j g 3 (by omega) cj
 obtain⟨x3,j3,g3,e3,cj3⟩:=l1Once_some b j2 g2 3 cj2
 cases x3 with
 | true =>
  obtain⟨y0,y1,y2,y3,j4,g4,ev,c4⟩:=hj j3 g3 1 x2 cj3
  refine⟨y0,y1,y2,y3,j4,g4,?_,c4⟩
  refine Ev.now_bind e ?_
  refine Ev.now_bind e2 ?_
  refine Ev.now_bind e3 ?_
  exact Ev.pos rfl ev
 | false =>
  obtain⟨y0,y1,y2,y3,j4,g4,ev,c4⟩:=hj j3 g3 (wrap64 (1+x)) x2 cj3
  refine⟨y0,y1,y2,y3,j4,g4,?_,c4⟩
  refine Ev.now_bind e ?_
  refine Ev.now_bind e2 ?_
  refine Ev.now_bind e3 ?_
  exact Ev.neg (by simp) ev
theorem l10Draw_ev (b:List Int)(i h:Int)(c:Cur b i):∃ l j g,Ev (fun k=>spec_l10Draw.f k b i h) (l,j,g)∧l.length≤12∧Cur b j:=by
 unfold spec_l10Draw.f
 obtain⟨x,j,g,e,hx,cj⟩:=l1Below_lt b i h 13 (by omega) c
 have key:∀ (d:Nat) (l:List S57) (i h:Int),Cur b i→d+l.length≤12→∃ l' j g,Ev (fun k=>spec_l10Draw.l0 k l (d:Int) b i h) (l',j,g)∧l'.length≤12∧Cur b j:=by
  intro d
  induction d with
  | zero =>
   intro l i h c hl
   refine⟨l,i,h,?_,by omega,c⟩
   refine Ev.round (fun _=>by rw[spec_l10Draw.l0]) ?_
   refine Ev.neg (by omega) ?_
   exact Ev.now _
  | succ d ih =>
   intro l i h c hl
   obtain⟨y0,y1,y2,y3,j,g,ev,cj⟩:=l10Op_ev b i h c
   obtain⟨l',j',g',ev',hl',cj'⟩:=ih (l++[(⟨y0,y1,y2,y3⟩:S57)]) j g cj (by simp;omega)
   refine⟨l',j',g',?_,hl',cj'⟩
   have e1:wrap64 (((d+1:Nat):Int) - 1)=(d:Int):=by rw[w64 (by omega) (by omega)];omega
   refine Ev.round (fun _=>by rw[spec_l10Draw.l0]) ?_
   refine Ev.pos (by omega) ?_
   refine Ev.bind ev ?_
   refine Ev.pos (by omega) ?_
   simp only[e1]
   exact ev'
 obtain⟨l',j',g',ev',hl',cj'⟩:=key x.toNat [] j g cj (by simp;omega)
 refine⟨l',j',g',?_,hl',cj'⟩
 refine Ev.now_bind e ?_
 rw[show(x.toNat:Int)=x by omega] at ev'
 exact ev'
theorem l1Int_some (b:List Int)(i h:Int)(l:List Int)(hl:0 < l.length)(c:Cur b i):∃ x j g,spec_l1Int.f b i h l=some (x,j,g)∧x∈l∧Cur b j:=by
 obtain⟨x,j,g,e,hx,cj⟩:=l1Below_lt b i h (l.length:Int) (by omega) c
 unfold spec_l1Int.f
 rw[e]
 simp only[Option.bind_some]
 rw[if_pos hx.1,if_pos hx.2]
 refine⟨_,_,_,rfl,?_,cj⟩
 exact getD_mem l x.toNat (by omega) 0
theorem l4Raw_some (b:List Int)(i h:Int)(c:Cur b i):∃ x j g,spec_l4Raw.f b i h=some (x,j,g)∧(-9223372036854775808≤x∧x≤9223372036854775807)∧Cur b j:=by
 unfold spec_l4Raw.f
 obtain⟨x,j,g,e,hx,cj⟩:=l1Int_some b i h [-1,0,9,10,99,100,9223372036854775807,-9223372036854775808] (by simp) c
 rw[e]
 refine⟨x,j,g,rfl,?_,cj⟩
 simp only[List.mem_cons,List.not_mem_nil,or_false] at hx
 omega
theorem l10Any_ev (b:List Int)(i h:Int)(c:Cur b i):∃ l j g,Ev (fun k=>spec_l10Any.f k b i h) (l,j,g)∧l.length≤17∧Cur b j:=by
 unfold spec_l10Any.f
 obtain⟨l,j,g,ev,hl,cj⟩:=l10Draw_ev b i h c
 by_cases h0:l.length=0
 ·refine⟨l,j,g,?_,by omega,cj⟩
  refine Ev.bind ev ?_
  refine Ev.pos (by simp[h0]) ?_
  exact Ev.now _
 obtain⟨x,j2,g2,e2,hx,cj2⟩:=l1Below_lt b j g (l.length:Int) (by omega) cj
 obtain⟨y,j3,g3,e3,hy,cj3⟩:=l1Below_lt b j2 g2 12 (by omega) cj2
 obtain⟨v1,m1,n1,f1,_,cm1⟩:=l1Int_some b j3 g3 [0,10,5] (by simp) cj3
 obtain⟨v2,m2,n2,f2,_,cm2⟩:=l1Int_some b j3 g3 [-1,3,4] (by simp) cj3
 obtain⟨v3,m3,n3,f3,_,cm3⟩:=l4Raw_some b j3 g3 cj3
 have hne:¬(l.length:Int)=0:=by omega
 by_cases c0:y=0
 ·iterate 3 apply Exists.intro
  refine⟨?_,?_,cm1⟩
  ·refine Ev.bind ev ?_
   refine Ev.neg hne ?_
   refine Ev.now_bind e2 ?_
   refine Ev.now_bind e3 ?_
   refine Ev.pos c0 ?_
   refine Ev.now_bind f1 ?_
   refine Ev.pos hx.1 ?_
   refine Ev.pos hx.2 ?_
   exact Ev.now _
  ·simp;omega
 by_cases c1:y=1
 ·iterate 3 apply Exists.intro
  refine⟨?_,?_,cm2⟩
  ·refine Ev.bind ev ?_
   refine Ev.neg hne ?_
   refine Ev.now_bind e2 ?_
   refine Ev.now_bind e3 ?_
   refine Ev.neg c0 ?_
   refine Ev.pos c1 ?_
   refine Ev.now_bind f2 ?_
   refine Ev.pos hx.1 ?_
   refine Ev.pos hx.2 ?_
   exact Ev.now _
  ·simp;omega
 by_cases c2:y=2
 ·iterate 3 apply Exists.intro
  refine⟨?_,?_,cm3⟩
  ·refine Ev.bind ev ?_
   refine Ev.neg hne ?_
   refine Ev.now_bind e2 ?_
   refine Ev.now_bind e3 ?_
   refine Ev.neg c0 ?_
   refine Ev.neg c1 ?_
   refine Ev.pos c2 ?_
   refine Ev.now_bind f3 ?_
   refine Ev.pos hx.1 ?_
   refine Ev.pos hx.2 ?_
   exact Ev.now _
  ·simp;omega
 by_cases c3:y=3
 ·iterate 3 apply Exists.intro
  refine⟨?_,?_,cm3⟩
  ·refine Ev.bind ev ?_
   refine Ev.neg hne ?_
   refine Ev.now_bind e2 ?_
   refine Ev.now_bind e3 ?_
   refine Ev.neg c0 ?_
   refine Ev.neg c1 ?_
   refine Ev.neg c2 ?_
   refine Ev.pos c3 ?_
   refine Ev.now_bind f3 ?_
   refine Ev.pos hx.1 ?_
   refine Ev.pos hx.2 ?_
   exact Ev.now _
  ·simp;omega
 have key:∀ (d:Nat) (l:List S57),l.length+d=17→∃ l',Ev (fun k=>spec_l10Any.l0 k l b j3 g3) (l',j3,g3)∧l'.length≤17:=by
  intro d
  induction d with
  | zero =>
   intro l hl
   refine⟨l,?_,by omega⟩
   refine Ev.round (fun _=>by rw[spec_l10Any.l0]) ?_
   refine Ev.neg (by omega) ?_
   exact Ev.now _
  | succ d ih =>
   intro l hl
   obtain⟨l',ev',hl'⟩:=ih (l++[(⟨2,0,0,0⟩:S57)]) (by simp;omega)
   refine⟨l',?_,hl'⟩
   refine Ev.round (fun _=>by rw[spec_l10Any.l0]) ?_
   refine Ev.pos (by omega) ?_
   exact Ev.pos (by omega) ev'
 by_cases c4:y=4
 ·obtain⟨l',ev',hl'⟩:=key (17 - l.length) l (by omega)
  refine⟨l',j3,g3,?_,hl',cj3⟩
  refine Ev.bind ev ?_
  refine Ev.neg hne ?_
  refine Ev.now_bind e2 ?_
  refine Ev.now_bind e3 ?_
  refine Ev.neg c0 ?_
  refine Ev.neg c1 ?_
  refine Ev.neg c2 ?_
  refine Ev.neg c3 ?_
  exact Ev.pos c4 ev'
 ·refine⟨l,j3,g3,?_,by omega,cj3⟩
  refine Ev.bind ev ?_
  refine Ev.neg hne ?_
  refine Ev.now_bind e2 ?_
  refine Ev.now_bind e3 ?_
  refine Ev.neg c0 ?_
  refine Ev.neg c1 ?_
  refine Ev.neg c2 ?_
  refine Ev.neg c3 ?_
  refine Ev.neg c4 ?_
  exact Ev.now _
theorem a10Any (b:List Int)(i h:Int)(c:Cur b i):Any (fun k=>spec_l10Any.f k b i h) (fun x=>x.1.length≤17∧Cur b x.2.1):=by
 obtain⟨l,j,g,e,hl,cj⟩:=l10Any_ev b i h c
 exact⟨_,e,hl,cj⟩
theorem a10Draw (b:List Int)(i h:Int)(c:Cur b i):Any (fun k=>spec_l10Draw.f k b i h) (fun x=>x.1.length≤12∧Cur b x.2.1):=by
 obtain⟨l,j,g,e,hl,cj⟩:=l10Draw_ev b i h c
 exact⟨_,e,hl,cj⟩
theorem aBelow (b:List Int)(i h n:Int)(hn:0 < n)(c:Cur b i):∃ x,spec_l1Below.f b i h n=some x∧((0≤x.1∧x.1 < n)∧Cur b x.2.1):=by
 obtain⟨x,j,g,e,hx,cj⟩:=l1Below_lt b i h n hn c
 exact⟨(x,j,g),e,hx,cj⟩
theorem aInt (b:List Int)(i h:Int)(l:List Int)(hl:0 < l.length)(c:Cur b i):∃ x,spec_l1Int.f b i h l=some x∧(x.1∈l∧Cur b x.2.1):=by
 obtain⟨x,j,g,e,hx,cj⟩:=l1Int_some b i h l hl c
 exact⟨(x,j,g),e,hx,cj⟩
theorem l4Draw_some (b:List Int)(i h:Int)(c:Cur b i):∃ x y z j g,spec_l4Draw.f b i h=some (x,y,z,j,g)∧(1≤x∧x≤3∧0≤y∧y≤2∧0≤z∧z≤2)∧Cur b j:=by
 obtain⟨x,j,g,e,hx,cj⟩:=l1Below_lt b i h 3 (by omega) c
 obtain⟨y,j2,g2,e2,hy,cj2⟩:=l1Below_lt b j g 3 (by omega) cj
 obtain⟨z,j3,g3,e3,hz,cj3⟩:=l1Below_lt b j2 g2 3 (by omega) cj2
 have ew:wrap64 (1+x)=1+x:=w64 (by omega) (by omega)
 refine⟨1+x,y,z,j3,g3,?_,by omega,cj3⟩
 unfold spec_l4Draw.f
 rw[e,Option.bind_some]
 dsimp only
 rw[e2,Option.bind_some]
 dsimp only
 rw[e3,Option.bind_some]
 dsimp only
 rw[ew]
theorem l4Any_some (b:List Int)(i h:Int)(c:Cur b i):∃ x y z j g,spec_l4Any.f b i h=some (x,y,z,j,g)∧Cur b j:=by
 obtain⟨x,y,z,j,g,e,_,cj⟩:=l4Draw_some b i h c
 obtain⟨n,j2,g2,e2,hn,cj2⟩:=l1Below_lt b j g 9 (by omega) cj
 obtain⟨v,j3,g3,e3,_,cj3⟩:=l4Raw_some b j2 g2 cj2
 unfold spec_l4Any.f
 rw[e,Option.bind_some]
 dsimp only
 rw[e2,Option.bind_some]
 dsimp only
 rw[e3,Option.bind_some,Option.bind_some,Option.bind_some]
 dsimp only
 by_cases h0:n=0
 ·rw[if_pos h0]
  exact⟨_,_,_,_,_,rfl,cj3⟩
 ·rw[if_neg h0]
  by_cases h1:n=1
  ·rw[if_pos h1]
   exact⟨_,_,_,_,_,rfl,cj3⟩
  ·rw[if_neg h1]
   by_cases h2:n=2
   ·rw[if_pos h2]
    exact⟨_,_,_,_,_,rfl,cj3⟩
   ·rw[if_neg h2]
    exact⟨_,_,_,_,_,rfl,cj2⟩
theorem a4Any (b:List Int)(i h:Int)(c:Cur b i):∃ x,spec_l4Any.f b i h=some x∧Cur b x.2.2.2.1:=by
 obtain⟨x,y,z,j,g,e,cj⟩:=l4Any_some b i h c
 exact⟨(x,y,z,j,g),e,cj⟩
theorem l5Body_ev (b:List Int)(i h:Int)(c:Cur b i):∃ l j g,Ev (fun k=>spec_l5Body.f k b i h) (l,j,g)∧l.length≤4∧Cur b j:=by
 obtain⟨n,j,g,e,hn,cj⟩:=l1Below_lt b i h 5 (by omega) c
 have key:∀ (d:Nat) (l:List Int) (i h:Int),Cur b i→l.length+d≤4→∃ l' j g,Ev (fun k=>spec_l5Body.l0 k l (d:Int) b i h) (l',j,g)∧l'.length≤4∧Cur b j:=by
  intro d
  induction d with
  | zero =>
   intro l i h c hl
   refine⟨l,i,h,?_,by omega,c⟩
   refine Ev.round (fun _=>by rw[spec_l5Body.l0]) ?_
   exact Ev.neg (by omega) (Ev.now _)
  | succ d ih =>
   intro l i h c hl
   obtain⟨x,j,g,e,hx,cj⟩:=l1Below_lt b i h 9 (by omega) c
   have e1:wrap64 (((d+1:Nat):Int) - 1)=(d:Int):=by rw[w64 (by omega) (by omega)];omega
   obtain⟨l',j',g',ev,hl',cj'⟩:=ih (l++[x]) j g cj (by rw[List.length_append,List.length_singleton];omega)
   refine⟨l',j',g',?_,hl',cj'⟩
   refine Ev.round (fun _=>by rw[spec_l5Body.l0]) ?_
   refine Ev.pos (by omega) ?_
   refine Ev.now_bind e ?_
   refine Ev.pos (by omega) ?_
   simp only[e1]
   exact ev
 obtain⟨l,j',g',ev,hl,cj'⟩:=key n.toNat [] j g cj (by simp;omega)
 refine⟨l,j',g',?_,hl,cj'⟩
 unfold spec_l5Body.f
 refine Ev.now_bind e ?_
 have en:((n.toNat:Nat):Int)=n:=by omega
 rw[en] at ev
 exact ev
theorem l5Draw_ev (b:List Int)(i h:Int)(c:Cur b i):∃ k0 l x y z j g,Ev (fun k=>spec_l5Draw.f k b i h) (k0,l,x,y,z,j,g)∧l.length≤4∧Cur b j:=by
 obtain⟨n,j,g,e,hn,cj⟩:=l1Below_lt b i h 6 (by omega) c
 unfold spec_l5Draw.f
 by_cases h0:n=0
 ·obtain⟨x,y,z,j2,g2,e2,_,cj2⟩:=l4Draw_some b j g cj
  refine⟨3,[],x,y,z,j2,g2,?_,by simp,cj2⟩
  refine Ev.now_bind e ?_
  refine Ev.pos h0 ?_
  refine Ev.now_bind e2 ?_
  exact Ev.now _
 ·by_cases h1:n=1
  ·refine⟨4,[],0,0,0,j,g,?_,by simp,cj⟩
   refine Ev.now_bind e ?_
   refine Ev.neg h0 ?_
   refine Ev.pos h1 ?_
   exact Ev.now _
  ·obtain⟨x,j2,g2,e2,hx,cj2⟩:=l1Below_lt b j g 2 (by omega) cj
   obtain⟨l,j3,g3,ev,hl,cj3⟩:=l5Body_ev b j2 g2 cj2
   refine⟨wrap64 (1+x),l,0,0,0,j3,g3,?_,hl,cj3⟩
   refine Ev.now_bind e ?_
   refine Ev.neg h0 ?_
   refine Ev.neg h1 ?_
   refine Ev.now_bind e2 ?_
   refine Ev.bind ev ?_
   exact Ev.now _
def DrawnV (y:S83):Prop:=FitimplVersion y∧0≤y.f1∧y.f1≤11
theorem l9Draw_ev (b:List Int)(i h:Int)(c:Cur b i):∃ l j g,Ev (fun k=>spec_l9Draw.f k b i h) (l,j,g)∧l.length≤8∧(∀ y∈l,DrawnV y)∧Cur b j:=by
 obtain⟨n,j,g,e,hn,cj⟩:=l1Below_lt b i h 9 (by omega) c
 have key:∀ (d:Nat) (l:List S83) (i h:Int),Cur b i→l.length+d≤8→(∀ y∈l,DrawnV y)→∃ l' j g,Ev (fun k=>spec_l9Draw.l0 k l (d:Int) b i h) (l',j,g)∧l'.length≤8∧(∀ y∈l',DrawnV y)∧Cur b j:=by
  intro d
  induction d with
  | zero =>
   intro l i h c hl hd
   refine⟨l,i,h,?_,by omega,hd,c⟩
   refine Ev.round (fun _=>by rw[spec_l9Draw.l0]) ?_
   exact Ev.neg (by omega) (Ev.now _)
  | succ d ih =>
   intro l i h c hl hd
   obtain⟨a,p,q,j,g,e,_,cj⟩:=l4Draw_some b i h c
   obtain⟨t,j2,g2,e2,ht,cj2⟩:=l1Below_lt b j g 12 (by omega) cj
   obtain⟨k0,bd,x,y,z,j3,g3,ev,hbd,cj3⟩:=l5Draw_ev b j2 g2 cj2
   have e1:wrap64 (((d+1:Nat):Int) - 1)=(d:Int):=by rw[w64 (by omega) (by omega)];omega
   obtain⟨l',j',g',ev',hl',hd',cj'⟩:=ih (l++[⟨⟨a,p,q⟩,t,⟨k0,bd,⟨x,y,z⟩⟩⟩]) j3 g3 cj3 (by rw[List.length_append,List.length_singleton];omega) (by
    intro y hy
    rcases List.mem_append.1 hy with hy | hy
    ·exact hd y hy
    ·rw[List.mem_singleton] at hy
     rw[hy]
     refine⟨?_,ht.1,?_⟩
     ·show bd.length≤1048576
      omega
     ·show t≤11
      omega)
   refine⟨l',j',g',?_,hl',hd',cj'⟩
   refine Ev.round (fun _=>by rw[spec_l9Draw.l0]) ?_
   refine Ev.pos (by omega) ?_
   refine Ev.now_bind e ?_
   refine Ev.now_bind e2 ?_
   refine Ev.bind ev ?_
   refine Ev.pos (by omega) ?_
   simp only[e1]
   exact ev'
 obtain⟨l,j',g',ev,hl,hd,cj'⟩:=key n.toNat [] j g cj (by simp;omega) (by simp)
 refine⟨l,j',g',?_,hl,hd,cj'⟩
 unfold spec_l9Draw.f
 refine Ev.now_bind e ?_
 have en:((n.toNat:Nat):Int)=n:=by omega
 rw[en] at ev
 exact ev
theorem a9Draw (b:List Int)(i h:Int)(c:Cur b i):Any (fun k=>spec_l9Draw.f k b i h) (fun x=>x.1.length≤8∧(∀ y∈x.1,FitimplVersion y)∧Cur b x.2.1):=by
 obtain⟨l,j,g,e,hl,hd,cj⟩:=l9Draw_ev b i h c
 exact⟨_,e,hl,fun y hy=>(hd y hy).1,cj⟩
def VisitOk (b:List Int)(x:List S83×Int×Int×List Int×Int×Int):Prop:=x.1.length≤8∧(∀ y∈x.1,FitimplVersion y)∧x.2.2.2.1.length≤9∧Cur b x.2.2.2.2.1
theorem a12Draw (b:List Int)(i h:Int)(c:Cur b i):Any (fun k=>spec_l12Draw.f k b i h) (fun x=>VisitOk b x∧x.2.2.2.1.length≤3∧(0≤x.2.1∧x.2.1≤11)):=by
 unfold spec_l12Draw.f
 refine Any.bind (a9Draw b i h c) ?_
 intro x hx
 refine Any.opt (aBelow b _ _ 12 (by omega) hx.2.2) ?_
 intro t ht
 refine Any.opt (aBelow b _ _ 50 (by omega) ht.2) ?_
 intro s hs
 refine Any.opt (aBelow b _ _ 4 (by omega) hs.2) ?_
 intro n hn
 have key:∀ (d:Nat) (l:List Int) (i h:Int),Cur b i→l.length+d≤3→Any (fun k=>spec_l12Draw.l0 k (d:Int) b i h x.1 t.1 s.1 l) (fun x=>VisitOk b x∧x.2.2.2.1.length≤3∧(0≤x.2.1∧x.2.1≤11)):=by
  intro d
  induction d with
  | zero =>
   intro l i h c hl
   refine Any.round (fun _=>by rw[spec_l12Draw.l0]) ?_
   refine Any.neg (by omega) (Any.now ⟨⟨hx.1,hx.2.1,?_,c⟩,?_,ht.1.1,?_⟩)
   ·dsimp only;omega
   ·dsimp only;omega
   ·dsimp only;omega
  | succ d ih =>
   intro l i h c hl
   have e1:wrap64 (((d+1:Nat):Int) - 1)=(d:Int):=by rw[w64 (by omega) (by omega)];omega
   refine Any.round (fun _=>by rw[spec_l12Draw.l0]) ?_
   refine Any.pos (by omega) ?_
   refine Any.opt (aBelow b _ _ 9 (by omega) c) ?_
   intro v hv
   refine Any.pos (by omega) ?_
   simp only[e1]
   exact ih _ _ _ hv.2 (by rw[List.length_append,List.length_singleton];omega)
 have h:=key n.1.toNat [] n.2.1 n.2.2 hn.2 (by rw[List.length_nil];omega)
 have en:((n.1.toNat:Nat):Int)=n.1:=by omega
 rw[en] at h
 exact h
theorem l5Any_ev (b:List Int)(i h:Int)(c:Cur b i):∃ k0 l x y z j g,Ev (fun k=>spec_l5Any.f k b i h) (k0,l,x,y,z,j,g)∧l.length≤7∧Cur b j:=by
 obtain⟨k0,l,x,y,z,j,g,ev,hl,cj⟩:=l5Draw_ev b i h c
 obtain⟨n,j2,g2,e2,hn,cj2⟩:=l1Below_lt b j g 9 (by omega) cj
 unfold spec_l5Any.f
 by_cases h0:n=0
 ·obtain⟨v,j3,g3,e3,_,cj3⟩:=l1Int_some b j2 g2 [0,5,3,4] (by simp) cj2
  exact⟨_,_,_,_,_,_,_,Ev.bind ev (Ev.now_bind e2 (Ev.pos h0 (Ev.now_bind e3 (Ev.now _)))),by dsimp only;omega,cj3⟩
 ·by_cases h1:n=1
  ·obtain⟨v,j3,g3,e3,_,cj3⟩:=l1Int_some b j2 g2 [(-1),255,256] (by simp) cj2
   exact⟨_,_,_,_,_,_,_,Ev.bind ev (Ev.now_bind e2 (Ev.neg h0 (Ev.pos h1 (Ev.now_bind e3 (Ev.pos (by dsimp only;omega) (Ev.now _)))))),by rw[List.length_append,List.length_singleton];dsimp only;omega,cj3⟩
  ·by_cases h2:n=2
   ·exact⟨_,_,_,_,_,_,_,Ev.bind ev (Ev.now_bind e2 (Ev.neg h0 (Ev.neg h1 (Ev.pos h2 (Ev.now _))))),by simp,cj2⟩
   ·by_cases h3:n=3
    ·obtain⟨x3,y3,z3,j3,g3,e3,cj3⟩:=l4Any_some b j2 g2 cj2
     exact⟨_,_,_,_,_,_,_,Ev.bind ev (Ev.now_bind e2 (Ev.neg h0 (Ev.neg h1 (Ev.neg h2 (Ev.pos h3 (Ev.now_bind e3 (Ev.now _))))))),by dsimp only;omega,cj3⟩
    ·exact⟨_,_,_,_,_,_,_,Ev.bind ev (Ev.now_bind e2 (Ev.neg h0 (Ev.neg h1 (Ev.neg h2 (Ev.neg h3 (Ev.now _)))))),by dsimp only;omega,cj2⟩
theorem a5Any (b:List Int)(i h:Int)(c:Cur b i):Any (fun k=>spec_l5Any.f k b i h) (fun x=>x.2.1.length≤7∧Cur b x.2.2.2.2.2.1):=by
 obtain⟨k0,l,x,y,z,j,g,e,hl,cj⟩:=l5Any_ev b i h c
 exact⟨_,e,hl,cj⟩
theorem setV {l:List S83}(h:∀ y∈l,FitimplVersion y)(i:Nat){x:S83}(hx:x.f2.f1.length≤1048576):∀ y∈l.set i x,FitimplVersion y:=by
 intro y hy
 rcases List.mem_or_eq_of_mem_set hy with h1 | h1
 ·exact h y h1
 ·rw[h1]
  exact hx
theorem rdV {l:List S83}(h:∀ y∈l,FitimplVersion y)(i:Int)(h0:0≤i)(h1:i < (l.length:Int)):(rd_T83 l i).f2.f1.length≤1048576:=h _ (getD_mem l i.toNat (by omega) z83)
theorem a9Any (b:List Int)(i h:Int)(c:Cur b i):Any (fun k=>spec_l9Any.f k b i h) (fun x=>x.1.length≤8∧(∀ y∈x.1,FitimplVersion y)∧Cur b x.2.1):=by
 unfold spec_l9Any.f
 refine Any.bind (a9Draw b i h c) ?_
 intro x hx
 refine Any.ite (fun _=>Any.now hx) (fun hne=>?_)
 refine Any.opt (aBelow b _ _ _ (by omega) hx.2.2) ?_
 intro y hy
 refine Any.opt (aBelow b _ _ 9 (by omega) hy.2) ?_
 intro z hz
 have hr:=rdV hx.2.1 y.1 hy.1.1 hy.1.2
 refine Any.ite (fun _=>?_) (fun _=>?_)
 ·refine Any.opt (a4Any b _ _ hz.2) ?_
  intro v hv
  exact Any.pos hy.1.1 (Any.pos hy.1.2 (Any.now ⟨by rw[List.length_set];exact hx.1,setV hx.2.1 _ hr,hv⟩))
 refine Any.ite (fun _=>?_) (fun _=>?_)
 ·refine Any.opt (aInt b _ _ _ (by simp) hz.2) ?_
  intro v hv
  exact Any.pos hy.1.1 (Any.pos hy.1.2 (Any.now ⟨by rw[List.length_set];exact hx.1,setV hx.2.1 _ hr,hv.2⟩))
 refine Any.ite (fun _=>?_) (fun _=>?_)
 ·refine Any.bind (a5Any b _ _ hz.2) ?_
  intro v hv
  exact Any.pos hy.1.1 (Any.pos hy.1.2 (Any.now ⟨by rw[List.length_set];exact hx.1,setV hx.2.1 _ (Nat.le_trans hv.1 (by omega)),hv.2⟩))
 ·exact Any.now ⟨hx.1,hx.2.1,hz.2⟩
theorem a12Any (b:List Int)(i h:Int)(c:Cur b i):Any (fun k=>spec_l12Any.f k b i h) (VisitOk b):=by
 unfold spec_l12Any.f
 refine Any.bind (a12Draw b i h c) ?_
 intro x hx
 obtain⟨⟨q1,q2,q3,q4⟩,q5,_⟩:=hx
 refine Any.opt (aBelow b _ _ 9 (by omega) q4) ?_
 intro y hy
 refine Any.ite (fun _=>?_) (fun _=>?_)
 ·refine Any.opt (aInt b _ _ _ (by simp) hy.2) ?_
  intro v hv
  exact Any.now ⟨q1,q2,q3,hv.2⟩
 refine Any.ite (fun _=>?_) (fun _=>?_)
 ·refine Any.opt (aInt b _ _ _ (by simp) hy.2) ?_
  intro v hv
  exact Any.now ⟨q1,q2,q3,hv.2⟩
 refine Any.ite (fun _=>?_) (fun _=>?_)
 ·refine Any.opt (aInt b _ _ _ (by simp) hy.2) ?_
  intro v hv
  exact Any.pos (by omega) (Any.now ⟨q1,q2,by rw[List.length_append,List.length_singleton];omega,hv.2⟩)
 refine Any.ite (fun _=>?_) (fun _=>?_)
 ·refine Any.bind (a9Any b _ _ hy.2) ?_
  intro v hv
  exact Any.now ⟨hv.1,hv.2.1,q3,hv.2.2⟩
 refine Any.ite (fun _=>?_) (fun _=>?_)
 ·have key:∀ (d:Nat) (l:List Int),l.length+d=9→Any (fun k=>spec_l12Any.l0 k b y.2.1 y.2.2 x.1 x.2.1 x.2.2.1 l) (VisitOk b):=by
   intro d
   induction d with
   | zero =>
    intro l hl
    refine Any.round (fun _=>by rw[spec_l12Any.l0]) ?_
    refine Any.neg (by omega) (Any.now ⟨q1,q2,?_,hy.2⟩)
    dsimp only
    omega
   | succ d ih =>
    intro l hl
    refine Any.round (fun _=>by rw[spec_l12Any.l0]) ?_
    refine Any.pos (by omega) ?_
    refine Any.pos (by omega) ?_
    exact ih _ (by rw[List.length_append,List.length_singleton];omega)
  exact key (9 - x.2.2.2.1.length) x.2.2.2.1 (by omega)
 ·exact Any.now ⟨q1,q2,q3,hy.2⟩
def pOp (y:S57):Bool :=
 pIn y.f1 0 3 && (
  if y.f0=1 then pIn y.f2 1 9 && pIn y.f3 0 99
  else if y.f0=2∨y.f0=3∨y.f0=4 then decide (y.f2=0) && (y.f3 == 0)
  else if y.f0=5 then pIn y.f2 0 3 && pIn y.f3 0 3
  else if y.f0=6 then pIn y.f2 0 3 && (y.f3 == 0)
  else if y.f0=7 then pIn y.f2 1 3 && (y.f3 == 0)
  else if y.f0=8 then pIn y.f2 0 2 && (y.f3 == 0)
  else if y.f0=9 then pIn y.f2 0 2 && (y.f3 == 0)
  else false)
def pScript (l:List S57):Bool:=l.all pOp && decide ((l.length:Int)≤16)
theorem not_any {α:Type}(l:List α)(p:α→Bool):(!(l.any fun y=>!p y))=l.all p:=by
 rw[List.all_eq_not_any_not]
def pState (a:Int)(r s n:List Int):Bool :=
 pIn a 0 19 && ((r.all (pIn · 0 999) && ((r.length:Int) == 4)) && ((s.all (pIn · 0 999) && ((s.length:Int) == 3)) && (n.all (pIn · 0 999) && ((n.length:Int) == 4))))
def pCan (l:List S57)(a:Int)(r s n:List Int):Bool:=pScript l && (pState a r s n && decide (a < (l.length:Int)))
theorem pCan_facts {l:List S57}{a:Int}{r s n:List Int}(h:pCan l a r s n=true):0≤a∧a < (l.length:Int)∧r.length=4∧s.length=3∧n.length=4∧(∀ y∈r,0≤y∧y≤999)∧(∀ y∈s,0≤y∧y≤999)∧(∀ y∈n,0≤y∧y≤999)∧(∀ y∈l,pOp y=true)∧a≤19∧l.length≤16:=by
 unfold pCan pScript pState at h
 simp only[pIn,Bool.and_eq_true,decide_eq_true_eq,List.all_eq_true,beq_iff_eq] at h
 obtain⟨⟨h1,h2⟩,⟨⟨h3,h3'⟩,⟨h4,h5⟩,⟨h6,h7⟩,h8,h9⟩,h10⟩:=h
 exact⟨h3,h10,by omega,by omega,by omega,h4,h6,h8,h1,h3',by omega⟩
theorem pOp_reg {y:S57}(h:pOp y=true):0≤y.f1∧y.f1≤3:=by
 unfold pOp at h
 simp only[pIn,Bool.and_eq_true,decide_eq_true_eq] at h
 exact h.1
def pClamp (v:Int):Int:=mx 0 (mn 999 v)
theorem pClamp_in (v:Int):0≤pClamp v∧pClamp v≤999:=by
 unfold pClamp mx mn
 constructor <;> (split <;> split <;> omega)
theorem pClamp_impl (v:Int):mn (mx v 0) 999=pClamp v:=by
 unfold pClamp mx mn
 split <;> split <;> split <;> (try split) <;> omega
def pStep (l:List S57)(a:Int)(r s n:List Int)(v:Int):Int×List Int×List Int×List Int :=
 if pCan l a r s n=true then(
  if (rd_T57 l a).f0=5 then(wrap64 (a+1),r.set (rd_T57 l a).f1.toNat (Int.tmod (wrap64 (rd r (rd_T57 l a).f2+rd r (rd_T57 l a).f3)) 1000),s,n)
  else if (rd_T57 l a).f0=6 then(wrap64 (a+1),r,s,n.set (rd_T57 l a).f2.toNat (rd r (rd_T57 l a).f1))
  else if (rd_T57 l a).f0=7 then(if Int.tmod (rd r (rd_T57 l a).f1) 2=0 then(wrap64 (wrap64 (a+1)+(rd_T57 l a).f2),r,s,n) else(wrap64 (a+1),r,s,n))
  else if (rd_T57 l a).f0=8 then(wrap64 (a+1),r.set (rd_T57 l a).f1.toNat (rd s (rd_T57 l a).f2),s,n)
  else if (rd_T57 l a).f0=9 then(wrap64 (a+1),r,s.set (rd_T57 l a).f2.toNat (rd r (rd_T57 l a).f1),n)
  else(wrap64 (a+1),r.set (rd_T57 l a).f1.toNat (pClamp v),s,n)) else(a,r,s,n)
theorem pOp_5 {y:S57}(h:pOp y=true)(c:y.f0=5):0≤y.f2∧y.f2≤3∧0≤y.f3∧y.f3≤3:=by
 unfold pOp at h
 rw[if_neg (by omega),if_neg (by omega),if_pos c] at h
 simp only[pIn,Bool.and_eq_true,decide_eq_true_eq] at h
 omega
theorem pOp_6 {y:S57}(h:pOp y=true)(c:y.f0=6):0≤y.f2∧y.f2≤3:=by
 unfold pOp at h
 rw[if_neg (by omega),if_neg (by omega),if_neg (by omega),if_pos c] at h
 simp only[pIn,Bool.and_eq_true,decide_eq_true_eq] at h
 omega
theorem pOp_7 {y:S57}(h:pOp y=true)(c:y.f0=7):1≤y.f2∧y.f2≤3:=by
 unfold pOp at h
 rw[if_neg (by omega),if_neg (by omega),if_neg (by omega),if_neg (by omega),if_pos c] at h
 simp only[pIn,Bool.and_eq_true,decide_eq_true_eq] at h
 omega
theorem pOp_8 {y:S57}(h:pOp y=true)(c:y.f0=8):0≤y.f2∧y.f2≤2:=by
 unfold pOp at h
 rw[if_neg (by omega),if_neg (by omega),if_neg (by omega),if_neg (by omega),if_neg (by omega),if_pos c] at h
 simp only[pIn,Bool.and_eq_true,decide_eq_true_eq] at h
 omega
theorem pOp_9 {y:S57}(h:pOp y=true)(c:y.f0=9):0≤y.f2∧y.f2≤2:=by
 unfold pOp at h
 rw[if_neg (by omega),if_neg (by omega),if_neg (by omega),if_neg (by omega),if_neg (by omega),if_neg (by omega),if_pos c] at h
 simp only[pIn,Bool.and_eq_true,decide_eq_true_eq] at h
 omega
def pAsks (k:Int):Bool:=decide (1≤k) && decide (k≤4)
def pWant (l:List S57)(a:Int)(r s n:List Int):Int×Int×Int×Int :=
 if pCan l a r s n=true∧pAsks (rd_T57 l a).f0=true then(if (rd_T57 l a).f0=1 then((rd_T57 l a).f0,(rd_T57 l a).f2,(rd_T57 l a).f3,Int.tmod (rd r (rd_T57 l a).f1) 100) else((rd_T57 l a).f0,0,0,0)) else(0,0,0,0)
theorem rd_in {l:List Int}(h:∀ y∈l,0≤y∧y≤999)(i:Int):0≤rd l i∧rd l i≤999:=by
 unfold rd
 rw[List.getD_eq_getElem?_getD]
 cases e:l[i.toNat]? with
 | none=>simp
 | some y=>exact h y (List.mem_of_getElem? e)
theorem Ev.ite_to {α:Type}{c:Prop} [Decidable c] {A B:Nat→Option α}{r:α}(k:c→Ev A r)(l:¬c→Ev B r):Ev (fun n=>if c then A n else B n) r:=by
 by_cases h:c
 ·exact Ev.pos h (k h)
 ·exact Ev.neg h (l h)
theorem set_in {l:List Int}(h:∀ y∈l,0≤y∧y≤999)(i:Nat){x:Int}(hx:0≤x∧x≤999):∀ y∈l.set i x,0≤y∧y≤999:=by
 intro y hy
 rcases List.mem_or_eq_of_mem_set hy with h1 | h1
 ·exact h y h1
 ·omega
theorem tmod_in (m:Int)(h:0≤m):0≤Int.tmod m 1000∧Int.tmod m 1000≤999:=by
 rw[Int.tmod_eq_emod_of_nonneg h]
 omega
theorem pState_mk {a:Int}{r s n:List Int}(ha:0≤a∧a≤19)(h1:r.length=4)(h2:s.length=3)(h3:n.length=4)(k1:∀ y∈r,0≤y∧y≤999)(k2:∀ y∈s,0≤y∧y≤999)(k3:∀ y∈n,0≤y∧y≤999):pState a r s n=true:=by
 unfold pState
 simp only[pIn,Bool.and_eq_true,decide_eq_true_eq,List.all_eq_true,beq_iff_eq]
 exact⟨ha,⟨k1,by omega⟩,⟨k2,by omega⟩,k3,by omega⟩
theorem pStep_ok (l:List S57)(a:Int)(r s n:List Int)(v:Int)(hc:pCan l a r s n=true):pState (pStep l a r s n v).1 (pStep l a r s n v).2.1 (pStep l a r s n v).2.2.1 (pStep l a r s n v).2.2.2=true∧a < (pStep l a r s n v).1∧(pStep l a r s n v).1≤a+4:=by
 obtain⟨f1,f2,f3,f4,f5,f6,f7,f8,f9,f10,f11⟩:=pCan_facts hc
 have ho:pOp (rd_T57 l a)=true:=f9 _ (getD_mem l a.toNat (by omega) z57)
 have ew:wrap64 (a+1)=a+1:=w64 (by omega) (by omega)
 unfold pStep
 rw[if_pos hc]
 generalize rd_T57 l a=y at ho
 by_cases c5:y.f0=5
 ·rw[if_pos c5,ew]
  have g1:=rd_in f6 y.f2
  have g2:=rd_in f6 y.f3
  refine⟨pState_mk (by dsimp only;omega) (by simpa using f3) f4 f5 (set_in f6 _ (tmod_in _ ?_)) f7 f8,by dsimp only;omega,by dsimp only;omega⟩
  rw[w64 (by omega) (by omega)]
  omega
 rw[if_neg c5]
 by_cases c6:y.f0=6
 ·rw[if_pos c6,ew]
  exact⟨pState_mk (by dsimp only;omega) f3 f4 (by simpa using f5) f6 f7 (set_in f8 _ (rd_in f6 _)),by dsimp only;omega,by dsimp only;omega⟩
 rw[if_neg c6]
 by_cases c7:y.f0=7
 ·have g:=pOp_7 ho c7
  rw[if_pos c7,ew]
  by_cases c:Int.tmod (rd r y.f1) 2=0
  ·rw[if_pos c,w64 (by omega) (by omega)]
   exact⟨pState_mk (by dsimp only;omega) f3 f4 f5 f6 f7 f8,by dsimp only;omega,by dsimp only;omega⟩
  ·rw[if_neg c]
   exact⟨pState_mk (by dsimp only;omega) f3 f4 f5 f6 f7 f8,by dsimp only;omega,by dsimp only;omega⟩
 rw[if_neg c7]
 by_cases c8:y.f0=8
 ·rw[if_pos c8,ew]
  exact⟨pState_mk (by dsimp only;omega) (by simpa using f3) f4 f5 (set_in f6 _ (rd_in f7 _)) f7 f8,by dsimp only;omega,by dsimp only;omega⟩
 rw[if_neg c8]
 by_cases c9:y.f0=9
 ·rw[if_pos c9,ew]
  exact⟨pState_mk (by dsimp only;omega) f3 (by simpa using f4) f5 f6 (set_in f7 _ (rd_in f6 _)) f8,by dsimp only;omega,by dsimp only;omega⟩
 rw[if_neg c9,ew]
 exact⟨pState_mk (by dsimp only;omega) (by simpa using f3) f4 f5 (set_in f6 _ (pClamp_in v)) f7 f8,by dsimp only;omega,by dsimp only;omega⟩
theorem pWant_ok (l:List S57)(a:Int)(r s n:List Int)(hc:pCan l a r s n=true)(h:0 < (pWant l a r s n).1):pAsks (pWant l a r s n).1=true∧((pWant l a r s n).1=1→pAddr (pWant l a r s n).2.1 (pWant l a r s n).2.2.1 (pWant l a r s n).2.2.2=true):=by
 obtain⟨f1,f2,f3,f4,f5,f6,f7,f8,f9,f10,f11⟩:=pCan_facts hc
 have ho:pOp (rd_T57 l a)=true:=f9 _ (getD_mem l a.toNat (by omega) z57)
 unfold pWant at h ⊢
 generalize rd_T57 l a=y at ho h ⊢
 by_cases c:pCan l a r s n=true∧pAsks y.f0=true
 ·rw[if_pos c] at h ⊢
  by_cases c1:y.f0=1
  ·rw[if_pos c1] at h ⊢
   refine⟨c.2,fun _=>?_⟩
   have g:=rd_in f6 y.f1
   have hg:0≤Int.tmod (rd r y.f1) 100∧Int.tmod (rd r y.f1) 100≤99:=by
    rw[Int.tmod_eq_emod_of_nonneg g.1]
    omega
   unfold pOp at ho
   rw[if_pos c1] at ho
   unfold pAddr
   simp only[pIn,Bool.and_eq_true,decide_eq_true_eq] at ho ⊢
   exact⟨ho.2.1,ho.2.2,hg⟩
  ·rw[if_neg c1] at h ⊢
   exact⟨c.2,fun e=>absurd e c1⟩
 ·rw[if_neg c] at h
  exact absurd h (by simp)
def z0:Int×List Int×List Int×List Int:=(0,[0,0,0,0],[0,0,0],[0,0,0,0])
theorem pWant_nn (l:List S57)(a:Int)(r s n:List Int)(hc:pCan l a r s n=true):0≤(pWant l a r s n).1:=by
 unfold pWant
 split
 ·rename_i c
  have:=c.2
  unfold pAsks at this
  simp only[Bool.and_eq_true,decide_eq_true_eq] at this
  split <;> (dsimp only;omega)
 ·simp
theorem pScript_len {l:List S57}(h:pScript l=true):l.length≤16:=by
 unfold pScript at h
 simp only[Bool.and_eq_true,decide_eq_true_eq] at h
 omega
def StOk (z:Int×List Int×List Int×List Int):Prop:=pState z.1 z.2.1 z.2.2.1 z.2.2.2=true
theorem z0_ok:StOk z0:=by unfold StOk;decide
theorem can_of {l:List S57}(hs:pScript l=true){z:Int×List Int×List Int×List Int}(hz:StOk z)(h:¬(l.length:Int)≤z.1):pCan l z.1 z.2.1 z.2.2.1 z.2.2.2=true:=by
 unfold pCan
 unfold StOk at hz
 rw[hs,hz]
 simp only[Bool.true_and,decide_eq_true_eq]
 omega
theorem StOk_len {z:Int×List Int×List Int×List Int}(h:StOk z):z.2.1.length=4∧z.2.2.1.length=3∧z.2.2.2.length=4:=by
 unfold StOk pState at h
 simp only[Bool.and_eq_true,beq_iff_eq] at h
 omega
def pRes (k:Int)(b:List Int)(h p q:Int):Bool :=
 if k=1∨k=2 then decide ((b.length:Int)≤6) && (b.all (pIn · 0 255) && pZero h p q)
 else if k=3 then decide ((b.length:Int)=0) && pAddr h p q
 else if k=4 then decide ((b.length:Int)=0) && pZero h p q
 else false
def pVersion (y:S83):Bool:=pAddr y.f0.f0 y.f0.f1 y.f0.f2 && (pIn y.f1 0 1000 && pRes y.f2.f0 y.f2.f1 y.f2.f2.f0 y.f2.f2.f1 y.f2.f2.f2)
def pIsSite (l:List S83):Bool:=l.all pVersion && decide ((l.length:Int)≤12)
def pVisit (s:List S83)(t sd:Int)(i:List Int):Bool:=pIsSite s && (pIn t 0 1000 && (pIn sd 0 9999 && (decide ((i.length:Int)≤8) && i.all (pIn · 0 999))))
abbrev Rsc:=Int×List Int×Int×Int×Int
def pHere (a p q t:Int)(y:S83):Bool:=(y.f0.f0 == a && (y.f0.f1 == p && (y.f0.f2 == q))) && decide (y.f1≤t)
def ansStep (a p q t:Int)(r:Rsc)(y:S83):Rsc:=if pHere a p q t y=true then(y.f2.f0,y.f2.f1,y.f2.f2.f0,y.f2.f2.f1,y.f2.f2.f2) else r
def pAnswer (l:List S83)(a p q t:Int):Rsc:=l.foldl (ansStep a p q t) (4,[],0,0,0)
theorem pAnswer_fit (l:List S83)(a p q t:Int)(hf:∀ y∈l,FitimplVersion y):(pAnswer l a p q t).2.1.length≤1048576:=by
 have key:∀ (l:List S83) (r:Rsc),(∀ y∈l,FitimplVersion y)→r.2.1.length≤1048576→(l.foldl (ansStep a p q t) r).2.1.length≤1048576:=by
  intro l
  induction l with
  | nil=>intro r _ h;exact h
  | cons y l ih =>
   intro r hf h
   rw[List.foldl_cons]
   refine ih _ (fun z hz=>hf z (List.mem_cons_of_mem _ hz)) ?_
   unfold ansStep
   split
   ·exact hf y (by simp)
   ·exact h
 exact key l _ hf (by simp)
theorem ev_any {α:Type}(F:Nat→Int→Option Bool)(l:List α)(d:α)(p:α→Bool)
  (hend:∀ k,F (k+1) (l.length:Int)=some false)
  (hyes:∀ i:Nat,i < l.length→p (l.getD i d)=true→Ev (fun k=>F k (i:Int)) true)
  (hno:∀ i:Nat,i < l.length→p (l.getD i d)=false→∀ r,Ev (fun k=>F k ((i+1:Nat):Int)) r→Ev (fun k=>F k (i:Int)) r) :
  Ev (fun k=>F k 0) (l.any p):=by
 have h:=ev_down (fun k i=>F k (i:Int)) l.length (fun i=>(l.drop i).any p) (Ev.round hend (Ev.const fun _=>by simp))
  (fun i hi h=>by
   rw[drop_cons l i hi d,List.any_cons]
   cases hp:p (l.getD i d) with
   | true=>simpa using hyes i hi hp
   | false=>simpa using hno i hi hp _ h)
 simpa using h
abbrev Trail:=Int×List Int×Int×Int×Int×List S48
def pHasA (c:List S48)(a p q:Int):Bool:=c.any fun y=>y.f0 == a && (y.f1 == p && (y.f2 == q))
def pTrail (l:List S83)(t:Int):Nat→List S48→Rsc→Trail
 | 0,c,r=>(r.1,r.2.1,r.2.2.1,r.2.2.2.1,r.2.2.2.2,c)
 | n+1,c,r=>if r.1=3∧pHasA c r.2.2.1 r.2.2.2.1 r.2.2.2.2=false then pTrail l t n (c++[⟨r.2.2.1,r.2.2.2.1,r.2.2.2.2⟩]) (pAnswer l r.2.2.1 r.2.2.2.1 r.2.2.2.2 t) else(r.1,r.2.1,r.2.2.1,r.2.2.2.1,r.2.2.2.2,c)
def pFollow (l:List S83)(a p q t:Int):Trail:=pTrail l t 4 [⟨a,p,q⟩] (pAnswer l a p q t)
theorem pTrail_fit (l:List S83)(t:Int)(hf:∀ y∈l,FitimplVersion y):∀ (n:Nat) (c:List S48) (r:Rsc),r.2.1.length≤1048576→(pTrail l t n c r).2.1.length≤1048576∧(pTrail l t n c r).2.2.2.2.2.length≤c.length+n:=by
 intro n
 induction n with
 | zero=>intro c r h;exact⟨h,Nat.le_refl _⟩
 | succ n ih =>
  intro c r h
  unfold pTrail
  split
  ·have:=ih (c++[⟨r.2.2.1,r.2.2.2.1,r.2.2.2.2⟩]) _ (pAnswer_fit l r.2.2.1 r.2.2.2.1 r.2.2.2.2 t hf)
   refine⟨this.1,?_⟩
   have h2:=this.2
   rw[List.length_append,List.length_singleton] at h2
   omega
  ·exact⟨h,Nat.le_add_right _ _⟩
theorem pFollow_fit (l:List S83)(a p q t:Int)(hf:∀ y∈l,FitimplVersion y):(pFollow l a p q t).2.1.length≤1048576:=(pTrail_fit l t hf 4 _ _ (pAnswer_fit l a p q t hf)).1
def pMod (a b:Int):Int:=if 1≤b∧b≤1000000000000 then Int.tmod (wrap64 ((Int.tmod a b)+b)) b else 0
def hashStep (d y:Int):Int:=Int.tmod (wrap64 ((wrap64 ((wrap64 (d * 1000003))+pMod y 2147483647))+13)) 2147483647
def pHash (l:List Int):Int:=l.foldl hashStep 11
def pSum (b:List Int):Int:=b.foldl (fun x y=>x+y) 0
def pVal (k:Int)(b:List Int)(h p q:Int):Int :=
 if pRes k b h p q=true∧(k=1∨k=2) then(if pSum b % 1000 < 999 then pSum b % 1000+1 else 999) else 0
theorem fold_mod (b:List Int):∀ x:Int,b.foldl (fun x y=>(x+y) % 1000) (x % 1000)=(b.foldl (fun x y=>x+y) x) % 1000:=by
 induction b with
 | nil=>intro x;rfl
 | cons y b ih =>
  intro x
  rw[List.foldl_cons,List.foldl_cons,←ih (x+y)]
  congr 1
  omega
theorem pRes_body {k:Int}{b:List Int}{h p q:Int}(hr:pRes k b h p q=true)(hk:k=1∨k=2):b.length≤6∧∀ y∈b,0≤y∧y≤255:=by
 unfold pRes at hr
 rw[if_pos hk] at hr
 simp only[Bool.and_eq_true,decide_eq_true_eq,List.all_eq_true] at hr
 exact⟨by omega,fun y hy=>hr.2.1 y hy⟩
def pLive (s:List S83)(tk sd:Int)(ins:List Int)(w0 w1 w2 w3 n:Int):Int :=
 if pVisit s tk sd ins=true∧pIn n 0 100=true then
  if w0=1 then pVal (pFollow s w1 w2 w3 (wrap64 (tk+n))).1 (pFollow s w1 w2 w3 (wrap64 (tk+n))).2.1 (pFollow s w1 w2 w3 (wrap64 (tk+n))).2.2.1 (pFollow s w1 w2 w3 (wrap64 (tk+n))).2.2.2.1 (pFollow s w1 w2 w3 (wrap64 (tk+n))).2.2.2.2.1
  else if w0=2 then mn 999 (wrap64 (tk+n))
  else if w0=3 then pMod (pHash [sd,n]) 1000
  else if w0=4 then(if (ins.length:Int) > 0 then rd ins (Int.tmod n (ins.length:Int)) else 0)
  else 0
 else 0
def pSeen (l:List S57)(s:List S83)(tk sd:Int)(ins:List Int):Nat→List S50→List S35→(Int×List Int×List Int×List Int)→List S50×List S35
 | 0,es,tr,_=>(es,tr)
 | m+1,es,tr,z =>
  if (l.length:Int)≤z.1 then(es,tr)
  else if (pWant l z.1 z.2.1 z.2.2.1 z.2.2.2).1=0 then
   pSeen l s tk sd ins m es (tr++[⟨(pStep l z.1 z.2.1 z.2.2.1 z.2.2.2 0).1,(pStep l z.1 z.2.1 z.2.2.1 z.2.2.2 0).2.1,(pStep l z.1 z.2.1 z.2.2.1 z.2.2.2 0).2.2.1,(pStep l z.1 z.2.1 z.2.2.1 z.2.2.2 0).2.2.2⟩]) (pStep l z.1 z.2.1 z.2.2.1 z.2.2.2 0)
  else pSeen l s tk sd ins m (es++[⟨(pWant l z.1 z.2.1 z.2.2.1 z.2.2.2).1,⟨(pWant l z.1 z.2.1 z.2.2.1 z.2.2.2).2.1,(pWant l z.1 z.2.1 z.2.2.1 z.2.2.2).2.2.1,(pWant l z.1 z.2.1 z.2.2.1 z.2.2.2).2.2.2⟩,pAns l s tk sd ins es z⟩]) (tr++[⟨(pStep l z.1 z.2.1 z.2.2.1 z.2.2.2 (pAns l s tk sd ins es z)).1,(pStep l z.1 z.2.1 z.2.2.1 z.2.2.2 (pAns l s tk sd ins es z)).2.1,(pStep l z.1 z.2.1 z.2.2.1 z.2.2.2 (pAns l s tk sd ins es z)).2.2.1,(pStep l z.1 z.2.1 z.2.2.1 z.2.2.2 (pAns l s tk sd ins es z)).2.2.2⟩]) (pStep l z.1 z.2.1 z.2.2.1 z.2.2.2 (pAns l s tk sd ins es z))
where pAns (l:List S57) (s:List S83) (tk sd:Int) (ins:List Int) (es:List S50) (z:Int×List Int×List Int×List Int):Int:=pLive s tk sd ins (pWant l z.1 z.2.1 z.2.2.1 z.2.2.2).1 (pWant l z.1 z.2.1 z.2.2.1 z.2.2.2).2.1 (pWant l z.1 z.2.1 z.2.2.1 z.2.2.2).2.2.1 (pWant l z.1 z.2.1 z.2.2.1 z.2.2.2).2.2.2 (es.length:Int)
def pVis (l:List S57)(s:List S83)(tk sd:Int)(ins:List Int):List S50×List S35 :=
 if pScript l=true∧pVisit s tk sd ins=true then pSeen l s tk sd ins 40 [] [⟨0,[0,0,0,0],[0,0,0],[0,0,0,0]⟩] z0 else([],[⟨0,[0,0,0,0],[0,0,0],[0,0,0,0]⟩])
theorem l1In_eq (a b c:Int):spec_l1In.f a b c=some (decide (b≤a) && decide (a≤c)):=by
 unfold spec_l1In.f
 by_cases h:b≤a <;> simp[h]
theorem sOp_ev (y:S57):Ev (fun k=>spec_l10Ok.f k y.f0 y.f1 y.f2 y.f3) (pOp y):=by
 unfold spec_l10Ok.f pOp
 refine Ev.now_and (l1In_eq _ _ _) fun _=>?_
 by_cases h1:y.f0=1
 ·rw[if_pos h1]
  refine Ev.pos h1 ?_
  exact Ev.now_and (l1In_eq _ _ _) fun _=>Ev.now_bind (l1In_eq _ _ _) (Ev.now _)
 rw[if_neg h1]
 refine Ev.neg h1 ?_
 have hj:∀ x:Bool,(x=true↔y.f0=2∨y.f0=3∨y.f0=4)→Ev (fun k=>spec_l10Ok.j0 k 3 y.f0 x y.f0 y.f1 y.f2 y.f3) (if y.f0=2∨y.f0=3∨y.f0=4 then decide (y.f2=0) && (y.f3 == 0)
  else if y.f0=5 then pIn y.f2 0 3 && pIn y.f3 0 3
  else if y.f0=6 then pIn y.f2 0 3 && (y.f3 == 0)
  else if y.f0=7 then pIn y.f2 1 3 && (y.f3 == 0)
  else if y.f0=8 then pIn y.f2 0 2 && (y.f3 == 0)
  else if y.f0=9 then pIn y.f2 0 2 && (y.f3 == 0)
  else false):=by
  intro x hx
  refine Ev.round (fun _=>by rw[spec_l10Ok.j0]) ?_
  cases x with
  | true =>
   rw[if_pos (hx.1 rfl)]
   refine Ev.pos rfl ?_
   exact Ev.if_and fun _=>Ev.now _
  | false =>
   have hno:¬(y.f0=2∨y.f0=3∨y.f0=4):=fun c=>by simpa using hx.2 c
   rw[if_neg hno]
   refine Ev.neg (by simp) ?_
   refine Ev.ite (fun _=>?_) (fun _=>?_)
   ·exact Ev.now_and (l1In_eq _ _ _) fun _=>Ev.now_bind (l1In_eq _ _ _) (Ev.now _)
   refine Ev.ite (fun _=>?_) (fun _=>?_)
   ·exact Ev.now_and (l1In_eq _ _ _) fun _=>Ev.now _
   refine Ev.ite (fun _=>?_) (fun _=>?_)
   ·exact Ev.now_and (l1In_eq _ _ _) fun _=>Ev.now _
   refine Ev.ite (fun _=>?_) (fun _=>?_)
   ·exact Ev.now_and (l1In_eq _ _ _) fun _=>Ev.now _
   refine Ev.ite (fun _=>?_) (fun _=>?_)
   ·exact Ev.now_and (l1In_eq _ _ _) fun _=>Ev.now _
   ·exact Ev.now _
 by_cases h2:y.f0=2
 ·refine Ev.pos h2 (hj _ ?_)
  simp[h2]
 refine Ev.neg h2 ?_
 by_cases h3:y.f0=3
 ·refine Ev.pos h3 (hj _ ?_)
  simp[h3]
 refine Ev.neg h3 (hj _ ?_)
 simp[h2,h3]
theorem sIsScript_ev (l:List S57)(h:l.length≤1048576):Ev (fun k=>spec_IsScript.f k l) (pScript l):=by
 unfold spec_IsScript.f pScript
 refine ev_all (fun k i=>spec_IsScript.l0 k l i) l z57 pOp _ (fun k=>by rw[spec_IsScript.l0,if_neg (by omega)]) ?_ ?_
 ·intro i hi hp r hr
  have e1:wrap64 ((i:Int)+1)=((i+1:Nat):Int):=by rw[w64 (by omega) (by omega)];omega
  refine Ev.round (fun _=>by rw[spec_IsScript.l0]) ?_
  refine Ev.pos (by omega) ?_
  refine Ev.pos (by omega) ?_
  refine Ev.bind (sOp_ev (rd_T57 l (i:Int))) ?_
  refine Ev.pos hp ?_
  simp only[e1]
  exact hr
 ·intro i hi hp
  refine Ev.round (fun _=>by rw[spec_IsScript.l0]) ?_
  refine Ev.pos (by omega) ?_
  refine Ev.pos (by omega) ?_
  refine Ev.bind (sOp_ev (rd_T57 l (i:Int))) ?_
  refine Ev.neg (ne_true_of_eq_false hp) ?_
  exact Ev.now _
theorem l11All_ev (l:List Int)(n:Int)(h:l.length≤1048576):Ev (fun k=>spec_l11All.f k l n) (l.all (pIn · 0 999) && ((l.length:Int) == n)):=by
 unfold spec_l11All.f
 refine ev_all (fun k i=>spec_l11All.l0 k l n i) l 0 (pIn · 0 999) _ (fun k=>by rw[spec_l11All.l0,if_neg (by omega)]) ?_ ?_
 ·intro i hi hp r hr
  have e1:wrap64 ((i:Int)+1)=((i+1:Nat):Int):=by rw[w64 (by omega) (by omega)];omega
  refine Ev.round (fun _=>by rw[spec_l11All.l0]) ?_
  refine Ev.pos (by omega) ?_
  refine Ev.pos (by omega) ?_
  refine Ev.now_bind (l1In_eq _ _ _) ?_
  refine Ev.pos ?_ ?_
  ·rw[rd_nat];exact hp
  ·simp only[e1];exact hr
 ·intro i hi hp
  refine Ev.round (fun _=>by rw[spec_l11All.l0]) ?_
  refine Ev.pos (by omega) ?_
  refine Ev.pos (by omega) ?_
  refine Ev.now_bind (l1In_eq _ _ _) ?_
  refine Ev.neg ?_ (Ev.now _)
  rw[rd_nat];exact ne_true_of_eq_false hp
theorem sIsState_ev (a:Int)(r s n:List Int)(h1:r.length≤1048576)(h2:s.length≤1048576)(h3:n.length≤1048576):Ev (fun k=>spec_IsState.f k a r s n) (pState a r s n):=by
 unfold spec_IsState.f pState
 exact Ev.now_and (l1In_eq _ _ _) fun _=>Ev.and (l11All_ev r 4 h1) fun _=>Ev.and (l11All_ev s 3 h2) fun _=>Ev.id (l11All_ev n 4 h3)
theorem sCan_ev (l:List S57)(a:Int)(r s n:List Int)(h:l.length≤1048576)(h1:r.length≤1048576)(h2:s.length≤1048576)(h3:n.length≤1048576):Ev (fun k=>spec_l11Can.f k l a r s n) (pCan l a r s n):=by
 unfold spec_l11Can.f pCan
 exact Ev.and (sIsScript_ev l h) fun _=>Ev.and (sIsState_ev a r s n h1 h2 h3) fun _=>Ev.now _
theorem sAsks_eq (k:Int):spec_Asks.f k=some (pAsks k):=by
 unfold spec_Asks.f pAsks
 rw[l1In_eq]
 rfl
theorem sWant_ev (l:List S57)(a:Int)(r s n:List Int)(h:l.length≤1048576)(h1:r.length≤1048576)(h2:s.length≤1048576)(h3:n.length≤1048576):Ev (fun k=>spec_WantOf.f k l a r s n) (pWant l a r s n):=by
 unfold spec_WantOf.f pWant
 refine Ev.bind (sCan_ev l a r s n h h1 h2 h3) ?_
 have hj:Ev (fun k=>spec_WantOf.j0 k l true a r s n) (0,0,0,0):=by
  refine Ev.round (fun _=>by rw[spec_WantOf.j0]) ?_
  refine Ev.pos rfl ?_
  exact Ev.now _
 cases hc:pCan l a r s n with
 | false=>exact Ev.neg (by simp) (Ev.cast hj (by simp))
 | true =>
  obtain⟨f1,f2,f3,f4,f5,f6,f7,f8,f9,_,_⟩:=pCan_facts hc
  refine Ev.pos rfl ?_
  refine Ev.pos f1 ?_
  refine Ev.pos f2 ?_
  refine Ev.now_bind (sAsks_eq _) ?_
  cases hk:pAsks (rd_T57 l a).f0 with
  | false=>exact Ev.cast hj (by simp)
  | true =>
   have hr:=pOp_reg (f9 _ (getD_mem l a.toNat (by omega) z57))
   have hr':0≤(rd_T57 l a).f1∧(rd_T57 l a).f1≤3:=hr
   rw[if_pos ⟨rfl,rfl⟩]
   refine Ev.round (fun _=>by rw[spec_WantOf.j0]) ?_
   refine Ev.neg (by simp) ?_
   refine Ev.pos f1 ?_
   refine Ev.pos f2 ?_
   refine Ev.ite (fun _=>?_) (fun _=>Ev.now _)
   exact Ev.pos hr'.1 (Ev.pos (by omega) (Ev.now _))
theorem sCopy_eq (a:Int)(r s n:List Int)(h1:r.length≤1048576)(h2:s.length≤1048576)(h3:n.length≤1048576):spec_l11Copy.f a r s n=some (a,r,s,n):=by
 simp only[spec_l11Copy.f,Option.bind_some,List.nil_append,List.length_nil]
 rw[if_pos (by omega)]
 rw[if_pos (by omega)]
 rw[if_pos (by omega)]
theorem sStep_ev (l:List S57)(a:Int)(r s n:List Int)(v:Int)(h:l.length≤1048576)(h1:r.length≤1048576)(h2:s.length≤1048576)(h3:n.length≤1048576):Ev (fun k=>spec_StepState.f k l a r s n v) (pStep l a r s n v):=by
 unfold spec_StepState.f
 refine Ev.now_bind (sCopy_eq a r s n h1 h2 h3) ?_
 refine Ev.bind (sCan_ev l a r s n h h1 h2 h3) ?_
 dsimp only
 unfold pStep
 by_cases c:pCan l a r s n=true
 ·obtain⟨f1,f2,f3,f4,f5,f6,f7,f8,f9,f10,f11⟩:=pCan_facts c
  have ho:pOp (rd_T57 l a)=true:=f9 _ (getD_mem l a.toNat (by omega) z57)
  have hr:=pOp_reg ho
  refine Ev.rpos c ?_
  refine Ev.pos c ?_
  refine Ev.pos f1 ?_
  refine Ev.pos f2 ?_
  refine Ev.ite (fun c5=>?_) (fun c5=>?_)
  ·have ha:=pOp_5 ho c5
   refine Ev.pos ha.1 ?_
   refine Ev.pos (by omega) ?_
   refine Ev.pos ha.2.2.1 ?_
   refine Ev.pos (by omega) ?_
   refine Ev.pos hr.1 ?_
   refine Ev.pos (by omega) ?_
   exact Ev.now _
  refine Ev.ite (fun c6=>?_) (fun c6=>?_)
  ·have ha:=pOp_6 ho c6
   refine Ev.pos hr.1 ?_
   refine Ev.pos (by omega) ?_
   refine Ev.pos ha.1 ?_
   refine Ev.pos (by omega) ?_
   exact Ev.now _
  refine Ev.ite (fun c7=>?_) (fun c7=>?_)
  ·refine Ev.pos hr.1 ?_
   refine Ev.pos (by omega) ?_
   exact Ev.ite (fun _=>Ev.now _) (fun _=>Ev.now _)
  refine Ev.ite (fun c8=>?_) (fun c8=>?_)
  ·have ha:=pOp_8 ho c8
   refine Ev.pos ha.1 ?_
   refine Ev.pos (by omega) ?_
   refine Ev.pos hr.1 ?_
   refine Ev.pos (by omega) ?_
   exact Ev.now _
  refine Ev.ite (fun c9=>?_) (fun c9=>?_)
  ·have ha:=pOp_9 ho c9
   refine Ev.pos hr.1 ?_
   refine Ev.pos (by omega) ?_
   refine Ev.pos ha.1 ?_
   refine Ev.pos (by omega) ?_
   exact Ev.now _
  have em:spec_Min.f 999 v=some (mn 999 v):=by
   unfold spec_Min.f mn
   split <;> rfl
  have ex:spec_Max.f 0 (mn 999 v)=some (pClamp v):=by
   unfold spec_Max.f pClamp mx
   by_cases cx:(0:Int) < mn 999 v
   ·rw[if_pos cx,if_pos (show mn 999 v > 0 from cx)]
   ·rw[if_neg cx,if_neg (show ¬mn 999 v > 0 from cx)]
  refine Ev.now_bind em ?_
  refine Ev.now_bind ex ?_
  refine Ev.pos hr.1 ?_
  refine Ev.pos (by omega) ?_
  exact Ev.now _
 ·refine Ev.rneg c ?_
  exact Ev.neg c (Ev.now _)
theorem l11Zeros_ev (n:Nat)(hn:n≤1048576):Ev (fun k=>spec_l11Zeros.f k (n:Int)) (List.replicate n 0):=by
 have key:∀ d i:Nat,i+d=n→Ev (fun k=>spec_l11Zeros.l0 k (n:Int) (List.replicate i 0) (i:Int)) (List.replicate n 0):=by
  intro d
  induction d with
  | zero =>
   intro i hi
   obtain rfl:i=n:=by omega
   refine Ev.round (fun _=>by rw[spec_l11Zeros.l0]) ?_
   exact Ev.neg (by omega) (Ev.now _)
  | succ d ih =>
   intro i hi
   have e1:wrap64 ((i:Int)+1)=((i+1:Nat):Int):=by rw[w64 (by omega) (by omega)];omega
   have h:=ih (i+1) (by omega)
   rw[List.replicate_succ'] at h
   refine Ev.round (fun _=>by rw[spec_l11Zeros.l0]) ?_
   refine Ev.pos (by omega) ?_
   refine Ev.pos (by rw[List.length_replicate];omega) ?_
   simp only[e1]
   exact h
 exact key n 0 (by omega)
theorem sStart_ev:Ev (fun k=>spec_StartState.f k) (0,[0,0,0,0],[0,0,0],[0,0,0,0]):=by
 unfold spec_StartState.f
 exact Ev.bind (l11Zeros_ev 4 (by omega)) (Ev.bind (l11Zeros_ev 3 (by omega)) (Ev.bind (l11Zeros_ev 4 (by omega)) (Ev.now _)))
theorem sIsAddress_eq (h p q:Int):spec_IsAddress.f h p q=some (pAddr h p q):=by
 simp only[spec_IsAddress.f,l1In_eq,Option.bind_some,some_and]
theorem l5Bytes_ev (l:List Int)(h:l.length≤1048576):Ev (fun k=>spec_l5Bytes.f k l) (l.all (pIn · 0 255)):=by
 unfold spec_l5Bytes.f
 refine Ev.cast (ev_all (fun k i=>spec_l5Bytes.l0 k l i) l 0 (pIn · 0 255) true (fun k=>by rw[spec_l5Bytes.l0,if_neg (by omega)]) ?_ ?_) (Bool.and_true _)
 ·intro i hi hp r hr
  have e1:wrap64 ((i:Int)+1)=((i+1:Nat):Int):=by rw[w64 (by omega) (by omega)];omega
  refine Ev.round (fun _=>by rw[spec_l5Bytes.l0]) ?_
  refine Ev.pos (by omega) ?_
  refine Ev.pos (by omega) ?_
  refine Ev.now_bind (l1In_eq _ _ _) ?_
  refine Ev.pos ?_ ?_
  ·rw[rd_nat];exact hp
  ·simp only[e1];exact hr
 ·intro i hi hp
  refine Ev.round (fun _=>by rw[spec_l5Bytes.l0]) ?_
  refine Ev.pos (by omega) ?_
  refine Ev.pos (by omega) ?_
  refine Ev.now_bind (l1In_eq _ _ _) ?_
  refine Ev.neg ?_ (Ev.now _)
  rw[rd_nat];exact ne_true_of_eq_false hp
theorem sIsResource_ev (k:Int)(b:List Int)(h p q:Int)(hb:b.length≤1048576):Ev (fun n=>spec_IsResource.f n k b h p q) (pRes k b h p q):=by
 have hj:∀ x:Bool,Ev (fun n=>spec_IsResource.j0 n x k b h p q) (!x && (if k=3 then pAddr h p q && ((b.length:Int) == 0) else(pZero h p q && (if k=4 then((b.length:Int) == 0) else true)))):=by
  intro x
  refine Ev.round (fun _=>by rw[spec_IsResource.j0]) ?_
  cases x with
  | true=>exact Ev.pos rfl (Ev.now _)
  | false =>
   refine Ev.neg (by simp) ?_
   by_cases h3:k=3
   ·refine Ev.pos h3 ?_
    simp only[h3,if_true,Bool.not_false,Bool.true_and]
    exact Ev.now_and (sIsAddress_eq _ _ _) fun _=>Ev.now _
   ·refine Ev.neg h3 ?_
    simp only[h3,if_false,Bool.not_false,Bool.true_and]
    by_cases hz:pZero h p q=true
    ·refine Ev.pos hz ?_
     by_cases h4:k=4
     ·refine Ev.pos h4 ?_
      exact Ev.cast (Ev.now _) (by simp[h4,hz])
     ·refine Ev.neg h4 ?_
      exact Ev.cast (Ev.now _) (by simp[h4,hz])
    ·refine Ev.neg hz ?_
     exact Ev.cast (Ev.now _) (by simp[hz])
 unfold spec_IsResource.f
 refine Ev.now_bind (l1In_eq _ _ _) ?_
 by_cases hk:1≤k∧k≤4
 ·refine Ev.pos (by simp[hk]) ?_
  refine Ev.bind (l5Bytes_ev b hb) ?_
  have hcases:k=1∨k=2∨k=3∨k=4:=by omega
  cases hall:b.all (pIn · 0 255) with
  | true =>
   refine Ev.pos rfl ?_
   refine Ev.cast (hj _) ?_
   unfold pRes
   have h6:decide ((b.length:Int) > 6)=!decide ((b.length:Int)≤6):=by
    by_cases c:(b.length:Int)≤6
    ·have:¬(b.length:Int) > 6:=by omega
     simp[c,this]
    ·have:(b.length:Int) > 6:=by omega
     simp[c,this]
   rw[h6]
   rcases hcases with rfl | rfl | rfl | rfl
   ·simp[hall]
   ·simp[hall]
   ·by_cases c:b.length=0
    ·have hn:b=[]:=List.eq_nil_of_length_eq_zero c
     subst hn
     simp
    ·simp[c]
   ·by_cases c:b.length=0
    ·have hn:b=[]:=List.eq_nil_of_length_eq_zero c
     subst hn
     simp
    ·simp[c]
  | false =>
   refine Ev.neg (by simp) ?_
   refine Ev.cast (hj true) ?_
   unfold pRes
   have hne:b≠[]:=by
    rintro rfl
    simp at hall
   have h0:¬b.length=0:=fun e=>hne (List.eq_nil_of_length_eq_zero e)
   rcases hcases with rfl | rfl | rfl | rfl
   ·simp[hall]
   ·simp[hall]
   ·simp[h0]
   ·simp[h0]
 ·refine Ev.neg (by simp;omega) ?_
  refine Ev.cast (hj true) ?_
  have hp:pRes k b h p q=false:=by
   unfold pRes
   rw[if_neg (by omega),if_neg (by omega),if_neg (by omega)]
  rw[hp]
  simp
theorem sIsSite_ev (l:List S83)(h:l.length≤1048576)(hf:∀ y∈l,FitimplVersion y):Ev (fun k=>spec_IsSite.f k l) (pIsSite l):=by
 unfold spec_IsSite.f pIsSite
 refine ev_all (fun k i=>spec_IsSite.l0 k l i) l z83 pVersion _ (fun k=>by rw[spec_IsSite.l0,if_neg (by omega)]) ?_ ?_
 ·intro i hi hp r hr
  have e1:wrap64 ((i:Int)+1)=((i+1:Nat):Int):=by rw[w64 (by omega) (by omega)];omega
  have hp':pVersion (rd_T83 l (i:Int))=true:=hp
  have hfy:FitimplVersion (rd_T83 l (i:Int)):=hf _ (getD_mem l i hi z83)
  generalize hy:rd_T83 l (i:Int)=y at hp' hfy
  unfold pVersion at hp'
  simp only[Bool.and_eq_true] at hp'
  obtain⟨p1,p2,p3⟩:=hp'
  refine Ev.round (fun _=>by rw[spec_IsSite.l0]) ?_
  refine Ev.pos (by omega) ?_
  refine Ev.pos (by omega) ?_
  simp only[hy,e1]
  refine Ev.now_bind (sIsAddress_eq _ _ _) ?_
  refine Ev.pos (by simp[p1]) ?_
  refine Ev.now_bind (l1In_eq _ _ _) ?_
  refine Ev.pos (by simp[p2]) ?_
  refine Ev.bind (sIsResource_ev _ _ _ _ _ hfy) ?_
  exact Ev.pos p3 hr
 ·intro i hi hp
  have hp':pVersion (rd_T83 l (i:Int))=false:=hp
  have hfy:FitimplVersion (rd_T83 l (i:Int)):=hf _ (getD_mem l i hi z83)
  generalize hy:rd_T83 l (i:Int)=y at hp' hfy
  unfold pVersion at hp'
  refine Ev.round (fun _=>by rw[spec_IsSite.l0]) ?_
  refine Ev.pos (by omega) ?_
  refine Ev.pos (by omega) ?_
  simp only[hy]
  refine Ev.now_bind (sIsAddress_eq _ _ _) ?_
  cases p1:pAddr y.f0.f0 y.f0.f1 y.f0.f2 with
  | false=>exact Ev.neg (by simp) (Ev.now _)
  | true =>
   rw[p1,Bool.true_and] at hp'
   refine Ev.pos rfl ?_
   refine Ev.now_bind (l1In_eq _ _ _) ?_
   cases p2:pIn y.f1 0 1000 with
   | false=>exact Ev.neg (ne_true_of_eq_false p2) (Ev.now _)
   | true =>
    rw[p2,Bool.true_and] at hp'
    refine Ev.pos p2 ?_
    refine Ev.bind (sIsResource_ev _ _ _ _ _ hfy) ?_
    refine Ev.neg (ne_true_of_eq_false hp') ?_
    exact Ev.now _
theorem sIsVisit_ev (s:List S83)(t sd:Int)(i:List Int)(h:s.length≤1048576)(hf:∀ y∈s,FitimplVersion y)(hi:i.length≤1048576):Ev (fun k=>spec_IsVisit.f k s t sd i) (pVisit s t sd i):=by
 unfold spec_IsVisit.f pVisit
 refine Ev.and (sIsSite_ev s h hf) fun _=>Ev.now_and (l1In_eq _ _ _) fun _=>Ev.now_and (l1In_eq _ _ _) fun _=>Ev.if_and fun _=>?_
 exact Ev.cast (Ev.id (l11All_ev i _ hi)) (by simp)
theorem l5Copy_eq (k:Int)(b:List Int)(h p q:Int)(hb:b.length≤1048576):spec_l5Copy.f k b h p q=some (k,b,h,p,q):=by
 simp only[spec_l5Copy.f,Option.bind_some,List.nil_append,List.length_nil]
 rw[if_pos (by omega)]
theorem sAnswer_ev (l:List S83)(a p q t:Int)(h:l.length≤1048576)(hf:∀ y∈l,FitimplVersion y):Ev (fun k=>spec_AnswerAt.f k l a p q t) (pAnswer l a p q t):=by
 unfold spec_AnswerAt.f pAnswer
 refine ev_foldl (fun k (x:Rsc) i=>spec_AnswerAt.l0 k l t i a p q x.1 x.2.1 x.2.2.1 x.2.2.2.1 x.2.2.2.2) l z83 (ansStep a p q t) (fun x=>x) (fun _ _=>True) (4,[],0,0,0) trivial ?_ ?_
 ·intro x _
  refine Ev.round (fun _=>by rw[spec_AnswerAt.l0]) ?_
  exact Ev.neg (by omega) (Ev.now _)
 ·intro i x hi _
  have e1:wrap64 ((i:Int)+1)=((i+1:Nat):Int):=by rw[w64 (by omega) (by omega)];omega
  refine⟨trivial,fun r hr=>?_⟩
  have hfy:FitimplVersion (rd_T83 l (i:Int)):=hf _ (getD_mem l i hi z83)
  have hr':Ev (fun k=>spec_AnswerAt.l0 k l t ((i+1:Nat):Int) a p q (ansStep a p q t x (rd_T83 l (i:Int))).1 (ansStep a p q t x (rd_T83 l (i:Int))).2.1 (ansStep a p q t x (rd_T83 l (i:Int))).2.2.1 (ansStep a p q t x (rd_T83 l (i:Int))).2.2.2.1 (ansStep a p q t x (rd_T83 l (i:Int))).2.2.2.2) r:=hr
  refine Ev.round (fun _=>by rw[spec_AnswerAt.l0]) ?_
  refine Ev.pos (by omega) ?_
  refine Ev.pos (by omega) ?_
  generalize hy:rd_T83 l (i:Int)=y at hr' hfy
  simp only[e1]
  unfold ansStep pHere at hr'
  cases c1:(y.f0.f0 == a && (y.f0.f1 == p && (y.f0.f2 == q))) with
  | false =>
   rw[c1] at hr'
   exact Ev.neg (by simp) hr'
  | true =>
   rw[c1] at hr'
   refine Ev.pos rfl ?_
   by_cases c2:y.f1≤t
   ·rw[decide_eq_true c2] at hr'
    exact Ev.pos c2 (Ev.now_bind (l5Copy_eq _ _ _ _ _ hfy) hr')
   ·rw[decide_eq_false c2] at hr'
    exact Ev.neg c2 hr'
theorem l9Has_ev (c:List S48)(a p q:Int)(h:c.length≤1048576):Ev (fun k=>spec_l9Has.f k c a p q) (pHasA c a p q):=by
 unfold spec_l9Has.f pHasA
 refine ev_any (fun k i=>spec_l9Has.l0 k c i a p q) c z48 _ (fun k=>by rw[spec_l9Has.l0,if_neg (by omega)]) ?_ ?_
 ·intro i hi hp
  refine Ev.round (fun _=>by rw[spec_l9Has.l0]) ?_
  exact Ev.pos (by omega) (Ev.pos (by omega) (Ev.pos hp (Ev.now _)))
 ·intro i hi hp r hr
  have e1:wrap64 ((i:Int)+1)=((i+1:Nat):Int):=by rw[w64 (by omega) (by omega)];omega
  refine Ev.round (fun _=>by rw[spec_l9Has.l0]) ?_
  refine Ev.pos (by omega) ?_
  refine Ev.pos (by omega) ?_
  refine Ev.neg (ne_true_of_eq_false hp) ?_
  simp only[e1]
  exact hr
theorem sTrail_ev (l:List S83)(t:Int)(h:l.length≤1048576)(hf:∀ y∈l,FitimplVersion y):∀ (n:Nat) (c:List S48) (r:Rsc),c.length+n=5→Ev (fun k=>spec_FollowAt.l0 k l t c r.1 r.2.1 r.2.2.1 r.2.2.2.1 r.2.2.2.2) (pTrail l t n c r):=by
 intro n
 induction n with
 | zero =>
  intro c r hn
  refine Ev.round (fun _=>by rw[spec_FollowAt.l0]) ?_
  by_cases c1:r.1=3
  ·exact Ev.pos c1 (Ev.neg (by omega) (Ev.now _))
  ·exact Ev.neg c1 (Ev.now _)
 | succ n ih =>
  intro c r hn
  unfold pTrail
  refine Ev.round (fun _=>by rw[spec_FollowAt.l0]) ?_
  by_cases c1:r.1=3
  ·refine Ev.pos c1 ?_
   refine Ev.pos (by omega) ?_
   refine Ev.bind (l9Has_ev c r.2.2.1 r.2.2.2.1 r.2.2.2.2 (by omega)) ?_
   cases c2:pHasA c r.2.2.1 r.2.2.2.1 r.2.2.2.2 with
   | true =>
    rw[if_neg (by simp)]
    exact Ev.pos rfl (Ev.now _)
   | false =>
    rw[if_pos ⟨c1,rfl⟩]
    refine Ev.neg (by simp) ?_
    refine Ev.pos (by omega) ?_
    refine Ev.bind (sAnswer_ev l _ _ _ t h hf) ?_
    exact ih _ _ (by simp only[List.length_append,List.length_singleton];omega)
  ·rw[if_neg (fun z=>c1 z.1)]
   exact Ev.neg c1 (Ev.now _)
theorem sFollow_ev (l:List S83)(a p q t:Int)(h:l.length≤1048576)(hf:∀ y∈l,FitimplVersion y):Ev (fun k=>spec_FollowAt.f k l a p q t) (pFollow l a p q t):=by
 unfold spec_FollowAt.f pFollow
 exact Ev.bind (sAnswer_ev l a p q t h hf) (sTrail_ev l t h hf 4 _ _ rfl)
theorem sMod_eq (a b:Int):spec_Mod.f a b=some (pMod a b):=by
 unfold spec_Mod.f pMod
 rw[l1In_eq,Option.bind_some]
 by_cases h:1≤b∧b≤1000000000000
 ·rw[if_pos h,if_pos (by simp[h.1,h.2]),if_neg (by omega)]
 ·rw[if_neg h,if_neg]
  intro c
  simp only[Bool.and_eq_true,decide_eq_true_eq] at c
  exact h c
theorem sHash_ev (l:List Int)(h:l.length≤1048576):Ev (fun k=>spec_Hash.f k l) (pHash l):=by
 unfold spec_Hash.f pHash
 refine ev_foldl (fun k x i=>spec_Hash.l0 k l x i) l 0 hashStep (fun x=>x) (fun _ _=>True) 11 trivial ?_ ?_
 ·intro x _
  refine Ev.round (fun _=>by rw[spec_Hash.l0]) ?_
  exact Ev.neg (by omega) (Ev.now _)
 ·intro i x hi _
  have e1:wrap64 ((i:Int)+1)=((i+1:Nat):Int):=by rw[w64 (by omega) (by omega)];omega
  refine⟨trivial,fun r hr=>?_⟩
  refine Ev.round (fun _=>by rw[spec_Hash.l0]) ?_
  refine Ev.pos (by omega) ?_
  refine Ev.pos (by omega) ?_
  simp only[e1,rd_nat]
  exact Ev.now_bind (sMod_eq _ _) hr
theorem sMin_eq (a b:Int):spec_Min.f a b=some (if b < a then b else a):=by
 unfold spec_Min.f
 split <;> rfl
theorem sValue_ev (k:Int)(b:List Int)(h p q:Int)(hb:b.length≤1048576):Ev (fun n=>spec_ValueOfResource.f n k b h p q) (pVal k b h p q):=by
 have hj1:Ev (fun n=>spec_ValueOfResource.j0 n true k b h p q) 0:=by
  refine Ev.round (fun _=>by rw[spec_ValueOfResource.j0]) ?_
  refine Ev.pos rfl ?_
  exact Ev.now _
 unfold spec_ValueOfResource.f pVal
 refine Ev.bind (sIsResource_ev k b h p q hb) ?_
 cases hr:pRes k b h p q with
 | false =>
  refine Ev.neg (by simp) ?_
  exact Ev.cast hj1 (by simp)
 | true =>
  refine Ev.pos rfl ?_
  by_cases hk:k=1∨k=2
  ·rw[if_pos ⟨rfl,hk⟩,decide_eq_false (show ¬k > 2 by omega)]
   obtain⟨hl,hy⟩:=pRes_body hr hk
   refine Ev.round (fun _=>by rw[spec_ValueOfResource.j0]) ?_
   refine Ev.neg (by simp) ?_
   have hf:=fold_mod b 0
   have main:=ev_foldl (fun n x i=>spec_ValueOfResource.l0 n x i k b h p q) b 0 (fun x y=>(x+y) % 1000) (fun x=>if x < 999 then x+1 else 999) (fun _ x=>0≤x∧x < 1000) 0 ⟨by omega,by omega⟩ ?_ ?_
   ·rw[show(0:Int)=0 % 1000 from rfl,hf] at main
    exact main
   ·intro x hx
    refine Ev.round (fun _=>by rw[spec_ValueOfResource.l0]) ?_
    refine Ev.neg (by omega) ?_
    refine Ev.now_bind (sMin_eq _ _) ?_
    rw[w64 (by omega) (by omega)]
    refine Ev.cast (Ev.now _) ?_
    by_cases c:x < 999
    ·rw[if_pos c]
     split <;> omega
    ·rw[if_neg c,if_neg (by omega)]
   ·intro i x hi hx
    have e1:wrap64 ((i:Int)+1)=((i+1:Nat):Int):=by rw[w64 (by omega) (by omega)];omega
    have hv:=hy _ (getD_mem b i hi 0)
    refine⟨⟨by omega,by omega⟩,fun r hr2=>?_⟩
    refine Ev.round (fun _=>by rw[spec_ValueOfResource.l0]) ?_
    refine Ev.pos (by omega) ?_
    refine Ev.pos (by omega) ?_
    have e2:Int.tmod (wrap64 (x+rd b (i:Int))) 1000=(x+b.getD i 0) % 1000:=by
     rw[rd_nat,w64 (by omega) (by omega),Int.tmod_eq_emod_of_nonneg (by omega)]
    simp only[e1,e2]
    exact hr2
  ·rw[if_neg (fun c=>hk c.2)]
   have h34:k > 2:=by
    unfold pRes at hr
    rw[if_neg hk] at hr
    by_cases h3:k=3
    ·omega
    ·rw[if_neg h3] at hr
     by_cases h4:k=4
     ·omega
     ·rw[if_neg h4] at hr
      simp at hr
   rw[decide_eq_true h34]
   exact hj1
theorem sLive_ev (s:List S83)(tk sd:Int)(ins:List Int)(w0 w1 w2 w3 n:Int)(h:s.length≤1048576)(hf:∀ y∈s,FitimplVersion y)(hi:ins.length≤1048576):Ev (fun k=>spec_LiveValue.f k s tk sd ins w0 w1 w2 w3 n) (pLive s tk sd ins w0 w1 w2 w3 n):=by
 have hno:¬(pVisit s tk sd ins=true∧pIn n 0 100=true)→Ev (fun k=>spec_LiveValue.j0 k n true s tk sd ins w0 w1 w2 w3) (pLive s tk sd ins w0 w1 w2 w3 n):=by
  intro c
  unfold pLive
  rw[if_neg c]
  refine Ev.round (fun _=>by rw[spec_LiveValue.j0]) ?_
  exact Ev.pos rfl (Ev.now _)
 unfold spec_LiveValue.f
 refine Ev.bind (sIsVisit_ev s tk sd ins h hf hi) ?_
 cases hv:pVisit s tk sd ins with
 | false =>
  refine Ev.neg (by simp) ?_
  exact hno (by simp[hv])
 | true =>
  refine Ev.pos rfl ?_
  refine Ev.now_bind (l1In_eq _ _ _) ?_
  cases hp:pIn n 0 100 with
  | false =>
   have hp2:(decide (0≤n) && decide (n≤100))=false:=hp
   rw[hp2]
   exact hno (by simp[hp])
  | true =>
   have hp2:(decide (0≤n) && decide (n≤100))=true:=hp
   rw[hp2]
   unfold pLive
   rw[if_pos ⟨hv,hp⟩]
   simp only[pIn,Bool.and_eq_true,decide_eq_true_eq] at hp
   refine Ev.round (fun _=>by rw[spec_LiveValue.j0]) ?_
   refine Ev.neg (by simp) ?_
   by_cases c1:w0=1
   ·rw[if_pos c1]
    exact Ev.pos c1 (Ev.bind (sFollow_ev s w1 w2 w3 (wrap64 (tk+n)) h hf) (Ev.id (sValue_ev _ _ _ _ _ (pFollow_fit s w1 w2 w3 (wrap64 (tk+n)) hf))))
   rw[if_neg c1]
   refine Ev.neg c1 ?_
   by_cases c2:w0=2
   ·rw[if_pos c2]
    refine Ev.pos c2 ?_
    have e:spec_Min.f 999 (wrap64 (tk+n))=some (mn 999 (wrap64 (tk+n))):=by
     unfold spec_Min.f mn
     split <;> rfl
    exact Ev.now_bind e (Ev.now _)
   rw[if_neg c2]
   refine Ev.neg c2 ?_
   by_cases c3:w0=3
   ·rw[if_pos c3]
    exact Ev.pos c3 (Ev.bind (sHash_ev _ (by simp)) (Ev.now_bind (sMod_eq _ _) (Ev.now _)))
   rw[if_neg c3]
   refine Ev.neg c3 ?_
   by_cases c4:w0=4
   ·refine Ev.rpos c4 ?_
    refine Ev.pos c4 ?_
    by_cases c5:(ins.length:Int) > 0
    ·refine Ev.rpos c5 ?_
     have m0:0≤Int.tmod n (ins.length:Int):=Int.tmod_nonneg _ hp.1
     have m1:Int.tmod n (ins.length:Int) < (ins.length:Int):=Int.tmod_lt_of_pos _ c5
     exact Ev.pos c5 (Ev.neg (by omega) (Ev.pos m0 (Ev.pos m1 (Ev.now _))))
    ·refine Ev.rneg c5 ?_
     exact Ev.neg c5 (Ev.now _)
   refine Ev.rneg c4 ?_
   exact Ev.neg c4 (Ev.now _)
theorem s13_l0 (l:List S57)(s:List S83)(tk sd:Int)(ins:List Int)(hs:pScript l=true)(hv:pVisit s tk sd ins=true)(h:s.length≤1048576)(hf:∀ y∈s,FitimplVersion y)(hi:ins.length≤1048576):∀ (m:Nat) (es:List S50) (tr:List S35) (z:Int×List Int×List Int×List Int),StOk z→(l.length:Int)≤z.1+(m:Int)→es.length+m≤1000→tr.length+m≤1000 →
  Ev (fun k=>spec_l13Run.l0 k l es tr s tk sd ins z.1 z.2.1 z.2.2.1 z.2.2.2) (pSeen l s tk sd ins (m+1) es tr z):=by
 have hl:=pScript_len hs
 intro m
 induction m with
 | zero =>
  intro es tr z hz hm he ht
  have c1:(l.length:Int)≤z.1:=by omega
  rw[pSeen,if_pos c1]
  refine Ev.round (fun _=>by rw[spec_l13Run.l0]) ?_
  refine Ev.bind (sIsScript_ev l (by omega)) ?_
  refine Ev.pos hs ?_
  refine Ev.bind (sIsVisit_ev s tk sd ins h hf hi) ?_
  refine Ev.pos hv ?_
  refine Ev.now_bind rfl ?_
  refine Ev.round (fun _=>by rw[spec_l13Run.j1]) ?_
  exact Ev.neg (by rw[decide_eq_true c1];decide) (Ev.now _)
 | succ m ih =>
  intro es tr z hz hm he ht
  by_cases c1:(l.length:Int)≤z.1
  ·rw[pSeen,if_pos c1]
   refine Ev.round (fun _=>by rw[spec_l13Run.l0]) ?_
   refine Ev.bind (sIsScript_ev l (by omega)) ?_
   refine Ev.pos hs ?_
   refine Ev.bind (sIsVisit_ev s tk sd ins h hf hi) ?_
   refine Ev.pos hv ?_
   refine Ev.now_bind rfl ?_
   refine Ev.round (fun _=>by rw[spec_l13Run.j1]) ?_
   exact Ev.neg (by rw[decide_eq_true c1];decide) (Ev.now _)
  have hc:=can_of hs hz c1
  obtain⟨g1,g2,g3⟩:=StOk_len hz
  have hw:=sWant_ev l z.1 z.2.1 z.2.2.1 z.2.2.2 (by omega) (by omega) (by omega) (by omega)
  have hst:=fun v=>sStep_ev l z.1 z.2.1 z.2.2.1 z.2.2.2 v (by omega) (by omega) (by omega) (by omega)
  have hok:=fun v=>pStep_ok l z.1 z.2.1 z.2.2.1 z.2.2.2 v hc
  have hnn:=pWant_nn l z.1 z.2.1 z.2.2.1 z.2.2.2 hc
  rw[pSeen,if_neg c1]
  unfold pSeen.pAns
  refine Ev.round (fun _=>by rw[spec_l13Run.l0]) ?_
  refine Ev.bind (sIsScript_ev l (by omega)) ?_
  refine Ev.pos hs ?_
  refine Ev.bind (sIsVisit_ev s tk sd ins h hf hi) ?_
  refine Ev.pos hv ?_
  refine Ev.now_bind rfl ?_
  refine Ev.round (fun _=>by rw[spec_l13Run.j1]) ?_
  refine Ev.pos (by rw[decide_eq_false c1];rfl) ?_
  refine Ev.bind hw ?_
  generalize pWant l z.1 z.2.1 z.2.2.1 z.2.2.2=w at hnn ⊢
  try dsimp only
  by_cases cw:w.1=0
  ·rw[if_pos cw]
   refine Ev.neg (by omega) ?_
   refine Ev.bind (hst 0) ?_
   refine Ev.pos (by omega) ?_
   exact ih es _ _ (hok 0).1 (by have:=(hok 0).2.1;omega) (by omega) (by rw[List.length_append,List.length_singleton];omega)
  rw[if_neg cw]
  refine Ev.pos (by omega) ?_
  refine Ev.bind (sLive_ev s tk sd ins w.1 w.2.1 w.2.2.1 w.2.2.2 (es.length:Int) h hf hi) ?_
  refine Ev.pos (by omega) ?_
  generalize pLive s tk sd ins w.1 w.2.1 w.2.2.1 w.2.2.2 (es.length:Int)=v
  refine Ev.bind (hst v) ?_
  refine Ev.pos (by omega) ?_
  exact ih _ _ _ (hok v).1 (by have:=(hok v).2.1;omega) (by rw[List.length_append,List.length_singleton];omega) (by rw[List.length_append,List.length_singleton];omega)
theorem s13_none (l:List S57)(s:List S83)(tk sd:Int)(ins:List Int)(hn:¬(pScript l=true∧pVisit s tk sd ins=true))(hl:l.length≤1048576)(h:s.length≤1048576)(hf:∀ y∈s,FitimplVersion y)(hi:ins.length≤1048576)(es:List S50)(tr:List S35)(z:Int×List Int×List Int×List Int) :
  Ev (fun k=>spec_l13Run.l0 k l es tr s tk sd ins z.1 z.2.1 z.2.2.1 z.2.2.2) (es,tr):=by
 refine Ev.round (fun _=>by rw[spec_l13Run.l0]) ?_
 refine Ev.bind (sIsScript_ev l hl) ?_
 by_cases c1:pScript l=true
 ·refine Ev.pos c1 ?_
  refine Ev.bind (sIsVisit_ev s tk sd ins h hf hi) ?_
  refine Ev.neg (fun c2=>hn ⟨c1,c2⟩) ?_
  refine Ev.round (fun _=>by rw[spec_l13Run.j1]) ?_
  exact Ev.neg (by simp) (Ev.now _)
 ·refine Ev.neg c1 ?_
  refine Ev.round (fun _=>by rw[spec_l13Run.j1]) ?_
  exact Ev.neg (by simp) (Ev.now _)
theorem s13_ev (l:List S57)(s:List S83)(tk sd:Int)(ins:List Int)(hl:l.length≤1048576)(h:s.length≤1048576)(hf:∀ y∈s,FitimplVersion y)(hi:ins.length≤1048576):Ev (fun k=>spec_l13Run.f k l s tk sd ins) (pVis l s tk sd ins):=by
 unfold spec_l13Run.f pVis
 refine Ev.bind sStart_ev ?_
 by_cases c:pScript l=true∧pVisit s tk sd ins=true
 ·rw[if_pos c]
  have:=pScript_len c.1
  exact s13_l0 l s tk sd ins c.1 c.2 h hf hi 39 [] _ z0 z0_ok (by show _≤(0:Int)+((39:Nat):Int);omega) (by simp) (by simp)
 ·rw[if_neg c]
  exact s13_none l s tk sd ins c hl h hf hi [] _ z0
def Row3 (y:S35):Prop:=y.f1.length=4∧y.f2.length=3∧y.f3.length=4
theorem StOk_row {z:Int×List Int×List Int×List Int}(h:StOk z):Row3 ⟨z.1,z.2.1,z.2.2.1,z.2.2.2⟩:=StOk_len h
theorem tr_add {c:Nat}{tr:List S35}(ht:tr.length≤c∧∀ y∈tr,Row3 y){z:Int×List Int×List Int×List Int}(h:StOk z):(tr++[(⟨z.1,z.2.1,z.2.2.1,z.2.2.2⟩:S35)]).length≤c+1∧∀ y∈tr++[(⟨z.1,z.2.1,z.2.2.1,z.2.2.2⟩:S35)],Row3 y:=by
 refine⟨by rw[List.length_append,List.length_singleton];omega,fun y hy=>?_⟩
 rcases List.mem_append.1 hy with hy | hy
 ·exact ht.2 y hy
 ·rw[List.mem_singleton.1 hy]
  exact StOk_row h
theorem pSeen_tr (l:List S57)(s:List S83)(tk sd:Int)(ins:List Int)(hs:pScript l=true):∀ (m c d:Nat) (es:List S50) (tr:List S35) (z:Int×List Int×List Int×List Int),StOk z→es.length≤d→1≤tr.length→(tr.length≤c∧∀ y∈tr,Row3 y) →
  ((pSeen l s tk sd ins m es tr z).2.length≤c+m∧∀ y∈(pSeen l s tk sd ins m es tr z).2,Row3 y)∧(pSeen l s tk sd ins m es tr z).1.length≤d+m∧1≤(pSeen l s tk sd ins m es tr z).2.length:=by
 intro m
 induction m with
 | zero=>intro c d es tr z hz hd h1 ht;exact⟨ht,hd,h1⟩
 | succ m ih =>
  intro c d es tr z hz hd h1 ht
  rw[pSeen]
  by_cases c1:(l.length:Int)≤z.1
  ·rw[if_pos c1]
   dsimp only
   exact⟨⟨by omega,ht.2⟩,by omega,h1⟩
  rw[if_neg c1]
  have hc:=can_of hs hz c1
  have e:c+1+m=c+(m+1):=by omega
  have e2:d+1+m=d+(m+1):=by omega
  split
  ·have hk:=(pStep_ok l z.1 z.2.1 z.2.2.1 z.2.2.2 0 hc).1
   have r:=ih (c+1) d es _ _ hk hd (by rw[List.length_append,List.length_singleton];omega) (tr_add ht hk)
   rw[e] at r
   exact⟨r.1,by omega,r.2.2⟩
  ·have hk:=(pStep_ok l z.1 z.2.1 z.2.2.1 z.2.2.2 (pSeen.pAns l s tk sd ins es z) hc).1
   have r:=fun x:S50=>ih (c+1) (d+1) (es++[x]) _ _ hk (by rw[List.length_append,List.length_singleton];omega) (by rw[List.length_append,List.length_singleton];omega) (tr_add ht hk)
   rw[e,e2] at r
   exact r _
theorem pVis_tr (l:List S57)(s:List S83)(tk sd:Int)(ins:List Int):((pVis l s tk sd ins).2.length≤41∧∀ y∈(pVis l s tk sd ins).2,Row3 y)∧(pVis l s tk sd ins).1.length≤40∧1≤(pVis l s tk sd ins).2.length:=by
 have h0:([⟨0,[0,0,0,0],[0,0,0],[0,0,0,0]⟩]:List S35).length≤1∧∀ y∈([⟨0,[0,0,0,0],[0,0,0],[0,0,0,0]⟩]:List S35),Row3 y:=by
  refine⟨by simp,fun y hy=>?_⟩
  rw[List.mem_singleton.1 hy]
  exact⟨rfl,rfl,rfl⟩
 unfold pVis
 split
 ·rename_i h
  exact pSeen_tr l s tk sd ins h.1 40 1 0 [] _ z0 z0_ok (by simp) (by simp) h0
 ·exact⟨⟨by simp,h0.2⟩,by simp,by simp⟩
def pLast (tr:List S35):S35:=rd_T35 tr ((tr.length:Int) - 1)
theorem pLast_row {tr:List S35}(h:∀ y∈tr,Row3 y)(h1:1≤tr.length):Row3 (pLast tr):=by
 unfold pLast
 have e:(tr.length:Int) - 1=((tr.length - 1:Nat):Int):=by omega
 rw[e]
 exact h _ (getD_mem tr (tr.length - 1) (by omega) z35)
theorem sRec_ev (l:List S57)(s:List S83)(tk sd:Int)(ins:List Int)(hl:l.length≤1048576)(h:s.length≤1048576)(hf:∀ y∈s,FitimplVersion y)(hi:ins.length≤1048576):Ev (fun k=>spec_RecordVisit.f k l s tk sd ins) ((pVis l s tk sd ins).1,(pLast (pVis l s tk sd ins).2).f0,(pLast (pVis l s tk sd ins).2).f1,(pLast (pVis l s tk sd ins).2).f2,(pLast (pVis l s tk sd ins).2).f3):=by
 obtain⟨⟨y1,y2⟩,y3,y4⟩:=pVis_tr l s tk sd ins
 unfold spec_RecordVisit.f
 refine Ev.bind (s13_ev l s tk sd ins hl h hf hi) ?_
 generalize pVis l s tk sd ins=z at y1 y2 y3 y4 ⊢
 obtain⟨g1,g2,g3⟩:=pLast_row y2 y4
 have e1:wrap64 ((z.2.length:Int) - 1)=(z.2.length:Int) - 1:=w64 (by omega) (by omega)
 rw[e1]
 unfold pLast at g1 g2 g3 ⊢
 exact Ev.pos (by omega) (Ev.pos (by omega) (Ev.now_bind (sCopy_eq _ _ _ _ (by omega) (by omega) (by omega)) (Ev.now _)))
theorem at_eq (a b:Int):impl_at.f a b=some (decide (0≤a) && decide (a < b)):=by
 unfold impl_at.f
 by_cases h:0≤a <;> simp[h]
theorem InRange_eq (a b c:Int):impl_InRange.f a b c=some (decide (b≤a) && decide (a≤c)):=by
 unfold impl_InRange.f
 by_cases h:b≤a <;> simp[h]
theorem pIn_at (a:Int):(decide (0≤a) && decide (a < 4))=pIn a 0 3:=by
 have:(a < 4)=(a≤3):=by apply propext;omega
 simp only[this]
theorem pIn_at3 (a:Int):(decide (0≤a) && decide (a < 3))=pIn a 0 2:=by
 have:(a < 3)=(a≤2):=by apply propext;omega
 simp only[this]
theorem iOp_ev (y:S57):Ev (fun k=>impl_isOp.f k y.f0 y.f1 y.f2 y.f3) (pOp y):=by
 unfold impl_isOp.f pOp
 refine Ev.now_and ((at_eq _ _).trans (congrArg some (pIn_at _))) fun _=>?_
 by_cases h1:y.f0=1
 ·rw[if_pos h1]
  refine Ev.pos h1 ?_
  exact Ev.now_and (InRange_eq _ _ _) fun _=>Ev.now_bind (InRange_eq _ _ _) (Ev.now _)
 rw[if_neg h1]
 refine Ev.neg h1 ?_
 have hj:∀ x:Bool,(x=true↔y.f0=2∨y.f0=3∨y.f0=4)→Ev (fun k=>impl_isOp.j0 k y.f0 x y.f0 y.f1 y.f2 y.f3) (if y.f0=2∨y.f0=3∨y.f0=4 then decide (y.f2=0) && (y.f3 == 0)
  else if y.f0=5 then pIn y.f2 0 3 && pIn y.f3 0 3
  else if y.f0=6 then pIn y.f2 0 3 && (y.f3 == 0)
  else if y.f0=7 then pIn y.f2 1 3 && (y.f3 == 0)
  else if y.f0=8 then pIn y.f2 0 2 && (y.f3 == 0)
  else if y.f0=9 then pIn y.f2 0 2 && (y.f3 == 0)
  else false):=by
  intro x hx
  refine Ev.round (fun _=>by rw[impl_isOp.j0]) ?_
  cases x with
  | true =>
   rw[if_pos (hx.1 rfl)]
   refine Ev.pos rfl ?_
   exact Ev.if_and fun _=>Ev.now _
  | false =>
   have hno:¬(y.f0=2∨y.f0=3∨y.f0=4):=fun c=>by simpa using hx.2 c
   rw[if_neg hno]
   refine Ev.neg (by simp) ?_
   refine Ev.ite (fun _=>?_) (fun _=>?_)
   ·exact Ev.now_and ((at_eq _ _).trans (congrArg some (pIn_at _))) fun _=>Ev.now_bind ((at_eq _ _).trans (congrArg some (pIn_at _))) (Ev.now _)
   refine Ev.ite (fun _=>?_) (fun _=>?_)
   ·exact Ev.now_and ((at_eq _ _).trans (congrArg some (pIn_at _))) fun _=>Ev.now _
   refine Ev.ite (fun _=>?_) (fun _=>?_)
   ·exact Ev.now_and (InRange_eq _ _ _) fun _=>Ev.now _
   refine Ev.ite (fun _=>?_) (fun _=>?_)
   ·exact Ev.now_and ((at_eq _ _).trans (congrArg some (pIn_at3 _))) fun _=>Ev.now _
   refine Ev.ite (fun _=>?_) (fun _=>?_)
   ·exact Ev.now_and ((at_eq _ _).trans (congrArg some (pIn_at3 _))) fun _=>Ev.now _
   ·exact Ev.now _
 by_cases h2:y.f0=2
 ·refine Ev.pos h2 (hj _ ?_)
  simp[h2]
 refine Ev.neg h2 ?_
 by_cases h3:y.f0=3
 ·refine Ev.pos h3 (hj _ ?_)
  simp[h3]
 refine Ev.neg h3 (hj _ ?_)
 simp[h2,h3]
theorem iIsScript_ev (l:List S57)(h:l.length≤1048576):Ev (fun k=>impl_IsScript.f k l) (pScript l):=by
 unfold impl_IsScript.f pScript
 rw[Bool.and_comm]
 refine Ev.if_and fun _=>?_
 rw[←not_any]
 refine Ev.no ?_
 unfold slices_ContainsFunc_20.f
 have hf:∃ r:Int,Ev (fun k=>slices_IndexFunc_20.l0 k l (l.length:Int) 0) r∧decide (r≥0)=l.any (fun y=>!pOp y):=by
  refine ev_find (fun k i=>slices_IndexFunc_20.l0 k l (l.length:Int) i) l z57 (fun y=>!pOp y) (fun k=>by rw[slices_IndexFunc_20.l0,if_neg (by omega)]) ?_ ?_
  ·intro i hi hp
   refine Ev.round (fun _=>by rw[slices_IndexFunc_20.l0]) ?_
   refine Ev.pos (by omega) ?_
   refine Ev.pos (by omega) ?_
   refine Ev.pos (by omega) ?_
   refine Ev.bind (Ev.no (iOp_ev (rd_T57 l (i:Int)))) ?_
   refine Ev.pos hp ?_
   exact Ev.now _
  ·intro i hi hp r hr
   have e1:wrap64 ((i:Int)+1)=((i+1:Nat):Int):=by rw[w64 (by omega) (by omega)];omega
   refine Ev.round (fun _=>by rw[slices_IndexFunc_20.l0]) ?_
   refine Ev.pos (by omega) ?_
   refine Ev.pos (by omega) ?_
   refine Ev.pos (by omega) ?_
   refine Ev.bind (Ev.no (iOp_ev (rd_T57 l (i:Int)))) ?_
   refine Ev.neg (ne_true_of_eq_false hp) ?_
   simp only[e1]
   exact hr
 obtain⟨r,hr,hd⟩:=hf
 rw[←hd]
 exact Ev.bind hr (Ev.now _)
theorem allIn_ev (l:List Int)(a b:Int)(h:l.length≤1048576):Ev (fun k=>impl_allIn.f k l a b) (l.all (pIn · a b)):=by
 unfold impl_allIn.f
 refine Ev.cast (ev_all (fun k i=>impl_allIn.l0 k a b l (l.length:Int) i) l 0 (pIn · a b) true (fun k=>by rw[impl_allIn.l0,if_neg (by omega)]) ?_ ?_) (Bool.and_true _)
 ·intro i hi hp r hr
  have e1:wrap64 ((i:Int)+1)=((i+1:Nat):Int):=by rw[w64 (by omega) (by omega)];omega
  refine Ev.round (fun _=>by rw[impl_allIn.l0]) ?_
  refine Ev.pos (by omega) ?_
  refine Ev.pos (by omega) ?_
  refine Ev.pos (by omega) ?_
  refine Ev.now_bind (InRange_eq _ _ _) ?_
  refine Ev.pos ?_ ?_
  ·rw[rd_nat];exact hp
  ·simp only[e1];exact hr
 ·intro i hi hp
  refine Ev.round (fun _=>by rw[impl_allIn.l0]) ?_
  refine Ev.pos (by omega) ?_
  refine Ev.pos (by omega) ?_
  refine Ev.pos (by omega) ?_
  refine Ev.now_bind (InRange_eq _ _ _) ?_
  refine Ev.neg ?_ (Ev.now _)
  rw[rd_nat];exact ne_true_of_eq_false hp
theorem iIsState_ev (a:Int)(r s n:List Int)(h1:r.length≤1048576)(h2:s.length≤1048576)(h3:n.length≤1048576):Ev (fun k=>impl_IsState.f k a r s n) (pState a r s n):=by
 unfold impl_IsState.f pState
 refine Ev.cast (Ev.now_and (InRange_eq _ _ _) fun _=>Ev.if_and fun _=>Ev.if_and fun _=>Ev.if_and fun _=>Ev.and (allIn_ev r 0 999 h1) fun _=>Ev.and (allIn_ev s 0 999 h2) fun _=>Ev.id (allIn_ev n 0 999 h3)) ?_
 rw[Bool.eq_iff_iff]
 simp only[Bool.and_eq_true,decide_eq_true_eq,beq_iff_eq]
 constructor
 ·rintro⟨a1,a2,a3,a4,a5,a6,a7⟩;exact⟨a1,⟨a5,a2⟩,⟨a6,a3⟩,a7,a4⟩
 ·rintro⟨a1,⟨a5,a2⟩,⟨a6,a3⟩,a7,a4⟩;exact⟨a1,a2,a3,a4,a5,a6,a7⟩
theorem iCan_ev (l:List S57)(a:Int)(r s n:List Int)(h:l.length≤1048576)(h1:r.length≤1048576)(h2:s.length≤1048576)(h3:n.length≤1048576):Ev (fun k=>impl_canStep.f k l a r s n) (pCan l a r s n):=by
 unfold impl_canStep.f pCan
 exact Ev.and (iIsScript_ev l h) fun _=>Ev.and (iIsState_ev a r s n h1 h2 h3) fun _=>Ev.now _
theorem iAsks_eq (k:Int):impl_Asks.f k=some (pAsks k):=by
 unfold impl_Asks.f pAsks
 rw[InRange_eq]
 rfl
theorem iWant_ev (l:List S57)(a:Int)(r s n:List Int)(h:l.length≤1048576)(h1:r.length≤1048576)(h2:s.length≤1048576)(h3:n.length≤1048576):Ev (fun k=>impl_WantOf.f k l a r s n) (pWant l a r s n):=by
 unfold impl_WantOf.f pWant
 refine Ev.bind (iCan_ev l a r s n h h1 h2 h3) ?_
 have hj:Ev (fun k=>impl_WantOf.j0 k l true a r s n) (0,0,0,0):=by
  refine Ev.round (fun _=>by rw[impl_WantOf.j0]) ?_
  refine Ev.pos rfl ?_
  exact Ev.now _
 cases hc:pCan l a r s n with
 | false=>exact Ev.neg (by simp) (Ev.cast hj (by simp))
 | true =>
  obtain⟨f1,f2,f3,f4,f5,f6,f7,f8,f9,_,_⟩:=pCan_facts hc
  refine Ev.pos rfl ?_
  refine Ev.pos f1 ?_
  refine Ev.pos f2 ?_
  refine Ev.now_bind (iAsks_eq _) ?_
  cases hk:pAsks (rd_T57 l a).f0 with
  | false=>exact Ev.cast hj (by simp)
  | true =>
   have hr:=pOp_reg (f9 _ (getD_mem l a.toNat (by omega) z57))
   have hr':0≤(rd_T57 l a).f1∧(rd_T57 l a).f1≤3:=hr
   rw[if_pos ⟨rfl,rfl⟩]
   refine Ev.round (fun _=>by rw[impl_WantOf.j0]) ?_
   refine Ev.neg (by simp) ?_
   refine Ev.pos f1 ?_
   refine Ev.pos f2 ?_
   refine Ev.ite (fun _=>?_) (fun _=>Ev.now _)
   exact Ev.pos hr'.1 (Ev.pos (by omega) (Ev.now _))
theorem iCopy_eq (a:Int)(r s n:List Int)(h1:r.length≤1048576)(h2:s.length≤1048576)(h3:n.length≤1048576):impl_copyState.f a r s n=some (a,r,s,n):=by
 simp only[impl_copyState.f,slices_Clone_int_int.f,Option.bind_some,List.nil_append,List.length_nil]
 rw[if_pos (by omega),if_pos (by omega),if_pos (by omega)]
 rfl
theorem iStep_ev (l:List S57)(a:Int)(r s n:List Int)(v:Int)(h:l.length≤1048576)(h1:r.length≤1048576)(h2:s.length≤1048576)(h3:n.length≤1048576):Ev (fun k=>impl_StepState.f k l a r s n v) (pStep l a r s n v):=by
 unfold impl_StepState.f
 refine Ev.now_bind (iCopy_eq a r s n h1 h2 h3) ?_
 refine Ev.bind (iCan_ev l a r s n h h1 h2 h3) ?_
 dsimp only
 unfold pStep
 by_cases c:pCan l a r s n=true
 ·obtain⟨f1,f2,f3,f4,f5,f6,f7,f8,f9,f10,f11⟩:=pCan_facts c
  have ho:pOp (rd_T57 l a)=true:=f9 _ (getD_mem l a.toNat (by omega) z57)
  have hr:=pOp_reg ho
  refine Ev.rpos c ?_
  refine Ev.pos c ?_
  refine Ev.pos f1 ?_
  refine Ev.pos f2 ?_
  refine Ev.ite (fun c5=>?_) (fun c5=>?_)
  ·have ha:=pOp_5 ho c5
   refine Ev.pos ha.1 ?_
   refine Ev.pos (by omega) ?_
   refine Ev.pos ha.2.2.1 ?_
   refine Ev.pos (by omega) ?_
   refine Ev.pos hr.1 ?_
   refine Ev.pos (by omega) ?_
   exact Ev.now _
  refine Ev.ite (fun c6=>?_) (fun c6=>?_)
  ·have ha:=pOp_6 ho c6
   refine Ev.pos hr.1 ?_
   refine Ev.pos (by omega) ?_
   refine Ev.pos ha.1 ?_
   refine Ev.pos (by omega) ?_
   exact Ev.now _
  refine Ev.ite (fun c7=>?_) (fun c7=>?_)
  ·refine Ev.pos hr.1 ?_
   refine Ev.pos (by omega) ?_
   exact Ev.ite (fun _=>Ev.now _) (fun _=>Ev.now _)
  refine Ev.ite (fun c8=>?_) (fun c8=>?_)
  ·have ha:=pOp_8 ho c8
   refine Ev.pos ha.1 ?_
   refine Ev.pos (by omega) ?_
   refine Ev.pos hr.1 ?_
   refine Ev.pos (by omega) ?_
   exact Ev.now _
  refine Ev.ite (fun c9=>?_) (fun c9=>?_)
  ·have ha:=pOp_9 ho c9
   refine Ev.pos hr.1 ?_
   refine Ev.pos (by omega) ?_
   refine Ev.pos ha.1 ?_
   refine Ev.pos (by omega) ?_
   exact Ev.now _
  refine Ev.pos hr.1 ?_
  refine Ev.pos (by omega) ?_
  rw[←pClamp_impl v]
  exact Ev.now _
 ·refine Ev.rneg c ?_
  exact Ev.neg c (Ev.now _)
theorem iStart_eq:impl_StartState.f=some (0,[0,0,0,0],[0,0,0],[0,0,0,0]):=rfl
theorem iIsAddress_eq (h p q:Int):impl_IsAddress.f h p q=some (pAddr h p q):=by
 simp only[impl_IsAddress.f,InRange_eq,Option.bind_some,some_and]
theorem iIsResource_ev (k:Int)(b:List Int)(h p q:Int)(hb:b.length≤1048576):Ev (fun n=>impl_IsResource.f n k b h p q) (pRes k b h p q):=by
 have hj:∀ x:Bool,(x=true↔k=1∨k=2)→Ev (fun n=>impl_IsResource.j0 n k x k b h p q) (pRes k b h p q):=by
  intro x hx
  refine Ev.round (fun _=>by rw[impl_IsResource.j0]) ?_
  unfold pRes
  cases x with
  | true =>
   refine Ev.rpos (hx.1 rfl) ?_
   refine Ev.pos rfl ?_
   exact Ev.if_and fun _=>Ev.and (allIn_ev b 0 255 hb) fun _=>Ev.now _
  | false =>
   have hno:¬(k=1∨k=2):=fun c=>by simpa using hx.2 c
   refine Ev.rneg hno ?_
   refine Ev.neg (by simp) ?_
   by_cases h3:k=3
   ·refine Ev.rpos h3 ?_
    refine Ev.pos h3 ?_
    exact Ev.if_and fun _=>Ev.now_bind (iIsAddress_eq _ _ _) (Ev.now _)
   ·refine Ev.rneg h3 ?_
    refine Ev.neg h3 ?_
    by_cases h4:k=4
    ·refine Ev.rpos h4 ?_
     refine Ev.pos h4 ?_
     exact Ev.if_and fun _=>Ev.now _
    ·refine Ev.rneg h4 ?_
     refine Ev.neg h4 ?_
     exact Ev.now _
 unfold impl_IsResource.f
 by_cases h1:k=1
 ·refine Ev.pos h1 (hj _ ?_)
  simp[h1]
 ·refine Ev.neg h1 (hj _ ?_)
  simp[h1]
theorem iIsSiteLit_ev (y:S83)(hf:FitimplVersion y):Ev (fun k=>impl_IsSite_lit1.f k y.f0.f0 y.f0.f1 y.f0.f2 y.f1 y.f2.f0 y.f2.f1 y.f2.f2.f0 y.f2.f2.f1 y.f2.f2.f2) (!pVersion y):=by
 unfold impl_IsSite_lit1.f pVersion
 refine Ev.now_bind (iIsAddress_eq _ _ _) ?_
 cases p1:pAddr y.f0.f0 y.f0.f1 y.f0.f2 with
 | false=>exact Ev.neg (by simp) (Ev.now _)
 | true =>
  refine Ev.pos rfl ?_
  refine Ev.now_bind (InRange_eq _ _ _) ?_
  cases p2:pIn y.f1 0 1000 with
  | false=>exact Ev.neg (ne_true_of_eq_false p2) (Ev.now _)
  | true =>
   refine Ev.pos p2 ?_
   rw[Bool.true_and,Bool.true_and]
   exact Ev.no (iIsResource_ev _ _ _ _ _ hf)
theorem iIsSite_ev (l:List S83)(h:l.length≤1048576)(hf:∀ y∈l,FitimplVersion y):Ev (fun k=>impl_IsSite.f k l) (pIsSite l):=by
 unfold impl_IsSite.f pIsSite
 rw[Bool.and_comm]
 refine Ev.if_and fun _=>?_
 rw[←any_not]
 refine Ev.no ?_
 unfold slices_ContainsFunc_42.f
 have hf:∃ r:Int,Ev (fun k=>slices_IndexFunc_42.l0 k l (l.length:Int) 0) r∧decide (r≥0)=l.any (fun y=>!pVersion y):=by
  refine ev_find (fun k i=>slices_IndexFunc_42.l0 k l (l.length:Int) i) l z83 (fun y=>!pVersion y) (fun k=>by rw[slices_IndexFunc_42.l0,if_neg (by omega)]) ?_ ?_
  ·intro i hi hp
   refine Ev.round (fun _=>by rw[slices_IndexFunc_42.l0]) ?_
   refine Ev.pos (by omega) ?_
   refine Ev.pos (by omega) ?_
   refine Ev.pos (by omega) ?_
   refine Ev.bind (iIsSiteLit_ev (rd_T83 l (i:Int)) (hf _ (getD_mem l i hi z83))) ?_
   refine Ev.pos hp ?_
   exact Ev.now _
  ·intro i hi hp r hr
   have e1:wrap64 ((i:Int)+1)=((i+1:Nat):Int):=by rw[w64 (by omega) (by omega)];omega
   refine Ev.round (fun _=>by rw[slices_IndexFunc_42.l0]) ?_
   refine Ev.pos (by omega) ?_
   refine Ev.pos (by omega) ?_
   refine Ev.pos (by omega) ?_
   refine Ev.bind (iIsSiteLit_ev (rd_T83 l (i:Int)) (hf _ (getD_mem l i hi z83))) ?_
   refine Ev.neg (ne_true_of_eq_false hp) ?_
   simp only[e1]
   exact hr
 obtain⟨r,hr,hd⟩:=hf
 rw[←hd]
 exact Ev.bind hr (Ev.now _)
theorem iIsVisit_ev (s:List S83)(t sd:Int)(i:List Int)(h:s.length≤1048576)(hf:∀ y∈s,FitimplVersion y)(hi:i.length≤1048576):Ev (fun k=>impl_IsVisit.f k s t sd i) (pVisit s t sd i):=by
 unfold impl_IsVisit.f pVisit
 exact Ev.and (iIsSite_ev s h hf) fun _=>Ev.now_and (InRange_eq _ _ _) fun _=>Ev.now_and (InRange_eq _ _ _) fun _=>Ev.if_and fun _=>Ev.id (allIn_ev i 0 999 hi)
theorem copyResource_eq (k:Int)(b:List Int)(h p q:Int)(hb:b.length≤1048576):impl_copyResource.f k b h p q=some (k,b,h,p,q):=by
 simp only[impl_copyResource.f,slices_Clone_int_int.f,Option.bind_some,List.nil_append,List.length_nil]
 rw[if_pos (by omega)]
 rfl
theorem iAnswer_ev (l:List S83)(a p q t:Int)(h:l.length≤1048576)(hf:∀ y∈l,FitimplVersion y):Ev (fun k=>impl_AnswerAt.f k l a p q t) (pAnswer l a p q t):=by
 unfold impl_AnswerAt.f pAnswer
 have key:∀ i:Nat,i≤l.length→Ev (fun k=>impl_AnswerAt.l0 k l t ((i:Int) - 1) a p q) ((l.take i).foldl (ansStep a p q t) (4,[],0,0,0)):=by
  intro i
  induction i with
  | zero =>
   intro _
   refine Ev.round (fun _=>by rw[impl_AnswerAt.l0]) ?_
   exact Ev.neg (by omega) (Ev.now _)
  | succ i ih =>
   intro hi
   have h0:=ih (by omega)
   have e0:((i+1:Nat):Int) - 1=(i:Int):=by omega
   have e1:wrap64 ((i:Int) - 1)=(i:Int) - 1:=w64 (by omega) (by omega)
   have hfy:FitimplVersion (rd_T83 l (i:Int)):=hf _ (getD_mem l i (by omega) z83)
   have e2:(l.take (i+1)).foldl (ansStep a p q t) (4,[],0,0,0)=ansStep a p q t ((l.take i).foldl (ansStep a p q t) (4,[],0,0,0)) (rd_T83 l (i:Int)):=by
    rw[List.take_succ_eq_append_getElem (by omega),List.foldl_append]
    have e3:rd_T83 l (i:Int)=l[i]'(by omega):=getD_in l i (by omega) z83
    rw[e3]
    rfl
   rw[e2,e0]
   generalize (l.take i).foldl (ansStep a p q t) (4,[],0,0,0)=x at h0
   refine Ev.round (fun _=>by rw[impl_AnswerAt.l0]) ?_
   refine Ev.pos (by omega) ?_
   refine Ev.pos (by omega) ?_
   refine Ev.pos (by omega) ?_
   generalize hy:rd_T83 l (i:Int)=y at hfy
   simp only[e1]
   unfold ansStep pHere
   cases c1:(y.f0.f0 == a && (y.f0.f1 == p && (y.f0.f2 == q))) with
   | false=>exact Ev.neg (by simp) h0
   | true =>
    refine Ev.pos rfl ?_
    by_cases c2:y.f1≤t
    ·rw[decide_eq_true c2]
     exact Ev.pos c2 (Ev.now_bind (copyResource_eq _ _ _ _ _ hfy) (Ev.now _))
    ·rw[decide_eq_false c2]
     exact Ev.neg c2 h0
 have h1:=key l.length (by omega)
 rw[List.take_length] at h1
 rw[w64 (by omega) (by omega)]
 exact h1
theorem iHas_ev (c:List S48)(a p q:Int)(h:c.length≤1048576):Ev (fun k=>impl_Address_82.f k c a p q) (pHasA c a p q):=by
 unfold impl_Address_82.f pHasA
 have hx:∃ r:Int,Ev (fun k=>impl_Address_100.f k c a p q) r∧decide (r≥0)=c.any fun y=>y.f0 == a && (y.f1 == p && (y.f2 == q)):=by
  unfold impl_Address_100.f
  refine ev_find (fun k i=>impl_Address_100.l0 k c (c.length:Int) i a p q) c z48 (fun y=>y.f0 == a && (y.f1 == p && (y.f2 == q))) (fun k=>by rw[impl_Address_100.l0,if_neg (by omega)]) ?_ ?_
  ·intro i hi hp
   have hp':(a == (rd_T48 c (i:Int)).f0 && (p == (rd_T48 c (i:Int)).f1 && (q == (rd_T48 c (i:Int)).f2)))=true:=by
    rw[Bool.beq_comm (a:=a),Bool.beq_comm (a:=p),Bool.beq_comm (a:=q)]
    exact hp
   refine Ev.round (fun _=>by rw[impl_Address_100.l0]) ?_
   exact Ev.pos (by omega) (Ev.pos (by omega) (Ev.pos (by omega) (Ev.pos hp' (Ev.now _))))
  ·intro i hi hp r hr
   have e1:wrap64 ((i:Int)+1)=((i+1:Nat):Int):=by rw[w64 (by omega) (by omega)];omega
   have hp':(a == (rd_T48 c (i:Int)).f0 && (p == (rd_T48 c (i:Int)).f1 && (q == (rd_T48 c (i:Int)).f2)))=false:=by
    rw[Bool.beq_comm (a:=a),Bool.beq_comm (a:=p),Bool.beq_comm (a:=q)]
    exact hp
   refine Ev.round (fun _=>by rw[impl_Address_100.l0]) ?_
   refine Ev.pos (by omega) ?_
   refine Ev.pos (by omega) ?_
   refine Ev.pos (by omega) ?_
   refine Ev.neg (ne_true_of_eq_false hp') ?_
   simp only[e1]
   exact hr
 obtain⟨r,hr,hd⟩:=hx
 rw[←hd]
 exact Ev.bind hr (Ev.now _)
theorem iTrail_ev (l:List S83)(t:Int)(h:l.length≤1048576)(hf:∀ y∈l,FitimplVersion y):∀ (n:Nat) (c:List S48) (r:Rsc),c.length+n=5→Ev (fun k=>impl_FollowAt.l0 k l t c r.1 r.2.1 r.2.2.1 r.2.2.2.1 r.2.2.2.2) (pTrail l t n c r):=by
 intro n
 induction n with
 | zero =>
  intro c r hn
  refine Ev.round (fun _=>by rw[impl_FollowAt.l0]) ?_
  by_cases c1:r.1=3
  ·exact Ev.pos c1 (Ev.neg (by omega) (Ev.now _))
  ·exact Ev.neg c1 (Ev.now _)
 | succ n ih =>
  intro c r hn
  unfold pTrail
  refine Ev.round (fun _=>by rw[impl_FollowAt.l0]) ?_
  by_cases c1:r.1=3
  ·refine Ev.pos c1 ?_
   refine Ev.pos (by omega) ?_
   refine Ev.bind (iHas_ev c r.2.2.1 r.2.2.2.1 r.2.2.2.2 (by omega)) ?_
   cases c2:pHasA c r.2.2.1 r.2.2.2.1 r.2.2.2.2 with
   | true =>
    rw[if_neg (by simp)]
    exact Ev.pos rfl (Ev.now _)
   | false =>
    rw[if_pos ⟨c1,rfl⟩]
    refine Ev.neg (by simp) ?_
    refine Ev.pos (by omega) ?_
    refine Ev.bind (iAnswer_ev l _ _ _ t h hf) ?_
    exact ih _ _ (by simp only[List.length_append,List.length_singleton];omega)
  ·rw[if_neg (fun z=>c1 z.1)]
   exact Ev.neg c1 (Ev.now _)
theorem iFollow_ev (l:List S83)(a p q t:Int)(h:l.length≤1048576)(hf:∀ y∈l,FitimplVersion y):Ev (fun k=>impl_FollowAt.f k l a p q t) (pFollow l a p q t):=by
 unfold impl_FollowAt.f pFollow
 exact Ev.bind (iAnswer_ev l a p q t h hf) (iTrail_ev l t h hf 4 _ _ rfl)
theorem iMod_eq (a b:Int):impl_Mod.f a b=some (pMod a b):=by
 unfold impl_Mod.f pMod
 rw[InRange_eq,Option.bind_some]
 by_cases h:1≤b∧b≤1000000000000
 ·rw[if_pos h,if_pos (by simp[h.1,h.2]),if_neg (by omega)]
 ·rw[if_neg h,if_neg]
  intro c
  simp only[Bool.and_eq_true,decide_eq_true_eq] at c
  exact h c
theorem iHash_ev (l:List Int)(h:l.length≤1048576):Ev (fun k=>impl_Hash.f k l) (pHash l):=by
 unfold impl_Hash.f pHash
 refine ev_foldl (fun k x i=>impl_Hash.l0 k x l (l.length:Int) i) l 0 hashStep (fun x=>x) (fun _ _=>True) 11 trivial ?_ ?_
 ·intro x _
  refine Ev.round (fun _=>by rw[impl_Hash.l0]) ?_
  exact Ev.neg (by omega) (Ev.now _)
 ·intro i x hi _
  have e1:wrap64 ((i:Int)+1)=((i+1:Nat):Int):=by rw[w64 (by omega) (by omega)];omega
  refine⟨trivial,fun r hr=>?_⟩
  refine Ev.round (fun _=>by rw[impl_Hash.l0]) ?_
  refine Ev.pos (by omega) ?_
  refine Ev.pos (by omega) ?_
  refine Ev.pos (by omega) ?_
  simp only[e1,rd_nat]
  exact Ev.now_bind (iMod_eq _ _) hr
theorem hasBody_eq (k:Int):impl_hasBody.f k=some (decide (k=1∨k=2)):=by
 unfold impl_hasBody.f
 by_cases h:k=1
 ·simp[h]
 ·by_cases h2:k=2
  ·simp[h2]
  ·simp[h,h2]
theorem iValue_ev (k:Int)(b:List Int)(h p q:Int)(hb:b.length≤1048576):Ev (fun n=>impl_ValueOfResource.f n k b h p q) (pVal k b h p q):=by
 have hj1:Ev (fun n=>impl_ValueOfResource.j0 n true k b h p q) 0:=by
  refine Ev.round (fun _=>by rw[impl_ValueOfResource.j0]) ?_
  refine Ev.pos rfl ?_
  exact Ev.now _
 unfold impl_ValueOfResource.f pVal
 refine Ev.bind (iIsResource_ev k b h p q hb) ?_
 cases hr:pRes k b h p q with
 | false =>
  refine Ev.neg (by simp) ?_
  exact Ev.cast hj1 (by simp)
 | true =>
  refine Ev.pos rfl ?_
  refine Ev.now_bind (hasBody_eq k) ?_
  by_cases hk:k=1∨k=2
  ·rw[if_pos ⟨rfl,hk⟩,decide_eq_true hk]
   obtain⟨hl,hy⟩:=pRes_body hr hk
   refine Ev.round (fun _=>by rw[impl_ValueOfResource.j0]) ?_
   refine Ev.neg (by simp) ?_
   refine ev_foldl (fun n x i=>impl_ValueOfResource.l0 n x b (b.length:Int) i) b 0 (fun x y=>x+y) (fun x=>if x % 1000 < 999 then x % 1000+1 else 999) (fun i x=>0≤x∧x≤255 * (i:Int)) 0 ⟨by omega,by omega⟩ ?_ ?_
   ·intro x hx
    have e2:Int.tmod x 1000=x % 1000:=Int.tmod_eq_emod_of_nonneg (by omega)
    refine Ev.round (fun _=>by rw[impl_ValueOfResource.l0]) ?_
    refine Ev.neg (by omega) ?_
    simp only[e2]
    by_cases c:x % 1000 < 999
    ·refine Ev.rpos c ?_
     refine Ev.pos c ?_
     rw[w64 (by omega) (by omega)]
     exact Ev.now _
    ·refine Ev.rneg c ?_
     refine Ev.neg c ?_
     exact Ev.cast (Ev.now _) (by omega)
   ·intro i x hi hx
    have e1:wrap64 ((i:Int)+1)=((i+1:Nat):Int):=by rw[w64 (by omega) (by omega)];omega
    have hv:=hy _ (getD_mem b i hi 0)
    refine⟨⟨by omega,by omega⟩,fun r hr2=>?_⟩
    refine Ev.round (fun _=>by rw[impl_ValueOfResource.l0]) ?_
    refine Ev.pos (by omega) ?_
    refine Ev.pos (by omega) ?_
    refine Ev.pos (by omega) ?_
    have e2:wrap64 (x+rd b (i:Int))=x+b.getD i 0:=by
     rw[rd_nat,w64 (by omega) (by omega)]
    simp only[e1,e2]
    exact hr2
  ·rw[if_neg (fun c=>hk c.2),decide_eq_false hk]
   exact hj1
theorem iLive_ev (s:List S83)(tk sd:Int)(ins:List Int)(w0 w1 w2 w3 n:Int)(h:s.length≤1048576)(hf:∀ y∈s,FitimplVersion y)(hi:ins.length≤1048576):Ev (fun k=>impl_LiveValue.f k s tk sd ins w0 w1 w2 w3 n) (pLive s tk sd ins w0 w1 w2 w3 n):=by
 have hno:¬(pVisit s tk sd ins=true∧pIn n 0 100=true)→Ev (fun k=>impl_LiveValue.j0 k n true s tk sd ins w0 w1 w2 w3) (pLive s tk sd ins w0 w1 w2 w3 n):=by
  intro c
  unfold pLive
  rw[if_neg c]
  refine Ev.round (fun _=>by rw[impl_LiveValue.j0]) ?_
  exact Ev.pos rfl (Ev.now _)
 unfold impl_LiveValue.f
 refine Ev.bind (iIsVisit_ev s tk sd ins h hf hi) ?_
 cases hv:pVisit s tk sd ins with
 | false =>
  refine Ev.neg (by simp) ?_
  exact hno (by simp[hv])
 | true =>
  refine Ev.pos rfl ?_
  refine Ev.now_bind (InRange_eq _ _ _) ?_
  cases hp:pIn n 0 100 with
  | false =>
   have hp2:(decide (0≤n) && decide (n≤100))=false:=hp
   rw[hp2]
   exact hno (by simp[hp])
  | true =>
   have hp2:(decide (0≤n) && decide (n≤100))=true:=hp
   rw[hp2]
   unfold pLive
   rw[if_pos ⟨hv,hp⟩]
   simp only[pIn,Bool.and_eq_true,decide_eq_true_eq] at hp
   refine Ev.round (fun _=>by rw[impl_LiveValue.j0]) ?_
   refine Ev.neg (by simp) ?_
   by_cases c1:w0=1
   ·rw[if_pos c1]
    exact Ev.pos c1 (Ev.bind (iFollow_ev s w1 w2 w3 (wrap64 (tk+n)) h hf) (Ev.id (iValue_ev _ _ _ _ _ (pFollow_fit s w1 w2 w3 (wrap64 (tk+n)) hf))))
   rw[if_neg c1]
   refine Ev.neg c1 ?_
   by_cases c2:w0=2
   ·rw[if_pos c2]
    exact Ev.pos c2 (Ev.now _)
   rw[if_neg c2]
   refine Ev.neg c2 ?_
   by_cases c3:w0=3
   ·rw[if_pos c3]
    exact Ev.pos c3 (Ev.bind (iHash_ev _ (by simp)) (Ev.now_bind (iMod_eq _ _) (Ev.now _)))
   rw[if_neg c3]
   refine Ev.neg c3 ?_
   by_cases c4:w0=4
   ·refine Ev.rpos c4 ?_
    refine Ev.pos c4 ?_
    by_cases c5:(ins.length:Int) > 0
    ·refine Ev.rpos c5 ?_
     have m0:0≤Int.tmod n (ins.length:Int):=Int.tmod_nonneg _ hp.1
     have m1:Int.tmod n (ins.length:Int) < (ins.length:Int):=Int.tmod_lt_of_pos _ c5
     exact Ev.pos c5 (Ev.neg (by omega) (Ev.pos m0 (Ev.pos m1 (Ev.now _))))
    ·refine Ev.rneg c5 ?_
     exact Ev.neg c5 (Ev.now _)
   refine Ev.rneg c4 ?_
   exact Ev.neg c4 (Ev.now _)
theorem i13_l0 (l:List S57)(s:List S83)(tk sd:Int)(ins:List Int)(hs:pScript l=true)(h:s.length≤1048576)(hf:∀ y∈s,FitimplVersion y)(hi:ins.length≤1048576):∀ (m:Nat) (es:List S50) (tr:List S35) (z:Int×List Int×List Int×List Int),StOk z→(l.length:Int)≤z.1+(m:Int)→es.length+m≤1000→tr.length+m≤1000 →
  Ev (fun k=>impl_visited.l0 k l es tr s tk sd ins z.1 z.2.1 z.2.2.1 z.2.2.2) (pSeen l s tk sd ins (m+1) es tr z):=by
 have hl:=pScript_len hs
 intro m
 induction m with
 | zero =>
  intro es tr z hz hm he ht
  have c1:(l.length:Int)≤z.1:=by omega
  rw[pSeen,if_pos c1]
  refine Ev.round (fun _=>by rw[impl_visited.l0]) ?_
  refine Ev.now_bind rfl ?_
  exact Ev.pos (decide_eq_true c1) (Ev.now _)
 | succ m ih =>
  intro es tr z hz hm he ht
  by_cases c1:(l.length:Int)≤z.1
  ·rw[pSeen,if_pos c1]
   refine Ev.round (fun _=>by rw[impl_visited.l0]) ?_
   refine Ev.now_bind rfl ?_
   exact Ev.pos (decide_eq_true c1) (Ev.now _)
  have hc:=can_of hs hz c1
  obtain⟨g1,g2,g3⟩:=StOk_len hz
  have hw:=iWant_ev l z.1 z.2.1 z.2.2.1 z.2.2.2 (by omega) (by omega) (by omega) (by omega)
  have hst:=fun v=>iStep_ev l z.1 z.2.1 z.2.2.1 z.2.2.2 v (by omega) (by omega) (by omega) (by omega)
  have hok:=fun v=>pStep_ok l z.1 z.2.1 z.2.2.1 z.2.2.2 v hc
  rw[pSeen,if_neg c1]
  unfold pSeen.pAns
  refine Ev.round (fun _=>by rw[impl_visited.l0]) ?_
  refine Ev.now_bind rfl ?_
  refine Ev.neg (by simp only[decide_eq_true_eq];omega) ?_
  refine Ev.bind hw ?_
  generalize pWant l z.1 z.2.1 z.2.2.1 z.2.2.2=w
  try dsimp only
  by_cases cw:w.1=0
  ·rw[if_pos cw]
   refine Ev.pos cw ?_
   refine Ev.bind (hst 0) ?_
   refine Ev.pos (by omega) ?_
   exact ih es _ _ (hok 0).1 (by have:=(hok 0).2.1;omega) (by omega) (by rw[List.length_append,List.length_singleton];omega)
  rw[if_neg cw]
  refine Ev.neg cw ?_
  refine Ev.bind (iLive_ev s tk sd ins w.1 w.2.1 w.2.2.1 w.2.2.2 (es.length:Int) h hf hi) ?_
  refine Ev.pos (by omega) ?_
  generalize pLive s tk sd ins w.1 w.2.1 w.2.2.1 w.2.2.2 (es.length:Int)=v
  refine Ev.bind (hst v) ?_
  refine Ev.pos (by omega) ?_
  exact ih _ _ _ (hok v).1 (by have:=(hok v).2.1;omega) (by rw[List.length_append,List.length_singleton];omega) (by rw[List.length_append,List.length_singleton];omega)
theorem i13_ev (l:List S57)(s:List S83)(tk sd:Int)(ins:List Int)(hl:l.length≤1048576)(h:s.length≤1048576)(hf:∀ y∈s,FitimplVersion y)(hi:ins.length≤1048576):Ev (fun k=>impl_visited.f k l s tk sd ins) (pVis l s tk sd ins):=by
 unfold impl_visited.f pVis
 refine Ev.now_bind iStart_eq ?_
 refine Ev.now_bind rfl ?_
 refine Ev.bind (iIsScript_ev l hl) ?_
 by_cases c1:pScript l=true
 ·refine Ev.pos c1 ?_
  refine Ev.bind (iIsVisit_ev s tk sd ins h hf hi) ?_
  refine Ev.round (fun _=>by rw[impl_visited.j0]) ?_
  by_cases c2:pVisit s tk sd ins=true
  ·rw[if_pos ⟨c1,c2⟩]
   have:=pScript_len c1
   refine Ev.neg (by simp[c2]) ?_
   exact i13_l0 l s tk sd ins c1 h hf hi 39 [] _ z0 z0_ok (by show _≤(0:Int)+((39:Nat):Int);omega) (by simp) (by simp)
  ·rw[if_neg (fun h=>c2 h.2)]
   exact Ev.pos (by simp[c2]) (Ev.now _)
 ·rw[if_neg (fun h=>c1 h.1)]
  refine Ev.neg c1 ?_
  refine Ev.round (fun _=>by rw[impl_visited.j0]) ?_
  exact Ev.pos rfl (Ev.now _)
theorem iRec_ev (l:List S57)(s:List S83)(tk sd:Int)(ins:List Int)(hl:l.length≤1048576)(h:s.length≤1048576)(hf:∀ y∈s,FitimplVersion y)(hi:ins.length≤1048576):Ev (fun k=>impl_RecordVisit.f k l s tk sd ins) ((pVis l s tk sd ins).1,(pLast (pVis l s tk sd ins).2).f0,(pLast (pVis l s tk sd ins).2).f1,(pLast (pVis l s tk sd ins).2).f2,(pLast (pVis l s tk sd ins).2).f3):=by
 obtain⟨⟨y1,y2⟩,y3,y4⟩:=pVis_tr l s tk sd ins
 unfold impl_RecordVisit.f
 refine Ev.bind (i13_ev l s tk sd ins hl h hf hi) ?_
 generalize pVis l s tk sd ins=z at y1 y2 y3 y4 ⊢
 obtain⟨g1,g2,g3⟩:=pLast_row y2 y4
 have e1:wrap64 ((z.2.length:Int) - 1)=(z.2.length:Int) - 1:=w64 (by omega) (by omega)
 have e2:impl_last.f z.2=some ((pLast z.2).f0,(pLast z.2).f1,(pLast z.2).f2,(pLast z.2).f3):=by
  unfold impl_last.f
  rw[e1,if_pos (by omega),if_pos (by omega)]
  unfold pLast at g1 g2 g3 ⊢
  rw[iCopy_eq _ _ _ _ (by omega) (by omega) (by omega)]
  rfl
 exact Ev.now_bind e2 (Ev.now _)
theorem iTraceV_ev (l:List S57)(s:List S83)(tk sd:Int)(ins:List Int)(hl:l.length≤1048576)(h:s.length≤1048576)(hf:∀ y∈s,FitimplVersion y)(hi:ins.length≤1048576):Ev (fun k=>impl_TraceVisit.f k l s tk sd ins) (pVis l s tk sd ins).2:=by
 unfold impl_TraceVisit.f
 exact Ev.bind (i13_ev l s tk sd ins hl h hf hi) (Ev.now _)
theorem iEqualInts_ev (a b:List Int)(h:a.length≤1048576):Ev (fun k=>slices_Equal_int_int.f k a b) (decide (a=b)):=by
 unfold slices_Equal_int_int.f
 by_cases hl:a.length=b.length
 ·refine Ev.pos (by omega) ?_
  rw[←zip_all_eq a b hl]
  refine ev_all2 (fun k i=>slices_Equal_int_int.l0 k a b (a.length:Int) i) a b 0 (fun x y=>decide (x=y)) hl (fun k=>by rw[slices_Equal_int_int.l0,if_neg (by omega)]) ?_ ?_
  ·intro i hi hp r hr
   have e1:wrap64 ((i:Int)+1)=((i+1:Nat):Int):=by rw[w64 (by omega) (by omega)];omega
   refine Ev.round (fun _=>by rw[slices_Equal_int_int.l0]) ?_
   refine Ev.pos (by omega) ?_
   refine Ev.pos (by omega) ?_
   refine Ev.pos (by omega) ?_
   refine Ev.pos (by omega) ?_
   refine Ev.pos ?_ ?_
   ·rw[rd_nat,rd_nat];exact of_decide_eq_true hp
   ·simp only[e1];exact hr
  ·intro i hi hp
   refine Ev.round (fun _=>by rw[slices_Equal_int_int.l0]) ?_
   refine Ev.pos (by omega) ?_
   refine Ev.pos (by omega) ?_
   refine Ev.pos (by omega) ?_
   refine Ev.pos (by omega) ?_
   refine Ev.neg ?_ (Ev.now _)
   rw[rd_nat,rd_nat];exact of_decide_eq_false hp
 ·have hne:a≠b:=fun e=>hl (by rw[e])
  rw[decide_eq_false hne]
  exact Ev.neg (by omega) (Ev.now _)
def pEqStates (a:Int)(r s n:List Int)(b:Int)(r' s' n':List Int):Bool:=decide (a=b) && (decide (r=r') && (decide (s=s') && decide (n=n')))
theorem iEqualStates_ev (a:Int)(r s n:List Int)(b:Int)(r' s' n':List Int)(h1:r.length≤1048576)(h2:s.length≤1048576)(h3:n.length≤1048576):Ev (fun k=>impl_EqualStates.f k a r s n b r' s' n') (pEqStates a r s n b r' s' n'):=by
 unfold impl_EqualStates.f pEqStates
 exact Ev.if_and fun _=>Ev.and (iEqualInts_ev r r' h1) fun _=>Ev.and (iEqualInts_ev s s' h2) fun _=>Ev.id (iEqualInts_ev n n' h3)
def pEntry (y:S50):Bool:=(decide (1≤y.f0) && decide (y.f0≤4)) && (pIn y.f2 0 999 && (if y.f0=1 then pAddr y.f1.f0 y.f1.f1 y.f1.f2 else pZero y.f1.f0 y.f1.f1 y.f1.f2))
def pEntries (l:List S50):Bool:=l.all pEntry && decide ((l.length:Int)≤16)
theorem not_any' {α:Type}(l:List α)(p:α→Bool):(!(l.any fun y=>!p y))=l.all p:=by
 rw[List.all_eq_not_any_not]
theorem not_zero (a b c:Int):(!(a == 0) || (!(b == 0) || (!(c == 0))))=!pZero a b c:=by
 unfold pZero
 cases (a == 0) <;> cases (b == 0) <;> cases (c == 0) <;> rfl
def pDiff (e:S50)(w:Int×Int×Int×Int):Bool:=(!((e.f1.f0) == w.2.1) || (!((e.f1.f1) == w.2.2.1) || (!((e.f1.f2) == w.2.2.2))))
def pRun (l:List S57)(es:List S50):Nat→List S35→Int→(Int×List Int×List Int×List Int)→Int×Int×Int×List Int×List Int×List Int×List S35
 | 0,tr,_,z=>(0,0,z.1,z.2.1,z.2.2.1,z.2.2.2,tr)
 | m+1,tr,n,z =>
  if (l.length:Int)≤z.1 then(if n < (es.length:Int) then(1,n,z.1,z.2.1,z.2.2.1,z.2.2.2,tr) else(0,0,z.1,z.2.1,z.2.2.1,z.2.2.2,tr))
  else if (pWant l z.1 z.2.1 z.2.2.1 z.2.2.2).1=0 then
   pRun l es m (tr++[⟨(pStep l z.1 z.2.1 z.2.2.1 z.2.2.2 0).1,(pStep l z.1 z.2.1 z.2.2.1 z.2.2.2 0).2.1,(pStep l z.1 z.2.1 z.2.2.1 z.2.2.2 0).2.2.1,(pStep l z.1 z.2.1 z.2.2.1 z.2.2.2 0).2.2.2⟩]) n (pStep l z.1 z.2.1 z.2.2.1 z.2.2.2 0)
  else if n=(es.length:Int) then(2,n,z.1,z.2.1,z.2.2.1,z.2.2.2,tr)
  else if (rd_T50 es n).f0=(pWant l z.1 z.2.1 z.2.2.1 z.2.2.2).1∧pDiff (rd_T50 es n) (pWant l z.1 z.2.1 z.2.2.1 z.2.2.2)=false then
   pRun l es m (tr++[⟨(pStep l z.1 z.2.1 z.2.2.1 z.2.2.2 (rd_T50 es n).f2).1,(pStep l z.1 z.2.1 z.2.2.1 z.2.2.2 (rd_T50 es n).f2).2.1,(pStep l z.1 z.2.1 z.2.2.1 z.2.2.2 (rd_T50 es n).f2).2.2.1,(pStep l z.1 z.2.1 z.2.2.1 z.2.2.2 (rd_T50 es n).f2).2.2.2⟩]) (n+1) (pStep l z.1 z.2.1 z.2.2.1 z.2.2.2 (rd_T50 es n).f2)
  else(1,n,z.1,z.2.1,z.2.2.1,z.2.2.2,tr)
theorem pRun_left (l:List S57)(es:List S50)(m:Nat)(tr:List S35)(n:Int)(z:Int×List Int×List Int×List Int)(h:(l.length:Int)≤z.1)(c:n < (es.length:Int)):pRun l es (m+1) tr n z=(1,n,z.1,z.2.1,z.2.2.1,z.2.2.2,tr):=by rw[pRun,if_pos h,if_pos c]
theorem pRun_same (l:List S57)(es:List S50)(m:Nat)(tr:List S35)(n:Int)(z:Int×List Int×List Int×List Int)(h:(l.length:Int)≤z.1)(c:¬n < (es.length:Int)):pRun l es (m+1) tr n z=(0,0,z.1,z.2.1,z.2.2.1,z.2.2.2,tr):=by rw[pRun,if_pos h,if_neg c]
def pPlay (l:List S57)(es:List S50):Int×Int×Int×List Int×List Int×List Int×List S35 :=
 if pScript l=true∧pEntries es=true then pRun l es 40 [⟨0,[0,0,0,0],[0,0,0],[0,0,0,0]⟩] 0 z0 else(2,0,0,[0,0,0,0],[0,0,0],[0,0,0,0],[⟨0,[0,0,0,0],[0,0,0],[0,0,0,0]⟩])
theorem pRun_ok (l:List S57)(es:List S50)(hs:pScript l=true):∀ (m:Nat) (tr:List S35) (n:Int) (z:Int×List Int×List Int×List Int),StOk z →
  StOk ((pRun l es m tr n z).2.2.1,(pRun l es m tr n z).2.2.2.1,(pRun l es m tr n z).2.2.2.2.1,(pRun l es m tr n z).2.2.2.2.2.1):=by
 intro m
 induction m with
 | zero=>intro tr n z hz;exact hz
 | succ m ih =>
  intro tr n z hz
  rw[pRun]
  by_cases c1:(l.length:Int)≤z.1
  ·rw[if_pos c1]
   split <;> exact hz
  rw[if_neg c1]
  have hc:=can_of hs hz c1
  split
  ·exact ih _ _ _ (pStep_ok l _ _ _ _ _ hc).1
  split
  ·exact hz
  split
  ·exact ih _ _ _ (pStep_ok l _ _ _ _ _ hc).1
  ·exact hz
theorem pPlay_ok (l:List S57)(es:List S50):StOk ((pPlay l es).2.2.1,(pPlay l es).2.2.2.1,(pPlay l es).2.2.2.2.1,(pPlay l es).2.2.2.2.2.1):=by
 unfold pPlay
 split
 ·rename_i h
  exact pRun_ok l es h.1 40 _ 0 z0 z0_ok
 ·exact z0_ok
theorem lit1_eq (y:S50):impl_AreEntries_lit1.f y.f0 y.f1.f0 y.f1.f1 y.f1.f2 y.f2=some (!pEntry y):=by
 unfold impl_AreEntries_lit1.f pEntry pIn
 rw[iIsAddress_eq,InRange_eq,iAsks_eq,not_zero]
 unfold pAsks
 by_cases h1:y.f0=1
 ·have e1:(decide (1≤y.f0) && decide (y.f0≤4))=true:=by simp[h1]
  rw[e1]
  simp only[h1,if_true,Option.bind_some]
  cases pAddr y.f1.f0 y.f1.f1 y.f1.f2 <;> cases (decide (0≤y.f2) && decide (y.f2≤999)) <;> rfl
 ·simp only[h1,if_false,Option.bind_some]
  cases (decide (1≤y.f0) && decide (y.f0≤4)) <;> cases pZero y.f1.f0 y.f1.f1 y.f1.f2 <;> cases (decide (0≤y.f2) && decide (y.f2≤999)) <;> rfl
theorem iAreEntries_ev (l:List S50)(h:l.length≤1048576):Ev (fun k=>impl_AreEntries.f k l) (pEntries l):=by
 unfold impl_AreEntries.f pEntries
 rw[Bool.and_comm]
 refine Ev.if_and fun _=>?_
 rw[←not_any']
 refine Ev.no ?_
 unfold slices_ContainsFunc_68.f
 have hf:∃ r:Int,Ev (fun k=>slices_IndexFunc_68.l0 k l (l.length:Int) 0) r∧decide (r≥0)=l.any (fun y=>!pEntry y):=by
  refine ev_find (fun k i=>slices_IndexFunc_68.l0 k l (l.length:Int) i) l z50 (fun y=>!pEntry y) (fun k=>by rw[slices_IndexFunc_68.l0,if_neg (by omega)]) ?_ ?_
  ·intro i hi hp
   refine Ev.round (fun _=>by rw[slices_IndexFunc_68.l0]) ?_
   refine Ev.pos (by omega) ?_
   refine Ev.pos (by omega) ?_
   refine Ev.pos (by omega) ?_
   refine Ev.now_bind (lit1_eq (rd_T50 l (i:Int))) ?_
   refine Ev.pos hp ?_
   exact Ev.now _
  ·intro i hi hp r hr
   have e1:wrap64 ((i:Int)+1)=((i+1:Nat):Int):=by rw[w64 (by omega) (by omega)];omega
   refine Ev.round (fun _=>by rw[slices_IndexFunc_68.l0]) ?_
   refine Ev.pos (by omega) ?_
   refine Ev.pos (by omega) ?_
   refine Ev.pos (by omega) ?_
   refine Ev.now_bind (lit1_eq (rd_T50 l (i:Int))) ?_
   refine Ev.neg (ne_true_of_eq_false hp) ?_
   simp only[e1]
   exact hr
 obtain⟨r,hr,hd⟩:=hf
 rw[←hd]
 exact Ev.bind hr (Ev.now _)
theorem i14_l0 (l:List S57)(es:List S50)(hs:pScript l=true):∀ (m:Nat) (tr:List S35) (n:Int) (z:Int×List Int×List Int×List Int),StOk z→0≤n→n≤(es.length:Int)→(l.length:Int)≤z.1+(m:Int)→tr.length+m≤1000→es.length≤1048576 →
  Ev (fun k=>impl_played.l0 k l es tr n z.1 z.2.1 z.2.2.1 z.2.2.2) (pRun l es (m+1) tr n z):=by
 have hl:=pScript_len hs
 intro m
 induction m with
 | zero =>
  intro tr n z hz h0 h1 hm ht he
  refine Ev.round (fun _=>by rw[impl_played.l0]) ?_
  refine Ev.now_bind rfl ?_
  refine Ev.pos (decide_eq_true (by omega)) ?_
  by_cases c:n < (es.length:Int)
  ·rw[pRun_left l es 0 tr n z (by omega) c]
   exact Ev.pos c (Ev.now _)
  ·rw[pRun_same l es 0 tr n z (by omega) c]
   exact Ev.neg c (Ev.now _)
 | succ m ih =>
  intro tr n z hz h0 h1 hm ht he
  by_cases c1:(l.length:Int)≤z.1
  ·refine Ev.round (fun _=>by rw[impl_played.l0]) ?_
   refine Ev.now_bind rfl ?_
   refine Ev.pos (decide_eq_true (by omega)) ?_
   by_cases c:n < (es.length:Int)
   ·rw[pRun_left l es (m+1) tr n z c1 c]
    exact Ev.pos c (Ev.now _)
   ·rw[pRun_same l es (m+1) tr n z c1 c]
    exact Ev.neg c (Ev.now _)
  have hc:=can_of hs hz c1
  obtain⟨g1,g2,g3⟩:=StOk_len hz
  have hw:=iWant_ev l z.1 z.2.1 z.2.2.1 z.2.2.2 (by omega) (by omega) (by omega) (by omega)
  have hst:=fun v=>iStep_ev l z.1 z.2.1 z.2.2.1 z.2.2.2 v (by omega) (by omega) (by omega) (by omega)
  have hok:=fun v=>pStep_ok l z.1 z.2.1 z.2.2.1 z.2.2.2 v hc
  have e1:n < (es.length:Int)→wrap64 (n+1)=n+1:=fun _=>w64 (by omega) (by omega)
  rw[pRun,if_neg c1]
  refine Ev.round (fun _=>by rw[impl_played.l0]) ?_
  refine Ev.now_bind rfl ?_
  refine Ev.neg (by simp only[decide_eq_true_eq];omega) ?_
  refine Ev.bind hw ?_
  generalize pWant l z.1 z.2.1 z.2.2.1 z.2.2.2=w
  try dsimp only
  by_cases cw:w.1=0
  ·rw[if_pos cw]
   refine Ev.pos cw ?_
   refine Ev.bind (hst 0) ?_
   refine Ev.pos (by omega) ?_
   exact ih _ n _ (hok 0).1 h0 h1 (by have:=(hok 0).2.1;omega) (by rw[List.length_append,List.length_singleton];omega) he
  rw[if_neg cw]
  refine Ev.neg cw ?_
  by_cases cn:n=(es.length:Int)
  ·rw[if_pos cn]
   exact Ev.pos cn (Ev.now _)
  rw[if_neg cn,e1 (by omega)]
  refine Ev.neg cn ?_
  refine Ev.pos (by omega) ?_
  refine Ev.pos (by omega) ?_
  by_cases ck:(rd_T50 es n).f0=w.1
  ·refine Ev.pos ck ?_
   by_cases ca:pDiff (rd_T50 es n) w=true
   ·rw[if_neg (by rw[ca];simp)]
    exact Ev.pos ca (Ev.now _)
   ·have cf:pDiff (rd_T50 es n) w=false:=by simpa using ca
    rw[if_pos ⟨ck,cf⟩]
    refine Ev.neg ca ?_
    refine Ev.bind (hst _) ?_
    refine Ev.pos (by omega) ?_
    exact ih _ (n+1) _ (hok _).1 (by omega) (by omega) (by have:=(hok (rd_T50 es n).f2).2.1;omega) (by rw[List.length_append,List.length_singleton];omega) he
  ·rw[if_neg (fun h=>ck h.1)]
   exact Ev.neg ck (Ev.now _)
theorem i14_ev (l:List S57)(es:List S50)(hl:l.length≤1048576)(he:es.length≤1048576):Ev (fun k=>impl_played.f k l es) (pPlay l es):=by
 unfold impl_played.f pPlay
 refine Ev.now_bind iStart_eq ?_
 refine Ev.now_bind rfl ?_
 refine Ev.bind (iIsScript_ev l hl) ?_
 by_cases c1:pScript l=true
 ·refine Ev.pos c1 ?_
  refine Ev.bind (iAreEntries_ev es he) ?_
  refine Ev.round (fun _=>by rw[impl_played.j0]) ?_
  by_cases c2:pEntries es=true
  ·rw[if_pos ⟨c1,c2⟩]
   have:=pScript_len c1
   refine Ev.neg (by simp[c2]) ?_
   exact i14_l0 l es c1 39 _ 0 z0 z0_ok (by omega) (by omega) (by show _≤(0:Int)+((39:Nat):Int);omega) (by simp) he
  ·rw[if_neg (fun h=>c2 h.2)]
   exact Ev.pos (by simp[c2]) (Ev.now _)
 ·rw[if_neg (fun h=>c1 h.1)]
  refine Ev.neg c1 ?_
  refine Ev.round (fun _=>by rw[impl_played.j0]) ?_
  exact Ev.pos rfl (Ev.now _)
theorem iReplay_ev (l:List S57)(es:List S50)(hl:l.length≤1048576)(he:es.length≤1048576):Ev (fun k=>impl_Replay.f k l es) ((pPlay l es).1,(pPlay l es).2.1,(pPlay l es).2.2.1,(pPlay l es).2.2.2.1,(pPlay l es).2.2.2.2.1,(pPlay l es).2.2.2.2.2.1):=by
 obtain⟨g1,g2,g3⟩:=StOk_len (pPlay_ok l es)
 unfold impl_Replay.f
 refine Ev.bind (i14_ev l es hl he) ?_
 dsimp only at g1 g2 g3 ⊢
 exact Ev.now_bind (iCopy_eq _ _ _ _ (by omega) (by omega) (by omega)) (Ev.now _)
theorem iTrace_ev (l:List S57)(es:List S50)(hl:l.length≤1048576)(he:es.length≤1048576):Ev (fun k=>impl_TraceReplay.f k l es) (pPlay l es).2.2.2.2.2.2:=by
 unfold impl_TraceReplay.f
 exact Ev.bind (i14_ev l es hl he) (Ev.now _)
def pStSame (x y:S35):Bool:=pEqStates x.f0 x.f1 x.f2 x.f3 y.f0 y.f1 y.f2 y.f3
def pSameTr (a b:List S35):Bool:=decide ((a.length:Int)=(b.length:Int)) && (a.zip b).all fun q=>pStSame q.1 q.2
def pFaith (l:List S57)(s:List S83)(tk sd:Int)(ins:List Int):Bool:=decide ((pPlay l (pVis l s tk sd ins).1).1=0) && pSameTr (pPlay l (pVis l s tk sd ins).1).2.2.2.2.2.2 (pVis l s tk sd ins).2
theorem pRun_tr (l:List S57)(es:List S50)(hs:pScript l=true):∀ (m c:Nat) (tr:List S35) (n:Int) (z:Int×List Int×List Int×List Int),StOk z→(tr.length≤c∧∀ y∈tr,Row3 y) →
  ((pRun l es m tr n z).2.2.2.2.2.2.length≤c+m∧∀ y∈(pRun l es m tr n z).2.2.2.2.2.2,Row3 y):=by
 intro m
 induction m with
 | zero=>intro c tr n z hz ht;exact ht
 | succ m ih =>
  intro c tr n z hz ht
  have ht2:tr.length≤c+(m+1)∧∀ y∈tr,Row3 y:=⟨by omega,ht.2⟩
  rw[pRun]
  by_cases c1:(l.length:Int)≤z.1
  ·rw[if_pos c1]
   split <;> exact ht2
  rw[if_neg c1]
  have hc:=can_of hs hz c1
  have e:c+1+m=c+(m+1):=by omega
  split
  ·have hk:=(pStep_ok l z.1 z.2.1 z.2.2.1 z.2.2.2 0 hc).1
   have r:=ih (c+1) _ n _ hk (tr_add ht hk)
   rw[e] at r
   exact r
  split
  ·exact ht2
  split
  ·have hk:=(pStep_ok l z.1 z.2.1 z.2.2.1 z.2.2.2 (rd_T50 es n).f2 hc).1
   have r:=ih (c+1) _ (n+1) _ hk (tr_add ht hk)
   rw[e] at r
   exact r
  ·exact ht2
theorem pPlay_tr (l:List S57)(es:List S50):(pPlay l es).2.2.2.2.2.2.length≤41∧∀ y∈(pPlay l es).2.2.2.2.2.2,Row3 y:=by
 have h0:([⟨0,[0,0,0,0],[0,0,0],[0,0,0,0]⟩]:List S35).length≤1∧∀ y∈([⟨0,[0,0,0,0],[0,0,0],[0,0,0,0]⟩]:List S35),Row3 y:=by
  refine⟨by simp,fun y hy=>?_⟩
  rw[List.mem_singleton.1 hy]
  exact⟨rfl,rfl,rfl⟩
 unfold pPlay
 split
 ·rename_i h
  exact pRun_tr l es h.1 40 1 _ 0 z0 z0_ok h0
 ·exact⟨by simp,h0.2⟩
theorem iStSame_ev (x y:S35)(h:Row3 x):Ev (fun k=>impl_EqualStates.f k x.f0 x.f1 x.f2 x.f3 y.f0 y.f1 y.f2 y.f3) (pStSame x y):=by
 obtain⟨g1,g2,g3⟩:=h
 exact iEqualStates_ev _ _ _ _ _ _ _ _ (by omega) (by omega) (by omega)
theorem iL14_ev (a b:List S35)(c:Int)(h:a.length≤1048576)(hf:∀ y∈a,Row3 y):Ev (fun k=>slices_EqualFunc_11.f k a b c) (pSameTr a b):=by
 unfold slices_EqualFunc_11.f pSameTr
 refine Ev.if_and fun hl=>?_
 refine ev_all2 (fun k i=>slices_EqualFunc_11.l0 k b a (a.length:Int) i) a b z35 pStSame (by omega) (fun k=>by rw[slices_EqualFunc_11.l0,if_neg (by omega)]) ?_ ?_
 ·intro i hi hp r hr
  have e1:wrap64 ((i:Int)+1)=((i+1:Nat):Int):=by rw[w64 (by omega) (by omega)];omega
  refine Ev.round (fun _=>by rw[slices_EqualFunc_11.l0]) ?_
  refine Ev.pos (by omega) ?_
  refine Ev.pos (by omega) ?_
  refine Ev.pos (by omega) ?_
  refine Ev.pos (by omega) ?_
  refine Ev.bind (iStSame_ev (rd_T35 a (i:Int)) (rd_T35 b (i:Int)) (hf _ (getD_mem a i hi z35))) ?_
  refine Ev.pos hp ?_
  simp only[e1];exact hr
 ·intro i hi hp
  refine Ev.round (fun _=>by rw[slices_EqualFunc_11.l0]) ?_
  refine Ev.pos (by omega) ?_
  refine Ev.pos (by omega) ?_
  refine Ev.pos (by omega) ?_
  refine Ev.pos (by omega) ?_
  refine Ev.bind (iStSame_ev (rd_T35 a (i:Int)) (rd_T35 b (i:Int)) (hf _ (getD_mem a i hi z35))) ?_
  refine Ev.neg (ne_true_of_eq_false hp) ?_
  exact Ev.now _
theorem iFaith_ev (l:List S57)(s:List S83)(tk sd:Int)(ins:List Int)(hl:l.length≤1048576)(h:s.length≤1048576)(hf:∀ y∈s,FitimplVersion y)(hi:ins.length≤1048576):Ev (fun k=>impl_IsFaithful.f k l s tk sd ins) (pFaith l s tk sd ins):=by
 have r1:=iRec_ev l s tk sd ins hl h hf hi
 have t2:=iTraceV_ev l s tk sd ins hl h hf hi
 obtain⟨_,y3,_⟩:=pVis_tr l s tk sd ins
 unfold impl_IsFaithful.f pFaith
 generalize pVis l s tk sd ins=z at r1 t2 y3 ⊢
 refine Ev.bind r1 ?_
 dsimp only
 refine Ev.bind (iReplay_ev l z.1 hl (by omega)) ?_
 dsimp only
 refine Ev.if_and fun _=>?_
 refine Ev.bind (iTrace_ev l z.1 hl (by omega)) ?_
 refine Ev.bind t2 ?_
 obtain⟨g1,g2⟩:=pPlay_tr l z.1
 exact Ev.id (iL14_ev _ _ _ (by omega) g2)
theorem pValIn (k:Int)(b:List Int)(h p q:Int):0≤pVal k b h p q∧pVal k b h p q≤999:=by
 unfold pVal
 split
 ·split
  ·omega
  ·omega
 ·omega
theorem pLive_in (s:List S83)(tk sd:Int)(ins:List Int)(w0 w1 w2 w3 n:Int):0≤pLive s tk sd ins w0 w1 w2 w3 n∧pLive s tk sd ins w0 w1 w2 w3 n≤999:=by
 unfold pLive
 by_cases c:pVisit s tk sd ins=true∧pIn n 0 100=true
 ·rw[if_pos c]
  have hv:=c.1
  have hn:=c.2
  unfold pVisit at hv
  simp only[pIn,Bool.and_eq_true,decide_eq_true_eq,List.all_eq_true] at hv hn
  obtain⟨_,ht,_,_,hi⟩:=hv
  by_cases c1:w0=1
  ·rw[if_pos c1]
   exact pValIn _ _ _ _ _
  rw[if_neg c1]
  by_cases c2:w0=2
  ·rw[if_pos c2,w64 (by omega) (by omega)]
   unfold mn
   split <;> omega
  rw[if_neg c2]
  by_cases c3:w0=3
  ·rw[if_pos c3]
   unfold pMod
   rw[if_pos (by omega)]
   generalize pHash [sd,n]=m
   have h1:-1000 < Int.tmod m 1000∧Int.tmod m 1000 < 1000:=by
    rcases Int.le_total 0 m with h | h
    ·rw[Int.tmod_eq_emod_of_nonneg h]
     omega
    ·obtain⟨u,rfl⟩:∃ u:Int,m = -u:=⟨-m,by omega⟩
     rw[Int.neg_tmod,Int.tmod_eq_emod_of_nonneg (by omega:0≤u)]
     omega
   rw[w64 (by omega) (by omega),Int.tmod_eq_emod_of_nonneg (by omega)]
   omega
  rw[if_neg c3]
  by_cases c4:w0=4
  ·rw[if_pos c4]
   split
   ·exact rd_in hi _
   ·omega
  ·rw[if_neg c4]
   omega
 ·rw[if_neg c]
  omega
theorem getD_app {α:Type}(c e:List α)(i:Nat)(d:α)(h:i < c.length):(c++e).getD i d=c.getD i d:=by
 simp[List.getD_eq_getElem?_getD,List.getElem?_append,h]
theorem getD_last {α:Type}(c:List α)(z d:α):(c++[z]).getD c.length d=z:=by
 simp[List.getD_eq_getElem?_getD]
def EntryAt (s:List S83)(tk sd:Int)(ins:List Int)(n:Nat)(e:S50):Prop:=pEntry e=true∧e.f2=pLive s tk sd ins e.f0 e.f1.f0 e.f1.f1 e.f1.f2 (n:Int)
def EntriesOk (s:List S83)(tk sd:Int)(ins:List Int)(es:List S50):Prop:=∀ n,n < es.length→EntryAt s tk sd ins n (es.getD n z50)
theorem entries_snoc {s:List S83}{tk sd:Int}{ins:List Int}{es:List S50}{e:S50}(h:EntriesOk s tk sd ins es)(he:EntryAt s tk sd ins es.length e):EntriesOk s tk sd ins (es++[e]):=by
 intro n hn
 rw[List.length_append,List.length_singleton] at hn
 by_cases c:n < es.length
 ·rw[getD_app _ _ _ _ c]
  exact h n c
 ·obtain rfl:n=es.length:=by omega
  rw[getD_last]
  exact he
theorem pWant_zero (l:List S57)(a:Int)(r s n:List Int)(h:¬(pWant l a r s n).1=1):pZero (pWant l a r s n).2.1 (pWant l a r s n).2.2.1 (pWant l a r s n).2.2.2=true:=by
 unfold pWant at h ⊢
 by_cases c:pCan l a r s n=true∧pAsks (rd_T57 l a).f0=true
 ·rw[if_pos c] at h ⊢
  by_cases c1:(rd_T57 l a).f0=1
  ·rw[if_pos c1] at h
   exact absurd c1 h
  ·rw[if_neg c1]
   rfl
 ·rw[if_neg c]
  rfl
theorem want_entry (l:List S57)(s:List S83)(tk sd:Int)(ins:List Int)(es:List S50)(z:Int×List Int×List Int×List Int)(hc:pCan l z.1 z.2.1 z.2.2.1 z.2.2.2=true)(hw:¬(pWant l z.1 z.2.1 z.2.2.1 z.2.2.2).1=0):EntryAt s tk sd ins es.length ⟨(pWant l z.1 z.2.1 z.2.2.1 z.2.2.2).1,⟨(pWant l z.1 z.2.1 z.2.2.1 z.2.2.2).2.1,(pWant l z.1 z.2.1 z.2.2.1 z.2.2.2).2.2.1,(pWant l z.1 z.2.1 z.2.2.1 z.2.2.2).2.2.2⟩,pSeen.pAns l s tk sd ins es z⟩:=by
 have hn:=pWant_nn l z.1 z.2.1 z.2.2.1 z.2.2.2 hc
 obtain⟨h1,h2⟩:=pWant_ok l z.1 z.2.1 z.2.2.1 z.2.2.2 hc (by omega)
 have h3:=pLive_in s tk sd ins (pWant l z.1 z.2.1 z.2.2.1 z.2.2.2).1 (pWant l z.1 z.2.1 z.2.2.1 z.2.2.2).2.1 (pWant l z.1 z.2.1 z.2.2.1 z.2.2.2).2.2.1 (pWant l z.1 z.2.1 z.2.2.1 z.2.2.2).2.2.2 (es.length:Int)
 have h4:=pWant_zero l z.1 z.2.1 z.2.2.1 z.2.2.2
 refine⟨?_,rfl⟩
 unfold pEntry pSeen.pAns
 generalize (pWant l z.1 z.2.1 z.2.2.1 z.2.2.2)=q at h1 h2 h3 h4 ⊢
 unfold pAsks at h1
 dsimp only
 simp only[Bool.and_eq_true,decide_eq_true_eq,pIn] at h1 ⊢
 refine⟨h1,h3,?_⟩
 by_cases c:q.1=1
 ·rw[if_pos c]
  exact h2 c
 ·rw[if_neg c]
  exact h4 c
theorem pSeen_ok (l:List S57)(s:List S83)(tk sd:Int)(ins:List Int)(hs:pScript l=true):∀ (m:Nat) (es:List S50) (tr:List S35) (z:Int×List Int×List Int×List Int),StOk z→(es.length:Int)≤z.1→es.length≤l.length→EntriesOk s tk sd ins es →
  (pSeen l s tk sd ins m es tr z).1.length≤l.length∧EntriesOk s tk sd ins (pSeen l s tk sd ins m es tr z).1:=by
 intro m
 induction m with
 | zero=>intro es tr z hz h1 h2 h3;exact⟨h2,h3⟩
 | succ m ih =>
  intro es tr z hz h1 h2 h3
  rw[pSeen]
  by_cases c1:(l.length:Int)≤z.1
  ·rw[if_pos c1]
   exact⟨h2,h3⟩
  rw[if_neg c1]
  have hc:=can_of hs hz c1
  by_cases c2:(pWant l z.1 z.2.1 z.2.2.1 z.2.2.2).1=0
  ·rw[if_pos c2]
   obtain⟨hk,hp,_⟩:=pStep_ok l z.1 z.2.1 z.2.2.1 z.2.2.2 0 hc
   exact ih es _ _ hk (by omega) h2 h3
  ·rw[if_neg c2]
   obtain⟨hk,hp,_⟩:=pStep_ok l z.1 z.2.1 z.2.2.1 z.2.2.2 (pSeen.pAns l s tk sd ins es z) hc
   exact ih _ _ _ hk (by rw[List.length_append,List.length_singleton];omega) (by rw[List.length_append,List.length_singleton];omega) (entries_snoc h3 (want_entry l s tk sd ins es z hc c2))
theorem pVis_ok (l:List S57)(s:List S83)(tk sd:Int)(ins:List Int):(pVis l s tk sd ins).1.length≤16∧EntriesOk s tk sd ins (pVis l s tk sd ins).1∧((pVis l s tk sd ins).1.length≠0→pVisit s tk sd ins=true):=by
 unfold pVis
 split
 ·rename_i h
  have hl:=pScript_len h.1
  obtain⟨h1,h2⟩:=pSeen_ok l s tk sd ins h.1 40 [] [⟨0,[0,0,0,0],[0,0,0],[0,0,0,0]⟩] z0 z0_ok (by simp[z0]) (by simp) (fun n hn=>absurd hn (by simp))
  exact⟨by omega,h2,fun _=>h.2⟩
 ·exact⟨by simp,fun n hn=>absurd hn (by simp),fun h=>absurd rfl h⟩
abbrev stOf (z:Int×List Int×List Int×List Int):S35:=⟨z.1,z.2.1,z.2.2.1,z.2.2.2⟩
theorem pSeen_pre (l:List S57)(s:List S83)(tk sd:Int)(ins:List Int):∀ (m:Nat) (es:List S50) (tr:List S35) (z:Int×List Int×List Int×List Int),(∃ f,(pSeen l s tk sd ins m es tr z).1=es++f)∧∃ g,(pSeen l s tk sd ins m es tr z).2=tr++g:=by
 intro m
 induction m with
 | zero=>intro es tr z;exact⟨⟨[],by simp[pSeen]⟩,[],by simp[pSeen]⟩
 | succ m ih =>
  intro es tr z
  rw[pSeen]
  split
  ·exact⟨⟨[],by simp⟩,[],by simp⟩
  split
  ·obtain⟨⟨f,hf⟩,g,hg⟩:=ih es (tr++[stOf (pStep l z.1 z.2.1 z.2.2.1 z.2.2.2 0)]) (pStep l z.1 z.2.1 z.2.2.1 z.2.2.2 0)
   exact⟨⟨f,hf⟩,_,by rw[hg,List.append_assoc]⟩
  ·obtain⟨⟨f,hf⟩,g,hg⟩:=ih (es++[⟨(pWant l z.1 z.2.1 z.2.2.1 z.2.2.2).1,⟨(pWant l z.1 z.2.1 z.2.2.1 z.2.2.2).2.1,(pWant l z.1 z.2.1 z.2.2.1 z.2.2.2).2.2.1,(pWant l z.1 z.2.1 z.2.2.1 z.2.2.2).2.2.2⟩,pSeen.pAns l s tk sd ins es z⟩]) (tr++[stOf (pStep l z.1 z.2.1 z.2.2.1 z.2.2.2 (pSeen.pAns l s tk sd ins es z))]) (pStep l z.1 z.2.1 z.2.2.1 z.2.2.2 (pSeen.pAns l s tk sd ins es z))
   exact⟨⟨_,by rw[hf,List.append_assoc]⟩,_,by rw[hg,List.append_assoc]⟩
abbrev lastOf (R:Int×Int×Int×List Int×List Int×List Int×List S35):S35:=⟨R.2.2.1,R.2.2.2.1,R.2.2.2.2.1,R.2.2.2.2.2.1⟩
theorem pRun_all (l:List S57)(es:List S50)(hs:pScript l=true):∀ (m:Nat) (t0:List S35) (n:Int) (z:Int×List Int×List Int×List Int),StOk z→1≤m→(l.length:Int) < z.1+(m:Int)→n≤(es.length:Int) →
  ((pRun l es m (t0++[stOf z]) n z).1=0∨(pRun l es m (t0++[stOf z]) n z).1=1∨(pRun l es m (t0++[stOf z]) n z).1=2)∧((pRun l es m (t0++[stOf z]) n z).1=0→(l.length:Int)≤(pRun l es m (t0++[stOf z]) n z).2.2.1)∧((pRun l es m (t0++[stOf z]) n z).2.1≤(es.length:Int))∧∃ t1,(pRun l es m (t0++[stOf z]) n z).2.2.2.2.2.2=t1++[lastOf (pRun l es m (t0++[stOf z]) n z)]:=by
 intro m
 induction m with
 | zero=>intro t0 n z hz h1;omega
 | succ m ih =>
  intro t0 n z hz h1 hm hn
  rw[pRun]
  by_cases c1:(l.length:Int)≤z.1
  ·rw[if_pos c1]
   by_cases c:n < (es.length:Int)
   ·rw[if_pos c]
    exact⟨Or.inr (Or.inl rfl),fun h=>absurd (show(1:Int)=0 from h) (by decide),hn,t0,rfl⟩
   ·rw[if_neg c]
    exact⟨Or.inl rfl,fun _=>c1,by show(0:Int)≤_;omega,t0,rfl⟩
  rw[if_neg c1]
  have hc:=can_of hs hz c1
  have hk:=fun v=>pStep_ok l z.1 z.2.1 z.2.2.1 z.2.2.2 v hc
  by_cases c2:(pWant l z.1 z.2.1 z.2.2.1 z.2.2.2).1=0
  ·rw[if_pos c2]
   obtain⟨k1,k2,_⟩:=hk 0
   exact ih (t0++[stOf z]) n _ k1 (by omega) (by omega) hn
  rw[if_neg c2]
  by_cases c3:n=(es.length:Int)
  ·rw[if_pos c3]
   exact⟨Or.inr (Or.inr rfl),fun h=>absurd (show(2:Int)=0 from h) (by decide),hn,t0,rfl⟩
  rw[if_neg c3]
  split
  ·obtain⟨k1,k2,_⟩:=hk (rd_T50 es n).f2
   exact ih (t0++[stOf z]) (n+1) _ k1 (by omega) (by omega) (by omega)
  ·exact⟨Or.inr (Or.inl rfl),fun h=>absurd (show(1:Int)=0 from h) (by decide),hn,t0,rfl⟩
theorem pPlay_all (l:List S57)(es:List S50):((pPlay l es).1=0∨(pPlay l es).1=1∨(pPlay l es).1=2)∧((pPlay l es).1=0→(l.length:Int)≤(pPlay l es).2.2.1)∧((pPlay l es).2.1≤(es.length:Int))∧∃ t1,(pPlay l es).2.2.2.2.2.2=t1++[lastOf (pPlay l es)]:=by
 unfold pPlay
 by_cases c:pScript l=true∧pEntries es=true
 ·rw[if_pos c]
  have hl:=pScript_len c.1
  exact pRun_all l es c.1 40 [] 0 z0 z0_ok (by omega) (by show(l.length:Int) < 0+((40:Nat):Int);omega) (by omega)
 ·rw[if_neg c]
  exact⟨Or.inr (Or.inr rfl),fun h=>absurd (show(2:Int)=0 from h) (by decide),by show(0:Int)≤_;omega,[],rfl⟩
theorem run_sim (l:List S57)(s:List S83)(tk sd:Int)(ins:List Int)(hs:pScript l=true)(E F:List S50)(hF:∀ i,i < F.length→i < E.length→F.getD i z50=E.getD i z50) :
  ∀ (m:Nat) (es:List S50) (t0:List S35) (z:Int×List Int×List Int×List Int),StOk z→1≤m→(l.length:Int) < z.1+(m:Int)→es.length≤F.length→E=(pSeen l s tk sd ins m es (t0++[stOf z]) z).1 →
  (E.length=F.length→(pRun l F m (t0++[stOf z]) (es.length:Int) z).1=0∧(pRun l F m (t0++[stOf z]) (es.length:Int) z).2.2.2.2.2.2=(pSeen l s tk sd ins m es (t0++[stOf z]) z).2)∧(E.length≠F.length→(pRun l F m (t0++[stOf z]) (es.length:Int) z).1≠0):=by
 intro m
 induction m with
 | zero=>intro es t0 z hz h1;omega
 | succ m ih =>
  intro es t0 z hz h1 hm he hE
  rw[pSeen] at hE ⊢
  rw[pRun]
  by_cases c1:(l.length:Int)≤z.1
  ·rw[if_pos c1] at hE ⊢
   rw[if_pos c1]
   have hE':E=es:=hE
   by_cases c:(es.length:Int) < (F.length:Int)
   ·rw[if_pos c]
    refine⟨fun h=>?_,fun _=>?_⟩
    ·rw[hE'] at h
     omega
    ·show(1:Int)≠0
     decide
   ·rw[if_neg c]
    refine⟨fun _=>⟨rfl,rfl⟩,fun h=>?_⟩
    rw[hE'] at h
    omega
  rw[if_neg c1] at hE ⊢
  rw[if_neg c1]
  have hc:=can_of hs hz c1
  obtain⟨a1,a2,_⟩:=pStep_ok l z.1 z.2.1 z.2.2.1 z.2.2.2 0 hc
  obtain⟨b1,b2,_⟩:=pStep_ok l z.1 z.2.1 z.2.2.1 z.2.2.2 (pSeen.pAns l s tk sd ins es z) hc
  generalize pSeen.pAns l s tk sd ins es z=v at hE b1 b2 ⊢
  by_cases c2:(pWant l z.1 z.2.1 z.2.2.1 z.2.2.2).1=0
  ·rw[if_pos c2] at hE ⊢
   rw[if_pos c2]
   exact ih es (t0++[stOf z]) _ a1 (by omega) (by omega) he hE
  rw[if_neg c2] at hE ⊢
  rw[if_neg c2]
  generalize pWant l z.1 z.2.1 z.2.2.1 z.2.2.2=w at hE ⊢
  obtain⟨⟨f,ef⟩,_⟩:=pSeen_pre l s tk sd ins m (es++[⟨w.1,⟨w.2.1,w.2.2.1,w.2.2.2⟩,v⟩]) (t0++[stOf z]++[stOf (pStep l z.1 z.2.1 z.2.2.1 z.2.2.2 v)]) (pStep l z.1 z.2.1 z.2.2.1 z.2.2.2 v)
  have hEe:=hE.trans ef
  have hlt:es.length < E.length:=by rw[hEe];simp
  by_cases c3:(es.length:Int)=(F.length:Int)
  ·rw[if_pos c3]
   refine⟨fun h=>?_,fun _=>?_⟩
   ·omega
   ·show(2:Int)≠0
    decide
  rw[if_neg c3]
  have qe:rd_T50 F (es.length:Int)=⟨w.1,⟨w.2.1,w.2.2.1,w.2.2.2⟩,v⟩:=by
   show F.getD es.length z50=_
   rw[hF es.length (by omega) hlt,hEe,getD_app _ _ _ _ (by simp),getD_last]
  rw[qe]
  have hd:pDiff (⟨w.1,⟨w.2.1,w.2.2.1,w.2.2.2⟩,v⟩:S50) w=false:=by
   unfold pDiff
   simp
  rw[if_pos ⟨rfl,hd⟩]
  have r:=ih (es++[⟨w.1,⟨w.2.1,w.2.2.1,w.2.2.2⟩,v⟩]) (t0++[stOf z]) _ b1 (by omega) (by omega) (by rw[List.length_append,List.length_singleton];omega) hE
  have e1:(((es++[(⟨w.1,⟨w.2.1,w.2.2.1,w.2.2.2⟩,v⟩:S50)]).length:Nat):Int)=(es.length:Int)+1:=by rw[List.length_append,List.length_singleton];omega
  rw[e1] at r
  exact r
theorem vis_eq (l:List S57)(s:List S83)(tk sd:Int)(ins:List Int)(hs:pScript l=true)(hv:pVisit s tk sd ins=true):pVis l s tk sd ins=pSeen l s tk sd ins 40 [] ([]++[stOf z0]) z0:=by
 unfold pVis
 rw[if_pos ⟨hs,hv⟩]
 rfl
theorem vis_entries (l:List S57)(s:List S83)(tk sd:Int)(ins:List Int):pEntries (pVis l s tk sd ins).1=true:=by
 obtain⟨v1,v2,v3⟩:=pVis_ok l s tk sd ins
 unfold pEntries
 rw[Bool.and_eq_true,List.all_eq_true]
 refine⟨fun y hy=>?_,decide_eq_true (by omega)⟩
 obtain⟨n,hn,en⟩:=List.mem_iff_getElem.1 hy
 have q:=(v2 n hn).1
 rw[List.getD_eq_getElem?_getD,List.getElem?_eq_getElem hn] at q
 rw[←en]
 exact q
theorem play_same (l:List S57)(s:List S83)(tk sd:Int)(ins:List Int)(hs:pScript l=true)(hv:pVisit s tk sd ins=true):(pPlay l (pVis l s tk sd ins).1).1=0∧(pPlay l (pVis l s tk sd ins).1).2.2.2.2.2.2=(pVis l s tk sd ins).2:=by
 have hl:=pScript_len hs
 have hE:=vis_entries l s tk sd ins
 have e:=vis_eq l s tk sd ins hs hv
 have r:=(run_sim l s tk sd ins hs (pVis l s tk sd ins).1 (pVis l s tk sd ins).1 (fun _ _ _=>rfl) 40 [] [] z0 z0_ok (by omega) (by show(l.length:Int) < 0+((40:Nat):Int);omega) (Nat.zero_le _) (by rw[e])).1 rfl
 unfold pPlay
 rw[if_pos ⟨hs,hE⟩]
 refine⟨r.1,r.2.trans ?_⟩
 rw[e]
theorem play_other (l:List S57)(s:List S83)(tk sd:Int)(ins:List Int)(hs:pScript l=true)(hv:pVisit s tk sd ins=true)(F:List S50)(hF:∀ i,i < F.length→i < (pVis l s tk sd ins).1.length→F.getD i z50=(pVis l s tk sd ins).1.getD i z50)(hn:(pVis l s tk sd ins).1.length≠F.length):(pPlay l F).1≠0:=by
 have hl:=pScript_len hs
 have e:=vis_eq l s tk sd ins hs hv
 unfold pPlay
 by_cases c:pScript l=true∧pEntries F=true
 ·rw[if_pos c]
  exact(run_sim l s tk sd ins hs (pVis l s tk sd ins).1 F hF 40 [] [] z0 z0_ok (by omega) (by show(l.length:Int) < 0+((40:Nat):Int);omega) (Nat.zero_le _) (by rw[e])).2 hn
 ·rw[if_neg c]
  show(2:Int)≠0
  decide
theorem pEqSt_self (y:S35):pStSame y y=true:=by
 unfold pStSame pEqStates
 simp
theorem zip_self {α:Type}:∀ (a:List α),∀ q∈a.zip a,q.1=q.2:=by
 intro a
 induction a with
 | nil=>intro q hq;cases hq
 | cons y a ih =>
  intro q hq
  rw[List.zip_cons_cons] at hq
  rcases List.mem_cons.1 hq with rfl | hq
  ·rfl
  ·exact ih q hq
theorem pSameTr_self (a:List S35):pSameTr a a=true:=by
 unfold pSameTr
 rw[decide_eq_true rfl,Bool.true_and,List.all_eq_true]
 intro q hq
 rw[zip_self a q hq]
 exact pEqSt_self _
theorem lawSame_ev (a b:List S35)(h:a.length≤1048576)(hf:∀ y∈a,Row3 y):Ev (fun k=>laws_sameTrace.f k a b) (pSameTr a b):=by
 unfold laws_sameTrace.f pSameTr
 refine Ev.if_and fun hl=>?_
 refine ev_all2 (fun k i=>laws_sameTrace.l0 k a b i) a b z35 pStSame (by omega) (fun k=>by rw[laws_sameTrace.l0,if_neg (by omega)]) ?_ ?_
 ·intro i hi hp r hr
  have e1:wrap64 ((i:Int)+1)=((i+1:Nat):Int):=by rw[w64 (by omega) (by omega)];omega
  refine Ev.round (fun _=>by rw[laws_sameTrace.l0]) ?_
  refine Ev.pos (by omega) ?_
  refine Ev.pos (by omega) ?_
  refine Ev.pos (by omega) ?_
  refine Ev.bind (iStSame_ev (rd_T35 a (i:Int)) (rd_T35 b (i:Int)) (hf _ (getD_mem a i hi z35))) ?_
  refine Ev.pos hp ?_
  simp only[e1];exact hr
 ·intro i hi hp
  refine Ev.round (fun _=>by rw[laws_sameTrace.l0]) ?_
  refine Ev.pos (by omega) ?_
  refine Ev.pos (by omega) ?_
  refine Ev.pos (by omega) ?_
  refine Ev.bind (iStSame_ev (rd_T35 a (i:Int)) (rd_T35 b (i:Int)) (hf _ (getD_mem a i hi z35))) ?_
  refine Ev.neg (ne_true_of_eq_false hp) ?_
  exact Ev.now _
theorem playName_ok (c:Int)(h:c=0∨c=1∨c=2):∃ D:ByteArray,impl_PlayName.f c=some D∧¬D.toList=([]:List UInt8):=by
 unfold impl_PlayName.f
 rw[Option.bind_some,at_eq]
 have ne:∀ (a:UInt8) (b:List UInt8),¬(⟨(a :: b).toArray⟩:ByteArray).toList=([]:List UInt8):=by
  intro a b e
  rw[ByteArray.toList_eq] at e
  simp at e
 rcases h with h | h | h
 ·subst h;exact⟨_,rfl,ne _ _⟩
 ·subst h;exact⟨_,rfl,ne _ _⟩
 ·subst h;exact⟨_,rfl,ne _ _⟩
theorem entries_any (b:List Int)(i h:Int)(c:Cur b i):Any (fun k=>spec_l13Entries.f k b i h) (fun x=>x.1.length≤40∧Cur b x.2.1):=by
 unfold spec_l13Entries.f
 refine Any.bind (a10Draw b i h c) ?_
 intro x hx
 refine Any.bind (a12Draw b _ _ hx.2) ?_
 intro y hy
 obtain⟨⟨y1,y2,y3,y4⟩,y5,y6⟩:=hy
 obtain⟨_,v2,_⟩:=pVis_tr x.1 y.1 y.2.1 y.2.2.1 y.2.2.2.1
 refine Any.ev (sRec_ev x.1 y.1 y.2.1 y.2.2.1 y.2.2.2.1 (by omega) (by omega) y2 (by omega)) ?_
 dsimp only
 generalize (pVis x.1 y.1 y.2.1 y.2.2.1 y.2.2.2.1).1=E at v2 ⊢
 refine Any.ite (fun c1=>?_) (fun _=>Any.now ⟨v2,y4⟩)
 refine Any.opt (aBelow b _ _ _ (by omega) y4) ?_
 intro u hu
 refine Any.opt (aBelow b _ _ 8 (by omega) hu.2) ?_
 intro v hv
 refine Any.ite (fun _=>?_) (fun _=>Any.ite (fun _=>?_) (fun _=>Any.ite (fun _=>?_) (fun _=>Any.now ⟨v2,hv.2⟩)))
 ·refine Any.opt (aInt b _ _ _ (by simp) hv.2) ?_
  intro t ht
  exact Any.pos (by omega) (Any.pos (by omega) (Any.now ⟨by rw[List.length_set];omega,ht.2⟩))
 ·refine Any.opt (aInt b _ _ _ (by simp) hv.2) ?_
  intro t ht
  exact Any.pos (by omega) (Any.pos (by omega) (Any.now ⟨by rw[List.length_set];omega,ht.2⟩))
 ·refine Any.opt (a4Any b _ _ hv.2) ?_
  intro t ht
  exact Any.pos (by omega) (Any.pos (by omega) (Any.now ⟨by rw[List.length_set];omega,ht⟩))
theorem drawReplay_any (b:List Int)(hb:b.length≤1048576):Any (fun k=>spec_DrawReplay.f k b) (fun x=>x.1.length≤17∧x.2.length≤41):=by
 unfold spec_DrawReplay.f
 refine Any.bind (aNew b hb) ?_
 intro n hn
 rw[hn.1]
 refine Any.bind (a10Draw b _ _ hn.2) ?_
 intro x hx
 refine Any.bind (a12Draw b _ _ hx.2) ?_
 intro y hy
 obtain⟨⟨y1,y2,y3,y4⟩,y5,y6⟩:=hy
 obtain⟨_,v2,_⟩:=pVis_tr x.1 y.1 y.2.1 y.2.2.1 y.2.2.2.1
 refine Any.ev (sRec_ev x.1 y.1 y.2.1 y.2.2.1 y.2.2.2.1 (by omega) (by omega) y2 (by omega)) ?_
 dsimp only
 generalize (pVis x.1 y.1 y.2.1 y.2.2.1 y.2.2.2.1).1=E at v2 ⊢
 have hx1:=hx.1
 have e1:wrap64 ((E.length:Int) - 1)=(E.length:Int) - 1:=w64 (by omega) (by omega)
 refine Any.opt (aBelow b _ _ 7 (by omega) y4) ?_
 intro u hu
 simp only[e1]
 refine Any.ite (fun _=>Any.ite (fun _=>Any.pos (by omega) (Any.pos (by omega) (Any.now ⟨by show x.1.length≤17;omega,by show(E.take _).length≤41;rw[List.length_take];omega⟩))) (fun _=>Any.now ⟨by show x.1.length≤17;omega,by show E.length≤41;omega⟩)) (fun _=>?_)
 refine Any.ite (fun _=>Any.pos (by omega) (Any.now ⟨by show x.1.length≤17;omega,by show(E++_).length≤41;rw[List.length_append,List.length_singleton];omega⟩)) (fun _=>?_)
 refine Any.ite (fun _=>Any.ite (fun _=>?_) (fun _=>Any.now ⟨by show x.1.length≤17;omega,by show E.length≤41;omega⟩)) (fun _=>?_)
 ·refine Any.opt (aBelow b _ _ _ (by omega) hu.2) ?_
  intro p hp
  refine Any.opt (aBelow b _ _ 9 (by omega) hp.2) ?_
  intro q hq
  exact Any.pos (by omega) (Any.pos (by omega) (Any.now ⟨by show x.1.length≤17;omega,by show(E.set _ _).length≤41;rw[List.length_set];omega⟩))
 refine Any.ite (fun _=>?_) (fun _=>Any.ite (fun _=>?_) (fun _=>Any.now ⟨by show x.1.length≤17;omega,by show E.length≤41;omega⟩))
 ·refine Any.bind (entries_any b _ _ hu.2) ?_
  intro p hp
  exact Any.now ⟨by show x.1.length≤17;omega,by have:=hp.1;show p.1.length≤41;omega⟩
 ·refine Any.bind (a10Any b _ _ hu.2) ?_
  intro p hp
  exact Any.now ⟨hp.1,by show E.length≤41;omega⟩
theorem drawFaith_any (b:List Int)(hb:b.length≤1048576):Any (fun k=>spec_DrawIsFaithful.f k b) (fun x=>x.1.length≤17∧x.2.1.length≤8∧(∀ y∈x.2.1,FitimplVersion y)∧x.2.2.2.2.length≤9):=by
 unfold spec_DrawIsFaithful.f spec_DrawRecordVisit.f
 refine Any.bind (P:=fun x=>x.1.length≤17∧x.2.1.length≤8∧(∀ y∈x.2.1,FitimplVersion y)∧x.2.2.2.2.length≤9) ?_ (fun x hx=>Any.now hx)
 refine Any.bind (aNew b hb) ?_
 intro x hx
 rw[hx.1]
 refine Any.bind (a10Any b _ _ hx.2) ?_
 intro y hy
 refine Any.bind (a12Any b _ _ hy.2) ?_
 intro z hz
 exact Any.now ⟨hy.1,hz.1,hz.2.1,hz.2.2.1⟩
theorem rep_j2 (b:List Int)(hb:b.length≤1048576):Ev (fun k=>laws_FnReplays.j2 k b) true:=by
 refine Ev.round (fun _=>by rw[laws_FnReplays.j2]) ?_
 refine Any.then_ (drawReplay_any b hb) ?_
 intro x hx
 obtain⟨m,e⟩:=x
 obtain⟨h1,h2⟩:=hx
 dsimp only at h1 h2 ⊢
 have iR:=iReplay_ev m e (by omega) (by omega)
 have iT:=iTrace_ev m e (by omega) (by omega)
 obtain⟨q1,q2⟩:=pPlay_tr m e
 obtain⟨a1,a2,a3,t1,a4⟩:=pPlay_all m e
 generalize pPlay m e=R at iR iT q1 q2 a1 a2 a3 a4
 obtain⟨D,eD,nD⟩:=playName_ok R.1 a1
 have hlen:(R.2.2.2.2.2.2.length:Int)=(t1.length:Int)+1:=by rw[a4,List.length_append,List.length_singleton];omega
 have e1:wrap64 ((R.2.2.2.2.2.2.length:Int) - 1)=(t1.length:Int):=by rw[w64 (by omega) (by omega)];omega
 have er:rd_T35 R.2.2.2.2.2.2 (t1.length:Int)=lastOf R:=by
  show R.2.2.2.2.2.2.getD t1.length z35=_
  rw[a4,getD_last]
 have hr:Row3 (lastOf R):=q2 _ (by rw[a4];simp)
 have iS:=iStSame_ev (lastOf R) (lastOf R) hr
 rw[pEqSt_self] at iS
 refine Ev.bind iR ?_
 refine Ev.bind iT ?_
 refine Ev.now_bind eD ?_
 refine Ev.neg nD ?_
 simp only[e1,er]
 refine Ev.pos (by omega) ?_
 refine Ev.pos (by omega) ?_
 refine Ev.bind iS ?_
 refine Ev.pos rfl ?_
 have fin:Ev (fun _:Nat=>some (decide (R.2.1≤(e.length:Int)))) true:=Ev.cast (Ev.now _) (decide_eq_true a3)
 refine Ev.ite_to (fun c=>?_) (fun _=>fin)
 refine Ev.now_bind (show impl_IsDone.f m R.2.2.1 R.2.2.2.1 R.2.2.2.2.1 R.2.2.2.2.2.1=some true from congrArg some (decide_eq_true (a2 c))) ?_
 exact Ev.pos rfl fin
theorem rep_j1 (b:List Int)(hb:b.length≤1048576)(l:List S57)(hl:l.length≤1048576)(E:List S50)(hE:E.length≤16)(ho:∀ F:List S50,(∀ i,i < F.length→i < E.length→F.getD i z50=E.getD i z50)→E.length≠F.length→(pPlay l F).1≠0):Ev (fun k=>laws_FnReplays.j1 k b l E false) true:=by
 have h2:=rep_j2 b hb
 have longer:∀ x:S50,(pPlay l (E++[x])).1≠0:=by
  intro x
  refine ho _ (fun i _ h=>?_) (by rw[List.length_append,List.length_singleton];omega)
  rw[getD_app _ _ _ _ h]
 have iL:=fun x:S50=>iReplay_ev l (E++[x]) hl (by rw[List.length_append,List.length_singleton];omega)
 have tail:Ev (fun k=>if (E.length:Int) < 16 then((some (([]:List S50):List S50)).bind fun J=>(if J.length+E.length < 3518437208883 then((some (J++E:List S50)).bind fun U=>(if U.length < 3518437208883 then((impl_Replay.f k l (U++[(⟨2,(⟨0,0,0⟩),0⟩:S50)])).bind fun aa=>(if aa.1=0 then(some false) else(laws_FnReplays.j2 k b))) else(none))) else(none))) else(laws_FnReplays.j2 k b)) true:=by
  refine Ev.ite_to (fun _=>?_) (fun _=>h2)
  refine Ev.now_bind rfl ?_
  refine Ev.pos (by simp;omega) ?_
  refine Ev.now_bind rfl ?_
  simp only[List.nil_append]
  refine Ev.pos (by omega) ?_
  refine Ev.bind (iL _) ?_
  exact Ev.neg (longer _) h2
 refine Ev.round (fun _=>by rw[laws_FnReplays.j1]) ?_
 refine Ev.neg (by simp) ?_
 refine Ev.ite_to (fun c=>?_) (fun _=>tail)
 have e1:wrap64 ((E.length:Int) - 1)=((E.length - 1:Nat):Int):=by rw[w64 (by omega) (by omega)];omega
 have e2:(((E.length - 1:Nat):Int)).toNat=E.length - 1:=Int.toNat_natCast _
 have iS:=iReplay_ev l (E.take (E.length - 1)) hl (by rw[List.length_take];omega)
 have shorter:(pPlay l (E.take (E.length - 1))).1≠0:=by
  refine ho _ (fun i h _=>?_) (by rw[List.length_take];omega)
  rw[List.length_take] at h
  rw[List.getD_eq_getElem?_getD,List.getD_eq_getElem?_getD,List.getElem?_take_of_lt (by omega)]
 simp only[e1,e2]
 exact Ev.pos (by omega) (Ev.pos (by omega) (Ev.bind iS (Ev.neg shorter tail)))
theorem FnReplays (l0:List Int)(h0:(l0.length≤maxLen∧∀ e_∈l0,(Lit.int .u8 e_).wf=true)):∃ k,laws_FnReplays.f k l0=some true:=by
 refine Ev.rounds ?_
 unfold laws_FnReplays.f laws_big.f
 refine Ev.now_bind rfl ?_
 by_cases hb:(l0.length:Int) > 1048576
 ·exact Ev.pos (by simpa using hb) (Ev.now _)
 have hlen:l0.length≤1048576:=by omega
 refine Ev.neg (by simpa using hb) ?_
 refine Any.then_ (drawFaith_any l0 hlen) ?_
 intro x hx
 obtain⟨l,s,tk,sd,ins⟩:=x
 obtain⟨h1,h2,hf,h3⟩:=hx
 dsimp only at h1 h2 hf h3 ⊢
 have hs:s.length≤1048576:=by omega
 have no:Ev (fun k=>laws_FnReplays.j0 k l0 l false s tk sd ins) true:=by
  refine Ev.round (fun _=>by rw[laws_FnReplays.j0]) ?_
  exact Ev.neg (by simp) (rep_j2 l0 hlen)
 refine Ev.bind (iIsScript_ev l (by omega)) ?_
 by_cases cs:pScript l=true
 case neg=>exact Ev.neg cs no
 refine Ev.pos cs ?_
 refine Ev.bind (iIsVisit_ev s tk sd ins hs hf (by omega)) ?_
 by_cases cv:pVisit s tk sd ins=true
 case neg =>
  rw[Bool.eq_false_iff.2 cv]
  exact no
 rw[cv]
 obtain⟨⟨y1,y2⟩,y3,y4⟩:=pVis_tr l s tk sd ins
 obtain⟨v1,_,_⟩:=pVis_ok l s tk sd ins
 have iR:=iRec_ev l s tk sd ins (by omega) hs hf (by omega)
 have iV:=iTraceV_ev l s tk sd ins (by omega) hs hf (by omega)
 have iF:=iFaith_ev l s tk sd ins (by omega) hs hf (by omega)
 obtain⟨p1,p2⟩:=play_same l s tk sd ins cs cv
 have ho:=play_other l s tk sd ins cs cv
 unfold pFaith at iF
 generalize pVis l s tk sd ins=V at y1 y2 y3 y4 v1 iR iV iF p1 p2 ho
 obtain⟨E,T⟩:=V
 dsimp only at y1 y2 y3 y4 v1 iR iV iF p1 p2 ho
 have iP:=iReplay_ev l E (by omega) (by omega)
 have iT:=iTrace_ev l E (by omega) (by omega)
 obtain⟨_,_,_,t1,a4⟩:=pPlay_all l E
 rw[p2] at iT a4 iF
 rw[pSameTr_self,decide_eq_true p1] at iF
 have el:pLast T=lastOf (pPlay l E):=by
  unfold pLast
  have e5:(T.length:Int) - 1=(t1.length:Int):=by rw[a4,List.length_append,List.length_singleton];omega
  rw[e5]
  show T.getD t1.length z35=_
  rw[a4,getD_last]
 have hr:=pLast_row y2 y4
 have iE:=iStSame_ev (lastOf (pPlay l E)) (pLast T) (by rw[←el];exact hr)
 rw[el,pEqSt_self] at iE
 rw[el] at iR
 have iL:=lawSame_ev T T (by omega) y2
 rw[pSameTr_self] at iL
 refine Ev.round (fun _=>by rw[laws_FnReplays.j0]) ?_
 refine Ev.pos rfl ?_
 refine Ev.bind iR ?_
 refine Ev.bind iP ?_
 refine Ev.bind iF ?_
 refine Ev.pos rfl ?_
 refine Ev.pos p1 ?_
 refine Ev.bind iE ?_
 refine Ev.pos rfl ?_
 refine Ev.bind iT ?_
 refine Ev.bind iV ?_
 refine Ev.bind iL ?_
 exact rep_j1 l0 hlen l (by omega) E v1 ho
end Go.Proofs.YteemhimikamihaaGreat.Pure
