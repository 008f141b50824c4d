/- The program's CapturesOf and the reference's return the same captures; what is returned is new memory, and the arguments are as they were. No condition. -/
import Derived.Test.YtenpfphghheggaaMFnExactCapturesOfx90
import Derived.Test.YtenpfphghheggaaStdFnExactCapturesOf
namespace Go.Proofs.Ytenpfphghheggaa.Pure
open Go.RowKit Go.Proofs.Ytenpfphghheggaa.MFnExactCapturesOf Go.Proofs.YtenpfphghheggaaW.PrintWords Go.Proofs.YtenpfphghheggaaW.PrintLast Go.Proofs.YtenpfphghheggaaW.PrintMore Go.Proofs.Ytenpfphghheggaa.Gen
set_option linter.unusedVariables false
set_option linter.unusedSimpArgs false
def W65 (y:S65):Prop:=(Lit.int .i64 y.f0).wf=true∧(Lit.int .i64 y.f1).wf=true∧(Lit.int .i64 y.f2).wf=true∧(Lit.int .i64 y.f3).wf=true
def W74 (y:S74):Prop:=(Lit.int .i64 y.f0).wf=true∧(Lit.int .i64 y.f1).wf=true∧(Lit.int .i64 y.f2).wf=true
def W76 (y:S76):Prop:=(Lit.int .i64 y.f0).wf=true∧(y.f1.length≤maxLen∧∀ e_∈y.f1,(Lit.int .i64 e_).wf=true)∧W74 y.f2
def W78 (y:S78):Prop:=W74 y.f0∧(Lit.int .i64 y.f1).wf=true∧W76 y.f2
/-- A resource, as the printed functions hand it on. -/
abbrev Rsc:=Int×List Int×Int×Int×Int
def pHere (a p q t:Int)(y:S86):Bool:=(y.f0.f0 == a && (y.f0.f1 == p && (y.f0.f2 == q))) && decide (y.f1≤t)
def ansStep (a p q t:Int)(r:Rsc)(y:S86):Rsc:=if pHere a p q t y=true then(y.f2.f0,y.f2.f1,y.f2.f2.f0,y.f2.f2.f1,y.f2.f2.f2) else r
def pAnswer (l:List S86)(a p q t:Int):Rsc:=l.foldl (ansStep a p q t) (4,[],0,0,0)
theorem pAnswer_fit (l:List S86)(a p q t:Int)(hf:∀ y∈l,FitimplVersion y):(pAnswer l a p q t).2.1.length≤1048576:=by
  have key:∀ (l:List S86) (r:Rsc),(∀ y∈l,FitimplVersion y)→r.2.1.length≤1048576→(l.foldl (ansStep a p q t) r).2.1.length≤1048576:=by
    intro l
    induction l with
    | nil=>intro r _ h;exact h
    | cons y l ih =>
      intro r hf h
      rw[List.foldl_cons]
      refine ih _ (fun z hz=>hf z (List.mem_cons_of_mem _ hz)) ?_
      unfold ansStep
      split
      · exact hf y (by simp)
      · exact h
  exact key l _ hf (by simp)
theorem ev_any {α:Type}(F:Nat→Int→Option Bool)(l:List α)(d:α)(p:α→Bool)
    (hend:∀ k,F (k+1) (l.length:Int)=some false)
    (hyes:∀ i:Nat,i < l.length→p (l.getD i d)=true→Ev (fun k=>F k (i:Int)) true)
    (hno:∀ i:Nat,i < l.length→p (l.getD i d)=false→∀ r,Ev (fun k=>F k ((i+1:Nat):Int)) r→Ev (fun k=>F k (i:Int)) r) :
    Ev (fun k=>F k 0) (l.any p):=by
  have h:=ev_down (fun k i=>F k (i:Int)) l.length (fun i=>(l.drop i).any p) (Ev.round hend (Ev.const fun _=>by simp))
    (fun i hi h=>by
      rw[drop_cons l i hi d,List.any_cons]
      cases hp:p (l.getD i d) with
      | true=>simpa using hyes i hi hp
      | false=>simpa using hno i hi hp _ h)
  simpa using h
abbrev Trail:=Int×List Int×Int×Int×Int×List S52
def pHasA (c:List S52)(a p q:Int):Bool:=c.any fun y=>y.f0 == a && (y.f1 == p && (y.f2 == q))
def pTrail (l:List S86)(t:Int):Nat→List S52→Rsc→Trail
  | 0,c,r=>(r.1,r.2.1,r.2.2.1,r.2.2.2.1,r.2.2.2.2,c)
  | n+1,c,r=>if r.1=3∧pHasA c r.2.2.1 r.2.2.2.1 r.2.2.2.2=false then pTrail l t n (c++[⟨r.2.2.1,r.2.2.2.1,r.2.2.2.2⟩]) (pAnswer l r.2.2.1 r.2.2.2.1 r.2.2.2.2 t) else(r.1,r.2.1,r.2.2.1,r.2.2.2.1,r.2.2.2.2,c)
def pFollow (l:List S86)(a p q t:Int):Trail:=pTrail l t 4 [⟨a,p,q⟩] (pAnswer l a p q t)
theorem pTrail_fit (l:List S86)(t:Int)(hf:∀ y∈l,FitimplVersion y):∀ (n:Nat) (c:List S52) (r:Rsc),r.2.1.length≤1048576→(pTrail l t n c r).2.1.length≤1048576∧(pTrail l t n c r).2.2.2.2.2.length≤c.length+n:=by
  intro n
  induction n with
  | zero=>intro c r h;exact⟨h,Nat.le_refl _⟩
  | succ n ih =>
    intro c r h
    unfold pTrail
    split
    · have:=ih (c++[⟨r.2.2.1,r.2.2.2.1,r.2.2.2.2⟩]) _ (pAnswer_fit l r.2.2.1 r.2.2.2.1 r.2.2.2.2 t hf)
      refine⟨this.1,?_⟩
      have h2:=this.2
      rw[List.length_append,List.length_singleton] at h2
      omega
    · exact⟨h,Nat.le_add_right _ _⟩
theorem pFollow_fit (l:List S86)(a p q t:Int)(hf:∀ y∈l,FitimplVersion y):(pFollow l a p q t).2.1.length≤1048576:=(pTrail_fit l t hf 4 _ _ (pAnswer_fit l a p q t hf)).1
def pOp (y:S63):Bool :=
  pIn y.f1 0 3 && (
    if y.f0=1 then pIn y.f2 1 9 && pIn y.f3 0 99
    else if y.f0=2∨y.f0=3∨y.f0=4 then decide (y.f2=0) && (y.f3 == 0)
    else if y.f0=5 then pIn y.f2 0 3 && pIn y.f3 0 3
    else if y.f0=6 then pIn y.f2 0 3 && (y.f3 == 0)
    else if y.f0=7 then pIn y.f2 1 3 && (y.f3 == 0)
    else if y.f0=8 then pIn y.f2 0 2 && (y.f3 == 0)
    else if y.f0=9 then pIn y.f2 0 2 && (y.f3 == 0)
    else false)
def pScript (l:List S63):Bool:=l.all pOp && decide ((l.length:Int)≤16)
theorem not_any {α:Type}(l:List α)(p:α→Bool):(!(l.any fun y=>!p y))=l.all p:=by
  rw[List.all_eq_not_any_not]
def pState (a:Int)(r s n:List Int):Bool :=
  pIn a 0 19 && ((r.all (pIn · 0 999) && ((r.length:Int) == 4)) && ((s.all (pIn · 0 999) && ((s.length:Int) == 3)) && (n.all (pIn · 0 999) && ((n.length:Int) == 4))))
def pCan (l:List S63)(a:Int)(r s n:List Int):Bool:=pScript l && (pState a r s n && decide (a < (l.length:Int)))
theorem pCan_facts {l:List S63}{a:Int}{r s n:List Int}(h:pCan l a r s n=true):0≤a∧a < (l.length:Int)∧r.length=4∧s.length=3∧n.length=4∧(∀ y∈r,0≤y∧y≤999)∧(∀ y∈s,0≤y∧y≤999)∧(∀ y∈n,0≤y∧y≤999)∧(∀ y∈l,pOp y=true)∧a≤19∧l.length≤16:=by
  unfold pCan pScript pState at h
  simp only[pIn,Bool.and_eq_true,decide_eq_true_eq,List.all_eq_true,beq_iff_eq] at h
  obtain⟨⟨h1,h2⟩,⟨⟨h3,h3'⟩,⟨h4,h5⟩,⟨h6,h7⟩,h8,h9⟩,h10⟩:=h
  exact⟨h3,h10,by omega,by omega,by omega,h4,h6,h8,h1,h3',by omega⟩
theorem pOp_reg {y:S63}(h:pOp y=true):0≤y.f1∧y.f1≤3:=by
  unfold pOp at h
  simp only[pIn,Bool.and_eq_true,decide_eq_true_eq] at h
  exact h.1
def pClamp (v:Int):Int:=mx 0 (mn 999 v)
theorem pClamp_in (v:Int):0≤pClamp v∧pClamp v≤999:=by
  unfold pClamp mx mn
  constructor <;> (split <;> split <;> omega)
theorem pClamp_impl (v:Int):mn (mx v 0) 999=pClamp v:=by
  unfold pClamp mx mn
  split <;> split <;> split <;> (try split) <;> omega
def pStep (l:List S63)(a:Int)(r s n:List Int)(v:Int):Int×List Int×List Int×List Int :=
  if pCan l a r s n=true then(
    if (rd_T63 l a).f0=5 then(wrap64 (a+1),r.set (rd_T63 l a).f1.toNat (Int.tmod (wrap64 (rd r (rd_T63 l a).f2+rd r (rd_T63 l a).f3)) 1000),s,n)
    else if (rd_T63 l a).f0=6 then(wrap64 (a+1),r,s,n.set (rd_T63 l a).f2.toNat (rd r (rd_T63 l a).f1))
    else if (rd_T63 l a).f0=7 then(if Int.tmod (rd r (rd_T63 l a).f1) 2=0 then(wrap64 (wrap64 (a+1)+(rd_T63 l a).f2),r,s,n) else(wrap64 (a+1),r,s,n))
    else if (rd_T63 l a).f0=8 then(wrap64 (a+1),r.set (rd_T63 l a).f1.toNat (rd s (rd_T63 l a).f2),s,n)
    else if (rd_T63 l a).f0=9 then(wrap64 (a+1),r,s.set (rd_T63 l a).f2.toNat (rd r (rd_T63 l a).f1),n)
    else(wrap64 (a+1),r.set (rd_T63 l a).f1.toNat (pClamp v),s,n)) else(a,r,s,n)
theorem pStep_len (l:List S63)(a:Int)(r s n:List Int)(v:Int):(pStep l a r s n v).2.1.length=r.length∧(pStep l a r s n v).2.2.1.length=s.length∧(pStep l a r s n v).2.2.2.length=n.length:=by
  unfold pStep
  repeat' split
  all_goals simp only[List.length_set,and_self]
theorem pOp_5 {y:S63}(h:pOp y=true)(c:y.f0=5):0≤y.f2∧y.f2≤3∧0≤y.f3∧y.f3≤3:=by
  unfold pOp at h
  rw[if_neg (by omega),if_neg (by omega),if_pos c] at h
  simp only[pIn,Bool.and_eq_true,decide_eq_true_eq] at h
  omega
theorem pOp_6 {y:S63}(h:pOp y=true)(c:y.f0=6):0≤y.f2∧y.f2≤3:=by
  unfold pOp at h
  rw[if_neg (by omega),if_neg (by omega),if_neg (by omega),if_pos c] at h
  simp only[pIn,Bool.and_eq_true,decide_eq_true_eq] at h
  omega
theorem pOp_7 {y:S63}(h:pOp y=true)(c:y.f0=7):1≤y.f2∧y.f2≤3:=by
  unfold pOp at h
  rw[if_neg (by omega),if_neg (by omega),if_neg (by omega),if_neg (by omega),if_pos c] at h
  simp only[pIn,Bool.and_eq_true,decide_eq_true_eq] at h
  omega
theorem pOp_8 {y:S63}(h:pOp y=true)(c:y.f0=8):0≤y.f2∧y.f2≤2:=by
  unfold pOp at h
  rw[if_neg (by omega),if_neg (by omega),if_neg (by omega),if_neg (by omega),if_neg (by omega),if_pos c] at h
  simp only[pIn,Bool.and_eq_true,decide_eq_true_eq] at h
  omega
theorem pOp_9 {y:S63}(h:pOp y=true)(c:y.f0=9):0≤y.f2∧y.f2≤2:=by
  unfold pOp at h
  rw[if_neg (by omega),if_neg (by omega),if_neg (by omega),if_neg (by omega),if_neg (by omega),if_neg (by omega),if_pos c] at h
  simp only[pIn,Bool.and_eq_true,decide_eq_true_eq] at h
  omega
def pAsks (k:Int):Bool:=decide (1≤k) && decide (k≤4)
def pWant (l:List S63)(a:Int)(r s n:List Int):Int×Int×Int×Int :=
  if pCan l a r s n=true∧pAsks (rd_T63 l a).f0=true then(if (rd_T63 l a).f0=1 then((rd_T63 l a).f0,(rd_T63 l a).f2,(rd_T63 l a).f3,Int.tmod (rd r (rd_T63 l a).f1) 100) else((rd_T63 l a).f0,0,0,0)) else(0,0,0,0)
/-- A cursor that stands in its bytes or behind them. -/
def Cur (b:List Int)(i:Int):Prop:=b.length≤1048576∧0≤i∧i≤(b.length:Int)
theorem and255 (v:Int):0≤Go.bits .and .i64 v 255∧Go.bits .and .i64 v 255≤255:=by
  have hle:(BitVec.ofInt IntKind.i64.bits v &&& BitVec.ofInt IntKind.i64.bits 255).toNat≤255:=by
    rw[BitVec.toNat_and]
    exact Nat.le_trans Nat.and_le_right (by decide)
  have e:Go.bits .and .i64 v 255=(((BitVec.ofInt IntKind.i64.bits v &&& BitVec.ofInt IntKind.i64.bits 255).toNat:Nat):Int):=by
    simp only[Go.bits]
    rw[IntKind.wrap_i64]
    omega
  rw[e]
  omega
/-- From some number of rounds on g answers something of which Q is true. -/
def Any {α:Type}(g:Nat→Option α)(Q:α→Prop):Prop:=∃ r,Ev g r∧Q r
theorem Any.of {α:Type}{g:Nat→Option α}{Q:α→Prop}{r:α}(h:Ev g r)(q:Q r):Any g Q:=⟨r,h,q⟩
theorem Any.now {α:Type}{Q:α→Prop}{r:α}(q:Q r):Any (fun _=>some r) Q:=⟨r,Ev.now r,q⟩
theorem Any.mono {α:Type}{g:Nat→Option α}{P Q:α→Prop}(h:Any g P)(m:∀ r,P r→Q r):Any g Q:=by
  obtain⟨r,e,q⟩:=h
  exact⟨r,e,m r q⟩
theorem Any.bind {α β:Type}{f:Nat→Option β}{g:Nat→β→Option α}{P:β→Prop}{Q:α→Prop}(h:Any f P)(k:∀ x,P x→Any (fun n=>g n x) Q):Any (fun n=>(f n).bind (g n)) Q:=by
  obtain⟨x,e,p⟩:=h
  obtain⟨r,e2,q⟩:=k x p
  exact⟨r,Ev.bind e e2,q⟩
theorem Any.ev {α β:Type}{f:Nat→Option β}{g:Nat→β→Option α}{v:β}{Q:α→Prop}(h:Ev f v)(k:Any (fun n=>g n v) Q):Any (fun n=>(f n).bind (g n)) Q:=by
  obtain⟨r,e2,q⟩:=k
  exact⟨r,Ev.bind h e2,q⟩
theorem Any.opt {α β:Type}{o:Option β}{g:Nat→β→Option α}{P:β→Prop}{Q:α→Prop}(h:∃ x,o=some x∧P x)(k:∀ x,P x→Any (fun n=>g n x) Q):Any (fun n=>o.bind (g n)) Q:=by
  obtain⟨x,e,p⟩:=h
  obtain⟨r,e2,q⟩:=k x p
  exact⟨r,Ev.now_bind e e2,q⟩
theorem Any.ite {α:Type}{c:Prop} [Decidable c] {A B:Nat→Option α}{Q:α→Prop}(k:c→Any A Q)(l:¬c→Any B Q):Any (fun n=>if c then A n else B n) Q:=by
  by_cases h:c
  · obtain⟨r,e,q⟩:=k h
    exact⟨r,Ev.pos h e,q⟩
  · obtain⟨r,e,q⟩:=l h
    exact⟨r,Ev.neg h e,q⟩
theorem Any.pos {α:Type}{c:Prop} [Decidable c] {A B:Nat→Option α}{Q:α→Prop}(h:c)(k:Any A Q):Any (fun n=>if c then A n else B n) Q:=by
  obtain⟨r,e,q⟩:=k
  exact⟨r,Ev.pos h e,q⟩
theorem Any.neg {α:Type}{c:Prop} [Decidable c] {A B:Nat→Option α}{Q:α→Prop}(h:¬c)(k:Any B Q):Any (fun n=>if c then A n else B n) Q:=by
  obtain⟨r,e,q⟩:=k
  exact⟨r,Ev.neg h e,q⟩
theorem Any.round {α:Type}{g f:Nat→Option α}{Q:α→Prop}(h:∀ k,g (k+1)=f k)(k:Any f Q):Any g Q:=by
  obtain⟨r,e,q⟩:=k
  exact⟨r,Ev.round h e,q⟩
theorem Any.to {α:Type}{g:Nat→Option α}{v:α}(h:Any g (fun r=>r=v)):Ev g v:=by
  obtain⟨r,e,rfl⟩:=h
  exact e
theorem Any.then_ {α β:Type}{f:Nat→Option β}{g:Nat→β→Option α}{P:β→Prop}{v:α}(h:Any f P)(k:∀ x,P x→Ev (fun n=>g n x) v):Ev (fun n=>(f n).bind (g n)) v:=by
  obtain⟨x,e,p⟩:=h
  exact Ev.bind e (k x p)
theorem pOp_kind {y:S63}(h:pOp y=true):1≤y.f0∧y.f0≤9:=by
  unfold pOp at h
  simp only[Bool.and_eq_true] at h
  have h2:=h.2
  by_cases h1:y.f0=1
  · omega
  rw[if_neg h1] at h2
  by_cases h2':y.f0=2∨y.f0=3∨y.f0=4
  · omega
  rw[if_neg h2'] at h2
  by_cases h5:y.f0=5
  · omega
  rw[if_neg h5] at h2
  by_cases h6:y.f0=6
  · omega
  rw[if_neg h6] at h2
  by_cases h7:y.f0=7
  · omega
  rw[if_neg h7] at h2
  by_cases h8:y.f0=8
  · omega
  rw[if_neg h8] at h2
  by_cases h9:y.f0=9
  · omega
  rw[if_neg h9] at h2
  simp at h2
theorem rd_in {l:List Int}(h:∀ y∈l,0≤y∧y≤999)(i:Int):0≤rd l i∧rd l i≤999:=by
  unfold rd
  rw[List.getD_eq_getElem?_getD]
  cases e:l[i.toNat]? with
  | none=>simp
  | some y=>exact h y (List.mem_of_getElem? e)
theorem Ev.ite_to {α:Type}{c:Prop} [Decidable c] {A B:Nat→Option α}{r:α}(k:c→Ev A r)(l:¬c→Ev B r):Ev (fun n=>if c then A n else B n) r:=by
  by_cases h:c
  · exact Ev.pos h (k h)
  · exact Ev.neg h (l h)
theorem set_in {l:List Int}(h:∀ y∈l,0≤y∧y≤999)(i:Nat){x:Int}(hx:0≤x∧x≤999):∀ y∈l.set i x,0≤y∧y≤999:=by
  intro y hy
  rcases List.mem_or_eq_of_mem_set hy with h1 | h1
  · exact h y h1
  · omega
theorem tmod_in (m:Int)(h:0≤m):0≤Int.tmod m 1000∧Int.tmod m 1000≤999:=by
  rw[Int.tmod_eq_emod_of_nonneg h]
  omega
theorem pState_mk {a:Int}{r s n:List Int}(ha:0≤a∧a≤19)(h1:r.length=4)(h2:s.length=3)(h3:n.length=4)(k1:∀ y∈r,0≤y∧y≤999)(k2:∀ y∈s,0≤y∧y≤999)(k3:∀ y∈n,0≤y∧y≤999):pState a r s n=true:=by
  unfold pState
  simp only[pIn,Bool.and_eq_true,decide_eq_true_eq,List.all_eq_true,beq_iff_eq]
  exact⟨ha,⟨k1,by omega⟩,⟨k2,by omega⟩,k3,by omega⟩
theorem pStep_ok (l:List S63)(a:Int)(r s n:List Int)(v:Int)(hc:pCan l a r s n=true):pState (pStep l a r s n v).1 (pStep l a r s n v).2.1 (pStep l a r s n v).2.2.1 (pStep l a r s n v).2.2.2=true∧a < (pStep l a r s n v).1∧(pStep l a r s n v).1≤a+4:=by
  obtain⟨f1,f2,f3,f4,f5,f6,f7,f8,f9,f10,f11⟩:=pCan_facts hc
  have ho:pOp (rd_T63 l a)=true:=f9 _ (getD_mem l a.toNat (by omega) z63)
  have ew:wrap64 (a+1)=a+1:=w64 (by omega) (by omega)
  unfold pStep
  rw[if_pos hc]
  generalize rd_T63 l a=y at ho
  by_cases c5:y.f0=5
  · rw[if_pos c5,ew]
    have g1:=rd_in f6 y.f2
    have g2:=rd_in f6 y.f3
    refine⟨pState_mk (by dsimp only;omega) (by simpa using f3) f4 f5 (set_in f6 _ (tmod_in _ ?_)) f7 f8,by dsimp only;omega,by dsimp only;omega⟩
    rw[w64 (by omega) (by omega)]
    omega
  rw[if_neg c5]
  by_cases c6:y.f0=6
  · rw[if_pos c6,ew]
    exact⟨pState_mk (by dsimp only;omega) f3 f4 (by simpa using f5) f6 f7 (set_in f8 _ (rd_in f6 _)),by dsimp only;omega,by dsimp only;omega⟩
  rw[if_neg c6]
  by_cases c7:y.f0=7
  · have g:=pOp_7 ho c7
    rw[if_pos c7,ew]
    by_cases c:Int.tmod (rd r y.f1) 2=0
    · rw[if_pos c,w64 (by omega) (by omega)]
      exact⟨pState_mk (by dsimp only;omega) f3 f4 f5 f6 f7 f8,by dsimp only;omega,by dsimp only;omega⟩
    · rw[if_neg c]
      exact⟨pState_mk (by dsimp only;omega) f3 f4 f5 f6 f7 f8,by dsimp only;omega,by dsimp only;omega⟩
  rw[if_neg c7]
  by_cases c8:y.f0=8
  · rw[if_pos c8,ew]
    exact⟨pState_mk (by dsimp only;omega) (by simpa using f3) f4 f5 (set_in f6 _ (rd_in f7 _)) f7 f8,by dsimp only;omega,by dsimp only;omega⟩
  rw[if_neg c8]
  by_cases c9:y.f0=9
  · rw[if_pos c9,ew]
    exact⟨pState_mk (by dsimp only;omega) f3 (by simpa using f4) f5 f6 (set_in f7 _ (rd_in f6 _)) f8,by dsimp only;omega,by dsimp only;omega⟩
  rw[if_neg c9,ew]
  exact⟨pState_mk (by dsimp only;omega) (by simpa using f3) f4 f5 (set_in f6 _ (pClamp_in v)) f7 f8,by dsimp only;omega,by dsimp only;omega⟩
theorem pWant_ok (l:List S63)(a:Int)(r s n:List Int)(hc:pCan l a r s n=true)(h:0 < (pWant l a r s n).1):pAsks (pWant l a r s n).1=true∧((pWant l a r s n).1=1→pAddr (pWant l a r s n).2.1 (pWant l a r s n).2.2.1 (pWant l a r s n).2.2.2=true):=by
  obtain⟨f1,f2,f3,f4,f5,f6,f7,f8,f9,f10,f11⟩:=pCan_facts hc
  have ho:pOp (rd_T63 l a)=true:=f9 _ (getD_mem l a.toNat (by omega) z63)
  unfold pWant at h ⊢
  generalize rd_T63 l a=y at ho h ⊢
  by_cases c:pCan l a r s n=true∧pAsks y.f0=true
  · rw[if_pos c] at h ⊢
    by_cases c1:y.f0=1
    · rw[if_pos c1] at h ⊢
      refine⟨c.2,fun _=>?_⟩
      have g:=rd_in f6 y.f1
      have hg:0≤Int.tmod (rd r y.f1) 100∧Int.tmod (rd r y.f1) 100≤99:=by
        rw[Int.tmod_eq_emod_of_nonneg g.1]
        omega
      unfold pOp at ho
      rw[if_pos c1] at ho
      unfold pAddr
      simp only[pIn,Bool.and_eq_true,decide_eq_true_eq] at ho ⊢
      exact⟨ho.2.1,ho.2.2,hg⟩
    · rw[if_neg c1] at h ⊢
      exact⟨c.2,fun e=>absurd e c1⟩
  · rw[if_neg c] at h
    exact absurd h (by simp)
theorem pStep_one (l:List S63)(a:Int)(r s n:List Int)(v u:Int)(h:(pWant l a r s n).1=0):pStep l a r s n v=pStep l a r s n u:=by
  by_cases hc:pCan l a r s n=true
  · obtain⟨f1,f2,f3,f4,f5,f6,f7,f8,f9,f10,f11⟩:=pCan_facts hc
    have ho:pOp (rd_T63 l a)=true:=f9 _ (getD_mem l a.toNat (by omega) z63)
    unfold pWant at h
    unfold pStep
    rw[if_pos hc,if_pos hc]
    generalize rd_T63 l a=y at ho h ⊢
    have hk:¬(1≤y.f0∧y.f0≤4):=by
      intro hk
      have e:pAsks y.f0=true:=by unfold pAsks;simp;omega
      rw[if_pos ⟨hc,e⟩] at h
      split at h
      · dsimp only at h;omega
      · dsimp only at h;omega
    have hkind:1≤y.f0∧y.f0≤9:=pOp_kind ho
    repeat' split
    all_goals first|rfl | omega
  · unfold pStep
    rw[if_neg hc,if_neg hc]
def z0:Int×List Int×List Int×List Int:=(0,[0,0,0,0],[0,0,0],[0,0,0,0])
theorem pWant_nn (l:List S63)(a:Int)(r s n:List Int)(hc:pCan l a r s n=true):0≤(pWant l a r s n).1:=by
  unfold pWant
  split
  · rename_i c
    have:=c.2
    unfold pAsks at this
    simp only[Bool.and_eq_true,decide_eq_true_eq] at this
    split <;> (dsimp only;omega)
  · simp
theorem pScript_len {l:List S63}(h:pScript l=true):l.length≤16:=by
  unfold pScript at h
  simp only[Bool.and_eq_true,decide_eq_true_eq] at h
  omega
def StOk (z:Int×List Int×List Int×List Int):Prop:=pState z.1 z.2.1 z.2.2.1 z.2.2.2=true
theorem z0_ok:StOk z0:=by unfold StOk;decide
theorem can_of {l:List S63}(hs:pScript l=true){z:Int×List Int×List Int×List Int}(hz:StOk z)(h:¬(l.length:Int)≤z.1):pCan l z.1 z.2.1 z.2.2.1 z.2.2.2=true:=by
  unfold pCan
  unfold StOk at hz
  rw[hs,hz]
  simp only[Bool.true_and,decide_eq_true_eq]
  omega
theorem StOk_len {z:Int×List Int×List Int×List Int}(h:StOk z):z.2.1.length=4∧z.2.2.1.length=3∧z.2.2.2.length=4:=by
  unfold StOk pState at h
  simp only[Bool.and_eq_true,beq_iff_eq] at h
  omega
def pRes (k:Int)(b:List Int)(h p q:Int):Bool :=
  if k=1∨k=2 then decide ((b.length:Int)≤6) && (b.all (pIn · 0 255) && pZero h p q)
  else if k=3 then decide ((b.length:Int)=0) && pAddr h p q
  else if k=4 then decide ((b.length:Int)=0) && pZero h p q
  else false
def pVersion (y:S86):Bool:=pAddr y.f0.f0 y.f0.f1 y.f0.f2 && (pIn y.f1 0 1000 && pRes y.f2.f0 y.f2.f1 y.f2.f2.f0 y.f2.f2.f1 y.f2.f2.f2)
def pIsSite (l:List S86):Bool:=l.all pVersion && decide ((l.length:Int)≤12)
def pVisit (s:List S86)(t sd:Int)(i:List Int):Bool:=pIsSite s && (pIn t 0 1000 && (pIn sd 0 9999 && (decide ((i.length:Int)≤8) && i.all (pIn · 0 999))))
def pMod (a b:Int):Int:=if 1≤b∧b≤1000000000000 then Int.tmod (wrap64 ((Int.tmod a b)+b)) b else 0
def hashStep (d y:Int):Int:=Int.tmod (wrap64 ((wrap64 ((wrap64 (d * 1000003))+pMod y 2147483647))+13)) 2147483647
def pHash (l:List Int):Int:=l.foldl hashStep 11
def pSum (b:List Int):Int:=b.foldl (fun x y=>x+y) 0
def pVal (k:Int)(b:List Int)(h p q:Int):Int :=
  if pRes k b h p q=true∧(k=1∨k=2) then(if pSum b % 1000 < 999 then pSum b % 1000+1 else 999) else 0
theorem fold_mod (b:List Int):∀ x:Int,b.foldl (fun x y=>(x+y) % 1000) (x % 1000)=(b.foldl (fun x y=>x+y) x) % 1000:=by
  induction b with
  | nil=>intro x;rfl
  | cons y b ih =>
    intro x
    rw[List.foldl_cons,List.foldl_cons,←ih (x+y)]
    congr 1
    omega
theorem pRes_body {k:Int}{b:List Int}{h p q:Int}(hr:pRes k b h p q=true)(hk:k=1∨k=2):b.length≤6∧∀ y∈b,0≤y∧y≤255:=by
  unfold pRes at hr
  rw[if_pos hk] at hr
  simp only[Bool.and_eq_true,decide_eq_true_eq,List.all_eq_true] at hr
  exact⟨by omega,fun y hy=>hr.2.1 y hy⟩
def pLive (s:List S86)(tk sd:Int)(ins:List Int)(w0 w1 w2 w3 n:Int):Int :=
  if pVisit s tk sd ins=true∧pIn n 0 100=true then
    if w0=1 then pVal (pFollow s w1 w2 w3 (wrap64 (tk+n))).1 (pFollow s w1 w2 w3 (wrap64 (tk+n))).2.1 (pFollow s w1 w2 w3 (wrap64 (tk+n))).2.2.1 (pFollow s w1 w2 w3 (wrap64 (tk+n))).2.2.2.1 (pFollow s w1 w2 w3 (wrap64 (tk+n))).2.2.2.2.1
    else if w0=2 then mn 999 (wrap64 (tk+n))
    else if w0=3 then pMod (pHash [sd,n]) 1000
    else if w0=4 then(if (ins.length:Int) > 0 then rd ins (Int.tmod n (ins.length:Int)) else 0)
    else 0
  else 0
/-- A visit, with at most so many rounds. -/
def pSeen (l:List S63)(s:List S86)(tk sd:Int)(ins:List Int):Nat→List S54→List S48→(Int×List Int×List Int×List Int)→List S54×List S48
  | 0,es,tr,_=>(es,tr)
  | m+1,es,tr,z =>
    if (l.length:Int)≤z.1 then(es,tr)
    else if (pWant l z.1 z.2.1 z.2.2.1 z.2.2.2).1=0 then
      pSeen l s tk sd ins m es (tr++[⟨(pStep l z.1 z.2.1 z.2.2.1 z.2.2.2 0).1,(pStep l z.1 z.2.1 z.2.2.1 z.2.2.2 0).2.1,(pStep l z.1 z.2.1 z.2.2.1 z.2.2.2 0).2.2.1,(pStep l z.1 z.2.1 z.2.2.1 z.2.2.2 0).2.2.2⟩]) (pStep l z.1 z.2.1 z.2.2.1 z.2.2.2 0)
    else pSeen l s tk sd ins m (es++[⟨(pWant l z.1 z.2.1 z.2.2.1 z.2.2.2).1,⟨(pWant l z.1 z.2.1 z.2.2.1 z.2.2.2).2.1,(pWant l z.1 z.2.1 z.2.2.1 z.2.2.2).2.2.1,(pWant l z.1 z.2.1 z.2.2.1 z.2.2.2).2.2.2⟩,pAns l s tk sd ins es z⟩]) (tr++[⟨(pStep l z.1 z.2.1 z.2.2.1 z.2.2.2 (pAns l s tk sd ins es z)).1,(pStep l z.1 z.2.1 z.2.2.1 z.2.2.2 (pAns l s tk sd ins es z)).2.1,(pStep l z.1 z.2.1 z.2.2.1 z.2.2.2 (pAns l s tk sd ins es z)).2.2.1,(pStep l z.1 z.2.1 z.2.2.1 z.2.2.2 (pAns l s tk sd ins es z)).2.2.2⟩]) (pStep l z.1 z.2.1 z.2.2.1 z.2.2.2 (pAns l s tk sd ins es z))
where pAns (l:List S63) (s:List S86) (tk sd:Int) (ins:List Int) (es:List S54) (z:Int×List Int×List Int×List Int):Int:=pLive s tk sd ins (pWant l z.1 z.2.1 z.2.2.1 z.2.2.2).1 (pWant l z.1 z.2.1 z.2.2.1 z.2.2.2).2.1 (pWant l z.1 z.2.1 z.2.2.1 z.2.2.2).2.2.1 (pWant l z.1 z.2.1 z.2.2.1 z.2.2.2).2.2.2 (es.length:Int)
def pVis (l:List S63)(s:List S86)(tk sd:Int)(ins:List Int):List S54×List S48 :=
  if pScript l=true∧pVisit s tk sd ins=true then pSeen l s tk sd ins 40 [] [⟨0,[0,0,0,0],[0,0,0],[0,0,0,0]⟩] z0 else([],[⟨0,[0,0,0,0],[0,0,0],[0,0,0,0]⟩])
def Row3 (y:S48):Prop:=y.f1.length=4∧y.f2.length=3∧y.f3.length=4
theorem StOk_row {z:Int×List Int×List Int×List Int}(h:StOk z):Row3 ⟨z.1,z.2.1,z.2.2.1,z.2.2.2⟩:=StOk_len h
theorem tr_add {c:Nat}{tr:List S48}(ht:tr.length≤c∧∀ y∈tr,Row3 y){z:Int×List Int×List Int×List Int}(h:StOk z):(tr++[(⟨z.1,z.2.1,z.2.2.1,z.2.2.2⟩:S48)]).length≤c+1∧∀ y∈tr++[(⟨z.1,z.2.1,z.2.2.1,z.2.2.2⟩:S48)],Row3 y:=by
  refine⟨by rw[List.length_append,List.length_singleton];omega,fun y hy=>?_⟩
  rcases List.mem_append.1 hy with hy | hy
  · exact ht.2 y hy
  · rw[List.mem_singleton.1 hy]
    exact StOk_row h
theorem pSeen_tr (l:List S63)(s:List S86)(tk sd:Int)(ins:List Int)(hs:pScript l=true):∀ (m c d:Nat) (es:List S54) (tr:List S48) (z:Int×List Int×List Int×List Int),StOk z→es.length≤d→1≤tr.length→(tr.length≤c∧∀ y∈tr,Row3 y) →
    ((pSeen l s tk sd ins m es tr z).2.length≤c+m∧∀ y∈(pSeen l s tk sd ins m es tr z).2,Row3 y)∧(pSeen l s tk sd ins m es tr z).1.length≤d+m∧1≤(pSeen l s tk sd ins m es tr z).2.length:=by
  intro m
  induction m with
  | zero=>intro c d es tr z hz hd h1 ht;exact⟨ht,hd,h1⟩
  | succ m ih =>
    intro c d es tr z hz hd h1 ht
    rw[pSeen]
    by_cases c1:(l.length:Int)≤z.1
    · rw[if_pos c1]
      dsimp only
      exact⟨⟨by omega,ht.2⟩,by omega,h1⟩
    rw[if_neg c1]
    have hc:=can_of hs hz c1
    have e:c+1+m=c+(m+1):=by omega
    have e2:d+1+m=d+(m+1):=by omega
    split
    · have hk:=(pStep_ok l z.1 z.2.1 z.2.2.1 z.2.2.2 0 hc).1
      have r:=ih (c+1) d es _ _ hk hd (by rw[List.length_append,List.length_singleton];omega) (tr_add ht hk)
      rw[e] at r
      exact⟨r.1,by omega,r.2.2⟩
    · have hk:=(pStep_ok l z.1 z.2.1 z.2.2.1 z.2.2.2 (pSeen.pAns l s tk sd ins es z) hc).1
      have r:=fun x:S54=>ih (c+1) (d+1) (es++[x]) _ _ hk (by rw[List.length_append,List.length_singleton];omega) (by rw[List.length_append,List.length_singleton];omega) (tr_add ht hk)
      rw[e,e2] at r
      exact r _
theorem pVis_tr (l:List S63)(s:List S86)(tk sd:Int)(ins:List Int):((pVis l s tk sd ins).2.length≤41∧∀ y∈(pVis l s tk sd ins).2,Row3 y)∧(pVis l s tk sd ins).1.length≤40∧1≤(pVis l s tk sd ins).2.length:=by
  have h0:([⟨0,[0,0,0,0],[0,0,0],[0,0,0,0]⟩]:List S48).length≤1∧∀ y∈([⟨0,[0,0,0,0],[0,0,0],[0,0,0,0]⟩]:List S48),Row3 y:=by
    refine⟨by simp,fun y hy=>?_⟩
    rw[List.mem_singleton.1 hy]
    exact⟨rfl,rfl,rfl⟩
  unfold pVis
  split
  · rename_i h
    exact pSeen_tr l s tk sd ins h.1 40 1 0 [] _ z0 z0_ok (by simp) (by simp) h0
  · exact⟨⟨by simp,h0.2⟩,by simp,by simp⟩
/-- The captures of a recording, from its i-th entry on. -/
def pCaptAt (s:List S86)(tk:Int)(es:List S54)(i:Nat)(out:List S61):List S61 :=
  if (rd_T54 es (i:Int)).f0=1 then out++[⟨⟨(rd_T54 es (i:Int)).f1.f0,(rd_T54 es (i:Int)).f1.f1,(rd_T54 es (i:Int)).f1.f2⟩,wrap64 (tk+(i:Int)),⟨(pFollow s (rd_T54 es (i:Int)).f1.f0 (rd_T54 es (i:Int)).f1.f1 (rd_T54 es (i:Int)).f1.f2 (wrap64 (tk+(i:Int)))).1,(pFollow s (rd_T54 es (i:Int)).f1.f0 (rd_T54 es (i:Int)).f1.f1 (rd_T54 es (i:Int)).f1.f2 (wrap64 (tk+(i:Int)))).2.1,⟨(pFollow s (rd_T54 es (i:Int)).f1.f0 (rd_T54 es (i:Int)).f1.f1 (rd_T54 es (i:Int)).f1.f2 (wrap64 (tk+(i:Int)))).2.2.1,(pFollow s (rd_T54 es (i:Int)).f1.f0 (rd_T54 es (i:Int)).f1.f1 (rd_T54 es (i:Int)).f1.f2 (wrap64 (tk+(i:Int)))).2.2.2.1,(pFollow s (rd_T54 es (i:Int)).f1.f0 (rd_T54 es (i:Int)).f1.f1 (rd_T54 es (i:Int)).f1.f2 (wrap64 (tk+(i:Int)))).2.2.2.2.1⟩⟩⟩] else out
def pCapt (s:List S86)(tk:Int)(es:List S54):Nat→Nat→List S61→List S61
  | 0,_,out=>out
  | d+1,i,out=>pCapt s tk es d (i+1) (pCaptAt s tk es i out)
def pCaptures (l:List S63)(s:List S86)(tk sd:Int)(ins:List Int):List S61:=pCapt s tk (pVis l s tk sd ins).1 (pVis l s tk sd ins).1.length 0 []
theorem pCaptAt_len (s:List S86)(tk:Int)(es:List S54)(i:Nat)(out:List S61):(pCaptAt s tk es i out).length≤out.length+1:=by
  unfold pCaptAt
  split
  · rw[List.length_append,List.length_singleton];omega
  · omega
theorem pCaptAt_fit (s:List S86)(tk:Int)(es:List S54)(hf:∀ y∈s,FitimplVersion y)(i:Nat)(out:List S61)(h:∀ y∈out,FitimplCapture y):(∀ y∈pCaptAt s tk es i out,FitimplCapture y)∧(pCaptAt s tk es i out).length≤out.length+1:=by
  unfold pCaptAt
  split
  · refine⟨fun y hy=>?_,by rw[List.length_append,List.length_singleton];omega⟩
    rcases List.mem_append.1 hy with h1 | h1
    · exact h y h1
    · rw[List.mem_singleton] at h1
      rw[h1]
      exact pFollow_fit s _ _ _ _ hf
  · exact⟨h,Nat.le_succ _⟩
theorem pCapt_fit (s:List S86)(tk:Int)(es:List S54)(hf:∀ y∈s,FitimplVersion y):∀ (d i:Nat) (out:List S61),(∀ y∈out,FitimplCapture y)→(∀ y∈pCapt s tk es d i out,FitimplCapture y)∧(pCapt s tk es d i out).length≤out.length+d:=by
  intro d
  induction d with
  | zero=>intro i out h;exact⟨h,Nat.le_refl _⟩
  | succ d ih =>
    intro i out h
    obtain⟨h1,h2⟩:=pCaptAt_fit s tk es hf i out h
    obtain⟨h3,h4⟩:=ih (i+1) _ h1
    exact⟨h3,by rw[pCapt];omega⟩
theorem pCaptures_fit (l:List S63)(s:List S86)(tk sd:Int)(ins:List Int)(hf:∀ y∈s,FitimplVersion y):(∀ y∈pCaptures l s tk sd ins,FitimplCapture y)∧(pCaptures l s tk sd ins).length≤40:=by
  obtain⟨_,y3,_⟩:=pVis_tr l s tk sd ins
  obtain⟨h1,h2⟩:=pCapt_fit s tk (pVis l s tk sd ins).1 hf (pVis l s tk sd ins).1.length 0 [] (fun y hy=>by cases hy)
  unfold pCaptures
  rw[List.length_nil] at h2
  exact⟨h1,by omega⟩
theorem l5Copy_eq (k:Int)(b:List Int)(h p q:Int)(hb:b.length≤1048576):spec_l5Copy.f k b h p q=some (k,b,h,p,q):=by
  simp only[spec_l5Copy.f,Option.bind_some,List.nil_append,List.length_nil]
  rw[if_pos (by omega)]
theorem sAnswer_ev (l:List S86)(a p q t:Int)(h:l.length≤1048576)(hf:∀ y∈l,FitimplVersion y):Ev (fun k=>spec_AnswerAt.f k l a p q t) (pAnswer l a p q t):=by
  unfold spec_AnswerAt.f pAnswer
  refine ev_foldl (fun k (x:Rsc) i=>spec_AnswerAt.l0 k l t i a p q x.1 x.2.1 x.2.2.1 x.2.2.2.1 x.2.2.2.2) l z86 (ansStep a p q t) (fun x=>x) (fun _ _=>True) (4,[],0,0,0) trivial ?_ ?_
  · intro x _
    refine Ev.round (fun _=>by rw[spec_AnswerAt.l0]) ?_
    exact Ev.neg (by omega) (Ev.now _)
  · intro i x hi _
    have e1:wrap64 ((i:Int)+1)=((i+1:Nat):Int):=by rw[w64 (by omega) (by omega)];omega
    refine⟨trivial,fun r hr=>?_⟩
    have hfy:FitimplVersion (rd_T86 l (i:Int)):=hf _ (getD_mem l i hi z86)
    have hr':Ev (fun k=>spec_AnswerAt.l0 k l t ((i+1:Nat):Int) a p q (ansStep a p q t x (rd_T86 l (i:Int))).1 (ansStep a p q t x (rd_T86 l (i:Int))).2.1 (ansStep a p q t x (rd_T86 l (i:Int))).2.2.1 (ansStep a p q t x (rd_T86 l (i:Int))).2.2.2.1 (ansStep a p q t x (rd_T86 l (i:Int))).2.2.2.2) r:=hr
    refine Ev.round (fun _=>by rw[spec_AnswerAt.l0]) ?_
    refine Ev.pos (by omega) ?_
    refine Ev.pos (by omega) ?_
    generalize hy:rd_T86 l (i:Int)=y at hr' hfy
    simp only[e1]
    unfold ansStep pHere at hr'
    cases c1:(y.f0.f0 == a && (y.f0.f1 == p && (y.f0.f2 == q))) with
    | false =>
      rw[c1] at hr'
      exact Ev.neg (by simp) hr'
    | true =>
      rw[c1] at hr'
      refine Ev.pos rfl ?_
      by_cases c2:y.f1≤t
      · rw[decide_eq_true c2] at hr'
        exact Ev.pos c2 (Ev.now_bind (l5Copy_eq _ _ _ _ _ hfy) hr')
      · rw[decide_eq_false c2] at hr'
        exact Ev.neg c2 hr'
theorem l9Has_ev (c:List S52)(a p q:Int)(h:c.length≤1048576):Ev (fun k=>spec_l9Has.f k c a p q) (pHasA c a p q):=by
  unfold spec_l9Has.f pHasA
  refine ev_any (fun k i=>spec_l9Has.l0 k c i a p q) c z52 _ (fun k=>by rw[spec_l9Has.l0,if_neg (by omega)]) ?_ ?_
  · intro i hi hp
    refine Ev.round (fun _=>by rw[spec_l9Has.l0]) ?_
    exact Ev.pos (by omega) (Ev.pos (by omega) (Ev.pos hp (Ev.now _)))
  · intro i hi hp r hr
    have e1:wrap64 ((i:Int)+1)=((i+1:Nat):Int):=by rw[w64 (by omega) (by omega)];omega
    refine Ev.round (fun _=>by rw[spec_l9Has.l0]) ?_
    refine Ev.pos (by omega) ?_
    refine Ev.pos (by omega) ?_
    refine Ev.neg (ne_true_of_eq_false hp) ?_
    simp only[e1]
    exact hr
theorem sTrail_ev (l:List S86)(t:Int)(h:l.length≤1048576)(hf:∀ y∈l,FitimplVersion y):∀ (n:Nat) (c:List S52) (r:Rsc),c.length+n=5→Ev (fun k=>spec_FollowAt.l0 k l t c r.1 r.2.1 r.2.2.1 r.2.2.2.1 r.2.2.2.2) (pTrail l t n c r):=by
  intro n
  induction n with
  | zero =>
    intro c r hn
    refine Ev.round (fun _=>by rw[spec_FollowAt.l0]) ?_
    by_cases c1:r.1=3
    · exact Ev.pos c1 (Ev.neg (by omega) (Ev.now _))
    · exact Ev.neg c1 (Ev.now _)
  | succ n ih =>
    intro c r hn
    unfold pTrail
    refine Ev.round (fun _=>by rw[spec_FollowAt.l0]) ?_
    by_cases c1:r.1=3
    · refine Ev.pos c1 ?_
      refine Ev.pos (by omega) ?_
      refine Ev.bind (l9Has_ev c r.2.2.1 r.2.2.2.1 r.2.2.2.2 (by omega)) ?_
      cases c2:pHasA c r.2.2.1 r.2.2.2.1 r.2.2.2.2 with
      | true =>
        rw[if_neg (by simp)]
        exact Ev.pos rfl (Ev.now _)
      | false =>
        rw[if_pos ⟨c1,rfl⟩]
        refine Ev.neg (by simp) ?_
        refine Ev.pos (by omega) ?_
        refine Ev.bind (sAnswer_ev l _ _ _ t h hf) ?_
        exact ih _ _ (by simp only[List.length_append,List.length_singleton];omega)
    · rw[if_neg (fun z=>c1 z.1)]
      exact Ev.neg c1 (Ev.now _)
theorem sFollow_ev (l:List S86)(a p q t:Int)(h:l.length≤1048576)(hf:∀ y∈l,FitimplVersion y):Ev (fun k=>spec_FollowAt.f k l a p q t) (pFollow l a p q t):=by
  unfold spec_FollowAt.f pFollow
  exact Ev.bind (sAnswer_ev l a p q t h hf) (sTrail_ev l t h hf 4 _ _ rfl)
theorem l1In_eq (a b c:Int):spec_l1In.f a b c=some (decide (b≤a) && decide (a≤c)):=by
  unfold spec_l1In.f
  by_cases h:b≤a <;> simp[h]
theorem sOp_ev (y:S63):Ev (fun k=>spec_l10Ok.f k y.f0 y.f1 y.f2 y.f3) (pOp y):=by
  unfold spec_l10Ok.f pOp
  refine Ev.now_and (l1In_eq _ _ _) fun _=>?_
  by_cases h1:y.f0=1
  · rw[if_pos h1]
    refine Ev.pos h1 ?_
    exact Ev.now_and (l1In_eq _ _ _) fun _=>Ev.now_bind (l1In_eq _ _ _) (Ev.now _)
  rw[if_neg h1]
  refine Ev.neg h1 ?_
  have hj:∀ x:Bool,(x=true↔y.f0=2∨y.f0=3∨y.f0=4)→Ev (fun k=>spec_l10Ok.j0 k 3 y.f0 x y.f0 y.f1 y.f2 y.f3) (if y.f0=2∨y.f0=3∨y.f0=4 then decide (y.f2=0) && (y.f3 == 0)
    else if y.f0=5 then pIn y.f2 0 3 && pIn y.f3 0 3
    else if y.f0=6 then pIn y.f2 0 3 && (y.f3 == 0)
    else if y.f0=7 then pIn y.f2 1 3 && (y.f3 == 0)
    else if y.f0=8 then pIn y.f2 0 2 && (y.f3 == 0)
    else if y.f0=9 then pIn y.f2 0 2 && (y.f3 == 0)
    else false):=by
    intro x hx
    refine Ev.round (fun _=>by rw[spec_l10Ok.j0]) ?_
    cases x with
    | true =>
      rw[if_pos (hx.1 rfl)]
      refine Ev.pos rfl ?_
      exact Ev.if_and fun _=>Ev.now _
    | false =>
      have hno:¬(y.f0=2∨y.f0=3∨y.f0=4):=fun c=>by simpa using hx.2 c
      rw[if_neg hno]
      refine Ev.neg (by simp) ?_
      refine Ev.ite (fun _=>?_) (fun _=>?_)
      · exact Ev.now_and (l1In_eq _ _ _) fun _=>Ev.now_bind (l1In_eq _ _ _) (Ev.now _)
      refine Ev.ite (fun _=>?_) (fun _=>?_)
      · exact Ev.now_and (l1In_eq _ _ _) fun _=>Ev.now _
      refine Ev.ite (fun _=>?_) (fun _=>?_)
      · exact Ev.now_and (l1In_eq _ _ _) fun _=>Ev.now _
      refine Ev.ite (fun _=>?_) (fun _=>?_)
      · exact Ev.now_and (l1In_eq _ _ _) fun _=>Ev.now _
      refine Ev.ite (fun _=>?_) (fun _=>?_)
      · exact Ev.now_and (l1In_eq _ _ _) fun _=>Ev.now _
      · exact Ev.now _
  by_cases h2:y.f0=2
  · refine Ev.pos h2 (hj _ ?_)
    simp[h2]
  refine Ev.neg h2 ?_
  by_cases h3:y.f0=3
  · refine Ev.pos h3 (hj _ ?_)
    simp[h3]
  refine Ev.neg h3 (hj _ ?_)
  simp[h2,h3]
theorem sIsScript_ev (l:List S63)(h:l.length≤1048576):Ev (fun k=>spec_IsScript.f k l) (pScript l):=by
  unfold spec_IsScript.f pScript
  refine ev_all (fun k i=>spec_IsScript.l0 k l i) l z63 pOp _ (fun k=>by rw[spec_IsScript.l0,if_neg (by omega)]) ?_ ?_
  · intro i hi hp r hr
    have e1:wrap64 ((i:Int)+1)=((i+1:Nat):Int):=by rw[w64 (by omega) (by omega)];omega
    refine Ev.round (fun _=>by rw[spec_IsScript.l0]) ?_
    refine Ev.pos (by omega) ?_
    refine Ev.pos (by omega) ?_
    refine Ev.bind (sOp_ev (rd_T63 l (i:Int))) ?_
    refine Ev.pos hp ?_
    simp only[e1]
    exact hr
  · intro i hi hp
    refine Ev.round (fun _=>by rw[spec_IsScript.l0]) ?_
    refine Ev.pos (by omega) ?_
    refine Ev.pos (by omega) ?_
    refine Ev.bind (sOp_ev (rd_T63 l (i:Int))) ?_
    refine Ev.neg (ne_true_of_eq_false hp) ?_
    exact Ev.now _
theorem l11All_ev (l:List Int)(n:Int)(h:l.length≤1048576):Ev (fun k=>spec_l11All.f k l n) (l.all (pIn · 0 999) && ((l.length:Int) == n)):=by
  unfold spec_l11All.f
  refine ev_all (fun k i=>spec_l11All.l0 k l n i) l 0 (pIn · 0 999) _ (fun k=>by rw[spec_l11All.l0,if_neg (by omega)]) ?_ ?_
  · intro i hi hp r hr
    have e1:wrap64 ((i:Int)+1)=((i+1:Nat):Int):=by rw[w64 (by omega) (by omega)];omega
    refine Ev.round (fun _=>by rw[spec_l11All.l0]) ?_
    refine Ev.pos (by omega) ?_
    refine Ev.pos (by omega) ?_
    refine Ev.now_bind (l1In_eq _ _ _) ?_
    refine Ev.pos ?_ ?_
    · rw[rd_nat];exact hp
    · simp only[e1];exact hr
  · intro i hi hp
    refine Ev.round (fun _=>by rw[spec_l11All.l0]) ?_
    refine Ev.pos (by omega) ?_
    refine Ev.pos (by omega) ?_
    refine Ev.now_bind (l1In_eq _ _ _) ?_
    refine Ev.neg ?_ (Ev.now _)
    rw[rd_nat];exact ne_true_of_eq_false hp
theorem sIsState_ev (a:Int)(r s n:List Int)(h1:r.length≤1048576)(h2:s.length≤1048576)(h3:n.length≤1048576):Ev (fun k=>spec_IsState.f k a r s n) (pState a r s n):=by
  unfold spec_IsState.f pState
  exact Ev.now_and (l1In_eq _ _ _) fun _=>Ev.and (l11All_ev r 4 h1) fun _=>Ev.and (l11All_ev s 3 h2) fun _=>Ev.id (l11All_ev n 4 h3)
theorem sCan_ev (l:List S63)(a:Int)(r s n:List Int)(h:l.length≤1048576)(h1:r.length≤1048576)(h2:s.length≤1048576)(h3:n.length≤1048576):Ev (fun k=>spec_l11Can.f k l a r s n) (pCan l a r s n):=by
  unfold spec_l11Can.f pCan
  exact Ev.and (sIsScript_ev l h) fun _=>Ev.and (sIsState_ev a r s n h1 h2 h3) fun _=>Ev.now _
theorem sAsks_eq (k:Int):spec_Asks.f k=some (pAsks k):=by
  unfold spec_Asks.f pAsks
  rw[l1In_eq]
  rfl
theorem sWant_ev (l:List S63)(a:Int)(r s n:List Int)(h:l.length≤1048576)(h1:r.length≤1048576)(h2:s.length≤1048576)(h3:n.length≤1048576):Ev (fun k=>spec_WantOf.f k l a r s n) (pWant l a r s n):=by
  unfold spec_WantOf.f pWant
  refine Ev.bind (sCan_ev l a r s n h h1 h2 h3) ?_
  have hj:Ev (fun k=>spec_WantOf.j0 k l true a r s n) (0,0,0,0):=by
    refine Ev.round (fun _=>by rw[spec_WantOf.j0]) ?_
    refine Ev.pos rfl ?_
    exact Ev.now _
  cases hc:pCan l a r s n with
  | false=>exact Ev.neg (by simp) (Ev.cast hj (by simp))
  | true =>
    obtain⟨f1,f2,f3,f4,f5,f6,f7,f8,f9,_,_⟩:=pCan_facts hc
    refine Ev.pos rfl ?_
    refine Ev.pos f1 ?_
    refine Ev.pos f2 ?_
    refine Ev.now_bind (sAsks_eq _) ?_
    cases hk:pAsks (rd_T63 l a).f0 with
    | false=>exact Ev.cast hj (by simp)
    | true =>
      have hr:=pOp_reg (f9 _ (getD_mem l a.toNat (by omega) z63))
      have hr':0≤(rd_T63 l a).f1∧(rd_T63 l a).f1≤3:=hr
      rw[if_pos ⟨rfl,rfl⟩]
      refine Ev.round (fun _=>by rw[spec_WantOf.j0]) ?_
      refine Ev.neg (by simp) ?_
      refine Ev.pos f1 ?_
      refine Ev.pos f2 ?_
      refine Ev.ite (fun _=>?_) (fun _=>Ev.now _)
      exact Ev.pos hr'.1 (Ev.pos (by omega) (Ev.now _))
theorem sCopy_eq (a:Int)(r s n:List Int)(h1:r.length≤1048576)(h2:s.length≤1048576)(h3:n.length≤1048576):spec_l11Copy.f a r s n=some (a,r,s,n):=by
  simp only[spec_l11Copy.f,Option.bind_some,List.nil_append,List.length_nil]
  rw[if_pos (by omega)]
  rw[if_pos (by omega)]
  rw[if_pos (by omega)]
theorem sStep_ev (l:List S63)(a:Int)(r s n:List Int)(v:Int)(h:l.length≤1048576)(h1:r.length≤1048576)(h2:s.length≤1048576)(h3:n.length≤1048576):Ev (fun k=>spec_StepState.f k l a r s n v) (pStep l a r s n v):=by
  unfold spec_StepState.f
  refine Ev.now_bind (sCopy_eq a r s n h1 h2 h3) ?_
  refine Ev.bind (sCan_ev l a r s n h h1 h2 h3) ?_
  dsimp only
  unfold pStep
  by_cases c:pCan l a r s n=true
  · obtain⟨f1,f2,f3,f4,f5,f6,f7,f8,f9,f10,f11⟩:=pCan_facts c
    have ho:pOp (rd_T63 l a)=true:=f9 _ (getD_mem l a.toNat (by omega) z63)
    have hr:=pOp_reg ho
    refine Ev.rpos c ?_
    refine Ev.pos c ?_
    refine Ev.pos f1 ?_
    refine Ev.pos f2 ?_
    refine Ev.ite (fun c5=>?_) (fun c5=>?_)
    · have ha:=pOp_5 ho c5
      refine Ev.pos ha.1 ?_
      refine Ev.pos (by omega) ?_
      refine Ev.pos ha.2.2.1 ?_
      refine Ev.pos (by omega) ?_
      refine Ev.pos hr.1 ?_
      refine Ev.pos (by omega) ?_
      exact Ev.now _
    refine Ev.ite (fun c6=>?_) (fun c6=>?_)
    · have ha:=pOp_6 ho c6
      refine Ev.pos hr.1 ?_
      refine Ev.pos (by omega) ?_
      refine Ev.pos ha.1 ?_
      refine Ev.pos (by omega) ?_
      exact Ev.now _
    refine Ev.ite (fun c7=>?_) (fun c7=>?_)
    · refine Ev.pos hr.1 ?_
      refine Ev.pos (by omega) ?_
      exact Ev.ite (fun _=>Ev.now _) (fun _=>Ev.now _)
    refine Ev.ite (fun c8=>?_) (fun c8=>?_)
    · have ha:=pOp_8 ho c8
      refine Ev.pos ha.1 ?_
      refine Ev.pos (by omega) ?_
      refine Ev.pos hr.1 ?_
      refine Ev.pos (by omega) ?_
      exact Ev.now _
    refine Ev.ite (fun c9=>?_) (fun c9=>?_)
    · have ha:=pOp_9 ho c9
      refine Ev.pos hr.1 ?_
      refine Ev.pos (by omega) ?_
      refine Ev.pos ha.1 ?_
      refine Ev.pos (by omega) ?_
      exact Ev.now _
    have em:spec_Min.f 999 v=some (mn 999 v):=by
      unfold spec_Min.f mn
      split <;> rfl
    have ex:spec_Max.f 0 (mn 999 v)=some (pClamp v):=by
      unfold spec_Max.f pClamp mx
      by_cases cx:(0:Int) < mn 999 v
      · rw[if_pos cx,if_pos (show mn 999 v > 0 from cx)]
      · rw[if_neg cx,if_neg (show ¬mn 999 v > 0 from cx)]
    refine Ev.now_bind em ?_
    refine Ev.now_bind ex ?_
    refine Ev.pos hr.1 ?_
    refine Ev.pos (by omega) ?_
    exact Ev.now _
  · refine Ev.rneg c ?_
    exact Ev.neg c (Ev.now _)
theorem l11Zeros_ev (n:Nat)(hn:n≤1048576):Ev (fun k=>spec_l11Zeros.f k (n:Int)) (List.replicate n 0):=by
  have key:∀ d i:Nat,i+d=n→Ev (fun k=>spec_l11Zeros.l0 k (n:Int) (List.replicate i 0) (i:Int)) (List.replicate n 0):=by
    intro d
    induction d with
    | zero =>
      intro i hi
      obtain rfl:i=n:=by omega
      refine Ev.round (fun _=>by rw[spec_l11Zeros.l0]) ?_
      exact Ev.neg (by omega) (Ev.now _)
    | succ d ih =>
      intro i hi
      have e1:wrap64 ((i:Int)+1)=((i+1:Nat):Int):=by rw[w64 (by omega) (by omega)];omega
      have h:=ih (i+1) (by omega)
      rw[List.replicate_succ'] at h
      refine Ev.round (fun _=>by rw[spec_l11Zeros.l0]) ?_
      refine Ev.pos (by omega) ?_
      refine Ev.pos (by rw[List.length_replicate];omega) ?_
      simp only[e1]
      exact h
  exact key n 0 (by omega)
theorem sStart_ev:Ev (fun k=>spec_StartState.f k) (0,[0,0,0,0],[0,0,0],[0,0,0,0]):=by
  unfold spec_StartState.f
  exact Ev.bind (l11Zeros_ev 4 (by omega)) (Ev.bind (l11Zeros_ev 3 (by omega)) (Ev.bind (l11Zeros_ev 4 (by omega)) (Ev.now _)))
theorem sIsAddress_eq (h p q:Int):spec_IsAddress.f h p q=some (pAddr h p q):=by
  simp only[spec_IsAddress.f,l1In_eq,Option.bind_some,some_and]
theorem l5Bytes_ev (l:List Int)(h:l.length≤1048576):Ev (fun k=>spec_l5Bytes.f k l) (l.all (pIn · 0 255)):=by
  unfold spec_l5Bytes.f
  refine Ev.cast (ev_all (fun k i=>spec_l5Bytes.l0 k l i) l 0 (pIn · 0 255) true (fun k=>by rw[spec_l5Bytes.l0,if_neg (by omega)]) ?_ ?_) (Bool.and_true _)
  · intro i hi hp r hr
    have e1:wrap64 ((i:Int)+1)=((i+1:Nat):Int):=by rw[w64 (by omega) (by omega)];omega
    refine Ev.round (fun _=>by rw[spec_l5Bytes.l0]) ?_
    refine Ev.pos (by omega) ?_
    refine Ev.pos (by omega) ?_
    refine Ev.now_bind (l1In_eq _ _ _) ?_
    refine Ev.pos ?_ ?_
    · rw[rd_nat];exact hp
    · simp only[e1];exact hr
  · intro i hi hp
    refine Ev.round (fun _=>by rw[spec_l5Bytes.l0]) ?_
    refine Ev.pos (by omega) ?_
    refine Ev.pos (by omega) ?_
    refine Ev.now_bind (l1In_eq _ _ _) ?_
    refine Ev.neg ?_ (Ev.now _)
    rw[rd_nat];exact ne_true_of_eq_false hp
theorem sIsResource_ev (k:Int)(b:List Int)(h p q:Int)(hb:b.length≤1048576):Ev (fun n=>spec_IsResource.f n k b h p q) (pRes k b h p q):=by
  have hj:∀ x:Bool,Ev (fun n=>spec_IsResource.j0 n x k b h p q) (!x && (if k=3 then pAddr h p q && ((b.length:Int) == 0) else(pZero h p q && (if k=4 then((b.length:Int) == 0) else true)))):=by
    intro x
    refine Ev.round (fun _=>by rw[spec_IsResource.j0]) ?_
    cases x with
    | true=>exact Ev.pos rfl (Ev.now _)
    | false =>
      refine Ev.neg (by simp) ?_
      by_cases h3:k=3
      · refine Ev.pos h3 ?_
        simp only[h3,if_true,Bool.not_false,Bool.true_and]
        exact Ev.now_and (sIsAddress_eq _ _ _) fun _=>Ev.now _
      · refine Ev.neg h3 ?_
        simp only[h3,if_false,Bool.not_false,Bool.true_and]
        by_cases hz:pZero h p q=true
        · refine Ev.pos hz ?_
          by_cases h4:k=4
          · refine Ev.pos h4 ?_
            exact Ev.cast (Ev.now _) (by simp[h4,hz])
          · refine Ev.neg h4 ?_
            exact Ev.cast (Ev.now _) (by simp[h4,hz])
        · refine Ev.neg hz ?_
          exact Ev.cast (Ev.now _) (by simp[hz])
  unfold spec_IsResource.f
  refine Ev.now_bind (l1In_eq _ _ _) ?_
  by_cases hk:1≤k∧k≤4
  · refine Ev.pos (by simp[hk]) ?_
    refine Ev.bind (l5Bytes_ev b hb) ?_
    have hcases:k=1∨k=2∨k=3∨k=4:=by omega
    cases hall:b.all (pIn · 0 255) with
    | true =>
      refine Ev.pos rfl ?_
      refine Ev.cast (hj _) ?_
      unfold pRes
      have h6:decide ((b.length:Int) > 6)=!decide ((b.length:Int)≤6):=by
        by_cases c:(b.length:Int)≤6
        · have:¬(b.length:Int) > 6:=by omega
          simp[c,this]
        · have:(b.length:Int) > 6:=by omega
          simp[c,this]
      rw[h6]
      rcases hcases with rfl | rfl | rfl | rfl
      · simp[hall]
      · simp[hall]
      · by_cases c:b.length=0
        · have hn:b=[]:=List.eq_nil_of_length_eq_zero c
          subst hn
          simp
        · simp[c]
      · by_cases c:b.length=0
        · have hn:b=[]:=List.eq_nil_of_length_eq_zero c
          subst hn
          simp
        · simp[c]
    | false =>
      refine Ev.neg (by simp) ?_
      refine Ev.cast (hj true) ?_
      unfold pRes
      have hne:b≠[]:=by
        rintro rfl
        simp at hall
      have h0:¬b.length=0:=fun e=>hne (List.eq_nil_of_length_eq_zero e)
      rcases hcases with rfl | rfl | rfl | rfl
      · simp[hall]
      · simp[hall]
      · simp[h0]
      · simp[h0]
  · refine Ev.neg (by simp;omega) ?_
    refine Ev.cast (hj true) ?_
    have hp:pRes k b h p q=false:=by
      unfold pRes
      rw[if_neg (by omega),if_neg (by omega),if_neg (by omega)]
    rw[hp]
    simp
theorem sIsSite_ev (l:List S86)(h:l.length≤1048576)(hf:∀ y∈l,FitimplVersion y):Ev (fun k=>spec_IsSite.f k l) (pIsSite l):=by
  unfold spec_IsSite.f pIsSite
  refine ev_all (fun k i=>spec_IsSite.l0 k l i) l z86 pVersion _ (fun k=>by rw[spec_IsSite.l0,if_neg (by omega)]) ?_ ?_
  · intro i hi hp r hr
    have e1:wrap64 ((i:Int)+1)=((i+1:Nat):Int):=by rw[w64 (by omega) (by omega)];omega
    have hp':pVersion (rd_T86 l (i:Int))=true:=hp
    have hfy:FitimplVersion (rd_T86 l (i:Int)):=hf _ (getD_mem l i hi z86)
    generalize hy:rd_T86 l (i:Int)=y at hp' hfy
    unfold pVersion at hp'
    simp only[Bool.and_eq_true] at hp'
    obtain⟨p1,p2,p3⟩:=hp'
    refine Ev.round (fun _=>by rw[spec_IsSite.l0]) ?_
    refine Ev.pos (by omega) ?_
    refine Ev.pos (by omega) ?_
    simp only[hy,e1]
    refine Ev.now_bind (sIsAddress_eq _ _ _) ?_
    refine Ev.pos (by simp[p1]) ?_
    refine Ev.now_bind (l1In_eq _ _ _) ?_
    refine Ev.pos (by simp[p2]) ?_
    refine Ev.bind (sIsResource_ev _ _ _ _ _ hfy) ?_
    exact Ev.pos p3 hr
  · intro i hi hp
    have hp':pVersion (rd_T86 l (i:Int))=false:=hp
    have hfy:FitimplVersion (rd_T86 l (i:Int)):=hf _ (getD_mem l i hi z86)
    generalize hy:rd_T86 l (i:Int)=y at hp' hfy
    unfold pVersion at hp'
    refine Ev.round (fun _=>by rw[spec_IsSite.l0]) ?_
    refine Ev.pos (by omega) ?_
    refine Ev.pos (by omega) ?_
    simp only[hy]
    refine Ev.now_bind (sIsAddress_eq _ _ _) ?_
    cases p1:pAddr y.f0.f0 y.f0.f1 y.f0.f2 with
    | false=>exact Ev.neg (by simp) (Ev.now _)
    | true =>
      rw[p1,Bool.true_and] at hp'
      refine Ev.pos rfl ?_
      refine Ev.now_bind (l1In_eq _ _ _) ?_
      cases p2:pIn y.f1 0 1000 with
      | false=>exact Ev.neg (ne_true_of_eq_false p2) (Ev.now _)
      | true =>
        rw[p2,Bool.true_and] at hp'
        refine Ev.pos p2 ?_
        refine Ev.bind (sIsResource_ev _ _ _ _ _ hfy) ?_
        refine Ev.neg (ne_true_of_eq_false hp') ?_
        exact Ev.now _
theorem sIsVisit_ev (s:List S86)(t sd:Int)(i:List Int)(h:s.length≤1048576)(hf:∀ y∈s,FitimplVersion y)(hi:i.length≤1048576):Ev (fun k=>spec_IsVisit.f k s t sd i) (pVisit s t sd i):=by
  unfold spec_IsVisit.f pVisit
  refine Ev.and (sIsSite_ev s h hf) fun _=>Ev.now_and (l1In_eq _ _ _) fun _=>Ev.now_and (l1In_eq _ _ _) fun _=>Ev.if_and fun _=>?_
  exact Ev.cast (Ev.id (l11All_ev i _ hi)) (by simp)
theorem sMod_eq (a b:Int):spec_Mod.f a b=some (pMod a b):=by
  unfold spec_Mod.f pMod
  rw[l1In_eq,Option.bind_some]
  by_cases h:1≤b∧b≤1000000000000
  · rw[if_pos h,if_pos (by simp[h.1,h.2]),if_neg (by omega)]
  · rw[if_neg h,if_neg]
    intro c
    simp only[Bool.and_eq_true,decide_eq_true_eq] at c
    exact h c
theorem sHash_ev (l:List Int)(h:l.length≤1048576):Ev (fun k=>spec_Hash.f k l) (pHash l):=by
  unfold spec_Hash.f pHash
  refine ev_foldl (fun k x i=>spec_Hash.l0 k l x i) l 0 hashStep (fun x=>x) (fun _ _=>True) 11 trivial ?_ ?_
  · intro x _
    refine Ev.round (fun _=>by rw[spec_Hash.l0]) ?_
    exact Ev.neg (by omega) (Ev.now _)
  · intro i x hi _
    have e1:wrap64 ((i:Int)+1)=((i+1:Nat):Int):=by rw[w64 (by omega) (by omega)];omega
    refine⟨trivial,fun r hr=>?_⟩
    refine Ev.round (fun _=>by rw[spec_Hash.l0]) ?_
    refine Ev.pos (by omega) ?_
    refine Ev.pos (by omega) ?_
    simp only[e1,rd_nat]
    exact Ev.now_bind (sMod_eq _ _) hr
theorem sMin_eq (a b:Int):spec_Min.f a b=some (if b < a then b else a):=by
  unfold spec_Min.f
  split <;> rfl
theorem sValue_ev (k:Int)(b:List Int)(h p q:Int)(hb:b.length≤1048576):Ev (fun n=>spec_ValueOfResource.f n k b h p q) (pVal k b h p q):=by
  have hj1:Ev (fun n=>spec_ValueOfResource.j0 n true k b h p q) 0:=by
    refine Ev.round (fun _=>by rw[spec_ValueOfResource.j0]) ?_
    refine Ev.pos rfl ?_
    exact Ev.now _
  unfold spec_ValueOfResource.f pVal
  refine Ev.bind (sIsResource_ev k b h p q hb) ?_
  cases hr:pRes k b h p q with
  | false =>
    refine Ev.neg (by simp) ?_
    exact Ev.cast hj1 (by simp)
  | true =>
    refine Ev.pos rfl ?_
    by_cases hk:k=1∨k=2
    · rw[if_pos ⟨rfl,hk⟩,decide_eq_false (show ¬k > 2 by omega)]
      obtain⟨hl,hy⟩:=pRes_body hr hk
      refine Ev.round (fun _=>by rw[spec_ValueOfResource.j0]) ?_
      refine Ev.neg (by simp) ?_
      have hf:=fold_mod b 0
      have main:=ev_foldl (fun n x i=>spec_ValueOfResource.l0 n x i k b h p q) b 0 (fun x y=>(x+y) % 1000) (fun x=>if x < 999 then x+1 else 999) (fun _ x=>0≤x∧x < 1000) 0 ⟨by omega,by omega⟩ ?_ ?_
      · rw[show(0:Int)=0 % 1000 from rfl,hf] at main
        exact main
      · intro x hx
        refine Ev.round (fun _=>by rw[spec_ValueOfResource.l0]) ?_
        refine Ev.neg (by omega) ?_
        refine Ev.now_bind (sMin_eq _ _) ?_
        rw[w64 (by omega) (by omega)]
        refine Ev.cast (Ev.now _) ?_
        by_cases c:x < 999
        · rw[if_pos c]
          split <;> omega
        · rw[if_neg c,if_neg (by omega)]
      · intro i x hi hx
        have e1:wrap64 ((i:Int)+1)=((i+1:Nat):Int):=by rw[w64 (by omega) (by omega)];omega
        have hv:=hy _ (getD_mem b i hi 0)
        refine⟨⟨by omega,by omega⟩,fun r hr2=>?_⟩
        refine Ev.round (fun _=>by rw[spec_ValueOfResource.l0]) ?_
        refine Ev.pos (by omega) ?_
        refine Ev.pos (by omega) ?_
        have e2:Int.tmod (wrap64 (x+rd b (i:Int))) 1000=(x+b.getD i 0) % 1000:=by
          rw[rd_nat,w64 (by omega) (by omega),Int.tmod_eq_emod_of_nonneg (by omega)]
        simp only[e1,e2]
        exact hr2
    · rw[if_neg (fun c=>hk c.2)]
      have h34:k > 2:=by
        unfold pRes at hr
        rw[if_neg hk] at hr
        by_cases h3:k=3
        · omega
        · rw[if_neg h3] at hr
          by_cases h4:k=4
          · omega
          · rw[if_neg h4] at hr
            simp at hr
      rw[decide_eq_true h34]
      exact hj1
theorem sLive_ev (s:List S86)(tk sd:Int)(ins:List Int)(w0 w1 w2 w3 n:Int)(h:s.length≤1048576)(hf:∀ y∈s,FitimplVersion y)(hi:ins.length≤1048576):Ev (fun k=>spec_LiveValue.f k s tk sd ins w0 w1 w2 w3 n) (pLive s tk sd ins w0 w1 w2 w3 n):=by
  have hno:¬(pVisit s tk sd ins=true∧pIn n 0 100=true)→Ev (fun k=>spec_LiveValue.j0 k n true s tk sd ins w0 w1 w2 w3) (pLive s tk sd ins w0 w1 w2 w3 n):=by
    intro c
    unfold pLive
    rw[if_neg c]
    refine Ev.round (fun _=>by rw[spec_LiveValue.j0]) ?_
    exact Ev.pos rfl (Ev.now _)
  unfold spec_LiveValue.f
  refine Ev.bind (sIsVisit_ev s tk sd ins h hf hi) ?_
  cases hv:pVisit s tk sd ins with
  | false =>
    refine Ev.neg (by simp) ?_
    exact hno (by simp[hv])
  | true =>
    refine Ev.pos rfl ?_
    refine Ev.now_bind (l1In_eq _ _ _) ?_
    cases hp:pIn n 0 100 with
    | false =>
      have hp2:(decide (0≤n) && decide (n≤100))=false:=hp
      rw[hp2]
      exact hno (by simp[hp])
    | true =>
      have hp2:(decide (0≤n) && decide (n≤100))=true:=hp
      rw[hp2]
      unfold pLive
      rw[if_pos ⟨hv,hp⟩]
      simp only[pIn,Bool.and_eq_true,decide_eq_true_eq] at hp
      refine Ev.round (fun _=>by rw[spec_LiveValue.j0]) ?_
      refine Ev.neg (by simp) ?_
      by_cases c1:w0=1
      · rw[if_pos c1]
        exact Ev.pos c1 (Ev.bind (sFollow_ev s w1 w2 w3 (wrap64 (tk+n)) h hf) (Ev.id (sValue_ev _ _ _ _ _ (pFollow_fit s w1 w2 w3 (wrap64 (tk+n)) hf))))
      rw[if_neg c1]
      refine Ev.neg c1 ?_
      by_cases c2:w0=2
      · rw[if_pos c2]
        refine Ev.pos c2 ?_
        have e:spec_Min.f 999 (wrap64 (tk+n))=some (mn 999 (wrap64 (tk+n))):=by
          unfold spec_Min.f mn
          split <;> rfl
        exact Ev.now_bind e (Ev.now _)
      rw[if_neg c2]
      refine Ev.neg c2 ?_
      by_cases c3:w0=3
      · rw[if_pos c3]
        exact Ev.pos c3 (Ev.bind (sHash_ev _ (by simp)) (Ev.now_bind (sMod_eq _ _) (Ev.now _)))
      rw[if_neg c3]
      refine Ev.neg c3 ?_
      by_cases c4:w0=4
      · refine Ev.rpos c4 ?_
        refine Ev.pos c4 ?_
        by_cases c5:(ins.length:Int) > 0
        · refine Ev.rpos c5 ?_
          have m0:0≤Int.tmod n (ins.length:Int):=Int.tmod_nonneg _ hp.1
          have m1:Int.tmod n (ins.length:Int) < (ins.length:Int):=Int.tmod_lt_of_pos _ c5
          exact Ev.pos c5 (Ev.neg (by omega) (Ev.pos m0 (Ev.pos m1 (Ev.now _))))
        · refine Ev.rneg c5 ?_
          exact Ev.neg c5 (Ev.now _)
      refine Ev.rneg c4 ?_
      exact Ev.neg c4 (Ev.now _)
theorem s13_l0 (l:List S63)(s:List S86)(tk sd:Int)(ins:List Int)(hs:pScript l=true)(hv:pVisit s tk sd ins=true)(h:s.length≤1048576)(hf:∀ y∈s,FitimplVersion y)(hi:ins.length≤1048576):∀ (m:Nat) (es:List S54) (tr:List S48) (z:Int×List Int×List Int×List Int),StOk z→(l.length:Int)≤z.1+(m:Int)→es.length+m≤1000→tr.length+m≤1000 →
    Ev (fun k=>spec_l13Run.l0 k l es tr s tk sd ins z.1 z.2.1 z.2.2.1 z.2.2.2) (pSeen l s tk sd ins (m+1) es tr z):=by
  have hl:=pScript_len hs
  intro m
  induction m with
  | zero =>
    intro es tr z hz hm he ht
    have c1:(l.length:Int)≤z.1:=by omega
    rw[pSeen,if_pos c1]
    refine Ev.round (fun _=>by rw[spec_l13Run.l0]) ?_
    refine Ev.bind (sIsScript_ev l (by omega)) ?_
    refine Ev.pos hs ?_
    refine Ev.bind (sIsVisit_ev s tk sd ins h hf hi) ?_
    refine Ev.pos hv ?_
    refine Ev.now_bind rfl ?_
    refine Ev.round (fun _=>by rw[spec_l13Run.j1]) ?_
    exact Ev.neg (by rw[decide_eq_true c1];decide) (Ev.now _)
  | succ m ih =>
    intro es tr z hz hm he ht
    by_cases c1:(l.length:Int)≤z.1
    · rw[pSeen,if_pos c1]
      refine Ev.round (fun _=>by rw[spec_l13Run.l0]) ?_
      refine Ev.bind (sIsScript_ev l (by omega)) ?_
      refine Ev.pos hs ?_
      refine Ev.bind (sIsVisit_ev s tk sd ins h hf hi) ?_
      refine Ev.pos hv ?_
      refine Ev.now_bind rfl ?_
      refine Ev.round (fun _=>by rw[spec_l13Run.j1]) ?_
      exact Ev.neg (by rw[decide_eq_true c1];decide) (Ev.now _)
    have hc:=can_of hs hz c1
    obtain⟨g1,g2,g3⟩:=StOk_len hz
    have hw:=sWant_ev l z.1 z.2.1 z.2.2.1 z.2.2.2 (by omega) (by omega) (by omega) (by omega)
    have hst:=fun v=>sStep_ev l z.1 z.2.1 z.2.2.1 z.2.2.2 v (by omega) (by omega) (by omega) (by omega)
    have hok:=fun v=>pStep_ok l z.1 z.2.1 z.2.2.1 z.2.2.2 v hc
    have hnn:=pWant_nn l z.1 z.2.1 z.2.2.1 z.2.2.2 hc
    rw[pSeen,if_neg c1]
    unfold pSeen.pAns
    refine Ev.round (fun _=>by rw[spec_l13Run.l0]) ?_
    refine Ev.bind (sIsScript_ev l (by omega)) ?_
    refine Ev.pos hs ?_
    refine Ev.bind (sIsVisit_ev s tk sd ins h hf hi) ?_
    refine Ev.pos hv ?_
    refine Ev.now_bind rfl ?_
    refine Ev.round (fun _=>by rw[spec_l13Run.j1]) ?_
    refine Ev.pos (by rw[decide_eq_false c1];rfl) ?_
    refine Ev.bind hw ?_
    generalize pWant l z.1 z.2.1 z.2.2.1 z.2.2.2=w at hnn ⊢
    try dsimp only
    by_cases cw:w.1=0
    · rw[if_pos cw]
      refine Ev.neg (by omega) ?_
      refine Ev.bind (hst 0) ?_
      refine Ev.pos (by omega) ?_
      exact ih es _ _ (hok 0).1 (by have:=(hok 0).2.1;omega) (by omega) (by rw[List.length_append,List.length_singleton];omega)
    rw[if_neg cw]
    refine Ev.pos (by omega) ?_
    refine Ev.bind (sLive_ev s tk sd ins w.1 w.2.1 w.2.2.1 w.2.2.2 (es.length:Int) h hf hi) ?_
    refine Ev.pos (by omega) ?_
    generalize pLive s tk sd ins w.1 w.2.1 w.2.2.1 w.2.2.2 (es.length:Int)=v
    refine Ev.bind (hst v) ?_
    refine Ev.pos (by omega) ?_
    exact ih _ _ _ (hok v).1 (by have:=(hok v).2.1;omega) (by rw[List.length_append,List.length_singleton];omega) (by rw[List.length_append,List.length_singleton];omega)
theorem s13_none (l:List S63)(s:List S86)(tk sd:Int)(ins:List Int)(hn:¬(pScript l=true∧pVisit s tk sd ins=true))(hl:l.length≤1048576)(h:s.length≤1048576)(hf:∀ y∈s,FitimplVersion y)(hi:ins.length≤1048576)(es:List S54)(tr:List S48)(z:Int×List Int×List Int×List Int) :
    Ev (fun k=>spec_l13Run.l0 k l es tr s tk sd ins z.1 z.2.1 z.2.2.1 z.2.2.2) (es,tr):=by
  refine Ev.round (fun _=>by rw[spec_l13Run.l0]) ?_
  refine Ev.bind (sIsScript_ev l hl) ?_
  by_cases c1:pScript l=true
  · refine Ev.pos c1 ?_
    refine Ev.bind (sIsVisit_ev s tk sd ins h hf hi) ?_
    refine Ev.neg (fun c2=>hn ⟨c1,c2⟩) ?_
    refine Ev.round (fun _=>by rw[spec_l13Run.j1]) ?_
    exact Ev.neg (by simp) (Ev.now _)
  · refine Ev.neg c1 ?_
    refine Ev.round (fun _=>by rw[spec_l13Run.j1]) ?_
    exact Ev.neg (by simp) (Ev.now _)
theorem s13_ev (l:List S63)(s:List S86)(tk sd:Int)(ins:List Int)(hl:l.length≤1048576)(h:s.length≤1048576)(hf:∀ y∈s,FitimplVersion y)(hi:ins.length≤1048576):Ev (fun k=>spec_l13Run.f k l s tk sd ins) (pVis l s tk sd ins):=by
  unfold spec_l13Run.f pVis
  refine Ev.bind sStart_ev ?_
  by_cases c:pScript l=true∧pVisit s tk sd ins=true
  · rw[if_pos c]
    have:=pScript_len c.1
    exact s13_l0 l s tk sd ins c.1 c.2 h hf hi 39 [] _ z0 z0_ok (by show _≤(0:Int)+((39:Nat):Int);omega) (by simp) (by simp)
  · rw[if_neg c]
    exact s13_none l s tk sd ins c hl h hf hi [] _ z0
def pLast (tr:List S48):S48:=rd_T48 tr ((tr.length:Int) - 1)
theorem pLast_row {tr:List S48}(h:∀ y∈tr,Row3 y)(h1:1≤tr.length):Row3 (pLast tr):=by
  unfold pLast
  have e:(tr.length:Int) - 1=((tr.length - 1:Nat):Int):=by omega
  rw[e]
  exact h _ (getD_mem tr (tr.length - 1) (by omega) z48)
theorem sRec_ev (l:List S63)(s:List S86)(tk sd:Int)(ins:List Int)(hl:l.length≤1048576)(h:s.length≤1048576)(hf:∀ y∈s,FitimplVersion y)(hi:ins.length≤1048576):Ev (fun k=>spec_RecordVisit.f k l s tk sd ins) ((pVis l s tk sd ins).1,(pLast (pVis l s tk sd ins).2).f0,(pLast (pVis l s tk sd ins).2).f1,(pLast (pVis l s tk sd ins).2).f2,(pLast (pVis l s tk sd ins).2).f3):=by
  obtain⟨⟨y1,y2⟩,y3,y4⟩:=pVis_tr l s tk sd ins
  unfold spec_RecordVisit.f
  refine Ev.bind (s13_ev l s tk sd ins hl h hf hi) ?_
  generalize pVis l s tk sd ins=z at y1 y2 y3 y4 ⊢
  obtain⟨g1,g2,g3⟩:=pLast_row y2 y4
  have e1:wrap64 ((z.2.length:Int) - 1)=(z.2.length:Int) - 1:=w64 (by omega) (by omega)
  rw[e1]
  unfold pLast at g1 g2 g3 ⊢
  exact Ev.pos (by omega) (Ev.pos (by omega) (Ev.now_bind (sCopy_eq _ _ _ _ (by omega) (by omega) (by omega)) (Ev.now _)))
theorem sCapt_ev (s:List S86)(tk sd:Int)(ins:List Int)(es:List S54)(h:s.length≤1048576)(hf:∀ y∈s,FitimplVersion y)(he:es.length≤1048576):∀ (d i:Nat) (out:List S61),i+d=es.length→out.length≤i→Ev (fun k=>spec_CapturesOf.l0 k out es (i:Int) s tk sd ins) (pCapt s tk es d i out):=by
  intro d
  induction d with
  | zero =>
    intro i out hi ho
    refine Ev.round (fun _=>by rw[spec_CapturesOf.l0]) ?_
    exact Ev.neg (by omega) (Ev.now _)
  | succ d ih =>
    intro i out hi ho
    have e1:wrap64 ((i:Int)+1)=((i+1:Nat):Int):=by rw[w64 (by omega) (by omega)];omega
    have hn:=ih (i+1) (pCaptAt s tk es i out) (by omega) (by have:=pCaptAt_len s tk es i out;omega)
    unfold pCapt
    unfold pCaptAt at hn ⊢
    refine Ev.round (fun _=>by rw[spec_CapturesOf.l0]) ?_
    refine Ev.pos (by omega) ?_
    refine Ev.pos (by omega) ?_
    by_cases c:(rd_T54 es (i:Int)).f0=1
    · rw[if_pos c] at hn ⊢
      refine Ev.pos c ?_
      refine Ev.bind (sFollow_ev s _ _ _ _ h hf) ?_
      refine Ev.pos (by omega) ?_
      simp only[e1]
      exact hn
    · rw[if_neg c] at hn ⊢
      refine Ev.neg c ?_
      simp only[e1]
      exact hn
theorem sCaptures_ev (l:List S63)(s:List S86)(tk sd:Int)(ins:List Int)(hl:l.length≤1048576)(h:s.length≤1048576)(hf:∀ y∈s,FitimplVersion y)(hi:ins.length≤1048576):Ev (fun k=>spec_CapturesOf.f k l s tk sd ins) (pCaptures l s tk sd ins):=by
  obtain⟨_,y3,_⟩:=pVis_tr l s tk sd ins
  unfold spec_CapturesOf.f pCaptures
  refine Ev.bind (sRec_ev l s tk sd ins hl h hf hi) ?_
  exact sCapt_ev s tk sd ins (pVis l s tk sd ins).1 h hf (by omega) _ 0 [] (Nat.zero_add _) (Nat.le_refl _)
theorem copyResource_eq (k:Int)(b:List Int)(h p q:Int)(hb:b.length≤1048576):impl_copyResource.f k b h p q=some (k,b,h,p,q):=by
  simp only[impl_copyResource.f,slices_Clone_int_int.f,Option.bind_some,List.nil_append,List.length_nil]
  rw[if_pos (by omega)]
  rfl
theorem iAnswer_ev (l:List S86)(a p q t:Int)(h:l.length≤1048576)(hf:∀ y∈l,FitimplVersion y):Ev (fun k=>impl_AnswerAt.f k l a p q t) (pAnswer l a p q t):=by
  unfold impl_AnswerAt.f pAnswer
  have key:∀ i:Nat,i≤l.length→Ev (fun k=>impl_AnswerAt.l0 k l t ((i:Int) - 1) a p q) ((l.take i).foldl (ansStep a p q t) (4,[],0,0,0)):=by
    intro i
    induction i with
    | zero =>
      intro _
      refine Ev.round (fun _=>by rw[impl_AnswerAt.l0]) ?_
      exact Ev.neg (by omega) (Ev.now _)
    | succ i ih =>
      intro hi
      have h0:=ih (by omega)
      have e0:((i+1:Nat):Int) - 1=(i:Int):=by omega
      have e1:wrap64 ((i:Int) - 1)=(i:Int) - 1:=w64 (by omega) (by omega)
      have hfy:FitimplVersion (rd_T86 l (i:Int)):=hf _ (getD_mem l i (by omega) z86)
      have e2:(l.take (i+1)).foldl (ansStep a p q t) (4,[],0,0,0)=ansStep a p q t ((l.take i).foldl (ansStep a p q t) (4,[],0,0,0)) (rd_T86 l (i:Int)):=by
        rw[List.take_succ_eq_append_getElem (by omega),List.foldl_append]
        have e3:rd_T86 l (i:Int)=l[i]'(by omega):=getD_in l i (by omega) z86
        rw[e3]
        rfl
      rw[e2,e0]
      generalize (l.take i).foldl (ansStep a p q t) (4,[],0,0,0)=x at h0
      refine Ev.round (fun _=>by rw[impl_AnswerAt.l0]) ?_
      refine Ev.pos (by omega) ?_
      refine Ev.pos (by omega) ?_
      refine Ev.pos (by omega) ?_
      generalize hy:rd_T86 l (i:Int)=y at hfy
      simp only[e1]
      unfold ansStep pHere
      cases c1:(y.f0.f0 == a && (y.f0.f1 == p && (y.f0.f2 == q))) with
      | false=>exact Ev.neg (by simp) h0
      | true =>
        refine Ev.pos rfl ?_
        by_cases c2:y.f1≤t
        · rw[decide_eq_true c2]
          exact Ev.pos c2 (Ev.now_bind (copyResource_eq _ _ _ _ _ hfy) (Ev.now _))
        · rw[decide_eq_false c2]
          exact Ev.neg c2 h0
  have h1:=key l.length (by omega)
  rw[List.take_length] at h1
  rw[w64 (by omega) (by omega)]
  exact h1
theorem iHas_ev (c:List S52)(a p q:Int)(h:c.length≤1048576):Ev (fun k=>impl_Address_42.f k c a p q) (pHasA c a p q):=by
  unfold impl_Address_42.f pHasA
  have hx:∃ r:Int,Ev (fun k=>impl_Address_66.f k c a p q) r∧decide (r≥0)=c.any fun y=>y.f0 == a && (y.f1 == p && (y.f2 == q)):=by
    unfold impl_Address_66.f
    refine ev_find (fun k i=>impl_Address_66.l0 k c (c.length:Int) i a p q) c z52 (fun y=>y.f0 == a && (y.f1 == p && (y.f2 == q))) (fun k=>by rw[impl_Address_66.l0,if_neg (by omega)]) ?_ ?_
    · intro i hi hp
      have hp':(a == (rd_T52 c (i:Int)).f0 && (p == (rd_T52 c (i:Int)).f1 && (q == (rd_T52 c (i:Int)).f2)))=true:=by
        rw[Bool.beq_comm (a:=a),Bool.beq_comm (a:=p),Bool.beq_comm (a:=q)]
        exact hp
      refine Ev.round (fun _=>by rw[impl_Address_66.l0]) ?_
      exact Ev.pos (by omega) (Ev.pos (by omega) (Ev.pos (by omega) (Ev.pos hp' (Ev.now _))))
    · intro i hi hp r hr
      have e1:wrap64 ((i:Int)+1)=((i+1:Nat):Int):=by rw[w64 (by omega) (by omega)];omega
      have hp':(a == (rd_T52 c (i:Int)).f0 && (p == (rd_T52 c (i:Int)).f1 && (q == (rd_T52 c (i:Int)).f2)))=false:=by
        rw[Bool.beq_comm (a:=a),Bool.beq_comm (a:=p),Bool.beq_comm (a:=q)]
        exact hp
      refine Ev.round (fun _=>by rw[impl_Address_66.l0]) ?_
      refine Ev.pos (by omega) ?_
      refine Ev.pos (by omega) ?_
      refine Ev.pos (by omega) ?_
      refine Ev.neg (ne_true_of_eq_false hp') ?_
      simp only[e1]
      exact hr
  obtain⟨r,hr,hd⟩:=hx
  rw[←hd]
  exact Ev.bind hr (Ev.now _)
theorem iTrail_ev (l:List S86)(t:Int)(h:l.length≤1048576)(hf:∀ y∈l,FitimplVersion y):∀ (n:Nat) (c:List S52) (r:Rsc),c.length+n=5→Ev (fun k=>impl_FollowAt.l0 k l t c r.1 r.2.1 r.2.2.1 r.2.2.2.1 r.2.2.2.2) (pTrail l t n c r):=by
  intro n
  induction n with
  | zero =>
    intro c r hn
    refine Ev.round (fun _=>by rw[impl_FollowAt.l0]) ?_
    by_cases c1:r.1=3
    · exact Ev.pos c1 (Ev.neg (by omega) (Ev.now _))
    · exact Ev.neg c1 (Ev.now _)
  | succ n ih =>
    intro c r hn
    unfold pTrail
    refine Ev.round (fun _=>by rw[impl_FollowAt.l0]) ?_
    by_cases c1:r.1=3
    · refine Ev.pos c1 ?_
      refine Ev.pos (by omega) ?_
      refine Ev.bind (iHas_ev c r.2.2.1 r.2.2.2.1 r.2.2.2.2 (by omega)) ?_
      cases c2:pHasA c r.2.2.1 r.2.2.2.1 r.2.2.2.2 with
      | true =>
        rw[if_neg (by simp)]
        exact Ev.pos rfl (Ev.now _)
      | false =>
        rw[if_pos ⟨c1,rfl⟩]
        refine Ev.neg (by simp) ?_
        refine Ev.pos (by omega) ?_
        refine Ev.bind (iAnswer_ev l _ _ _ t h hf) ?_
        exact ih _ _ (by simp only[List.length_append,List.length_singleton];omega)
    · rw[if_neg (fun z=>c1 z.1)]
      exact Ev.neg c1 (Ev.now _)
theorem iFollow_ev (l:List S86)(a p q t:Int)(h:l.length≤1048576)(hf:∀ y∈l,FitimplVersion y):Ev (fun k=>impl_FollowAt.f k l a p q t) (pFollow l a p q t):=by
  unfold impl_FollowAt.f pFollow
  exact Ev.bind (iAnswer_ev l a p q t h hf) (iTrail_ev l t h hf 4 _ _ rfl)
theorem at_eq (a b:Int):impl_at.f a b=some (decide (0≤a) && decide (a < b)):=by
  unfold impl_at.f
  by_cases h:0≤a <;> simp[h]
theorem InRange_eq (a b c:Int):impl_InRange.f a b c=some (decide (b≤a) && decide (a≤c)):=by
  unfold impl_InRange.f
  by_cases h:b≤a <;> simp[h]
theorem pIn_at (a:Int):(decide (0≤a) && decide (a < 4))=pIn a 0 3:=by
  have:(a < 4)=(a≤3):=by apply propext;omega
  simp only[this]
theorem pIn_at3 (a:Int):(decide (0≤a) && decide (a < 3))=pIn a 0 2:=by
  have:(a < 3)=(a≤2):=by apply propext;omega
  simp only[this]
theorem iOp_ev (y:S63):Ev (fun k=>impl_isOp.f k y.f0 y.f1 y.f2 y.f3) (pOp y):=by
  unfold impl_isOp.f pOp
  refine Ev.now_and ((at_eq _ _).trans (congrArg some (pIn_at _))) fun _=>?_
  by_cases h1:y.f0=1
  · rw[if_pos h1]
    refine Ev.pos h1 ?_
    exact Ev.now_and (InRange_eq _ _ _) fun _=>Ev.now_bind (InRange_eq _ _ _) (Ev.now _)
  rw[if_neg h1]
  refine Ev.neg h1 ?_
  have hj:∀ x:Bool,(x=true↔y.f0=2∨y.f0=3∨y.f0=4)→Ev (fun k=>impl_isOp.j0 k y.f0 x y.f0 y.f1 y.f2 y.f3) (if y.f0=2∨y.f0=3∨y.f0=4 then decide (y.f2=0) && (y.f3 == 0)
    else if y.f0=5 then pIn y.f2 0 3 && pIn y.f3 0 3
    else if y.f0=6 then pIn y.f2 0 3 && (y.f3 == 0)
    else if y.f0=7 then pIn y.f2 1 3 && (y.f3 == 0)
    else if y.f0=8 then pIn y.f2 0 2 && (y.f3 == 0)
    else if y.f0=9 then pIn y.f2 0 2 && (y.f3 == 0)
    else false):=by
    intro x hx
    refine Ev.round (fun _=>by rw[impl_isOp.j0]) ?_
    cases x with
    | true =>
      rw[if_pos (hx.1 rfl)]
      refine Ev.pos rfl ?_
      exact Ev.if_and fun _=>Ev.now _
    | false =>
      have hno:¬(y.f0=2∨y.f0=3∨y.f0=4):=fun c=>by simpa using hx.2 c
      rw[if_neg hno]
      refine Ev.neg (by simp) ?_
      refine Ev.ite (fun _=>?_) (fun _=>?_)
      · exact Ev.now_and ((at_eq _ _).trans (congrArg some (pIn_at _))) fun _=>Ev.now_bind ((at_eq _ _).trans (congrArg some (pIn_at _))) (Ev.now _)
      refine Ev.ite (fun _=>?_) (fun _=>?_)
      · exact Ev.now_and ((at_eq _ _).trans (congrArg some (pIn_at _))) fun _=>Ev.now _
      refine Ev.ite (fun _=>?_) (fun _=>?_)
      · exact Ev.now_and (InRange_eq _ _ _) fun _=>Ev.now _
      refine Ev.ite (fun _=>?_) (fun _=>?_)
      · exact Ev.now_and ((at_eq _ _).trans (congrArg some (pIn_at3 _))) fun _=>Ev.now _
      refine Ev.ite (fun _=>?_) (fun _=>?_)
      · exact Ev.now_and ((at_eq _ _).trans (congrArg some (pIn_at3 _))) fun _=>Ev.now _
      · exact Ev.now _
  by_cases h2:y.f0=2
  · refine Ev.pos h2 (hj _ ?_)
    simp[h2]
  refine Ev.neg h2 ?_
  by_cases h3:y.f0=3
  · refine Ev.pos h3 (hj _ ?_)
    simp[h3]
  refine Ev.neg h3 (hj _ ?_)
  simp[h2,h3]
theorem iIsScript_ev (l:List S63)(h:l.length≤1048576):Ev (fun k=>impl_IsScript.f k l) (pScript l):=by
  unfold impl_IsScript.f pScript
  rw[Bool.and_comm]
  refine Ev.if_and fun _=>?_
  rw[←not_any]
  refine Ev.no ?_
  unfold slices_ContainsFunc_80.f
  have hf:∃ r:Int,Ev (fun k=>slices_IndexFunc_80.l0 k l (l.length:Int) 0) r∧decide (r≥0)=l.any (fun y=>!pOp y):=by
    refine ev_find (fun k i=>slices_IndexFunc_80.l0 k l (l.length:Int) i) l z63 (fun y=>!pOp y) (fun k=>by rw[slices_IndexFunc_80.l0,if_neg (by omega)]) ?_ ?_
    · intro i hi hp
      refine Ev.round (fun _=>by rw[slices_IndexFunc_80.l0]) ?_
      refine Ev.pos (by omega) ?_
      refine Ev.pos (by omega) ?_
      refine Ev.pos (by omega) ?_
      refine Ev.bind (Ev.no (iOp_ev (rd_T63 l (i:Int)))) ?_
      refine Ev.pos hp ?_
      exact Ev.now _
    · intro i hi hp r hr
      have e1:wrap64 ((i:Int)+1)=((i+1:Nat):Int):=by rw[w64 (by omega) (by omega)];omega
      refine Ev.round (fun _=>by rw[slices_IndexFunc_80.l0]) ?_
      refine Ev.pos (by omega) ?_
      refine Ev.pos (by omega) ?_
      refine Ev.pos (by omega) ?_
      refine Ev.bind (Ev.no (iOp_ev (rd_T63 l (i:Int)))) ?_
      refine Ev.neg (ne_true_of_eq_false hp) ?_
      simp only[e1]
      exact hr
  obtain⟨r,hr,hd⟩:=hf
  rw[←hd]
  exact Ev.bind hr (Ev.now _)
theorem allIn_ev (l:List Int)(a b:Int)(h:l.length≤1048576):Ev (fun k=>impl_allIn.f k l a b) (l.all (pIn · a b)):=by
  unfold impl_allIn.f
  refine Ev.cast (ev_all (fun k i=>impl_allIn.l0 k a b l (l.length:Int) i) l 0 (pIn · a b) true (fun k=>by rw[impl_allIn.l0,if_neg (by omega)]) ?_ ?_) (Bool.and_true _)
  · intro i hi hp r hr
    have e1:wrap64 ((i:Int)+1)=((i+1:Nat):Int):=by rw[w64 (by omega) (by omega)];omega
    refine Ev.round (fun _=>by rw[impl_allIn.l0]) ?_
    refine Ev.pos (by omega) ?_
    refine Ev.pos (by omega) ?_
    refine Ev.pos (by omega) ?_
    refine Ev.now_bind (InRange_eq _ _ _) ?_
    refine Ev.pos ?_ ?_
    · rw[rd_nat];exact hp
    · simp only[e1];exact hr
  · intro i hi hp
    refine Ev.round (fun _=>by rw[impl_allIn.l0]) ?_
    refine Ev.pos (by omega) ?_
    refine Ev.pos (by omega) ?_
    refine Ev.pos (by omega) ?_
    refine Ev.now_bind (InRange_eq _ _ _) ?_
    refine Ev.neg ?_ (Ev.now _)
    rw[rd_nat];exact ne_true_of_eq_false hp
theorem iIsState_ev (a:Int)(r s n:List Int)(h1:r.length≤1048576)(h2:s.length≤1048576)(h3:n.length≤1048576):Ev (fun k=>impl_IsState.f k a r s n) (pState a r s n):=by
  unfold impl_IsState.f pState
  refine Ev.cast (Ev.now_and (InRange_eq _ _ _) fun _=>Ev.if_and fun _=>Ev.if_and fun _=>Ev.if_and fun _=>Ev.and (allIn_ev r 0 999 h1) fun _=>Ev.and (allIn_ev s 0 999 h2) fun _=>Ev.id (allIn_ev n 0 999 h3)) ?_
  rw[Bool.eq_iff_iff]
  simp only[Bool.and_eq_true,decide_eq_true_eq,beq_iff_eq]
  constructor
  · rintro⟨a1,a2,a3,a4,a5,a6,a7⟩;exact⟨a1,⟨a5,a2⟩,⟨a6,a3⟩,a7,a4⟩
  · rintro⟨a1,⟨a5,a2⟩,⟨a6,a3⟩,a7,a4⟩;exact⟨a1,a2,a3,a4,a5,a6,a7⟩
theorem iCan_ev (l:List S63)(a:Int)(r s n:List Int)(h:l.length≤1048576)(h1:r.length≤1048576)(h2:s.length≤1048576)(h3:n.length≤1048576):Ev (fun k=>impl_canStep.f k l a r s n) (pCan l a r s n):=by
  unfold impl_canStep.f pCan
  exact Ev.and (iIsScript_ev l h) fun _=>Ev.and (iIsState_ev a r s n h1 h2 h3) fun _=>Ev.now _
theorem iAsks_eq (k:Int):impl_Asks.f k=some (pAsks k):=by
  unfold impl_Asks.f pAsks
  rw[InRange_eq]
  rfl
theorem iWant_ev (l:List S63)(a:Int)(r s n:List Int)(h:l.length≤1048576)(h1:r.length≤1048576)(h2:s.length≤1048576)(h3:n.length≤1048576):Ev (fun k=>impl_WantOf.f k l a r s n) (pWant l a r s n):=by
  unfold impl_WantOf.f pWant
  refine Ev.bind (iCan_ev l a r s n h h1 h2 h3) ?_
  have hj:Ev (fun k=>impl_WantOf.j0 k l true a r s n) (0,0,0,0):=by
    refine Ev.round (fun _=>by rw[impl_WantOf.j0]) ?_
    refine Ev.pos rfl ?_
    exact Ev.now _
  cases hc:pCan l a r s n with
  | false=>exact Ev.neg (by simp) (Ev.cast hj (by simp))
  | true =>
    obtain⟨f1,f2,f3,f4,f5,f6,f7,f8,f9,_,_⟩:=pCan_facts hc
    refine Ev.pos rfl ?_
    refine Ev.pos f1 ?_
    refine Ev.pos f2 ?_
    refine Ev.now_bind (iAsks_eq _) ?_
    cases hk:pAsks (rd_T63 l a).f0 with
    | false=>exact Ev.cast hj (by simp)
    | true =>
      have hr:=pOp_reg (f9 _ (getD_mem l a.toNat (by omega) z63))
      have hr':0≤(rd_T63 l a).f1∧(rd_T63 l a).f1≤3:=hr
      rw[if_pos ⟨rfl,rfl⟩]
      refine Ev.round (fun _=>by rw[impl_WantOf.j0]) ?_
      refine Ev.neg (by simp) ?_
      refine Ev.pos f1 ?_
      refine Ev.pos f2 ?_
      refine Ev.ite (fun _=>?_) (fun _=>Ev.now _)
      exact Ev.pos hr'.1 (Ev.pos (by omega) (Ev.now _))
theorem iCopy_eq (a:Int)(r s n:List Int)(h1:r.length≤1048576)(h2:s.length≤1048576)(h3:n.length≤1048576):impl_copyState.f a r s n=some (a,r,s,n):=by
  simp only[impl_copyState.f,slices_Clone_int_int.f,Option.bind_some,List.nil_append,List.length_nil]
  rw[if_pos (by omega),if_pos (by omega),if_pos (by omega)]
  rfl
theorem iStep_ev (l:List S63)(a:Int)(r s n:List Int)(v:Int)(h:l.length≤1048576)(h1:r.length≤1048576)(h2:s.length≤1048576)(h3:n.length≤1048576):Ev (fun k=>impl_StepState.f k l a r s n v) (pStep l a r s n v):=by
  unfold impl_StepState.f
  refine Ev.now_bind (iCopy_eq a r s n h1 h2 h3) ?_
  refine Ev.bind (iCan_ev l a r s n h h1 h2 h3) ?_
  dsimp only
  unfold pStep
  by_cases c:pCan l a r s n=true
  · obtain⟨f1,f2,f3,f4,f5,f6,f7,f8,f9,f10,f11⟩:=pCan_facts c
    have ho:pOp (rd_T63 l a)=true:=f9 _ (getD_mem l a.toNat (by omega) z63)
    have hr:=pOp_reg ho
    refine Ev.rpos c ?_
    refine Ev.pos c ?_
    refine Ev.pos f1 ?_
    refine Ev.pos f2 ?_
    refine Ev.ite (fun c5=>?_) (fun c5=>?_)
    · have ha:=pOp_5 ho c5
      refine Ev.pos ha.1 ?_
      refine Ev.pos (by omega) ?_
      refine Ev.pos ha.2.2.1 ?_
      refine Ev.pos (by omega) ?_
      refine Ev.pos hr.1 ?_
      refine Ev.pos (by omega) ?_
      exact Ev.now _
    refine Ev.ite (fun c6=>?_) (fun c6=>?_)
    · have ha:=pOp_6 ho c6
      refine Ev.pos hr.1 ?_
      refine Ev.pos (by omega) ?_
      refine Ev.pos ha.1 ?_
      refine Ev.pos (by omega) ?_
      exact Ev.now _
    refine Ev.ite (fun c7=>?_) (fun c7=>?_)
    · refine Ev.pos hr.1 ?_
      refine Ev.pos (by omega) ?_
      exact Ev.ite (fun _=>Ev.now _) (fun _=>Ev.now _)
    refine Ev.ite (fun c8=>?_) (fun c8=>?_)
    · have ha:=pOp_8 ho c8
      refine Ev.pos ha.1 ?_
      refine Ev.pos (by omega) ?_
      refine Ev.pos hr.1 ?_
      refine Ev.pos (by omega) ?_
      exact Ev.now _
    refine Ev.ite (fun c9=>?_) (fun c9=>?_)
    · have ha:=pOp_9 ho c9
      refine Ev.pos hr.1 ?_
      refine Ev.pos (by omega) ?_
      refine Ev.pos ha.1 ?_
      refine Ev.pos (by omega) ?_
      exact Ev.now _
    refine Ev.pos hr.1 ?_
    refine Ev.pos (by omega) ?_
    rw[←pClamp_impl v]
    exact Ev.now _
  · refine Ev.rneg c ?_
    exact Ev.neg c (Ev.now _)
theorem iStart_eq:impl_StartState.f=some (0,[0,0,0,0],[0,0,0],[0,0,0,0]):=rfl
theorem iIsAddress_eq (h p q:Int):impl_IsAddress.f h p q=some (pAddr h p q):=by
  simp only[impl_IsAddress.f,InRange_eq,Option.bind_some,some_and]
theorem iIsResource_ev (k:Int)(b:List Int)(h p q:Int)(hb:b.length≤1048576):Ev (fun n=>impl_IsResource.f n k b h p q) (pRes k b h p q):=by
  have hj:∀ x:Bool,(x=true↔k=1∨k=2)→Ev (fun n=>impl_IsResource.j0 n k x k b h p q) (pRes k b h p q):=by
    intro x hx
    refine Ev.round (fun _=>by rw[impl_IsResource.j0]) ?_
    unfold pRes
    cases x with
    | true =>
      refine Ev.rpos (hx.1 rfl) ?_
      refine Ev.pos rfl ?_
      exact Ev.if_and fun _=>Ev.and (allIn_ev b 0 255 hb) fun _=>Ev.now _
    | false =>
      have hno:¬(k=1∨k=2):=fun c=>by simpa using hx.2 c
      refine Ev.rneg hno ?_
      refine Ev.neg (by simp) ?_
      by_cases h3:k=3
      · refine Ev.rpos h3 ?_
        refine Ev.pos h3 ?_
        exact Ev.if_and fun _=>Ev.now_bind (iIsAddress_eq _ _ _) (Ev.now _)
      · refine Ev.rneg h3 ?_
        refine Ev.neg h3 ?_
        by_cases h4:k=4
        · refine Ev.rpos h4 ?_
          refine Ev.pos h4 ?_
          exact Ev.if_and fun _=>Ev.now _
        · refine Ev.rneg h4 ?_
          refine Ev.neg h4 ?_
          exact Ev.now _
  unfold impl_IsResource.f
  by_cases h1:k=1
  · refine Ev.pos h1 (hj _ ?_)
    simp[h1]
  · refine Ev.neg h1 (hj _ ?_)
    simp[h1]
theorem iIsSiteLit_ev (y:S86)(hf:FitimplVersion y):Ev (fun k=>impl_IsSite_lit1.f k y.f0.f0 y.f0.f1 y.f0.f2 y.f1 y.f2.f0 y.f2.f1 y.f2.f2.f0 y.f2.f2.f1 y.f2.f2.f2) (!pVersion y):=by
  unfold impl_IsSite_lit1.f pVersion
  refine Ev.now_bind (iIsAddress_eq _ _ _) ?_
  cases p1:pAddr y.f0.f0 y.f0.f1 y.f0.f2 with
  | false=>exact Ev.neg (by simp) (Ev.now _)
  | true =>
    refine Ev.pos rfl ?_
    refine Ev.now_bind (InRange_eq _ _ _) ?_
    cases p2:pIn y.f1 0 1000 with
    | false=>exact Ev.neg (ne_true_of_eq_false p2) (Ev.now _)
    | true =>
      refine Ev.pos p2 ?_
      rw[Bool.true_and,Bool.true_and]
      exact Ev.no (iIsResource_ev _ _ _ _ _ hf)
theorem iIsSite_ev (l:List S86)(h:l.length≤1048576)(hf:∀ y∈l,FitimplVersion y):Ev (fun k=>impl_IsSite.f k l) (pIsSite l):=by
  unfold impl_IsSite.f pIsSite
  rw[Bool.and_comm]
  refine Ev.if_and fun _=>?_
  rw[←any_not]
  refine Ev.no ?_
  unfold slices_ContainsFunc_97.f
  have hf:∃ r:Int,Ev (fun k=>slices_IndexFunc_97.l0 k l (l.length:Int) 0) r∧decide (r≥0)=l.any (fun y=>!pVersion y):=by
    refine ev_find (fun k i=>slices_IndexFunc_97.l0 k l (l.length:Int) i) l z86 (fun y=>!pVersion y) (fun k=>by rw[slices_IndexFunc_97.l0,if_neg (by omega)]) ?_ ?_
    · intro i hi hp
      refine Ev.round (fun _=>by rw[slices_IndexFunc_97.l0]) ?_
      refine Ev.pos (by omega) ?_
      refine Ev.pos (by omega) ?_
      refine Ev.pos (by omega) ?_
      refine Ev.bind (iIsSiteLit_ev (rd_T86 l (i:Int)) (hf _ (getD_mem l i hi z86))) ?_
      refine Ev.pos hp ?_
      exact Ev.now _
    · intro i hi hp r hr
      have e1:wrap64 ((i:Int)+1)=((i+1:Nat):Int):=by rw[w64 (by omega) (by omega)];omega
      refine Ev.round (fun _=>by rw[slices_IndexFunc_97.l0]) ?_
      refine Ev.pos (by omega) ?_
      refine Ev.pos (by omega) ?_
      refine Ev.pos (by omega) ?_
      refine Ev.bind (iIsSiteLit_ev (rd_T86 l (i:Int)) (hf _ (getD_mem l i hi z86))) ?_
      refine Ev.neg (ne_true_of_eq_false hp) ?_
      simp only[e1]
      exact hr
  obtain⟨r,hr,hd⟩:=hf
  rw[←hd]
  exact Ev.bind hr (Ev.now _)
theorem iIsVisit_ev (s:List S86)(t sd:Int)(i:List Int)(h:s.length≤1048576)(hf:∀ y∈s,FitimplVersion y)(hi:i.length≤1048576):Ev (fun k=>impl_IsVisit.f k s t sd i) (pVisit s t sd i):=by
  unfold impl_IsVisit.f pVisit
  exact Ev.and (iIsSite_ev s h hf) fun _=>Ev.now_and (InRange_eq _ _ _) fun _=>Ev.now_and (InRange_eq _ _ _) fun _=>Ev.if_and fun _=>Ev.id (allIn_ev i 0 999 hi)
theorem iMod_eq (a b:Int):impl_Mod.f a b=some (pMod a b):=by
  unfold impl_Mod.f pMod
  rw[InRange_eq,Option.bind_some]
  by_cases h:1≤b∧b≤1000000000000
  · rw[if_pos h,if_pos (by simp[h.1,h.2]),if_neg (by omega)]
  · rw[if_neg h,if_neg]
    intro c
    simp only[Bool.and_eq_true,decide_eq_true_eq] at c
    exact h c
theorem iHash_ev (l:List Int)(h:l.length≤1048576):Ev (fun k=>impl_Hash.f k l) (pHash l):=by
  unfold impl_Hash.f pHash
  refine ev_foldl (fun k x i=>impl_Hash.l0 k x l (l.length:Int) i) l 0 hashStep (fun x=>x) (fun _ _=>True) 11 trivial ?_ ?_
  · intro x _
    refine Ev.round (fun _=>by rw[impl_Hash.l0]) ?_
    exact Ev.neg (by omega) (Ev.now _)
  · intro i x hi _
    have e1:wrap64 ((i:Int)+1)=((i+1:Nat):Int):=by rw[w64 (by omega) (by omega)];omega
    refine⟨trivial,fun r hr=>?_⟩
    refine Ev.round (fun _=>by rw[impl_Hash.l0]) ?_
    refine Ev.pos (by omega) ?_
    refine Ev.pos (by omega) ?_
    refine Ev.pos (by omega) ?_
    simp only[e1,rd_nat]
    exact Ev.now_bind (iMod_eq _ _) hr
theorem hasBody_eq (k:Int):impl_hasBody.f k=some (decide (k=1∨k=2)):=by
  unfold impl_hasBody.f
  by_cases h:k=1
  · simp[h]
  · by_cases h2:k=2
    · simp[h2]
    · simp[h,h2]
theorem iValue_ev (k:Int)(b:List Int)(h p q:Int)(hb:b.length≤1048576):Ev (fun n=>impl_ValueOfResource.f n k b h p q) (pVal k b h p q):=by
  have hj1:Ev (fun n=>impl_ValueOfResource.j0 n true k b h p q) 0:=by
    refine Ev.round (fun _=>by rw[impl_ValueOfResource.j0]) ?_
    refine Ev.pos rfl ?_
    exact Ev.now _
  unfold impl_ValueOfResource.f pVal
  refine Ev.bind (iIsResource_ev k b h p q hb) ?_
  cases hr:pRes k b h p q with
  | false =>
    refine Ev.neg (by simp) ?_
    exact Ev.cast hj1 (by simp)
  | true =>
    refine Ev.pos rfl ?_
    refine Ev.now_bind (hasBody_eq k) ?_
    by_cases hk:k=1∨k=2
    · rw[if_pos ⟨rfl,hk⟩,decide_eq_true hk]
      obtain⟨hl,hy⟩:=pRes_body hr hk
      refine Ev.round (fun _=>by rw[impl_ValueOfResource.j0]) ?_
      refine Ev.neg (by simp) ?_
      refine ev_foldl (fun n x i=>impl_ValueOfResource.l0 n x b (b.length:Int) i) b 0 (fun x y=>x+y) (fun x=>if x % 1000 < 999 then x % 1000+1 else 999) (fun i x=>0≤x∧x≤255 * (i:Int)) 0 ⟨by omega,by omega⟩ ?_ ?_
      · intro x hx
        have e2:Int.tmod x 1000=x % 1000:=Int.tmod_eq_emod_of_nonneg (by omega)
        refine Ev.round (fun _=>by rw[impl_ValueOfResource.l0]) ?_
        refine Ev.neg (by omega) ?_
        simp only[e2]
        by_cases c:x % 1000 < 999
        · refine Ev.rpos c ?_
          refine Ev.pos c ?_
          rw[w64 (by omega) (by omega)]
          exact Ev.now _
        · refine Ev.rneg c ?_
          refine Ev.neg c ?_
          exact Ev.cast (Ev.now _) (by omega)
      · intro i x hi hx
        have e1:wrap64 ((i:Int)+1)=((i+1:Nat):Int):=by rw[w64 (by omega) (by omega)];omega
        have hv:=hy _ (getD_mem b i hi 0)
        refine⟨⟨by omega,by omega⟩,fun r hr2=>?_⟩
        refine Ev.round (fun _=>by rw[impl_ValueOfResource.l0]) ?_
        refine Ev.pos (by omega) ?_
        refine Ev.pos (by omega) ?_
        refine Ev.pos (by omega) ?_
        have e2:wrap64 (x+rd b (i:Int))=x+b.getD i 0:=by
          rw[rd_nat,w64 (by omega) (by omega)]
        simp only[e1,e2]
        exact hr2
    · rw[if_neg (fun c=>hk c.2),decide_eq_false hk]
      exact hj1
theorem iLive_ev (s:List S86)(tk sd:Int)(ins:List Int)(w0 w1 w2 w3 n:Int)(h:s.length≤1048576)(hf:∀ y∈s,FitimplVersion y)(hi:ins.length≤1048576):Ev (fun k=>impl_LiveValue.f k s tk sd ins w0 w1 w2 w3 n) (pLive s tk sd ins w0 w1 w2 w3 n):=by
  have hno:¬(pVisit s tk sd ins=true∧pIn n 0 100=true)→Ev (fun k=>impl_LiveValue.j0 k n true s tk sd ins w0 w1 w2 w3) (pLive s tk sd ins w0 w1 w2 w3 n):=by
    intro c
    unfold pLive
    rw[if_neg c]
    refine Ev.round (fun _=>by rw[impl_LiveValue.j0]) ?_
    exact Ev.pos rfl (Ev.now _)
  unfold impl_LiveValue.f
  refine Ev.bind (iIsVisit_ev s tk sd ins h hf hi) ?_
  cases hv:pVisit s tk sd ins with
  | false =>
    refine Ev.neg (by simp) ?_
    exact hno (by simp[hv])
  | true =>
    refine Ev.pos rfl ?_
    refine Ev.now_bind (InRange_eq _ _ _) ?_
    cases hp:pIn n 0 100 with
    | false =>
      have hp2:(decide (0≤n) && decide (n≤100))=false:=hp
      rw[hp2]
      exact hno (by simp[hp])
    | true =>
      have hp2:(decide (0≤n) && decide (n≤100))=true:=hp
      rw[hp2]
      unfold pLive
      rw[if_pos ⟨hv,hp⟩]
      simp only[pIn,Bool.and_eq_true,decide_eq_true_eq] at hp
      refine Ev.round (fun _=>by rw[impl_LiveValue.j0]) ?_
      refine Ev.neg (by simp) ?_
      by_cases c1:w0=1
      · rw[if_pos c1]
        exact Ev.pos c1 (Ev.bind (iFollow_ev s w1 w2 w3 (wrap64 (tk+n)) h hf) (Ev.id (iValue_ev _ _ _ _ _ (pFollow_fit s w1 w2 w3 (wrap64 (tk+n)) hf))))
      rw[if_neg c1]
      refine Ev.neg c1 ?_
      by_cases c2:w0=2
      · rw[if_pos c2]
        exact Ev.pos c2 (Ev.now _)
      rw[if_neg c2]
      refine Ev.neg c2 ?_
      by_cases c3:w0=3
      · rw[if_pos c3]
        exact Ev.pos c3 (Ev.bind (iHash_ev _ (by simp)) (Ev.now_bind (iMod_eq _ _) (Ev.now _)))
      rw[if_neg c3]
      refine Ev.neg c3 ?_
      by_cases c4:w0=4
      · refine Ev.rpos c4 ?_
        refine Ev.pos c4 ?_
        by_cases c5:(ins.length:Int) > 0
        · refine Ev.rpos c5 ?_
          have m0:0≤Int.tmod n (ins.length:Int):=Int.tmod_nonneg _ hp.1
          have m1:Int.tmod n (ins.length:Int) < (ins.length:Int):=Int.tmod_lt_of_pos _ c5
          exact Ev.pos c5 (Ev.neg (by omega) (Ev.pos m0 (Ev.pos m1 (Ev.now _))))
        · refine Ev.rneg c5 ?_
          exact Ev.neg c5 (Ev.now _)
      refine Ev.rneg c4 ?_
      exact Ev.neg c4 (Ev.now _)
theorem i13_l0 (l:List S63)(s:List S86)(tk sd:Int)(ins:List Int)(hs:pScript l=true)(h:s.length≤1048576)(hf:∀ y∈s,FitimplVersion y)(hi:ins.length≤1048576):∀ (m:Nat) (es:List S54) (tr:List S48) (z:Int×List Int×List Int×List Int),StOk z→(l.length:Int)≤z.1+(m:Int)→es.length+m≤1000→tr.length+m≤1000 →
    Ev (fun k=>impl_visited.l0 k l es tr s tk sd ins z.1 z.2.1 z.2.2.1 z.2.2.2) (pSeen l s tk sd ins (m+1) es tr z):=by
  have hl:=pScript_len hs
  intro m
  induction m with
  | zero =>
    intro es tr z hz hm he ht
    have c1:(l.length:Int)≤z.1:=by omega
    rw[pSeen,if_pos c1]
    refine Ev.round (fun _=>by rw[impl_visited.l0]) ?_
    refine Ev.now_bind rfl ?_
    exact Ev.pos (decide_eq_true c1) (Ev.now _)
  | succ m ih =>
    intro es tr z hz hm he ht
    by_cases c1:(l.length:Int)≤z.1
    · rw[pSeen,if_pos c1]
      refine Ev.round (fun _=>by rw[impl_visited.l0]) ?_
      refine Ev.now_bind rfl ?_
      exact Ev.pos (decide_eq_true c1) (Ev.now _)
    have hc:=can_of hs hz c1
    obtain⟨g1,g2,g3⟩:=StOk_len hz
    have hw:=iWant_ev l z.1 z.2.1 z.2.2.1 z.2.2.2 (by omega) (by omega) (by omega) (by omega)
    have hst:=fun v=>iStep_ev l z.1 z.2.1 z.2.2.1 z.2.2.2 v (by omega) (by omega) (by omega) (by omega)
    have hok:=fun v=>pStep_ok l z.1 z.2.1 z.2.2.1 z.2.2.2 v hc
    rw[pSeen,if_neg c1]
    unfold pSeen.pAns
    refine Ev.round (fun _=>by rw[impl_visited.l0]) ?_
    refine Ev.now_bind rfl ?_
    refine Ev.neg (by simp only[decide_eq_true_eq];omega) ?_
    refine Ev.bind hw ?_
    generalize pWant l z.1 z.2.1 z.2.2.1 z.2.2.2=w
    try dsimp only
    by_cases cw:w.1=0
    · rw[if_pos cw]
      refine Ev.pos cw ?_
      refine Ev.bind (hst 0) ?_
      refine Ev.pos (by omega) ?_
      exact ih es _ _ (hok 0).1 (by have:=(hok 0).2.1;omega) (by omega) (by rw[List.length_append,List.length_singleton];omega)
    rw[if_neg cw]
    refine Ev.neg cw ?_
    refine Ev.bind (iLive_ev s tk sd ins w.1 w.2.1 w.2.2.1 w.2.2.2 (es.length:Int) h hf hi) ?_
    refine Ev.pos (by omega) ?_
    generalize pLive s tk sd ins w.1 w.2.1 w.2.2.1 w.2.2.2 (es.length:Int)=v
    refine Ev.bind (hst v) ?_
    refine Ev.pos (by omega) ?_
    exact ih _ _ _ (hok v).1 (by have:=(hok v).2.1;omega) (by rw[List.length_append,List.length_singleton];omega) (by rw[List.length_append,List.length_singleton];omega)
theorem i13_ev (l:List S63)(s:List S86)(tk sd:Int)(ins:List Int)(hl:l.length≤1048576)(h:s.length≤1048576)(hf:∀ y∈s,FitimplVersion y)(hi:ins.length≤1048576):Ev (fun k=>impl_visited.f k l s tk sd ins) (pVis l s tk sd ins):=by
  unfold impl_visited.f pVis
  refine Ev.now_bind iStart_eq ?_
  refine Ev.now_bind rfl ?_
  refine Ev.bind (iIsScript_ev l hl) ?_
  by_cases c1:pScript l=true
  · refine Ev.pos c1 ?_
    refine Ev.bind (iIsVisit_ev s tk sd ins h hf hi) ?_
    refine Ev.round (fun _=>by rw[impl_visited.j0]) ?_
    by_cases c2:pVisit s tk sd ins=true
    · rw[if_pos ⟨c1,c2⟩]
      have:=pScript_len c1
      refine Ev.neg (by simp[c2]) ?_
      exact i13_l0 l s tk sd ins c1 h hf hi 39 [] _ z0 z0_ok (by show _≤(0:Int)+((39:Nat):Int);omega) (by simp) (by simp)
    · rw[if_neg (fun h=>c2 h.2)]
      exact Ev.pos (by simp[c2]) (Ev.now _)
  · rw[if_neg (fun h=>c1 h.1)]
    refine Ev.neg c1 ?_
    refine Ev.round (fun _=>by rw[impl_visited.j0]) ?_
    exact Ev.pos rfl (Ev.now _)
theorem iRec_ev (l:List S63)(s:List S86)(tk sd:Int)(ins:List Int)(hl:l.length≤1048576)(h:s.length≤1048576)(hf:∀ y∈s,FitimplVersion y)(hi:ins.length≤1048576):Ev (fun k=>impl_RecordVisit.f k l s tk sd ins) ((pVis l s tk sd ins).1,(pLast (pVis l s tk sd ins).2).f0,(pLast (pVis l s tk sd ins).2).f1,(pLast (pVis l s tk sd ins).2).f2,(pLast (pVis l s tk sd ins).2).f3):=by
  obtain⟨⟨y1,y2⟩,y3,y4⟩:=pVis_tr l s tk sd ins
  unfold impl_RecordVisit.f
  refine Ev.bind (i13_ev l s tk sd ins hl h hf hi) ?_
  generalize pVis l s tk sd ins=z at y1 y2 y3 y4 ⊢
  obtain⟨g1,g2,g3⟩:=pLast_row y2 y4
  have e1:wrap64 ((z.2.length:Int) - 1)=(z.2.length:Int) - 1:=w64 (by omega) (by omega)
  have e2:impl_last.f z.2=some ((pLast z.2).f0,(pLast z.2).f1,(pLast z.2).f2,(pLast z.2).f3):=by
    unfold impl_last.f
    rw[e1,if_pos (by omega),if_pos (by omega)]
    unfold pLast at g1 g2 g3 ⊢
    rw[iCopy_eq _ _ _ _ (by omega) (by omega) (by omega)]
    rfl
  exact Ev.now_bind e2 (Ev.now _)
theorem iCapt_ev (s:List S86)(tk sd:Int)(ins:List Int)(es:List S54)(h:s.length≤1048576)(hf:∀ y∈s,FitimplVersion y)(he:es.length≤1048576):∀ (d i:Nat) (out:List S61),i+d=es.length→out.length≤i→Ev (fun k=>impl_CapturesOf.l0 k out es (es.length:Int) (i:Int) s tk sd ins) (pCapt s tk es d i out):=by
  intro d
  induction d with
  | zero =>
    intro i out hi ho
    refine Ev.round (fun _=>by rw[impl_CapturesOf.l0]) ?_
    exact Ev.neg (by omega) (Ev.now _)
  | succ d ih =>
    intro i out hi ho
    have e1:wrap64 ((i:Int)+1)=((i+1:Nat):Int):=by rw[w64 (by omega) (by omega)];omega
    have hn:=ih (i+1) (pCaptAt s tk es i out) (by omega) (by have:=pCaptAt_len s tk es i out;omega)
    unfold pCapt
    unfold pCaptAt at hn ⊢
    refine Ev.round (fun _=>by rw[impl_CapturesOf.l0]) ?_
    refine Ev.pos (by omega) ?_
    refine Ev.pos (by omega) ?_
    refine Ev.pos (by omega) ?_
    by_cases c:(rd_T54 es (i:Int)).f0=1
    · rw[if_pos c] at hn ⊢
      refine Ev.pos c ?_
      refine Ev.bind (iFollow_ev s _ _ _ _ h hf) ?_
      refine Ev.pos (by omega) ?_
      simp only[e1]
      exact hn
    · rw[if_neg c] at hn ⊢
      refine Ev.neg c ?_
      simp only[e1]
      exact hn
theorem iCaptures_ev (l:List S63)(s:List S86)(tk sd:Int)(ins:List Int)(hl:l.length≤1048576)(h:s.length≤1048576)(hf:∀ y∈s,FitimplVersion y)(hi:ins.length≤1048576):Ev (fun k=>impl_CapturesOf.f k l s tk sd ins) (pCaptures l s tk sd ins):=by
  obtain⟨_,y3,_⟩:=pVis_tr l s tk sd ins
  unfold impl_CapturesOf.f pCaptures
  refine Ev.bind (iRec_ev l s tk sd ins hl h hf hi) ?_
  exact iCapt_ev s tk sd ins (pVis l s tk sd ins).1 h hf (by omega) _ 0 [] (Nat.zero_add _) (Nat.le_refl _)
theorem now_at {α β:Type}{v v':β}{g:Nat→β→Option α}{r:α}(h:v=v')(k:Ev (fun n=>g n v') r):Ev (fun n=>(some v).bind (g n)) r:=by
  subst h
  exact Ev.bind (Ev.now v) k
theorem set_mid {α:Type}(P Q:List α)(e x:α)(i:Nat)(h:P.length=i):(P++e :: Q).set ((i:Int)).toNat x=P++x :: Q:=by
  subst h
  simp
theorem getD_mid {α:Type}(P Q:List α)(e d:α)(i:Nat)(h:P.length=i):(P++e :: Q).getD ((i:Int)).toNat d=e:=by
  subst h
  simp
def bodyFrom (n:Nat)(a:Int):List Int:=(List.range n).map fun j:Nat=>a+(j:Int)
def mkC (y:S61)(a:Int):S61:=⟨⟨a,a+1,a+1+1⟩,a+1+1+1,⟨a+1+1+1+1,bodyFrom y.f2.f1.length (a+1+1+1+1+1),⟨a+1+1+1+1+1+(y.f2.f1.length:Int),a+1+1+1+1+1+(y.f2.f1.length:Int)+1,a+1+1+1+1+1+(y.f2.f1.length:Int)+1+1⟩⟩⟩
def nxC (y:S61)(a:Int):Int:=a+1+1+1+1+1+(y.f2.f1.length:Int)+1+1+1
def mkCs:List S61→Int→List S61
  | [],_=>[]
  | y :: l,a=>mkC y a :: mkCs l (nxC y a)
def endC:List S61→Int→Int
  | [],a=>a
  | y :: l,a=>endC l (nxC y a)
theorem endC_ge:∀ (l:List S61) (a:Int),a≤endC l a:=by
  intro l
  induction l with
  | nil=>intro a;exact Int.le_refl _
  | cons y l ih =>
    intro a
    have:=ih (nxC y a)
    unfold endC
    unfold nxC at this ⊢
    omega
theorem mkCs_length:∀ (l:List S61) (a:Int),(mkCs l a).length=l.length:=by
  intro l
  induction l with
  | nil=>intro a;rfl
  | cons y l ih=>intro a;unfold mkCs;rw[List.length_cons,List.length_cons,ih]
theorem rdC_mid (P Q:List S61)(e:S61)(i:Nat)(h:P.length=i):rd_T61 (P++e :: Q) (i:Int)=e:=getD_mid P Q e _ i h
theorem markC_ev:∀ (l P:List S61) (i:Nat) (a:Int),P.length=i→(P++l).length≤1048576→(∀ y∈l,y.f2.f1.length≤1048576)→0≤a→endC l a≤1152921504600000000→Ev (fun k=>laws_markCaptureS.l0 k (P++l) a (i:Int)) (endC l a,P++mkCs l a):=by
  intro l
  induction l with
  | nil =>
    intro P i a hP hl hf h0 h1
    refine Ev.round (fun _=>by rw[laws_markCaptureS.l0]) ?_
    refine Ev.neg (by simp;omega) ?_
    exact Ev.now _
  | cons e l ih =>
    intro P i a hP hl hf h0 h1
    have hn:=hf e (List.mem_cons_self ..)
    rw[List.length_append,List.length_cons] at hl
    have hge:nxC e a≤endC l (nxC e a):=endC_ge l (nxC e a)
    have h1':endC l (nxC e a)≤1152921504600000000:=h1
    have hnx:nxC e a=a+8+(e.f2.f1.length:Int):=by unfold nxC;omega
    have hb:a+8+(e.f2.f1.length:Int)≤1152921504600000000:=by omega
    clear h1 hge
    have w1:wrap64 (a+1)=a+1:=w64 (by omega) (by omega)
    have w2:wrap64 (a+1+1)=a+1+1:=w64 (by omega) (by omega)
    have w3:wrap64 (a+1+1+1)=a+1+1+1:=w64 (by omega) (by omega)
    have w4:wrap64 (a+1+1+1+1)=a+1+1+1+1:=w64 (by omega) (by omega)
    have w5:wrap64 (a+1+1+1+1+1)=a+1+1+1+1+1:=w64 (by omega) (by omega)
    have w6:wrap64 (a+1+1+1+1+1+(e.f2.f1.length:Int)+1)=a+1+1+1+1+1+(e.f2.f1.length:Int)+1:=w64 (by omega) (by omega)
    have w7:wrap64 (a+1+1+1+1+1+(e.f2.f1.length:Int)+1+1)=a+1+1+1+1+1+(e.f2.f1.length:Int)+1+1:=w64 (by omega) (by omega)
    have w8:wrap64 (a+1+1+1+1+1+(e.f2.f1.length:Int)+1+1+1)=a+1+1+1+1+1+(e.f2.f1.length:Int)+1+1+1:=w64 (by omega) (by omega)
    have e1:wrap64 ((i:Int)+1)=((i+1:Nat):Int):=by rw[w64 (by omega) (by omega)];omega
    refine Ev.round (fun _=>by rw[laws_markCaptureS.l0]) ?_
    refine Ev.pos (by rw[List.length_append,List.length_cons];(clear w1 w2 w3 w4 w5 w6 w7 w8 e1;omega)) ?_
    refine Ev.pos (by(clear w1 w2 w3 w4 w5 w6 w7 w8 e1;omega)) ?_
    simp only[w1,w2,w3,w4,w5,e1]
    refine now_at (set_mid P l e _ i hP) ?_
    simp only[rdC_mid _ _ _ _ hP]
    refine now_at (set_mid P l _ _ i hP) ?_
    simp only[rdC_mid _ _ _ _ hP]
    refine now_at (set_mid P l _ _ i hP) ?_
    simp only[rdC_mid _ _ _ _ hP]
    refine now_at (set_mid P l _ _ i hP) ?_
    simp only[rdC_mid _ _ _ _ hP]
    refine now_at (set_mid P l _ _ i hP) ?_
    simp only[rdC_mid _ _ _ _ hP]
    refine Ev.bind (markIntS_ev e.f2.f1 (a+1+1+1+1+1) hn (by(clear w1 w2 w3 w4 w5 w6 w7 w8 e1;omega)) (by(clear w1 w2 w3 w4 w5 w6 w7 w8 e1;omega))) ?_
    dsimp only
    simp only[w6,w7,w8]
    refine now_at (set_mid P l _ _ i hP) ?_
    simp only[rdC_mid _ _ _ _ hP]
    refine now_at (set_mid P l _ _ i hP) ?_
    simp only[rdC_mid _ _ _ _ hP]
    refine now_at (set_mid P l _ _ i hP) ?_
    simp only[rdC_mid _ _ _ _ hP]
    rw[set_mid P l _ _ i hP]
    have h:=ih (P++[mkC e a]) (i+1) (nxC e a) (by rw[List.length_append,List.length_singleton,hP]) (by rw[List.length_append,List.length_append,List.length_singleton];(clear w1 w2 w3 w4 w5 w6 w7 w8 e1;omega)) (fun y hy=>hf y (List.mem_cons_of_mem _ hy)) (by(clear w1 w2 w3 w4 w5 w6 w7 w8 e1;omega)) h1'
    rw[List.append_assoc,List.append_assoc] at h
    exact h
theorem heldC_ev:∀ (l P:List S61) (i:Nat) (a:Int),P.length=i→(P++l).length≤1048576→(∀ y∈l,y.f2.f1.length≤1048576)→0≤a→endC l a≤1152921504600000000→Ev (fun k=>laws_heldCaptureS.l0 k (P++mkCs l a) a (i:Int)) (endC l a):=by
  intro l
  induction l with
  | nil =>
    intro P i a hP hl hf h0 h1
    refine Ev.round (fun _=>by rw[laws_heldCaptureS.l0]) ?_
    refine Ev.neg (by unfold mkCs;simp;omega) ?_
    exact Ev.now _
  | cons e l ih =>
    intro P i a hP hl hf h0 h1
    have hn:=hf e (List.mem_cons_self ..)
    rw[List.length_append,List.length_cons] at hl
    have hge:nxC e a≤endC l (nxC e a):=endC_ge l (nxC e a)
    have h1':endC l (nxC e a)≤1152921504600000000:=h1
    have hnx:nxC e a=a+8+(e.f2.f1.length:Int):=by unfold nxC;omega
    have hb:a+8+(e.f2.f1.length:Int)≤1152921504600000000:=by omega
    clear h1 hge
    have w1:wrap64 (a+1)=a+1:=w64 (by omega) (by omega)
    have w2:wrap64 (a+1+1)=a+1+1:=w64 (by omega) (by omega)
    have w3:wrap64 (a+1+1+1)=a+1+1+1:=w64 (by omega) (by omega)
    have w4:wrap64 (a+1+1+1+1)=a+1+1+1+1:=w64 (by omega) (by omega)
    have w5:wrap64 (a+1+1+1+1+1)=a+1+1+1+1+1:=w64 (by omega) (by omega)
    have w6:wrap64 (a+1+1+1+1+1+(e.f2.f1.length:Int)+1)=a+1+1+1+1+1+(e.f2.f1.length:Int)+1:=w64 (by omega) (by omega)
    have w7:wrap64 (a+1+1+1+1+1+(e.f2.f1.length:Int)+1+1)=a+1+1+1+1+1+(e.f2.f1.length:Int)+1+1:=w64 (by omega) (by omega)
    have w8:wrap64 (a+1+1+1+1+1+(e.f2.f1.length:Int)+1+1+1)=a+1+1+1+1+1+(e.f2.f1.length:Int)+1+1+1:=w64 (by omega) (by omega)
    have e1:wrap64 ((i:Int)+1)=((i+1:Nat):Int):=by rw[w64 (by omega) (by omega)];omega
    have h:=ih (P++[mkC e a]) (i+1) (nxC e a) (by rw[List.length_append,List.length_singleton,hP]) (by rw[List.length_append,List.length_append,List.length_singleton];(clear w1 w2 w3 w4 w5 w6 w7 w8 e1;omega)) (fun y hy=>hf y (List.mem_cons_of_mem _ hy)) (by(clear w1 w2 w3 w4 w5 w6 w7 w8 e1;omega)) h1'
    rw[List.append_assoc] at h
    have hL:(P++mkC e a :: mkCs l (nxC e a)).length=P.length+(l.length+1):=by rw[List.length_append,List.length_cons,mkCs_length]
    unfold mkCs endC
    refine Ev.round (fun _=>by rw[laws_heldCaptureS.l0]) ?_
    refine Ev.pos (by rw[hL];(clear w1 w2 w3 w4 w5 w6 w7 w8 e1;omega)) ?_
    refine Ev.pos (by(clear w1 w2 w3 w4 w5 w6 w7 w8 e1;omega)) ?_
    simp only[w1,w2,w3,w4,w5,e1,rdC_mid _ _ _ _ hP]
    refine Ev.pos rfl ?_
    refine Ev.pos rfl ?_
    refine Ev.pos rfl ?_
    refine Ev.pos rfl ?_
    refine Ev.pos rfl ?_
    refine Ev.bind (heldIntS_ev e.f2.f1.length (a+1+1+1+1+1) hn (by(clear w1 w2 w3 w4 w5 w6 w7 w8 e1;omega)) (by(clear w1 w2 w3 w4 w5 w6 w7 w8 e1;omega))) ?_
    simp only[w6,w7,w8]
    exact Ev.neg (by(clear w1 w2 w3 w4 w5 w6 w7 w8 e1;omega)) (Ev.pos rfl (Ev.pos rfl (Ev.pos rfl h)))
theorem endC_le:∀ (l:List S61) (a:Int),(∀ y∈l,FitimplCapture y)→endC l a≤a+1048600 * (l.length:Int):=by
  intro l
  induction l with
  | nil=>intro a _;simp[endC]
  | cons y l ih =>
    intro a hf
    have hy:y.f2.f1.length≤1048576:=hf y (List.mem_cons_self ..)
    have:=ih (nxC y a) (fun z hz=>hf z (List.mem_cons_of_mem _ hz))
    rw[List.length_cons]
    unfold endC
    unfold nxC at this ⊢
    omega
theorem markCaptureS_ev (l:List S61)(a:Int)(h:l.length≤1048576)(hf:∀ y∈l,FitimplCapture y)(h0:0≤a)(h1:a≤1000000000000000):Ev (fun k=>laws_markCaptureS.f k l a) (endC l a,mkCs l a):=markC_ev l [] 0 a rfl (by simpa using h) hf h0 (by have:=endC_le l a hf;omega)
theorem heldCaptureS_ev (l:List S61)(a:Int)(h:l.length≤1048576)(hf:∀ y∈l,FitimplCapture y)(h0:0≤a)(h1:a≤1000000000000000):Ev (fun k=>laws_heldCaptureS.f k (mkCs l a) a) (endC l a):=heldC_ev l [] 0 a rfl (by simpa using h) hf h0 (by have:=endC_le l a hf;omega)
theorem ex_round {α:Type}{g f:Nat→Option α}{Q:α→Prop}(h:∀ k,g (k+1)=f k)(e:∃ r,Ev f r∧Q r):∃ r,Ev g r∧Q r:=by
  obtain⟨r,e,q⟩:=e
  exact⟨r,Ev.round h e,q⟩
theorem ex_pos {α:Type}{c:Prop} [Decidable c] {f g:Nat→Option α}{Q:α→Prop}(hc:c)(e:∃ r,Ev f r∧Q r):∃ r,Ev (fun k=>if c then f k else g k) r∧Q r:=by
  obtain⟨r,e,q⟩:=e
  exact⟨r,Ev.pos hc e,q⟩
theorem ex_neg {α:Type}{c:Prop} [Decidable c] {f g:Nat→Option α}{Q:α→Prop}(hc:¬c)(e:∃ r,Ev g r∧Q r):∃ r,Ev (fun k=>if c then f k else g k) r∧Q r:=by
  obtain⟨r,e,q⟩:=e
  exact⟨r,Ev.neg hc e,q⟩
theorem ex_bind {α β:Type}{f:Nat→Option β}{g:Nat→β→Option α}{v:β}{Q:α→Prop}(h:Ev f v)(e:∃ r,Ev (fun k=>g k v) r∧Q r):∃ r,Ev (fun k=>(f k).bind (g k)) r∧Q r:=by
  obtain⟨r,e,q⟩:=e
  exact⟨r,Ev.bind h e,q⟩
/-- What is handed on is told by one of its properties alone. -/
theorem ex_some {α β:Type}{v:β}{g:Nat→β→Option α}{P:β→Prop}{Q:α→Prop}(hP:P v)(h:∀ y,P y→∃ r,Ev (fun k=>g k y) r∧Q r):∃ r,Ev (fun k=>(some v).bind (g k)) r∧Q r:=by
  obtain⟨r,e,q⟩:=h v hP
  exact⟨r,Ev.bind (Ev.now v) e,q⟩
theorem wraps5 (a:Int)(h0:0≤a)(h1:a≤1152921504606846976):wrap64 ((wrap64 ((wrap64 ((wrap64 ((wrap64 (a+1))+1))+1))+1))+1)=a+5:=by
  rw[w64 (n:=a+1) (by omega) (by omega),w64 (n:=a+1+1) (by omega) (by omega),w64 (n:=a+1+1+1) (by omega) (by omega),w64 (n:=a+1+1+1+1) (by omega) (by omega),w64 (n:=a+1+1+1+1+1) (by omega) (by omega)]
  omega
theorem wraps3 (a:Int)(h0:0≤a)(h1:a≤1152921504606846976):wrap64 ((wrap64 ((wrap64 (a+1))+1))+1)=a+3:=by
  rw[w64 (n:=a+1) (by omega) (by omega),w64 (n:=a+1+1) (by omega) (by omega),w64 (n:=a+1+1+1) (by omega) (by omega)]
  omega
def GoodVersion (n:Nat)(y:List S86):Prop:=y.length=n∧∀ z∈y,z.f2.f1.length≤1048576
theorem goodVersion_set {n:Nat}{y:List S86}(h:GoodVersion n y)(j:Nat)(e:S86)(he:e.f2.f1.length≤1048576):GoodVersion n (y.set j e):=by
  refine⟨by rw[List.length_set];exact h.1,fun z hz=>?_⟩
  rcases List.mem_or_eq_of_mem_set hz with hz | hz
  · exact h.2 z hz
  · rw[hz];exact he
theorem goodVersion_rd {n:Nat}{y:List S86}(h:GoodVersion n y)(i:Nat)(hi:i < n):(rd_T86 y (i:Int)).f2.f1.length≤1048576:=h.2 _ (getD_mem y i (by rw[h.1];exact hi) z86)
theorem markVersionS_from (l:List S86)(n:Int)(h:l.length≤1048576)(hf:∀ y∈l,FitimplVersion y)(g0:0≤n)(g1:n≤100000000):∃ r,Ev (fun k=>laws_markVersionS.f k l n) r∧(0≤r∧r≤2000000000000):=by
  unfold laws_markVersionS.f
  have key:∀ (d i:Nat) (y:List S86) (a:Int),i+d=l.length→GoodVersion l.length y→0≤a→a≤n+1048584 * (i:Int)→∃ r,Ev (fun k=>laws_markVersionS.l0 k y a (i:Int)) r∧(0≤r∧r≤2000000000000):=by
    intro d
    induction d with
    | zero =>
      intro i y a hi hy h0 h1
      have hl:=hy.1
      refine ex_round (fun _=>by rw[laws_markVersionS.l0]) ?_
      refine ex_neg (by omega) ?_
      exact⟨a,Ev.now _,h0,by omega⟩
    | succ d ih =>
      intro i y a hi hy h0 h1
      have hl:=hy.1
      have hin:i < l.length:=by omega
      have e1:wrap64 ((i:Int)+1)=((i+1:Nat):Int):=by rw[w64 (by omega) (by omega)];omega
      refine ex_round (fun _=>by rw[laws_markVersionS.l0]) ?_
      refine ex_pos (by omega) ?_
      refine ex_pos (by omega) ?_
      refine ex_some (P:=GoodVersion l.length) (goodVersion_set hy _ _ (goodVersion_rd hy i hin)) (fun y hy=>?_)
      refine ex_some (P:=GoodVersion l.length) (goodVersion_set hy _ _ (goodVersion_rd hy i hin)) (fun y hy=>?_)
      refine ex_some (P:=GoodVersion l.length) (goodVersion_set hy _ _ (goodVersion_rd hy i hin)) (fun y hy=>?_)
      refine ex_some (P:=GoodVersion l.length) (goodVersion_set hy _ _ (goodVersion_rd hy i hin)) (fun y hy=>?_)
      refine ex_some (P:=GoodVersion l.length) (goodVersion_set hy _ _ (goodVersion_rd hy i hin)) (fun y hy=>?_)
      have hb:=goodVersion_rd hy i hin
      rw[wraps5 a h0 (by omega)]
      refine ex_bind (markIntS_ev _ (a+5) hb (by omega) (by omega)) ?_
      dsimp only
      refine ex_some (P:=GoodVersion l.length) (goodVersion_set hy _ _ (by simpa using hb)) (fun y2 hy2=>?_)
      refine ex_some (P:=GoodVersion l.length) (goodVersion_set hy2 _ _ (goodVersion_rd hy2 i hin)) (fun y3 hy3=>?_)
      refine ex_some (P:=GoodVersion l.length) (goodVersion_set hy3 _ _ (goodVersion_rd hy3 i hin)) (fun y4 hy4=>?_)
      rw[wraps3 _ (by omega) (by omega),e1]
      exact ih (i+1) _ _ (by omega) (goodVersion_set hy4 _ _ (goodVersion_rd hy4 i hin)) (by omega) (by omega)
  exact key l.length 0 l n (by omega) ⟨rfl,hf⟩ (by omega) (by omega)
theorem markVersionS_some (l:List S86)(h:l.length≤1048576)(hf:∀ y∈l,FitimplVersion y):∃ r,Ev (fun k=>laws_markVersionS.f k l 1) r∧(0≤r∧r≤2000000000000):=markVersionS_from l 1 h hf (by omega) (by omega)
theorem markVisit_some (s:List S86)(t sd:Int)(i:List Int)(h:s.length≤1048576)(hf:∀ y∈s,FitimplVersion y)(hi:i.length≤1048576):∃ r,Ev (fun k=>laws_markVisit.f k s t sd i 1) r∧0≤r.1:=by
  obtain⟨n,e,h0,h1⟩:=markVersionS_some s h hf
  unfold laws_markVisit.f
  refine ex_bind e ?_
  refine ex_bind (markIntS_ev i n hi (by omega) (by omega)) ?_
  refine⟨_,Ev.now _,?_⟩
  dsimp only
  omega
theorem markVisit_from (s:List S86)(t sd:Int)(i:List Int)(n:Int)(h:s.length≤1048576)(hf:∀ y∈s,FitimplVersion y)(hi:i.length≤1048576)(g0:0≤n)(g1:n≤100000000):∃ r,Ev (fun k=>laws_markVisit.f k s t sd i n) r∧0≤r.1:=by
  obtain⟨m,e,h0,h1⟩:=markVersionS_from s n h hf g0 g1
  unfold laws_markVisit.f
  refine ex_bind e ?_
  refine ex_bind (markIntS_ev i m hi (by omega) (by omega)) ?_
  refine⟨_,Ev.now _,?_⟩
  dsimp only
  omega
theorem FnExactCapturesOf (l0:List S65)(l1_0:List S78)(a1_1:Int)(a1_2:Int)(l1_3:List Int)(h0:(l0.length≤maxLen∧∀ e_∈l0,W65 e_))(h1:(l1_0.length≤maxLen∧∀ e_∈l1_0,W78 e_))(h2:(Lit.int .i64 a1_1).wf=true)(h3:(Lit.int .i64 a1_2).wf=true)(h4:(l1_3.length≤maxLen∧∀ e_∈l1_3,(Lit.int .i64 e_).wf=true)):∃ k,laws_FnExactCapturesOf.f k l0 l1_0 a1_1 a1_2 l1_3=some true:=by
  obtain⟨r0,e0,b0,g0⟩:=szOpS_some l0 1048576 h0.1 (by omega) (by omega)
  refine Ev.rounds ?_
  unfold laws_FnExactCapturesOf.f
  refine Ev.now_bind e0 ?_
  by_cases c0:r0 < 0
  · exact Ev.pos c0 (Ev.now _)
  have hl:=g0 (by omega)
  have hm:(l0.map cvOp).length≤1048576:=by simpa using hl
  obtain⟨r,e,b,g⟩:=szVisit_some l1_0 a1_1 a1_2 l1_3 r0 ⟨h1.1,fun y hy=>(h1.2 y hy).2.2.2.1.1⟩ h4.1 (by omega) (by omega)
  refine Ev.neg c0 ?_
  refine Ev.bind e ?_
  by_cases c:r < 0
  · exact Ev.pos c (Ev.now _)
  obtain⟨⟨hl2,hy⟩,hi⟩:=g (by omega)
  have hm2:(l1_0.map cvVersion).length≤1048576:=by simpa using hl2
  have hf:∀ y∈l1_0.map cvVersion,FitimplVersion y:=by
    intro y h
    obtain⟨z,hz,rfl⟩:=List.mem_map.1 h
    exact hy z hz
  have t1:=toVisit_ev l1_0 a1_1 a1_2 l1_3 ⟨hl2,hy⟩ hi
  have t2:=toOpS_ev l0 hl
  have s1:=sCaptures_ev (l0.map cvOp) (l1_0.map cvVersion) a1_1 a1_2 l1_3 hm hm2 hf hi
  have i1:=iCaptures_ev (l0.map cvOp) (l1_0.map cvVersion) a1_1 a1_2 l1_3 hm hm2 hf hi
  obtain⟨fo,y1⟩:=pCaptures_fit (l0.map cvOp) (l1_0.map cvVersion) a1_1 a1_2 l1_3 hf
  generalize pCaptures (l0.map cvOp) (l1_0.map cvVersion) a1_1 a1_2 l1_3=z at s1 i1 y1 fo
  have q:=eqCaptureS_refl z (by omega) fo
  have hk:=markCaptureS_ev z 1 (by omega) fo (by omega) (by omega)
  have hd:=heldCaptureS_ev z 1 (by omega) fo (by omega) (by omega)
  have v3:=endC_ge z 1
  obtain⟨mv,em,hm0⟩:=markVisit_from (l1_0.map cvVersion) a1_1 a1_2 l1_3 (1+4 * ((l0.map cvOp).length:Int)) hm2 hf hi (by omega) (by omega)
  refine Ev.neg c ?_
  refine Ev.bind t2 ?_
  refine Ev.bind t1 ?_
  refine Ev.bind s1 ?_
  refine Ev.bind i1 ?_
  refine Ev.bind q ?_
  refine Ev.pos rfl ?_
  refine Ev.bind (eqOpS_refl _ hm) ?_
  refine Ev.pos rfl ?_
  refine Ev.bind (eqVisit_refl _ _ _ _ ⟨hm2,hf⟩ hi) ?_
  refine Ev.pos rfl ?_
  refine Ev.bind (markOpS_ev _ 1 hm (by omega) (by omega)) ?_
  refine Ev.bind em ?_
  refine Ev.neg (by omega) ?_
  refine Ev.bind hk ?_
  refine Ev.bind hd ?_
  dsimp only
  exact Ev.neg (by omega) (Ev.pos rfl (Ev.now _))
end Go.Proofs.Ytenpfphghheggaa.Pure
