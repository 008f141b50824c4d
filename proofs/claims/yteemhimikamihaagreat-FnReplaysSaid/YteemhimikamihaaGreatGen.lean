import Derived.Test.YteemhimikamihaaGreatWMore
import Derived.Laws.BitsLemmas
namespace Go.Proofs.YteemhimikamihaaGreat.Gen
open Go.RowKit Go.Proofs.YteemhimikamihaaGreatW.PrintWords Go.Proofs.YteemhimikamihaaGreatW.PrintMore
theorem w64 {n:Int}(h0:-9223372036854775808≤n)(h1:n≤9223372036854775807):wrap64 n=n:=by unfold wrap64;omega
section
variable {α β ρ:Type}
theorem Ev.const {g:Nat→Option α}{r:α}(h:∀ k,g k=some r):Ev g r:=⟨0,fun k _=>h k⟩
theorem Ev.pos {c:Prop} [Decidable c] {A B:Nat→Option α}{r:α}(h:c)(k:Ev A r):Ev (fun n=>if c then A n else B n) r:=by
  obtain⟨K,k⟩:=k
  exact⟨K,fun n hn=>by simp only[if_pos h];exact k n hn⟩
theorem Ev.neg {c:Prop} [Decidable c] {A B:Nat→Option α}{r:α}(h:¬c)(k:Ev B r):Ev (fun n=>if c then A n else B n) r:=by
  obtain⟨K,k⟩:=k
  exact⟨K,fun n hn=>by simp only[if_neg h];exact k n hn⟩
theorem Ev.ite {c:Prop} [Decidable c] {A B:Nat→Option α}{r s:α}(k:c→Ev A r)(l:¬c→Ev B s):Ev (fun n=>if c then A n else B n) (if c then r else s):=by
  by_cases h:c
  · rw[if_pos h];exact Ev.pos h (k h)
  · rw[if_neg h];exact Ev.neg h (l h)
theorem Ev.cast {g:Nat→Option α}{r s:α}(h:Ev g r)(e:r=s):Ev g s:=e ▸ h
theorem Ev.now_bind {o:Option α}{f:Nat→α→Option β}{a:α}{r:β}(h:o=some a)(k:Ev (fun n=>f n a) r):Ev (fun n=>o.bind (f n)) r:=by
  subst h
  exact k
theorem ev_down (G:Nat→Nat→Option ρ)(n:Nat)(R:Nat→ρ)(hend:Ev (fun k=>G k n) (R n))
    (hstep:∀ i,i < n→Ev (fun k=>G k (i+1)) (R (i+1))→Ev (fun k=>G k i) (R i)):Ev (fun k=>G k 0) (R 0):=by
  have key:∀ d i,i+d=n→Ev (fun k=>G k i) (R i):=by
    intro d
    induction d with
    | zero =>
      intro i hi
      obtain rfl:i=n:=by omega
      exact hend
    | succ d ih =>
      intro i hi
      exact hstep i (by omega) (ih (i+1) (by omega))
  exact key n 0 (by omega)
theorem Ev.round {g:Nat→Option α}{f:Nat→Option α}{r:α}(h:∀ k,g (k+1)=f k)(k:Ev f r):Ev g r:=Ev.step h k
end
theorem drop_cons {α:Type}(l:List α)(i:Nat)(h:i < l.length)(d:α):l.drop i=l.getD i d :: l.drop (i+1):=by
  rw[List.drop_eq_getElem_cons h,List.getD_eq_getElem?_getD,List.getElem?_eq_getElem h]
  rfl
theorem getD_in {α:Type}(l:List α)(i:Nat)(h:i < l.length)(d:α):l.getD i d=l[i]:=by
  rw[List.getD_eq_getElem?_getD,List.getElem?_eq_getElem h]
  rfl
theorem getD_mem {α:Type}(l:List α)(i:Nat)(h:i < l.length)(d:α):l.getD i d∈l:=by
  rw[getD_in l i h d]
  exact List.getElem_mem h
theorem rd_nat (l:List Int)(i:Nat):rd l (i:Int)=l.getD i 0:=by simp[rd]
section
variable {α β ρ:Type}
theorem ev_all (F:Nat→Int→Option Bool)(l:List α)(d:α)(p:α→Bool)(b:Bool)
    (hend:∀ k,F (k+1) (l.length:Int)=some b)
    (hyes:∀ i:Nat,i < l.length→p (l.getD i d)=true→∀ r,Ev (fun k=>F k ((i+1:Nat):Int)) r→Ev (fun k=>F k (i:Int)) r)
    (hno:∀ i:Nat,i < l.length→p (l.getD i d)=false→Ev (fun k=>F k (i:Int)) false) :
    Ev (fun k=>F k 0) (l.all p && b):=by
  have h:=ev_down (fun k i=>F k (i:Int)) l.length (fun i=>(l.drop i).all p && b) (Ev.round hend (Ev.const fun _=>by simp))
    (fun i hi h=>by
      rw[drop_cons l i hi d,List.all_cons]
      cases hp:p (l.getD i d) with
      | true=>simpa using hyes i hi hp _ h
      | false=>simpa using hno i hi hp)
  simpa using h
theorem ev_foldl (F:Nat→β→Int→Option ρ)(l:List α)(d:α)(f:β→α→β)(g:β→ρ)(Inv:Nat→β→Prop)(b:β)(h0:Inv 0 b)
    (hend:∀ x,Inv l.length x→Ev (fun k=>F k x (l.length:Int)) (g x))
    (hstep:∀ (i:Nat) (x:β),i < l.length→Inv i x→Inv (i+1) (f x (l.getD i d))∧∀ r,Ev (fun k=>F k (f x (l.getD i d)) ((i+1:Nat):Int)) r→Ev (fun k=>F k x (i:Int)) r) :
    Ev (fun k=>F k b 0) (g (l.foldl f b)):=by
  have key:∀ dd i x,i+dd=l.length→Inv i x→Ev (fun k=>F k x (i:Int)) (g ((l.drop i).foldl f x)):=by
    intro dd
    induction dd with
    | zero =>
      intro i x hi hx
      obtain rfl:i=l.length:=by omega
      have:=hend x hx
      simpa using this
    | succ dd ih =>
      intro i x hi hx
      obtain⟨h1,h2⟩:=hstep i x (by omega) hx
      rw[drop_cons l i (by omega) d,List.foldl_cons]
      exact h2 _ (ih (i+1) _ (by omega) h1)
  simpa using key l.length 0 b (by omega) h0
end
theorem zip_getD {α:Type}(a b:List α)(h:a.length=b.length)(i:Nat)(hi:i < a.length)(d:α):(a.zip b).getD i (d,d)=(a.getD i d,b.getD i d):=by
  have h1:i < (a.zip b).length:=by simp;omega
  rw[getD_in _ _ h1,getD_in _ _ hi,getD_in _ _ (by omega),List.getElem_zip]
theorem ev_all2 {α:Type}(F:Nat→Int→Option Bool)(a b:List α)(d:α)(p:α→α→Bool)(hab:a.length=b.length)
    (hend:∀ k,F (k+1) (a.length:Int)=some true)
    (hyes:∀ i:Nat,i < a.length→p (a.getD i d) (b.getD i d)=true→∀ r,Ev (fun k=>F k ((i+1:Nat):Int)) r→Ev (fun k=>F k (i:Int)) r)
    (hno:∀ i:Nat,i < a.length→p (a.getD i d) (b.getD i d)=false→Ev (fun k=>F k (i:Int)) false) :
    Ev (fun k=>F k 0) ((a.zip b).all fun q=>p q.1 q.2):=by
  have hl:(a.zip b).length=a.length:=by simp;omega
  have h:=ev_all F (a.zip b) (d,d) (fun q=>p q.1 q.2) true (by rw[hl];exact hend)
    (fun i hi hp=>hyes i (by omega) (by rw[zip_getD a b hab i (by omega) d] at hp;exact hp))
    (fun i hi hp=>hno i (by omega) (by rw[zip_getD a b hab i (by omega) d] at hp;exact hp))
  simpa using h
theorem zip_all_eq {α:Type} [DecidableEq α]:∀ (a b:List α),a.length=b.length→((a.zip b).all fun q=>decide (q.1=q.2))=decide (a=b)
  | [],[],_=>by simp
  | x :: a,y :: b,h=>by
    have:=zip_all_eq a b (by simpa using h)
    simp only[List.zip_cons_cons,List.all_cons,this]
    by_cases h1:x=y <;> by_cases h2:a=b <;> simp[h1,h2]
abbrev pIn (a b c:Int):Bool:=decide (b≤a) && decide (a≤c)
abbrev pAddr (h p q:Int):Bool:=pIn h 1 9 && (pIn p 0 99 && pIn q 0 99)
abbrev pZero (h p q:Int):Bool:=h == 0 && (p == 0 && (q == 0))
theorem some_and (a b:Bool):(if a=true then some b else some false)=some (a && b):=by cases a <;> simp
theorem Ev.and {A B:Nat→Option Bool}{a b:Bool}(hA:Ev A a)(hB:a=true→Ev B b):Ev (fun n=>(A n).bind fun t=>if t=true then B n else some false) (a && b):=by
  refine Ev.bind hA ?_
  cases a with
  | true=>exact Ev.pos rfl (hB rfl)
  | false=>exact Ev.neg (by simp) (Ev.now _)
theorem Ev.now_and {o:Option Bool}{B:Nat→Option Bool}{a b:Bool}(hA:o=some a)(hB:a=true→Ev B b):Ev (fun n=>o.bind fun t=>if t=true then B n else some false) (a && b):=by
  subst hA
  exact Ev.and (A:=fun _=>some a) (Ev.now a) hB
theorem Ev.if_and {c:Prop} [Decidable c] {B:Nat→Option Bool}{b:Bool}(hB:c→Ev B b):Ev (fun n=>if c then B n else some false) (decide c && b):=by
  by_cases h:c
  · refine Ev.pos h ?_
    simpa [h] using hB h
  · refine Ev.neg h ?_
    simpa [h] using Ev.now false
theorem Ev.id {α:Type}{A:Nat→Option α}{a:α}(h:Ev A a):Ev (fun n=>(A n).bind fun t=>some t) a:=Ev.bind h (Ev.now _)
theorem Ev.no {A:Nat→Option Bool}{a:Bool}(h:Ev A a):Ev (fun n=>(A n).bind fun t=>some (!t)) (!a):=Ev.bind h (Ev.now _)
theorem ev_find {α:Type}(F:Nat→Int→Option Int)(l:List α)(d:α)(p:α→Bool)
    (hend:∀ k,F (k+1) (l.length:Int)=some (-1))
    (hyes:∀ i:Nat,i < l.length→p (l.getD i d)=true→Ev (fun k=>F k (i:Int)) (i:Int))
    (hno:∀ i:Nat,i < l.length→p (l.getD i d)=false→∀ r,Ev (fun k=>F k ((i+1:Nat):Int)) r→Ev (fun k=>F k (i:Int)) r) :
    ∃ r:Int,Ev (fun k=>F k 0) r∧decide (r≥0)=l.any p:=by
  have key:∀ dd i:Nat,i+dd=l.length→∃ r:Int,Ev (fun k=>F k (i:Int)) r∧decide (r≥0)=(l.drop i).any p:=by
    intro dd
    induction dd with
    | zero =>
      intro i hi
      obtain rfl:i=l.length:=by omega
      exact⟨-1,Ev.round hend (Ev.now _),by simp⟩
    | succ dd ih =>
      intro i hi
      have hil:i < l.length:=by omega
      rw[drop_cons l i hil d,List.any_cons]
      cases hp:p (l.getD i d) with
      | true=>exact⟨(i:Int),hyes i hil hp,by simp⟩
      | false =>
        obtain⟨r,hr,hd⟩:=ih (i+1) (by omega)
        exact⟨r,hno i hil hp r hr,by simpa using hd⟩
  simpa using key l.length 0 (by omega)
theorem Ev.rpos {α:Type}{c:Prop} [Decidable c] {g:Nat→Option α}{r s:α}(h:c)(k:Ev g r):Ev g (if c then r else s):=by rw[if_pos h];exact k
theorem Ev.rneg {α:Type}{c:Prop} [Decidable c] {g:Nat→Option α}{r s:α}(h:¬c)(k:Ev g s):Ev g (if c then r else s):=by rw[if_neg h];exact k
theorem any_not {α:Type}(l:List α)(p:α→Bool):(!(l.any fun y=>!p y))=l.all p:=by
  rw[List.all_eq_not_any_not]
end Go.Proofs.YteemhimikamihaaGreat.Gen
