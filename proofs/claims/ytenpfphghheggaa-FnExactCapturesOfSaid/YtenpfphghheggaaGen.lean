import Derived.Test.YtenpfphghheggaaWMore
import Derived.Laws.BitsLemmas
namespace Go.Proofs.Ytenpfphghheggaa.Gen
open Go.RowKit Go.Proofs.YtenpfphghheggaaW.PrintWords Go.Proofs.YtenpfphghheggaaW.PrintMore
theorem w64 {n:Int}(h0:-9223372036854775808≤n)(h1:n≤9223372036854775807):wrap64 n=n:=by unfold wrap64;omega
section
variable {α β ρ:Type}
theorem Ev.const {g:Nat→Option α}{r:α}(h:∀ k,g k=some r):Ev g r:=⟨0,fun k _=>h k⟩
theorem Ev.pos {c:Prop} [Decidable c] {A B:Nat→Option α}{r:α}(h:c)(k:Ev A r):Ev (fun n=>if c then A n else B n) r:=by
  obtain⟨K,k⟩:=k
  exact⟨K,fun n hn=>by simp only[if_pos h];exact k n hn⟩
theorem Ev.neg {c:Prop} [Decidable c] {A B:Nat→Option α}{r:α}(h:¬c)(k:Ev B r):Ev (fun n=>if c then A n else B n) r:=by
  obtain⟨K,k⟩:=k
  exact⟨K,fun n hn=>by simp only[if_neg h];exact k n hn⟩
theorem Ev.ite {c:Prop} [Decidable c] {A B:Nat→Option α}{r s:α}(k:c→Ev A r)(l:¬c→Ev B s):Ev (fun n=>if c then A n else B n) (if c then r else s):=by
  by_cases h:c
  · rw[if_pos h];exact Ev.pos h (k h)
  · rw[if_neg h];exact Ev.neg h (l h)
theorem Ev.cast {g:Nat→Option α}{r s:α}(h:Ev g r)(e:r=s):Ev g s:=e ▸ h
theorem Ev.now_bind {o:Option α}{f:Nat→α→Option β}{a:α}{r:β}(h:o=some a)(k:Ev (fun n=>f n a) r):Ev (fun n=>o.bind (f n)) r:=by
  subst h
  exact k
theorem ev_down (G:Nat→Nat→Option ρ)(n:Nat)(R:Nat→ρ)(hend:Ev (fun k=>G k n) (R n))
    (hstep:∀ i,i < n→Ev (fun k=>G k (i+1)) (R (i+1))→Ev (fun k=>G k i) (R i)):Ev (fun k=>G k 0) (R 0):=by
  have key:∀ d i,i+d=n→Ev (fun k=>G k i) (R i):=by
    intro d
    induction d with
    | zero =>
      intro i hi
      obtain rfl:i=n:=by omega
      exact hend
    | succ d ih =>
      intro i hi
      exact hstep i (by omega) (ih (i+1) (by omega))
  exact key n 0 (by omega)
theorem Ev.round {g:Nat→Option α}{f:Nat→Option α}{r:α}(h:∀ k,g (k+1)=f k)(k:Ev f r):Ev g r:=Ev.step h k
end
theorem drop_cons {α:Type}(l:List α)(i:Nat)(h:i < l.length)(d:α):l.drop i=l.getD i d :: l.drop (i+1):=by
  rw[List.drop_eq_getElem_cons h,List.getD_eq_getElem?_getD,List.getElem?_eq_getElem h]
  rfl
theorem getD_in {α:Type}(l:List α)(i:Nat)(h:i < l.length)(d:α):l.getD i d=l[i]:=by
  rw[List.getD_eq_getElem?_getD,List.getElem?_eq_getElem h]
  rfl
theorem getD_mem {α:Type}(l:List α)(i:Nat)(h:i < l.length)(d:α):l.getD i d∈l:=by
  rw[getD_in l i h d]
  exact List.getElem_mem h
theorem rd_nat (l:List Int)(i:Nat):rd l (i:Int)=l.getD i 0:=by simp[rd]
theorem fill_step {α β:Type}(l:List α)(f:α→β)(z:β)(d:α)(i:Nat)(h:i < l.length) :
    ((l.take i).map f++List.replicate (l.length - i) z).set i (f (l.getD i d))=(l.take (i+1)).map f++List.replicate (l.length - (i+1)) z:=by
  have h1:((l.take i).map f).length=i:=by simp;omega
  rw[List.set_append_right _ _ (by omega),h1,Nat.sub_self,show l.length - i=(l.length - (i+1))+1 by omega,List.replicate_succ,List.set_cons_zero,getD_in l i h d,List.take_succ_eq_append_getElem h,List.map_append,List.append_assoc]
  rfl
theorem fill_length {α β:Type}(l:List α)(f:α→β)(z:β)(i:Nat)(h:i≤l.length):((l.take i).map f++List.replicate (l.length - i) z).length=l.length:=by simp;omega
theorem fill_zero {α β:Type}(l:List α)(f:α→β)(z:β):(l.take 0).map f++List.replicate (l.length - 0) z=List.replicate l.length z:=by simp
theorem fill_full {α β:Type}(l:List α)(f:α→β)(z:β):(l.take l.length).map f++List.replicate (l.length - l.length) z=l.map f:=by simp
section
variable {α β ρ:Type}
theorem ev_fill (F:Nat→List β→Int→Option (List β))(l:List α)(d:α)(f:α→β)(z:β)
    (hend:∀ k x,F (k+1) x (l.length:Int)=some x)
    (hstep:∀ (i:Nat) (x:List β) (r:List β),i < l.length→x.length=l.length→Ev (fun k=>F k (x.set i (f (l.getD i d))) ((i+1:Nat):Int)) r→Ev (fun k=>F k x (i:Int)) r) :
    Ev (fun k=>F k (List.replicate l.length z) 0) (l.map f):=by
  have h:=ev_down (fun k i=>F k ((l.take i).map f++List.replicate (l.length - i) z) (i:Int)) l.length (fun _=>l.map f)
    (Ev.round (hend · _) (Ev.const fun _=>by rw[fill_full]))
    (fun i hi h=>hstep i _ _ hi (fill_length l f z i (by omega)) (by rw[fill_step l f z d i hi];exact h))
  have e:=fill_zero l f z
  simp only[e] at h
  exact h
theorem ev_all (F:Nat→Int→Option Bool)(l:List α)(d:α)(p:α→Bool)(b:Bool)
    (hend:∀ k,F (k+1) (l.length:Int)=some b)
    (hyes:∀ i:Nat,i < l.length→p (l.getD i d)=true→∀ r,Ev (fun k=>F k ((i+1:Nat):Int)) r→Ev (fun k=>F k (i:Int)) r)
    (hno:∀ i:Nat,i < l.length→p (l.getD i d)=false→Ev (fun k=>F k (i:Int)) false) :
    Ev (fun k=>F k 0) (l.all p && b):=by
  have h:=ev_down (fun k i=>F k (i:Int)) l.length (fun i=>(l.drop i).all p && b) (Ev.round hend (Ev.const fun _=>by simp))
    (fun i hi h=>by
      rw[drop_cons l i hi d,List.all_cons]
      cases hp:p (l.getD i d) with
      | true=>simpa using hyes i hi hp _ h
      | false=>simpa using hno i hi hp)
  simpa using h
theorem ev_foldl (F:Nat→β→Int→Option ρ)(l:List α)(d:α)(f:β→α→β)(g:β→ρ)(Inv:Nat→β→Prop)(b:β)(h0:Inv 0 b)
    (hend:∀ x,Inv l.length x→Ev (fun k=>F k x (l.length:Int)) (g x))
    (hstep:∀ (i:Nat) (x:β),i < l.length→Inv i x→Inv (i+1) (f x (l.getD i d))∧∀ r,Ev (fun k=>F k (f x (l.getD i d)) ((i+1:Nat):Int)) r→Ev (fun k=>F k x (i:Int)) r) :
    Ev (fun k=>F k b 0) (g (l.foldl f b)):=by
  have key:∀ dd i x,i+dd=l.length→Inv i x→Ev (fun k=>F k x (i:Int)) (g ((l.drop i).foldl f x)):=by
    intro dd
    induction dd with
    | zero =>
      intro i x hi hx
      obtain rfl:i=l.length:=by omega
      have:=hend x hx
      simpa using this
    | succ dd ih =>
      intro i x hi hx
      obtain⟨h1,h2⟩:=hstep i x (by omega) hx
      rw[drop_cons l i (by omega) d,List.foldl_cons]
      exact h2 _ (ih (i+1) _ (by omega) h1)
  simpa using key l.length 0 b (by omega) h0
end
abbrev pIn (a b c:Int):Bool:=decide (b≤a) && decide (a≤c)
abbrev pAddr (h p q:Int):Bool:=pIn h 1 9 && (pIn p 0 99 && pIn q 0 99)
abbrev pZero (h p q:Int):Bool:=h == 0 && (p == 0 && (q == 0))
theorem some_and (a b:Bool):(if a=true then some b else some false)=some (a && b):=by cases a <;> simp
theorem Ev.and {A B:Nat→Option Bool}{a b:Bool}(hA:Ev A a)(hB:a=true→Ev B b):Ev (fun n=>(A n).bind fun t=>if t=true then B n else some false) (a && b):=by
  refine Ev.bind hA ?_
  cases a with
  | true=>exact Ev.pos rfl (hB rfl)
  | false=>exact Ev.neg (by simp) (Ev.now _)
theorem Ev.now_and {o:Option Bool}{B:Nat→Option Bool}{a b:Bool}(hA:o=some a)(hB:a=true→Ev B b):Ev (fun n=>o.bind fun t=>if t=true then B n else some false) (a && b):=by
  subst hA
  exact Ev.and (A:=fun _=>some a) (Ev.now a) hB
theorem Ev.if_and {c:Prop} [Decidable c] {B:Nat→Option Bool}{b:Bool}(hB:c→Ev B b):Ev (fun n=>if c then B n else some false) (decide c && b):=by
  by_cases h:c
  · refine Ev.pos h ?_
    simpa [h] using hB h
  · refine Ev.neg h ?_
    simpa [h] using Ev.now false
theorem Ev.id {α:Type}{A:Nat→Option α}{a:α}(h:Ev A a):Ev (fun n=>(A n).bind fun t=>some t) a:=Ev.bind h (Ev.now _)
theorem Ev.no {A:Nat→Option Bool}{a:Bool}(h:Ev A a):Ev (fun n=>(A n).bind fun t=>some (!t)) (!a):=Ev.bind h (Ev.now _)
theorem ev_find {α:Type}(F:Nat→Int→Option Int)(l:List α)(d:α)(p:α→Bool)
    (hend:∀ k,F (k+1) (l.length:Int)=some (-1))
    (hyes:∀ i:Nat,i < l.length→p (l.getD i d)=true→Ev (fun k=>F k (i:Int)) (i:Int))
    (hno:∀ i:Nat,i < l.length→p (l.getD i d)=false→∀ r,Ev (fun k=>F k ((i+1:Nat):Int)) r→Ev (fun k=>F k (i:Int)) r) :
    ∃ r:Int,Ev (fun k=>F k 0) r∧decide (r≥0)=l.any p:=by
  have key:∀ dd i:Nat,i+dd=l.length→∃ r:Int,Ev (fun k=>F k (i:Int)) r∧decide (r≥0)=(l.drop i).any p:=by
    intro dd
    induction dd with
    | zero =>
      intro i hi
      obtain rfl:i=l.length:=by omega
      exact⟨-1,Ev.round hend (Ev.now _),by simp⟩
    | succ dd ih =>
      intro i hi
      have hil:i < l.length:=by omega
      rw[drop_cons l i hil d,List.any_cons]
      cases hp:p (l.getD i d) with
      | true=>exact⟨(i:Int),hyes i hil hp,by simp⟩
      | false =>
        obtain⟨r,hr,hd⟩:=ih (i+1) (by omega)
        exact⟨r,hno i hil hp r hr,by simpa using hd⟩
  simpa using key l.length 0 (by omega)
theorem Ev.rpos {α:Type}{c:Prop} [Decidable c] {g:Nat→Option α}{r s:α}(h:c)(k:Ev g r):Ev g (if c then r else s):=by rw[if_pos h];exact k
theorem Ev.rneg {α:Type}{c:Prop} [Decidable c] {g:Nat→Option α}{r s:α}(h:¬c)(k:Ev g s):Ev g (if c then r else s):=by rw[if_neg h];exact k
theorem any_not {α:Type}(l:List α)(p:α→Bool):(!(l.any fun y=>!p y))=l.all p:=by
  rw[List.all_eq_not_any_not]
end Go.Proofs.Ytenpfphghheggaa.Gen
