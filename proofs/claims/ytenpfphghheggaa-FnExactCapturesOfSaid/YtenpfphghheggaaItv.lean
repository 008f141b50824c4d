/- Rows of the call's own, told by the interval of the blocks that they lie in: what is made later lies behind, what is written lies in its own. By an AI agent. -/
import Derived.Test.YtenpfphghheggaaShr2
namespace Go.Proofs.YtenpfphghheggaaW.PrintMore
open Go.RowKit Go.Proofs.YtenpfphghheggaaW.PrintWords Go.Proofs.YtenpfphghheggaaW.PrintLast
set_option linter.unusedVariables false
section
variable {α:Type} {d:Kd α} {e base n m a b c f:Nat} {ok:Nat→Prop} {w W W0 Wb w1:World} {v:Value} {xs:List α}
theorem iz (x:Aside0 (n≤W0.heap.size))(h:Below W0.heap.size W0 W:=by repeat(first|(with_reducible exact Below.refl _ _)|apply below_alloc | apply pw_below_drewN | apply below_drew1)):n≤W.heap.size:=Nat.le_trans x.out h.size
theorem izb (x:Aside0 (n≤W0.heap.size))(hb:Below W.heap.size W w1)(h:Below W0.heap.size W0 W:=by repeat(first|(with_reducible exact Below.refl _ _)|apply below_alloc | apply pw_below_drewN | apply below_drew1)):Aside0 (n≤w1.heap.size):=⟨Nat.le_trans (iz x h) hb.size⟩
theorem izk {P:Nat→Prop}(x:Aside0 (n≤W0.heap.size))(hk:Kept W w1 P)(h:Below W0.heap.size W0 W:=by repeat(first|(with_reducible exact Below.refl _ _)|apply below_alloc | apply pw_below_drewN | apply below_drew1)):Aside0 (n≤w1.heap.size):=⟨Nat.le_trans (iz x h) hk.1⟩
theorem ino (x:Aside0 (n≤W0.heap.size))(hb:Below W.heap.size W w1)(hm:m=w1.heap.size)(h:Below W0.heap.size W0 W:=by repeat(first|(with_reducible exact Below.refl _ _)|apply below_alloc | apply pw_below_drewN | apply below_drew1)):Aside0 (n≤m):=⟨by rw[hm];exact Nat.le_trans (iz x h) hb.size⟩
theorem iS (ho:Kd.S d e w1 W.heap.size ok v xs)(x:Aside0 (n≤W0.heap.size))(hw:Aside0 (w.heap.size≤n))(hm:m=w1.heap.size)(h:Below W0.heap.size W0 W:=by repeat(first|(with_reducible exact Below.refl _ _)|apply below_alloc | apply pw_below_drewN | apply below_drew1)):Aside0 (Kd.S d e w1 w.heap.size (fun k_=>n≤k_∧k_ < m) v xs) :=
  ⟨Kd.S_lower (Kd.S_mono (Kd.S_bound ho) (fun k hk=>⟨Nat.le_trans (iz x h) hk.2.1,by rw[hm];exact hk.2.2.1⟩)) (Nat.le_trans hw.out (iz x h))⟩
theorem iR (ho:Kd.R d e w1 W.heap.size ok v xs)(x:Aside0 (n≤W0.heap.size))(hw:Aside0 (w.heap.size≤n))(hm:m=w1.heap.size)(h:Below W0.heap.size W0 W:=by repeat(first|(with_reducible exact Below.refl _ _)|apply below_alloc | apply pw_below_drewN | apply below_drew1)):Aside0 (Kd.R d e w1 w.heap.size (fun k_=>n≤k_∧k_ < m) v xs) :=
  ⟨Kd.R_lower (Kd.R_mono (Kd.R_bound ho) (fun k hk=>⟨Nat.le_trans (iz x h) hk.2.1,by rw[hm];exact hk.2.2.1⟩)) (Nat.le_trans hw.out (iz x h))⟩
theorem iN (ho:Kd.N d e w1 W.heap.size (fun k_=>W.heap.size≤k_) v xs)(x:Aside0 (n≤W0.heap.size))(hw:Aside0 (w.heap.size≤n))(hm:m=w1.heap.size)(h:Below W0.heap.size W0 W:=by repeat(first|(with_reducible exact Below.refl _ _)|apply below_alloc | apply pw_below_drewN | apply below_drew1)):Aside0 (Kd.N d e w1 w.heap.size (fun k_=>n≤k_∧k_ < m) v xs) :=
  ⟨Kd.N_lower (Kd.N_mono (Kd.N_bound ho) (fun k hk=>⟨Nat.le_trans (iz x h) hk.1,by rw[hm];exact hk.2⟩)) (Nat.le_trans hw.out (iz x h))⟩
theorem idj {k:Nat}(h:b≤c∨f≤a)(hk:a≤k∧k < b):¬(c≤k∧k < f):=by omega
theorem ikS (x:Aside0 (Kd.S d e W0 base (fun k_=>a≤k_∧k_ < b) v xs))(hk:Kept W w1 (fun k_=>c≤k_∧k_ < f))(hd:b≤c∨f≤a)(h:Kd.S d e W0 base (fun k_=>a≤k_∧k_ < b) v xs→Kd.S d e W base (fun k_=>a≤k_∧k_ < b) v xs:=by intro h_;(with_reducible repeat(first|apply Kd.S_alloc | apply Kd.S_drewN | apply Kd.S_drew));exact h_):Aside0 (Kd.S d e w1 base (fun k_=>a≤k_∧k_ < b) v xs):=⟨Kd.S_kept (h x.out) hk (fun _ q=>idj hd q)⟩
theorem ikR (x:Aside0 (Kd.R d e W0 base (fun k_=>a≤k_∧k_ < b) v xs))(hk:Kept W w1 (fun k_=>c≤k_∧k_ < f))(hd:b≤c∨f≤a)(h:Kd.R d e W0 base (fun k_=>a≤k_∧k_ < b) v xs→Kd.R d e W base (fun k_=>a≤k_∧k_ < b) v xs:=by intro h_;(with_reducible repeat(first|apply Kd.R_alloc | apply Kd.R_drewN | apply Kd.R_drew));exact h_):Aside0 (Kd.R d e w1 base (fun k_=>a≤k_∧k_ < b) v xs):=⟨Kd.R_kept (h x.out) hk (fun _ q=>idj hd q)⟩
theorem ikN (x:Aside0 (Kd.N d e W0 base (fun k_=>a≤k_∧k_ < b) v xs))(hk:Kept W w1 (fun k_=>c≤k_∧k_ < f))(hd:b≤c∨f≤a)(h:Kd.N d e W0 base (fun k_=>a≤k_∧k_ < b) v xs→Kd.N d e W base (fun k_=>a≤k_∧k_ < b) v xs:=by intro h_;(with_reducible repeat(first|apply Kd.N_alloc | apply Kd.N_drewN | apply Kd.N_drew));exact h_):Aside0 (Kd.N d e w1 base (fun k_=>a≤k_∧k_ < b) v xs):=⟨Kd.N_kept (h x.out) hk (fun _ q=>idj hd q)⟩
theorem iS2 {u:Value}(ho:Kd.S d e w1 W.heap.size (fun k_=>some k_≠u.ownBlock) v xs)(x:Aside0 (n≤W0.heap.size))(hw:Aside0 (w.heap.size≤n))(hm:m=w1.heap.size)(h:Below W0.heap.size W0 W:=by repeat(first|(with_reducible exact Below.refl _ _)|apply below_alloc | apply pw_below_drewN | apply below_drew1)):Aside0 (Kd.S d e w1 w.heap.size (fun k_=>(n≤k_∧k_ < m)∧some k_≠u.ownBlock) v xs) :=
  ⟨Kd.S_lower (Kd.S_mono (Kd.S_bound ho) (fun k hk=>⟨⟨Nat.le_trans (iz x h) hk.2.1,by rw[hm];exact hk.2.2.1⟩,hk.1⟩)) (Nat.le_trans hw.out (iz x h))⟩
theorem ikS2 {p:Nat→Prop}(x:Aside0 (Kd.S d e W0 base (fun k_=>(a≤k_∧k_ < b)∧p k_) v xs))(hk:Kept W w1 (fun k_=>c≤k_∧k_ < f))(hd:b≤c∨f≤a)(h:Kd.S d e W0 base (fun k_=>(a≤k_∧k_ < b)∧p k_) v xs→Kd.S d e W base (fun k_=>(a≤k_∧k_ < b)∧p k_) v xs:=by intro h_;(with_reducible repeat(first|apply Kd.S_alloc | apply Kd.S_drewN | apply Kd.S_drew));exact h_):Aside0 (Kd.S d e w1 base (fun k_=>(a≤k_∧k_ < b)∧p k_) v xs):=⟨Kd.S_kept (h x.out) hk (fun _ q=>idj hd q.1)⟩
theorem ibk {g:Nat}{t:TypeId}{cs:Array Value}(x:Aside0 (W0.heap[g]?=some (.cells cs t (0,0))))(hk:Kept W w1 (fun k_=>c≤k_∧k_ < f))(hd:¬(c≤g∧g < f))(h:W0.heap[g]?=some (.cells cs t (0,0))→W.heap[g]?=some (.cells cs t (0,0)):=by intro h_;(with_reducible repeat(first|refine blk_drewN ?_ _ | refine blk_drew ?_ | refine blk_alloc ?_ _));exact h_):Aside0 (w1.heap[g]?=some (.cells cs t (0,0))):=⟨blk_kept (h x.out) hk hd⟩
theorem iga {g:Nat}(x:Aside0 (n≤W0.heap.size))(hg:g=W.heap.size)(h:Below W0.heap.size W0 W:=by repeat(first|(with_reducible exact Below.refl _ _)|apply below_alloc | apply pw_below_drewN | apply below_drew1)):Aside0 (n≤g):=⟨by rw[hg];exact iz x h⟩
theorem igb {g:Nat}{o:Obj}(hb:w1.heap[g]?=some o)(hm:m=w1.heap.size):Aside0 (g < m):=⟨by rw[hm];exact blk_lt hb⟩
theorem izw (x:Aside0 (n≤W0.heap.size))(hb:Below W.heap.size W w1)(h:Kept W0 W (fun _=>True):=by repeat(first|(with_reducible exact Kept.refl _ _)|refine Kept.setCell ?_ (Or.inl trivial) _ | apply Kept.alloc | apply Kept.drewN | apply Kept.drew)):Aside0 (n≤W.heap.size):=⟨Nat.le_trans x.out h.1⟩
theorem izd (x:Aside0 (n≤W0.heap.size)):Aside0 (n≤W0.drew.heap.size):=x
theorem iown (x:Kd.R d e W base ok v xs):∀ k,some k=v.ownBlock→ok k:=fun k hk=>Classical.byContradiction fun hn=>Kd.R_away (g:=k) x (fun j hj e_=>hn (e_ ▸ hj)) hk
theorem ikO {β:Type}{d2:Kd β}{e2 base2:Nat}{ok2:Nat→Prop}{u:Value}{ys:List β}(x:Aside0 (Kd.R d e W0 base ok v xs))(y:Aside0 (Kd.R d2 e2 W0 base2 ok2 u ys))(hk:Kept W w1 (fun k_=>some k_=u.ownBlock))(ht:∀ q,q∈e :: d.E→q≠e2:=by decide)(h:Kd.R d e W0 base (fun k_=>ok k_∧some k_≠u.ownBlock) v xs→Kd.R d e W base (fun k_=>ok k_∧some k_≠u.ownBlock) v xs:=by intro h_;(with_reducible repeat(first|apply Kd.R_alloc | apply Kd.R_drewN | apply Kd.R_drew));exact h_):Aside0 (Kd.R d e w1 base ok v xs) :=
  ⟨Kd.R_mono (Kd.R_kept (h (Kd.R_apart' x.out (Kd.R_typed y.out) ht)) hk (fun _ q=>q.2)) (fun _ q=>q.1)⟩
theorem ikO3 {u1 u2 u3:Value}{l1 l2 l3:List Int}{b1 b2 b3:Nat}{o1 o2 o3:Nat→Prop}(x:Aside0 (Kd.R d e W0 base ok v xs))(y1:Aside0 (Kd.R (Kd.int .i64) 3 W0 b1 o1 u1 l1))(y2:Aside0 (Kd.R (Kd.int .i64) 3 W0 b2 o2 u2 l2))(y3:Aside0 (Kd.R (Kd.int .i64) 3 W0 b3 o3 u3 l3))(hk:Kept W w1 (fun k_=>some k_=u1.ownBlock∨some k_=u2.ownBlock∨some k_=u3.ownBlock))(ht:∀ q,q∈e :: d.E→q≠3:=by decide)(h:Kd.R d e W0 base (fun k_=>((ok k_∧some k_≠u1.ownBlock)∧some k_≠u2.ownBlock)∧some k_≠u3.ownBlock) v xs→Kd.R d e W base (fun k_=>((ok k_∧some k_≠u1.ownBlock)∧some k_≠u2.ownBlock)∧some k_≠u3.ownBlock) v xs:=by intro h_;(with_reducible repeat(first|apply Kd.R_alloc | apply Kd.R_drewN | apply Kd.R_drew));exact h_):Aside0 (Kd.R d e w1 base ok v xs) :=
  ⟨Kd.R_mono (Kd.R_kept (h (Kd.R_apart' (Kd.R_apart' (Kd.R_apart' x.out (Kd.R_typed y1.out) ht) (Kd.R_typed y2.out) ht) (Kd.R_typed y3.out) ht)) hk (fun _ q z=>z.elim q.1.1.2 (fun z=>z.elim q.1.2 q.2))) (fun _ q=>q.1.1.1)⟩
theorem itT {p:Prop} [Decidable p] {x:Option Bool}{r:Bool}(h:(if p then x else some false)=some r)(hr:r=true):p∧x=some r:=by
  by_cases hp:p
  · rw[if_pos hp] at h;exact⟨hp,h⟩
  · rw[if_neg hp,hr] at h;exact absurd h (by simp)
theorem itF {p:Prop} [Decidable p] {x:Option Bool}{r:Bool}(h:(if p then some false else x)=some r)(hr:r=true):¬p∧x=some r:=by
  by_cases hp:p
  · rw[if_pos hp,hr] at h;exact absurd h (by simp)
  · rw[if_neg hp] at h;exact⟨hp,h⟩
end
end Go.Proofs.YtenpfphghheggaaW.PrintMore
