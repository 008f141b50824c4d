/- Words for a run whose trace holds the state that the run still reads. By an AI agent. -/
import Derived.Test.YteemhimikamihaaGreatShr2
namespace Go.Proofs.YteemhimikamihaaGreatW.PrintMore
open Go.RowKit Go.Proofs.YteemhimikamihaaGreatW.PrintWords Go.Proofs.YteemhimikamihaaGreatW.PrintLast
set_option linter.unusedVariables false
section
variable {α:Type} {d:Kd α} {e base:Nat} {ok ok':Nat→Prop} {W W0:World} {v:Value} {xs:List α}
theorem TX (x:Kd.S d e W0 base ok v xs)(m:∀ k,ok k→ok' k:=by exact fun _ hk=>hk)(h:Kd.S d e W0 base ok v xs→Kd.S d e W base ok v xs:=by intro h_;(repeat(with_reducible first|exact h_ | apply Kd.S_alloc | apply Kd.S_drewN | apply Kd.S_drew | refine Kd.S_far ?_ ?_ _));all_goals (first|exact h_|(intro _ hk;first|exact hk | exact hk.1 | exact hk.1.1 | exact hk.1.1.1 | exact hk.2 | exact hk.1.2 | simp_all))):Kd.S d e W base ok' v xs:=Kd.S_mono (h x) m
end
/-- A cell that stands in another block, behind four stores. -/
theorem cf4 {w:World}{a:Addr}{v:Value}(g:Nat)(u0 u1 u2 u3:Value)(h:w.cell? a=some v)(hn:a.block≠g:=by first|(rw[add_block];assumption)|(show(Addr.add _ _).block≠_;rw[add_block];assumption)|assumption):((((w.setCell ⟨g,0,none⟩ u0).setCell ⟨g,1,none⟩ u1).setCell ⟨g,2,none⟩ u2).setCell ⟨g,3,none⟩ u3).cell? a=some v:=(cell_far (p:=⟨g,3,none⟩) hn u3).trans ((cell_far (p:=⟨g,2,none⟩) hn u2).trans ((cell_far (p:=⟨g,1,none⟩) hn u1).trans ((cell_far (p:=⟨g,0,none⟩) hn u0).trans h)))
theorem cd4 {w:World}{a:Addr}{v:Value}{g:Nat}{u0 u1 u2 u3:Value}(h:((((w.setCell ⟨g,0,none⟩ u0).setCell ⟨g,1,none⟩ u1).setCell ⟨g,2,none⟩ u2).setCell ⟨g,3,none⟩ u3).cell? a=some v):∀ n:Nat,(((((w.drewN n).setCell ⟨g,0,none⟩ u0).setCell ⟨g,1,none⟩ u1).setCell ⟨g,2,none⟩ u2).setCell ⟨g,3,none⟩ u3).cell? a=some v:=fun _=>h
theorem tag0 {α:Type}{d:Kd α}{W:World}{base:Nat}{ok:Nat→Prop}{x:α}{cs:List Value}(h:d.M W base ok x cs):(Kd.tag (fun _=>0) d).M W base ok (x,0) cs:=d.M_mono (fun _ hk=>⟨hk,rfl⟩) h
theorem bq {w:World}{g:Nat}{t:TypeId}{cs:Array Value}{v:Value}(b:Aside0 (w.heap[g]?=some (.cells cs t (0,0))))(i:Nat)(h:cs[i]?=some v:=by rfl):w.cell? ⟨g,i,none⟩=some v:=(blk_cell b.out i).trans h
theorem od {p:Prop} [Decidable p] (h:decide p=true:=by first|(with_reducible assumption)|assumption):p:=of_decide_eq_true h
theorem rl {α:Type}{d:Kd α}{e base n c:Nat}{ok:Nat→Prop}{W:World}{A:Option Addr}{xs:List α}(x:Aside0 (d.R e W base ok (.slice A n c) xs)):n≤c:=(Kd.R_reads' x.out).2.1
theorem rr {α:Type}{d:Kd α}{e base n c:Nat}{ok:Nat→Prop}{W:World}{A:Option Addr}{xs:List α}(x:Aside0 (d.R e W base ok (.slice A n c) xs)):d.C W A xs.length xs:=(Kd.R_reads' x.out).2.2
theorem new_base {v:Value}{n:Nat}(h:∃ b,v.ownBlock=some b∧n≤b):∀ k,v.ownBlock=some k→n≤k:=by
  obtain⟨b,e,h⟩:=h
  intro k hk
  rw[e] at hk
  cases hk
  exact h
theorem below_new {w w1:World}(hg:w.grownBy w1 none):Below w.heap.size w w1:=Below.grown (Below.refl _ _) hg (Nat.le_refl _) (fun k h=>by cases h)
theorem fresh_ne {W:World}{g:Nat}{o:Obj}(h:W.heap[g]?=some o):∀ k,W.heap.size≤k→k≠g:=fun k hk e=>Nat.not_le.2 (blk_lt h) (e ▸ hk)
theorem FR {p:Prop}(h:p:=by first|rfl|(simp;done)|(simp[*];done)):p:=h
theorem KX {p:Prop}(h:p:=by repeat(first|(with_reducible first|exact HK.out | apply Kept.alloc | apply Kept.drewN | apply Kept.drew)|exact HK.out)):p:=h
section
variable {P:Program} {ops:Array Oper} {Q:Exit→Act→World→Prop} {md:Region.Mode} {S:World→Prop} {ds:List Nat} {oi:Oper} {v:Value} {fuel:Nat} {l:Array Bool} {a a':Act} {w:World}
theorem nq_ {N:Option Tmp}(h:wpAnyLast P md ops Q S ds fuel l a' w)(ha:a.put N v=a':=by(simp only[Act.put,List.setIfInBounds_toArray,List.set_cons_zero,List.set_cons_succ,i64_w,i32_w];rfl)):wpAnyLast P md ops Q S ds fuel l (a.put N v) w:=norm_ ha h
theorem nm_ (h:wpAnyLast P md ops Q S ds fuel l a' w)(ha:a=a':=by first|(simp only[putAll,Act.put,List.setIfInBounds_toArray,List.set_cons_zero,List.set_cons_succ];done)|(simp only[putAll,Act.put,List.setIfInBounds_toArray,List.set_cons_zero,List.set_cons_succ];rfl)):wpAnyLast P md ops Q S ds fuel l a w:=norm_ ha h
theorem tq_ {i:Nat}{N:Option Tmp}(l':Array Bool)(hi:ops[i]?=some oi)(hN:oi.dst=N)(hc:takeB md ops ds l l' i=true)(hS:S w)(h:wpAnyLast P md ops Q S ds fuel l' a' w)
    (hQ:∀ c a w,Q (.panic c) (a.put oi.dst v) w→Q (.panic c) a w:=by exact fun _ _ _ h=>h) (hw:Region.wanted oi (yielded ops a.tmps)=true:=by rfl)
    (hy:∀ w,S w→(execOp a.eval oi).run P w = .ok (.value v) w:=by(intro w';(repeat(refine and_imp.2 ?_;intro _));intro _;go_simp;with_reducible rfl))
    (ha:a.put N v=a':=by(simp only[Act.put,List.setIfInBounds_toArray,List.set_cons_zero,List.set_cons_succ,i64_w,i32_w];rfl)):wpAnyLast P md ops Q S ds (fuel+1) l a w :=
  take_ l' hi hN hc hQ (Or.inl ⟨hw,hy⟩) hS ha h
theorem pq_ {i:Nat}{N:Option Tmp}(l':Array Bool)(hi:ops[i]?=some oi)(hN:oi.dst=N)(hc:anyB md ops l l' i=true)(h:wpAnyLast P md ops Q S ds fuel l' a' w)
    (hQ:∀ c a w,Q (.panic c) (a.put oi.dst v) w→Q (.panic c) a w:=by exact fun _ _ _ h=>h) (hw:Region.wanted oi (yielded ops a.tmps)=true:=by rfl)
    (hy:∀ w,(execOp a.eval oi).run P w = .ok (.value v) w:=by(intro w';go_simp;with_reducible rfl))
    (ha:a.put N v=a':=by(simp only[Act.put,List.setIfInBounds_toArray,List.set_cons_zero,List.set_cons_succ,i64_w,i32_w];rfl)):wpAnyLast P md ops Q S ds (fuel+1) l a w :=
  pure_ l' hi hN hc hQ (Or.inl ⟨hw,hy⟩) ha h
end
theorem Cq {α:Type}{d:Kd α}{w W:World}{A:Option Addr}{n:Nat}{l:List α}{q:Prop}(x:Aside0 (Kd.C d w A n l))(b:Below w.heap.size w W:=by exact HB.out)(h:Kd.C d W A n l→q:=by intro h_;repeat(first|exact h_|(with_reducible refine Kd.C_alloc ?_ _)|(with_reducible refine Kd.C_drewN ?_ _)|(with_reducible refine Kd.C_drew ?_))):q:=h (Kd.C_below x.out b)
theorem bn {w:World}{a a':Addr}{v:Value}{g:Nat}(hx:w.cell? a'=some v)(b:Aside0 (w.heap.size≤g))(h:a'.block=a.block:=by first|rfl | rw[add_block]):a.block≠g:=Nat.ne_of_lt (Nat.lt_of_lt_of_le (h ▸ World.block_lt_of_cell? _ _ hx) b.out)
end Go.Proofs.YteemhimikamihaaGreatW.PrintMore
