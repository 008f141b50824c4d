/- Short forms of the steps that the printed contracts repeat most: the same steps, with their routine parts as default proofs. By an AI agent. -/
import Derived.Test.YteemhimikamihaaGreatFnV
import Derived.Test.YteemhimikamihaaGreatWTab
namespace Go.Proofs.YteemhimikamihaaGreatW.PrintMore
open Go.RowKit Go.Proofs.YteemhimikamihaaGreatW.PrintWords Go.Proofs.YteemhimikamihaaGreatW.PrintLast
theorem s1 {α : Type _} (xs : List α) (i : Nat) (x : α) : (xs.toArray.setIfInBounds i x) = (xs.set i x).toArray := by simp
theorem ak {p : Prop} (h : p) : Aside0 p := ⟨h⟩
def Hold (p : Prop) : Prop := p
theorem hold_ {p : Prop} (h : Hold p) : p := h
theorem unhold_ {p : Prop} (h : p) : Hold p := h
theorem upf_ {P : Program} {d : Option Tmp} {f ty : TypeId} {x : Operand} {i : Nat} {ps : String} {af : _} {gd : _} {a : Act} {K : _} {Q : _} {r : _} (h : Oper.upon P ⟨d, .field f x i, ty, ps, af, gd⟩ a K Q r) : Oper.upon P ⟨d, .field f x i, ty, ps, af, gd⟩ a K Q r := h
theorem obq {α β : Type} {o : Option α} {f : α → Option β} {r : β} (h : o.bind f = some r) : ∃ a, Aside0 (o = some a) ∧ f a = some r := (Option.bind_eq_some_iff.mp h).elim fun a q => ⟨a, ⟨q.1⟩, q.2⟩
theorem nft : ¬ (false = true) := by decide
theorem eqq1 {α : Type} [BEq α] [LawfulBEq α] {a b : α} (h : a = b) : (a == b) = true ∧ (a != b) = false := ⟨beq_iff_eq.mpr h, bne_eq_false_iff_eq.mpr h⟩
theorem eqq2 {α : Type} [BEq α] [LawfulBEq α] {a b : α} (h : ¬ a = b) : (a == b) = false ∧ (a != b) = true := ⟨beq_eq_false_iff_ne.mpr h, bne_iff_ne.mpr h⟩
theorem bnd_ {α β : Type} {y E : α} {f : α → Option β} {R : Option β} (h : (some E).bind f = R) (b : y = E) : f y = R := by subst b; exact h
theorem PB {q : Prop} (h : q := by repeat (first | (with_reducible first | exact HB.out | apply below_alloc | apply pw_below_drewN | apply below_drew1 | refine below_set ?_ (Aside0.out (by assumption))) | exact HB.out)) : q := h
theorem PK {W0 : World} {g : Nat} {t : TypeId} {cs : Array Value} {q : Prop} (b : Aside0 (W0.heap[g]? = some (.cells cs t (0, 0)))) (h : W0.heap[g]? = some (.cells cs t (0, 0)) → q := by intro h_; (with_reducible repeat (first | refine blk_drewN ?_ _ | refine blk_drew ?_ | refine blk_alloc ?_ _)); exact h_) : q := h b.out
theorem PF {W0 : World} {g : Nat} {t : TypeId} {cs : Array Value} {q : Prop} (b : Aside0 (W0.heap[g]? = some (.cells cs t (0, 0)))) (h : W0.heap[g]? = some (.cells cs t (0, 0)) → q := by intro h_; (with_reducible repeat (first | refine blk_drewN ?_ _ | refine blk_drew ?_ | refine blk_alloc ?_ _ | refine blk_far ?_ (Aside0.out (by assumption)) _)); exact h_) : q := h b.out
theorem PR {p q : Prop} (b : Aside0 p) (h : p → q := by intro h_; (with_reducible repeat (first | apply Kd.R_alloc | apply Kd.R_drewN | apply Kd.R_drew)); exact h_) : q := h b.out
theorem PS {p q : Prop} (b : Aside0 p) (h : p → q := by intro h_; (with_reducible repeat (first | apply Kd.S_alloc | apply Kd.S_drewN | apply Kd.S_drew)); exact h_) : q := h b.out
theorem PN {p q : Prop} (b : Aside0 p) (h : p → q := by intro h_; (with_reducible repeat (first | apply Kd.N_alloc | apply Kd.N_drewN | apply Kd.N_drew)); exact h_) : q := h b.out
theorem PV {p q : Prop} (b : Aside0 p) (h : p → q := by intro h_; (with_reducible repeat (first | apply Kd.V_alloc | apply Kd.V_drewN | apply Kd.V_drew)); exact h_) : q := h b.out
theorem KR {p : Prop} (h : p := by kernel_rfl) : p := h
theorem AR {p : Prop} (h : p := by (try simp only [List.map_toArray, List.map_cons, List.map_nil]); first | done | rfl | (simp only [List.length_drop, List.length_take]; rfl)) : p := h
theorem RT {p : Prop} (h : p := by first | rfl | (simp [errW_none, errW_some] <;> rfl) | (simp [*, errW_none, errW_some] <;> rfl)) : p := h
theorem CR {p q : Prop} (x : p) (h : p → q := by intro h_; repeat (first | exact h_ | (with_reducible refine Kd.C_alloc ?_ _) | (with_reducible refine Kd.C_drewN ?_ _) | (with_reducible refine Kd.C_drew ?_))) : q := h x
theorem hs_ {W w1 : World} {p : Addr} {v : Value} (hb : Below W.heap.size W w1) (h : W.cell? p = some v) : w1.cell? p = some v := (hb.cell (World.block_lt_of_cell? _ _ h)).trans h
theorem FK {p : Prop} (h : p := by intro _ hk; first | exact hk.2 | simp_all) : p := h
theorem PC {p q : Prop} (b : Aside0 p) (h : p → q := by intro h_; repeat (first | (with_reducible exact h_) | (with_reducible refine Kd.C_alloc ?_ _) | (with_reducible refine Kd.C_drewN ?_ _) | (with_reducible refine Kd.C_drew ?_) | exact h_)) : q := h b.out
def mkB (n m : Nat) : Array Bool := ((List.range n).map fun i => m.testBit i).toArray
theorem gz {w W : World} {g : Nat} (hg : g = W.heap.size) (h : Below w.heap.size w W) : w.heap.size ≤ g := by rw [hg]; exact below_size h
theorem gl {W0 W : World} {g g' : Nat} {t : TypeId} {cs : Array Value} (hg : g' = W.heap.size) (b : Aside0 (W0.heap[g]? = some (.cells cs t (0, 0)))) (h : W0.heap[g]? = some (.cells cs t (0, 0)) → W.heap[g]? = some (.cells cs t (0, 0)) := by intro h_; (with_reducible repeat (first | refine blk_drewN ?_ _ | refine blk_drew ?_ | refine blk_alloc ?_ _)); exact h_) : g ≠ g' := by rw [hg]; exact Nat.ne_of_lt (blk_lt (h b.out))
theorem kb {W0 W w1 : World} {g : Nat} {t : TypeId} {cs : Array Value} (b : Aside0 (W0.heap[g]? = some (.cells cs t (0, 0)))) (hb : Below W.heap.size W w1) (h : W0.heap[g]? = some (.cells cs t (0, 0)) → W.heap[g]? = some (.cells cs t (0, 0)) := by intro h_; (with_reducible repeat (first | refine blk_drewN ?_ _ | refine blk_drew ?_ | refine blk_alloc ?_ _)); exact h_) : w1.heap[g]? = some (.cells cs t (0, 0)) := blk_below (h b.out) hb
section
variable {P : Program} {ops : Array Oper} {Q : Exit → Act → World → Prop} {md : Region.Mode} {S : World → Prop} {ds : List Nat} {T : Bool × List (List Nat × List Nat)} {oi : Oper} {v : Value} {fuel : Nat} {l : Array Bool} {a : Act} {w : World}
theorem pu_ {i : Nat} {N : Option Tmp} (l' : Array Bool) (hT : Aside0 (rtab md ops = T)) {a' : Act} (h : wpAnyLast P md ops Q S ds fuel l' a' w)
    (hi : ops[i]? = some oi := by rfl) (hN : oi.dst = N := by rfl) (hc : anyT T l.toList l'.toList i = true := by kernel_rfl) (hQ : ∀ c a w, Q (.panic c) (a.put oi.dst v) w → Q (.panic c) a w := by exact fun _ _ _ h => h)
    (hw : Region.wanted oi (yielded ops a.tmps) = true := by rfl) (hy : ∀ w, (execOp a.eval oi).run P w = .ok (.value v) w := by (intro w'; go_simp; with_reducible rfl))
    (ha : a.put N v = a' := by (simp only [Act.put, List.setIfInBounds_toArray, List.set_cons_zero, List.set_cons_succ, i64_w, i32_w]; rfl)) : wpAnyLast P md ops Q S ds (fuel + 1) l a w :=
  pure_ l' hi hN (any_of hT.out hc) hQ (Or.inl ⟨hw, hy⟩) ha h
theorem un_ {i : Nat} {N : Option Tmp} (l' : Array Bool) (hT : Aside0 (rtab md ops = T)) {a' : Act} (h : wpAnyLast P md ops Q S ds fuel l' a' w)
    (hi : ops[i]? = some oi := by rfl) (hN : oi.dst = N := by rfl) (hc : anyT T l.toList l'.toList i = true := by kernel_rfl) (hQ : ∀ c a w, Q (.panic c) (a.put oi.dst undef) w → Q (.panic c) a w := by exact fun _ _ _ h => h)
    (hw : Region.wanted oi (yielded ops a.tmps) = false := by rfl)
    (ha : a.put N undef = a' := by (simp only [Act.put, List.setIfInBounds_toArray, List.set_cons_zero, List.set_cons_succ, i64_w, i32_w]; rfl)) : wpAnyLast P md ops Q S ds (fuel + 1) l a w :=
  pure_ l' hi hN (any_of hT.out hc) hQ (Or.inr ⟨hw, rfl⟩) ha h
theorem tk_ {i : Nat} {N : Option Tmp} {B : List Nat} (l' : Array Bool) (hi : ops[i]? = some oi) (hN : oi.dst = N) (hT : Aside0 (rtab md ops = T)) (hB : Aside0 (waitsOk T.2 B = true)) (hS : S w) {a' : Act} (h : wpAnyLast P md ops Q S ds fuel l' a' w)
    (hc : takeW T B ds l.toList l'.toList i = true := by kernel_rfl) (hQ : ∀ c a w, Q (.panic c) (a.put oi.dst v) w → Q (.panic c) a w := by exact fun _ _ _ h => h)
    (hw : Region.wanted oi (yielded ops a.tmps) = true := by rfl) (hy : ∀ w, S w → (execOp a.eval oi).run P w = .ok (.value v) w := by (intro w'; (repeat (refine and_imp.2 ?_; intro _)); intro _; go_simp; with_reducible rfl))
    (ha : a.put N v = a' := by (simp only [Act.put, List.setIfInBounds_toArray, List.set_cons_zero, List.set_cons_succ, i64_w, i32_w]; rfl)) : wpAnyLast P md ops Q S ds (fuel + 1) l a w :=
  take_ l' hi hN (take_ofW hT.out hB.out hc) hQ (Or.inl ⟨hw, hy⟩) hS ha h
end
section
variable {P : Program} {ops : Array Oper} {o : Oper} {rest : List Oper} {a : Act} {W : World} {Q : Exit → Act → World → Prop}
theorem bx_ {N : Tmp} (cs : Array Value) (t : TypeId) (h : ∀ g, g = W.heap.size → ∀ w1, w1.heap[g]? = some (.cells cs t (0, 0)) → Below W.heap.size W w1 → wpList P ops Q rest (a.put o.dst (.pointer (some ⟨g, 0, none⟩))) w1)
    (hd : o.dst = some N := by rfl) (hgd : o.guard = none := by rfl) (hrun : (execOp a.eval o).run P W = .ok (.value (.pointer (some ⟨W.heap.size, 0, none⟩))) (W.alloc (.cells cs t (0, 0))) := by first | (go_simp; done) | (go_simp; rfl)) : wpList P ops Q (o :: rest) a W := box_event hgd hd hrun h
end
end Go.Proofs.YteemhimikamihaaGreatW.PrintMore
