/- The program's EqualStates and the reference's return the same: number by number and list by list; the arguments are as they were. No condition. -/
import Derived.Test.YtcjhkpggdgjpaaaStdFnExactEqualStates
namespace Go.Proofs.Ytcjhkpggdgjpaaa.Pure
open Go.RowKit Go.Proofs.Ytcjhkpggdgjpaaa.MFnExactEqualStates Go.Proofs.YtcjhkpggdgjpaaaW.PrintWords Go.Proofs.YtcjhkpggdgjpaaaW.PrintLast Go.Proofs.YtcjhkpggdgjpaaaW.PrintMore Go.Proofs.Ytcjhkpggdgjpaaa.Gen
set_option linter.unusedVariables false
set_option linter.unusedSimpArgs false


theorem sEqualInts_ev (a b : List Int) (h : a.length ≤ 1048576) : Ev (fun k => spec_EqualInts.f k a b) (decide (a = b)) := by
  unfold spec_EqualInts.f
  by_cases hl : a.length = b.length
  · refine Ev.pos (by omega) ?_
    rw [← zip_all_eq a b hl]
    refine ev_all2 (fun k i => spec_EqualInts.l0 k a b i) a b 0 (fun x y => decide (x = y)) hl (fun k => by rw [spec_EqualInts.l0, if_neg (by omega)]) ?_ ?_
    · intro i hi hp r hr
      have e1 : wrap64 ((i : Int) + 1) = ((i + 1 : Nat) : Int) := by rw [w64 (by omega) (by omega)]; omega
      refine Ev.round (fun _ => by rw [spec_EqualInts.l0]) ?_
      refine Ev.pos (by omega) ?_
      refine Ev.pos (by omega) ?_
      refine Ev.pos (by omega) ?_
      refine Ev.pos ?_ ?_
      · rw [rd_nat, rd_nat]; exact of_decide_eq_true hp
      · simp only [e1]; exact hr
    · intro i hi hp
      refine Ev.round (fun _ => by rw [spec_EqualInts.l0]) ?_
      refine Ev.pos (by omega) ?_
      refine Ev.pos (by omega) ?_
      refine Ev.pos (by omega) ?_
      refine Ev.neg ?_ (Ev.now _)
      rw [rd_nat, rd_nat]; exact of_decide_eq_false hp
  · have hne : a ≠ b := fun e => hl (by rw [e])
    rw [decide_eq_false hne]
    exact Ev.neg (by omega) (Ev.now _)
def pEqStates (a : Int) (r s n : List Int) (b : Int) (r' s' n' : List Int) : Bool := decide (a = b) && (decide (r = r') && (decide (s = s') && decide (n = n')))
theorem sEqualStates_ev (a : Int) (r s n : List Int) (b : Int) (r' s' n' : List Int) (h1 : r.length ≤ 1048576) (h2 : s.length ≤ 1048576) (h3 : n.length ≤ 1048576) : Ev (fun k => spec_EqualStates.f k a r s n b r' s' n') (pEqStates a r s n b r' s' n') := by
  unfold spec_EqualStates.f pEqStates
  exact Ev.if_and fun _ => Ev.and (sEqualInts_ev r r' h1) fun _ => Ev.and (sEqualInts_ev s s' h2) fun _ => Ev.id (sEqualInts_ev n n' h3)
theorem iEqualInts_ev (a b : List Int) (h : a.length ≤ 1048576) : Ev (fun k => slices_Equal_int_int.f k a b) (decide (a = b)) := by
  unfold slices_Equal_int_int.f
  by_cases hl : a.length = b.length
  · refine Ev.pos (by omega) ?_
    rw [← zip_all_eq a b hl]
    refine ev_all2 (fun k i => slices_Equal_int_int.l0 k a b (a.length : Int) i) a b 0 (fun x y => decide (x = y)) hl (fun k => by rw [slices_Equal_int_int.l0, if_neg (by omega)]) ?_ ?_
    · intro i hi hp r hr
      have e1 : wrap64 ((i : Int) + 1) = ((i + 1 : Nat) : Int) := by rw [w64 (by omega) (by omega)]; omega
      refine Ev.round (fun _ => by rw [slices_Equal_int_int.l0]) ?_
      refine Ev.pos (by omega) ?_
      refine Ev.pos (by omega) ?_
      refine Ev.pos (by omega) ?_
      refine Ev.pos (by omega) ?_
      refine Ev.pos ?_ ?_
      · rw [rd_nat, rd_nat]; exact of_decide_eq_true hp
      · simp only [e1]; exact hr
    · intro i hi hp
      refine Ev.round (fun _ => by rw [slices_Equal_int_int.l0]) ?_
      refine Ev.pos (by omega) ?_
      refine Ev.pos (by omega) ?_
      refine Ev.pos (by omega) ?_
      refine Ev.pos (by omega) ?_
      refine Ev.neg ?_ (Ev.now _)
      rw [rd_nat, rd_nat]; exact of_decide_eq_false hp
  · have hne : a ≠ b := fun e => hl (by rw [e])
    rw [decide_eq_false hne]
    exact Ev.neg (by omega) (Ev.now _)
theorem iEqualStates_ev (a : Int) (r s n : List Int) (b : Int) (r' s' n' : List Int) (h1 : r.length ≤ 1048576) (h2 : s.length ≤ 1048576) (h3 : n.length ≤ 1048576) : Ev (fun k => impl_EqualStates.f k a r s n b r' s' n') (pEqStates a r s n b r' s' n') := by
  unfold impl_EqualStates.f pEqStates
  exact Ev.if_and fun _ => Ev.and (iEqualInts_ev r r' h1) fun _ => Ev.and (iEqualInts_ev s s' h2) fun _ => Ev.id (iEqualInts_ev n n' h3)
theorem FnExactEqualStates (a0_0 : Int) (l0_1 : List Int) (l0_2 : List Int) (l0_3 : List Int) (a1_0 : Int) (l1_1 : List Int) (l1_2 : List Int) (l1_3 : List Int) (h0 : (Lit.int .i64 a0_0).wf = true) (h1 : (l0_1.length ≤ maxLen ∧ ∀ y ∈ l0_1, (Lit.int .i64 y).wf = true)) (h2 : (l0_2.length ≤ maxLen ∧ ∀ y ∈ l0_2, (Lit.int .i64 y).wf = true)) (h3 : (l0_3.length ≤ maxLen ∧ ∀ y ∈ l0_3, (Lit.int .i64 y).wf = true)) (h4 : (Lit.int .i64 a1_0).wf = true) (h5 : (l1_1.length ≤ maxLen ∧ ∀ y ∈ l1_1, (Lit.int .i64 y).wf = true)) (h6 : (l1_2.length ≤ maxLen ∧ ∀ y ∈ l1_2, (Lit.int .i64 y).wf = true)) (h7 : (l1_3.length ≤ maxLen ∧ ∀ y ∈ l1_3, (Lit.int .i64 y).wf = true)) : ∃ k, laws_FnExactEqualStates.f k a0_0 l0_1 l0_2 l0_3 a1_0 l1_1 l1_2 l1_3 = some true := by
  obtain ⟨r, e, b, g⟩ := szState_some a0_0 l0_1 l0_2 l0_3 1048576 h1.1 h2.1 h3.1 (by omega) (by omega)
  refine Ev.rounds ?_
  unfold laws_FnExactEqualStates.f
  refine Ev.now_bind e ?_
  by_cases c : r < 0
  · exact Ev.pos c (Ev.now _)
  obtain ⟨g1, g2, g3⟩ := g (by omega)
  obtain ⟨r2, e2, b2, g'⟩ := szState_some a1_0 l1_1 l1_2 l1_3 r h5.1 h6.1 h7.1 (by omega) (by omega)
  refine Ev.neg c ?_
  refine Ev.now_bind e2 ?_
  by_cases c2 : r2 < 0
  · exact Ev.pos c2 (Ev.now _)
  obtain ⟨g4, g5, g6⟩ := g' (by omega)
  have t1 := toState_ev a0_0 l0_1 l0_2 l0_3 g1 g2 g3
  have t2 := toState_ev a1_0 l1_1 l1_2 l1_3 g4 g5 g6
  refine Ev.neg c2 ?_
  refine Ev.bind t1 ?_
  refine Ev.bind t2 ?_
  refine Ev.bind (sEqualStates_ev _ _ _ _ _ _ _ _ g1 g2 g3) ?_
  refine Ev.bind t1 ?_
  refine Ev.bind t2 ?_
  refine Ev.bind (iEqualStates_ev _ _ _ _ _ _ _ _ g1 g2 g3) ?_
  refine Ev.neg (by simp) ?_
  refine Ev.bind t1 ?_
  refine Ev.bind (eqState_refl _ _ _ _ g1 g2 g3) ?_
  refine Ev.pos rfl ?_
  refine Ev.bind t2 ?_
  refine Ev.bind (eqState_refl _ _ _ _ g4 g5 g6) ?_
  refine Ev.pos rfl ?_
  exact Ev.now _
end Go.Proofs.Ytcjhkpggdgjpaaa.Pure
