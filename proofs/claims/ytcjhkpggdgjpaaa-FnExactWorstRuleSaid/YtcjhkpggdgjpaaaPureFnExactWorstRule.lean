/- The program's WorstRule and the reference's return the same greatest rule; the argument is as it was. No condition. -/
import Derived.Test.YtcjhkpggdgjpaaaStdFnExactWorstRule
namespace Go.Proofs.Ytcjhkpggdgjpaaa.Pure
open Go.RowKit Go.Proofs.Ytcjhkpggdgjpaaa.MFnExactWorstRule Go.Proofs.YtcjhkpggdgjpaaaW.PrintWords Go.Proofs.YtcjhkpggdgjpaaaW.PrintLast Go.Proofs.YtcjhkpggdgjpaaaW.PrintMore Go.Proofs.Ytcjhkpggdgjpaaa.Gen
set_option linter.unusedVariables false
set_option linter.unusedSimpArgs false

def W93 (y : S93) : Prop := (Lit.int .i64 y.f0).wf = true ∧ (Lit.int .i64 y.f1).wf = true
theorem sMax_eq (a b : Int) : spec_Max.f a b = some (mx a b) := by
  unfold spec_Max.f mx
  by_cases h : b > a
  · rw [if_pos h, if_pos (show a < b from h)]
  · rw [if_neg h, if_neg (show ¬ a < b from h)]
def pWorst (l : List S98) : Int := l.foldl (fun x y => mx x y.f0) 0
theorem sWorst_ev (a : Int) (r s n : List Int) (l : List S98) (lb : List Int) (m : Int) (h : l.length ≤ 1048576) : Ev (fun k => spec_WorstRule.f k a r s n l lb m) (pWorst l) := by
  unfold spec_WorstRule.f
  refine ev_foldl (fun k x i => spec_WorstRule.l0 k x i a r s n l lb m) l z98 (fun x y => mx x y.f0) (fun x => x) (fun _ _ => True) 0 trivial ?_ ?_
  · intro x hx
    refine Ev.round (fun _ => by rw [spec_WorstRule.l0]) ?_
    refine Ev.neg (by omega) ?_
    exact Ev.now _
  · intro i x hi hx
    have e1 : wrap64 ((i : Int) + 1) = ((i + 1 : Nat) : Int) := by rw [w64 (by omega) (by omega)]; omega
    refine ⟨trivial, fun r hr => ?_⟩
    refine Ev.round (fun _ => by rw [spec_WorstRule.l0]) ?_
    refine Ev.pos (by omega) ?_
    refine Ev.pos (by omega) ?_
    refine Ev.now_bind (sMax_eq _ _) ?_
    simp only [e1]
    exact hr
theorem iWorst_ev (a : Int) (r s n : List Int) (l : List S98) (lb : List Int) (m : Int) (h : l.length ≤ 1048576) : Ev (fun k => impl_WorstRule.f k a r s n l lb m) (pWorst l) := by
  unfold impl_WorstRule.f
  refine ev_foldl (fun k x i => impl_WorstRule.l0 k x l (l.length : Int) i) l z98 (fun x y => mx x y.f0) (fun x => x) (fun _ _ => True) 0 trivial ?_ ?_
  · intro x hx
    refine Ev.round (fun _ => by rw [impl_WorstRule.l0]) ?_
    refine Ev.neg (by omega) ?_
    exact Ev.now _
  · intro i x hi hx
    have e1 : wrap64 ((i : Int) + 1) = ((i + 1 : Nat) : Int) := by rw [w64 (by omega) (by omega)]; omega
    refine ⟨trivial, fun r hr => ?_⟩
    refine Ev.round (fun _ => by rw [impl_WorstRule.l0]) ?_
    refine Ev.pos (by omega) ?_
    refine Ev.pos (by omega) ?_
    refine Ev.pos (by omega) ?_
    simp only [e1]
    exact hr
theorem FnExactWorstRule (a0_0 : Int) (l0_1 : List Int) (l0_2 : List Int) (l0_3 : List Int) (l0_4 : List S93) (l0_5 : List Int) (a0_6 : Int) (h0 : (Lit.int .i64 a0_0).wf = true) (h1 : (l0_1.length ≤ maxLen ∧ ∀ y ∈ l0_1, (Lit.int .i64 y).wf = true)) (h2 : (l0_2.length ≤ maxLen ∧ ∀ y ∈ l0_2, (Lit.int .i64 y).wf = true)) (h3 : (l0_3.length ≤ maxLen ∧ ∀ y ∈ l0_3, (Lit.int .i64 y).wf = true)) (h4 : (l0_4.length ≤ maxLen ∧ ∀ y ∈ l0_4, W93 y)) (h5 : (l0_5.length ≤ maxLen ∧ ∀ y ∈ l0_5, (Lit.int .i64 y).wf = true)) (h6 : (Lit.int .i64 a0_6).wf = true) : ∃ k, laws_FnExactWorstRule.f k a0_0 l0_1 l0_2 l0_3 l0_4 l0_5 a0_6 = some true := by
  obtain ⟨r, e, b, g⟩ := szWander_some a0_0 l0_1 l0_2 l0_3 l0_4 l0_5 a0_6 1048576 h1.1 h2.1 h3.1 h4.1 h5.1 (by omega) (by omega)
  refine Ev.rounds ?_
  unfold laws_FnExactWorstRule.f
  refine Ev.now_bind e ?_
  by_cases c : r < 0
  · exact Ev.pos c (Ev.now _)
  obtain ⟨g1, g2, g3, g4, g5⟩ := g (by omega)
  have hm : (l0_4.map cvChoice).length ≤ 1048576 := by simpa using g4
  have t := toWander_ev a0_0 l0_1 l0_2 l0_3 l0_4 l0_5 a0_6 g1 g2 g3 g4 g5
  refine Ev.neg c ?_
  refine Ev.bind t ?_
  refine Ev.bind (sWorst_ev _ _ _ _ _ _ _ hm) ?_
  refine Ev.bind t ?_
  refine Ev.bind (iWorst_ev _ _ _ _ _ _ _ hm) ?_
  refine Ev.pos rfl ?_
  refine Ev.bind t ?_
  refine Ev.bind (eqWander_refl _ _ _ _ _ _ _ g1 g2 g3 hm g5) ?_
  refine Ev.pos rfl ?_
  exact Ev.now _
end Go.Proofs.Ytcjhkpggdgjpaaa.Pure
