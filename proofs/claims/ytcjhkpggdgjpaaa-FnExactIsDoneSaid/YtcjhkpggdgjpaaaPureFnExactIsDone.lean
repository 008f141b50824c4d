/- The program's IsDone and the reference's compare the same two numbers; the arguments are as they were. No condition. -/
import Derived.Test.YtcjhkpggdgjpaaaStdFnExactIsDone
namespace Go.Proofs.Ytcjhkpggdgjpaaa.Pure
open Go.RowKit Go.Proofs.Ytcjhkpggdgjpaaa.MFnExactIsDone Go.Proofs.YtcjhkpggdgjpaaaW.PrintWords Go.Proofs.YtcjhkpggdgjpaaaW.PrintLast Go.Proofs.YtcjhkpggdgjpaaaW.PrintMore Go.Proofs.Ytcjhkpggdgjpaaa.Gen
set_option linter.unusedVariables false
set_option linter.unusedSimpArgs false

def W127 (y : S127) : Prop := (Lit.int .i64 y.f0).wf = true ∧ (Lit.int .i64 y.f1).wf = true ∧ (Lit.int .i64 y.f2).wf = true ∧ (Lit.int .i64 y.f3).wf = true
theorem FnExactIsDone (l0 : List S127) (a1_0 : Int) (l1_1 : List Int) (l1_2 : List Int) (l1_3 : List Int) (h0 : (l0.length ≤ maxLen ∧ ∀ y ∈ l0, W127 y)) (h1 : (Lit.int .i64 a1_0).wf = true) (h2 : (l1_1.length ≤ maxLen ∧ ∀ y ∈ l1_1, (Lit.int .i64 y).wf = true)) (h3 : (l1_2.length ≤ maxLen ∧ ∀ y ∈ l1_2, (Lit.int .i64 y).wf = true)) (h4 : (l1_3.length ≤ maxLen ∧ ∀ y ∈ l1_3, (Lit.int .i64 y).wf = true)) : ∃ k, laws_FnExactIsDone.f k l0 a1_0 l1_1 l1_2 l1_3 = some true := by
  obtain ⟨r0, e0, b0, g0⟩ := szOpS_some l0 1048576 h0.1 (by omega) (by omega)
  refine Ev.rounds ?_
  unfold laws_FnExactIsDone.f
  refine Ev.now_bind e0 ?_
  by_cases c0 : r0 < 0
  · exact Ev.pos c0 (Ev.now _)
  have hl := g0 (by omega)
  have hm : (l0.map cvOp).length ≤ 1048576 := by simpa using hl
  obtain ⟨r, e, b, g⟩ := szState_some a1_0 l1_1 l1_2 l1_3 r0 h2.1 h3.1 h4.1 (by omega) (by omega)
  refine Ev.neg c0 ?_
  refine Ev.now_bind e ?_
  by_cases c : r < 0
  · exact Ev.pos c (Ev.now _)
  obtain ⟨g1, g2, g3⟩ := g (by omega)
  have t1 := toState_ev a1_0 l1_1 l1_2 l1_3 g1 g2 g3
  refine Ev.neg c ?_
  refine Ev.bind (toOpS_ev l0 hl) ?_
  refine Ev.bind t1 ?_
  refine Ev.now_bind rfl ?_
  refine Ev.bind (toOpS_ev l0 hl) ?_
  refine Ev.bind t1 ?_
  refine Ev.now_bind rfl ?_
  refine Ev.neg (by simp) ?_
  refine Ev.bind (toOpS_ev l0 hl) ?_
  refine Ev.bind (eqOpS_refl _ hm) ?_
  refine Ev.pos rfl ?_
  refine Ev.bind t1 ?_
  refine Ev.bind (eqState_refl _ _ _ _ g1 g2 g3) ?_
  refine Ev.pos rfl ?_
  exact Ev.now _
end Go.Proofs.Ytcjhkpggdgjpaaa.Pure
