/- The program's CaptureInts and the reference's return the same numbers; what is returned is new memory, and the argument is as it was. No condition. -/
import Derived.Test.YtcjhkpggdgjpaaaStdFnExactCaptureInts
namespace Go.Proofs.Ytcjhkpggdgjpaaa.Pure
open Go.RowKit Go.Proofs.Ytcjhkpggdgjpaaa.MFnExactCaptureInts Go.Proofs.YtcjhkpggdgjpaaaW.PrintWords Go.Proofs.YtcjhkpggdgjpaaaW.PrintLast Go.Proofs.YtcjhkpggdgjpaaaW.PrintMore Go.Proofs.Ytcjhkpggdgjpaaa.Gen
set_option linter.unusedVariables false
set_option linter.unusedSimpArgs false


theorem FnExactCaptureInts (a0_0 : Int) (a0_1 : Int) (a0_2 : Int) (a0_3 : Int) (a0_4 : Int) (l0_5 : List Int) (a0_6 : Int) (a0_7 : Int) (a0_8 : Int) (h0 : (Lit.int .i64 a0_0).wf = true) (h1 : (Lit.int .i64 a0_1).wf = true) (h2 : (Lit.int .i64 a0_2).wf = true) (h3 : (Lit.int .i64 a0_3).wf = true) (h4 : (Lit.int .i64 a0_4).wf = true) (h5 : (l0_5.length ≤ maxLen ∧ ∀ y ∈ l0_5, (Lit.int .i64 y).wf = true)) (h6 : (Lit.int .i64 a0_6).wf = true) (h7 : (Lit.int .i64 a0_7).wf = true) (h8 : (Lit.int .i64 a0_8).wf = true) : ∃ k, laws_FnExactCaptureInts.f k a0_0 a0_1 a0_2 a0_3 a0_4 l0_5 a0_6 a0_7 a0_8 = some true := by
  obtain ⟨r, e, b, g⟩ := szCapture_some a0_0 a0_1 a0_2 a0_3 a0_4 l0_5 a0_6 a0_7 a0_8 1048576 h5.1 (by omega) (by omega)
  refine Ev.rounds ?_
  unfold laws_FnExactCaptureInts.f
  refine Ev.now_bind e ?_
  by_cases c : r < 0
  · exact Ev.pos c (Ev.now _)
  have g1 := g (by omega)
  have t1 := toCapture_ev a0_0 a0_1 a0_2 a0_3 a0_4 l0_5 a0_6 a0_7 a0_8 g1
  obtain ⟨z, hz⟩ : ∃ z : List Int, z = [a0_0, a0_1, a0_2, a0_3] ++ ([a0_4, a0_6, a0_7, a0_8, (l0_5.length : Int)] ++ l0_5) := ⟨_, rfl⟩
  have hzl : z.length = l0_5.length + 9 := by rw [hz]; simp
  have s1 : spec_CaptureInts.f a0_0 a0_1 a0_2 a0_3 a0_4 l0_5 a0_6 a0_7 a0_8 = some z := by
    unfold spec_CaptureInts.f spec_ResourceInts.f
    simp only [Option.bind_some]
    rw [if_pos (by simp; omega)]
    simp only [Option.bind_some]
    rw [if_pos (by simp; omega), hz]
  have i1 : impl_CaptureInts.f a0_0 a0_1 a0_2 a0_3 a0_4 l0_5 a0_6 a0_7 a0_8 = some z := by
    unfold impl_CaptureInts.f impl_ResourceInts.f
    simp only [Option.bind_some]
    rw [if_pos (by simp; omega)]
    simp only [Option.bind_some]
    rw [if_pos (by simp; omega), hz]
  have hn : z.length ≤ 4194304 := by omega
  refine Ev.neg c ?_
  refine Ev.bind t1 ?_
  refine Ev.now_bind s1 ?_
  refine Ev.bind t1 ?_
  refine Ev.now_bind i1 ?_
  refine Ev.bind (eqIntSb_refl _ (by omega)) ?_
  refine Ev.pos rfl ?_
  refine Ev.bind t1 ?_
  refine Ev.bind (eqCapture_refl a0_0 a0_1 a0_2 a0_3 a0_4 l0_5 a0_6 a0_7 a0_8 g1) ?_
  refine Ev.pos rfl ?_
  refine Ev.bind (markCapture_ev a0_0 a0_1 a0_2 a0_3 a0_4 l0_5 a0_6 a0_7 a0_8 1 g1 (by omega) (by omega)) ?_
  refine Ev.neg (by omega) ?_
  refine Ev.bind (eqIntSb_refl _ (by omega)) ?_
  refine Ev.round (fun _ => by rw [laws_FnExactCaptureInts.j0]) ?_
  refine Ev.neg (by simp) ?_
  refine Ev.bind (markIntSb_ev _ 1 (by omega) (by omega) (by omega)) ?_
  refine Ev.bind (heldIntSb_ev _ 1 (by omega) (by omega) (by omega)) ?_
  refine Ev.neg (by omega) ?_
  refine Ev.pos rfl ?_
  refine Ev.bind t1 ?_
  refine Ev.now_bind i1 ?_
  refine Ev.bind (eqIntSb_refl _ (by omega)) ?_
  refine Ev.pos rfl ?_
  refine Ev.bind (heldIntSb_ev _ 1 (by omega) (by omega) (by omega)) ?_
  refine Ev.neg (by omega) ?_
  refine Ev.pos rfl ?_
  exact Ev.now _
end Go.Proofs.Ytcjhkpggdgjpaaa.Pure
