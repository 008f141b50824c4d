/- The program's GuessForm and the reference's return the same two results: under the guards no sum leaves Go's int, and the remainder of a number from 0 on is its own. No condition. -/
import Derived.Test.YtoclgniogcdilaaPFnExactGuessFormx1
import Derived.Test.YtoclgniogcdilaaGen
namespace Go.Proofs.Ytoclgniogcdilaa.Pure
open Go.RowKit Go.Proofs.Ytoclgniogcdilaa.PFnExactGuessForm Go.Proofs.YtoclgniogcdilaaW.PrintWords Go.Proofs.YtoclgniogcdilaaW.PrintLast Go.Proofs.YtoclgniogcdilaaW.PrintMore Go.Proofs.Ytoclgniogcdilaa.Gen
set_option linter.unusedVariables false
set_option linter.unusedSimpArgs false

theorem FnExactGuessForm (a0_0 : Int) (a0_1 : Int) (a0_2 : Int) (a0_3 : Bool) (a1 : Int) (h0 : (Lit.int .i64 a0_0).wf = true) (h1 : (Lit.int .i64 a0_1).wf = true) (h2 : (Lit.int .i64 a0_2).wf = true) (h3 : True) (h4 : (Lit.int .i64 a1).wf = true) : laws_FnExactGuessForm.f a0_0 a0_1 a0_2 a0_3 a1 = some true := by
  unfold laws_FnExactGuessForm.f laws_toModel.f spec_GuessForm.f impl_GuessForm.f impl_Model_says.f impl_Mod.f spec_l1In.f impl_InRange.f
  by_cases c1 : a0_2 < 2
  · simp [c1]
  by_cases c2 : a0_3 = true
  rotate_left
  · simp [c1, c2]
  by_cases c3 : 0 ≤ a0_0
  rotate_left
  · simp [c1, c2, c3]
  by_cases c4 : a0_0 ≤ 999
  rotate_left
  · simp [c1, c2, c3, c4]
  by_cases c5 : 0 ≤ a0_1
  rotate_left
  · simp [c1, c2, c3, c4, c5]
  by_cases c6 : a0_1 ≤ 999
  rotate_left
  · simp [c1, c2, c3, c4, c5, c6]
  by_cases c7 : 0 ≤ a1
  rotate_left
  · simp [c1, c2, c3, c4, c5, c6, c7]
  by_cases c8 : a1 ≤ 99
  rotate_left
  · simp [c1, c2, c3, c4, c5, c6, c7, c8]
  have p0 : 0 ≤ a0_1 * a1 := Int.mul_nonneg c5 c7
  have p1 : a0_1 * a1 ≤ 999 * 99 := Int.mul_le_mul c6 c8 c7 (by omega)
  have e1 : wrap64 (a0_1 * a1) = a0_1 * a1 := w64 (by omega) (by omega)
  have e2 : wrap64 (a0_0 + a0_1 * a1) = a0_0 + a0_1 * a1 := w64 (by omega) (by omega)
  have e3 : Int.tmod (a0_0 + a0_1 * a1) 1000 = (a0_0 + a0_1 * a1) % 1000 := Int.tmod_eq_emod_of_nonneg (by omega)
  have e4 : wrap64 ((a0_0 + a0_1 * a1) % 1000 + 1000) = (a0_0 + a0_1 * a1) % 1000 + 1000 := w64 (by omega) (by omega)
  have e5 : Int.tmod ((a0_0 + a0_1 * a1) % 1000 + 1000) 1000 = (a0_0 + a0_1 * a1) % 1000 := by
    rw [Int.tmod_eq_emod_of_nonneg (by omega)]
    omega
  simp [c1, c2, c3, c4, c5, c6, c7, c8, e1, e2, e3, e4, e5]

end Go.Proofs.Ytoclgniogcdilaa.Pure
