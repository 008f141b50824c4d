/- The program's OpName and the reference's return the same text for every number: the same table inside, the empty text outside. No condition. -/
import Derived.Test.YtoclgniogcdilaaPFnExactOpNamex1
import Derived.Test.YtoclgniogcdilaaGen
namespace Go.Proofs.Ytoclgniogcdilaa.Pure
open Go.RowKit Go.Proofs.Ytoclgniogcdilaa.PFnExactOpName Go.Proofs.YtoclgniogcdilaaW.PrintWords Go.Proofs.YtoclgniogcdilaaW.PrintLast Go.Proofs.YtoclgniogcdilaaW.PrintMore Go.Proofs.Ytoclgniogcdilaa.Gen
set_option linter.unusedVariables false
set_option linter.unusedSimpArgs false

theorem FnExactOpName : laws_FnExactOpName.Pure := by
  intro a0 h
  by_cases h1 : 0 ≤ a0 ∧ a0 ≤ 9
  · have hc : a0 = 0 ∨ a0 = 1 ∨ a0 = 2 ∨ a0 = 3 ∨ a0 = 4 ∨ a0 = 5 ∨ a0 = 6 ∨ a0 = 7 ∨ a0 = 8 ∨ a0 = 9 := by omega
    rcases hc with rfl | rfl | rfl | rfl | rfl | rfl | rfl | rfl | rfl | rfl <;> decide +kernel
  · unfold laws_FnExactOpName.f spec_OpName.f impl_OpName.f spec_l1In.f impl_at.f
    by_cases h2 : a0 ≥ 0
    · have h3 : ¬ a0 ≤ 9 := by omega
      have h4 : ¬ a0 < 10 := by omega
      have h5 : a0 ≥ 1 := by omega
      simp [h2, h3, h4, h5]
    · have h5 : ¬ a0 ≥ 1 := by omega
      simp [h2, h5]

end Go.Proofs.Ytoclgniogcdilaa.Pure
