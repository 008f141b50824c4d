/- The program's PlayName and the reference's return the same text for every number: the same table inside, the empty text outside. No condition. -/
import Derived.Test.YtoclgniogcdilaaPFnExactPlayNamex1
import Derived.Test.YtoclgniogcdilaaGen
namespace Go.Proofs.Ytoclgniogcdilaa.Pure
open Go.RowKit Go.Proofs.Ytoclgniogcdilaa.PFnExactPlayName Go.Proofs.YtoclgniogcdilaaW.PrintWords Go.Proofs.YtoclgniogcdilaaW.PrintLast Go.Proofs.YtoclgniogcdilaaW.PrintMore Go.Proofs.Ytoclgniogcdilaa.Gen
set_option linter.unusedVariables false
set_option linter.unusedSimpArgs false

theorem FnExactPlayName : laws_FnExactPlayName.Pure := by
  intro a0 h
  by_cases h1 : 0 ≤ a0 ∧ a0 ≤ 2
  · have hc : a0 = 0 ∨ a0 = 1 ∨ a0 = 2 := by omega
    rcases hc with rfl | rfl | rfl <;> decide +kernel
  · unfold laws_FnExactPlayName.f spec_PlayName.f impl_PlayName.f spec_l1In.f impl_at.f
    by_cases h2 : a0 ≥ 0
    · have h3 : ¬ a0 ≤ 2 := by omega
      have h4 : ¬ a0 < 3 := by omega
      skip
      simp [h2, h3, h4]
    · skip
      simp [h2]

end Go.Proofs.Ytoclgniogcdilaa.Pure
