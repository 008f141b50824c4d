/- The program's RuleName and the reference's return the same text for every number: the same table inside, the empty text outside. No condition. -/
import Derived.Test.YtoclgniogcdilaaPFnExactRuleNamex1
import Derived.Test.YtoclgniogcdilaaGen
namespace Go.Proofs.Ytoclgniogcdilaa.Pure
open Go.RowKit Go.Proofs.Ytoclgniogcdilaa.PFnExactRuleName Go.Proofs.YtoclgniogcdilaaW.PrintWords Go.Proofs.YtoclgniogcdilaaW.PrintLast Go.Proofs.YtoclgniogcdilaaW.PrintMore Go.Proofs.Ytoclgniogcdilaa.Gen
set_option linter.unusedVariables false
set_option linter.unusedSimpArgs false

theorem FnExactRuleName : laws_FnExactRuleName.Pure := by
  intro a0 h
  by_cases h1 : 0 ≤ a0 ∧ a0 ≤ 3
  · have hc : a0 = 0 ∨ a0 = 1 ∨ a0 = 2 ∨ a0 = 3 := by omega
    rcases hc with rfl | rfl | rfl | rfl <;> decide +kernel
  · unfold laws_FnExactRuleName.f spec_RuleName.f impl_RuleName.f spec_l1In.f impl_at.f
    by_cases h2 : a0 ≥ 0
    · have h3 : ¬ a0 ≤ 3 := by omega
      have h4 : ¬ a0 < 4 := by omega
      skip
      simp [h2, h3, h4]
    · skip
      simp [h2]

end Go.Proofs.Ytoclgniogcdilaa.Pure
