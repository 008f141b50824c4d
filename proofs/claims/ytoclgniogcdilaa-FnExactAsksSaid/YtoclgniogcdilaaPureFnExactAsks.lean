/- The program's Asks and the reference's return the same for every kind: both tell whether it lies from 1 to 4. No condition. -/
import Derived.Test.YtoclgniogcdilaaPFnExactAsksx1
import Derived.Test.YtoclgniogcdilaaGen
namespace Go.Proofs.Ytoclgniogcdilaa.Pure
open Go.RowKit Go.Proofs.Ytoclgniogcdilaa.PFnExactAsks Go.Proofs.YtoclgniogcdilaaW.PrintWords Go.Proofs.YtoclgniogcdilaaW.PrintLast Go.Proofs.YtoclgniogcdilaaW.PrintMore Go.Proofs.Ytoclgniogcdilaa.Gen
set_option linter.unusedVariables false
set_option linter.unusedSimpArgs false

theorem FnExactAsks : laws_FnExactAsks.Pure := by
  intro a0 h
  unfold laws_FnExactAsks.f spec_Asks.f impl_Asks.f spec_l1In.f impl_InRange.f
  by_cases h1 : a0 ≥ 1
  · simp [h1]
  · simp [h1]

end Go.Proofs.Ytoclgniogcdilaa.Pure
