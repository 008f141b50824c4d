/- The program's StartState and the reference's return the same state of zeros, new with each call. No condition. -/
import Derived.Test.YtoclgniogcdilaaStdFnExactStartState
namespace Go.Proofs.Ytoclgniogcdilaa.Pure
open Go.RowKit Go.Proofs.Ytoclgniogcdilaa.MFnExactStartState Go.Proofs.YtoclgniogcdilaaW.PrintWords Go.Proofs.YtoclgniogcdilaaW.PrintLast Go.Proofs.YtoclgniogcdilaaW.PrintMore Go.Proofs.Ytoclgniogcdilaa.Gen
set_option linter.unusedVariables false
set_option linter.unusedSimpArgs false


theorem FnExactStartState   : ∃ k, laws_FnExactStartState.f k  = some true := by
  exact ⟨40, by decide +kernel⟩
end Go.Proofs.Ytoclgniogcdilaa.Pure
