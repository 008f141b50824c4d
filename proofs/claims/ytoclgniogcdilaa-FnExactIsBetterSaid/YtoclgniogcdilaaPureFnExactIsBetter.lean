/- The program's IsBetter and the reference's compare the same two rules in the same way. No condition. -/
import Derived.Test.YtoclgniogcdilaaPFnExactIsBetterx1
import Derived.Test.YtoclgniogcdilaaGen
namespace Go.Proofs.Ytoclgniogcdilaa.Pure
open Go.RowKit Go.Proofs.Ytoclgniogcdilaa.PFnExactIsBetter Go.Proofs.YtoclgniogcdilaaW.PrintWords Go.Proofs.YtoclgniogcdilaaW.PrintLast Go.Proofs.YtoclgniogcdilaaW.PrintMore Go.Proofs.Ytoclgniogcdilaa.Gen
set_option linter.unusedVariables false
set_option linter.unusedSimpArgs false

theorem FnExactIsBetter (a0_0 : Int) (a0_1 : Int) (a1_0 : Int) (a1_1 : Int) (h0 : (Lit.int .i64 a0_0).wf = true) (h1 : (Lit.int .i64 a0_1).wf = true) (h2 : (Lit.int .i64 a1_0).wf = true) (h3 : (Lit.int .i64 a1_1).wf = true) : laws_FnExactIsBetter.f a0_0 a0_1 a1_0 a1_1 = some true := by
  unfold laws_FnExactIsBetter.f laws_toChoice.f spec_IsBetter.f impl_IsBetter.f
  simp

end Go.Proofs.Ytoclgniogcdilaa.Pure
