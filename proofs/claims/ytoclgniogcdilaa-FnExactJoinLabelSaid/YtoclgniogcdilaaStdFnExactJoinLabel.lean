/- Plain lemmas on the helpers of the law FnExactJoinLabel: sizes, copies, equality with itself, marks and what holds them. Written by a program of this session. -/
import Derived.Test.YtoclgniogcdilaaGen
import Derived.Test.YtoclgniogcdilaaPFnExactJoinLabelx0
import Derived.Test.YtoclgniogcdilaaPFnExactJoinLabelx1
namespace Go.Proofs.Ytoclgniogcdilaa.PFnExactJoinLabel
open Go.RowKit Go.Proofs.YtoclgniogcdilaaW.PrintWords Go.Proofs.YtoclgniogcdilaaW.PrintLast Go.Proofs.YtoclgniogcdilaaW.PrintMore Go.Proofs.Ytoclgniogcdilaa.Gen
set_option linter.unusedVariables false
set_option linter.unusedSimpArgs false


end Go.Proofs.Ytoclgniogcdilaa.PFnExactJoinLabel
