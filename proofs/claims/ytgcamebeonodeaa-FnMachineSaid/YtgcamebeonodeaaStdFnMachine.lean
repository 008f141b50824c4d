/- Plain lemmas on the helpers of the law FnMachine: sizes, copies, equality with itself, marks and what holds them. Written by a program of this session. -/
import Derived.Test.YtgcamebeonodeaaGen
import Derived.Test.YtgcamebeonodeaaMFnMachinex0
import Derived.Test.YtgcamebeonodeaaMFnMachinex1
import Derived.Test.YtgcamebeonodeaaMFnMachinex2
import Derived.Test.YtgcamebeonodeaaMFnMachinex3
import Derived.Test.YtgcamebeonodeaaMFnMachinex4
import Derived.Test.YtgcamebeonodeaaMFnMachinex5
import Derived.Test.YtgcamebeonodeaaMFnMachinex6
import Derived.Test.YtgcamebeonodeaaMFnMachinex7
import Derived.Test.YtgcamebeonodeaaMFnMachinex8
import Derived.Test.YtgcamebeonodeaaMFnMachinex9
import Derived.Test.YtgcamebeonodeaaMFnMachinex10
namespace Go.Proofs.Ytgcamebeonodeaa.MFnMachine
open Go.RowKit Go.Proofs.YtgcamebeonodeaaW.PrintWords Go.Proofs.YtgcamebeonodeaaW.PrintLast Go.Proofs.YtgcamebeonodeaaW.PrintMore Go.Proofs.Ytgcamebeonodeaa.Gen
set_option linter.unusedVariables false
set_option linter.unusedSimpArgs false


end Go.Proofs.Ytgcamebeonodeaa.MFnMachine
