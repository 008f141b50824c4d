/- Plain lemmas on the helpers of the law FnVisits: sizes, copies, equality with itself, marks and what holds them. Written by a program of this session. -/
import Derived.Test.YtgcamebeonodeaaGen
import Derived.Test.YtgcamebeonodeaaMFnVisitsx0
import Derived.Test.YtgcamebeonodeaaMFnVisitsx1
import Derived.Test.YtgcamebeonodeaaMFnVisitsx2
import Derived.Test.YtgcamebeonodeaaMFnVisitsx3
import Derived.Test.YtgcamebeonodeaaMFnVisitsx4
import Derived.Test.YtgcamebeonodeaaMFnVisitsx5
import Derived.Test.YtgcamebeonodeaaMFnVisitsx6
import Derived.Test.YtgcamebeonodeaaMFnVisitsx7
import Derived.Test.YtgcamebeonodeaaMFnVisitsx8
import Derived.Test.YtgcamebeonodeaaMFnVisitsx9
import Derived.Test.YtgcamebeonodeaaMFnVisitsx10
import Derived.Test.YtgcamebeonodeaaMFnVisitsx11
namespace Go.Proofs.Ytgcamebeonodeaa.MFnVisits
open Go.RowKit Go.Proofs.YtgcamebeonodeaaW.PrintWords Go.Proofs.YtgcamebeonodeaaW.PrintLast Go.Proofs.YtgcamebeonodeaaW.PrintMore Go.Proofs.Ytgcamebeonodeaa.Gen
set_option linter.unusedVariables false
set_option linter.unusedSimpArgs false


end Go.Proofs.Ytgcamebeonodeaa.MFnVisits
