/- Plain lemmas on the helpers of the law FnForms: sizes, copies, equality with itself, marks and what holds them. Written by a program of this session. -/
import Derived.Test.YtgcamebeonodeaaGen
import Derived.Test.YtgcamebeonodeaaMFnFormsx0
import Derived.Test.YtgcamebeonodeaaMFnFormsx1
import Derived.Test.YtgcamebeonodeaaMFnFormsx2
import Derived.Test.YtgcamebeonodeaaMFnFormsx3
import Derived.Test.YtgcamebeonodeaaMFnFormsx4
import Derived.Test.YtgcamebeonodeaaMFnFormsx5
import Derived.Test.YtgcamebeonodeaaMFnFormsx6
import Derived.Test.YtgcamebeonodeaaMFnFormsx7
import Derived.Test.YtgcamebeonodeaaMFnFormsx8
import Derived.Test.YtgcamebeonodeaaMFnFormsx9
import Derived.Test.YtgcamebeonodeaaMFnFormsx10
import Derived.Test.YtgcamebeonodeaaMFnFormsx11
import Derived.Test.YtgcamebeonodeaaMFnFormsx12
import Derived.Test.YtgcamebeonodeaaMFnFormsx13
import Derived.Test.YtgcamebeonodeaaMFnFormsx14
import Derived.Test.YtgcamebeonodeaaMFnFormsx15
import Derived.Test.YtgcamebeonodeaaMFnFormsx16
namespace Go.Proofs.Ytgcamebeonodeaa.MFnForms
open Go.RowKit Go.Proofs.YtgcamebeonodeaaW.PrintWords Go.Proofs.YtgcamebeonodeaaW.PrintLast Go.Proofs.YtgcamebeonodeaaW.PrintMore Go.Proofs.Ytgcamebeonodeaa.Gen
set_option linter.unusedVariables false
set_option linter.unusedSimpArgs false


end Go.Proofs.Ytgcamebeonodeaa.MFnForms
