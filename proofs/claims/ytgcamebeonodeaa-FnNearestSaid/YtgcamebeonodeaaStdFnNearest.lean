/- Plain lemmas on the helpers of the law FnNearest: sizes, copies, equality with itself, marks and what holds them. Written by a program of this session. -/
import Derived.Test.YtgcamebeonodeaaGen
import Derived.Test.YtgcamebeonodeaaMFnNearestx0
import Derived.Test.YtgcamebeonodeaaMFnNearestx1
import Derived.Test.YtgcamebeonodeaaMFnNearestx2
import Derived.Test.YtgcamebeonodeaaMFnNearestx3
import Derived.Test.YtgcamebeonodeaaMFnNearestx4
import Derived.Test.YtgcamebeonodeaaMFnNearestx5
import Derived.Test.YtgcamebeonodeaaMFnNearestx6
import Derived.Test.YtgcamebeonodeaaMFnNearestx7
import Derived.Test.YtgcamebeonodeaaMFnNearestx8
namespace Go.Proofs.Ytgcamebeonodeaa.MFnNearest
open Go.RowKit Go.Proofs.YtgcamebeonodeaaW.PrintWords Go.Proofs.YtgcamebeonodeaaW.PrintLast Go.Proofs.YtgcamebeonodeaaW.PrintMore Go.Proofs.Ytgcamebeonodeaa.Gen
set_option linter.unusedVariables false
set_option linter.unusedSimpArgs false


end Go.Proofs.Ytgcamebeonodeaa.MFnNearest
