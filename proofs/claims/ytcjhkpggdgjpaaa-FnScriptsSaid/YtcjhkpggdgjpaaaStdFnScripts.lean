/- Plain lemmas on the helpers of the law FnScripts: sizes, copies, equality with itself, marks and what holds them. Written by a program of this session. -/
import Derived.Test.YtcjhkpggdgjpaaaGen
import Derived.Test.YtcjhkpggdgjpaaaMFnScriptsx0
import Derived.Test.YtcjhkpggdgjpaaaMFnScriptsx1
import Derived.Test.YtcjhkpggdgjpaaaMFnScriptsx2
import Derived.Test.YtcjhkpggdgjpaaaMFnScriptsx3
import Derived.Test.YtcjhkpggdgjpaaaMFnScriptsx4
namespace Go.Proofs.Ytcjhkpggdgjpaaa.MFnScripts
open Go.RowKit Go.Proofs.YtcjhkpggdgjpaaaW.PrintWords Go.Proofs.YtcjhkpggdgjpaaaW.PrintLast Go.Proofs.YtcjhkpggdgjpaaaW.PrintMore Go.Proofs.Ytcjhkpggdgjpaaa.Gen
set_option linter.unusedVariables false
set_option linter.unusedSimpArgs false


end Go.Proofs.Ytcjhkpggdgjpaaa.MFnScripts
