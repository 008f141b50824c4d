-- Written by a program of this session out of the translation's own print. Not trusted: Lean checks it.
import Derived.Test.YtmhonflpbokkeaaShr2
import Derived.Test.YtmhonflpbokkeaaMFnExactTraceReplayx0
import Derived.Test.YtmhonflpbokkeaaMFnExactTraceReplayx1
import Derived.Test.YtmhonflpbokkeaaMFnExactTraceReplayx8
import Derived.Test.YtmhonflpbokkeaaMFnExactTraceReplayx16
import Derived.Test.YtmhonflpbokkeaaMFnExactTraceReplayx17
import Derived.Test.YtmhonflpbokkeaaMFnExactTraceReplayx18
namespace Go.Proofs.Ytmhonflpbokkeaa.MFnExactTraceReplay
open Go.RowKit Go.Proofs.YtmhonflpbokkeaaW.PrintWords Go.Proofs.YtmhonflpbokkeaaW.PrintLast Go.Proofs.YtmhonflpbokkeaaW.PrintMore
attribute [local go_sem] max2_int min2_int max_two min_two max_three min_three max_four min_four   -- for this text's walks alone
set_option linter.unusedVariables false
set_option linter.unusedSimpArgs false

end Go.Proofs.Ytmhonflpbokkeaa.MFnExactTraceReplay
