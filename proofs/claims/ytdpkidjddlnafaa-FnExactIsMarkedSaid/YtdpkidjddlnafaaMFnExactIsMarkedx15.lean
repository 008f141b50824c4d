-- Written by a program of this session out of the translation's own print. Not trusted: Lean checks it.
import Derived.Test.YtdpkidjddlnafaaMFnExactIsMarkedx0
namespace Go.Proofs.Ytdpkidjddlnafaa.MFnExactIsMarked
open Go.RowKit Go.Proofs.YtdpkidjddlnafaaW.PrintWords Go.Proofs.YtdpkidjddlnafaaW.PrintLast Go.Proofs.YtdpkidjddlnafaaW.PrintMore
attribute [local go_sem] max2_int min2_int max_two min_two max_three min_three max_four min_four   -- for this text's walks alone
set_option linter.unusedVariables false
set_option linter.unusedSimpArgs false

/-! ### impl_chosenAt: the look-up in the map, as a function of the choices -/
def impl_chosenAt.f (l : List (S121)) (i : Int) : Option Int := if (Lit.int .i64 i).wf = true then some (if l.any (fun y => y.f1 == i) then 1 else 0) else none

end Go.Proofs.Ytdpkidjddlnafaa.MFnExactIsMarked
