-- Written by a program of this session out of the translation's own print. Not trusted: Lean checks it.
import Derived.Test.YtcjhkpggdgjpaaaProg
import Derived.Below
import Derived.Deep.Draws
import Derived.Deep.AppendLies
import Derived.Maps.AppendAt
import Derived.OwnWalk
import Derived.Laws.BytesArg
import Derived.Laws.MakeOwn
import Derived.Laws.OwnMore
import Derived.Deep.OwnRows
import Derived.Tactics
import Derived.Lib.ConvBytes
import Derived.Laws.Slices
import Derived.WalkKit
import Derived.KernelRfl
import Derived.RowKit3
import Derived.Deep.LoopGhost
import Derived.Deep.QuietTactic
import Derived.BigQuiet
import Derived.WideLaws
import Derived.Deep.DeepCutAuto
import Derived.Deep.CutBlock
import Derived.Deep.RegionHeld3
import Derived.Laws.Rows
import Derived.Lib.AppendStr
import Derived.ArgAppend
import Derived.Laws.IdiomCopy
import Derived.OrdersHeld
import Derived.Laws.BitsLemmas
import Derived.RowKit
import Derived.Test.YtcjhkpggdgjpaaaWWords
import Derived.Test.YtcjhkpggdgjpaaaWLast
import Derived.Test.YtcjhkpggdgjpaaaWTab
import Derived.Test.YtcjhkpggdgjpaaaWFour
import Derived.Test.YtcjhkpggdgjpaaaWQPut
import Derived.Test.YtcjhkpggdgjpaaaWApart
import Derived.Test.YtcjhkpggdgjpaaaWArr
import Derived.Test.YtcjhkpggdgjpaaaWZeros
import Derived.Test.YtcjhkpggdgjpaaaWFoot
import Derived.Test.YtcjhkpggdgjpaaaWKept
import Derived.Test.YtcjhkpggdgjpaaaWShare
import Derived.Test.YtcjhkpggdgjpaaaWN
import Derived.Test.YtcjhkpggdgjpaaaWFootNe
import Derived.Test.YtcjhkpggdgjpaaaWAt
import Derived.Test.YtcjhkpggdgjpaaaWEqStruct
import Derived.Test.YtcjhkpggdgjpaaaWRepsOne
import Derived.Test.YtcjhkpggdgjpaaaWInv
import Derived.Test.YtcjhkpggdgjpaaaWInvWords
import Derived.Test.YtcjhkpggdgjpaaaWGuard
import Derived.Test.YtcjhkpggdgjpaaaWNEv
import Derived.Test.YtcjhkpggdgjpaaaWMore
import Derived.Test.YtcjhkpggdgjpaaaFnV
namespace Go.Proofs.Ytcjhkpggdgjpaaa.MFnExactCaptureInts
open Go.RowKit Go.Proofs.YtcjhkpggdgjpaaaW.PrintWords Go.Proofs.YtcjhkpggdgjpaaaW.PrintLast Go.Proofs.YtcjhkpggdgjpaaaW.PrintMore
attribute [local go_sem] max2_int min2_int max_two min_two max_three min_three max_four min_four   -- for this text's walks alone
set_option linter.unusedVariables false
set_option linter.unusedSimpArgs false



def errW : Option Int → Value
  | none => .nilIface
  | some c => .iface 0 (.int .i64 c)
theorem errW_none : errW none = .nilIface := rfl
theorem errW_some (c : Int) : errW (some c) = .iface 0 (.int .i64 c) := rfl

theorem info3 : (Try.prog.info? 3).map (fun i => (i.zero, i.size, i.bytes)) = some (some (.int .i64 0), 1, 8) := by kernel_rfl
-- the values' own types

end Go.Proofs.Ytcjhkpggdgjpaaa.MFnExactCaptureInts
