-- Written by a program of this session out of the translation's own print. Not trusted: Lean checks it.
import Derived.Test.YtfklbnlbpdfnnaaDoorProg
import Derived.Below
import Derived.Deep.Draws
import Derived.Deep.AppendLies
import Derived.Maps.AppendAt
import Derived.OwnWalk
import Derived.Laws.BytesArg
import Derived.Laws.MakeOwn
import Derived.Laws.OwnMore
import Derived.Deep.OwnRows
import Derived.Tactics
import Derived.Lib.ConvBytes
import Derived.Laws.Slices
import Derived.WalkKit
import Derived.KernelRfl
import Derived.RowKit3
import Derived.Deep.LoopGhost
import Derived.Deep.QuietTactic
import Derived.BigQuiet
import Derived.WideLaws
import Derived.Deep.DeepCutAuto
import Derived.Deep.CutBlock
import Derived.Deep.RegionHeld3
import Derived.Laws.Rows
import Derived.Lib.AppendStr
import Derived.ArgAppend
import Derived.Laws.IdiomCopy
import Derived.OrdersHeld
import Derived.Laws.BitsLemmas
import Derived.RowKit
import Derived.Test.YtfklbnlbpdfnnaaDoorWWords
import Derived.Test.YtfklbnlbpdfnnaaDoorWLast
import Derived.Test.YtfklbnlbpdfnnaaDoorWTab
import Derived.Test.YtfklbnlbpdfnnaaDoorWFour
import Derived.Test.YtfklbnlbpdfnnaaDoorWQPut
import Derived.Test.YtfklbnlbpdfnnaaDoorWApart
import Derived.Test.YtfklbnlbpdfnnaaDoorWArr
import Derived.Test.YtfklbnlbpdfnnaaDoorWZeros
import Derived.Test.YtfklbnlbpdfnnaaDoorWFoot
import Derived.Test.YtfklbnlbpdfnnaaDoorWKept
import Derived.Test.YtfklbnlbpdfnnaaDoorWShare
import Derived.Test.YtfklbnlbpdfnnaaDoorWN
import Derived.Test.YtfklbnlbpdfnnaaDoorWFootNe
import Derived.Test.YtfklbnlbpdfnnaaDoorWAt
import Derived.Test.YtfklbnlbpdfnnaaDoorWEqStruct
import Derived.Test.YtfklbnlbpdfnnaaDoorWRepsOne
import Derived.Test.YtfklbnlbpdfnnaaDoorWInv
import Derived.Test.YtfklbnlbpdfnnaaDoorWInvWords
import Derived.Test.YtfklbnlbpdfnnaaDoorWGuard
import Derived.Test.YtfklbnlbpdfnnaaDoorWNEv
import Derived.Test.YtfklbnlbpdfnnaaDoorWMore
import Derived.Test.YtfklbnlbpdfnnaaDoorFnV
namespace Go.Proofs.YtfklbnlbpdfnnaaDoor.MFnExactEntryText
open Go.RowKit Go.Proofs.YtfklbnlbpdfnnaaDoorW.PrintWords Go.Proofs.YtfklbnlbpdfnnaaDoorW.PrintLast Go.Proofs.YtfklbnlbpdfnnaaDoorW.PrintMore
attribute [local go_sem] max2_int min2_int max_two min_two max_three min_three max_four min_four   -- for this text's walks alone
set_option linter.unusedVariables false
set_option linter.unusedSimpArgs false



def errW : Option Int → Value
  | none => .nilIface
  | some c => .iface 0 (.int .i64 c)
theorem errW_none : errW none = .nilIface := rfl
theorem errW_some (c : Int) : errW (some c) = .iface 0 (.int .i64 c) := rfl

theorem info5 : (Tryd.prog.info? 5).map (fun i => (i.zero, i.size, i.bytes)) = some (some (.int .u8 0), 1, 1) := by kernel_rfl
theorem info9 : (Tryd.prog.info? 9).map (fun i => (i.zero, i.size, i.bytes)) = some (some (.string ⟨#[]⟩), 1, 16) := by kernel_rfl
-- the values' own types

end Go.Proofs.YtfklbnlbpdfnnaaDoor.MFnExactEntryText
