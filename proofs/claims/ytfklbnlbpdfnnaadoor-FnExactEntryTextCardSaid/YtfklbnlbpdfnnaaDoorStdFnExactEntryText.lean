/- Plain lemmas on the helpers of the law FnExactEntryText: sizes, copies, equality with itself, marks and what holds them. Written by a program of this session. -/
import Derived.Test.YtfklbnlbpdfnnaaDoorGen
import Derived.Test.YtfklbnlbpdfnnaaDoorMFnExactEntryTextx0
import Derived.Test.YtfklbnlbpdfnnaaDoorMFnExactEntryTextx1
import Derived.Test.YtfklbnlbpdfnnaaDoorMFnExactEntryTextx2
namespace Go.Proofs.YtfklbnlbpdfnnaaDoor.MFnExactEntryText
open Go.RowKit Go.Proofs.YtfklbnlbpdfnnaaDoorW.PrintWords Go.Proofs.YtfklbnlbpdfnnaaDoorW.PrintLast Go.Proofs.YtfklbnlbpdfnnaaDoorW.PrintMore Go.Proofs.YtfklbnlbpdfnnaaDoor.Gen
set_option linter.unusedVariables false
set_option linter.unusedSimpArgs false

theorem toAddress_eq (a0 : Int) (a1 : Int) (a2 : Int) : laws_toAddress.f a0 a1 a2 = some (a0, a1, a2) := by
  simp [laws_toAddress.f]
theorem toEntry_eq (a0 : Int) (a1 : Int) (a2 : Int) (a3 : Int) (a4 : Int) : laws_toEntry.f a0 a1 a2 a3 a4 = some (a0, a1, a2, a3, a4) := by
  simp [laws_toEntry.f, toAddress_eq]
end Go.Proofs.YtfklbnlbpdfnnaaDoor.MFnExactEntryText
