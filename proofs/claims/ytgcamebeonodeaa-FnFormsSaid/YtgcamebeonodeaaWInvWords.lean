-- Out of the words that the kit's print.sh prints, by a program of this session: what is not used is struck.
import Derived.Test.YtgcamebeonodeaaWInv
import Derived.Test.YtgcamebeonodeaaWFootNe
namespace Go.Proofs.YtgcamebeonodeaaW.PrintWords
open Go.RowKit
end Go.Proofs.YtgcamebeonodeaaW.PrintWords
namespace Go.Proofs.YtgcamebeonodeaaW.PrintLast
section
variable {ops : Array Oper} {a : Act} {o og : Oper} {g : Nat} {t : Tmp} {u : Bool}
end
end Go.Proofs.YtgcamebeonodeaaW.PrintLast
