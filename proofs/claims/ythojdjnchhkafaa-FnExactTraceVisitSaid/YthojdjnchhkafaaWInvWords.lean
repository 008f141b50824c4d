-- Out of the words that the kit's print.sh prints, by a program of this session: what is not used is struck.
import Derived.Test.YthojdjnchhkafaaWInv
import Derived.Test.YthojdjnchhkafaaWFootNe
namespace Go.Proofs.YthojdjnchhkafaaW.PrintWords
open Go.RowKit
end Go.Proofs.YthojdjnchhkafaaW.PrintWords
namespace Go.Proofs.YthojdjnchhkafaaW.PrintLast
section
variable {ops : Array Oper} {a : Act} {o og : Oper} {g : Nat} {t : Tmp} {u : Bool}
end
end Go.Proofs.YthojdjnchhkafaaW.PrintLast
