-- Out of the words that the kit's print.sh prints, by a program of this session: what is not used is struck.
import Derived.Test.YtmhonflpbokkeaaWInv
import Derived.Test.YtmhonflpbokkeaaWFootNe
namespace Go.Proofs.YtmhonflpbokkeaaW.PrintWords
open Go.RowKit
end Go.Proofs.YtmhonflpbokkeaaW.PrintWords
namespace Go.Proofs.YtmhonflpbokkeaaW.PrintLast
section
variable {ops : Array Oper} {a : Act} {o og : Oper} {g : Nat} {t : Tmp} {u : Bool}
end
end Go.Proofs.YtmhonflpbokkeaaW.PrintLast
