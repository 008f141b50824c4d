-- Out of the words that the kit's print.sh prints, by a program of this session: what is not used is struck.
import Derived.Test.YtlkehcbhbflpoaaGreatWInv
import Derived.Test.YtlkehcbhbflpoaaGreatWFootNe
namespace Go.Proofs.YtlkehcbhbflpoaaGreatW.PrintWords
open Go.RowKit
end Go.Proofs.YtlkehcbhbflpoaaGreatW.PrintWords
namespace Go.Proofs.YtlkehcbhbflpoaaGreatW.PrintLast
section
variable {ops:Array Oper} {a:Act} {o og:Oper} {g:Nat} {t:Tmp} {u:Bool}
end
end Go.Proofs.YtlkehcbhbflpoaaGreatW.PrintLast
