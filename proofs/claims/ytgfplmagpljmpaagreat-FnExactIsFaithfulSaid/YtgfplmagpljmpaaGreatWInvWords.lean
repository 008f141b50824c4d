-- Out of the words that the kit's print.sh prints, by a program of this session: what is not used is struck.
import Derived.Test.YtgfplmagpljmpaaGreatWInv
import Derived.Test.YtgfplmagpljmpaaGreatWFootNe
namespace Go.Proofs.YtgfplmagpljmpaaGreatW.PrintWords
open Go.RowKit
end Go.Proofs.YtgfplmagpljmpaaGreatW.PrintWords
namespace Go.Proofs.YtgfplmagpljmpaaGreatW.PrintLast
section
variable {ops:Array Oper} {a:Act} {o og:Oper} {g:Nat} {t:Tmp} {u:Bool}
end
end Go.Proofs.YtgfplmagpljmpaaGreatW.PrintLast
