-- Out of the words that the kit's print.sh prints, by a program of this session: what is not used is struck.
import Derived.Test.YtenpfphghheggaaWInv
import Derived.Test.YtenpfphghheggaaWFootNe
namespace Go.Proofs.YtenpfphghheggaaW.PrintWords
open Go.RowKit
end Go.Proofs.YtenpfphghheggaaW.PrintWords
namespace Go.Proofs.YtenpfphghheggaaW.PrintLast
section
variable {ops:Array Oper} {a:Act} {o og:Oper} {g:Nat} {t:Tmp} {u:Bool}
end
end Go.Proofs.YtenpfphghheggaaW.PrintLast
