-- Out of the words that the kit's print.sh prints, by a program of this session: what is not used is struck.
import Derived.Test.YtcbelifjkpbkfaaGreatWInv
import Derived.Test.YtcbelifjkpbkfaaGreatWFootNe
namespace Go.Proofs.YtcbelifjkpbkfaaGreatW.PrintWords
open Go.RowKit
end Go.Proofs.YtcbelifjkpbkfaaGreatW.PrintWords
namespace Go.Proofs.YtcbelifjkpbkfaaGreatW.PrintLast
section
variable {ops:Array Oper} {a:Act} {o og:Oper} {g:Nat} {t:Tmp} {u:Bool}
end
end Go.Proofs.YtcbelifjkpbkfaaGreatW.PrintLast
