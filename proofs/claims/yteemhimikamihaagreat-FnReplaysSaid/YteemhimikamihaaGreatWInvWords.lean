-- Out of the words that the kit's print.sh prints, by a program of this session: what is not used is struck.
import Derived.Test.YteemhimikamihaaGreatWInv
import Derived.Test.YteemhimikamihaaGreatWFootNe
namespace Go.Proofs.YteemhimikamihaaGreatW.PrintWords
open Go.RowKit
end Go.Proofs.YteemhimikamihaaGreatW.PrintWords
namespace Go.Proofs.YteemhimikamihaaGreatW.PrintLast
section
variable {ops:Array Oper} {a:Act} {o og:Oper} {g:Nat} {t:Tmp} {u:Bool}
end
end Go.Proofs.YteemhimikamihaaGreatW.PrintLast
