-- Out of the words that the kit's print.sh prints, by a program of this session: what is not used is struck.
import Derived.Test.YtinnjgnipdjfhaaDoorWInv
import Derived.Test.YtinnjgnipdjfhaaDoorWFootNe
namespace Go.Proofs.YtinnjgnipdjfhaaDoorW.PrintWords
open Go.RowKit
end Go.Proofs.YtinnjgnipdjfhaaDoorW.PrintWords
namespace Go.Proofs.YtinnjgnipdjfhaaDoorW.PrintLast
section
variable {ops:Array Oper} {a:Act} {o og:Oper} {g:Nat} {t:Tmp} {u:Bool}
end
end Go.Proofs.YtinnjgnipdjfhaaDoorW.PrintLast
