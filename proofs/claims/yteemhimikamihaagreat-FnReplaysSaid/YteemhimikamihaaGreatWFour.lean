-- Out of the words that the kit's print.sh prints, by a program of this session: what is not used is struck.
import Derived.Test.YteemhimikamihaaGreatWTab
namespace Go.Proofs.YteemhimikamihaaGreatW.PrintLast
section
variable {P:Program} {ops:Array Oper} {Q:Exit→Act→World→Prop} {md:Region.Mode} {S:World→Prop} {ds:List Nat} {T:Bool×List (List Nat×List Nat)}
end
end Go.Proofs.YteemhimikamihaaGreatW.PrintLast
