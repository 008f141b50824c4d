-- Out of the words that the kit's print.sh prints, by a program of this session: what is not used is struck.
import Derived.Test.YteemhimikamihaaGreatWTab
namespace Go.Proofs.YteemhimikamihaaGreatW.PrintLast
section
variable {P:Program} {ops:Array Oper} {Q:Exit→Act→World→Prop} {md:Region.Mode} {T:Bool×List (List Nat×List Nat)} {B:List Nat} {O:List Nat} {b:Nat→Bool} {i j n:Nat}
end
end Go.Proofs.YteemhimikamihaaGreatW.PrintLast
