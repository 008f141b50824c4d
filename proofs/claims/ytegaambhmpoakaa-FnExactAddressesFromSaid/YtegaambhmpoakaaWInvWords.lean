-- PRINTED BY print.sh 35421559b90ae4d0a3588c463048766b98c2df88dd9212a6774a882060cdf62d; unused declarations struck by trimw.py
import Derived.Test.YtegaambhmpoakaaWInv
import Derived.Test.YtegaambhmpoakaaWFootNe
namespace Go.Proofs.YtegaambhmpoakaaW.PrintWords
open Go.RowKit
end Go.Proofs.YtegaambhmpoakaaW.PrintWords
namespace Go.Proofs.YtegaambhmpoakaaW.PrintLast
section
variable {ops : Array Oper} {a : Act} {o og : Oper} {g : Nat} {t : Tmp} {u : Bool}
end
end Go.Proofs.YtegaambhmpoakaaW.PrintLast
