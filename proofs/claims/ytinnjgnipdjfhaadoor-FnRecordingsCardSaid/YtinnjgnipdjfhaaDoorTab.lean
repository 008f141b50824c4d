/- The table that strconv.Itoa reads stands as its initialiser lays it, whatever the call does at its own blocks. By an AI agent. -/
import Derived.Shelf.Strconv.Itoa3
import Derived.Lib.AppendIntMem
import Derived.Lib.ItoaLen
import Derived.Test.YtinnjgnipdjfhaaDoorShelf0
import Derived.Test.YtinnjgnipdjfhaaDoorWWords
import Derived.Test.YtinnjgnipdjfhaaDoorProg
namespace Go.Proofs.YtinnjgnipdjfhaaDoorW.PrintMore
open Go.RowKit
open Go.Proofs.YtinnjgnipdjfhaaDoorW.PrintWords (Aside0)
def Tb (w : World) : Prop := Lib.TabBelow Tryd.prog w.heap.size w "internal/strconv.uint64pow10" .u64 Lib.pow10Tab
theorem Tb.here {w : World} (h : Tb w) : Lib.TabIs Tryd.prog w "internal/strconv.uint64pow10" .u64 Lib.pow10Tab := Lib.TabBelow.here h
theorem tb_on {w w1 : World} (h : Aside0 (Tb w)) (hb : Below w.heap.size w w1) : Aside0 (Tb w1) := ⟨fun w' h' => h.out w' (hb.trans (h'.mono hb.size))⟩
end Go.Proofs.YtinnjgnipdjfhaaDoorW.PrintMore
