/- Plain lemmas on the helpers of the law FnRecordings: sizes, copies, equality with itself, marks and what holds them. Written by a program of this session. -/
import Derived.Test.YtinnjgnipdjfhaaDoorGen
import Derived.Test.YtinnjgnipdjfhaaDoorMFnRecordingsx0
import Derived.Test.YtinnjgnipdjfhaaDoorMFnRecordingsx1
import Derived.Test.YtinnjgnipdjfhaaDoorMFnRecordingsx2
import Derived.Test.YtinnjgnipdjfhaaDoorMFnRecordingsx3
import Derived.Test.YtinnjgnipdjfhaaDoorMFnRecordingsx4
import Derived.Test.YtinnjgnipdjfhaaDoorMFnRecordingsx5
import Derived.Test.YtinnjgnipdjfhaaDoorMFnRecordingsx6
import Derived.Test.YtinnjgnipdjfhaaDoorMFnRecordingsx7
import Derived.Test.YtinnjgnipdjfhaaDoorMFnRecordingsx8
import Derived.Test.YtinnjgnipdjfhaaDoorMFnRecordingsx9
import Derived.Test.YtinnjgnipdjfhaaDoorMFnRecordingsx10
import Derived.Test.YtinnjgnipdjfhaaDoorMFnRecordingsx90
namespace Go.Proofs.YtinnjgnipdjfhaaDoor.MFnRecordings
open Go.RowKit Go.Proofs.YtinnjgnipdjfhaaDoorW.PrintWords Go.Proofs.YtinnjgnipdjfhaaDoorW.PrintLast Go.Proofs.YtinnjgnipdjfhaaDoorW.PrintMore Go.Proofs.YtinnjgnipdjfhaaDoor.Gen
set_option linter.unusedVariables false
set_option linter.unusedSimpArgs false
end Go.Proofs.YtinnjgnipdjfhaaDoor.MFnRecordings
