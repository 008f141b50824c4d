-- Written by a program of this session out of the translation's own print. Not trusted: Lean checks it.
import Derived.Test.YthojdjnchhkafaaShr2
import Derived.Test.YthojdjnchhkafaaMFnExactTraceVisitx0
namespace Go.Proofs.Ythojdjnchhkafaa.MFnExactTraceVisit
open Go.RowKit Go.Proofs.YthojdjnchhkafaaW.PrintWords Go.Proofs.YthojdjnchhkafaaW.PrintLast Go.Proofs.YthojdjnchhkafaaW.PrintMore
attribute [local go_sem] max2_int min2_int max_two min_two max_three min_three max_four min_four   -- for this text's walks alone
set_option linter.unusedVariables false
set_option maxHeartbeats 8000000
set_option maxRecDepth 100000
set_option linter.unusedSimpArgs false

/-! ### spec_Max: function 62 -/
def spec_Max.f (D:Int)(I:Int):Option (Int):=if I > D then(some I) else(some D)
theorem spec_Max.calls (I:Int)(J:Int)(r:Int)(w:World)(h:spec_Max.f I J=some r) :
  Calls Try.prog 62 #[.int .i64 I,.int .i64 J] w fun e w'=>e = .returned (.int .i64 r)∧Drawn0 w w':=by
 have H:=h;clear h;unfold spec_Max.f at H
 by_cases D:J > I
 ·rw[if_pos D] at H;have L:decide (I < J)=true:=decide_eq_true D;clear D;obtain rfl:=Option.some.inj H;go_enter Try.func62,Try.ntmps62;go_wp2
  go_ret
  exact⟨FR,by repeat(first|exact Drawn0.refl _ | apply Drawn0.step)⟩
 ·rw[if_neg D] at H;have L:decide (I < J)=false:=decide_eq_false D;clear D;obtain rfl:=Option.some.inj H;go_enter Try.func62,Try.ntmps62;go_wp2
  go_ret
  exact⟨FR,by repeat(first|exact Drawn0.refl _ | apply Drawn0.step)⟩

end Go.Proofs.Ythojdjnchhkafaa.MFnExactTraceVisit
