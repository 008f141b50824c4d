import Derived.Test.YtgfplmagpljmpaaGreatShr2
import Derived.Test.YtgfplmagpljmpaaGreatMFnExactIsFaithfulx0
namespace Go.Proofs.YtgfplmagpljmpaaGreat.MFnExactIsFaithful
open Go.RowKit Go.Proofs.YtgfplmagpljmpaaGreatW.PrintWords Go.Proofs.YtgfplmagpljmpaaGreatW.PrintLast Go.Proofs.YtgfplmagpljmpaaGreatW.PrintMore
attribute [local go_sem] max2_int min2_int max_two min_two max_three min_three max_four min_four
set_option linter.unusedVariables false
set_option maxHeartbeats 8000000
set_option maxRecDepth 100000
set_option linter.unusedSimpArgs false

def spec_Max.f (D:Int)(J:Int):Option (Int):=if J > D then(some J) else(some D)
theorem spec_Max.calls (J:Int)(U:Int)(r:Int)(w:World)(h:spec_Max.f J U=some r) :
  Calls Tryz.prog 78 #[.int .i64 J,.int .i64 U] w fun e w'=>e = .returned (.int .i64 r)∧Drawn0 w w':=by
 have H:=h;clear h;unfold spec_Max.f at H
 by_cases D:U > J
 ·rw[if_pos D] at H;have X:decide (J < U)=true:=decide_eq_true D;clear D;obtain rfl:=Option.some.inj H;go_enter Tryz.func78,Tryz.ntmps78;go_wp2
  go_ret
  exact⟨FR,by repeat(first|exact Drawn0.refl _ | apply Drawn0.step)⟩
 ·rw[if_neg D] at H;have X:decide (J < U)=false:=decide_eq_false D;clear D;obtain rfl:=Option.some.inj H;go_enter Tryz.func78,Tryz.ntmps78;go_wp2
  go_ret
  exact⟨FR,by repeat(first|exact Drawn0.refl _ | apply Drawn0.step)⟩

end Go.Proofs.YtgfplmagpljmpaaGreat.MFnExactIsFaithful
