-- Written by a program of this session out of the translation's own print. Not trusted: Lean checks it.
import Derived.Test.YtgcamebeonodeaaShr2
import Derived.Test.YtgcamebeonodeaaMFnMachinex0
import Derived.Test.YtgcamebeonodeaaMFnMachinex1
import Derived.Test.YtgcamebeonodeaaMFnMachinex4
import Derived.Test.YtgcamebeonodeaaMFnMachinex6
import Derived.Test.YtgcamebeonodeaaMFnMachinex7
import Derived.Test.YtgcamebeonodeaaMFnMachinex8
import Derived.Test.YtgcamebeonodeaaMFnMachinex9
namespace Go.Proofs.Ytgcamebeonodeaa.MFnMachine
open Go.RowKit Go.Proofs.YtgcamebeonodeaaW.PrintWords Go.Proofs.YtgcamebeonodeaaW.PrintLast Go.Proofs.YtgcamebeonodeaaW.PrintMore
attribute [local go_sem] max2_int min2_int max_two min_two max_three min_three max_four min_four   -- for this text's walks alone
set_option linter.unusedVariables false
set_option linter.unusedSimpArgs false

abbrev b10_0 : Array Bool := mkB 33 8589934591
abbrev b10_1 : Array Bool := mkB 33 4294967295
abbrev b10_2 : Array Bool := mkB 33 2147483647
abbrev b10_3 : Array Bool := mkB 33 1073741823
abbrev b10_4 : Array Bool := mkB 33 536870911
abbrev b10_5 : Array Bool := mkB 33 268435455
abbrev b10_6 : Array Bool := mkB 33 134217727
abbrev b10_7 : Array Bool := mkB 33 67108863
abbrev b10_8 : Array Bool := mkB 33 33554431
abbrev b10_9 : Array Bool := mkB 33 16777215
abbrev b10_10 : Array Bool := mkB 33 8388607
abbrev b10_11 : Array Bool := mkB 33 4194303
abbrev b10_12 : Array Bool := mkB 33 2097151
abbrev b10_13 : Array Bool := mkB 33 1048575
abbrev b10_14 : Array Bool := mkB 33 524287
abbrev b10_15 : Array Bool := mkB 33 262143
abbrev b10_16 : Array Bool := mkB 33 131071
abbrev b10_17 : Array Bool := mkB 33 65535
abbrev b10_18 : Array Bool := mkB 33 32767
abbrev b10_19 : Array Bool := mkB 33 16383
abbrev b10_20 : Array Bool := mkB 33 8191
abbrev b10_21 : Array Bool := mkB 33 4095
abbrev b10_22 : Array Bool := mkB 33 2047
abbrev b10_23 : Array Bool := mkB 33 1023
abbrev b10_24 : Array Bool := mkB 33 511
abbrev b10_25 : Array Bool := mkB 33 255
abbrev b10_26 : Array Bool := mkB 33 127
abbrev b10_27 : Array Bool := mkB 33 63
abbrev b10_28 : Array Bool := mkB 33 47
abbrev b10_29 : Array Bool := mkB 33 31
abbrev b10_30 : Array Bool := mkB 33 15
abbrev b10_31 : Array Bool := mkB 33 7
abbrev b10_32 : Array Bool := mkB 33 3
abbrev b10_33 : Array Bool := mkB 33 1
abbrev b10_34 : Array Bool := #[false, false, false, false, false, false, false, false, false, false, false, false, false, false, false, false, false, false, false, false, false, false, false, false, false, false, false, false, false, false, false, false, false]
/-! ### laws_FnMachine: function 4 -/
mutual
def laws_FnMachine.j0 : Nat → List (S121) → Bool → Int → List Int → List Int → List Int → Int → List Int → List Int → List Int → Int → Int → Int → Int → Option (Bool)
  | 0, _, _, _, _, _, _, _, _, _, _, _, _, _, _ => none
  | k + 1, x3, x35, x460000, x460001, x460002, x460003, x471000, x471001, x471002, x471003, x476000, x476001, x476002, x476003 => if x35 = true then ((impl_EqualStates.f k x471000 x471001 x471002 x471003 x460000 x460001 x460002 x460003).bind fun t479 => (if t479 = true then (some (x476000 == 0)) else (some false))) else ((impl_IsState.f k x471000 x471001 x471002 x471003).bind fun t480 => (if t480 = true then (if x471000 ≤ x460000 then (laws_FnMachine.j1 k x3 true x460000 x460001 x460002 x460003 x471000 x471001 x471002 x471003 x476000 x476001 x476002 x476003) else (laws_FnMachine.j1 k x3 (decide (x471000 > (wrap64 (x460000 + 4)))) x460000 x460001 x460002 x460003 x471000 x471001 x471002 x471003 x476000 x476001 x476002 x476003)) else (laws_FnMachine.j1 k x3 true x460000 x460001 x460002 x460003 x471000 x471001 x471002 x471003 x476000 x476001 x476002 x476003)))
def laws_FnMachine.j1 : Nat → List (S121) → Bool → Int → List Int → List Int → List Int → Int → List Int → List Int → List Int → Int → Int → Int → Int → Option (Bool)
  | 0, _, _, _, _, _, _, _, _, _, _, _, _, _, _ => none
  | k + 1, x3, x61, x460000, x460001, x460002, x460003, x471000, x471001, x471002, x471003, x476000, x476001, x476002, x476003 => if x61 = true then (some false) else (if x476000 = 0 then ((impl_StepState.f k x3 x460000 x460001 x460002 x460003 7).bind fun bt481 => ((impl_EqualStates.f k x471000 x471001 x471002 x471003 bt481.1 bt481.2.1 bt481.2.2.1 bt481.2.2.2).bind fun t491 => (if t491 = true then (if x476000 > 0 then ((impl_Asks.f x476000).bind fun t492 => (if t492 = true then (if x476000 = 1 then ((impl_IsAddress.f x476001 x476002 x476003).bind fun t493 => (laws_FnMachine.j2 k (!t493) x460000 x460001 x460002 x460003)) else (laws_FnMachine.j2 k false x460000 x460001 x460002 x460003)) else (laws_FnMachine.j2 k true x460000 x460001 x460002 x460003))) else (if x476000 = 1 then ((impl_IsAddress.f x476001 x476002 x476003).bind fun t494 => (laws_FnMachine.j2 k (!t494) x460000 x460001 x460002 x460003)) else (laws_FnMachine.j2 k false x460000 x460001 x460002 x460003))) else (laws_FnMachine.j2 k true x460000 x460001 x460002 x460003)))) else (if x476000 > 0 then ((impl_Asks.f x476000).bind fun t495 => (if t495 = true then (if x476000 = 1 then ((impl_IsAddress.f x476001 x476002 x476003).bind fun t496 => (laws_FnMachine.j2 k (!t496) x460000 x460001 x460002 x460003)) else (laws_FnMachine.j2 k false x460000 x460001 x460002 x460003)) else (laws_FnMachine.j2 k true x460000 x460001 x460002 x460003))) else (if x476000 = 1 then ((impl_IsAddress.f x476001 x476002 x476003).bind fun t497 => (laws_FnMachine.j2 k (!t497) x460000 x460001 x460002 x460003)) else (laws_FnMachine.j2 k false x460000 x460001 x460002 x460003))))
def laws_FnMachine.j2 : Nat → Bool → Int → List Int → List Int → List Int → Option (Bool)
  | 0, _, _, _, _, _ => none
  | k + 1, x94, x460000, x460001, x460002, x460003 => if x94 = true then (some false) else ((impl_StartState.f).bind fun bt498 => ((impl_IsState.f k bt498.1 bt498.2.1 bt498.2.2.1 bt498.2.2.2).bind fun t508 => (if t508 = true then ((impl_EqualStates.f k x460000 x460001 x460002 x460003 x460000 x460001 x460002 x460003).bind fun t509 => (some t509)) else (some false))))
end
def laws_FnMachine.f (k : Nat) (l0 : List Int) : Option (Bool) := (laws_big.f l0).bind fun t444 => (if t444 = true then (some true) else ((spec_DrawStepState.f k l0).bind fun bt445 => ((impl_StepState.f k bt445.1 bt445.2.1 bt445.2.2.1 bt445.2.2.2.1 bt445.2.2.2.2.1 bt445.2.2.2.2.2).bind fun bt460 => ((impl_WantOf.f k bt445.1 bt445.2.1 bt445.2.2.1 bt445.2.2.2.1 bt445.2.2.2.2.1).bind fun bt471 => ((impl_IsScript.f k bt445.1).bind fun t476 => (if t476 = true then ((impl_IsState.f k bt445.2.1 bt445.2.2.1 bt445.2.2.2.1 bt445.2.2.2.2.1).bind fun t477 => (if t477 = true then ((impl_IsDone.f bt445.1 bt445.2.1 bt445.2.2.1 bt445.2.2.2.1 bt445.2.2.2.2.1).bind fun t478 => (laws_FnMachine.j0 k bt445.1 t478 bt445.2.1 bt445.2.2.1 bt445.2.2.2.1 bt445.2.2.2.2.1 bt460.1 bt460.2.1 bt460.2.2.1 bt460.2.2.2 bt471.1 bt471.2.1 bt471.2.2.1 bt471.2.2.2)) else (laws_FnMachine.j0 k bt445.1 true bt445.2.1 bt445.2.2.1 bt445.2.2.2.1 bt445.2.2.2.2.1 bt460.1 bt460.2.1 bt460.2.2.1 bt460.2.2.2 bt471.1 bt471.2.1 bt471.2.2.1 bt471.2.2.2))) else (laws_FnMachine.j0 k bt445.1 true bt445.2.1 bt445.2.2.1 bt445.2.2.2.1 bt445.2.2.2.2.1 bt460.1 bt460.2.1 bt460.2.2.1 bt460.2.2.2 bt471.1 bt471.2.1 bt471.2.2.1 bt471.2.2.2)))))))
def laws_FnMachine.T10 : Bool × List (List Nat × List Nat) := (true, [([], []), ([0], [0]), ([1], [1]), ([2], [2]), ([3], [3]), ([3], [3]), ([3], [3]), ([5, 6, 3, 3], [3, 5, 6]), ([4, 7, 7, 3], [3, 4, 7]), ([8, 3], [3, 8]), ([3, 9], [3, 9]), ([10, 8], [10]), ([11], [11]), ([12, 11], [11, 12]), ([13, 11], [11, 13]), ([14, 11, 11], [11, 14]), ([15], [15]), ([16, 15], [15, 16]), ([17, 15, 15], [15, 17]), ([18, 15], [15, 18]), ([15, 19, 11], [11, 15, 19]), ([11, 20], [11, 20]), ([21, 18], [21]), ([22], [22]), ([23, 22], [22, 23]), ([24, 22], [22, 24]), ([25, 22, 22], [22, 25]), ([26], [26]), ([27, 26], [26, 27]), ([28, 26, 26], [26, 28]), ([29, 26], [26, 29]), ([26, 30, 22], [22, 26, 30]), ([22, 31], [22, 31])])
def laws_FnMachine.B10 : List Nat := [0, 1, 3, 7, 15, 15, 15, 111, 255, 511, 1023, 2047, 4095, 8191, 16383, 32767, 65535, 131071, 262143, 524287, 1048575, 2097151, 4194303, 8388607, 16777215, 33554431, 67108863, 134217727, 268435455, 536870911, 1073741823, 2147483647, 4294967295]
theorem laws_FnMachine.tab10 : rtab .any (opsOf Try.f4 10) = laws_FnMachine.T10 := by kernel_rfl
theorem laws_FnMachine.bits10 : waitsOk laws_FnMachine.T10.2 laws_FnMachine.B10 = true := by kernel_rfl
set_option maxHeartbeats 8000000 in
set_option maxRecDepth 100000 in
theorem laws_FnMachine.calls (k : Nat) (A0 : Option Addr) (c0 : Nat) (l0 : List Int) (r : Bool) (w : World) (hr0 : Kd.C (Kd.int .u8) w A0 l0.length l0) (hc0 : l0.length ≤ c0) (hT_ : r = true) (h : laws_FnMachine.f k l0 = some r) :
  Calls Try.prog 4 #[.slice A0 l0.length c0] w fun e w' => e = .returned (.bool r) ∧ Below w.heap.size w w' := by
 have hu45 := Try.underlying45
 have hu50 := Try.underlying50
 have hu26 := Try.underlying26
 have HR0 := Aside0.mk hr0
 have HC0 := Aside0.mk hc0
 clear hr0 hc0
 have HB := ak (Below.refl w.heap.size w)
 have H : ((laws_big.f l0).bind fun t444 => (if t444 = true then (some true) else ((spec_DrawStepState.f k l0).bind fun bt445 => ((impl_StepState.f k bt445.1 bt445.2.1 bt445.2.2.1 bt445.2.2.2.1 bt445.2.2.2.2.1 bt445.2.2.2.2.2).bind fun bt460 => ((impl_WantOf.f k bt445.1 bt445.2.1 bt445.2.2.1 bt445.2.2.2.1 bt445.2.2.2.2.1).bind fun bt471 => ((impl_IsScript.f k bt445.1).bind fun t476 => (if t476 = true then ((impl_IsState.f k bt445.2.1 bt445.2.2.1 bt445.2.2.2.1 bt445.2.2.2.2.1).bind fun t477 => (if t477 = true then ((impl_IsDone.f bt445.1 bt445.2.1 bt445.2.2.1 bt445.2.2.2.1 bt445.2.2.2.2.1).bind fun t478 => (laws_FnMachine.j0 k bt445.1 t478 bt445.2.1 bt445.2.2.1 bt445.2.2.2.1 bt445.2.2.2.2.1 bt460.1 bt460.2.1 bt460.2.2.1 bt460.2.2.2 bt471.1 bt471.2.1 bt471.2.2.1 bt471.2.2.2)) else (laws_FnMachine.j0 k bt445.1 true bt445.2.1 bt445.2.2.1 bt445.2.2.2.1 bt445.2.2.2.2.1 bt460.1 bt460.2.1 bt460.2.2.1 bt460.2.2.2 bt471.1 bt471.2.1 bt471.2.2.1 bt471.2.2.2))) else (laws_FnMachine.j0 k bt445.1 true bt445.2.1 bt445.2.2.1 bt445.2.2.2.1 bt445.2.2.2.2.1 bt460.1 bt460.2.1 bt460.2.2.1 bt460.2.2.2 bt471.1 bt471.2.1 bt471.2.2.1 bt471.2.2.2)))))))) = some r := h
 clear h
 replace H := Option.bind_eq_some_iff.mp H
 obtain ⟨t444, A20, H⟩ := H
 replace H : (if t444 = true then (some true) else ((spec_DrawStepState.f k l0).bind fun bt445 => ((impl_StepState.f k bt445.1 bt445.2.1 bt445.2.2.1 bt445.2.2.2.1 bt445.2.2.2.2.1 bt445.2.2.2.2.2).bind fun bt460 => ((impl_WantOf.f k bt445.1 bt445.2.1 bt445.2.2.1 bt445.2.2.2.1 bt445.2.2.2.2.1).bind fun bt471 => ((impl_IsScript.f k bt445.1).bind fun t476 => (if t476 = true then ((impl_IsState.f k bt445.2.1 bt445.2.2.1 bt445.2.2.2.1 bt445.2.2.2.2.1).bind fun t477 => (if t477 = true then ((impl_IsDone.f bt445.1 bt445.2.1 bt445.2.2.1 bt445.2.2.2.1 bt445.2.2.2.2.1).bind fun t478 => (laws_FnMachine.j0 k bt445.1 t478 bt445.2.1 bt445.2.2.1 bt445.2.2.2.1 bt445.2.2.2.2.1 bt460.1 bt460.2.1 bt460.2.2.1 bt460.2.2.2 bt471.1 bt471.2.1 bt471.2.2.1 bt471.2.2.2)) else (laws_FnMachine.j0 k bt445.1 true bt445.2.1 bt445.2.2.1 bt445.2.2.2.1 bt445.2.2.2.2.1 bt460.1 bt460.2.1 bt460.2.2.1 bt460.2.2.2 bt471.1 bt471.2.1 bt471.2.2.1 bt471.2.2.2))) else (laws_FnMachine.j0 k bt445.1 true bt445.2.1 bt445.2.2.1 bt445.2.2.2.1 bt445.2.2.2.2.1 bt460.1 bt460.2.1 bt460.2.2.1 bt460.2.2.2 bt471.1 bt471.2.1 bt471.2.2.1 bt471.2.2.2))))))) = some r := H
 have A2 := Aside0.mk A20
 clear A20
 by_cases c3 : t444 = true
 ·subst c3
  have H1 : (some true) = some r := by rw [if_pos rfl] at H; exact H
  clear H
  have H := H1
  clear H1
  obtain rfl := Option.some.inj H
  go_enter Try.func4, Try.ntmps4
  go_wp2_with (first | ((with_reducible refine gate_callee (f := 10) rfl ?_); refine goesL_ (some 9) rfl rfl Try.func10 KR rfl #[.slice A0 l0.length c0] rfl AR ?_; (with_reducible refine (laws_big.calls _ _ l0 true _ ?side1 ?side2 A2.out).mono ?_); (case side1 => exact CR (HR0.out)); (case side2 => exact HC0.out); rintro e w' ⟨rfl, ⟨nd, rfl⟩⟩; refine ⟨_, rfl, ?_⟩))
  go_ret
  exact ⟨RT, PB⟩
 ·replace c3 := Bool.eq_false_iff.mpr c3
  subst c3
  have H1 : ((spec_DrawStepState.f k l0).bind fun bt445 => ((impl_StepState.f k bt445.1 bt445.2.1 bt445.2.2.1 bt445.2.2.2.1 bt445.2.2.2.2.1 bt445.2.2.2.2.2).bind fun bt460 => ((impl_WantOf.f k bt445.1 bt445.2.1 bt445.2.2.1 bt445.2.2.2.1 bt445.2.2.2.2.1).bind fun bt471 => ((impl_IsScript.f k bt445.1).bind fun t476 => (if t476 = true then ((impl_IsState.f k bt445.2.1 bt445.2.2.1 bt445.2.2.2.1 bt445.2.2.2.2.1).bind fun t477 => (if t477 = true then ((impl_IsDone.f bt445.1 bt445.2.1 bt445.2.2.1 bt445.2.2.2.1 bt445.2.2.2.2.1).bind fun t478 => (laws_FnMachine.j0 k bt445.1 t478 bt445.2.1 bt445.2.2.1 bt445.2.2.2.1 bt445.2.2.2.2.1 bt460.1 bt460.2.1 bt460.2.2.1 bt460.2.2.2 bt471.1 bt471.2.1 bt471.2.2.1 bt471.2.2.2)) else (laws_FnMachine.j0 k bt445.1 true bt445.2.1 bt445.2.2.1 bt445.2.2.2.1 bt445.2.2.2.2.1 bt460.1 bt460.2.1 bt460.2.2.1 bt460.2.2.2 bt471.1 bt471.2.1 bt471.2.2.1 bt471.2.2.2))) else (laws_FnMachine.j0 k bt445.1 true bt445.2.1 bt445.2.2.1 bt445.2.2.2.1 bt445.2.2.2.2.1 bt460.1 bt460.2.1 bt460.2.2.1 bt460.2.2.2 bt471.1 bt471.2.1 bt471.2.2.1 bt471.2.2.2)))))) = some r := by rw [if_neg (show ¬ (false = true) by decide)] at H; exact H
  clear H
  have H := H1
  clear H1
  replace H := Option.bind_eq_some_iff.mp H
  obtain ⟨⟨t445, t448, t449, t452, t455, t458⟩, A40, H⟩ := H
  replace H : ((impl_StepState.f k t445 t448 t449 t452 t455 t458).bind fun bt460 => ((impl_WantOf.f k t445 t448 t449 t452 t455).bind fun bt471 => ((impl_IsScript.f k t445).bind fun t476 => (if t476 = true then ((impl_IsState.f k t448 t449 t452 t455).bind fun t477 => (if t477 = true then ((impl_IsDone.f t445 t448 t449 t452 t455).bind fun t478 => (laws_FnMachine.j0 k t445 t478 t448 t449 t452 t455 bt460.1 bt460.2.1 bt460.2.2.1 bt460.2.2.2 bt471.1 bt471.2.1 bt471.2.2.1 bt471.2.2.2)) else (laws_FnMachine.j0 k t445 true t448 t449 t452 t455 bt460.1 bt460.2.1 bt460.2.2.1 bt460.2.2.2 bt471.1 bt471.2.1 bt471.2.2.1 bt471.2.2.2))) else (laws_FnMachine.j0 k t445 true t448 t449 t452 t455 bt460.1 bt460.2.1 bt460.2.2.1 bt460.2.2.2 bt471.1 bt471.2.1 bt471.2.2.1 bt471.2.2.2))))) = some r := H
  have A4 := Aside0.mk A40
  clear A40
  replace H := Option.bind_eq_some_iff.mp H
  obtain ⟨⟨t460, t461, t464, t467⟩, A50, H⟩ := H
  replace H : ((impl_WantOf.f k t445 t448 t449 t452 t455).bind fun bt471 => ((impl_IsScript.f k t445).bind fun t476 => (if t476 = true then ((impl_IsState.f k t448 t449 t452 t455).bind fun t477 => (if t477 = true then ((impl_IsDone.f t445 t448 t449 t452 t455).bind fun t478 => (laws_FnMachine.j0 k t445 t478 t448 t449 t452 t455 t460 t461 t464 t467 bt471.1 bt471.2.1 bt471.2.2.1 bt471.2.2.2)) else (laws_FnMachine.j0 k t445 true t448 t449 t452 t455 t460 t461 t464 t467 bt471.1 bt471.2.1 bt471.2.2.1 bt471.2.2.2))) else (laws_FnMachine.j0 k t445 true t448 t449 t452 t455 t460 t461 t464 t467 bt471.1 bt471.2.1 bt471.2.2.1 bt471.2.2.2)))) = some r := H
  have A5 := Aside0.mk A50
  clear A50
  replace H := Option.bind_eq_some_iff.mp H
  obtain ⟨⟨t471, t472, t473, t474⟩, A60, H⟩ := H
  replace H : ((impl_IsScript.f k t445).bind fun t476 => (if t476 = true then ((impl_IsState.f k t448 t449 t452 t455).bind fun t477 => (if t477 = true then ((impl_IsDone.f t445 t448 t449 t452 t455).bind fun t478 => (laws_FnMachine.j0 k t445 t478 t448 t449 t452 t455 t460 t461 t464 t467 t471 t472 t473 t474)) else (laws_FnMachine.j0 k t445 true t448 t449 t452 t455 t460 t461 t464 t467 t471 t472 t473 t474))) else (laws_FnMachine.j0 k t445 true t448 t449 t452 t455 t460 t461 t464 t467 t471 t472 t473 t474))) = some r := H
  have A6 := Aside0.mk A60
  clear A60
  have HC7 := Aside0.mk H
  clear H
  go_enter Try.func4, Try.ntmps4
  go_upto_region 6 with (first | ((with_reducible refine gate_callee (f := 10) rfl ?_); refine goesL_ (some 9) rfl rfl Try.func10 KR rfl #[.slice A0 l0.length c0] rfl AR ?_; (with_reducible refine (laws_big.calls _ _ l0 false _ ?side1 ?side2 A2.out).mono ?_); (case side1 => exact CR (HR0.out)); (case side2 => exact HC0.out); rintro e w' ⟨rfl, ⟨nd, rfl⟩⟩; refine ⟨_, rfl, ?_⟩) | ((with_reducible refine gate_callee (f := 19) rfl ?_); refine goesL_ (some 12) rfl rfl Try.func19 KR rfl #[.slice A0 l0.length c0] rfl AR ?_; (with_reducible refine (spec_DrawStepState.calls k _ _ l0 t445 t448 t449 t452 t455 t458 _ ?side1 ?side2 A4.out).mono ?_); (case side1 => exact CR (HR0.out)); (case side2 => exact HC0.out); rintro e w8 ⟨v446, v450, v453, v456, rfl, ho0, ho1, ho2, ho3, hb⟩; refine ⟨_, rfl, ?_⟩; have HO447 := Rn0 ho0 HB; have HO451 := Rn0 ho1 HB; have HO454 := Rn0 ho2 HB; have HO457 := Rn0 ho3 HB; replace HB := bs HB hb; (try clear hb); (try clear hb2); (try clear hk); (try clear hi); (try clear ho0); (try clear ho1); (try clear ho2); (try clear ho3)) | ((with_reducible refine gate_dst (N := 4) rfl ?_); refine bx_ (N := 4) #[.int .i64 0, .slice none 0 0, .slice none 0 0, .slice none 0 0] 45 ?_; intro gb459 hg w9 hbox hb; replace HO447 := Rb HO447 hb; replace HO451 := Rb HO451 hb; replace HO454 := Rb HO454 hb; replace HO457 := Rb HO457 hb; have BK459 := ak hbox; have GW459 := gy hg HB; have GE459 := gy hg HB; replace HB := bs HB hb; clear hb hbox hg; obtain ⟨hcz10_0, hcz10_1, hcz10_2, hcz10_3, hfz10_0, hfz10_1, hfz10_2, hfz10_3⟩ := bc4 BK459; obtain ⟨Ao11, co11, eo11⟩ := Kd.R_slice HO451.out; subst eo11; obtain ⟨Ao12, co12, eo12⟩ := Kd.R_slice HO454.out; subst eo12; obtain ⟨Ao13, co13, eo13⟩ := Kd.R_slice HO457.out; subst eo13; obtain ⟨Ao14, co14, eo14⟩ := Kd.R_slice HO447.out; subst eo14) | ((with_reducible refine gate_callee (f := 20) rfl ?_); refine goesL_ (some 19) rfl rfl Try.func20 KR rfl #[.slice Ao14 t445.length co14, .agg #[.int .i64 t448, .slice Ao11 t449.length co11, .slice Ao12 t452.length co12, .slice Ao13 t455.length co13], .int .i64 t458] rfl AR ?_; (with_reducible refine (impl_StepState.calls k _ _ t445 t448 _ _ t449 _ _ t452 _ _ t455 t458 t460 t461 t464 t467 _ ?side1 ?side2 ?side3 ?side4 ?side5 ?side6 ?side7 ?side8 A5.out).mono ?_); (case side1 => exact (Kd.R_reads' (Re1 HO447 BK459)).2.2); (case side2 => exact (Kd.R_reads' HO447.out).2.1); (case side3 => exact (Kd.R_reads' (Re1 HO451 BK459)).2.2); (case side4 => exact (Kd.R_reads' HO451.out).2.1); (case side5 => exact (Kd.R_reads' (Re1 HO454 BK459)).2.2); (case side6 => exact (Kd.R_reads' HO454.out).2.1); (case side7 => exact (Kd.R_reads' (Re1 HO457 BK459)).2.2); (case side8 => exact (Kd.R_reads' HO457.out).2.1); rintro e w15 ⟨v462, v465, v468, rfl, ho0, ho1, ho2, hb⟩; refine ⟨_, rfl, ?_⟩; replace HO447 := ak (Kd.R_below (Re1 HO447 BK459) hb); have HO463 := ak (Kd.R_lower (Kd.R_new' (Kd.R_new' (Kd.R_new' ho0 (Kd.R_lt (Re1 HO451 BK459))) (Kd.R_lt (Re1 HO454 BK459))) (Kd.R_lt (Re1 HO457 BK459))) (below_size PB)); have HO466 := ak (Kd.R_lower (Kd.R_new' (Kd.R_new' (Kd.R_new' ho1 (Kd.R_lt (Re1 HO451 BK459))) (Kd.R_lt (Re1 HO454 BK459))) (Kd.R_lt (Re1 HO457 BK459))) (below_size PB)); have HO469 := ak (Kd.R_lower (Kd.R_new' (Kd.R_new' (Kd.R_new' ho2 (Kd.R_lt (Re1 HO451 BK459))) (Kd.R_lt (Re1 HO454 BK459))) (Kd.R_lt (Re1 HO457 BK459))) (below_size PB)); replace HO451 := ak (Kd.R_mono (Kd.R_told (Kd.R_told (Kd.R_told (Kd.R_old (Re1 HO451 BK459) hb) (Kd.R_base ho0)) (Kd.R_base ho1)) (Kd.R_base ho2)) (fun _ h_ => h_.1)); replace HO454 := ak (Kd.R_mono (Kd.R_told (Kd.R_told (Kd.R_told (Kd.R_old (Re1 HO454 BK459) hb) (Kd.R_base ho0)) (Kd.R_base ho1)) (Kd.R_base ho2)) (fun _ h_ => h_.1)); replace HO457 := ak (Kd.R_mono (Kd.R_told (Kd.R_told (Kd.R_told (Kd.R_old (Re1 HO457 BK459) hb) (Kd.R_base ho0)) (Kd.R_base ho1)) (Kd.R_base ho2)) (fun _ h_ => h_.1)); replace BK459 := kp (cs' := #[.int .i64 t448, .slice Ao11 t449.length co11, .slice Ao12 t452.length co12, .slice Ao13 t455.length co13]) BK459 hb; replace HB := bs HB hb; (try clear hb); (try clear hb2); (try clear hk); (try clear hi); (try clear ho0); (try clear ho1); (try clear ho2)) | ((with_reducible refine gate_dst (N := 6) rfl ?_); refine bx_ (N := 6) #[.int .i64 0, .slice none 0 0, .slice none 0 0, .slice none 0 0] 45 ?_; intro gb470 hg w16 hbox hb; replace HO447 := Rb HO447 hb; replace HO451 := Rb HO451 hb; replace HO454 := Rb HO454 hb; replace HO457 := Rb HO457 hb; replace HO463 := Rb HO463 hb; replace HO466 := Rb HO466 hb; replace HO469 := Rb HO469 hb; have BK470 := ak hbox; have GW470 := gy hg HB; have GE470 := gy hg HB; replace HB := bs HB hb; have NB459_470 := gm hg BK459; have NB470_459 := gn hg BK459; replace BK459 := kf BK459 hb; clear hb hbox hg; have hnb17 := NB470_459.out; have hnc17 := NB459_470.out; obtain ⟨hcz18_0, hcz18_1, hcz18_2, hcz18_3, hfz18_0, hfz18_1, hfz18_2, hfz18_3⟩ := bc4 BK470; obtain ⟨Ao19, co19, eo19⟩ := Kd.R_slice HO463.out; subst eo19; obtain ⟨Ao20, co20, eo20⟩ := Kd.R_slice HO466.out; subst eo20; obtain ⟨Ao21, co21, eo21⟩ := Kd.R_slice HO469.out; subst eo21; obtain ⟨hcz22_0, hcz22_1, hcz22_2, hcz22_3, hfz22_0, hfz22_1, hfz22_2, hfz22_3⟩ := bc4 BK459) | ((with_reducible refine gate_callee (f := 21) rfl ?_); refine goesL_ (some 22) rfl rfl Try.func21 KR rfl #[.slice Ao14 t445.length co14, .agg #[.int .i64 t448, .slice Ao11 t449.length co11, .slice Ao12 t452.length co12, .slice Ao13 t455.length co13]] rfl AR ?_; (with_reducible refine (impl_WantOf.calls k _ _ t445 t448 _ _ t449 _ _ t452 _ _ t455 t471 t472 t473 t474 _ ?side1 ?side2 ?side3 ?side4 ?side5 ?side6 ?side7 ?side8 A6.out).mono ?_); (case side1 => exact (Kd.R_reads' (Re1 HO447 BK470)).2.2); (case side2 => exact (Kd.R_reads' HO447.out).2.1); (case side3 => exact (Kd.R_reads' (Re1 HO451 BK470)).2.2); (case side4 => exact (Kd.R_reads' HO451.out).2.1); (case side5 => exact (Kd.R_reads' (Re1 HO454 BK470)).2.2); (case side6 => exact (Kd.R_reads' HO454.out).2.1); (case side7 => exact (Kd.R_reads' (Re1 HO457 BK470)).2.2); (case side8 => exact (Kd.R_reads' HO457.out).2.1); rintro e w23 ⟨rfl, hb⟩; refine ⟨_, rfl, ?_⟩; replace HO447 := ak (Kd.R_below (Re1 HO447 BK470) hb); replace HO451 := ak (Kd.R_below (Re1 HO451 BK470) hb); replace HO454 := ak (Kd.R_below (Re1 HO454 BK470) hb); replace HO457 := ak (Kd.R_below (Re1 HO457 BK470) hb); replace HO463 := ak (Kd.R_below (Re1 HO463 BK470) hb); replace HO466 := ak (Kd.R_below (Re1 HO466 BK470) hb); replace HO469 := ak (Kd.R_below (Re1 HO469 BK470) hb); replace BK459 := kf BK459 hb; replace BK470 := kp (cs' := #[.int .i64 t460, .slice Ao19 t461.length co19, .slice Ao20 t464.length co20, .slice Ao21 t467.length co21]) BK470 hb; replace HB := bs HB hb; (try clear hb); (try clear hb2); (try clear hk); (try clear hi)) | ((with_reducible refine gate_dst (N := 7) rfl ?_); refine bx_ (N := 7) #[.int .i64 0, .int .i64 0, .int .i64 0, .int .i64 0] 50 ?_; intro gb475 hg w24 hbox hb; replace HO447 := Rb HO447 hb; replace HO451 := Rb HO451 hb; replace HO454 := Rb HO454 hb; replace HO457 := Rb HO457 hb; replace HO463 := Rb HO463 hb; replace HO466 := Rb HO466 hb; replace HO469 := Rb HO469 hb; have BK475 := ak hbox; have GW475 := gy hg HB; have GE475 := gy hg HB; replace HB := bs HB hb; have NB459_475 := gm hg BK459; have NB475_459 := gn hg BK459; replace BK459 := kf BK459 hb; have NB470_475 := gm hg BK470; have NB475_470 := gn hg BK470; replace BK470 := kf BK470 hb; clear hb hbox hg; have hnb25 := NB475_459.out; have hnc25 := NB459_475.out; have hnb26 := NB475_470.out; have hnc26 := NB470_475.out; obtain ⟨hcz27_0, hcz27_1, hcz27_2, hcz27_3, hfz27_0, hfz27_1, hfz27_2, hfz27_3⟩ := bc4 BK475))
  (try simp only [Act.put, List.setIfInBounds_toArray, List.set_cons_zero, List.set_cons_succ])
  go_cut [35] (fun v35 wc => ∃ (kq : Nat) (x35_6 : Bool), v35 = .bool x35_6 ∧ Aside0 (laws_FnMachine.j0 kq t445 x35_6 t448 t449 t452 t455 t460 t461 t464 t467 t471 t472 t473 t474 = some r) ∧ Aside0 (kq ≤ k) ∧ Aside0 (Kd.R k121 121 wc w.heap.size (fun _ => True) (.slice Ao14 t445.length co14) t445) ∧ Aside0 (Kd.R (Kd.int .i64) 3 wc w.heap.size (fun k_ => some k_ ≠ ((.slice Ao12 t452.length co12) : Value).ownBlock ∧ some k_ ≠ ((.slice Ao13 t455.length co13) : Value).ownBlock ∧ some k_ ≠ ((.slice Ao19 t461.length co19) : Value).ownBlock ∧ some k_ ≠ ((.slice Ao20 t464.length co20) : Value).ownBlock ∧ some k_ ≠ ((.slice Ao21 t467.length co21) : Value).ownBlock) (.slice Ao11 t449.length co11) t449) ∧ Aside0 (Kd.R (Kd.int .i64) 3 wc w.heap.size (fun k_ => some k_ ≠ ((.slice Ao11 t449.length co11) : Value).ownBlock ∧ some k_ ≠ ((.slice Ao13 t455.length co13) : Value).ownBlock ∧ some k_ ≠ ((.slice Ao19 t461.length co19) : Value).ownBlock ∧ some k_ ≠ ((.slice Ao20 t464.length co20) : Value).ownBlock ∧ some k_ ≠ ((.slice Ao21 t467.length co21) : Value).ownBlock) (.slice Ao12 t452.length co12) t452) ∧ Aside0 (Kd.R (Kd.int .i64) 3 wc w.heap.size (fun k_ => some k_ ≠ ((.slice Ao11 t449.length co11) : Value).ownBlock ∧ some k_ ≠ ((.slice Ao12 t452.length co12) : Value).ownBlock ∧ some k_ ≠ ((.slice Ao19 t461.length co19) : Value).ownBlock ∧ some k_ ≠ ((.slice Ao20 t464.length co20) : Value).ownBlock ∧ some k_ ≠ ((.slice Ao21 t467.length co21) : Value).ownBlock) (.slice Ao13 t455.length co13) t455) ∧ Aside0 (Kd.R (Kd.int .i64) 3 wc w.heap.size (fun k_ => some k_ ≠ ((.slice Ao11 t449.length co11) : Value).ownBlock ∧ some k_ ≠ ((.slice Ao12 t452.length co12) : Value).ownBlock ∧ some k_ ≠ ((.slice Ao13 t455.length co13) : Value).ownBlock ∧ some k_ ≠ ((.slice Ao20 t464.length co20) : Value).ownBlock ∧ some k_ ≠ ((.slice Ao21 t467.length co21) : Value).ownBlock) (.slice Ao19 t461.length co19) t461) ∧ Aside0 (Kd.R (Kd.int .i64) 3 wc w.heap.size (fun k_ => some k_ ≠ ((.slice Ao11 t449.length co11) : Value).ownBlock ∧ some k_ ≠ ((.slice Ao12 t452.length co12) : Value).ownBlock ∧ some k_ ≠ ((.slice Ao13 t455.length co13) : Value).ownBlock ∧ some k_ ≠ ((.slice Ao19 t461.length co19) : Value).ownBlock ∧ some k_ ≠ ((.slice Ao21 t467.length co21) : Value).ownBlock) (.slice Ao20 t464.length co20) t464) ∧ Aside0 (Kd.R (Kd.int .i64) 3 wc w.heap.size (fun k_ => some k_ ≠ ((.slice Ao11 t449.length co11) : Value).ownBlock ∧ some k_ ≠ ((.slice Ao12 t452.length co12) : Value).ownBlock ∧ some k_ ≠ ((.slice Ao13 t455.length co13) : Value).ownBlock ∧ some k_ ≠ ((.slice Ao19 t461.length co19) : Value).ownBlock ∧ some k_ ≠ ((.slice Ao20 t464.length co20) : Value).ownBlock) (.slice Ao21 t467.length co21) t467) ∧ Aside0 (wc.heap[gb459]? = some (.cells #[.int .i64 t448, (.slice Ao11 t449.length co11), (.slice Ao12 t452.length co12), (.slice Ao13 t455.length co13)] 45 (0, 0))) ∧ Aside0 (wc.heap[gb470]? = some (.cells #[.int .i64 t460, (.slice Ao19 t461.length co19), (.slice Ao20 t464.length co20), (.slice Ao21 t467.length co21)] 45 (0, 0))) ∧ Aside0 (wc.heap[gb475]? = some (.cells #[.int .i64 t471, .int .i64 t472, .int .i64 t473, .int .i64 t474] 50 (0, 0))) ∧ Aside0 (Below w.heap.size w wc))
  case first =>
   have H := HC7.out
   clear HC7
   replace H := Option.bind_eq_some_iff.mp H
   obtain ⟨t476, A280, H⟩ := H
   replace H : (if t476 = true then ((impl_IsState.f k t448 t449 t452 t455).bind fun t477 => (if t477 = true then ((impl_IsDone.f t445 t448 t449 t452 t455).bind fun t478 => (laws_FnMachine.j0 k t445 t478 t448 t449 t452 t455 t460 t461 t464 t467 t471 t472 t473 t474)) else (laws_FnMachine.j0 k t445 true t448 t449 t452 t455 t460 t461 t464 t467 t471 t472 t473 t474))) else (laws_FnMachine.j0 k t445 true t448 t449 t452 t455 t460 t461 t464 t467 t471 t472 t473 t474)) = some r := H
   have A28 := Aside0.mk A280
   clear A280
   by_cases c29 : t476 = true
   ·subst c29
    have H1 : ((impl_IsState.f k t448 t449 t452 t455).bind fun t477 => (if t477 = true then ((impl_IsDone.f t445 t448 t449 t452 t455).bind fun t478 => (laws_FnMachine.j0 k t445 t478 t448 t449 t452 t455 t460 t461 t464 t467 t471 t472 t473 t474)) else (laws_FnMachine.j0 k t445 true t448 t449 t452 t455 t460 t461 t464 t467 t471 t472 t473 t474))) = some r := by rw [if_pos rfl] at H; exact H
    clear H
    have H := H1
    clear H1
    replace H := Option.bind_eq_some_iff.mp H
    obtain ⟨t477, A300, H⟩ := H
    replace H : (if t477 = true then ((impl_IsDone.f t445 t448 t449 t452 t455).bind fun t478 => (laws_FnMachine.j0 k t445 t478 t448 t449 t452 t455 t460 t461 t464 t467 t471 t472 t473 t474)) else (laws_FnMachine.j0 k t445 true t448 t449 t452 t455 t460 t461 t464 t467 t471 t472 t473 t474)) = some r := H
    have A30 := Aside0.mk A300
    clear A300
    by_cases c31 : t477 = true
    ·subst c31
     have H1 : ((impl_IsDone.f t445 t448 t449 t452 t455).bind fun t478 => (laws_FnMachine.j0 k t445 t478 t448 t449 t452 t455 t460 t461 t464 t467 t471 t472 t473 t474)) = some r := by rw [if_pos rfl] at H; exact H
     clear H
     have H := H1
     clear H1
     replace H := Option.bind_eq_some_iff.mp H
     obtain ⟨t478, A320, H⟩ := H
     replace H : (laws_FnMachine.j0 k t445 t478 t448 t449 t452 t455 t460 t461 t464 t467 t471 t472 t473 t474) = some r := H
     have A32 := Aside0.mk A320
     clear A320
     have H' := Aside0.mk H
     clear H
     go_wp2_with (first | ((with_reducible refine gate_callee (f := 22) rfl ?_); refine goesL_ (some 24) rfl rfl Try.func22 KR rfl #[.slice Ao14 t445.length co14] rfl AR ?_; (with_reducible refine (impl_IsScript.calls k _ _ t445 true _ ?side1 ?side2 A28.out).mono ?_); (case side1 => exact (Kd.R_reads' (Re1 HO447 BK475)).2.2); (case side2 => exact (Kd.R_reads' HO447.out).2.1); rintro e w33 ⟨rfl, hb⟩; refine ⟨_, rfl, ?_⟩; replace HO447 := ak (Kd.R_below (Re1 HO447 BK475) hb); replace HO451 := ak (Kd.R_below (Re1 HO451 BK475) hb); replace HO454 := ak (Kd.R_below (Re1 HO454 BK475) hb); replace HO457 := ak (Kd.R_below (Re1 HO457 BK475) hb); replace HO463 := ak (Kd.R_below (Re1 HO463 BK475) hb); replace HO466 := ak (Kd.R_below (Re1 HO466 BK475) hb); replace HO469 := ak (Kd.R_below (Re1 HO469 BK475) hb); replace BK459 := kf BK459 hb; replace BK470 := kf BK470 hb; replace BK475 := kp (cs' := #[.int .i64 t471, .int .i64 t472, .int .i64 t473, .int .i64 t474]) BK475 hb; replace HB := bs HB hb; (try clear hb); (try clear hb2); (try clear hk); (try clear hi); have hnb34 := NB459_470.out; have hnc34 := NB470_459.out; have hnb35 := NB459_475.out; have hnc35 := NB475_459.out; obtain ⟨hcz36_0, hcz36_1, hcz36_2, hcz36_3, hfz36_0, hfz36_1, hfz36_2, hfz36_3⟩ := bc4 BK459) | (go_at_call 23; (with_reducible refine (impl_IsState.calls k t448 _ _ t449 _ _ t452 _ _ t455 true _ ?side1 ?side2 ?side3 ?side4 ?side5 ?side6 A30.out).mono ?_); (case side1 => exact CR ((Kd.R_reads' HO451.out).2.2)); (case side2 => exact (Kd.R_reads' HO451.out).2.1); (case side3 => exact CR ((Kd.R_reads' HO454.out).2.2)); (case side4 => exact (Kd.R_reads' HO454.out).2.1); (case side5 => exact CR ((Kd.R_reads' HO457.out).2.2)); (case side6 => exact (Kd.R_reads' HO457.out).2.1); rintro e w37 ⟨rfl, hb⟩; replace HO447 := Rb HO447 hb; replace HO451 := Rb HO451 hb; replace HO454 := Rb HO454 hb; replace HO457 := Rb HO457 hb; replace HO463 := Rb HO463 hb; replace HO466 := Rb HO466 hb; replace HO469 := Rb HO469 hb; replace BK459 := kf BK459 hb; replace BK470 := kf BK470 hb; replace BK475 := kf BK475 hb; replace HB := bs HB hb; (try clear hb); (try clear hb2); (try clear hk); (try clear hi); obtain ⟨hcz38_0, hcz38_1, hcz38_2, hcz38_3, hfz38_0, hfz38_1, hfz38_2, hfz38_3⟩ := bc4 BK459) | (go_at_call 24; (with_reducible refine (impl_IsDone.calls _ _ t445 t448 _ _ t449 _ _ t452 _ _ t455 t478 _ ?side1 ?side2 ?side3 ?side4 ?side5 ?side6 ?side7 ?side8 A32.out).mono ?_); (case side1 => exact CR ((Kd.R_reads' HO447.out).2.2)); (case side2 => exact (Kd.R_reads' HO447.out).2.1); (case side3 => exact CR ((Kd.R_reads' HO451.out).2.2)); (case side4 => exact (Kd.R_reads' HO451.out).2.1); (case side5 => exact CR ((Kd.R_reads' HO454.out).2.2)); (case side6 => exact (Kd.R_reads' HO454.out).2.1); (case side7 => exact CR ((Kd.R_reads' HO457.out).2.2)); (case side8 => exact (Kd.R_reads' HO457.out).2.1); rintro e w39 ⟨rfl, hb⟩; replace HO447 := Rb HO447 hb; replace HO451 := Rb HO451 hb; replace HO454 := Rb HO454 hb; replace HO457 := Rb HO457 hb; replace HO463 := Rb HO463 hb; replace HO466 := Rb HO466 hb; replace HO469 := Rb HO469 hb; replace BK459 := kf BK459 hb; replace BK470 := kf BK470 hb; replace BK475 := kf BK475 hb; replace HB := bs HB hb; (try clear hb); (try clear hb2); (try clear hk); (try clear hi)))
     go_meet
     case rel => exact ⟨_, (t478), (by first | rfl | (simp; done) | (simp [*]; done)), H', ⟨by first | omega | exact Nat.le_refl _⟩, ⟨PR HO447⟩, ⟨RX HO451.out (fun _ hk => ⟨hk.1.1.1.1, ⟨hk.1.1.1.2, ⟨hk.1.1.2, ⟨hk.1.2, hk.2⟩⟩⟩⟩)⟩, ⟨RX HO454.out (fun _ hk => ⟨hk.1.1.1.1, ⟨hk.1.1.1.2, ⟨hk.1.1.2, ⟨hk.1.2, hk.2⟩⟩⟩⟩)⟩, ⟨RX HO457.out (fun _ hk => ⟨hk.1.1.1.1, ⟨hk.1.1.1.2, ⟨hk.1.1.2, ⟨hk.1.2, hk.2⟩⟩⟩⟩)⟩, ⟨RX HO463.out (fun _ hk => ⟨hk.1.1.2, ⟨hk.1.2, ⟨hk.2, ⟨hk.1.1.1.1, hk.1.1.1.2⟩⟩⟩⟩)⟩, ⟨RX HO466.out (fun _ hk => ⟨hk.1.1.2, ⟨hk.1.2, ⟨hk.2, ⟨hk.1.1.1.1, hk.1.1.1.2⟩⟩⟩⟩)⟩, ⟨RX HO469.out (fun _ hk => ⟨hk.1.1.2, ⟨hk.1.2, ⟨hk.2, ⟨hk.1.1.1.1, hk.1.1.1.2⟩⟩⟩⟩)⟩, ⟨PK BK459⟩, ⟨PK BK470⟩, ⟨PK BK475⟩, ⟨PB⟩⟩
    ·replace c31 := Bool.eq_false_iff.mpr c31
     subst c31
     have H1 : (laws_FnMachine.j0 k t445 true t448 t449 t452 t455 t460 t461 t464 t467 t471 t472 t473 t474) = some r := by rw [if_neg (show ¬ (false = true) by decide)] at H; exact H
     clear H
     have H := H1
     clear H1
     have H' := Aside0.mk H
     clear H
     go_wp2_with (first | ((with_reducible refine gate_callee (f := 22) rfl ?_); refine goesL_ (some 24) rfl rfl Try.func22 KR rfl #[.slice Ao14 t445.length co14] rfl AR ?_; (with_reducible refine (impl_IsScript.calls k _ _ t445 true _ ?side1 ?side2 A28.out).mono ?_); (case side1 => exact (Kd.R_reads' (Re1 HO447 BK475)).2.2); (case side2 => exact (Kd.R_reads' HO447.out).2.1); rintro e w40 ⟨rfl, hb⟩; refine ⟨_, rfl, ?_⟩; replace HO447 := ak (Kd.R_below (Re1 HO447 BK475) hb); replace HO451 := ak (Kd.R_below (Re1 HO451 BK475) hb); replace HO454 := ak (Kd.R_below (Re1 HO454 BK475) hb); replace HO457 := ak (Kd.R_below (Re1 HO457 BK475) hb); replace HO463 := ak (Kd.R_below (Re1 HO463 BK475) hb); replace HO466 := ak (Kd.R_below (Re1 HO466 BK475) hb); replace HO469 := ak (Kd.R_below (Re1 HO469 BK475) hb); replace BK459 := kf BK459 hb; replace BK470 := kf BK470 hb; replace BK475 := kp (cs' := #[.int .i64 t471, .int .i64 t472, .int .i64 t473, .int .i64 t474]) BK475 hb; replace HB := bs HB hb; (try clear hb); (try clear hb2); (try clear hk); (try clear hi); have hnb41 := NB459_470.out; have hnc41 := NB470_459.out; have hnb42 := NB459_475.out; have hnc42 := NB475_459.out; obtain ⟨hcz43_0, hcz43_1, hcz43_2, hcz43_3, hfz43_0, hfz43_1, hfz43_2, hfz43_3⟩ := bc4 BK459) | (go_at_call 23; (with_reducible refine (impl_IsState.calls k t448 _ _ t449 _ _ t452 _ _ t455 false _ ?side1 ?side2 ?side3 ?side4 ?side5 ?side6 A30.out).mono ?_); (case side1 => exact CR ((Kd.R_reads' HO451.out).2.2)); (case side2 => exact (Kd.R_reads' HO451.out).2.1); (case side3 => exact CR ((Kd.R_reads' HO454.out).2.2)); (case side4 => exact (Kd.R_reads' HO454.out).2.1); (case side5 => exact CR ((Kd.R_reads' HO457.out).2.2)); (case side6 => exact (Kd.R_reads' HO457.out).2.1); rintro e w44 ⟨rfl, hb⟩; replace HO447 := Rb HO447 hb; replace HO451 := Rb HO451 hb; replace HO454 := Rb HO454 hb; replace HO457 := Rb HO457 hb; replace HO463 := Rb HO463 hb; replace HO466 := Rb HO466 hb; replace HO469 := Rb HO469 hb; replace BK459 := kf BK459 hb; replace BK470 := kf BK470 hb; replace BK475 := kf BK475 hb; replace HB := bs HB hb; (try clear hb); (try clear hb2); (try clear hk); (try clear hi)))
     go_meet
     case rel => exact ⟨_, (true), (by first | rfl | (simp; done) | (simp [*]; done)), H', ⟨by first | omega | exact Nat.le_refl _⟩, ⟨PR HO447⟩, ⟨RX HO451.out (fun _ hk => ⟨hk.1.1.1.1, ⟨hk.1.1.1.2, ⟨hk.1.1.2, ⟨hk.1.2, hk.2⟩⟩⟩⟩)⟩, ⟨RX HO454.out (fun _ hk => ⟨hk.1.1.1.1, ⟨hk.1.1.1.2, ⟨hk.1.1.2, ⟨hk.1.2, hk.2⟩⟩⟩⟩)⟩, ⟨RX HO457.out (fun _ hk => ⟨hk.1.1.1.1, ⟨hk.1.1.1.2, ⟨hk.1.1.2, ⟨hk.1.2, hk.2⟩⟩⟩⟩)⟩, ⟨RX HO463.out (fun _ hk => ⟨hk.1.1.2, ⟨hk.1.2, ⟨hk.2, ⟨hk.1.1.1.1, hk.1.1.1.2⟩⟩⟩⟩)⟩, ⟨RX HO466.out (fun _ hk => ⟨hk.1.1.2, ⟨hk.1.2, ⟨hk.2, ⟨hk.1.1.1.1, hk.1.1.1.2⟩⟩⟩⟩)⟩, ⟨RX HO469.out (fun _ hk => ⟨hk.1.1.2, ⟨hk.1.2, ⟨hk.2, ⟨hk.1.1.1.1, hk.1.1.1.2⟩⟩⟩⟩)⟩, ⟨PK BK459⟩, ⟨PK BK470⟩, ⟨PK BK475⟩, ⟨PB⟩⟩
   ·replace c29 := Bool.eq_false_iff.mpr c29
    subst c29
    have H1 : (laws_FnMachine.j0 k t445 true t448 t449 t452 t455 t460 t461 t464 t467 t471 t472 t473 t474) = some r := by rw [if_neg (show ¬ (false = true) by decide)] at H; exact H
    clear H
    have H := H1
    clear H1
    have H' := Aside0.mk H
    clear H
    go_wp2_with (first | ((with_reducible refine gate_callee (f := 22) rfl ?_); refine goesL_ (some 24) rfl rfl Try.func22 KR rfl #[.slice Ao14 t445.length co14] rfl AR ?_; (with_reducible refine (impl_IsScript.calls k _ _ t445 false _ ?side1 ?side2 A28.out).mono ?_); (case side1 => exact (Kd.R_reads' (Re1 HO447 BK475)).2.2); (case side2 => exact (Kd.R_reads' HO447.out).2.1); rintro e w45 ⟨rfl, hb⟩; refine ⟨_, rfl, ?_⟩; replace HO447 := ak (Kd.R_below (Re1 HO447 BK475) hb); replace HO451 := ak (Kd.R_below (Re1 HO451 BK475) hb); replace HO454 := ak (Kd.R_below (Re1 HO454 BK475) hb); replace HO457 := ak (Kd.R_below (Re1 HO457 BK475) hb); replace HO463 := ak (Kd.R_below (Re1 HO463 BK475) hb); replace HO466 := ak (Kd.R_below (Re1 HO466 BK475) hb); replace HO469 := ak (Kd.R_below (Re1 HO469 BK475) hb); replace BK459 := kf BK459 hb; replace BK470 := kf BK470 hb; replace BK475 := kp (cs' := #[.int .i64 t471, .int .i64 t472, .int .i64 t473, .int .i64 t474]) BK475 hb; replace HB := bs HB hb; (try clear hb); (try clear hb2); (try clear hk); (try clear hi)))
    go_meet
    case rel => exact ⟨_, (true), (by first | rfl | (simp; done) | (simp [*]; done)), H', ⟨by first | omega | exact Nat.le_refl _⟩, ⟨PR HO447⟩, ⟨RX HO451.out (fun _ hk => ⟨hk.1.1.1.1, ⟨hk.1.1.1.2, ⟨hk.1.1.2, ⟨hk.1.2, hk.2⟩⟩⟩⟩)⟩, ⟨RX HO454.out (fun _ hk => ⟨hk.1.1.1.1, ⟨hk.1.1.1.2, ⟨hk.1.1.2, ⟨hk.1.2, hk.2⟩⟩⟩⟩)⟩, ⟨RX HO457.out (fun _ hk => ⟨hk.1.1.1.1, ⟨hk.1.1.1.2, ⟨hk.1.1.2, ⟨hk.1.2, hk.2⟩⟩⟩⟩)⟩, ⟨RX HO463.out (fun _ hk => ⟨hk.1.1.2, ⟨hk.1.2, ⟨hk.2, ⟨hk.1.1.1.1, hk.1.1.1.2⟩⟩⟩⟩)⟩, ⟨RX HO466.out (fun _ hk => ⟨hk.1.1.2, ⟨hk.1.2, ⟨hk.2, ⟨hk.1.1.1.1, hk.1.1.1.2⟩⟩⟩⟩)⟩, ⟨RX HO469.out (fun _ hk => ⟨hk.1.1.2, ⟨hk.1.2, ⟨hk.2, ⟨hk.1.1.1.1, hk.1.1.1.2⟩⟩⟩⟩)⟩, ⟨PK BK459⟩, ⟨PK BK470⟩, ⟨PK BK475⟩, ⟨PB⟩⟩
  case rest =>
   clear HC7
   (try clear c1); (try clear c2); (try clear p2); (try clear c3); (try clear c4); (try clear c10); (try clear c17); (try clear c19); (try clear c20); (try clear c21); (try clear c22); (try clear c25); (try clear c26); (try clear c29); (try clear c31); (try clear c34); (try clear c35); (try clear c41); (try clear c42); (try clear hcz10_0); (try clear hcz10_1); (try clear hcz10_2); (try clear hcz10_3); (try clear hcz18_0); (try clear hcz18_1); (try clear hcz18_2); (try clear hcz18_3); (try clear hcz22_0); (try clear hcz22_1); (try clear hcz22_2); (try clear hcz22_3); (try clear hcz27_0); (try clear hcz27_1); (try clear hcz27_2); (try clear hcz27_3); (try clear hcz36_0); (try clear hcz36_1); (try clear hcz36_2); (try clear hcz36_3); (try clear hcz38_0); (try clear hcz38_1); (try clear hcz38_2); (try clear hcz38_3); (try clear hcz43_0); (try clear hcz43_1); (try clear hcz43_2); (try clear hcz43_3); (try clear hfz10_0); (try clear hfz10_1); (try clear hfz10_2); (try clear hfz10_3); (try clear hfz18_0); (try clear hfz18_1); (try clear hfz18_2); (try clear hfz18_3); (try clear hfz22_0); (try clear hfz22_1); (try clear hfz22_2); (try clear hfz22_3); (try clear hfz27_0); (try clear hfz27_1); (try clear hfz27_2); (try clear hfz27_3); (try clear hfz36_0); (try clear hfz36_1); (try clear hfz36_2); (try clear hfz36_3); (try clear hfz38_0); (try clear hfz38_1); (try clear hfz38_2); (try clear hfz38_3); (try clear hfz43_0); (try clear hfz43_1); (try clear hfz43_2); (try clear hfz43_3)
   obtain ⟨kq, x35_6, rfl, HA, HJ6, HO_3, HO_460001, HO_460002, HO_460003, HO_471001, HO_471002, HO_471003, BK459, BK470, BK475, HB⟩ := hcut
   cases kq with
   | zero => exact absurd HA.out (by simp [laws_FnMachine.j0])
   | succ kj6 =>
    have H := HA.out
    clear HA
    simp only [laws_FnMachine.j0] at H
    by_cases c46 : x35_6 = true
    ·subst c46
     have H1 : ((impl_EqualStates.f kj6 t460 t461 t464 t467 t448 t449 t452 t455).bind fun t479 => (if t479 = true then (some (t471 == 0)) else (some false))) = some r := by rw [if_pos rfl] at H; exact H
     clear H
     have H := H1
     clear H1
     replace H := Option.bind_eq_some_iff.mp H
     obtain ⟨t479, A470, H⟩ := H
     replace H : (if t479 = true then (some (t471 == 0)) else (some false)) = some r := H
     have A47 := Aside0.mk A470
     clear A470
     by_cases c48 : t479 = true
     ·subst c48
      have H1 : (some (t471 == 0)) = some r := by rw [if_pos rfl] at H; exact H
      clear H
      have H := H1
      clear H1
      obtain rfl := Option.some.inj H
      have hnb49 := NB470_459.out
      have hnc49 := NB459_470.out
      have hnb50 := NB470_475.out
      have hnc50 := NB475_470.out
      obtain ⟨hcz51_0, hcz51_1, hcz51_2, hcz51_3, hfz51_0, hfz51_1, hfz51_2, hfz51_3⟩ := bc4 BK470
      have hnb52 := NB459_475.out
      have hnc52 := NB475_459.out
      obtain ⟨hcz53_0, hcz53_1, hcz53_2, hcz53_3, hfz53_0, hfz53_1, hfz53_2, hfz53_3⟩ := bc4 BK459
      go_wp2_with (first | ((with_reducible refine gate_callee (f := 25) rfl ?_); refine goesL_ (some 38) rfl rfl Try.func25 KR rfl #[.agg #[.int .i64 t460, .slice Ao19 t461.length co19, .slice Ao20 t464.length co20, .slice Ao21 t467.length co21], .agg #[.int .i64 t448, .slice Ao11 t449.length co11, .slice Ao12 t452.length co12, .slice Ao13 t455.length co13]] rfl AR ?_; (with_reducible refine (impl_EqualStates.calls kj6 t460 _ _ t461 _ _ t464 _ _ t467 t448 _ _ t449 _ _ t452 _ _ t455 true _ ?side1 ?side2 ?side3 ?side4 ?side5 ?side6 ?side7 ?side8 ?side9 ?side10 ?side11 ?side12 A47.out).mono ?_); (case side1 => exact CR ((Kd.R_reads' HO_471001.out).2.2)); (case side2 => exact (Kd.R_reads' HO_471001.out).2.1); (case side3 => exact CR ((Kd.R_reads' HO_471002.out).2.2)); (case side4 => exact (Kd.R_reads' HO_471002.out).2.1); (case side5 => exact CR ((Kd.R_reads' HO_471003.out).2.2)); (case side6 => exact (Kd.R_reads' HO_471003.out).2.1); (case side7 => exact CR ((Kd.R_reads' HO_460001.out).2.2)); (case side8 => exact (Kd.R_reads' HO_460001.out).2.1); (case side9 => exact CR ((Kd.R_reads' HO_460002.out).2.2)); (case side10 => exact (Kd.R_reads' HO_460002.out).2.1); (case side11 => exact CR ((Kd.R_reads' HO_460003.out).2.2)); (case side12 => exact (Kd.R_reads' HO_460003.out).2.1); rintro e w54 ⟨rfl, hb⟩; refine ⟨_, rfl, ?_⟩; replace HO_3 := Rb HO_3 hb; replace HO_460001 := Rb HO_460001 hb; replace HO_460002 := Rb HO_460002 hb; replace HO_460003 := Rb HO_460003 hb; replace HO_471001 := Rb HO_471001 hb; replace HO_471002 := Rb HO_471002 hb; replace HO_471003 := Rb HO_471003 hb; replace BK459 := kf BK459 hb; replace BK470 := kf BK470 hb; replace BK475 := kf BK475 hb; replace HB := bs HB hb; (try clear hb); (try clear hb2); (try clear hk); (try clear hi); obtain ⟨hcz55_0, hcz55_1, hcz55_2, hcz55_3, hfz55_0, hfz55_1, hfz55_2, hfz55_3⟩ := bc4 BK475))
      go_ret
      exact ⟨RT, PB⟩
     ·replace c48 := Bool.eq_false_iff.mpr c48
      subst c48
      have H1 : (some false) = some r := by rw [if_neg (show ¬ (false = true) by decide)] at H; exact H
      clear H
      have H := H1
      clear H1
      cases (Option.some.inj H).trans hT_
    ·replace c46 := Bool.eq_false_iff.mpr c46
     subst c46
     have H1 : ((impl_IsState.f kj6 t460 t461 t464 t467).bind fun t480 => (if t480 = true then (if t460 ≤ t448 then (laws_FnMachine.j1 kj6 t445 true t448 t449 t452 t455 t460 t461 t464 t467 t471 t472 t473 t474) else (laws_FnMachine.j1 kj6 t445 (decide (t460 > (wrap64 (t448 + 4)))) t448 t449 t452 t455 t460 t461 t464 t467 t471 t472 t473 t474)) else (laws_FnMachine.j1 kj6 t445 true t448 t449 t452 t455 t460 t461 t464 t467 t471 t472 t473 t474))) = some r := by rw [if_neg (show ¬ (false = true) by decide)] at H; exact H
     clear H
     have H := H1
     clear H1
     have HC62 := Aside0.mk H
     clear H
     go_upto_region 8 with (fail)
     go_cut [61] (fun v61 wc => ∃ (kq : Nat) (x61_61 : Bool), v61 = .bool x61_61 ∧ Aside0 (laws_FnMachine.j1 kq t445 x61_61 t448 t449 t452 t455 t460 t461 t464 t467 t471 t472 t473 t474 = some r) ∧ Aside0 (kq ≤ kj6) ∧ Aside0 (Kd.R k121 121 wc w.heap.size (fun _ => True) (.slice Ao14 t445.length co14) t445) ∧ Aside0 (Kd.R (Kd.int .i64) 3 wc w.heap.size (fun k_ => some k_ ≠ ((.slice Ao12 t452.length co12) : Value).ownBlock ∧ some k_ ≠ ((.slice Ao13 t455.length co13) : Value).ownBlock ∧ some k_ ≠ ((.slice Ao19 t461.length co19) : Value).ownBlock ∧ some k_ ≠ ((.slice Ao20 t464.length co20) : Value).ownBlock ∧ some k_ ≠ ((.slice Ao21 t467.length co21) : Value).ownBlock) (.slice Ao11 t449.length co11) t449) ∧ Aside0 (Kd.R (Kd.int .i64) 3 wc w.heap.size (fun k_ => some k_ ≠ ((.slice Ao11 t449.length co11) : Value).ownBlock ∧ some k_ ≠ ((.slice Ao13 t455.length co13) : Value).ownBlock ∧ some k_ ≠ ((.slice Ao19 t461.length co19) : Value).ownBlock ∧ some k_ ≠ ((.slice Ao20 t464.length co20) : Value).ownBlock ∧ some k_ ≠ ((.slice Ao21 t467.length co21) : Value).ownBlock) (.slice Ao12 t452.length co12) t452) ∧ Aside0 (Kd.R (Kd.int .i64) 3 wc w.heap.size (fun k_ => some k_ ≠ ((.slice Ao11 t449.length co11) : Value).ownBlock ∧ some k_ ≠ ((.slice Ao12 t452.length co12) : Value).ownBlock ∧ some k_ ≠ ((.slice Ao19 t461.length co19) : Value).ownBlock ∧ some k_ ≠ ((.slice Ao20 t464.length co20) : Value).ownBlock ∧ some k_ ≠ ((.slice Ao21 t467.length co21) : Value).ownBlock) (.slice Ao13 t455.length co13) t455) ∧ Aside0 (Kd.R (Kd.int .i64) 3 wc w.heap.size (fun k_ => some k_ ≠ ((.slice Ao11 t449.length co11) : Value).ownBlock ∧ some k_ ≠ ((.slice Ao12 t452.length co12) : Value).ownBlock ∧ some k_ ≠ ((.slice Ao13 t455.length co13) : Value).ownBlock ∧ some k_ ≠ ((.slice Ao20 t464.length co20) : Value).ownBlock ∧ some k_ ≠ ((.slice Ao21 t467.length co21) : Value).ownBlock) (.slice Ao19 t461.length co19) t461) ∧ Aside0 (Kd.R (Kd.int .i64) 3 wc w.heap.size (fun k_ => some k_ ≠ ((.slice Ao11 t449.length co11) : Value).ownBlock ∧ some k_ ≠ ((.slice Ao12 t452.length co12) : Value).ownBlock ∧ some k_ ≠ ((.slice Ao13 t455.length co13) : Value).ownBlock ∧ some k_ ≠ ((.slice Ao19 t461.length co19) : Value).ownBlock ∧ some k_ ≠ ((.slice Ao21 t467.length co21) : Value).ownBlock) (.slice Ao20 t464.length co20) t464) ∧ Aside0 (Kd.R (Kd.int .i64) 3 wc w.heap.size (fun k_ => some k_ ≠ ((.slice Ao11 t449.length co11) : Value).ownBlock ∧ some k_ ≠ ((.slice Ao12 t452.length co12) : Value).ownBlock ∧ some k_ ≠ ((.slice Ao13 t455.length co13) : Value).ownBlock ∧ some k_ ≠ ((.slice Ao19 t461.length co19) : Value).ownBlock ∧ some k_ ≠ ((.slice Ao20 t464.length co20) : Value).ownBlock) (.slice Ao21 t467.length co21) t467) ∧ Aside0 (wc.heap[gb459]? = some (.cells #[.int .i64 t448, (.slice Ao11 t449.length co11), (.slice Ao12 t452.length co12), (.slice Ao13 t455.length co13)] 45 (0, 0))) ∧ Aside0 (wc.heap[gb470]? = some (.cells #[.int .i64 t460, (.slice Ao19 t461.length co19), (.slice Ao20 t464.length co20), (.slice Ao21 t467.length co21)] 45 (0, 0))) ∧ Aside0 (wc.heap[gb475]? = some (.cells #[.int .i64 t471, .int .i64 t472, .int .i64 t473, .int .i64 t474] 50 (0, 0))) ∧ Aside0 (Below w.heap.size w wc))
     case first =>
      have H := HC62.out
      clear HC62
      replace H := Option.bind_eq_some_iff.mp H
      obtain ⟨t480, A630, H⟩ := H
      replace H : (if t480 = true then (if t460 ≤ t448 then (laws_FnMachine.j1 kj6 t445 true t448 t449 t452 t455 t460 t461 t464 t467 t471 t472 t473 t474) else (laws_FnMachine.j1 kj6 t445 (decide (t460 > (wrap64 (t448 + 4)))) t448 t449 t452 t455 t460 t461 t464 t467 t471 t472 t473 t474)) else (laws_FnMachine.j1 kj6 t445 true t448 t449 t452 t455 t460 t461 t464 t467 t471 t472 t473 t474)) = some r := H
      have A63 := Aside0.mk A630
      clear A630
      by_cases c64 : t480 = true
      ·subst c64
       have H1 : (if t460 ≤ t448 then (laws_FnMachine.j1 kj6 t445 true t448 t449 t452 t455 t460 t461 t464 t467 t471 t472 t473 t474) else (laws_FnMachine.j1 kj6 t445 (decide (t460 > (wrap64 (t448 + 4)))) t448 t449 t452 t455 t460 t461 t464 t467 t471 t472 t473 t474)) = some r := by rw [if_pos rfl] at H; exact H
       clear H
       have H := H1
       clear H1
       by_cases c65 : t460 ≤ t448
       ·rw [if_pos c65] at H
        have c65b0 : decide (t460 ≤ t448) = true := decide_eq_true c65
        clear c65
        (first | rw [c65b0] | (simp only [i64_w, i32_w]; rw [c65b0]) | skip)
        have H' := Aside0.mk H
        clear H
        have hnb66 := NB470_459.out
        have hnc66 := NB459_470.out
        have hnb67 := NB470_475.out
        have hnc67 := NB475_470.out
        obtain ⟨hcz68_0, hcz68_1, hcz68_2, hcz68_3, hfz68_0, hfz68_1, hfz68_2, hfz68_3⟩ := bc4 BK470
        go_wp2_with (first | ((with_reducible refine gate_callee (f := 23) rfl ?_); refine goesL_ (some 45) rfl rfl Try.func23 KR rfl #[.agg #[.int .i64 t460, .slice Ao19 t461.length co19, .slice Ao20 t464.length co20, .slice Ao21 t467.length co21]] rfl AR ?_; (with_reducible refine (impl_IsState.calls kj6 t460 _ _ t461 _ _ t464 _ _ t467 true _ ?side1 ?side2 ?side3 ?side4 ?side5 ?side6 A63.out).mono ?_); (case side1 => exact CR ((Kd.R_reads' HO_471001.out).2.2)); (case side2 => exact (Kd.R_reads' HO_471001.out).2.1); (case side3 => exact CR ((Kd.R_reads' HO_471002.out).2.2)); (case side4 => exact (Kd.R_reads' HO_471002.out).2.1); (case side5 => exact CR ((Kd.R_reads' HO_471003.out).2.2)); (case side6 => exact (Kd.R_reads' HO_471003.out).2.1); rintro e w69 ⟨rfl, hb⟩; refine ⟨_, rfl, ?_⟩; replace HO_3 := Rb HO_3 hb; replace HO_460001 := Rb HO_460001 hb; replace HO_460002 := Rb HO_460002 hb; replace HO_460003 := Rb HO_460003 hb; replace HO_471001 := Rb HO_471001 hb; replace HO_471002 := Rb HO_471002 hb; replace HO_471003 := Rb HO_471003 hb; replace BK459 := kf BK459 hb; replace BK470 := kf BK470 hb; replace BK475 := kf BK475 hb; replace HB := bs HB hb; (try clear hb); (try clear hb2); (try clear hk); (try clear hi); obtain ⟨hcz70_0, hcz70_1, hcz70_2, hcz70_3, hfz70_0, hfz70_1, hfz70_2, hfz70_3⟩ := bc4 BK470; have hnb71 := NB459_475.out; have hnc71 := NB475_459.out; obtain ⟨hcz72_0, hcz72_1, hcz72_2, hcz72_3, hfz72_0, hfz72_1, hfz72_2, hfz72_3⟩ := bc4 BK459))
        go_meet
        case rel => exact ⟨_, (true), (by first | rfl | (simp; done) | (simp [*]; done)), H', ⟨by have := HJ6.out; first | omega | exact Nat.le_refl _⟩, ⟨PR HO_3⟩, ⟨PR HO_460001⟩, ⟨PR HO_460002⟩, ⟨PR HO_460003⟩, ⟨PR HO_471001⟩, ⟨PR HO_471002⟩, ⟨PR HO_471003⟩, ⟨PK BK459⟩, ⟨PK BK470⟩, ⟨PK BK475⟩, ⟨PB⟩⟩
       ·rw [if_neg c65] at H
        have c65b0 : decide (t460 ≤ t448) = false := decide_eq_false c65
        clear c65
        (first | rw [c65b0] | (simp only [i64_w, i32_w]; rw [c65b0]) | skip)
        have H' := Aside0.mk H
        clear H
        have hnb73 := NB470_459.out
        have hnc73 := NB459_470.out
        have hnb74 := NB470_475.out
        have hnc74 := NB475_470.out
        obtain ⟨hcz75_0, hcz75_1, hcz75_2, hcz75_3, hfz75_0, hfz75_1, hfz75_2, hfz75_3⟩ := bc4 BK470
        go_wp2_with (first | ((with_reducible refine gate_callee (f := 23) rfl ?_); refine goesL_ (some 45) rfl rfl Try.func23 KR rfl #[.agg #[.int .i64 t460, .slice Ao19 t461.length co19, .slice Ao20 t464.length co20, .slice Ao21 t467.length co21]] rfl AR ?_; (with_reducible refine (impl_IsState.calls kj6 t460 _ _ t461 _ _ t464 _ _ t467 true _ ?side1 ?side2 ?side3 ?side4 ?side5 ?side6 A63.out).mono ?_); (case side1 => exact CR ((Kd.R_reads' HO_471001.out).2.2)); (case side2 => exact (Kd.R_reads' HO_471001.out).2.1); (case side3 => exact CR ((Kd.R_reads' HO_471002.out).2.2)); (case side4 => exact (Kd.R_reads' HO_471002.out).2.1); (case side5 => exact CR ((Kd.R_reads' HO_471003.out).2.2)); (case side6 => exact (Kd.R_reads' HO_471003.out).2.1); rintro e w76 ⟨rfl, hb⟩; refine ⟨_, rfl, ?_⟩; replace HO_3 := Rb HO_3 hb; replace HO_460001 := Rb HO_460001 hb; replace HO_460002 := Rb HO_460002 hb; replace HO_460003 := Rb HO_460003 hb; replace HO_471001 := Rb HO_471001 hb; replace HO_471002 := Rb HO_471002 hb; replace HO_471003 := Rb HO_471003 hb; replace BK459 := kf BK459 hb; replace BK470 := kf BK470 hb; replace BK475 := kf BK475 hb; replace HB := bs HB hb; (try clear hb); (try clear hb2); (try clear hk); (try clear hi); obtain ⟨hcz77_0, hcz77_1, hcz77_2, hcz77_3, hfz77_0, hfz77_1, hfz77_2, hfz77_3⟩ := bc4 BK470; have hnb78 := NB459_475.out; have hnc78 := NB475_459.out; obtain ⟨hcz79_0, hcz79_1, hcz79_2, hcz79_3, hfz79_0, hfz79_1, hfz79_2, hfz79_3⟩ := bc4 BK459))
        go_meet
        case rel => exact ⟨_, (decide (t460 > (wrap64 (t448 + 4)))), (by first | rfl | (simp; done) | (simp [*]; done)), H', ⟨by have := HJ6.out; first | omega | exact Nat.le_refl _⟩, ⟨PR HO_3⟩, ⟨PR HO_460001⟩, ⟨PR HO_460002⟩, ⟨PR HO_460003⟩, ⟨PR HO_471001⟩, ⟨PR HO_471002⟩, ⟨PR HO_471003⟩, ⟨PK BK459⟩, ⟨PK BK470⟩, ⟨PK BK475⟩, ⟨PB⟩⟩
      ·replace c64 := Bool.eq_false_iff.mpr c64
       subst c64
       have H1 : (laws_FnMachine.j1 kj6 t445 true t448 t449 t452 t455 t460 t461 t464 t467 t471 t472 t473 t474) = some r := by rw [if_neg (show ¬ (false = true) by decide)] at H; exact H
       clear H
       have H := H1
       clear H1
       have H' := Aside0.mk H
       clear H
       have hnb80 := NB470_459.out
       have hnc80 := NB459_470.out
       have hnb81 := NB470_475.out
       have hnc81 := NB475_470.out
       obtain ⟨hcz82_0, hcz82_1, hcz82_2, hcz82_3, hfz82_0, hfz82_1, hfz82_2, hfz82_3⟩ := bc4 BK470
       go_wp2_with (first | ((with_reducible refine gate_callee (f := 23) rfl ?_); refine goesL_ (some 45) rfl rfl Try.func23 KR rfl #[.agg #[.int .i64 t460, .slice Ao19 t461.length co19, .slice Ao20 t464.length co20, .slice Ao21 t467.length co21]] rfl AR ?_; (with_reducible refine (impl_IsState.calls kj6 t460 _ _ t461 _ _ t464 _ _ t467 false _ ?side1 ?side2 ?side3 ?side4 ?side5 ?side6 A63.out).mono ?_); (case side1 => exact CR ((Kd.R_reads' HO_471001.out).2.2)); (case side2 => exact (Kd.R_reads' HO_471001.out).2.1); (case side3 => exact CR ((Kd.R_reads' HO_471002.out).2.2)); (case side4 => exact (Kd.R_reads' HO_471002.out).2.1); (case side5 => exact CR ((Kd.R_reads' HO_471003.out).2.2)); (case side6 => exact (Kd.R_reads' HO_471003.out).2.1); rintro e w83 ⟨rfl, hb⟩; refine ⟨_, rfl, ?_⟩; replace HO_3 := Rb HO_3 hb; replace HO_460001 := Rb HO_460001 hb; replace HO_460002 := Rb HO_460002 hb; replace HO_460003 := Rb HO_460003 hb; replace HO_471001 := Rb HO_471001 hb; replace HO_471002 := Rb HO_471002 hb; replace HO_471003 := Rb HO_471003 hb; replace BK459 := kf BK459 hb; replace BK470 := kf BK470 hb; replace BK475 := kf BK475 hb; replace HB := bs HB hb; (try clear hb); (try clear hb2); (try clear hk); (try clear hi)))
       go_meet
       case rel => exact ⟨_, (true), (by first | rfl | (simp; done) | (simp [*]; done)), H', ⟨by have := HJ6.out; first | omega | exact Nat.le_refl _⟩, ⟨PR HO_3⟩, ⟨PR HO_460001⟩, ⟨PR HO_460002⟩, ⟨PR HO_460003⟩, ⟨PR HO_471001⟩, ⟨PR HO_471002⟩, ⟨PR HO_471003⟩, ⟨PK BK459⟩, ⟨PK BK470⟩, ⟨PK BK475⟩, ⟨PB⟩⟩
     case rest =>
      clear HC62
      (try clear c1); (try clear c2); (try clear p2); (try clear c3); (try clear c4); (try clear c5); (try clear c6); (try clear p6); (try clear c7); (try clear c8); (try clear c10); (try clear c17); (try clear c19); (try clear c20); (try clear c21); (try clear c22); (try clear c23); (try clear c25); (try clear c26); (try clear c29); (try clear c31); (try clear c34); (try clear c35); (try clear c41); (try clear c42); (try clear c46); (try clear c48); (try clear c49); (try clear c50); (try clear c52); (try clear c56); (try clear c57); (try clear c59); (try clear c64); (try clear p64); (try clear c65); (try clear c65b0); (try clear c66); (try clear c67); (try clear c71); (try clear c73); (try clear c74); (try clear c78); (try clear c80); (try clear c81); (try clear hcz10_0); (try clear hcz10_1); (try clear hcz10_2); (try clear hcz10_3); (try clear hcz18_0); (try clear hcz18_1); (try clear hcz18_2); (try clear hcz18_3); (try clear hcz22_0); (try clear hcz22_1); (try clear hcz22_2); (try clear hcz22_3); (try clear hcz27_0); (try clear hcz27_1); (try clear hcz27_2); (try clear hcz27_3); (try clear hcz36_0); (try clear hcz36_1); (try clear hcz36_2); (try clear hcz36_3); (try clear hcz38_0); (try clear hcz38_1); (try clear hcz38_2); (try clear hcz38_3); (try clear hcz43_0); (try clear hcz43_1); (try clear hcz43_2); (try clear hcz43_3); (try clear hcz51_0); (try clear hcz51_1); (try clear hcz51_2); (try clear hcz51_3); (try clear hcz53_0); (try clear hcz53_1); (try clear hcz53_2); (try clear hcz53_3); (try clear hcz55_0); (try clear hcz55_1); (try clear hcz55_2); (try clear hcz55_3); (try clear hcz58_0); (try clear hcz58_1); (try clear hcz58_2); (try clear hcz58_3); (try clear hcz60_0); (try clear hcz60_1); (try clear hcz60_2); (try clear hcz60_3); (try clear hcz68_0); (try clear hcz68_1); (try clear hcz68_2); (try clear hcz68_3); (try clear hcz70_0); (try clear hcz70_1); (try clear hcz70_2); (try clear hcz70_3); (try clear hcz72_0); (try clear hcz72_1); (try clear hcz72_2); (try clear hcz72_3); (try clear hcz75_0); (try clear hcz75_1); (try clear hcz75_2); (try clear hcz75_3); (try clear hcz77_0); (try clear hcz77_1); (try clear hcz77_2); (try clear hcz77_3); (try clear hcz79_0); (try clear hcz79_1); (try clear hcz79_2); (try clear hcz79_3); (try clear hcz82_0); (try clear hcz82_1); (try clear hcz82_2); (try clear hcz82_3); (try clear hfz10_0); (try clear hfz10_1); (try clear hfz10_2); (try clear hfz10_3); (try clear hfz18_0); (try clear hfz18_1); (try clear hfz18_2); (try clear hfz18_3); (try clear hfz22_0); (try clear hfz22_1); (try clear hfz22_2); (try clear hfz22_3); (try clear hfz27_0); (try clear hfz27_1); (try clear hfz27_2); (try clear hfz27_3); (try clear hfz36_0); (try clear hfz36_1); (try clear hfz36_2); (try clear hfz36_3); (try clear hfz38_0); (try clear hfz38_1); (try clear hfz38_2); (try clear hfz38_3); (try clear hfz43_0); (try clear hfz43_1); (try clear hfz43_2); (try clear hfz43_3); (try clear hfz51_0); (try clear hfz51_1); (try clear hfz51_2); (try clear hfz51_3); (try clear hfz53_0); (try clear hfz53_1); (try clear hfz53_2); (try clear hfz53_3); (try clear hfz55_0); (try clear hfz55_1); (try clear hfz55_2); (try clear hfz55_3); (try clear hfz58_0); (try clear hfz58_1); (try clear hfz58_2); (try clear hfz58_3); (try clear hfz60_0); (try clear hfz60_1); (try clear hfz60_2); (try clear hfz60_3); (try clear hfz68_0); (try clear hfz68_1); (try clear hfz68_2); (try clear hfz68_3); (try clear hfz70_0); (try clear hfz70_1); (try clear hfz70_2); (try clear hfz70_3); (try clear hfz72_0); (try clear hfz72_1); (try clear hfz72_2); (try clear hfz72_3); (try clear hfz75_0); (try clear hfz75_1); (try clear hfz75_2); (try clear hfz75_3); (try clear hfz77_0); (try clear hfz77_1); (try clear hfz77_2); (try clear hfz77_3); (try clear hfz79_0); (try clear hfz79_1); (try clear hfz79_2); (try clear hfz79_3); (try clear hfz82_0); (try clear hfz82_1); (try clear hfz82_2); (try clear hfz82_3); (try clear p2)
      obtain ⟨kq, x61_61, rfl, HA, HJ61, HO_3, HO_460001, HO_460002, HO_460003, HO_471001, HO_471002, HO_471003, BK459, BK470, BK475, HB⟩ := hcut
      cases kq with
      | zero => exact absurd HA.out (by simp [laws_FnMachine.j1])
      | succ kj61 =>
       have H := HA.out
       clear HA
       simp only [laws_FnMachine.j1] at H
       by_cases c84 : x61_61 = true
       ·subst c84
        have H1 : (some false) = some r := by rw [if_pos rfl] at H; exact H
        clear H
        have H := H1
        clear H1
        cases (Option.some.inj H).trans hT_
       ·replace c84 := Bool.eq_false_iff.mpr c84
        subst c84
        have H1 : (if t471 = 0 then ((impl_StepState.f kj61 t445 t448 t449 t452 t455 7).bind fun bt481 => ((impl_EqualStates.f kj61 t460 t461 t464 t467 bt481.1 bt481.2.1 bt481.2.2.1 bt481.2.2.2).bind fun t491 => (if t491 = true then (if t471 > 0 then ((impl_Asks.f t471).bind fun t492 => (if t492 = true then (if t471 = 1 then ((impl_IsAddress.f t472 t473 t474).bind fun t493 => (laws_FnMachine.j2 kj61 (!t493) t448 t449 t452 t455)) else (laws_FnMachine.j2 kj61 false t448 t449 t452 t455)) else (laws_FnMachine.j2 kj61 true t448 t449 t452 t455))) else (if t471 = 1 then ((impl_IsAddress.f t472 t473 t474).bind fun t494 => (laws_FnMachine.j2 kj61 (!t494) t448 t449 t452 t455)) else (laws_FnMachine.j2 kj61 false t448 t449 t452 t455))) else (laws_FnMachine.j2 kj61 true t448 t449 t452 t455)))) else (if t471 > 0 then ((impl_Asks.f t471).bind fun t495 => (if t495 = true then (if t471 = 1 then ((impl_IsAddress.f t472 t473 t474).bind fun t496 => (laws_FnMachine.j2 kj61 (!t496) t448 t449 t452 t455)) else (laws_FnMachine.j2 kj61 false t448 t449 t452 t455)) else (laws_FnMachine.j2 kj61 true t448 t449 t452 t455))) else (if t471 = 1 then ((impl_IsAddress.f t472 t473 t474).bind fun t497 => (laws_FnMachine.j2 kj61 (!t497) t448 t449 t452 t455)) else (laws_FnMachine.j2 kj61 false t448 t449 t452 t455)))) = some r := by rw [if_neg (show ¬ (false = true) by decide)] at H; exact H
        clear H
        have H := H1
        clear H1
        have HC85 := Aside0.mk H
        clear H
        go_upto_region 10 with (fail)
        go_cut [94] (fun v94 wc => ∃ (kq : Nat) (x94_84 : Bool), v94 = .bool x94_84 ∧ Aside0 (laws_FnMachine.j2 kq x94_84 t448 t449 t452 t455 = some r) ∧ Aside0 (kq ≤ kj61) ∧ Aside0 (Kd.R (Kd.int .i64) 3 wc w.heap.size (fun k_ => some k_ ≠ ((.slice Ao12 t452.length co12) : Value).ownBlock ∧ some k_ ≠ ((.slice Ao13 t455.length co13) : Value).ownBlock ∧ some k_ ≠ ((.slice Ao19 t461.length co19) : Value).ownBlock ∧ some k_ ≠ ((.slice Ao20 t464.length co20) : Value).ownBlock ∧ some k_ ≠ ((.slice Ao21 t467.length co21) : Value).ownBlock) (.slice Ao11 t449.length co11) t449) ∧ Aside0 (Kd.R (Kd.int .i64) 3 wc w.heap.size (fun k_ => some k_ ≠ ((.slice Ao11 t449.length co11) : Value).ownBlock ∧ some k_ ≠ ((.slice Ao13 t455.length co13) : Value).ownBlock ∧ some k_ ≠ ((.slice Ao19 t461.length co19) : Value).ownBlock ∧ some k_ ≠ ((.slice Ao20 t464.length co20) : Value).ownBlock ∧ some k_ ≠ ((.slice Ao21 t467.length co21) : Value).ownBlock) (.slice Ao12 t452.length co12) t452) ∧ Aside0 (Kd.R (Kd.int .i64) 3 wc w.heap.size (fun k_ => some k_ ≠ ((.slice Ao11 t449.length co11) : Value).ownBlock ∧ some k_ ≠ ((.slice Ao12 t452.length co12) : Value).ownBlock ∧ some k_ ≠ ((.slice Ao19 t461.length co19) : Value).ownBlock ∧ some k_ ≠ ((.slice Ao20 t464.length co20) : Value).ownBlock ∧ some k_ ≠ ((.slice Ao21 t467.length co21) : Value).ownBlock) (.slice Ao13 t455.length co13) t455) ∧ Aside0 (Kd.R (Kd.int .i64) 3 wc w.heap.size (fun k_ => some k_ ≠ ((.slice Ao11 t449.length co11) : Value).ownBlock ∧ some k_ ≠ ((.slice Ao12 t452.length co12) : Value).ownBlock ∧ some k_ ≠ ((.slice Ao13 t455.length co13) : Value).ownBlock ∧ some k_ ≠ ((.slice Ao20 t464.length co20) : Value).ownBlock ∧ some k_ ≠ ((.slice Ao21 t467.length co21) : Value).ownBlock) (.slice Ao19 t461.length co19) t461) ∧ Aside0 (Kd.R (Kd.int .i64) 3 wc w.heap.size (fun k_ => some k_ ≠ ((.slice Ao11 t449.length co11) : Value).ownBlock ∧ some k_ ≠ ((.slice Ao12 t452.length co12) : Value).ownBlock ∧ some k_ ≠ ((.slice Ao13 t455.length co13) : Value).ownBlock ∧ some k_ ≠ ((.slice Ao19 t461.length co19) : Value).ownBlock ∧ some k_ ≠ ((.slice Ao21 t467.length co21) : Value).ownBlock) (.slice Ao20 t464.length co20) t464) ∧ Aside0 (Kd.R (Kd.int .i64) 3 wc w.heap.size (fun k_ => some k_ ≠ ((.slice Ao11 t449.length co11) : Value).ownBlock ∧ some k_ ≠ ((.slice Ao12 t452.length co12) : Value).ownBlock ∧ some k_ ≠ ((.slice Ao13 t455.length co13) : Value).ownBlock ∧ some k_ ≠ ((.slice Ao19 t461.length co19) : Value).ownBlock ∧ some k_ ≠ ((.slice Ao20 t464.length co20) : Value).ownBlock) (.slice Ao21 t467.length co21) t467) ∧ Aside0 (wc.heap[gb459]? = some (.cells #[.int .i64 t448, (.slice Ao11 t449.length co11), (.slice Ao12 t452.length co12), (.slice Ao13 t455.length co13)] 45 (0, 0))) ∧ Aside0 (wc.heap[gb470]? = some (.cells #[.int .i64 t460, (.slice Ao19 t461.length co19), (.slice Ao20 t464.length co20), (.slice Ao21 t467.length co21)] 45 (0, 0))) ∧ Aside0 (wc.heap[gb475]? = some (.cells #[.int .i64 t471, .int .i64 t472, .int .i64 t473, .int .i64 t474] 50 (0, 0))) ∧ Aside0 (Below w.heap.size w wc))
        case first =>
         have H := HC85.out
         clear HC85
         by_cases c86 : t471 = 0
         ·rw [if_pos c86] at H
          have c86b0 : (t471 == 0) = true := beq_iff_eq.mpr c86
          have c86b1 : (t471 != 0) = false := bne_eq_false_iff_eq.mpr c86
          clear c86
          (first | rw [c86b0] | (simp only [i64_w, i32_w]; rw [c86b0]) | skip)
          replace H := Option.bind_eq_some_iff.mp H
          obtain ⟨⟨t481, t482, t485, t488⟩, A870, H⟩ := H
          replace H : ((impl_EqualStates.f kj61 t460 t461 t464 t467 t481 t482 t485 t488).bind fun t491 => (if t491 = true then (if t471 > 0 then ((impl_Asks.f t471).bind fun t492 => (if t492 = true then (if t471 = 1 then ((impl_IsAddress.f t472 t473 t474).bind fun t493 => (laws_FnMachine.j2 kj61 (!t493) t448 t449 t452 t455)) else (laws_FnMachine.j2 kj61 false t448 t449 t452 t455)) else (laws_FnMachine.j2 kj61 true t448 t449 t452 t455))) else (if t471 = 1 then ((impl_IsAddress.f t472 t473 t474).bind fun t494 => (laws_FnMachine.j2 kj61 (!t494) t448 t449 t452 t455)) else (laws_FnMachine.j2 kj61 false t448 t449 t452 t455))) else (laws_FnMachine.j2 kj61 true t448 t449 t452 t455))) = some r := H
          have A87 := Aside0.mk A870
          clear A870
          replace H := Option.bind_eq_some_iff.mp H
          obtain ⟨t491, A880, H⟩ := H
          replace H : (if t491 = true then (if t471 > 0 then ((impl_Asks.f t471).bind fun t492 => (if t492 = true then (if t471 = 1 then ((impl_IsAddress.f t472 t473 t474).bind fun t493 => (laws_FnMachine.j2 kj61 (!t493) t448 t449 t452 t455)) else (laws_FnMachine.j2 kj61 false t448 t449 t452 t455)) else (laws_FnMachine.j2 kj61 true t448 t449 t452 t455))) else (if t471 = 1 then ((impl_IsAddress.f t472 t473 t474).bind fun t494 => (laws_FnMachine.j2 kj61 (!t494) t448 t449 t452 t455)) else (laws_FnMachine.j2 kj61 false t448 t449 t452 t455))) else (laws_FnMachine.j2 kj61 true t448 t449 t452 t455)) = some r := H
          have A88 := Aside0.mk A880
          clear A880
          by_cases c89 : t491 = true
          ·subst c89
           have H1 : (if t471 > 0 then ((impl_Asks.f t471).bind fun t492 => (if t492 = true then (if t471 = 1 then ((impl_IsAddress.f t472 t473 t474).bind fun t493 => (laws_FnMachine.j2 kj61 (!t493) t448 t449 t452 t455)) else (laws_FnMachine.j2 kj61 false t448 t449 t452 t455)) else (laws_FnMachine.j2 kj61 true t448 t449 t452 t455))) else (if t471 = 1 then ((impl_IsAddress.f t472 t473 t474).bind fun t494 => (laws_FnMachine.j2 kj61 (!t494) t448 t449 t452 t455)) else (laws_FnMachine.j2 kj61 false t448 t449 t452 t455))) = some r := by rw [if_pos rfl] at H; exact H
           clear H
           have H := H1
           clear H1
           by_cases c90 : t471 > 0
           ·rw [if_pos c90] at H
            have c90b0 : decide (0 < t471) = true := decide_eq_true c90
            clear c90
            replace H := Option.bind_eq_some_iff.mp H
            obtain ⟨t492, A910, H⟩ := H
            replace H : (if t492 = true then (if t471 = 1 then ((impl_IsAddress.f t472 t473 t474).bind fun t493 => (laws_FnMachine.j2 kj61 (!t493) t448 t449 t452 t455)) else (laws_FnMachine.j2 kj61 false t448 t449 t452 t455)) else (laws_FnMachine.j2 kj61 true t448 t449 t452 t455)) = some r := H
            have A91 := Aside0.mk A910
            clear A910
            by_cases c92 : t492 = true
            ·subst c92
             have H1 : (if t471 = 1 then ((impl_IsAddress.f t472 t473 t474).bind fun t493 => (laws_FnMachine.j2 kj61 (!t493) t448 t449 t452 t455)) else (laws_FnMachine.j2 kj61 false t448 t449 t452 t455)) = some r := by rw [if_pos rfl] at H; exact H
             clear H
             have H := H1
             clear H1
             by_cases c93 : t471 = 1
             ·rw [if_pos c93] at H
              have c93b0 : (t471 == 1) = true := beq_iff_eq.mpr c93
              have c93b1 : (t471 != 1) = false := bne_eq_false_iff_eq.mpr c93
              clear c93
              replace H := Option.bind_eq_some_iff.mp H
              obtain ⟨t493, A940, H⟩ := H
              replace H : (laws_FnMachine.j2 kj61 (!t493) t448 t449 t452 t455) = some r := H
              have A94 := Aside0.mk A940
              clear A940
              have H' := Aside0.mk H
              clear H
              try go_wp2
              replace HO_3 := ak (Kd.R_drew HO_3.out)
              replace HO_460001 := ak (Kd.R_drew HO_460001.out)
              replace HO_460002 := ak (Kd.R_drew HO_460002.out)
              replace HO_460003 := ak (Kd.R_drew HO_460003.out)
              replace HO_471001 := ak (Kd.R_drew HO_471001.out)
              replace HO_471002 := ak (Kd.R_drew HO_471002.out)
              replace HO_471003 := ak (Kd.R_drew HO_471003.out)
              replace BK459 := ak (blk_drew BK459.out)
              replace BK470 := ak (blk_drew BK470.out)
              replace BK475 := ak (blk_drew BK475.out)
              replace HB := ak (below_drew1 HB.out)
              as_aux_lemma =>
               refine start_ (n := 33) (S := fun w' => w'.cell? ⟨gb475, 0, none⟩ = some (.int .i64 t471) ∧ w'.cell? ⟨gb475, 1, none⟩ = some (.int .i64 t472) ∧ w'.cell? ⟨gb475, 2, none⟩ = some (.int .i64 t473) ∧ w'.cell? ⟨gb475, 3, none⟩ = some (.int .i64 t474) ∧ w'.cell? ⟨gb470, 0, none⟩ = some (.int .i64 t460) ∧ w'.cell? ⟨gb470, 1, none⟩ = some (.slice Ao19 t461.length co19) ∧ w'.cell? ⟨gb470, 2, none⟩ = some (.slice Ao20 t464.length co20) ∧ w'.cell? ⟨gb470, 3, none⟩ = some (.slice Ao21 t467.length co21) ∧ w'.cell? ⟨gb459, 0, none⟩ = some (.int .i64 t448) ∧ w'.cell? ⟨gb459, 1, none⟩ = some (.slice Ao11 t449.length co11) ∧ w'.cell? ⟨gb459, 2, none⟩ = some (.slice Ao12 t452.length co12) ∧ w'.cell? ⟨gb459, 3, none⟩ = some (.slice Ao13 t455.length co13)) (ds := []) b10_34 KR rfl rfl ⟨(blk_cell BK475.out 0).trans rfl, (blk_cell BK475.out 1).trans rfl, (blk_cell BK475.out 2).trans rfl, (blk_cell BK475.out 3).trans rfl, (blk_cell BK470.out 0).trans rfl, (blk_cell BK470.out 1).trans rfl, (blk_cell BK470.out 2).trans rfl, (blk_cell BK470.out 3).trans rfl, (blk_cell BK459.out 0).trans rfl, (blk_cell BK459.out 1).trans rfl, (blk_cell BK459.out 2).trans rfl, (blk_cell BK459.out 3).trans rfl⟩ (fun hHeld => ?_); refine with_tabW laws_FnMachine.tab10 laws_FnMachine.bits10 (fun HT_ HW_ => ?_)
               generalize wc.drew = w95 at HO_3 HO_460001 HO_460002 HO_460003 HO_471001 HO_471002 HO_471003 BK459 BK470 BK475 HB hHeld ⊢
               refine pu_ (i := 0) (N := some 62) b10_33 HT_ ?_
               refine tk_ (i := 1) (N := some 63) b10_32 rfl rfl HT_ HW_ hHeld ?_
               refine pu_ (i := 2) (N := some 64) b10_31 HT_ ?_
               refine pu_ (i := 3) (N := some 65) b10_30 HT_ ?_
               refine pu_ (i := 5) (N := some 67) b10_28 HT_ ?_
               refine tk_ (i := 4) (N := some 66) b10_27 rfl rfl HT_ HW_ hHeld ?_
               refine take_ (i := 6) (N := some 68) (v := ?_) (a' := ?_) b10_26 rfl rfl (take_ofW HT_.out HW_.out KR) (fun _ _ _ h => h) (Or.inl ⟨by rfl, ?_⟩) hHeld ?_ ?_
               rotate_left
               ·rintro w' ⟨s0, s1, s2, s3, s4, s5, s6, s7, s8, s9, s10, s11⟩
                go_simp
                with_reducible rfl
               rotate_left
               ·simp only [Act.put, List.setIfInBounds_toArray, List.set_cons_zero, List.set_cons_succ, i64_w, i32_w]
                rfl
               refine one_ (i := 7) (N := some 69) b10_25 rfl rfl (one_of HT_.out KR) (by decide) (fun K hK => ?_)
               refine goes_ Try.func20 KR rfl #[.slice Ao14 t445.length co14, .agg #[.int .i64 t448, .slice Ao11 t449.length co11, .slice Ao12 t452.length co12, .slice Ao13 t455.length co13], .int .i64 7] (by rfl) rfl rfl AR ?_
               with_reducible refine (impl_StepState.calls kj61 _ _ t445 t448 _ _ t449 _ _ t452 _ _ t455 7 t481 t482 t485 t488 _ ?side1 ?side2 ?side3 ?side4 ?side5 ?side6 ?side7 ?side8 A87.out).mono ?_
               (case side1 => exact CR ((Kd.R_reads' HO_3.out).2.2))
               (case side2 => exact (Kd.R_reads' HO_3.out).2.1)
               (case side3 => exact CR ((Kd.R_reads' HO_460001.out).2.2))
               (case side4 => exact (Kd.R_reads' HO_460001.out).2.1)
               (case side5 => exact CR ((Kd.R_reads' HO_460002.out).2.2))
               (case side6 => exact (Kd.R_reads' HO_460002.out).2.1)
               (case side7 => exact CR ((Kd.R_reads' HO_460003.out).2.2))
               (case side8 => exact (Kd.R_reads' HO_460003.out).2.1)
               rintro e w96 ⟨v483, v486, v489, rfl, ho0, ho1, ho2, hb⟩
               refine ⟨_, rfl, ?_⟩
               replace HO_3 := Rb HO_3 hb
               have HO484 := Rn6 ho0 HB HO_460001 HO_460002 HO_460003 HO_471001 HO_471002 HO_471003
               have HO487 := Rn6 ho1 HB HO_460001 HO_460002 HO_460003 HO_471001 HO_471002 HO_471003
               have HO490 := Rn6 ho2 HB HO_460001 HO_460002 HO_460003 HO_471001 HO_471002 HO_471003
               replace HO_460001 := Ro3 (W1 := w) (W2 := w) (W3 := w) (base1 := 0) (base2 := 0) (base3 := 0) HO_460001 hb ho0 ho1 ho2
               replace HO_460002 := Ro3 (W1 := w) (W2 := w) (W3 := w) (base1 := 0) (base2 := 0) (base3 := 0) HO_460002 hb ho0 ho1 ho2
               replace HO_460003 := Ro3 (W1 := w) (W2 := w) (W3 := w) (base1 := 0) (base2 := 0) (base3 := 0) HO_460003 hb ho0 ho1 ho2
               replace HO_471001 := Ro3 (W1 := w) (W2 := w) (W3 := w) (base1 := 0) (base2 := 0) (base3 := 0) HO_471001 hb ho0 ho1 ho2
               replace HO_471002 := Ro3 (W1 := w) (W2 := w) (W3 := w) (base1 := 0) (base2 := 0) (base3 := 0) HO_471002 hb ho0 ho1 ho2
               replace HO_471003 := Ro3 (W1 := w) (W2 := w) (W3 := w) (base1 := 0) (base2 := 0) (base3 := 0) HO_471003 hb ho0 ho1 ho2
               replace BK459 := kf BK459 hb
               replace BK470 := kf BK470 hb
               replace BK475 := kf BK475 hb
               replace HB := bs HB hb
               (try clear hb)
               (try clear hb2)
               (try clear hk)
               (try clear hi)
               (try clear ho0)
               (try clear ho1)
               (try clear ho2)
               obtain ⟨Ao97, co97, eo97⟩ := Kd.R_slice HO484.out
               (first | subst eo97 | (injection eo97 with f1_ f2_ f3_; have f4_ := f1_.symm; have f5_ := f3_.symm; clear f1_ f2_ f3_; subst f4_; subst f5_))
               obtain ⟨Ao98, co98, eo98⟩ := Kd.R_slice HO487.out
               (first | subst eo98 | (injection eo98 with f1_ f2_ f3_; have f4_ := f1_.symm; have f5_ := f3_.symm; clear f1_ f2_ f3_; subst f4_; subst f5_))
               obtain ⟨Ao99, co99, eo99⟩ := Kd.R_slice HO490.out
               (first | subst eo99 | (injection eo99 with f1_ f2_ f3_; have f4_ := f1_.symm; have f5_ := f3_.symm; clear f1_ f2_ f3_; subst f4_; subst f5_))
               refine hK.out _ _ ⟨(blk_cell BK475.out 0).trans rfl, (blk_cell BK475.out 1).trans rfl, (blk_cell BK475.out 2).trans rfl, (blk_cell BK475.out 3).trans rfl, (blk_cell BK470.out 0).trans rfl, (blk_cell BK470.out 1).trans rfl, (blk_cell BK470.out 2).trans rfl, (blk_cell BK470.out 3).trans rfl, (blk_cell BK459.out 0).trans rfl, (blk_cell BK459.out 1).trans rfl, (blk_cell BK459.out 2).trans rfl, (blk_cell BK459.out 3).trans rfl⟩ (fun hHeld => ?_)
               clear hK K
               refine norm_ (a' := ?_) ?_ ?_
               rotate_left
               ·show Act.put _ (some 69) _ = _
                simp only [Act.put, List.setIfInBounds_toArray, List.set_cons_zero, List.set_cons_succ, i64_w, i32_w]
                rfl
               refine one_ (i := 8) (N := some 70) b10_24 rfl rfl (one_of HT_.out KR) (by decide) (fun K hK => ?_)
               refine goes_ Try.func25 KR rfl #[.agg #[.int .i64 t460, .slice Ao19 t461.length co19, .slice Ao20 t464.length co20, .slice Ao21 t467.length co21], .agg #[.int .i64 t481, .slice Ao97 t482.length co97, .slice Ao98 t485.length co98, .slice Ao99 t488.length co99]] (by rfl) rfl rfl AR ?_
               with_reducible refine (impl_EqualStates.calls kj61 t460 _ _ t461 _ _ t464 _ _ t467 t481 _ _ t482 _ _ t485 _ _ t488 true _ ?side1 ?side2 ?side3 ?side4 ?side5 ?side6 ?side7 ?side8 ?side9 ?side10 ?side11 ?side12 A88.out).mono ?_
               (case side1 => exact CR ((Kd.R_reads' HO_471001.out).2.2))
               (case side2 => exact (Kd.R_reads' HO_471001.out).2.1)
               (case side3 => exact CR ((Kd.R_reads' HO_471002.out).2.2))
               (case side4 => exact (Kd.R_reads' HO_471002.out).2.1)
               (case side5 => exact CR ((Kd.R_reads' HO_471003.out).2.2))
               (case side6 => exact (Kd.R_reads' HO_471003.out).2.1)
               (case side7 => exact CR ((Kd.R_reads' HO484.out).2.2))
               (case side8 => exact (Kd.R_reads' HO484.out).2.1)
               (case side9 => exact CR ((Kd.R_reads' HO487.out).2.2))
               (case side10 => exact (Kd.R_reads' HO487.out).2.1)
               (case side11 => exact CR ((Kd.R_reads' HO490.out).2.2))
               (case side12 => exact (Kd.R_reads' HO490.out).2.1)
               rintro e w100 ⟨rfl, hb⟩
               refine ⟨_, rfl, ?_⟩
               replace HO_3 := Rb HO_3 hb
               replace HO_460001 := Rb HO_460001 hb
               replace HO_460002 := Rb HO_460002 hb
               replace HO_460003 := Rb HO_460003 hb
               replace HO_471001 := Rb HO_471001 hb
               replace HO_471002 := Rb HO_471002 hb
               replace HO_471003 := Rb HO_471003 hb
               replace HO484 := Rb HO484 hb
               replace HO487 := Rb HO487 hb
               replace HO490 := Rb HO490 hb
               replace BK459 := kf BK459 hb
               replace BK470 := kf BK470 hb
               replace BK475 := kf BK475 hb
               replace HB := bs HB hb
               (try clear hb)
               (try clear hb2)
               (try clear hk)
               (try clear hi)
               refine hK.out _ _ ⟨(blk_cell BK475.out 0).trans rfl, (blk_cell BK475.out 1).trans rfl, (blk_cell BK475.out 2).trans rfl, (blk_cell BK475.out 3).trans rfl, (blk_cell BK470.out 0).trans rfl, (blk_cell BK470.out 1).trans rfl, (blk_cell BK470.out 2).trans rfl, (blk_cell BK470.out 3).trans rfl, (blk_cell BK459.out 0).trans rfl, (blk_cell BK459.out 1).trans rfl, (blk_cell BK459.out 2).trans rfl, (blk_cell BK459.out 3).trans rfl⟩ (fun hHeld => ?_)
               clear hK K
               refine norm_ (a' := ?_) ?_ ?_
               rotate_left
               ·show Act.put _ (some 70) _ = _
                simp only [Act.put, List.setIfInBounds_toArray, List.set_cons_zero, List.set_cons_succ, i64_w, i32_w]
                rfl
               refine pu_ (i := 9) (N := some 71) b10_23 HT_ ?_
               refine pu_ (i := 10) (N := some 72) b10_22 HT_ ?_
               refine pu_ (i := 11) (N := some 73) b10_21 HT_ ?_
               refine pu_ (i := 12) (N := some 74) b10_20 HT_ ?_
               refine tk_ (i := 13) (N := some 75) b10_19 rfl rfl HT_ HW_ hHeld ?_
               refine pu_ (i := 14) (N := some 76) b10_18 HT_ ?_
               refine pu_ (i := 15) (N := some 77) b10_17 HT_ ?_
               refine pu_ (i := 16) (N := some 78) b10_16 HT_ ?_
               refine tk_ (i := 17) (N := some 79) b10_15 rfl rfl HT_ HW_ hHeld ?_
               refine one_ (i := 18) (N := some 80) b10_14 rfl rfl (one_of HT_.out KR) (by decide) (fun K hK => ?_)
               refine goes_ Try.func26 KR rfl #[.int .i64 t471] (by rfl) rfl rfl AR ?_
               with_reducible refine (impl_Asks.calls t471 true _ A91.out).mono ?_
               rintro e w' ⟨rfl, ⟨nd, rfl⟩⟩
               refine ⟨_, rfl, ?_⟩
               refine hK.out _ _ ⟨(blk_cell BK475.out 0).trans rfl, (blk_cell BK475.out 1).trans rfl, (blk_cell BK475.out 2).trans rfl, (blk_cell BK475.out 3).trans rfl, (blk_cell BK470.out 0).trans rfl, (blk_cell BK470.out 1).trans rfl, (blk_cell BK470.out 2).trans rfl, (blk_cell BK470.out 3).trans rfl, (blk_cell BK459.out 0).trans rfl, (blk_cell BK459.out 1).trans rfl, (blk_cell BK459.out 2).trans rfl, (blk_cell BK459.out 3).trans rfl⟩ (fun hHeld => ?_)
               clear hK K
               refine norm_ (a' := ?_) ?_ ?_
               rotate_left
               ·show Act.put _ (some 80) _ = _
                simp only [Act.put, List.setIfInBounds_toArray, List.set_cons_zero, List.set_cons_succ, i64_w, i32_w]
                rfl
               refine pu_ (i := 19) (N := some 81) b10_13 HT_ ?_
               refine pu_ (i := 20) (N := some 82) b10_12 HT_ ?_
               refine pu_ (i := 21) (N := some 83) b10_11 HT_ ?_
               refine pu_ (i := 22) (N := some 84) b10_10 HT_ ?_
               refine pu_ (i := 23) (N := some 85) b10_9 HT_ ?_
               refine tk_ (i := 24) (N := some 86) b10_8 rfl rfl HT_ HW_ hHeld ?_
               refine pu_ (i := 25) (N := some 87) b10_7 HT_ ?_
               refine pu_ (i := 26) (N := some 88) b10_6 HT_ ?_
               refine pu_ (i := 27) (N := some 89) b10_5 HT_ ?_
               refine tk_ (i := 28) (N := some 90) b10_4 rfl rfl HT_ HW_ hHeld ?_
               refine one_ (i := 29) (N := some 91) b10_3 rfl rfl (one_of HT_.out KR) (by decide) (fun K hK => ?_)
               refine goes_ Try.func27 KR rfl #[.agg #[.int .i64 t472, .int .i64 t473, .int .i64 t474]] (by rfl) rfl rfl AR ?_
               with_reducible refine (impl_IsAddress.calls t472 t473 t474 t493 _ A94.out).mono ?_
               rintro e w101 ⟨rfl, hb⟩
               refine ⟨_, rfl, ?_⟩
               replace HO_3 := Rb HO_3 hb
               replace HO_460001 := Rb HO_460001 hb
               replace HO_460002 := Rb HO_460002 hb
               replace HO_460003 := Rb HO_460003 hb
               replace HO_471001 := Rb HO_471001 hb
               replace HO_471002 := Rb HO_471002 hb
               replace HO_471003 := Rb HO_471003 hb
               replace HO484 := Rb HO484 hb
               replace HO487 := Rb HO487 hb
               replace HO490 := Rb HO490 hb
               replace BK459 := kf BK459 hb
               replace BK470 := kf BK470 hb
               replace BK475 := kf BK475 hb
               replace HB := bs HB hb
               (try clear hb)
               (try clear hb2)
               (try clear hk)
               (try clear hi)
               refine hK.out _ _ ⟨(blk_cell BK475.out 0).trans rfl, (blk_cell BK475.out 1).trans rfl, (blk_cell BK475.out 2).trans rfl, (blk_cell BK475.out 3).trans rfl, (blk_cell BK470.out 0).trans rfl, (blk_cell BK470.out 1).trans rfl, (blk_cell BK470.out 2).trans rfl, (blk_cell BK470.out 3).trans rfl, (blk_cell BK459.out 0).trans rfl, (blk_cell BK459.out 1).trans rfl, (blk_cell BK459.out 2).trans rfl, (blk_cell BK459.out 3).trans rfl⟩ (fun hHeld => ?_)
               clear hK K
               refine norm_ (a' := ?_) ?_ ?_
               rotate_left
               ·show Act.put _ (some 91) _ = _
                simp only [Act.put, List.setIfInBounds_toArray, List.set_cons_zero, List.set_cons_succ, i64_w, i32_w]
                rfl
               refine pu_ (i := 30) (N := some 92) b10_2 HT_ ?_
               refine pu_ (i := 31) (N := some 93) b10_1 HT_ ?_
               refine pu_ (i := 32) (N := some 94) b10_0 HT_ ?_
               refine done_ (done_of HT_.out KR) ?_
               try go_wp2
               go_meet
               case rel => exact ⟨_, (!t493), (by first | rfl | (simp; done) | (simp [*]; done)), H', ⟨by have := HJ6.out; have := HJ61.out; first | omega | exact Nat.le_refl _⟩, ⟨RX HO_460001.out (fun _ hk => ⟨hk.1.1.1.1, ⟨hk.1.1.1.2.1, ⟨hk.1.1.1.2.2.1, ⟨hk.1.1.1.2.2.2.1, hk.1.1.1.2.2.2.2⟩⟩⟩⟩)⟩, ⟨RX HO_460002.out (fun _ hk => ⟨hk.1.1.1.1, ⟨hk.1.1.1.2.1, ⟨hk.1.1.1.2.2.1, ⟨hk.1.1.1.2.2.2.1, hk.1.1.1.2.2.2.2⟩⟩⟩⟩)⟩, ⟨RX HO_460003.out (fun _ hk => ⟨hk.1.1.1.1, ⟨hk.1.1.1.2.1, ⟨hk.1.1.1.2.2.1, ⟨hk.1.1.1.2.2.2.1, hk.1.1.1.2.2.2.2⟩⟩⟩⟩)⟩, ⟨RX HO_471001.out (fun _ hk => ⟨hk.1.1.1.1, ⟨hk.1.1.1.2.1, ⟨hk.1.1.1.2.2.1, ⟨hk.1.1.1.2.2.2.1, hk.1.1.1.2.2.2.2⟩⟩⟩⟩)⟩, ⟨RX HO_471002.out (fun _ hk => ⟨hk.1.1.1.1, ⟨hk.1.1.1.2.1, ⟨hk.1.1.1.2.2.1, ⟨hk.1.1.1.2.2.2.1, hk.1.1.1.2.2.2.2⟩⟩⟩⟩)⟩, ⟨RX HO_471003.out (fun _ hk => ⟨hk.1.1.1.1, ⟨hk.1.1.1.2.1, ⟨hk.1.1.1.2.2.1, ⟨hk.1.1.1.2.2.2.1, hk.1.1.1.2.2.2.2⟩⟩⟩⟩)⟩, ⟨PK BK459⟩, ⟨PK BK470⟩, ⟨PK BK475⟩, ⟨PB⟩⟩
             ·rw [if_neg c93] at H
              have c93b0 : (t471 == 1) = false := beq_eq_false_iff_ne.mpr c93
              have c93b1 : (t471 != 1) = true := bne_iff_ne.mpr c93
              have H' := Aside0.mk H
              clear H
              try go_wp2
              replace HO_3 := ak (Kd.R_drew HO_3.out)
              replace HO_460001 := ak (Kd.R_drew HO_460001.out)
              replace HO_460002 := ak (Kd.R_drew HO_460002.out)
              replace HO_460003 := ak (Kd.R_drew HO_460003.out)
              replace HO_471001 := ak (Kd.R_drew HO_471001.out)
              replace HO_471002 := ak (Kd.R_drew HO_471002.out)
              replace HO_471003 := ak (Kd.R_drew HO_471003.out)
              replace BK459 := ak (blk_drew BK459.out)
              replace BK470 := ak (blk_drew BK470.out)
              replace BK475 := ak (blk_drew BK475.out)
              replace HB := ak (below_drew1 HB.out)
              as_aux_lemma =>
               refine start_ (n := 33) (S := fun w' => w'.cell? ⟨gb475, 0, none⟩ = some (.int .i64 t471) ∧ w'.cell? ⟨gb475, 1, none⟩ = some (.int .i64 t472) ∧ w'.cell? ⟨gb475, 2, none⟩ = some (.int .i64 t473) ∧ w'.cell? ⟨gb475, 3, none⟩ = some (.int .i64 t474) ∧ w'.cell? ⟨gb470, 0, none⟩ = some (.int .i64 t460) ∧ w'.cell? ⟨gb470, 1, none⟩ = some (.slice Ao19 t461.length co19) ∧ w'.cell? ⟨gb470, 2, none⟩ = some (.slice Ao20 t464.length co20) ∧ w'.cell? ⟨gb470, 3, none⟩ = some (.slice Ao21 t467.length co21) ∧ w'.cell? ⟨gb459, 0, none⟩ = some (.int .i64 t448) ∧ w'.cell? ⟨gb459, 1, none⟩ = some (.slice Ao11 t449.length co11) ∧ w'.cell? ⟨gb459, 2, none⟩ = some (.slice Ao12 t452.length co12) ∧ w'.cell? ⟨gb459, 3, none⟩ = some (.slice Ao13 t455.length co13)) (ds := []) b10_34 KR rfl rfl ⟨(blk_cell BK475.out 0).trans rfl, (blk_cell BK475.out 1).trans rfl, (blk_cell BK475.out 2).trans rfl, (blk_cell BK475.out 3).trans rfl, (blk_cell BK470.out 0).trans rfl, (blk_cell BK470.out 1).trans rfl, (blk_cell BK470.out 2).trans rfl, (blk_cell BK470.out 3).trans rfl, (blk_cell BK459.out 0).trans rfl, (blk_cell BK459.out 1).trans rfl, (blk_cell BK459.out 2).trans rfl, (blk_cell BK459.out 3).trans rfl⟩ (fun hHeld => ?_); refine with_tabW laws_FnMachine.tab10 laws_FnMachine.bits10 (fun HT_ HW_ => ?_)
               generalize wc.drew = w102 at HO_3 HO_460001 HO_460002 HO_460003 HO_471001 HO_471002 HO_471003 BK459 BK470 BK475 HB hHeld ⊢
               refine pu_ (i := 0) (N := some 62) b10_33 HT_ ?_
               refine tk_ (i := 1) (N := some 63) b10_32 rfl rfl HT_ HW_ hHeld ?_
               refine pu_ (i := 2) (N := some 64) b10_31 HT_ ?_
               refine pu_ (i := 3) (N := some 65) b10_30 HT_ ?_
               refine pu_ (i := 5) (N := some 67) b10_28 HT_ ?_
               refine tk_ (i := 4) (N := some 66) b10_27 rfl rfl HT_ HW_ hHeld ?_
               refine take_ (i := 6) (N := some 68) (v := ?_) (a' := ?_) b10_26 rfl rfl (take_ofW HT_.out HW_.out KR) (fun _ _ _ h => h) (Or.inl ⟨by rfl, ?_⟩) hHeld ?_ ?_
               rotate_left
               ·rintro w' ⟨s0, s1, s2, s3, s4, s5, s6, s7, s8, s9, s10, s11⟩
                go_simp
                with_reducible rfl
               rotate_left
               ·simp only [Act.put, List.setIfInBounds_toArray, List.set_cons_zero, List.set_cons_succ, i64_w, i32_w]
                rfl
               refine one_ (i := 7) (N := some 69) b10_25 rfl rfl (one_of HT_.out KR) (by decide) (fun K hK => ?_)
               refine goes_ Try.func20 KR rfl #[.slice Ao14 t445.length co14, .agg #[.int .i64 t448, .slice Ao11 t449.length co11, .slice Ao12 t452.length co12, .slice Ao13 t455.length co13], .int .i64 7] (by rfl) rfl rfl AR ?_
               with_reducible refine (impl_StepState.calls kj61 _ _ t445 t448 _ _ t449 _ _ t452 _ _ t455 7 t481 t482 t485 t488 _ ?side1 ?side2 ?side3 ?side4 ?side5 ?side6 ?side7 ?side8 A87.out).mono ?_
               (case side1 => exact CR ((Kd.R_reads' HO_3.out).2.2))
               (case side2 => exact (Kd.R_reads' HO_3.out).2.1)
               (case side3 => exact CR ((Kd.R_reads' HO_460001.out).2.2))
               (case side4 => exact (Kd.R_reads' HO_460001.out).2.1)
               (case side5 => exact CR ((Kd.R_reads' HO_460002.out).2.2))
               (case side6 => exact (Kd.R_reads' HO_460002.out).2.1)
               (case side7 => exact CR ((Kd.R_reads' HO_460003.out).2.2))
               (case side8 => exact (Kd.R_reads' HO_460003.out).2.1)
               rintro e w103 ⟨v483, v486, v489, rfl, ho0, ho1, ho2, hb⟩
               refine ⟨_, rfl, ?_⟩
               replace HO_3 := Rb HO_3 hb
               have HO484 := Rn6 ho0 HB HO_460001 HO_460002 HO_460003 HO_471001 HO_471002 HO_471003
               have HO487 := Rn6 ho1 HB HO_460001 HO_460002 HO_460003 HO_471001 HO_471002 HO_471003
               have HO490 := Rn6 ho2 HB HO_460001 HO_460002 HO_460003 HO_471001 HO_471002 HO_471003
               replace HO_460001 := Ro3 (W1 := w) (W2 := w) (W3 := w) (base1 := 0) (base2 := 0) (base3 := 0) HO_460001 hb ho0 ho1 ho2
               replace HO_460002 := Ro3 (W1 := w) (W2 := w) (W3 := w) (base1 := 0) (base2 := 0) (base3 := 0) HO_460002 hb ho0 ho1 ho2
               replace HO_460003 := Ro3 (W1 := w) (W2 := w) (W3 := w) (base1 := 0) (base2 := 0) (base3 := 0) HO_460003 hb ho0 ho1 ho2
               replace HO_471001 := Ro3 (W1 := w) (W2 := w) (W3 := w) (base1 := 0) (base2 := 0) (base3 := 0) HO_471001 hb ho0 ho1 ho2
               replace HO_471002 := Ro3 (W1 := w) (W2 := w) (W3 := w) (base1 := 0) (base2 := 0) (base3 := 0) HO_471002 hb ho0 ho1 ho2
               replace HO_471003 := Ro3 (W1 := w) (W2 := w) (W3 := w) (base1 := 0) (base2 := 0) (base3 := 0) HO_471003 hb ho0 ho1 ho2
               replace BK459 := kf BK459 hb
               replace BK470 := kf BK470 hb
               replace BK475 := kf BK475 hb
               replace HB := bs HB hb
               (try clear hb)
               (try clear hb2)
               (try clear hk)
               (try clear hi)
               (try clear ho0)
               (try clear ho1)
               (try clear ho2)
               obtain ⟨Ao104, co104, eo104⟩ := Kd.R_slice HO484.out
               (first | subst eo104 | (injection eo104 with f1_ f2_ f3_; have f4_ := f1_.symm; have f5_ := f3_.symm; clear f1_ f2_ f3_; subst f4_; subst f5_))
               obtain ⟨Ao105, co105, eo105⟩ := Kd.R_slice HO487.out
               (first | subst eo105 | (injection eo105 with f1_ f2_ f3_; have f4_ := f1_.symm; have f5_ := f3_.symm; clear f1_ f2_ f3_; subst f4_; subst f5_))
               obtain ⟨Ao106, co106, eo106⟩ := Kd.R_slice HO490.out
               (first | subst eo106 | (injection eo106 with f1_ f2_ f3_; have f4_ := f1_.symm; have f5_ := f3_.symm; clear f1_ f2_ f3_; subst f4_; subst f5_))
               refine hK.out _ _ ⟨(blk_cell BK475.out 0).trans rfl, (blk_cell BK475.out 1).trans rfl, (blk_cell BK475.out 2).trans rfl, (blk_cell BK475.out 3).trans rfl, (blk_cell BK470.out 0).trans rfl, (blk_cell BK470.out 1).trans rfl, (blk_cell BK470.out 2).trans rfl, (blk_cell BK470.out 3).trans rfl, (blk_cell BK459.out 0).trans rfl, (blk_cell BK459.out 1).trans rfl, (blk_cell BK459.out 2).trans rfl, (blk_cell BK459.out 3).trans rfl⟩ (fun hHeld => ?_)
               clear hK K
               refine norm_ (a' := ?_) ?_ ?_
               rotate_left
               ·show Act.put _ (some 69) _ = _
                simp only [Act.put, List.setIfInBounds_toArray, List.set_cons_zero, List.set_cons_succ, i64_w, i32_w]
                rfl
               refine one_ (i := 8) (N := some 70) b10_24 rfl rfl (one_of HT_.out KR) (by decide) (fun K hK => ?_)
               refine goes_ Try.func25 KR rfl #[.agg #[.int .i64 t460, .slice Ao19 t461.length co19, .slice Ao20 t464.length co20, .slice Ao21 t467.length co21], .agg #[.int .i64 t481, .slice Ao104 t482.length co104, .slice Ao105 t485.length co105, .slice Ao106 t488.length co106]] (by rfl) rfl rfl AR ?_
               with_reducible refine (impl_EqualStates.calls kj61 t460 _ _ t461 _ _ t464 _ _ t467 t481 _ _ t482 _ _ t485 _ _ t488 true _ ?side1 ?side2 ?side3 ?side4 ?side5 ?side6 ?side7 ?side8 ?side9 ?side10 ?side11 ?side12 A88.out).mono ?_
               (case side1 => exact CR ((Kd.R_reads' HO_471001.out).2.2))
               (case side2 => exact (Kd.R_reads' HO_471001.out).2.1)
               (case side3 => exact CR ((Kd.R_reads' HO_471002.out).2.2))
               (case side4 => exact (Kd.R_reads' HO_471002.out).2.1)
               (case side5 => exact CR ((Kd.R_reads' HO_471003.out).2.2))
               (case side6 => exact (Kd.R_reads' HO_471003.out).2.1)
               (case side7 => exact CR ((Kd.R_reads' HO484.out).2.2))
               (case side8 => exact (Kd.R_reads' HO484.out).2.1)
               (case side9 => exact CR ((Kd.R_reads' HO487.out).2.2))
               (case side10 => exact (Kd.R_reads' HO487.out).2.1)
               (case side11 => exact CR ((Kd.R_reads' HO490.out).2.2))
               (case side12 => exact (Kd.R_reads' HO490.out).2.1)
               rintro e w107 ⟨rfl, hb⟩
               refine ⟨_, rfl, ?_⟩
               replace HO_3 := Rb HO_3 hb
               replace HO_460001 := Rb HO_460001 hb
               replace HO_460002 := Rb HO_460002 hb
               replace HO_460003 := Rb HO_460003 hb
               replace HO_471001 := Rb HO_471001 hb
               replace HO_471002 := Rb HO_471002 hb
               replace HO_471003 := Rb HO_471003 hb
               replace HO484 := Rb HO484 hb
               replace HO487 := Rb HO487 hb
               replace HO490 := Rb HO490 hb
               replace BK459 := kf BK459 hb
               replace BK470 := kf BK470 hb
               replace BK475 := kf BK475 hb
               replace HB := bs HB hb
               (try clear hb)
               (try clear hb2)
               (try clear hk)
               (try clear hi)
               refine hK.out _ _ ⟨(blk_cell BK475.out 0).trans rfl, (blk_cell BK475.out 1).trans rfl, (blk_cell BK475.out 2).trans rfl, (blk_cell BK475.out 3).trans rfl, (blk_cell BK470.out 0).trans rfl, (blk_cell BK470.out 1).trans rfl, (blk_cell BK470.out 2).trans rfl, (blk_cell BK470.out 3).trans rfl, (blk_cell BK459.out 0).trans rfl, (blk_cell BK459.out 1).trans rfl, (blk_cell BK459.out 2).trans rfl, (blk_cell BK459.out 3).trans rfl⟩ (fun hHeld => ?_)
               clear hK K
               refine norm_ (a' := ?_) ?_ ?_
               rotate_left
               ·show Act.put _ (some 70) _ = _
                simp only [Act.put, List.setIfInBounds_toArray, List.set_cons_zero, List.set_cons_succ, i64_w, i32_w]
                rfl
               refine pu_ (i := 9) (N := some 71) b10_23 HT_ ?_
               refine pu_ (i := 10) (N := some 72) b10_22 HT_ ?_
               refine pu_ (i := 11) (N := some 73) b10_21 HT_ ?_
               refine pu_ (i := 12) (N := some 74) b10_20 HT_ ?_
               refine tk_ (i := 13) (N := some 75) b10_19 rfl rfl HT_ HW_ hHeld ?_
               refine pu_ (i := 14) (N := some 76) b10_18 HT_ ?_
               refine pu_ (i := 15) (N := some 77) b10_17 HT_ ?_
               refine pu_ (i := 16) (N := some 78) b10_16 HT_ ?_
               refine tk_ (i := 17) (N := some 79) b10_15 rfl rfl HT_ HW_ hHeld ?_
               refine one_ (i := 18) (N := some 80) b10_14 rfl rfl (one_of HT_.out KR) (by decide) (fun K hK => ?_)
               refine goes_ Try.func26 KR rfl #[.int .i64 t471] (by rfl) rfl rfl AR ?_
               with_reducible refine (impl_Asks.calls t471 true _ A91.out).mono ?_
               rintro e w' ⟨rfl, ⟨nd, rfl⟩⟩
               refine ⟨_, rfl, ?_⟩
               refine hK.out _ _ ⟨(blk_cell BK475.out 0).trans rfl, (blk_cell BK475.out 1).trans rfl, (blk_cell BK475.out 2).trans rfl, (blk_cell BK475.out 3).trans rfl, (blk_cell BK470.out 0).trans rfl, (blk_cell BK470.out 1).trans rfl, (blk_cell BK470.out 2).trans rfl, (blk_cell BK470.out 3).trans rfl, (blk_cell BK459.out 0).trans rfl, (blk_cell BK459.out 1).trans rfl, (blk_cell BK459.out 2).trans rfl, (blk_cell BK459.out 3).trans rfl⟩ (fun hHeld => ?_)
               clear hK K
               refine norm_ (a' := ?_) ?_ ?_
               rotate_left
               ·show Act.put _ (some 80) _ = _
                simp only [Act.put, List.setIfInBounds_toArray, List.set_cons_zero, List.set_cons_succ, i64_w, i32_w]
                rfl
               refine pu_ (i := 19) (N := some 81) b10_13 HT_ ?_
               refine pu_ (i := 20) (N := some 82) b10_12 HT_ ?_
               refine pu_ (i := 21) (N := some 83) b10_11 HT_ ?_
               refine pu_ (i := 22) (N := some 84) b10_10 HT_ ?_
               refine pu_ (i := 23) (N := some 85) b10_9 HT_ ?_
               refine tk_ (i := 24) (N := some 86) b10_8 rfl rfl HT_ HW_ hHeld ?_
               refine pu_ (i := 25) (N := some 87) b10_7 HT_ ?_
               refine pu_ (i := 26) (N := some 88) b10_6 HT_ ?_
               refine un_ (i := 27) (N := some 89) b10_5 HT_ ?_
               refine un_ (i := 28) (N := some 90) b10_4 HT_ ?_
               refine un_ (i := 29) (N := some 91) b10_3 HT_ ?_
               refine un_ (i := 30) (N := some 92) b10_2 HT_ ?_
               refine pu_ (i := 31) (N := some 93) b10_1 HT_ ?_
               refine pu_ (i := 32) (N := some 94) b10_0 HT_ ?_
               refine done_ (done_of HT_.out KR) ?_
               try go_wp2
               go_meet
               case rel => exact ⟨_, (false), (by first | rfl | (simp; done) | (simp [*]; done)), H', ⟨by have := HJ6.out; have := HJ61.out; first | omega | exact Nat.le_refl _⟩, ⟨RX HO_460001.out (fun _ hk => ⟨hk.1.1.1.1, ⟨hk.1.1.1.2.1, ⟨hk.1.1.1.2.2.1, ⟨hk.1.1.1.2.2.2.1, hk.1.1.1.2.2.2.2⟩⟩⟩⟩)⟩, ⟨RX HO_460002.out (fun _ hk => ⟨hk.1.1.1.1, ⟨hk.1.1.1.2.1, ⟨hk.1.1.1.2.2.1, ⟨hk.1.1.1.2.2.2.1, hk.1.1.1.2.2.2.2⟩⟩⟩⟩)⟩, ⟨RX HO_460003.out (fun _ hk => ⟨hk.1.1.1.1, ⟨hk.1.1.1.2.1, ⟨hk.1.1.1.2.2.1, ⟨hk.1.1.1.2.2.2.1, hk.1.1.1.2.2.2.2⟩⟩⟩⟩)⟩, ⟨RX HO_471001.out (fun _ hk => ⟨hk.1.1.1.1, ⟨hk.1.1.1.2.1, ⟨hk.1.1.1.2.2.1, ⟨hk.1.1.1.2.2.2.1, hk.1.1.1.2.2.2.2⟩⟩⟩⟩)⟩, ⟨RX HO_471002.out (fun _ hk => ⟨hk.1.1.1.1, ⟨hk.1.1.1.2.1, ⟨hk.1.1.1.2.2.1, ⟨hk.1.1.1.2.2.2.1, hk.1.1.1.2.2.2.2⟩⟩⟩⟩)⟩, ⟨RX HO_471003.out (fun _ hk => ⟨hk.1.1.1.1, ⟨hk.1.1.1.2.1, ⟨hk.1.1.1.2.2.1, ⟨hk.1.1.1.2.2.2.1, hk.1.1.1.2.2.2.2⟩⟩⟩⟩)⟩, ⟨PK BK459⟩, ⟨PK BK470⟩, ⟨PK BK475⟩, ⟨PB⟩⟩
            ·replace c92 := Bool.eq_false_iff.mpr c92
             subst c92
             have H1 : (laws_FnMachine.j2 kj61 true t448 t449 t452 t455) = some r := by rw [if_neg (show ¬ (false = true) by decide)] at H; exact H
             clear H
             have H := H1
             clear H1
             have H' := Aside0.mk H
             clear H
             try go_wp2
             replace HO_3 := ak (Kd.R_drew HO_3.out)
             replace HO_460001 := ak (Kd.R_drew HO_460001.out)
             replace HO_460002 := ak (Kd.R_drew HO_460002.out)
             replace HO_460003 := ak (Kd.R_drew HO_460003.out)
             replace HO_471001 := ak (Kd.R_drew HO_471001.out)
             replace HO_471002 := ak (Kd.R_drew HO_471002.out)
             replace HO_471003 := ak (Kd.R_drew HO_471003.out)
             replace BK459 := ak (blk_drew BK459.out)
             replace BK470 := ak (blk_drew BK470.out)
             replace BK475 := ak (blk_drew BK475.out)
             replace HB := ak (below_drew1 HB.out)
             as_aux_lemma =>
              refine start_ (n := 33) (S := fun w' => w'.cell? ⟨gb475, 0, none⟩ = some (.int .i64 t471) ∧ w'.cell? ⟨gb475, 1, none⟩ = some (.int .i64 t472) ∧ w'.cell? ⟨gb475, 2, none⟩ = some (.int .i64 t473) ∧ w'.cell? ⟨gb475, 3, none⟩ = some (.int .i64 t474) ∧ w'.cell? ⟨gb470, 0, none⟩ = some (.int .i64 t460) ∧ w'.cell? ⟨gb470, 1, none⟩ = some (.slice Ao19 t461.length co19) ∧ w'.cell? ⟨gb470, 2, none⟩ = some (.slice Ao20 t464.length co20) ∧ w'.cell? ⟨gb470, 3, none⟩ = some (.slice Ao21 t467.length co21) ∧ w'.cell? ⟨gb459, 0, none⟩ = some (.int .i64 t448) ∧ w'.cell? ⟨gb459, 1, none⟩ = some (.slice Ao11 t449.length co11) ∧ w'.cell? ⟨gb459, 2, none⟩ = some (.slice Ao12 t452.length co12) ∧ w'.cell? ⟨gb459, 3, none⟩ = some (.slice Ao13 t455.length co13)) (ds := []) b10_34 KR rfl rfl ⟨(blk_cell BK475.out 0).trans rfl, (blk_cell BK475.out 1).trans rfl, (blk_cell BK475.out 2).trans rfl, (blk_cell BK475.out 3).trans rfl, (blk_cell BK470.out 0).trans rfl, (blk_cell BK470.out 1).trans rfl, (blk_cell BK470.out 2).trans rfl, (blk_cell BK470.out 3).trans rfl, (blk_cell BK459.out 0).trans rfl, (blk_cell BK459.out 1).trans rfl, (blk_cell BK459.out 2).trans rfl, (blk_cell BK459.out 3).trans rfl⟩ (fun hHeld => ?_); refine with_tabW laws_FnMachine.tab10 laws_FnMachine.bits10 (fun HT_ HW_ => ?_)
              generalize wc.drew = w108 at HO_3 HO_460001 HO_460002 HO_460003 HO_471001 HO_471002 HO_471003 BK459 BK470 BK475 HB hHeld ⊢
              refine pu_ (i := 0) (N := some 62) b10_33 HT_ ?_
              refine tk_ (i := 1) (N := some 63) b10_32 rfl rfl HT_ HW_ hHeld ?_
              refine pu_ (i := 2) (N := some 64) b10_31 HT_ ?_
              refine pu_ (i := 3) (N := some 65) b10_30 HT_ ?_
              refine pu_ (i := 5) (N := some 67) b10_28 HT_ ?_
              refine tk_ (i := 4) (N := some 66) b10_27 rfl rfl HT_ HW_ hHeld ?_
              refine take_ (i := 6) (N := some 68) (v := ?_) (a' := ?_) b10_26 rfl rfl (take_ofW HT_.out HW_.out KR) (fun _ _ _ h => h) (Or.inl ⟨by rfl, ?_⟩) hHeld ?_ ?_
              rotate_left
              ·rintro w' ⟨s0, s1, s2, s3, s4, s5, s6, s7, s8, s9, s10, s11⟩
               go_simp
               with_reducible rfl
              rotate_left
              ·simp only [Act.put, List.setIfInBounds_toArray, List.set_cons_zero, List.set_cons_succ, i64_w, i32_w]
               rfl
              refine one_ (i := 7) (N := some 69) b10_25 rfl rfl (one_of HT_.out KR) (by decide) (fun K hK => ?_)
              refine goes_ Try.func20 KR rfl #[.slice Ao14 t445.length co14, .agg #[.int .i64 t448, .slice Ao11 t449.length co11, .slice Ao12 t452.length co12, .slice Ao13 t455.length co13], .int .i64 7] (by rfl) rfl rfl AR ?_
              with_reducible refine (impl_StepState.calls kj61 _ _ t445 t448 _ _ t449 _ _ t452 _ _ t455 7 t481 t482 t485 t488 _ ?side1 ?side2 ?side3 ?side4 ?side5 ?side6 ?side7 ?side8 A87.out).mono ?_
              (case side1 => exact CR ((Kd.R_reads' HO_3.out).2.2))
              (case side2 => exact (Kd.R_reads' HO_3.out).2.1)
              (case side3 => exact CR ((Kd.R_reads' HO_460001.out).2.2))
              (case side4 => exact (Kd.R_reads' HO_460001.out).2.1)
              (case side5 => exact CR ((Kd.R_reads' HO_460002.out).2.2))
              (case side6 => exact (Kd.R_reads' HO_460002.out).2.1)
              (case side7 => exact CR ((Kd.R_reads' HO_460003.out).2.2))
              (case side8 => exact (Kd.R_reads' HO_460003.out).2.1)
              rintro e w109 ⟨v483, v486, v489, rfl, ho0, ho1, ho2, hb⟩
              refine ⟨_, rfl, ?_⟩
              replace HO_3 := Rb HO_3 hb
              have HO484 := Rn6 ho0 HB HO_460001 HO_460002 HO_460003 HO_471001 HO_471002 HO_471003
              have HO487 := Rn6 ho1 HB HO_460001 HO_460002 HO_460003 HO_471001 HO_471002 HO_471003
              have HO490 := Rn6 ho2 HB HO_460001 HO_460002 HO_460003 HO_471001 HO_471002 HO_471003
              replace HO_460001 := Ro3 (W1 := w) (W2 := w) (W3 := w) (base1 := 0) (base2 := 0) (base3 := 0) HO_460001 hb ho0 ho1 ho2
              replace HO_460002 := Ro3 (W1 := w) (W2 := w) (W3 := w) (base1 := 0) (base2 := 0) (base3 := 0) HO_460002 hb ho0 ho1 ho2
              replace HO_460003 := Ro3 (W1 := w) (W2 := w) (W3 := w) (base1 := 0) (base2 := 0) (base3 := 0) HO_460003 hb ho0 ho1 ho2
              replace HO_471001 := Ro3 (W1 := w) (W2 := w) (W3 := w) (base1 := 0) (base2 := 0) (base3 := 0) HO_471001 hb ho0 ho1 ho2
              replace HO_471002 := Ro3 (W1 := w) (W2 := w) (W3 := w) (base1 := 0) (base2 := 0) (base3 := 0) HO_471002 hb ho0 ho1 ho2
              replace HO_471003 := Ro3 (W1 := w) (W2 := w) (W3 := w) (base1 := 0) (base2 := 0) (base3 := 0) HO_471003 hb ho0 ho1 ho2
              replace BK459 := kf BK459 hb
              replace BK470 := kf BK470 hb
              replace BK475 := kf BK475 hb
              replace HB := bs HB hb
              (try clear hb)
              (try clear hb2)
              (try clear hk)
              (try clear hi)
              (try clear ho0)
              (try clear ho1)
              (try clear ho2)
              obtain ⟨Ao110, co110, eo110⟩ := Kd.R_slice HO484.out
              (first | subst eo110 | (injection eo110 with f1_ f2_ f3_; have f4_ := f1_.symm; have f5_ := f3_.symm; clear f1_ f2_ f3_; subst f4_; subst f5_))
              obtain ⟨Ao111, co111, eo111⟩ := Kd.R_slice HO487.out
              (first | subst eo111 | (injection eo111 with f1_ f2_ f3_; have f4_ := f1_.symm; have f5_ := f3_.symm; clear f1_ f2_ f3_; subst f4_; subst f5_))
              obtain ⟨Ao112, co112, eo112⟩ := Kd.R_slice HO490.out
              (first | subst eo112 | (injection eo112 with f1_ f2_ f3_; have f4_ := f1_.symm; have f5_ := f3_.symm; clear f1_ f2_ f3_; subst f4_; subst f5_))
              refine hK.out _ _ ⟨(blk_cell BK475.out 0).trans rfl, (blk_cell BK475.out 1).trans rfl, (blk_cell BK475.out 2).trans rfl, (blk_cell BK475.out 3).trans rfl, (blk_cell BK470.out 0).trans rfl, (blk_cell BK470.out 1).trans rfl, (blk_cell BK470.out 2).trans rfl, (blk_cell BK470.out 3).trans rfl, (blk_cell BK459.out 0).trans rfl, (blk_cell BK459.out 1).trans rfl, (blk_cell BK459.out 2).trans rfl, (blk_cell BK459.out 3).trans rfl⟩ (fun hHeld => ?_)
              clear hK K
              refine norm_ (a' := ?_) ?_ ?_
              rotate_left
              ·show Act.put _ (some 69) _ = _
               simp only [Act.put, List.setIfInBounds_toArray, List.set_cons_zero, List.set_cons_succ, i64_w, i32_w]
               rfl
              refine one_ (i := 8) (N := some 70) b10_24 rfl rfl (one_of HT_.out KR) (by decide) (fun K hK => ?_)
              refine goes_ Try.func25 KR rfl #[.agg #[.int .i64 t460, .slice Ao19 t461.length co19, .slice Ao20 t464.length co20, .slice Ao21 t467.length co21], .agg #[.int .i64 t481, .slice Ao110 t482.length co110, .slice Ao111 t485.length co111, .slice Ao112 t488.length co112]] (by rfl) rfl rfl AR ?_
              with_reducible refine (impl_EqualStates.calls kj61 t460 _ _ t461 _ _ t464 _ _ t467 t481 _ _ t482 _ _ t485 _ _ t488 true _ ?side1 ?side2 ?side3 ?side4 ?side5 ?side6 ?side7 ?side8 ?side9 ?side10 ?side11 ?side12 A88.out).mono ?_
              (case side1 => exact CR ((Kd.R_reads' HO_471001.out).2.2))
              (case side2 => exact (Kd.R_reads' HO_471001.out).2.1)
              (case side3 => exact CR ((Kd.R_reads' HO_471002.out).2.2))
              (case side4 => exact (Kd.R_reads' HO_471002.out).2.1)
              (case side5 => exact CR ((Kd.R_reads' HO_471003.out).2.2))
              (case side6 => exact (Kd.R_reads' HO_471003.out).2.1)
              (case side7 => exact CR ((Kd.R_reads' HO484.out).2.2))
              (case side8 => exact (Kd.R_reads' HO484.out).2.1)
              (case side9 => exact CR ((Kd.R_reads' HO487.out).2.2))
              (case side10 => exact (Kd.R_reads' HO487.out).2.1)
              (case side11 => exact CR ((Kd.R_reads' HO490.out).2.2))
              (case side12 => exact (Kd.R_reads' HO490.out).2.1)
              rintro e w113 ⟨rfl, hb⟩
              refine ⟨_, rfl, ?_⟩
              replace HO_3 := Rb HO_3 hb
              replace HO_460001 := Rb HO_460001 hb
              replace HO_460002 := Rb HO_460002 hb
              replace HO_460003 := Rb HO_460003 hb
              replace HO_471001 := Rb HO_471001 hb
              replace HO_471002 := Rb HO_471002 hb
              replace HO_471003 := Rb HO_471003 hb
              replace HO484 := Rb HO484 hb
              replace HO487 := Rb HO487 hb
              replace HO490 := Rb HO490 hb
              replace BK459 := kf BK459 hb
              replace BK470 := kf BK470 hb
              replace BK475 := kf BK475 hb
              replace HB := bs HB hb
              (try clear hb)
              (try clear hb2)
              (try clear hk)
              (try clear hi)
              refine hK.out _ _ ⟨(blk_cell BK475.out 0).trans rfl, (blk_cell BK475.out 1).trans rfl, (blk_cell BK475.out 2).trans rfl, (blk_cell BK475.out 3).trans rfl, (blk_cell BK470.out 0).trans rfl, (blk_cell BK470.out 1).trans rfl, (blk_cell BK470.out 2).trans rfl, (blk_cell BK470.out 3).trans rfl, (blk_cell BK459.out 0).trans rfl, (blk_cell BK459.out 1).trans rfl, (blk_cell BK459.out 2).trans rfl, (blk_cell BK459.out 3).trans rfl⟩ (fun hHeld => ?_)
              clear hK K
              refine norm_ (a' := ?_) ?_ ?_
              rotate_left
              ·show Act.put _ (some 70) _ = _
               simp only [Act.put, List.setIfInBounds_toArray, List.set_cons_zero, List.set_cons_succ, i64_w, i32_w]
               rfl
              refine pu_ (i := 9) (N := some 71) b10_23 HT_ ?_
              refine pu_ (i := 10) (N := some 72) b10_22 HT_ ?_
              refine pu_ (i := 11) (N := some 73) b10_21 HT_ ?_
              refine pu_ (i := 12) (N := some 74) b10_20 HT_ ?_
              refine tk_ (i := 13) (N := some 75) b10_19 rfl rfl HT_ HW_ hHeld ?_
              refine pu_ (i := 14) (N := some 76) b10_18 HT_ ?_
              refine pu_ (i := 15) (N := some 77) b10_17 HT_ ?_
              refine pu_ (i := 16) (N := some 78) b10_16 HT_ ?_
              refine tk_ (i := 17) (N := some 79) b10_15 rfl rfl HT_ HW_ hHeld ?_
              refine one_ (i := 18) (N := some 80) b10_14 rfl rfl (one_of HT_.out KR) (by decide) (fun K hK => ?_)
              refine goes_ Try.func26 KR rfl #[.int .i64 t471] (by rfl) rfl rfl AR ?_
              with_reducible refine (impl_Asks.calls t471 false _ A91.out).mono ?_
              rintro e w' ⟨rfl, ⟨nd, rfl⟩⟩
              refine ⟨_, rfl, ?_⟩
              refine hK.out _ _ ⟨(blk_cell BK475.out 0).trans rfl, (blk_cell BK475.out 1).trans rfl, (blk_cell BK475.out 2).trans rfl, (blk_cell BK475.out 3).trans rfl, (blk_cell BK470.out 0).trans rfl, (blk_cell BK470.out 1).trans rfl, (blk_cell BK470.out 2).trans rfl, (blk_cell BK470.out 3).trans rfl, (blk_cell BK459.out 0).trans rfl, (blk_cell BK459.out 1).trans rfl, (blk_cell BK459.out 2).trans rfl, (blk_cell BK459.out 3).trans rfl⟩ (fun hHeld => ?_)
              clear hK K
              refine norm_ (a' := ?_) ?_ ?_
              rotate_left
              ·show Act.put _ (some 80) _ = _
               simp only [Act.put, List.setIfInBounds_toArray, List.set_cons_zero, List.set_cons_succ, i64_w, i32_w]
               rfl
              refine pu_ (i := 19) (N := some 81) b10_13 HT_ ?_
              refine pu_ (i := 20) (N := some 82) b10_12 HT_ ?_
              refine pu_ (i := 21) (N := some 83) b10_11 HT_ ?_
              refine pu_ (i := 22) (N := some 84) b10_10 HT_ ?_
              refine un_ (i := 23) (N := some 85) b10_9 HT_ ?_
              refine un_ (i := 24) (N := some 86) b10_8 HT_ ?_
              refine un_ (i := 25) (N := some 87) b10_7 HT_ ?_
              refine un_ (i := 26) (N := some 88) b10_6 HT_ ?_
              refine un_ (i := 27) (N := some 89) b10_5 HT_ ?_
              refine un_ (i := 28) (N := some 90) b10_4 HT_ ?_
              refine un_ (i := 29) (N := some 91) b10_3 HT_ ?_
              refine un_ (i := 30) (N := some 92) b10_2 HT_ ?_
              refine un_ (i := 31) (N := some 93) b10_1 HT_ ?_
              refine pu_ (i := 32) (N := some 94) b10_0 HT_ ?_
              refine done_ (done_of HT_.out KR) ?_
              try go_wp2
              go_meet
              case rel => exact ⟨_, (true), (by first | rfl | (simp; done) | (simp [*]; done)), H', ⟨by have := HJ6.out; have := HJ61.out; first | omega | exact Nat.le_refl _⟩, ⟨RX HO_460001.out (fun _ hk => ⟨hk.1.1.1.1, ⟨hk.1.1.1.2.1, ⟨hk.1.1.1.2.2.1, ⟨hk.1.1.1.2.2.2.1, hk.1.1.1.2.2.2.2⟩⟩⟩⟩)⟩, ⟨RX HO_460002.out (fun _ hk => ⟨hk.1.1.1.1, ⟨hk.1.1.1.2.1, ⟨hk.1.1.1.2.2.1, ⟨hk.1.1.1.2.2.2.1, hk.1.1.1.2.2.2.2⟩⟩⟩⟩)⟩, ⟨RX HO_460003.out (fun _ hk => ⟨hk.1.1.1.1, ⟨hk.1.1.1.2.1, ⟨hk.1.1.1.2.2.1, ⟨hk.1.1.1.2.2.2.1, hk.1.1.1.2.2.2.2⟩⟩⟩⟩)⟩, ⟨RX HO_471001.out (fun _ hk => ⟨hk.1.1.1.1, ⟨hk.1.1.1.2.1, ⟨hk.1.1.1.2.2.1, ⟨hk.1.1.1.2.2.2.1, hk.1.1.1.2.2.2.2⟩⟩⟩⟩)⟩, ⟨RX HO_471002.out (fun _ hk => ⟨hk.1.1.1.1, ⟨hk.1.1.1.2.1, ⟨hk.1.1.1.2.2.1, ⟨hk.1.1.1.2.2.2.1, hk.1.1.1.2.2.2.2⟩⟩⟩⟩)⟩, ⟨RX HO_471003.out (fun _ hk => ⟨hk.1.1.1.1, ⟨hk.1.1.1.2.1, ⟨hk.1.1.1.2.2.1, ⟨hk.1.1.1.2.2.2.1, hk.1.1.1.2.2.2.2⟩⟩⟩⟩)⟩, ⟨PK BK459⟩, ⟨PK BK470⟩, ⟨PK BK475⟩, ⟨PB⟩⟩
           ·rw [if_neg c90] at H
            have c90b0 : decide (0 < t471) = false := decide_eq_false c90
            clear c90
            by_cases c114 : t471 = 1
            ·rw [if_pos c114] at H
             have c114b0 : (t471 == 1) = true := beq_iff_eq.mpr c114
             have c114b1 : (t471 != 1) = false := bne_eq_false_iff_eq.mpr c114
             clear c114
             replace H := Option.bind_eq_some_iff.mp H
             obtain ⟨t494, A1150, H⟩ := H
             replace H : (laws_FnMachine.j2 kj61 (!t494) t448 t449 t452 t455) = some r := H
             have A115 := Aside0.mk A1150
             clear A1150
             have H' := Aside0.mk H
             clear H
             try go_wp2
             replace HO_3 := ak (Kd.R_drew HO_3.out)
             replace HO_460001 := ak (Kd.R_drew HO_460001.out)
             replace HO_460002 := ak (Kd.R_drew HO_460002.out)
             replace HO_460003 := ak (Kd.R_drew HO_460003.out)
             replace HO_471001 := ak (Kd.R_drew HO_471001.out)
             replace HO_471002 := ak (Kd.R_drew HO_471002.out)
             replace HO_471003 := ak (Kd.R_drew HO_471003.out)
             replace BK459 := ak (blk_drew BK459.out)
             replace BK470 := ak (blk_drew BK470.out)
             replace BK475 := ak (blk_drew BK475.out)
             replace HB := ak (below_drew1 HB.out)
             as_aux_lemma =>
              refine start_ (n := 33) (S := fun w' => w'.cell? ⟨gb475, 0, none⟩ = some (.int .i64 t471) ∧ w'.cell? ⟨gb475, 1, none⟩ = some (.int .i64 t472) ∧ w'.cell? ⟨gb475, 2, none⟩ = some (.int .i64 t473) ∧ w'.cell? ⟨gb475, 3, none⟩ = some (.int .i64 t474) ∧ w'.cell? ⟨gb470, 0, none⟩ = some (.int .i64 t460) ∧ w'.cell? ⟨gb470, 1, none⟩ = some (.slice Ao19 t461.length co19) ∧ w'.cell? ⟨gb470, 2, none⟩ = some (.slice Ao20 t464.length co20) ∧ w'.cell? ⟨gb470, 3, none⟩ = some (.slice Ao21 t467.length co21) ∧ w'.cell? ⟨gb459, 0, none⟩ = some (.int .i64 t448) ∧ w'.cell? ⟨gb459, 1, none⟩ = some (.slice Ao11 t449.length co11) ∧ w'.cell? ⟨gb459, 2, none⟩ = some (.slice Ao12 t452.length co12) ∧ w'.cell? ⟨gb459, 3, none⟩ = some (.slice Ao13 t455.length co13)) (ds := []) b10_34 KR rfl rfl ⟨(blk_cell BK475.out 0).trans rfl, (blk_cell BK475.out 1).trans rfl, (blk_cell BK475.out 2).trans rfl, (blk_cell BK475.out 3).trans rfl, (blk_cell BK470.out 0).trans rfl, (blk_cell BK470.out 1).trans rfl, (blk_cell BK470.out 2).trans rfl, (blk_cell BK470.out 3).trans rfl, (blk_cell BK459.out 0).trans rfl, (blk_cell BK459.out 1).trans rfl, (blk_cell BK459.out 2).trans rfl, (blk_cell BK459.out 3).trans rfl⟩ (fun hHeld => ?_); refine with_tabW laws_FnMachine.tab10 laws_FnMachine.bits10 (fun HT_ HW_ => ?_)
              generalize wc.drew = w116 at HO_3 HO_460001 HO_460002 HO_460003 HO_471001 HO_471002 HO_471003 BK459 BK470 BK475 HB hHeld ⊢
              refine pu_ (i := 0) (N := some 62) b10_33 HT_ ?_
              refine tk_ (i := 1) (N := some 63) b10_32 rfl rfl HT_ HW_ hHeld ?_
              refine pu_ (i := 2) (N := some 64) b10_31 HT_ ?_
              refine pu_ (i := 3) (N := some 65) b10_30 HT_ ?_
              refine pu_ (i := 5) (N := some 67) b10_28 HT_ ?_
              refine tk_ (i := 4) (N := some 66) b10_27 rfl rfl HT_ HW_ hHeld ?_
              refine take_ (i := 6) (N := some 68) (v := ?_) (a' := ?_) b10_26 rfl rfl (take_ofW HT_.out HW_.out KR) (fun _ _ _ h => h) (Or.inl ⟨by rfl, ?_⟩) hHeld ?_ ?_
              rotate_left
              ·rintro w' ⟨s0, s1, s2, s3, s4, s5, s6, s7, s8, s9, s10, s11⟩
               go_simp
               with_reducible rfl
              rotate_left
              ·simp only [Act.put, List.setIfInBounds_toArray, List.set_cons_zero, List.set_cons_succ, i64_w, i32_w]
               rfl
              refine one_ (i := 7) (N := some 69) b10_25 rfl rfl (one_of HT_.out KR) (by decide) (fun K hK => ?_)
              refine goes_ Try.func20 KR rfl #[.slice Ao14 t445.length co14, .agg #[.int .i64 t448, .slice Ao11 t449.length co11, .slice Ao12 t452.length co12, .slice Ao13 t455.length co13], .int .i64 7] (by rfl) rfl rfl AR ?_
              with_reducible refine (impl_StepState.calls kj61 _ _ t445 t448 _ _ t449 _ _ t452 _ _ t455 7 t481 t482 t485 t488 _ ?side1 ?side2 ?side3 ?side4 ?side5 ?side6 ?side7 ?side8 A87.out).mono ?_
              (case side1 => exact CR ((Kd.R_reads' HO_3.out).2.2))
              (case side2 => exact (Kd.R_reads' HO_3.out).2.1)
              (case side3 => exact CR ((Kd.R_reads' HO_460001.out).2.2))
              (case side4 => exact (Kd.R_reads' HO_460001.out).2.1)
              (case side5 => exact CR ((Kd.R_reads' HO_460002.out).2.2))
              (case side6 => exact (Kd.R_reads' HO_460002.out).2.1)
              (case side7 => exact CR ((Kd.R_reads' HO_460003.out).2.2))
              (case side8 => exact (Kd.R_reads' HO_460003.out).2.1)
              rintro e w117 ⟨v483, v486, v489, rfl, ho0, ho1, ho2, hb⟩
              refine ⟨_, rfl, ?_⟩
              replace HO_3 := Rb HO_3 hb
              have HO484 := Rn6 ho0 HB HO_460001 HO_460002 HO_460003 HO_471001 HO_471002 HO_471003
              have HO487 := Rn6 ho1 HB HO_460001 HO_460002 HO_460003 HO_471001 HO_471002 HO_471003
              have HO490 := Rn6 ho2 HB HO_460001 HO_460002 HO_460003 HO_471001 HO_471002 HO_471003
              replace HO_460001 := Ro3 (W1 := w) (W2 := w) (W3 := w) (base1 := 0) (base2 := 0) (base3 := 0) HO_460001 hb ho0 ho1 ho2
              replace HO_460002 := Ro3 (W1 := w) (W2 := w) (W3 := w) (base1 := 0) (base2 := 0) (base3 := 0) HO_460002 hb ho0 ho1 ho2
              replace HO_460003 := Ro3 (W1 := w) (W2 := w) (W3 := w) (base1 := 0) (base2 := 0) (base3 := 0) HO_460003 hb ho0 ho1 ho2
              replace HO_471001 := Ro3 (W1 := w) (W2 := w) (W3 := w) (base1 := 0) (base2 := 0) (base3 := 0) HO_471001 hb ho0 ho1 ho2
              replace HO_471002 := Ro3 (W1 := w) (W2 := w) (W3 := w) (base1 := 0) (base2 := 0) (base3 := 0) HO_471002 hb ho0 ho1 ho2
              replace HO_471003 := Ro3 (W1 := w) (W2 := w) (W3 := w) (base1 := 0) (base2 := 0) (base3 := 0) HO_471003 hb ho0 ho1 ho2
              replace BK459 := kf BK459 hb
              replace BK470 := kf BK470 hb
              replace BK475 := kf BK475 hb
              replace HB := bs HB hb
              (try clear hb)
              (try clear hb2)
              (try clear hk)
              (try clear hi)
              (try clear ho0)
              (try clear ho1)
              (try clear ho2)
              obtain ⟨Ao118, co118, eo118⟩ := Kd.R_slice HO484.out
              (first | subst eo118 | (injection eo118 with f1_ f2_ f3_; have f4_ := f1_.symm; have f5_ := f3_.symm; clear f1_ f2_ f3_; subst f4_; subst f5_))
              obtain ⟨Ao119, co119, eo119⟩ := Kd.R_slice HO487.out
              (first | subst eo119 | (injection eo119 with f1_ f2_ f3_; have f4_ := f1_.symm; have f5_ := f3_.symm; clear f1_ f2_ f3_; subst f4_; subst f5_))
              obtain ⟨Ao120, co120, eo120⟩ := Kd.R_slice HO490.out
              (first | subst eo120 | (injection eo120 with f1_ f2_ f3_; have f4_ := f1_.symm; have f5_ := f3_.symm; clear f1_ f2_ f3_; subst f4_; subst f5_))
              refine hK.out _ _ ⟨(blk_cell BK475.out 0).trans rfl, (blk_cell BK475.out 1).trans rfl, (blk_cell BK475.out 2).trans rfl, (blk_cell BK475.out 3).trans rfl, (blk_cell BK470.out 0).trans rfl, (blk_cell BK470.out 1).trans rfl, (blk_cell BK470.out 2).trans rfl, (blk_cell BK470.out 3).trans rfl, (blk_cell BK459.out 0).trans rfl, (blk_cell BK459.out 1).trans rfl, (blk_cell BK459.out 2).trans rfl, (blk_cell BK459.out 3).trans rfl⟩ (fun hHeld => ?_)
              clear hK K
              refine norm_ (a' := ?_) ?_ ?_
              rotate_left
              ·show Act.put _ (some 69) _ = _
               simp only [Act.put, List.setIfInBounds_toArray, List.set_cons_zero, List.set_cons_succ, i64_w, i32_w]
               rfl
              refine one_ (i := 8) (N := some 70) b10_24 rfl rfl (one_of HT_.out KR) (by decide) (fun K hK => ?_)
              refine goes_ Try.func25 KR rfl #[.agg #[.int .i64 t460, .slice Ao19 t461.length co19, .slice Ao20 t464.length co20, .slice Ao21 t467.length co21], .agg #[.int .i64 t481, .slice Ao118 t482.length co118, .slice Ao119 t485.length co119, .slice Ao120 t488.length co120]] (by rfl) rfl rfl AR ?_
              with_reducible refine (impl_EqualStates.calls kj61 t460 _ _ t461 _ _ t464 _ _ t467 t481 _ _ t482 _ _ t485 _ _ t488 true _ ?side1 ?side2 ?side3 ?side4 ?side5 ?side6 ?side7 ?side8 ?side9 ?side10 ?side11 ?side12 A88.out).mono ?_
              (case side1 => exact CR ((Kd.R_reads' HO_471001.out).2.2))
              (case side2 => exact (Kd.R_reads' HO_471001.out).2.1)
              (case side3 => exact CR ((Kd.R_reads' HO_471002.out).2.2))
              (case side4 => exact (Kd.R_reads' HO_471002.out).2.1)
              (case side5 => exact CR ((Kd.R_reads' HO_471003.out).2.2))
              (case side6 => exact (Kd.R_reads' HO_471003.out).2.1)
              (case side7 => exact CR ((Kd.R_reads' HO484.out).2.2))
              (case side8 => exact (Kd.R_reads' HO484.out).2.1)
              (case side9 => exact CR ((Kd.R_reads' HO487.out).2.2))
              (case side10 => exact (Kd.R_reads' HO487.out).2.1)
              (case side11 => exact CR ((Kd.R_reads' HO490.out).2.2))
              (case side12 => exact (Kd.R_reads' HO490.out).2.1)
              rintro e w121 ⟨rfl, hb⟩
              refine ⟨_, rfl, ?_⟩
              replace HO_3 := Rb HO_3 hb
              replace HO_460001 := Rb HO_460001 hb
              replace HO_460002 := Rb HO_460002 hb
              replace HO_460003 := Rb HO_460003 hb
              replace HO_471001 := Rb HO_471001 hb
              replace HO_471002 := Rb HO_471002 hb
              replace HO_471003 := Rb HO_471003 hb
              replace HO484 := Rb HO484 hb
              replace HO487 := Rb HO487 hb
              replace HO490 := Rb HO490 hb
              replace BK459 := kf BK459 hb
              replace BK470 := kf BK470 hb
              replace BK475 := kf BK475 hb
              replace HB := bs HB hb
              (try clear hb)
              (try clear hb2)
              (try clear hk)
              (try clear hi)
              refine hK.out _ _ ⟨(blk_cell BK475.out 0).trans rfl, (blk_cell BK475.out 1).trans rfl, (blk_cell BK475.out 2).trans rfl, (blk_cell BK475.out 3).trans rfl, (blk_cell BK470.out 0).trans rfl, (blk_cell BK470.out 1).trans rfl, (blk_cell BK470.out 2).trans rfl, (blk_cell BK470.out 3).trans rfl, (blk_cell BK459.out 0).trans rfl, (blk_cell BK459.out 1).trans rfl, (blk_cell BK459.out 2).trans rfl, (blk_cell BK459.out 3).trans rfl⟩ (fun hHeld => ?_)
              clear hK K
              refine norm_ (a' := ?_) ?_ ?_
              rotate_left
              ·show Act.put _ (some 70) _ = _
               simp only [Act.put, List.setIfInBounds_toArray, List.set_cons_zero, List.set_cons_succ, i64_w, i32_w]
               rfl
              refine pu_ (i := 9) (N := some 71) b10_23 HT_ ?_
              refine pu_ (i := 10) (N := some 72) b10_22 HT_ ?_
              refine pu_ (i := 11) (N := some 73) b10_21 HT_ ?_
              refine pu_ (i := 12) (N := some 74) b10_20 HT_ ?_
              refine tk_ (i := 13) (N := some 75) b10_19 rfl rfl HT_ HW_ hHeld ?_
              refine pu_ (i := 14) (N := some 76) b10_18 HT_ ?_
              refine pu_ (i := 15) (N := some 77) b10_17 HT_ ?_
              refine un_ (i := 16) (N := some 78) b10_16 HT_ ?_
              refine un_ (i := 17) (N := some 79) b10_15 HT_ ?_
              refine un_ (i := 18) (N := some 80) b10_14 HT_ ?_
              refine un_ (i := 19) (N := some 81) b10_13 HT_ ?_
              refine pu_ (i := 20) (N := some 82) b10_12 HT_ ?_
              refine pu_ (i := 21) (N := some 83) b10_11 HT_ ?_
              refine pu_ (i := 22) (N := some 84) b10_10 HT_ ?_
              refine pu_ (i := 23) (N := some 85) b10_9 HT_ ?_
              refine tk_ (i := 24) (N := some 86) b10_8 rfl rfl HT_ HW_ hHeld ?_
              refine pu_ (i := 25) (N := some 87) b10_7 HT_ ?_
              refine pu_ (i := 26) (N := some 88) b10_6 HT_ ?_
              refine pu_ (i := 27) (N := some 89) b10_5 HT_ ?_
              refine tk_ (i := 28) (N := some 90) b10_4 rfl rfl HT_ HW_ hHeld ?_
              refine one_ (i := 29) (N := some 91) b10_3 rfl rfl (one_of HT_.out KR) (by decide) (fun K hK => ?_)
              refine goes_ Try.func27 KR rfl #[.agg #[.int .i64 t472, .int .i64 t473, .int .i64 t474]] (by rfl) rfl rfl AR ?_
              with_reducible refine (impl_IsAddress.calls t472 t473 t474 t494 _ A115.out).mono ?_
              rintro e w122 ⟨rfl, hb⟩
              refine ⟨_, rfl, ?_⟩
              replace HO_3 := Rb HO_3 hb
              replace HO_460001 := Rb HO_460001 hb
              replace HO_460002 := Rb HO_460002 hb
              replace HO_460003 := Rb HO_460003 hb
              replace HO_471001 := Rb HO_471001 hb
              replace HO_471002 := Rb HO_471002 hb
              replace HO_471003 := Rb HO_471003 hb
              replace HO484 := Rb HO484 hb
              replace HO487 := Rb HO487 hb
              replace HO490 := Rb HO490 hb
              replace BK459 := kf BK459 hb
              replace BK470 := kf BK470 hb
              replace BK475 := kf BK475 hb
              replace HB := bs HB hb
              (try clear hb)
              (try clear hb2)
              (try clear hk)
              (try clear hi)
              refine hK.out _ _ ⟨(blk_cell BK475.out 0).trans rfl, (blk_cell BK475.out 1).trans rfl, (blk_cell BK475.out 2).trans rfl, (blk_cell BK475.out 3).trans rfl, (blk_cell BK470.out 0).trans rfl, (blk_cell BK470.out 1).trans rfl, (blk_cell BK470.out 2).trans rfl, (blk_cell BK470.out 3).trans rfl, (blk_cell BK459.out 0).trans rfl, (blk_cell BK459.out 1).trans rfl, (blk_cell BK459.out 2).trans rfl, (blk_cell BK459.out 3).trans rfl⟩ (fun hHeld => ?_)
              clear hK K
              refine norm_ (a' := ?_) ?_ ?_
              rotate_left
              ·show Act.put _ (some 91) _ = _
               simp only [Act.put, List.setIfInBounds_toArray, List.set_cons_zero, List.set_cons_succ, i64_w, i32_w]
               rfl
              refine pu_ (i := 30) (N := some 92) b10_2 HT_ ?_
              refine pu_ (i := 31) (N := some 93) b10_1 HT_ ?_
              refine pu_ (i := 32) (N := some 94) b10_0 HT_ ?_
              refine done_ (done_of HT_.out KR) ?_
              try go_wp2
              go_meet
              case rel => exact ⟨_, (!t494), (by first | rfl | (simp; done) | (simp [*]; done)), H', ⟨by have := HJ6.out; have := HJ61.out; first | omega | exact Nat.le_refl _⟩, ⟨RX HO_460001.out (fun _ hk => ⟨hk.1.1.1.1, ⟨hk.1.1.1.2.1, ⟨hk.1.1.1.2.2.1, ⟨hk.1.1.1.2.2.2.1, hk.1.1.1.2.2.2.2⟩⟩⟩⟩)⟩, ⟨RX HO_460002.out (fun _ hk => ⟨hk.1.1.1.1, ⟨hk.1.1.1.2.1, ⟨hk.1.1.1.2.2.1, ⟨hk.1.1.1.2.2.2.1, hk.1.1.1.2.2.2.2⟩⟩⟩⟩)⟩, ⟨RX HO_460003.out (fun _ hk => ⟨hk.1.1.1.1, ⟨hk.1.1.1.2.1, ⟨hk.1.1.1.2.2.1, ⟨hk.1.1.1.2.2.2.1, hk.1.1.1.2.2.2.2⟩⟩⟩⟩)⟩, ⟨RX HO_471001.out (fun _ hk => ⟨hk.1.1.1.1, ⟨hk.1.1.1.2.1, ⟨hk.1.1.1.2.2.1, ⟨hk.1.1.1.2.2.2.1, hk.1.1.1.2.2.2.2⟩⟩⟩⟩)⟩, ⟨RX HO_471002.out (fun _ hk => ⟨hk.1.1.1.1, ⟨hk.1.1.1.2.1, ⟨hk.1.1.1.2.2.1, ⟨hk.1.1.1.2.2.2.1, hk.1.1.1.2.2.2.2⟩⟩⟩⟩)⟩, ⟨RX HO_471003.out (fun _ hk => ⟨hk.1.1.1.1, ⟨hk.1.1.1.2.1, ⟨hk.1.1.1.2.2.1, ⟨hk.1.1.1.2.2.2.1, hk.1.1.1.2.2.2.2⟩⟩⟩⟩)⟩, ⟨PK BK459⟩, ⟨PK BK470⟩, ⟨PK BK475⟩, ⟨PB⟩⟩
            ·rw [if_neg c114] at H
             have c114b0 : (t471 == 1) = false := beq_eq_false_iff_ne.mpr c114
             have c114b1 : (t471 != 1) = true := bne_iff_ne.mpr c114
             have H' := Aside0.mk H
             clear H
             try go_wp2
             replace HO_3 := ak (Kd.R_drew HO_3.out)
             replace HO_460001 := ak (Kd.R_drew HO_460001.out)
             replace HO_460002 := ak (Kd.R_drew HO_460002.out)
             replace HO_460003 := ak (Kd.R_drew HO_460003.out)
             replace HO_471001 := ak (Kd.R_drew HO_471001.out)
             replace HO_471002 := ak (Kd.R_drew HO_471002.out)
             replace HO_471003 := ak (Kd.R_drew HO_471003.out)
             replace BK459 := ak (blk_drew BK459.out)
             replace BK470 := ak (blk_drew BK470.out)
             replace BK475 := ak (blk_drew BK475.out)
             replace HB := ak (below_drew1 HB.out)
             as_aux_lemma =>
              refine start_ (n := 33) (S := fun w' => w'.cell? ⟨gb475, 0, none⟩ = some (.int .i64 t471) ∧ w'.cell? ⟨gb475, 1, none⟩ = some (.int .i64 t472) ∧ w'.cell? ⟨gb475, 2, none⟩ = some (.int .i64 t473) ∧ w'.cell? ⟨gb475, 3, none⟩ = some (.int .i64 t474) ∧ w'.cell? ⟨gb470, 0, none⟩ = some (.int .i64 t460) ∧ w'.cell? ⟨gb470, 1, none⟩ = some (.slice Ao19 t461.length co19) ∧ w'.cell? ⟨gb470, 2, none⟩ = some (.slice Ao20 t464.length co20) ∧ w'.cell? ⟨gb470, 3, none⟩ = some (.slice Ao21 t467.length co21) ∧ w'.cell? ⟨gb459, 0, none⟩ = some (.int .i64 t448) ∧ w'.cell? ⟨gb459, 1, none⟩ = some (.slice Ao11 t449.length co11) ∧ w'.cell? ⟨gb459, 2, none⟩ = some (.slice Ao12 t452.length co12) ∧ w'.cell? ⟨gb459, 3, none⟩ = some (.slice Ao13 t455.length co13)) (ds := []) b10_34 KR rfl rfl ⟨(blk_cell BK475.out 0).trans rfl, (blk_cell BK475.out 1).trans rfl, (blk_cell BK475.out 2).trans rfl, (blk_cell BK475.out 3).trans rfl, (blk_cell BK470.out 0).trans rfl, (blk_cell BK470.out 1).trans rfl, (blk_cell BK470.out 2).trans rfl, (blk_cell BK470.out 3).trans rfl, (blk_cell BK459.out 0).trans rfl, (blk_cell BK459.out 1).trans rfl, (blk_cell BK459.out 2).trans rfl, (blk_cell BK459.out 3).trans rfl⟩ (fun hHeld => ?_); refine with_tabW laws_FnMachine.tab10 laws_FnMachine.bits10 (fun HT_ HW_ => ?_)
              generalize wc.drew = w123 at HO_3 HO_460001 HO_460002 HO_460003 HO_471001 HO_471002 HO_471003 BK459 BK470 BK475 HB hHeld ⊢
              refine pu_ (i := 0) (N := some 62) b10_33 HT_ ?_
              refine tk_ (i := 1) (N := some 63) b10_32 rfl rfl HT_ HW_ hHeld ?_
              refine pu_ (i := 2) (N := some 64) b10_31 HT_ ?_
              refine pu_ (i := 3) (N := some 65) b10_30 HT_ ?_
              refine pu_ (i := 5) (N := some 67) b10_28 HT_ ?_
              refine tk_ (i := 4) (N := some 66) b10_27 rfl rfl HT_ HW_ hHeld ?_
              refine take_ (i := 6) (N := some 68) (v := ?_) (a' := ?_) b10_26 rfl rfl (take_ofW HT_.out HW_.out KR) (fun _ _ _ h => h) (Or.inl ⟨by rfl, ?_⟩) hHeld ?_ ?_
              rotate_left
              ·rintro w' ⟨s0, s1, s2, s3, s4, s5, s6, s7, s8, s9, s10, s11⟩
               go_simp
               with_reducible rfl
              rotate_left
              ·simp only [Act.put, List.setIfInBounds_toArray, List.set_cons_zero, List.set_cons_succ, i64_w, i32_w]
               rfl
              refine one_ (i := 7) (N := some 69) b10_25 rfl rfl (one_of HT_.out KR) (by decide) (fun K hK => ?_)
              refine goes_ Try.func20 KR rfl #[.slice Ao14 t445.length co14, .agg #[.int .i64 t448, .slice Ao11 t449.length co11, .slice Ao12 t452.length co12, .slice Ao13 t455.length co13], .int .i64 7] (by rfl) rfl rfl AR ?_
              with_reducible refine (impl_StepState.calls kj61 _ _ t445 t448 _ _ t449 _ _ t452 _ _ t455 7 t481 t482 t485 t488 _ ?side1 ?side2 ?side3 ?side4 ?side5 ?side6 ?side7 ?side8 A87.out).mono ?_
              (case side1 => exact CR ((Kd.R_reads' HO_3.out).2.2))
              (case side2 => exact (Kd.R_reads' HO_3.out).2.1)
              (case side3 => exact CR ((Kd.R_reads' HO_460001.out).2.2))
              (case side4 => exact (Kd.R_reads' HO_460001.out).2.1)
              (case side5 => exact CR ((Kd.R_reads' HO_460002.out).2.2))
              (case side6 => exact (Kd.R_reads' HO_460002.out).2.1)
              (case side7 => exact CR ((Kd.R_reads' HO_460003.out).2.2))
              (case side8 => exact (Kd.R_reads' HO_460003.out).2.1)
              rintro e w124 ⟨v483, v486, v489, rfl, ho0, ho1, ho2, hb⟩
              refine ⟨_, rfl, ?_⟩
              replace HO_3 := Rb HO_3 hb
              have HO484 := Rn6 ho0 HB HO_460001 HO_460002 HO_460003 HO_471001 HO_471002 HO_471003
              have HO487 := Rn6 ho1 HB HO_460001 HO_460002 HO_460003 HO_471001 HO_471002 HO_471003
              have HO490 := Rn6 ho2 HB HO_460001 HO_460002 HO_460003 HO_471001 HO_471002 HO_471003
              replace HO_460001 := Ro3 (W1 := w) (W2 := w) (W3 := w) (base1 := 0) (base2 := 0) (base3 := 0) HO_460001 hb ho0 ho1 ho2
              replace HO_460002 := Ro3 (W1 := w) (W2 := w) (W3 := w) (base1 := 0) (base2 := 0) (base3 := 0) HO_460002 hb ho0 ho1 ho2
              replace HO_460003 := Ro3 (W1 := w) (W2 := w) (W3 := w) (base1 := 0) (base2 := 0) (base3 := 0) HO_460003 hb ho0 ho1 ho2
              replace HO_471001 := Ro3 (W1 := w) (W2 := w) (W3 := w) (base1 := 0) (base2 := 0) (base3 := 0) HO_471001 hb ho0 ho1 ho2
              replace HO_471002 := Ro3 (W1 := w) (W2 := w) (W3 := w) (base1 := 0) (base2 := 0) (base3 := 0) HO_471002 hb ho0 ho1 ho2
              replace HO_471003 := Ro3 (W1 := w) (W2 := w) (W3 := w) (base1 := 0) (base2 := 0) (base3 := 0) HO_471003 hb ho0 ho1 ho2
              replace BK459 := kf BK459 hb
              replace BK470 := kf BK470 hb
              replace BK475 := kf BK475 hb
              replace HB := bs HB hb
              (try clear hb)
              (try clear hb2)
              (try clear hk)
              (try clear hi)
              (try clear ho0)
              (try clear ho1)
              (try clear ho2)
              obtain ⟨Ao125, co125, eo125⟩ := Kd.R_slice HO484.out
              (first | subst eo125 | (injection eo125 with f1_ f2_ f3_; have f4_ := f1_.symm; have f5_ := f3_.symm; clear f1_ f2_ f3_; subst f4_; subst f5_))
              obtain ⟨Ao126, co126, eo126⟩ := Kd.R_slice HO487.out
              (first | subst eo126 | (injection eo126 with f1_ f2_ f3_; have f4_ := f1_.symm; have f5_ := f3_.symm; clear f1_ f2_ f3_; subst f4_; subst f5_))
              obtain ⟨Ao127, co127, eo127⟩ := Kd.R_slice HO490.out
              (first | subst eo127 | (injection eo127 with f1_ f2_ f3_; have f4_ := f1_.symm; have f5_ := f3_.symm; clear f1_ f2_ f3_; subst f4_; subst f5_))
              refine hK.out _ _ ⟨(blk_cell BK475.out 0).trans rfl, (blk_cell BK475.out 1).trans rfl, (blk_cell BK475.out 2).trans rfl, (blk_cell BK475.out 3).trans rfl, (blk_cell BK470.out 0).trans rfl, (blk_cell BK470.out 1).trans rfl, (blk_cell BK470.out 2).trans rfl, (blk_cell BK470.out 3).trans rfl, (blk_cell BK459.out 0).trans rfl, (blk_cell BK459.out 1).trans rfl, (blk_cell BK459.out 2).trans rfl, (blk_cell BK459.out 3).trans rfl⟩ (fun hHeld => ?_)
              clear hK K
              refine norm_ (a' := ?_) ?_ ?_
              rotate_left
              ·show Act.put _ (some 69) _ = _
               simp only [Act.put, List.setIfInBounds_toArray, List.set_cons_zero, List.set_cons_succ, i64_w, i32_w]
               rfl
              refine one_ (i := 8) (N := some 70) b10_24 rfl rfl (one_of HT_.out KR) (by decide) (fun K hK => ?_)
              refine goes_ Try.func25 KR rfl #[.agg #[.int .i64 t460, .slice Ao19 t461.length co19, .slice Ao20 t464.length co20, .slice Ao21 t467.length co21], .agg #[.int .i64 t481, .slice Ao125 t482.length co125, .slice Ao126 t485.length co126, .slice Ao127 t488.length co127]] (by rfl) rfl rfl AR ?_
              with_reducible refine (impl_EqualStates.calls kj61 t460 _ _ t461 _ _ t464 _ _ t467 t481 _ _ t482 _ _ t485 _ _ t488 true _ ?side1 ?side2 ?side3 ?side4 ?side5 ?side6 ?side7 ?side8 ?side9 ?side10 ?side11 ?side12 A88.out).mono ?_
              (case side1 => exact CR ((Kd.R_reads' HO_471001.out).2.2))
              (case side2 => exact (Kd.R_reads' HO_471001.out).2.1)
              (case side3 => exact CR ((Kd.R_reads' HO_471002.out).2.2))
              (case side4 => exact (Kd.R_reads' HO_471002.out).2.1)
              (case side5 => exact CR ((Kd.R_reads' HO_471003.out).2.2))
              (case side6 => exact (Kd.R_reads' HO_471003.out).2.1)
              (case side7 => exact CR ((Kd.R_reads' HO484.out).2.2))
              (case side8 => exact (Kd.R_reads' HO484.out).2.1)
              (case side9 => exact CR ((Kd.R_reads' HO487.out).2.2))
              (case side10 => exact (Kd.R_reads' HO487.out).2.1)
              (case side11 => exact CR ((Kd.R_reads' HO490.out).2.2))
              (case side12 => exact (Kd.R_reads' HO490.out).2.1)
              rintro e w128 ⟨rfl, hb⟩
              refine ⟨_, rfl, ?_⟩
              replace HO_3 := Rb HO_3 hb
              replace HO_460001 := Rb HO_460001 hb
              replace HO_460002 := Rb HO_460002 hb
              replace HO_460003 := Rb HO_460003 hb
              replace HO_471001 := Rb HO_471001 hb
              replace HO_471002 := Rb HO_471002 hb
              replace HO_471003 := Rb HO_471003 hb
              replace HO484 := Rb HO484 hb
              replace HO487 := Rb HO487 hb
              replace HO490 := Rb HO490 hb
              replace BK459 := kf BK459 hb
              replace BK470 := kf BK470 hb
              replace BK475 := kf BK475 hb
              replace HB := bs HB hb
              (try clear hb)
              (try clear hb2)
              (try clear hk)
              (try clear hi)
              refine hK.out _ _ ⟨(blk_cell BK475.out 0).trans rfl, (blk_cell BK475.out 1).trans rfl, (blk_cell BK475.out 2).trans rfl, (blk_cell BK475.out 3).trans rfl, (blk_cell BK470.out 0).trans rfl, (blk_cell BK470.out 1).trans rfl, (blk_cell BK470.out 2).trans rfl, (blk_cell BK470.out 3).trans rfl, (blk_cell BK459.out 0).trans rfl, (blk_cell BK459.out 1).trans rfl, (blk_cell BK459.out 2).trans rfl, (blk_cell BK459.out 3).trans rfl⟩ (fun hHeld => ?_)
              clear hK K
              refine norm_ (a' := ?_) ?_ ?_
              rotate_left
              ·show Act.put _ (some 70) _ = _
               simp only [Act.put, List.setIfInBounds_toArray, List.set_cons_zero, List.set_cons_succ, i64_w, i32_w]
               rfl
              refine pu_ (i := 9) (N := some 71) b10_23 HT_ ?_
              refine pu_ (i := 10) (N := some 72) b10_22 HT_ ?_
              refine pu_ (i := 11) (N := some 73) b10_21 HT_ ?_
              refine pu_ (i := 12) (N := some 74) b10_20 HT_ ?_
              refine tk_ (i := 13) (N := some 75) b10_19 rfl rfl HT_ HW_ hHeld ?_
              refine pu_ (i := 14) (N := some 76) b10_18 HT_ ?_
              refine pu_ (i := 15) (N := some 77) b10_17 HT_ ?_
              refine un_ (i := 16) (N := some 78) b10_16 HT_ ?_
              refine un_ (i := 17) (N := some 79) b10_15 HT_ ?_
              refine un_ (i := 18) (N := some 80) b10_14 HT_ ?_
              refine un_ (i := 19) (N := some 81) b10_13 HT_ ?_
              refine pu_ (i := 20) (N := some 82) b10_12 HT_ ?_
              refine pu_ (i := 21) (N := some 83) b10_11 HT_ ?_
              refine pu_ (i := 22) (N := some 84) b10_10 HT_ ?_
              refine pu_ (i := 23) (N := some 85) b10_9 HT_ ?_
              refine tk_ (i := 24) (N := some 86) b10_8 rfl rfl HT_ HW_ hHeld ?_
              refine pu_ (i := 25) (N := some 87) b10_7 HT_ ?_
              refine pu_ (i := 26) (N := some 88) b10_6 HT_ ?_
              refine un_ (i := 27) (N := some 89) b10_5 HT_ ?_
              refine un_ (i := 28) (N := some 90) b10_4 HT_ ?_
              refine un_ (i := 29) (N := some 91) b10_3 HT_ ?_
              refine un_ (i := 30) (N := some 92) b10_2 HT_ ?_
              refine pu_ (i := 31) (N := some 93) b10_1 HT_ ?_
              refine pu_ (i := 32) (N := some 94) b10_0 HT_ ?_
              refine done_ (done_of HT_.out KR) ?_
              try go_wp2
              go_meet
              case rel => exact ⟨_, (false), (by first | rfl | (simp; done) | (simp [*]; done)), H', ⟨by have := HJ6.out; have := HJ61.out; first | omega | exact Nat.le_refl _⟩, ⟨RX HO_460001.out (fun _ hk => ⟨hk.1.1.1.1, ⟨hk.1.1.1.2.1, ⟨hk.1.1.1.2.2.1, ⟨hk.1.1.1.2.2.2.1, hk.1.1.1.2.2.2.2⟩⟩⟩⟩)⟩, ⟨RX HO_460002.out (fun _ hk => ⟨hk.1.1.1.1, ⟨hk.1.1.1.2.1, ⟨hk.1.1.1.2.2.1, ⟨hk.1.1.1.2.2.2.1, hk.1.1.1.2.2.2.2⟩⟩⟩⟩)⟩, ⟨RX HO_460003.out (fun _ hk => ⟨hk.1.1.1.1, ⟨hk.1.1.1.2.1, ⟨hk.1.1.1.2.2.1, ⟨hk.1.1.1.2.2.2.1, hk.1.1.1.2.2.2.2⟩⟩⟩⟩)⟩, ⟨RX HO_471001.out (fun _ hk => ⟨hk.1.1.1.1, ⟨hk.1.1.1.2.1, ⟨hk.1.1.1.2.2.1, ⟨hk.1.1.1.2.2.2.1, hk.1.1.1.2.2.2.2⟩⟩⟩⟩)⟩, ⟨RX HO_471002.out (fun _ hk => ⟨hk.1.1.1.1, ⟨hk.1.1.1.2.1, ⟨hk.1.1.1.2.2.1, ⟨hk.1.1.1.2.2.2.1, hk.1.1.1.2.2.2.2⟩⟩⟩⟩)⟩, ⟨RX HO_471003.out (fun _ hk => ⟨hk.1.1.1.1, ⟨hk.1.1.1.2.1, ⟨hk.1.1.1.2.2.1, ⟨hk.1.1.1.2.2.2.1, hk.1.1.1.2.2.2.2⟩⟩⟩⟩)⟩, ⟨PK BK459⟩, ⟨PK BK470⟩, ⟨PK BK475⟩, ⟨PB⟩⟩
          ·replace c89 := Bool.eq_false_iff.mpr c89
           subst c89
           have H1 : (laws_FnMachine.j2 kj61 true t448 t449 t452 t455) = some r := by rw [if_neg (show ¬ (false = true) by decide)] at H; exact H
           clear H
           have H := H1
           clear H1
           have H' := Aside0.mk H
           clear H
           try go_wp2
           replace HO_3 := ak (Kd.R_drew HO_3.out)
           replace HO_460001 := ak (Kd.R_drew HO_460001.out)
           replace HO_460002 := ak (Kd.R_drew HO_460002.out)
           replace HO_460003 := ak (Kd.R_drew HO_460003.out)
           replace HO_471001 := ak (Kd.R_drew HO_471001.out)
           replace HO_471002 := ak (Kd.R_drew HO_471002.out)
           replace HO_471003 := ak (Kd.R_drew HO_471003.out)
           replace BK459 := ak (blk_drew BK459.out)
           replace BK470 := ak (blk_drew BK470.out)
           replace BK475 := ak (blk_drew BK475.out)
           replace HB := ak (below_drew1 HB.out)
           as_aux_lemma =>
            refine start_ (n := 33) (S := fun w' => w'.cell? ⟨gb475, 0, none⟩ = some (.int .i64 t471) ∧ w'.cell? ⟨gb475, 1, none⟩ = some (.int .i64 t472) ∧ w'.cell? ⟨gb475, 2, none⟩ = some (.int .i64 t473) ∧ w'.cell? ⟨gb475, 3, none⟩ = some (.int .i64 t474) ∧ w'.cell? ⟨gb470, 0, none⟩ = some (.int .i64 t460) ∧ w'.cell? ⟨gb470, 1, none⟩ = some (.slice Ao19 t461.length co19) ∧ w'.cell? ⟨gb470, 2, none⟩ = some (.slice Ao20 t464.length co20) ∧ w'.cell? ⟨gb470, 3, none⟩ = some (.slice Ao21 t467.length co21) ∧ w'.cell? ⟨gb459, 0, none⟩ = some (.int .i64 t448) ∧ w'.cell? ⟨gb459, 1, none⟩ = some (.slice Ao11 t449.length co11) ∧ w'.cell? ⟨gb459, 2, none⟩ = some (.slice Ao12 t452.length co12) ∧ w'.cell? ⟨gb459, 3, none⟩ = some (.slice Ao13 t455.length co13)) (ds := []) b10_34 KR rfl rfl ⟨(blk_cell BK475.out 0).trans rfl, (blk_cell BK475.out 1).trans rfl, (blk_cell BK475.out 2).trans rfl, (blk_cell BK475.out 3).trans rfl, (blk_cell BK470.out 0).trans rfl, (blk_cell BK470.out 1).trans rfl, (blk_cell BK470.out 2).trans rfl, (blk_cell BK470.out 3).trans rfl, (blk_cell BK459.out 0).trans rfl, (blk_cell BK459.out 1).trans rfl, (blk_cell BK459.out 2).trans rfl, (blk_cell BK459.out 3).trans rfl⟩ (fun hHeld => ?_); refine with_tabW laws_FnMachine.tab10 laws_FnMachine.bits10 (fun HT_ HW_ => ?_)
            generalize wc.drew = w129 at HO_3 HO_460001 HO_460002 HO_460003 HO_471001 HO_471002 HO_471003 BK459 BK470 BK475 HB hHeld ⊢
            refine pu_ (i := 0) (N := some 62) b10_33 HT_ ?_
            refine tk_ (i := 1) (N := some 63) b10_32 rfl rfl HT_ HW_ hHeld ?_
            refine pu_ (i := 2) (N := some 64) b10_31 HT_ ?_
            refine pu_ (i := 3) (N := some 65) b10_30 HT_ ?_
            refine pu_ (i := 5) (N := some 67) b10_28 HT_ ?_
            refine tk_ (i := 4) (N := some 66) b10_27 rfl rfl HT_ HW_ hHeld ?_
            refine take_ (i := 6) (N := some 68) (v := ?_) (a' := ?_) b10_26 rfl rfl (take_ofW HT_.out HW_.out KR) (fun _ _ _ h => h) (Or.inl ⟨by rfl, ?_⟩) hHeld ?_ ?_
            rotate_left
            ·rintro w' ⟨s0, s1, s2, s3, s4, s5, s6, s7, s8, s9, s10, s11⟩
             go_simp
             with_reducible rfl
            rotate_left
            ·simp only [Act.put, List.setIfInBounds_toArray, List.set_cons_zero, List.set_cons_succ, i64_w, i32_w]
             rfl
            refine one_ (i := 7) (N := some 69) b10_25 rfl rfl (one_of HT_.out KR) (by decide) (fun K hK => ?_)
            refine goes_ Try.func20 KR rfl #[.slice Ao14 t445.length co14, .agg #[.int .i64 t448, .slice Ao11 t449.length co11, .slice Ao12 t452.length co12, .slice Ao13 t455.length co13], .int .i64 7] (by rfl) rfl rfl AR ?_
            with_reducible refine (impl_StepState.calls kj61 _ _ t445 t448 _ _ t449 _ _ t452 _ _ t455 7 t481 t482 t485 t488 _ ?side1 ?side2 ?side3 ?side4 ?side5 ?side6 ?side7 ?side8 A87.out).mono ?_
            (case side1 => exact CR ((Kd.R_reads' HO_3.out).2.2))
            (case side2 => exact (Kd.R_reads' HO_3.out).2.1)
            (case side3 => exact CR ((Kd.R_reads' HO_460001.out).2.2))
            (case side4 => exact (Kd.R_reads' HO_460001.out).2.1)
            (case side5 => exact CR ((Kd.R_reads' HO_460002.out).2.2))
            (case side6 => exact (Kd.R_reads' HO_460002.out).2.1)
            (case side7 => exact CR ((Kd.R_reads' HO_460003.out).2.2))
            (case side8 => exact (Kd.R_reads' HO_460003.out).2.1)
            rintro e w130 ⟨v483, v486, v489, rfl, ho0, ho1, ho2, hb⟩
            refine ⟨_, rfl, ?_⟩
            replace HO_3 := Rb HO_3 hb
            have HO484 := Rn6 ho0 HB HO_460001 HO_460002 HO_460003 HO_471001 HO_471002 HO_471003
            have HO487 := Rn6 ho1 HB HO_460001 HO_460002 HO_460003 HO_471001 HO_471002 HO_471003
            have HO490 := Rn6 ho2 HB HO_460001 HO_460002 HO_460003 HO_471001 HO_471002 HO_471003
            replace HO_460001 := Ro3 (W1 := w) (W2 := w) (W3 := w) (base1 := 0) (base2 := 0) (base3 := 0) HO_460001 hb ho0 ho1 ho2
            replace HO_460002 := Ro3 (W1 := w) (W2 := w) (W3 := w) (base1 := 0) (base2 := 0) (base3 := 0) HO_460002 hb ho0 ho1 ho2
            replace HO_460003 := Ro3 (W1 := w) (W2 := w) (W3 := w) (base1 := 0) (base2 := 0) (base3 := 0) HO_460003 hb ho0 ho1 ho2
            replace HO_471001 := Ro3 (W1 := w) (W2 := w) (W3 := w) (base1 := 0) (base2 := 0) (base3 := 0) HO_471001 hb ho0 ho1 ho2
            replace HO_471002 := Ro3 (W1 := w) (W2 := w) (W3 := w) (base1 := 0) (base2 := 0) (base3 := 0) HO_471002 hb ho0 ho1 ho2
            replace HO_471003 := Ro3 (W1 := w) (W2 := w) (W3 := w) (base1 := 0) (base2 := 0) (base3 := 0) HO_471003 hb ho0 ho1 ho2
            replace BK459 := kf BK459 hb
            replace BK470 := kf BK470 hb
            replace BK475 := kf BK475 hb
            replace HB := bs HB hb
            (try clear hb)
            (try clear hb2)
            (try clear hk)
            (try clear hi)
            (try clear ho0)
            (try clear ho1)
            (try clear ho2)
            obtain ⟨Ao131, co131, eo131⟩ := Kd.R_slice HO484.out
            (first | subst eo131 | (injection eo131 with f1_ f2_ f3_; have f4_ := f1_.symm; have f5_ := f3_.symm; clear f1_ f2_ f3_; subst f4_; subst f5_))
            obtain ⟨Ao132, co132, eo132⟩ := Kd.R_slice HO487.out
            (first | subst eo132 | (injection eo132 with f1_ f2_ f3_; have f4_ := f1_.symm; have f5_ := f3_.symm; clear f1_ f2_ f3_; subst f4_; subst f5_))
            obtain ⟨Ao133, co133, eo133⟩ := Kd.R_slice HO490.out
            (first | subst eo133 | (injection eo133 with f1_ f2_ f3_; have f4_ := f1_.symm; have f5_ := f3_.symm; clear f1_ f2_ f3_; subst f4_; subst f5_))
            refine hK.out _ _ ⟨(blk_cell BK475.out 0).trans rfl, (blk_cell BK475.out 1).trans rfl, (blk_cell BK475.out 2).trans rfl, (blk_cell BK475.out 3).trans rfl, (blk_cell BK470.out 0).trans rfl, (blk_cell BK470.out 1).trans rfl, (blk_cell BK470.out 2).trans rfl, (blk_cell BK470.out 3).trans rfl, (blk_cell BK459.out 0).trans rfl, (blk_cell BK459.out 1).trans rfl, (blk_cell BK459.out 2).trans rfl, (blk_cell BK459.out 3).trans rfl⟩ (fun hHeld => ?_)
            clear hK K
            refine norm_ (a' := ?_) ?_ ?_
            rotate_left
            ·show Act.put _ (some 69) _ = _
             simp only [Act.put, List.setIfInBounds_toArray, List.set_cons_zero, List.set_cons_succ, i64_w, i32_w]
             rfl
            refine one_ (i := 8) (N := some 70) b10_24 rfl rfl (one_of HT_.out KR) (by decide) (fun K hK => ?_)
            refine goes_ Try.func25 KR rfl #[.agg #[.int .i64 t460, .slice Ao19 t461.length co19, .slice Ao20 t464.length co20, .slice Ao21 t467.length co21], .agg #[.int .i64 t481, .slice Ao131 t482.length co131, .slice Ao132 t485.length co132, .slice Ao133 t488.length co133]] (by rfl) rfl rfl AR ?_
            with_reducible refine (impl_EqualStates.calls kj61 t460 _ _ t461 _ _ t464 _ _ t467 t481 _ _ t482 _ _ t485 _ _ t488 false _ ?side1 ?side2 ?side3 ?side4 ?side5 ?side6 ?side7 ?side8 ?side9 ?side10 ?side11 ?side12 A88.out).mono ?_
            (case side1 => exact CR ((Kd.R_reads' HO_471001.out).2.2))
            (case side2 => exact (Kd.R_reads' HO_471001.out).2.1)
            (case side3 => exact CR ((Kd.R_reads' HO_471002.out).2.2))
            (case side4 => exact (Kd.R_reads' HO_471002.out).2.1)
            (case side5 => exact CR ((Kd.R_reads' HO_471003.out).2.2))
            (case side6 => exact (Kd.R_reads' HO_471003.out).2.1)
            (case side7 => exact CR ((Kd.R_reads' HO484.out).2.2))
            (case side8 => exact (Kd.R_reads' HO484.out).2.1)
            (case side9 => exact CR ((Kd.R_reads' HO487.out).2.2))
            (case side10 => exact (Kd.R_reads' HO487.out).2.1)
            (case side11 => exact CR ((Kd.R_reads' HO490.out).2.2))
            (case side12 => exact (Kd.R_reads' HO490.out).2.1)
            rintro e w134 ⟨rfl, hb⟩
            refine ⟨_, rfl, ?_⟩
            replace HO_3 := Rb HO_3 hb
            replace HO_460001 := Rb HO_460001 hb
            replace HO_460002 := Rb HO_460002 hb
            replace HO_460003 := Rb HO_460003 hb
            replace HO_471001 := Rb HO_471001 hb
            replace HO_471002 := Rb HO_471002 hb
            replace HO_471003 := Rb HO_471003 hb
            replace HO484 := Rb HO484 hb
            replace HO487 := Rb HO487 hb
            replace HO490 := Rb HO490 hb
            replace BK459 := kf BK459 hb
            replace BK470 := kf BK470 hb
            replace BK475 := kf BK475 hb
            replace HB := bs HB hb
            (try clear hb)
            (try clear hb2)
            (try clear hk)
            (try clear hi)
            refine hK.out _ _ ⟨(blk_cell BK475.out 0).trans rfl, (blk_cell BK475.out 1).trans rfl, (blk_cell BK475.out 2).trans rfl, (blk_cell BK475.out 3).trans rfl, (blk_cell BK470.out 0).trans rfl, (blk_cell BK470.out 1).trans rfl, (blk_cell BK470.out 2).trans rfl, (blk_cell BK470.out 3).trans rfl, (blk_cell BK459.out 0).trans rfl, (blk_cell BK459.out 1).trans rfl, (blk_cell BK459.out 2).trans rfl, (blk_cell BK459.out 3).trans rfl⟩ (fun hHeld => ?_)
            clear hK K
            refine norm_ (a' := ?_) ?_ ?_
            rotate_left
            ·show Act.put _ (some 70) _ = _
             simp only [Act.put, List.setIfInBounds_toArray, List.set_cons_zero, List.set_cons_succ, i64_w, i32_w]
             rfl
            refine pu_ (i := 9) (N := some 71) b10_23 HT_ ?_
            refine pu_ (i := 10) (N := some 72) b10_22 HT_ ?_
            refine pu_ (i := 11) (N := some 73) b10_21 HT_ ?_
            refine un_ (i := 12) (N := some 74) b10_20 HT_ ?_
            refine un_ (i := 13) (N := some 75) b10_19 HT_ ?_
            refine un_ (i := 14) (N := some 76) b10_18 HT_ ?_
            refine un_ (i := 15) (N := some 77) b10_17 HT_ ?_
            refine un_ (i := 16) (N := some 78) b10_16 HT_ ?_
            refine un_ (i := 17) (N := some 79) b10_15 HT_ ?_
            refine un_ (i := 18) (N := some 80) b10_14 HT_ ?_
            refine un_ (i := 19) (N := some 81) b10_13 HT_ ?_
            refine un_ (i := 20) (N := some 82) b10_12 HT_ ?_
            refine pu_ (i := 21) (N := some 83) b10_11 HT_ ?_
            refine pu_ (i := 22) (N := some 84) b10_10 HT_ ?_
            refine un_ (i := 23) (N := some 85) b10_9 HT_ ?_
            refine un_ (i := 24) (N := some 86) b10_8 HT_ ?_
            refine un_ (i := 25) (N := some 87) b10_7 HT_ ?_
            refine un_ (i := 26) (N := some 88) b10_6 HT_ ?_
            refine un_ (i := 27) (N := some 89) b10_5 HT_ ?_
            refine un_ (i := 28) (N := some 90) b10_4 HT_ ?_
            refine un_ (i := 29) (N := some 91) b10_3 HT_ ?_
            refine un_ (i := 30) (N := some 92) b10_2 HT_ ?_
            refine un_ (i := 31) (N := some 93) b10_1 HT_ ?_
            refine pu_ (i := 32) (N := some 94) b10_0 HT_ ?_
            refine done_ (done_of HT_.out KR) ?_
            try go_wp2
            go_meet
            case rel => exact ⟨_, (true), (by first | rfl | (simp; done) | (simp [*]; done)), H', ⟨by have := HJ6.out; have := HJ61.out; first | omega | exact Nat.le_refl _⟩, ⟨RX HO_460001.out (fun _ hk => ⟨hk.1.1.1.1, ⟨hk.1.1.1.2.1, ⟨hk.1.1.1.2.2.1, ⟨hk.1.1.1.2.2.2.1, hk.1.1.1.2.2.2.2⟩⟩⟩⟩)⟩, ⟨RX HO_460002.out (fun _ hk => ⟨hk.1.1.1.1, ⟨hk.1.1.1.2.1, ⟨hk.1.1.1.2.2.1, ⟨hk.1.1.1.2.2.2.1, hk.1.1.1.2.2.2.2⟩⟩⟩⟩)⟩, ⟨RX HO_460003.out (fun _ hk => ⟨hk.1.1.1.1, ⟨hk.1.1.1.2.1, ⟨hk.1.1.1.2.2.1, ⟨hk.1.1.1.2.2.2.1, hk.1.1.1.2.2.2.2⟩⟩⟩⟩)⟩, ⟨RX HO_471001.out (fun _ hk => ⟨hk.1.1.1.1, ⟨hk.1.1.1.2.1, ⟨hk.1.1.1.2.2.1, ⟨hk.1.1.1.2.2.2.1, hk.1.1.1.2.2.2.2⟩⟩⟩⟩)⟩, ⟨RX HO_471002.out (fun _ hk => ⟨hk.1.1.1.1, ⟨hk.1.1.1.2.1, ⟨hk.1.1.1.2.2.1, ⟨hk.1.1.1.2.2.2.1, hk.1.1.1.2.2.2.2⟩⟩⟩⟩)⟩, ⟨RX HO_471003.out (fun _ hk => ⟨hk.1.1.1.1, ⟨hk.1.1.1.2.1, ⟨hk.1.1.1.2.2.1, ⟨hk.1.1.1.2.2.2.1, hk.1.1.1.2.2.2.2⟩⟩⟩⟩)⟩, ⟨PK BK459⟩, ⟨PK BK470⟩, ⟨PK BK475⟩, ⟨PB⟩⟩
         ·rw [if_neg c86] at H
          have c86b0 : (t471 == 0) = false := beq_eq_false_iff_ne.mpr c86
          have c86b1 : (t471 != 0) = true := bne_iff_ne.mpr c86
          (first | rw [c86b0] | (simp only [i64_w, i32_w]; rw [c86b0]) | skip)
          by_cases c135 : t471 > 0
          ·rw [if_pos c135] at H
           have c135b0 : decide (0 < t471) = true := decide_eq_true c135
           clear c135
           replace H := Option.bind_eq_some_iff.mp H
           obtain ⟨t495, A1360, H⟩ := H
           replace H : (if t495 = true then (if t471 = 1 then ((impl_IsAddress.f t472 t473 t474).bind fun t496 => (laws_FnMachine.j2 kj61 (!t496) t448 t449 t452 t455)) else (laws_FnMachine.j2 kj61 false t448 t449 t452 t455)) else (laws_FnMachine.j2 kj61 true t448 t449 t452 t455)) = some r := H
           have A136 := Aside0.mk A1360
           clear A1360
           by_cases c137 : t495 = true
           ·subst c137
            have H1 : (if t471 = 1 then ((impl_IsAddress.f t472 t473 t474).bind fun t496 => (laws_FnMachine.j2 kj61 (!t496) t448 t449 t452 t455)) else (laws_FnMachine.j2 kj61 false t448 t449 t452 t455)) = some r := by rw [if_pos rfl] at H; exact H
            clear H
            have H := H1
            clear H1
            by_cases c138 : t471 = 1
            ·rw [if_pos c138] at H
             have c138b0 : (t471 == 1) = true := beq_iff_eq.mpr c138
             have c138b1 : (t471 != 1) = false := bne_eq_false_iff_eq.mpr c138
             clear c138
             replace H := Option.bind_eq_some_iff.mp H
             obtain ⟨t496, A1390, H⟩ := H
             replace H : (laws_FnMachine.j2 kj61 (!t496) t448 t449 t452 t455) = some r := H
             have A139 := Aside0.mk A1390
             clear A1390
             have H' := Aside0.mk H
             clear H
             try go_wp2
             replace HO_3 := ak (Kd.R_drew HO_3.out)
             replace HO_460001 := ak (Kd.R_drew HO_460001.out)
             replace HO_460002 := ak (Kd.R_drew HO_460002.out)
             replace HO_460003 := ak (Kd.R_drew HO_460003.out)
             replace HO_471001 := ak (Kd.R_drew HO_471001.out)
             replace HO_471002 := ak (Kd.R_drew HO_471002.out)
             replace HO_471003 := ak (Kd.R_drew HO_471003.out)
             replace BK459 := ak (blk_drew BK459.out)
             replace BK470 := ak (blk_drew BK470.out)
             replace BK475 := ak (blk_drew BK475.out)
             replace HB := ak (below_drew1 HB.out)
             as_aux_lemma =>
              refine start_ (n := 33) (S := fun w' => w'.cell? ⟨gb475, 0, none⟩ = some (.int .i64 t471) ∧ w'.cell? ⟨gb475, 1, none⟩ = some (.int .i64 t472) ∧ w'.cell? ⟨gb475, 2, none⟩ = some (.int .i64 t473) ∧ w'.cell? ⟨gb475, 3, none⟩ = some (.int .i64 t474)) (ds := []) b10_34 KR rfl rfl ⟨(blk_cell BK475.out 0).trans rfl, (blk_cell BK475.out 1).trans rfl, (blk_cell BK475.out 2).trans rfl, (blk_cell BK475.out 3).trans rfl⟩ (fun hHeld => ?_); refine with_tabW laws_FnMachine.tab10 laws_FnMachine.bits10 (fun HT_ HW_ => ?_)
              generalize wc.drew = w140 at HO_3 HO_460001 HO_460002 HO_460003 HO_471001 HO_471002 HO_471003 BK459 BK470 BK475 HB hHeld ⊢
              refine pu_ (i := 0) (N := some 62) b10_33 HT_ ?_
              refine tk_ (i := 1) (N := some 63) b10_32 rfl rfl HT_ HW_ hHeld ?_
              refine pu_ (i := 2) (N := some 64) b10_31 HT_ ?_
              refine pu_ (i := 3) (N := some 65) b10_30 HT_ ?_
              refine un_ (i := 4) (N := some 66) b10_29 HT_ ?_
              refine un_ (i := 5) (N := some 67) b10_27 HT_ ?_
              refine un_ (i := 6) (N := some 68) b10_26 HT_ ?_
              refine un_ (i := 7) (N := some 69) b10_25 HT_ ?_
              refine un_ (i := 8) (N := some 70) b10_24 HT_ ?_
              refine un_ (i := 9) (N := some 71) b10_23 HT_ ?_
              refine pu_ (i := 10) (N := some 72) b10_22 HT_ ?_
              refine pu_ (i := 11) (N := some 73) b10_21 HT_ ?_
              refine pu_ (i := 12) (N := some 74) b10_20 HT_ ?_
              refine tk_ (i := 13) (N := some 75) b10_19 rfl rfl HT_ HW_ hHeld ?_
              refine pu_ (i := 14) (N := some 76) b10_18 HT_ ?_
              refine pu_ (i := 15) (N := some 77) b10_17 HT_ ?_
              refine pu_ (i := 16) (N := some 78) b10_16 HT_ ?_
              refine tk_ (i := 17) (N := some 79) b10_15 rfl rfl HT_ HW_ hHeld ?_
              refine one_ (i := 18) (N := some 80) b10_14 rfl rfl (one_of HT_.out KR) (by decide) (fun K hK => ?_)
              refine goes_ Try.func26 KR rfl #[.int .i64 t471] (by rfl) rfl rfl AR ?_
              with_reducible refine (impl_Asks.calls t471 true _ A136.out).mono ?_
              rintro e w' ⟨rfl, ⟨nd, rfl⟩⟩
              refine ⟨_, rfl, ?_⟩
              refine hK.out _ _ ⟨(blk_cell BK475.out 0).trans rfl, (blk_cell BK475.out 1).trans rfl, (blk_cell BK475.out 2).trans rfl, (blk_cell BK475.out 3).trans rfl⟩ (fun hHeld => ?_)
              clear hK K
              refine norm_ (a' := ?_) ?_ ?_
              rotate_left
              ·show Act.put _ (some 80) _ = _
               simp only [Act.put, List.setIfInBounds_toArray, List.set_cons_zero, List.set_cons_succ, i64_w, i32_w]
               rfl
              refine pu_ (i := 19) (N := some 81) b10_13 HT_ ?_
              refine pu_ (i := 20) (N := some 82) b10_12 HT_ ?_
              refine pu_ (i := 21) (N := some 83) b10_11 HT_ ?_
              refine pu_ (i := 22) (N := some 84) b10_10 HT_ ?_
              refine pu_ (i := 23) (N := some 85) b10_9 HT_ ?_
              refine tk_ (i := 24) (N := some 86) b10_8 rfl rfl HT_ HW_ hHeld ?_
              refine pu_ (i := 25) (N := some 87) b10_7 HT_ ?_
              refine pu_ (i := 26) (N := some 88) b10_6 HT_ ?_
              refine pu_ (i := 27) (N := some 89) b10_5 HT_ ?_
              refine tk_ (i := 28) (N := some 90) b10_4 rfl rfl HT_ HW_ hHeld ?_
              refine one_ (i := 29) (N := some 91) b10_3 rfl rfl (one_of HT_.out KR) (by decide) (fun K hK => ?_)
              refine goes_ Try.func27 KR rfl #[.agg #[.int .i64 t472, .int .i64 t473, .int .i64 t474]] (by rfl) rfl rfl AR ?_
              with_reducible refine (impl_IsAddress.calls t472 t473 t474 t496 _ A139.out).mono ?_
              rintro e w141 ⟨rfl, hb⟩
              refine ⟨_, rfl, ?_⟩
              replace HO_3 := Rb HO_3 hb
              replace HO_460001 := Rb HO_460001 hb
              replace HO_460002 := Rb HO_460002 hb
              replace HO_460003 := Rb HO_460003 hb
              replace HO_471001 := Rb HO_471001 hb
              replace HO_471002 := Rb HO_471002 hb
              replace HO_471003 := Rb HO_471003 hb
              replace BK459 := kf BK459 hb
              replace BK470 := kf BK470 hb
              replace BK475 := kf BK475 hb
              replace HB := bs HB hb
              (try clear hb)
              (try clear hb2)
              (try clear hk)
              (try clear hi)
              refine hK.out _ _ ⟨(blk_cell BK475.out 0).trans rfl, (blk_cell BK475.out 1).trans rfl, (blk_cell BK475.out 2).trans rfl, (blk_cell BK475.out 3).trans rfl⟩ (fun hHeld => ?_)
              clear hK K
              refine norm_ (a' := ?_) ?_ ?_
              rotate_left
              ·show Act.put _ (some 91) _ = _
               simp only [Act.put, List.setIfInBounds_toArray, List.set_cons_zero, List.set_cons_succ, i64_w, i32_w]
               rfl
              refine pu_ (i := 30) (N := some 92) b10_2 HT_ ?_
              refine pu_ (i := 31) (N := some 93) b10_1 HT_ ?_
              refine pu_ (i := 32) (N := some 94) b10_0 HT_ ?_
              refine done_ (done_of HT_.out KR) ?_
              try go_wp2
              go_meet
              case rel => exact ⟨_, (!t496), (by first | rfl | (simp; done) | (simp [*]; done)), H', ⟨by have := HJ6.out; have := HJ61.out; first | omega | exact Nat.le_refl _⟩, ⟨PR HO_460001⟩, ⟨PR HO_460002⟩, ⟨PR HO_460003⟩, ⟨PR HO_471001⟩, ⟨PR HO_471002⟩, ⟨PR HO_471003⟩, ⟨PK BK459⟩, ⟨PK BK470⟩, ⟨PK BK475⟩, ⟨PB⟩⟩
            ·rw [if_neg c138] at H
             have c138b0 : (t471 == 1) = false := beq_eq_false_iff_ne.mpr c138
             have c138b1 : (t471 != 1) = true := bne_iff_ne.mpr c138
             have H' := Aside0.mk H
             clear H
             try go_wp2
             replace HO_3 := ak (Kd.R_drew HO_3.out)
             replace HO_460001 := ak (Kd.R_drew HO_460001.out)
             replace HO_460002 := ak (Kd.R_drew HO_460002.out)
             replace HO_460003 := ak (Kd.R_drew HO_460003.out)
             replace HO_471001 := ak (Kd.R_drew HO_471001.out)
             replace HO_471002 := ak (Kd.R_drew HO_471002.out)
             replace HO_471003 := ak (Kd.R_drew HO_471003.out)
             replace BK459 := ak (blk_drew BK459.out)
             replace BK470 := ak (blk_drew BK470.out)
             replace BK475 := ak (blk_drew BK475.out)
             replace HB := ak (below_drew1 HB.out)
             as_aux_lemma =>
              refine start_ (n := 33) (S := fun w' => w'.cell? ⟨gb475, 0, none⟩ = some (.int .i64 t471) ∧ w'.cell? ⟨gb475, 1, none⟩ = some (.int .i64 t472) ∧ w'.cell? ⟨gb475, 2, none⟩ = some (.int .i64 t473) ∧ w'.cell? ⟨gb475, 3, none⟩ = some (.int .i64 t474)) (ds := []) b10_34 KR rfl rfl ⟨(blk_cell BK475.out 0).trans rfl, (blk_cell BK475.out 1).trans rfl, (blk_cell BK475.out 2).trans rfl, (blk_cell BK475.out 3).trans rfl⟩ (fun hHeld => ?_); refine with_tabW laws_FnMachine.tab10 laws_FnMachine.bits10 (fun HT_ HW_ => ?_)
              generalize wc.drew = w142 at HO_3 HO_460001 HO_460002 HO_460003 HO_471001 HO_471002 HO_471003 BK459 BK470 BK475 HB hHeld ⊢
              refine pu_ (i := 0) (N := some 62) b10_33 HT_ ?_
              refine tk_ (i := 1) (N := some 63) b10_32 rfl rfl HT_ HW_ hHeld ?_
              refine pu_ (i := 2) (N := some 64) b10_31 HT_ ?_
              refine pu_ (i := 3) (N := some 65) b10_30 HT_ ?_
              refine un_ (i := 4) (N := some 66) b10_29 HT_ ?_
              refine un_ (i := 5) (N := some 67) b10_27 HT_ ?_
              refine un_ (i := 6) (N := some 68) b10_26 HT_ ?_
              refine un_ (i := 7) (N := some 69) b10_25 HT_ ?_
              refine un_ (i := 8) (N := some 70) b10_24 HT_ ?_
              refine un_ (i := 9) (N := some 71) b10_23 HT_ ?_
              refine pu_ (i := 10) (N := some 72) b10_22 HT_ ?_
              refine pu_ (i := 11) (N := some 73) b10_21 HT_ ?_
              refine pu_ (i := 12) (N := some 74) b10_20 HT_ ?_
              refine tk_ (i := 13) (N := some 75) b10_19 rfl rfl HT_ HW_ hHeld ?_
              refine pu_ (i := 14) (N := some 76) b10_18 HT_ ?_
              refine pu_ (i := 15) (N := some 77) b10_17 HT_ ?_
              refine pu_ (i := 16) (N := some 78) b10_16 HT_ ?_
              refine tk_ (i := 17) (N := some 79) b10_15 rfl rfl HT_ HW_ hHeld ?_
              refine one_ (i := 18) (N := some 80) b10_14 rfl rfl (one_of HT_.out KR) (by decide) (fun K hK => ?_)
              refine goes_ Try.func26 KR rfl #[.int .i64 t471] (by rfl) rfl rfl AR ?_
              with_reducible refine (impl_Asks.calls t471 true _ A136.out).mono ?_
              rintro e w' ⟨rfl, ⟨nd, rfl⟩⟩
              refine ⟨_, rfl, ?_⟩
              refine hK.out _ _ ⟨(blk_cell BK475.out 0).trans rfl, (blk_cell BK475.out 1).trans rfl, (blk_cell BK475.out 2).trans rfl, (blk_cell BK475.out 3).trans rfl⟩ (fun hHeld => ?_)
              clear hK K
              refine norm_ (a' := ?_) ?_ ?_
              rotate_left
              ·show Act.put _ (some 80) _ = _
               simp only [Act.put, List.setIfInBounds_toArray, List.set_cons_zero, List.set_cons_succ, i64_w, i32_w]
               rfl
              refine pu_ (i := 19) (N := some 81) b10_13 HT_ ?_
              refine pu_ (i := 20) (N := some 82) b10_12 HT_ ?_
              refine pu_ (i := 21) (N := some 83) b10_11 HT_ ?_
              refine pu_ (i := 22) (N := some 84) b10_10 HT_ ?_
              refine pu_ (i := 23) (N := some 85) b10_9 HT_ ?_
              refine tk_ (i := 24) (N := some 86) b10_8 rfl rfl HT_ HW_ hHeld ?_
              refine pu_ (i := 25) (N := some 87) b10_7 HT_ ?_
              refine pu_ (i := 26) (N := some 88) b10_6 HT_ ?_
              refine un_ (i := 27) (N := some 89) b10_5 HT_ ?_
              refine un_ (i := 28) (N := some 90) b10_4 HT_ ?_
              refine un_ (i := 29) (N := some 91) b10_3 HT_ ?_
              refine un_ (i := 30) (N := some 92) b10_2 HT_ ?_
              refine pu_ (i := 31) (N := some 93) b10_1 HT_ ?_
              refine pu_ (i := 32) (N := some 94) b10_0 HT_ ?_
              refine done_ (done_of HT_.out KR) ?_
              try go_wp2
              go_meet
              case rel => exact ⟨_, (false), (by first | rfl | (simp; done) | (simp [*]; done)), H', ⟨by have := HJ6.out; have := HJ61.out; first | omega | exact Nat.le_refl _⟩, ⟨PR HO_460001⟩, ⟨PR HO_460002⟩, ⟨PR HO_460003⟩, ⟨PR HO_471001⟩, ⟨PR HO_471002⟩, ⟨PR HO_471003⟩, ⟨PK BK459⟩, ⟨PK BK470⟩, ⟨PK BK475⟩, ⟨PB⟩⟩
           ·replace c137 := Bool.eq_false_iff.mpr c137
            subst c137
            have H1 : (laws_FnMachine.j2 kj61 true t448 t449 t452 t455) = some r := by rw [if_neg (show ¬ (false = true) by decide)] at H; exact H
            clear H
            have H := H1
            clear H1
            have H' := Aside0.mk H
            clear H
            try go_wp2
            replace HO_3 := ak (Kd.R_drew HO_3.out)
            replace HO_460001 := ak (Kd.R_drew HO_460001.out)
            replace HO_460002 := ak (Kd.R_drew HO_460002.out)
            replace HO_460003 := ak (Kd.R_drew HO_460003.out)
            replace HO_471001 := ak (Kd.R_drew HO_471001.out)
            replace HO_471002 := ak (Kd.R_drew HO_471002.out)
            replace HO_471003 := ak (Kd.R_drew HO_471003.out)
            replace BK459 := ak (blk_drew BK459.out)
            replace BK470 := ak (blk_drew BK470.out)
            replace BK475 := ak (blk_drew BK475.out)
            replace HB := ak (below_drew1 HB.out)
            as_aux_lemma =>
             refine start_ (n := 33) (S := fun w' => w'.cell? ⟨gb475, 0, none⟩ = some (.int .i64 t471) ∧ w'.cell? ⟨gb475, 1, none⟩ = some (.int .i64 t472) ∧ w'.cell? ⟨gb475, 2, none⟩ = some (.int .i64 t473) ∧ w'.cell? ⟨gb475, 3, none⟩ = some (.int .i64 t474)) (ds := []) b10_34 KR rfl rfl ⟨(blk_cell BK475.out 0).trans rfl, (blk_cell BK475.out 1).trans rfl, (blk_cell BK475.out 2).trans rfl, (blk_cell BK475.out 3).trans rfl⟩ (fun hHeld => ?_); refine with_tabW laws_FnMachine.tab10 laws_FnMachine.bits10 (fun HT_ HW_ => ?_)
             generalize wc.drew = w143 at HO_3 HO_460001 HO_460002 HO_460003 HO_471001 HO_471002 HO_471003 BK459 BK470 BK475 HB hHeld ⊢
             refine pu_ (i := 0) (N := some 62) b10_33 HT_ ?_
             refine tk_ (i := 1) (N := some 63) b10_32 rfl rfl HT_ HW_ hHeld ?_
             refine pu_ (i := 2) (N := some 64) b10_31 HT_ ?_
             refine pu_ (i := 3) (N := some 65) b10_30 HT_ ?_
             refine un_ (i := 4) (N := some 66) b10_29 HT_ ?_
             refine un_ (i := 5) (N := some 67) b10_27 HT_ ?_
             refine un_ (i := 6) (N := some 68) b10_26 HT_ ?_
             refine un_ (i := 7) (N := some 69) b10_25 HT_ ?_
             refine un_ (i := 8) (N := some 70) b10_24 HT_ ?_
             refine un_ (i := 9) (N := some 71) b10_23 HT_ ?_
             refine pu_ (i := 10) (N := some 72) b10_22 HT_ ?_
             refine pu_ (i := 11) (N := some 73) b10_21 HT_ ?_
             refine pu_ (i := 12) (N := some 74) b10_20 HT_ ?_
             refine tk_ (i := 13) (N := some 75) b10_19 rfl rfl HT_ HW_ hHeld ?_
             refine pu_ (i := 14) (N := some 76) b10_18 HT_ ?_
             refine pu_ (i := 15) (N := some 77) b10_17 HT_ ?_
             refine pu_ (i := 16) (N := some 78) b10_16 HT_ ?_
             refine tk_ (i := 17) (N := some 79) b10_15 rfl rfl HT_ HW_ hHeld ?_
             refine one_ (i := 18) (N := some 80) b10_14 rfl rfl (one_of HT_.out KR) (by decide) (fun K hK => ?_)
             refine goes_ Try.func26 KR rfl #[.int .i64 t471] (by rfl) rfl rfl AR ?_
             with_reducible refine (impl_Asks.calls t471 false _ A136.out).mono ?_
             rintro e w' ⟨rfl, ⟨nd, rfl⟩⟩
             refine ⟨_, rfl, ?_⟩
             refine hK.out _ _ ⟨(blk_cell BK475.out 0).trans rfl, (blk_cell BK475.out 1).trans rfl, (blk_cell BK475.out 2).trans rfl, (blk_cell BK475.out 3).trans rfl⟩ (fun hHeld => ?_)
             clear hK K
             refine norm_ (a' := ?_) ?_ ?_
             rotate_left
             ·show Act.put _ (some 80) _ = _
              simp only [Act.put, List.setIfInBounds_toArray, List.set_cons_zero, List.set_cons_succ, i64_w, i32_w]
              rfl
             refine pu_ (i := 19) (N := some 81) b10_13 HT_ ?_
             refine pu_ (i := 20) (N := some 82) b10_12 HT_ ?_
             refine pu_ (i := 21) (N := some 83) b10_11 HT_ ?_
             refine pu_ (i := 22) (N := some 84) b10_10 HT_ ?_
             refine un_ (i := 23) (N := some 85) b10_9 HT_ ?_
             refine un_ (i := 24) (N := some 86) b10_8 HT_ ?_
             refine un_ (i := 25) (N := some 87) b10_7 HT_ ?_
             refine un_ (i := 26) (N := some 88) b10_6 HT_ ?_
             refine un_ (i := 27) (N := some 89) b10_5 HT_ ?_
             refine un_ (i := 28) (N := some 90) b10_4 HT_ ?_
             refine un_ (i := 29) (N := some 91) b10_3 HT_ ?_
             refine un_ (i := 30) (N := some 92) b10_2 HT_ ?_
             refine un_ (i := 31) (N := some 93) b10_1 HT_ ?_
             refine pu_ (i := 32) (N := some 94) b10_0 HT_ ?_
             refine done_ (done_of HT_.out KR) ?_
             try go_wp2
             go_meet
             case rel => exact ⟨_, (true), (by first | rfl | (simp; done) | (simp [*]; done)), H', ⟨by have := HJ6.out; have := HJ61.out; first | omega | exact Nat.le_refl _⟩, ⟨PR HO_460001⟩, ⟨PR HO_460002⟩, ⟨PR HO_460003⟩, ⟨PR HO_471001⟩, ⟨PR HO_471002⟩, ⟨PR HO_471003⟩, ⟨PK BK459⟩, ⟨PK BK470⟩, ⟨PK BK475⟩, ⟨PB⟩⟩
          ·rw [if_neg c135] at H
           have c135b0 : decide (0 < t471) = false := decide_eq_false c135
           clear c135
           by_cases c144 : t471 = 1
           ·rw [if_pos c144] at H
            have c144b0 : (t471 == 1) = true := beq_iff_eq.mpr c144
            have c144b1 : (t471 != 1) = false := bne_eq_false_iff_eq.mpr c144
            clear c144
            replace H := Option.bind_eq_some_iff.mp H
            obtain ⟨t497, A1450, H⟩ := H
            replace H : (laws_FnMachine.j2 kj61 (!t497) t448 t449 t452 t455) = some r := H
            have A145 := Aside0.mk A1450
            clear A1450
            have H' := Aside0.mk H
            clear H
            try go_wp2
            replace HO_3 := ak (Kd.R_drew HO_3.out)
            replace HO_460001 := ak (Kd.R_drew HO_460001.out)
            replace HO_460002 := ak (Kd.R_drew HO_460002.out)
            replace HO_460003 := ak (Kd.R_drew HO_460003.out)
            replace HO_471001 := ak (Kd.R_drew HO_471001.out)
            replace HO_471002 := ak (Kd.R_drew HO_471002.out)
            replace HO_471003 := ak (Kd.R_drew HO_471003.out)
            replace BK459 := ak (blk_drew BK459.out)
            replace BK470 := ak (blk_drew BK470.out)
            replace BK475 := ak (blk_drew BK475.out)
            replace HB := ak (below_drew1 HB.out)
            as_aux_lemma =>
             refine start_ (n := 33) (S := fun w' => w'.cell? ⟨gb475, 0, none⟩ = some (.int .i64 t471) ∧ w'.cell? ⟨gb475, 1, none⟩ = some (.int .i64 t472) ∧ w'.cell? ⟨gb475, 2, none⟩ = some (.int .i64 t473) ∧ w'.cell? ⟨gb475, 3, none⟩ = some (.int .i64 t474)) (ds := []) b10_34 KR rfl rfl ⟨(blk_cell BK475.out 0).trans rfl, (blk_cell BK475.out 1).trans rfl, (blk_cell BK475.out 2).trans rfl, (blk_cell BK475.out 3).trans rfl⟩ (fun hHeld => ?_); refine with_tabW laws_FnMachine.tab10 laws_FnMachine.bits10 (fun HT_ HW_ => ?_)
             generalize wc.drew = w146 at HO_3 HO_460001 HO_460002 HO_460003 HO_471001 HO_471002 HO_471003 BK459 BK470 BK475 HB hHeld ⊢
             refine pu_ (i := 0) (N := some 62) b10_33 HT_ ?_
             refine tk_ (i := 1) (N := some 63) b10_32 rfl rfl HT_ HW_ hHeld ?_
             refine pu_ (i := 2) (N := some 64) b10_31 HT_ ?_
             refine pu_ (i := 3) (N := some 65) b10_30 HT_ ?_
             refine un_ (i := 4) (N := some 66) b10_29 HT_ ?_
             refine un_ (i := 5) (N := some 67) b10_27 HT_ ?_
             refine un_ (i := 6) (N := some 68) b10_26 HT_ ?_
             refine un_ (i := 7) (N := some 69) b10_25 HT_ ?_
             refine un_ (i := 8) (N := some 70) b10_24 HT_ ?_
             refine un_ (i := 9) (N := some 71) b10_23 HT_ ?_
             refine pu_ (i := 10) (N := some 72) b10_22 HT_ ?_
             refine pu_ (i := 11) (N := some 73) b10_21 HT_ ?_
             refine pu_ (i := 12) (N := some 74) b10_20 HT_ ?_
             refine tk_ (i := 13) (N := some 75) b10_19 rfl rfl HT_ HW_ hHeld ?_
             refine pu_ (i := 14) (N := some 76) b10_18 HT_ ?_
             refine pu_ (i := 15) (N := some 77) b10_17 HT_ ?_
             refine un_ (i := 16) (N := some 78) b10_16 HT_ ?_
             refine un_ (i := 17) (N := some 79) b10_15 HT_ ?_
             refine un_ (i := 18) (N := some 80) b10_14 HT_ ?_
             refine un_ (i := 19) (N := some 81) b10_13 HT_ ?_
             refine pu_ (i := 20) (N := some 82) b10_12 HT_ ?_
             refine pu_ (i := 21) (N := some 83) b10_11 HT_ ?_
             refine pu_ (i := 22) (N := some 84) b10_10 HT_ ?_
             refine pu_ (i := 23) (N := some 85) b10_9 HT_ ?_
             refine tk_ (i := 24) (N := some 86) b10_8 rfl rfl HT_ HW_ hHeld ?_
             refine pu_ (i := 25) (N := some 87) b10_7 HT_ ?_
             refine pu_ (i := 26) (N := some 88) b10_6 HT_ ?_
             refine pu_ (i := 27) (N := some 89) b10_5 HT_ ?_
             refine tk_ (i := 28) (N := some 90) b10_4 rfl rfl HT_ HW_ hHeld ?_
             refine one_ (i := 29) (N := some 91) b10_3 rfl rfl (one_of HT_.out KR) (by decide) (fun K hK => ?_)
             refine goes_ Try.func27 KR rfl #[.agg #[.int .i64 t472, .int .i64 t473, .int .i64 t474]] (by rfl) rfl rfl AR ?_
             with_reducible refine (impl_IsAddress.calls t472 t473 t474 t497 _ A145.out).mono ?_
             rintro e w147 ⟨rfl, hb⟩
             refine ⟨_, rfl, ?_⟩
             replace HO_3 := Rb HO_3 hb
             replace HO_460001 := Rb HO_460001 hb
             replace HO_460002 := Rb HO_460002 hb
             replace HO_460003 := Rb HO_460003 hb
             replace HO_471001 := Rb HO_471001 hb
             replace HO_471002 := Rb HO_471002 hb
             replace HO_471003 := Rb HO_471003 hb
             replace BK459 := kf BK459 hb
             replace BK470 := kf BK470 hb
             replace BK475 := kf BK475 hb
             replace HB := bs HB hb
             (try clear hb)
             (try clear hb2)
             (try clear hk)
             (try clear hi)
             refine hK.out _ _ ⟨(blk_cell BK475.out 0).trans rfl, (blk_cell BK475.out 1).trans rfl, (blk_cell BK475.out 2).trans rfl, (blk_cell BK475.out 3).trans rfl⟩ (fun hHeld => ?_)
             clear hK K
             refine norm_ (a' := ?_) ?_ ?_
             rotate_left
             ·show Act.put _ (some 91) _ = _
              simp only [Act.put, List.setIfInBounds_toArray, List.set_cons_zero, List.set_cons_succ, i64_w, i32_w]
              rfl
             refine pu_ (i := 30) (N := some 92) b10_2 HT_ ?_
             refine pu_ (i := 31) (N := some 93) b10_1 HT_ ?_
             refine pu_ (i := 32) (N := some 94) b10_0 HT_ ?_
             refine done_ (done_of HT_.out KR) ?_
             try go_wp2
             go_meet
             case rel => exact ⟨_, (!t497), (by first | rfl | (simp; done) | (simp [*]; done)), H', ⟨by have := HJ6.out; have := HJ61.out; first | omega | exact Nat.le_refl _⟩, ⟨PR HO_460001⟩, ⟨PR HO_460002⟩, ⟨PR HO_460003⟩, ⟨PR HO_471001⟩, ⟨PR HO_471002⟩, ⟨PR HO_471003⟩, ⟨PK BK459⟩, ⟨PK BK470⟩, ⟨PK BK475⟩, ⟨PB⟩⟩
           ·rw [if_neg c144] at H
            have c144b0 : (t471 == 1) = false := beq_eq_false_iff_ne.mpr c144
            have c144b1 : (t471 != 1) = true := bne_iff_ne.mpr c144
            have H' := Aside0.mk H
            clear H
            try go_wp2
            replace HO_3 := ak (Kd.R_drew HO_3.out)
            replace HO_460001 := ak (Kd.R_drew HO_460001.out)
            replace HO_460002 := ak (Kd.R_drew HO_460002.out)
            replace HO_460003 := ak (Kd.R_drew HO_460003.out)
            replace HO_471001 := ak (Kd.R_drew HO_471001.out)
            replace HO_471002 := ak (Kd.R_drew HO_471002.out)
            replace HO_471003 := ak (Kd.R_drew HO_471003.out)
            replace BK459 := ak (blk_drew BK459.out)
            replace BK470 := ak (blk_drew BK470.out)
            replace BK475 := ak (blk_drew BK475.out)
            replace HB := ak (below_drew1 HB.out)
            as_aux_lemma =>
             refine start_ (n := 33) (S := fun w' => w'.cell? ⟨gb475, 0, none⟩ = some (.int .i64 t471) ∧ w'.cell? ⟨gb475, 1, none⟩ = some (.int .i64 t472) ∧ w'.cell? ⟨gb475, 2, none⟩ = some (.int .i64 t473) ∧ w'.cell? ⟨gb475, 3, none⟩ = some (.int .i64 t474)) (ds := []) b10_34 KR rfl rfl ⟨(blk_cell BK475.out 0).trans rfl, (blk_cell BK475.out 1).trans rfl, (blk_cell BK475.out 2).trans rfl, (blk_cell BK475.out 3).trans rfl⟩ (fun hHeld => ?_); refine with_tabW laws_FnMachine.tab10 laws_FnMachine.bits10 (fun HT_ HW_ => ?_)
             generalize wc.drew = w148 at HO_3 HO_460001 HO_460002 HO_460003 HO_471001 HO_471002 HO_471003 BK459 BK470 BK475 HB hHeld ⊢
             refine pu_ (i := 0) (N := some 62) b10_33 HT_ ?_
             refine tk_ (i := 1) (N := some 63) b10_32 rfl rfl HT_ HW_ hHeld ?_
             refine pu_ (i := 2) (N := some 64) b10_31 HT_ ?_
             refine pu_ (i := 3) (N := some 65) b10_30 HT_ ?_
             refine un_ (i := 4) (N := some 66) b10_29 HT_ ?_
             refine un_ (i := 5) (N := some 67) b10_27 HT_ ?_
             refine un_ (i := 6) (N := some 68) b10_26 HT_ ?_
             refine un_ (i := 7) (N := some 69) b10_25 HT_ ?_
             refine un_ (i := 8) (N := some 70) b10_24 HT_ ?_
             refine un_ (i := 9) (N := some 71) b10_23 HT_ ?_
             refine pu_ (i := 10) (N := some 72) b10_22 HT_ ?_
             refine pu_ (i := 11) (N := some 73) b10_21 HT_ ?_
             refine pu_ (i := 12) (N := some 74) b10_20 HT_ ?_
             refine tk_ (i := 13) (N := some 75) b10_19 rfl rfl HT_ HW_ hHeld ?_
             refine pu_ (i := 14) (N := some 76) b10_18 HT_ ?_
             refine pu_ (i := 15) (N := some 77) b10_17 HT_ ?_
             refine un_ (i := 16) (N := some 78) b10_16 HT_ ?_
             refine un_ (i := 17) (N := some 79) b10_15 HT_ ?_
             refine un_ (i := 18) (N := some 80) b10_14 HT_ ?_
             refine un_ (i := 19) (N := some 81) b10_13 HT_ ?_
             refine pu_ (i := 20) (N := some 82) b10_12 HT_ ?_
             refine pu_ (i := 21) (N := some 83) b10_11 HT_ ?_
             refine pu_ (i := 22) (N := some 84) b10_10 HT_ ?_
             refine pu_ (i := 23) (N := some 85) b10_9 HT_ ?_
             refine tk_ (i := 24) (N := some 86) b10_8 rfl rfl HT_ HW_ hHeld ?_
             refine pu_ (i := 25) (N := some 87) b10_7 HT_ ?_
             refine pu_ (i := 26) (N := some 88) b10_6 HT_ ?_
             refine un_ (i := 27) (N := some 89) b10_5 HT_ ?_
             refine un_ (i := 28) (N := some 90) b10_4 HT_ ?_
             refine un_ (i := 29) (N := some 91) b10_3 HT_ ?_
             refine un_ (i := 30) (N := some 92) b10_2 HT_ ?_
             refine pu_ (i := 31) (N := some 93) b10_1 HT_ ?_
             refine pu_ (i := 32) (N := some 94) b10_0 HT_ ?_
             refine done_ (done_of HT_.out KR) ?_
             try go_wp2
             go_meet
             case rel => exact ⟨_, (false), (by first | rfl | (simp; done) | (simp [*]; done)), H', ⟨by have := HJ6.out; have := HJ61.out; first | omega | exact Nat.le_refl _⟩, ⟨PR HO_460001⟩, ⟨PR HO_460002⟩, ⟨PR HO_460003⟩, ⟨PR HO_471001⟩, ⟨PR HO_471002⟩, ⟨PR HO_471003⟩, ⟨PK BK459⟩, ⟨PK BK470⟩, ⟨PK BK475⟩, ⟨PB⟩⟩
        case rest =>
         clear HC85
         (try clear c1); (try clear c2); (try clear p2); (try clear c13); (try clear c14); (try clear c27); (try clear c135); (try clear c135b0); (try clear c144); (try clear c144b0); (try clear c144b1)
         obtain ⟨kq, x94_84, rfl, HA, HJ84, HO_460001, HO_460002, HO_460003, HO_471001, HO_471002, HO_471003, BK459, BK470, BK475, HB⟩ := hcut
         cases kq with
         | zero => exact absurd HA.out (by simp [laws_FnMachine.j2])
         | succ kj84 =>
          have H := HA.out
          clear HA
          simp only [laws_FnMachine.j2] at H
          by_cases c149 : x94_84 = true
          ·subst c149
           have H1 : (some false) = some r := by rw [if_pos rfl] at H; exact H
           clear H
           have H := H1
           clear H1
           cases (Option.some.inj H).trans hT_
          ·replace c149 := Bool.eq_false_iff.mpr c149
           subst c149
           have H1 : ((impl_StartState.f).bind fun bt498 => ((impl_IsState.f kj84 bt498.1 bt498.2.1 bt498.2.2.1 bt498.2.2.2).bind fun t508 => (if t508 = true then ((impl_EqualStates.f kj84 t448 t449 t452 t455 t448 t449 t452 t455).bind fun t509 => (some t509)) else (some false)))) = some r := by rw [if_neg (show ¬ (false = true) by decide)] at H; exact H
           clear H
           have H := H1
           clear H1
           replace H := Option.bind_eq_some_iff.mp H
           obtain ⟨⟨t498, t499, t502, t505⟩, A1500, H⟩ := H
           replace H : ((impl_IsState.f kj84 t498 t499 t502 t505).bind fun t508 => (if t508 = true then ((impl_EqualStates.f kj84 t448 t449 t452 t455 t448 t449 t452 t455).bind fun t509 => (some t509)) else (some false))) = some r := H
           have A150 := Aside0.mk A1500
           clear A1500
           replace H := Option.bind_eq_some_iff.mp H
           obtain ⟨t508, A1510, H⟩ := H
           replace H : (if t508 = true then ((impl_EqualStates.f kj84 t448 t449 t452 t455 t448 t449 t452 t455).bind fun t509 => (some t509)) else (some false)) = some r := H
           have A151 := Aside0.mk A1510
           clear A1510
           by_cases c152 : t508 = true
           ·subst c152
            have H1 : ((impl_EqualStates.f kj84 t448 t449 t452 t455 t448 t449 t452 t455).bind fun t509 => (some t509)) = some r := by rw [if_pos rfl] at H; exact H
            clear H
            have H := H1
            clear H1
            replace H := Option.bind_eq_some_iff.mp H
            obtain ⟨t509, A1530, H⟩ := H
            replace H : (some t509) = some r := H
            have A153 := Aside0.mk A1530
            clear A1530
            obtain rfl := Option.some.inj H
            go_wp2_with (first | ((with_reducible refine gate_callee (f := 28) rfl ?_); refine goesL_ (some 95) rfl rfl Try.func28 KR rfl #[] rfl AR ?_; (with_reducible refine (impl_StartState.calls  t498 t499 t502 t505 _ A150.out).mono ?_); rintro e w154 ⟨v500, v503, v506, rfl, ho0, ho1, ho2, hb⟩; refine ⟨_, rfl, ?_⟩; have HO501 := Rn6 ho0 HB HO_460001 HO_460002 HO_460003 HO_471001 HO_471002 HO_471003; have HO504 := Rn6 ho1 HB HO_460001 HO_460002 HO_460003 HO_471001 HO_471002 HO_471003; have HO507 := Rn6 ho2 HB HO_460001 HO_460002 HO_460003 HO_471001 HO_471002 HO_471003; replace HO_460001 := Ro3 (W1 := w) (W2 := w) (W3 := w) (base1 := 0) (base2 := 0) (base3 := 0) HO_460001 hb ho0 ho1 ho2; replace HO_460002 := Ro3 (W1 := w) (W2 := w) (W3 := w) (base1 := 0) (base2 := 0) (base3 := 0) HO_460002 hb ho0 ho1 ho2; replace HO_460003 := Ro3 (W1 := w) (W2 := w) (W3 := w) (base1 := 0) (base2 := 0) (base3 := 0) HO_460003 hb ho0 ho1 ho2; replace HO_471001 := Ro3 (W1 := w) (W2 := w) (W3 := w) (base1 := 0) (base2 := 0) (base3 := 0) HO_471001 hb ho0 ho1 ho2; replace HO_471002 := Ro3 (W1 := w) (W2 := w) (W3 := w) (base1 := 0) (base2 := 0) (base3 := 0) HO_471002 hb ho0 ho1 ho2; replace HO_471003 := Ro3 (W1 := w) (W2 := w) (W3 := w) (base1 := 0) (base2 := 0) (base3 := 0) HO_471003 hb ho0 ho1 ho2; replace BK459 := kf BK459 hb; replace BK470 := kf BK470 hb; replace BK475 := kf BK475 hb; replace HB := bs HB hb; (try clear hb); (try clear hb2); (try clear hk); (try clear hi); (try clear ho0); (try clear ho1); (try clear ho2); obtain ⟨Ao155, co155, eo155⟩ := Kd.R_slice HO501.out; subst eo155; obtain ⟨Ao156, co156, eo156⟩ := Kd.R_slice HO504.out; subst eo156; obtain ⟨Ao157, co157, eo157⟩ := Kd.R_slice HO507.out; subst eo157) | ((with_reducible refine gate_callee (f := 23) rfl ?_); refine goesL_ (some 96) rfl rfl Try.func23 KR rfl #[.agg #[.int .i64 t498, .slice Ao155 t499.length co155, .slice Ao156 t502.length co156, .slice Ao157 t505.length co157]] rfl AR ?_; (with_reducible refine (impl_IsState.calls kj84 t498 _ _ t499 _ _ t502 _ _ t505 true _ ?side1 ?side2 ?side3 ?side4 ?side5 ?side6 A151.out).mono ?_); (case side1 => exact CR ((Kd.R_reads' HO501.out).2.2)); (case side2 => exact (Kd.R_reads' HO501.out).2.1); (case side3 => exact CR ((Kd.R_reads' HO504.out).2.2)); (case side4 => exact (Kd.R_reads' HO504.out).2.1); (case side5 => exact CR ((Kd.R_reads' HO507.out).2.2)); (case side6 => exact (Kd.R_reads' HO507.out).2.1); rintro e w158 ⟨rfl, hb⟩; refine ⟨_, rfl, ?_⟩; replace HO_460001 := Rb HO_460001 hb; replace HO_460002 := Rb HO_460002 hb; replace HO_460003 := Rb HO_460003 hb; replace HO_471001 := Rb HO_471001 hb; replace HO_471002 := Rb HO_471002 hb; replace HO_471003 := Rb HO_471003 hb; replace HO501 := Rb HO501 hb; replace HO504 := Rb HO504 hb; replace HO507 := Rb HO507 hb; replace BK459 := kf BK459 hb; replace BK470 := kf BK470 hb; replace BK475 := kf BK475 hb; replace HB := bs HB hb; (try clear hb); (try clear hb2); (try clear hk); (try clear hi); have hnb159 := NB459_470.out; have hnc159 := NB470_459.out; have hnb160 := NB459_475.out; have hnc160 := NB475_459.out; obtain ⟨_, _, _, _, _, _, _, _⟩ := bc4 BK459) | (go_at_call 25; (with_reducible refine (impl_EqualStates.calls kj84 t448 _ _ t449 _ _ t452 _ _ t455 t448 _ _ t449 _ _ t452 _ _ t455 t509 _ ?side1 ?side2 ?side3 ?side4 ?side5 ?side6 ?side7 ?side8 ?side9 ?side10 ?side11 ?side12 A153.out).mono ?_); (case side1 => exact CR ((Kd.R_reads' HO_460001.out).2.2)); (case side2 => exact (Kd.R_reads' HO_460001.out).2.1); (case side3 => exact CR ((Kd.R_reads' HO_460002.out).2.2)); (case side4 => exact (Kd.R_reads' HO_460002.out).2.1); (case side5 => exact CR ((Kd.R_reads' HO_460003.out).2.2)); (case side6 => exact (Kd.R_reads' HO_460003.out).2.1); (case side7 => exact CR ((Kd.R_reads' HO_460001.out).2.2)); (case side8 => exact (Kd.R_reads' HO_460001.out).2.1); (case side9 => exact CR ((Kd.R_reads' HO_460002.out).2.2)); (case side10 => exact (Kd.R_reads' HO_460002.out).2.1); (case side11 => exact CR ((Kd.R_reads' HO_460003.out).2.2)); (case side12 => exact (Kd.R_reads' HO_460003.out).2.1); rintro e w162 ⟨rfl, hb⟩; replace HO_460001 := Rb HO_460001 hb; replace HO_460002 := Rb HO_460002 hb; replace HO_460003 := Rb HO_460003 hb; replace HO_471001 := Rb HO_471001 hb; replace HO_471002 := Rb HO_471002 hb; replace HO_471003 := Rb HO_471003 hb; replace HO501 := Rb HO501 hb; replace HO504 := Rb HO504 hb; replace HO507 := Rb HO507 hb; replace BK459 := kf BK459 hb; replace BK470 := kf BK470 hb; replace BK475 := kf BK475 hb; replace HB := bs HB hb; (try clear hb); (try clear hb2); (try clear hk); (try clear hi)))
            go_ret
            exact ⟨RT, PB⟩
           ·replace c152 := Bool.eq_false_iff.mpr c152
            subst c152
            have H1 : (some false) = some r := by rw [if_neg (show ¬ (false = true) by decide)] at H; exact H
            clear H
            have H := H1
            clear H1
            cases (Option.some.inj H).trans hT_
/-- THE ONE PURE STATEMENT of laws_FnMachine: yours. -/
def laws_FnMachine.Pure : Prop := ∀ (l0 : List Int), l0.length ≤ maxLen → l0.length * 1 ≤ 140737488351232 → (∀ x ∈ l0, (Lit.int .u8 x).wf = true) → ∃ k, laws_FnMachine.f k l0 = some true
theorem laws_FnMachine.walk (P : laws_FnMachine.Pure) (a0 : Option Addr) (len0 cap0 : Nat) (z0 : List Int) (w : World) (w0 : (a0 = none ∧ len0 = 0 ∧ cap0 = 0 ∧ z0 = []) ∨ ∃ x, a0 = some x ∧ len0 ≤ cap0 ∧ cap0 ≤ maxLen ∧ z0.length = cap0 ∧ (∀ i, i < z0.length → w.cell? (x.add i) = some (.int .u8 (z0.getD i 0))) ∧ ∀ n ∈ z0, (Lit.int .u8 n).wf = true) (y0 : len0 * 1 ≤ 140737488351232) :
    Calls Try.prog 4 #[.slice a0 len0 cap0] w fun e w' => e = .returned (.bool true) ∧ Below w.heap.size w w' := by
  obtain ⟨l0, rfl, hr0, hm0, hw0, hc0⟩ := ReadsInt.ofRowC w0
  obtain ⟨k, h⟩ := P l0 hm0 y0 hw0
  refine (laws_FnMachine.calls k _ _ l0 true w (Kd.C_of_reads (d := (0 : Int)) (h1 := fun _ => rfl) hr0) hc0 rfl h).mono ?_
  rintro e w' ⟨rfl, hd⟩
  exact ⟨rfl, hd⟩

end Go.Proofs.Ytgcamebeonodeaa.MFnMachine
