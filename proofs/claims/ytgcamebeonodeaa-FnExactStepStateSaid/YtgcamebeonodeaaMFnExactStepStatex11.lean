-- Written by a program of this session out of the translation's own print. Not trusted: Lean checks it.
import Derived.Test.YtgcamebeonodeaaShr2
import Derived.Test.YtgcamebeonodeaaMFnExactStepStatex0
import Derived.Test.YtgcamebeonodeaaMFnExactStepStatex3
import Derived.Test.YtgcamebeonodeaaMFnExactStepStatex4
import Derived.Test.YtgcamebeonodeaaMFnExactStepStatex8
import Derived.Test.YtgcamebeonodeaaMFnExactStepStatex9
import Derived.Test.YtgcamebeonodeaaMFnExactStepStatex10
namespace Go.Proofs.Ytgcamebeonodeaa.MFnExactStepState
open Go.RowKit Go.Proofs.YtgcamebeonodeaaW.PrintWords Go.Proofs.YtgcamebeonodeaaW.PrintLast Go.Proofs.YtgcamebeonodeaaW.PrintMore
attribute [local go_sem] max2_int min2_int max_two min_two max_three min_three max_four min_four   -- for this text's walks alone
local macro "Ry3" a:term:max b:term:max c:term:max d:term:max e:term:max : term => `(Ro3 (W1 := default) (W2 := default) (W3 := default) (base1 := 0) (base2 := 0) (base3 := 0) $a $b $c $d $e)
set_option linter.unusedVariables false
set_option linter.unusedSimpArgs false

abbrev b11_0 : Array Bool := #[true, true, true, true, true, true, true, true]
abbrev b11_1 : Array Bool := #[true, true, true, true, true, true, true, false]
abbrev b11_2 : Array Bool := #[true, true, true, true, true, false, true, false]
abbrev b11_3 : Array Bool := #[true, true, true, true, true, true, false, false]
abbrev b11_4 : Array Bool := #[true, true, true, false, true, false, true, false]
abbrev b11_5 : Array Bool := #[true, true, true, true, true, false, false, false]
abbrev b11_6 : Array Bool := #[true, false, true, false, true, false, true, false]
abbrev b11_7 : Array Bool := #[true, true, true, false, true, false, false, false]
abbrev b11_8 : Array Bool := #[true, false, true, false, true, false, false, false]
abbrev b11_9 : Array Bool := #[true, false, false, false, true, false, false, false]
abbrev b11_10 : Array Bool := #[true, false, false, false, false, false, false, false]
abbrev b11_11 : Array Bool := #[false, false, false, false, false, false, false, false]
/-! ### laws_FnExactStepState: function 6 -/
def laws_FnExactStepState.j0 : Nat → List (S136) → Int → Bool → Int → List Int → List Int → List Int → Int → List Int → List Int → List Int → Int → List Int → List Int → List Int → Option (Bool)
  | 0, _, _, _, _, _, _, _, _, _, _, _, _, _, _, _ => none
  | k + 1, x0, x2, x67, x305000, x305001, x305002, x305003, x331000, x331001, x331002, x331003, x356000, x356001, x356002, x356003 => if x67 = true then (some false) else ((laws_markState.f k x356000 x356001 x356002 x356003 1).bind fun bt379 => ((laws_heldState.f k x356000 bt379.2.1 bt379.2.2.1 bt379.2.2.2 1).bind fun t383 => (if t383 < 0 then (some false) else (if t383 = bt379.1 then ((laws_toOpS.f k x0).bind fun t384 => ((laws_toState.f k x305000 x305001 x305002 x305003).bind fun bt387 => ((impl_StepState.f k t384 bt387.1 bt387.2.1 bt387.2.2.1 bt387.2.2.2 x2).bind fun bt397 => ((laws_eqState.f k bt397.1 bt397.2.1 bt397.2.2.1 bt397.2.2.2 x331000 x331001 x331002 x331003).bind fun t408 => (if t408 = true then ((laws_heldState.f k x356000 bt379.2.1 bt379.2.2.1 bt379.2.2.2 1).bind fun t409 => (if t409 < 0 then (some false) else (if t409 = bt379.1 then (some true) else (some false)))) else (some false)))))) else (some false)))))
def laws_FnExactStepState.f (k : Nat) (l0 : List (S136)) (a1_0 : Int) (l1_1 : List Int) (l1_2 : List Int) (l1_3 : List Int) (a2 : Int) : Option (Bool) := (laws_szOpS.f l0 1048576).bind fun t305 => (if t305 < 0 then (some true) else ((laws_szState.f a1_0 l1_1 l1_2 l1_3 t305).bind fun t306 => (if t306 < 0 then (some true) else ((laws_toOpS.f k l0).bind fun t307 => ((laws_toState.f k a1_0 l1_1 l1_2 l1_3).bind fun bt310 => ((spec_StepState.f k t307 bt310.1 bt310.2.1 bt310.2.2.1 bt310.2.2.2 a2).bind fun bt320 => ((laws_toOpS.f k l0).bind fun t331 => ((laws_toState.f k a1_0 l1_1 l1_2 l1_3).bind fun bt334 => ((impl_StepState.f k t331 bt334.1 bt334.2.1 bt334.2.2.1 bt334.2.2.2 a2).bind fun bt345 => ((laws_eqState.f k bt345.1 bt345.2.1 bt345.2.2.1 bt345.2.2.2 bt320.1 bt320.2.1 bt320.2.2.1 bt320.2.2.2).bind fun t356 => (if t356 = true then ((laws_toOpS.f k l0).bind fun t357 => ((laws_eqOpS.f k t331 t357).bind fun t360 => (if t360 = true then ((laws_toState.f k a1_0 l1_1 l1_2 l1_3).bind fun bt361 => ((laws_eqState.f k bt334.1 bt334.2.1 bt334.2.2.1 bt334.2.2.2 bt361.1 bt361.2.1 bt361.2.2.1 bt361.2.2.2).bind fun t371 => (if t371 = true then ((laws_markOpS.f k t331 1).bind fun bt372 => ((laws_markState.f k bt334.1 bt334.2.1 bt334.2.2.1 bt334.2.2.2 bt372.1).bind fun bt374 => (if bt374.1 < 0 then (laws_FnExactStepState.j0 k l0 a2 true a1_0 l1_1 l1_2 l1_3 bt320.1 bt320.2.1 bt320.2.2.1 bt320.2.2.2 bt345.1 bt345.2.1 bt345.2.2.1 bt345.2.2.2) else ((laws_eqState.f k bt345.1 bt345.2.1 bt345.2.2.1 bt345.2.2.2 bt320.1 bt320.2.1 bt320.2.2.1 bt320.2.2.2).bind fun t378 => (laws_FnExactStepState.j0 k l0 a2 (!t378) a1_0 l1_1 l1_2 l1_3 bt320.1 bt320.2.1 bt320.2.2.1 bt320.2.2.2 bt345.1 bt345.2.1 bt345.2.2.1 bt345.2.2.2))))) else (some false)))) else (some false)))) else (some false))))))))))))
def laws_FnExactStepState.T8 : Bool × List (List Nat × List Nat) := (true, [([], []), ([0], [0]), ([], []), ([2, 1], [2]), ([], []), ([1, 3, 4, 3], [1, 3, 4]), ([], []), ([6, 5, 5, 0, 1, 2, 3, 4, 5, 6], [5, 6])])
def laws_FnExactStepState.B8 : List Nat := [0, 1, 0, 7, 0, 31, 0, 127]
theorem laws_FnExactStepState.tab8 : rtab .any (opsOf Try.f6 8) = laws_FnExactStepState.T8 := by kernel_rfl
theorem laws_FnExactStepState.bits8 : waitsOk laws_FnExactStepState.T8.2 laws_FnExactStepState.B8 = true := by kernel_rfl
def laws_FnExactStepState.T31 : Bool × List (List Nat × List Nat) := (true, [([], []), ([0], [0]), ([], []), ([2, 1], [2]), ([], []), ([1, 3, 4, 3], [1, 3, 4]), ([], []), ([6, 5, 5, 0, 1, 2, 3, 4, 5, 6], [5, 6])])
def laws_FnExactStepState.B31 : List Nat := [0, 1, 0, 7, 0, 31, 0, 127]
theorem laws_FnExactStepState.tab31 : rtab .any (opsOf Try.f6 31) = laws_FnExactStepState.T31 := by kernel_rfl
theorem laws_FnExactStepState.bits31 : waitsOk laws_FnExactStepState.T31.2 laws_FnExactStepState.B31 = true := by kernel_rfl
set_option maxHeartbeats 8000000 in
set_option maxRecDepth 100000 in
theorem laws_FnExactStepState.calls (k : Nat) (A0 : Option Addr) (c0 : Nat) (l0 : List (S136)) (a1_0 : Int) (A1_1 : Option Addr) (c1_1 : Nat) (l1_1 : List Int) (A1_2 : Option Addr) (c1_2 : Nat) (l1_2 : List Int) (A1_3 : Option Addr) (c1_3 : Nat) (l1_3 : List Int) (a2 : Int) (r : Bool) (w : World) (hr0 : Kd.C k136 w A0 l0.length l0) (hc0 : l0.length ≤ c0) (hr1_1 : Kd.C (Kd.int .i64) w A1_1 l1_1.length l1_1) (hc1_1 : l1_1.length ≤ c1_1) (hr1_2 : Kd.C (Kd.int .i64) w A1_2 l1_2.length l1_2) (hc1_2 : l1_2.length ≤ c1_2) (hr1_3 : Kd.C (Kd.int .i64) w A1_3 l1_3.length l1_3) (hc1_3 : l1_3.length ≤ c1_3) (hT_ : r = true) (h : laws_FnExactStepState.f k l0 a1_0 l1_1 l1_2 l1_3 a2 = some r) :
  Calls Try.prog 6 #[.slice A0 l0.length c0, .agg #[.int .i64 a1_0, .slice A1_1 l1_1.length c1_1, .slice A1_2 l1_2.length c1_2, .slice A1_3 l1_3.length c1_3], .int .i64 a2] w fun e w' => e = .returned (.bool r) ∧ Below w.heap.size w w' := by
 have hu72 := Try.underlying72
 have hu45 := Try.underlying45
 have HR0 := Aside0.mk hr0
 have HC0 := Aside0.mk hc0
 clear hr0 hc0
 have HR1_1 := Aside0.mk hr1_1
 have HC1_1 := Aside0.mk hc1_1
 clear hr1_1 hc1_1
 have HR1_2 := Aside0.mk hr1_2
 have HC1_2 := Aside0.mk hc1_2
 clear hr1_2 hc1_2
 have HR1_3 := Aside0.mk hr1_3
 have HC1_3 := Aside0.mk hc1_3
 clear hr1_3 hc1_3
 have HB := ak (Below.refl w.heap.size w)
 have H : ((laws_szOpS.f l0 1048576).bind fun t305 => (if t305 < 0 then (some true) else ((laws_szState.f a1_0 l1_1 l1_2 l1_3 t305).bind fun t306 => (if t306 < 0 then (some true) else ((laws_toOpS.f k l0).bind fun t307 => ((laws_toState.f k a1_0 l1_1 l1_2 l1_3).bind fun bt310 => ((spec_StepState.f k t307 bt310.1 bt310.2.1 bt310.2.2.1 bt310.2.2.2 a2).bind fun bt320 => ((laws_toOpS.f k l0).bind fun t331 => ((laws_toState.f k a1_0 l1_1 l1_2 l1_3).bind fun bt334 => ((impl_StepState.f k t331 bt334.1 bt334.2.1 bt334.2.2.1 bt334.2.2.2 a2).bind fun bt345 => ((laws_eqState.f k bt345.1 bt345.2.1 bt345.2.2.1 bt345.2.2.2 bt320.1 bt320.2.1 bt320.2.2.1 bt320.2.2.2).bind fun t356 => (if t356 = true then ((laws_toOpS.f k l0).bind fun t357 => ((laws_eqOpS.f k t331 t357).bind fun t360 => (if t360 = true then ((laws_toState.f k a1_0 l1_1 l1_2 l1_3).bind fun bt361 => ((laws_eqState.f k bt334.1 bt334.2.1 bt334.2.2.1 bt334.2.2.2 bt361.1 bt361.2.1 bt361.2.2.1 bt361.2.2.2).bind fun t371 => (if t371 = true then ((laws_markOpS.f k t331 1).bind fun bt372 => ((laws_markState.f k bt334.1 bt334.2.1 bt334.2.2.1 bt334.2.2.2 bt372.1).bind fun bt374 => (if bt374.1 < 0 then (laws_FnExactStepState.j0 k l0 a2 true a1_0 l1_1 l1_2 l1_3 bt320.1 bt320.2.1 bt320.2.2.1 bt320.2.2.2 bt345.1 bt345.2.1 bt345.2.2.1 bt345.2.2.2) else ((laws_eqState.f k bt345.1 bt345.2.1 bt345.2.2.1 bt345.2.2.2 bt320.1 bt320.2.1 bt320.2.2.1 bt320.2.2.2).bind fun t378 => (laws_FnExactStepState.j0 k l0 a2 (!t378) a1_0 l1_1 l1_2 l1_3 bt320.1 bt320.2.1 bt320.2.2.1 bt320.2.2.2 bt345.1 bt345.2.1 bt345.2.2.1 bt345.2.2.2))))) else (some false)))) else (some false)))) else (some false))))))))))))) = some r := h
 clear h
 replace H := Option.bind_eq_some_iff.mp H
 obtain ⟨t305, A40, H⟩ := H
 replace H : (if t305 < 0 then (some true) else ((laws_szState.f a1_0 l1_1 l1_2 l1_3 t305).bind fun t306 => (if t306 < 0 then (some true) else ((laws_toOpS.f k l0).bind fun t307 => ((laws_toState.f k a1_0 l1_1 l1_2 l1_3).bind fun bt310 => ((spec_StepState.f k t307 bt310.1 bt310.2.1 bt310.2.2.1 bt310.2.2.2 a2).bind fun bt320 => ((laws_toOpS.f k l0).bind fun t331 => ((laws_toState.f k a1_0 l1_1 l1_2 l1_3).bind fun bt334 => ((impl_StepState.f k t331 bt334.1 bt334.2.1 bt334.2.2.1 bt334.2.2.2 a2).bind fun bt345 => ((laws_eqState.f k bt345.1 bt345.2.1 bt345.2.2.1 bt345.2.2.2 bt320.1 bt320.2.1 bt320.2.2.1 bt320.2.2.2).bind fun t356 => (if t356 = true then ((laws_toOpS.f k l0).bind fun t357 => ((laws_eqOpS.f k t331 t357).bind fun t360 => (if t360 = true then ((laws_toState.f k a1_0 l1_1 l1_2 l1_3).bind fun bt361 => ((laws_eqState.f k bt334.1 bt334.2.1 bt334.2.2.1 bt334.2.2.2 bt361.1 bt361.2.1 bt361.2.2.1 bt361.2.2.2).bind fun t371 => (if t371 = true then ((laws_markOpS.f k t331 1).bind fun bt372 => ((laws_markState.f k bt334.1 bt334.2.1 bt334.2.2.1 bt334.2.2.2 bt372.1).bind fun bt374 => (if bt374.1 < 0 then (laws_FnExactStepState.j0 k l0 a2 true a1_0 l1_1 l1_2 l1_3 bt320.1 bt320.2.1 bt320.2.2.1 bt320.2.2.2 bt345.1 bt345.2.1 bt345.2.2.1 bt345.2.2.2) else ((laws_eqState.f k bt345.1 bt345.2.1 bt345.2.2.1 bt345.2.2.2 bt320.1 bt320.2.1 bt320.2.2.1 bt320.2.2.2).bind fun t378 => (laws_FnExactStepState.j0 k l0 a2 (!t378) a1_0 l1_1 l1_2 l1_3 bt320.1 bt320.2.1 bt320.2.2.1 bt320.2.2.2 bt345.1 bt345.2.1 bt345.2.2.1 bt345.2.2.2))))) else (some false)))) else (some false)))) else (some false)))))))))))) = some r := H
 have A4 := Aside0.mk A40
 clear A40
 by_cases c5 : t305 < 0
 ·rw [if_pos c5] at H
  have c5b0 : decide (t305 < 0) = true := decide_eq_true c5
  clear c5
  obtain rfl := Option.some.inj H
  go_enter Try.func6, Try.ntmps6
  go_wp2_with (first | ((with_reducible refine gate_dst (N := 4) rfl ?_); refine bx_ (N := 4) #[.int .i64 a1_0, .slice A1_1 l1_1.length c1_1, .slice A1_2 l1_2.length c1_2, .slice A1_3 l1_3.length c1_3] 72 ?_; intro gb304 hg w6 hbox hb; have BK304 := ak hbox; have GW304 := gy hg HB; have GE304 := gy hg HB; replace HB := bs HB hb; clear hb hbox hg) | ((with_reducible refine gate_callee (f := 37) rfl ?_); refine goesL_ (some 18) rfl rfl Try.func37 KR rfl #[.slice A0 l0.length c0, .int .i64 1048576] rfl AR ?_; (with_reducible refine (laws_szOpS.calls _ _ l0 1048576 t305 _ ?side1 ?side2 A4.out).mono ?_); (case side1 => exact CR (Kd.C_below HR0.out HB.out)); (case side2 => exact HC0.out); rintro e w' ⟨rfl, ⟨nd, rfl⟩⟩; refine ⟨_, rfl, ?_⟩))
  go_ret
  exact ⟨RT, PB⟩
 ·rw [if_neg c5] at H
  have c5b0 : decide (t305 < 0) = false := decide_eq_false c5
  clear c5
  replace H := Option.bind_eq_some_iff.mp H
  obtain ⟨t306, A70, H⟩ := H
  replace H : (if t306 < 0 then (some true) else ((laws_toOpS.f k l0).bind fun t307 => ((laws_toState.f k a1_0 l1_1 l1_2 l1_3).bind fun bt310 => ((spec_StepState.f k t307 bt310.1 bt310.2.1 bt310.2.2.1 bt310.2.2.2 a2).bind fun bt320 => ((laws_toOpS.f k l0).bind fun t331 => ((laws_toState.f k a1_0 l1_1 l1_2 l1_3).bind fun bt334 => ((impl_StepState.f k t331 bt334.1 bt334.2.1 bt334.2.2.1 bt334.2.2.2 a2).bind fun bt345 => ((laws_eqState.f k bt345.1 bt345.2.1 bt345.2.2.1 bt345.2.2.2 bt320.1 bt320.2.1 bt320.2.2.1 bt320.2.2.2).bind fun t356 => (if t356 = true then ((laws_toOpS.f k l0).bind fun t357 => ((laws_eqOpS.f k t331 t357).bind fun t360 => (if t360 = true then ((laws_toState.f k a1_0 l1_1 l1_2 l1_3).bind fun bt361 => ((laws_eqState.f k bt334.1 bt334.2.1 bt334.2.2.1 bt334.2.2.2 bt361.1 bt361.2.1 bt361.2.2.1 bt361.2.2.2).bind fun t371 => (if t371 = true then ((laws_markOpS.f k t331 1).bind fun bt372 => ((laws_markState.f k bt334.1 bt334.2.1 bt334.2.2.1 bt334.2.2.2 bt372.1).bind fun bt374 => (if bt374.1 < 0 then (laws_FnExactStepState.j0 k l0 a2 true a1_0 l1_1 l1_2 l1_3 bt320.1 bt320.2.1 bt320.2.2.1 bt320.2.2.2 bt345.1 bt345.2.1 bt345.2.2.1 bt345.2.2.2) else ((laws_eqState.f k bt345.1 bt345.2.1 bt345.2.2.1 bt345.2.2.2 bt320.1 bt320.2.1 bt320.2.2.1 bt320.2.2.2).bind fun t378 => (laws_FnExactStepState.j0 k l0 a2 (!t378) a1_0 l1_1 l1_2 l1_3 bt320.1 bt320.2.1 bt320.2.2.1 bt320.2.2.2 bt345.1 bt345.2.1 bt345.2.2.1 bt345.2.2.2))))) else (some false)))) else (some false)))) else (some false)))))))))) = some r := H
  have A7 := Aside0.mk A70
  clear A70
  by_cases c8 : t306 < 0
  ·rw [if_pos c8] at H
   have c8b0 : decide (t306 < 0) = true := decide_eq_true c8
   clear c8
   obtain rfl := Option.some.inj H
   go_enter Try.func6, Try.ntmps6
   go_wp2_with (first | ((with_reducible refine gate_dst (N := 4) rfl ?_); refine bx_ (N := 4) #[.int .i64 a1_0, .slice A1_1 l1_1.length c1_1, .slice A1_2 l1_2.length c1_2, .slice A1_3 l1_3.length c1_3] 72 ?_; intro gb304 hg w9 hbox hb; have BK304 := ak hbox; have GW304 := gy hg HB; have GE304 := gy hg HB; replace HB := bs HB hb; clear hb hbox hg) | ((with_reducible refine gate_callee (f := 37) rfl ?_); refine goesL_ (some 18) rfl rfl Try.func37 KR rfl #[.slice A0 l0.length c0, .int .i64 1048576] rfl AR ?_; (with_reducible refine (laws_szOpS.calls _ _ l0 1048576 t305 _ ?side1 ?side2 A4.out).mono ?_); (case side1 => exact CR (Kd.C_below HR0.out HB.out)); (case side2 => exact HC0.out); rintro e w' ⟨rfl, ⟨nd, rfl⟩⟩; refine ⟨_, rfl, ?_⟩; obtain ⟨_, _, _, _, _, _, _, _⟩ := bc4 BK304) | ((with_reducible refine gate_callee (f := 38) rfl ?_); refine goesL_ (some 23) rfl rfl Try.func38 KR rfl #[.agg #[.int .i64 a1_0, .slice A1_1 l1_1.length c1_1, .slice A1_2 l1_2.length c1_2, .slice A1_3 l1_3.length c1_3], .int .i64 t305] rfl AR ?_; (with_reducible refine (laws_szState.calls a1_0 _ _ l1_1 _ _ l1_2 _ _ l1_3 t305 t306 _ ?side1 ?side2 ?side3 ?side4 ?side5 ?side6 A7.out).mono ?_); (case side1 => repeat (first | exact (Kd.C_below HR1_1.out PB) | (with_reducible refine Kd.C_alloc ?_ _) | (with_reducible refine Kd.C_drewN ?_ _) | (with_reducible refine Kd.C_drew ?_))); (case side2 => exact HC1_1.out); (case side3 => repeat (first | exact (Kd.C_below HR1_2.out PB) | (with_reducible refine Kd.C_alloc ?_ _) | (with_reducible refine Kd.C_drewN ?_ _) | (with_reducible refine Kd.C_drew ?_))); (case side4 => exact HC1_2.out); (case side5 => repeat (first | exact (Kd.C_below HR1_3.out PB) | (with_reducible refine Kd.C_alloc ?_ _) | (with_reducible refine Kd.C_drewN ?_ _) | (with_reducible refine Kd.C_drew ?_))); (case side6 => exact HC1_3.out); rintro e w11 ⟨rfl, hb⟩; refine ⟨_, rfl, ?_⟩; replace BK304 := kf BK304 hb; replace HB := bs HB hb; (try clear hb); (try clear hb2); (try clear hk); (try clear hi)))
   go_ret
   exact ⟨RT, PB⟩
  ·rw [if_neg c8] at H
   have c8b0 : decide (t306 < 0) = false := decide_eq_false c8
   clear c8
   replace H := Option.bind_eq_some_iff.mp H
   obtain ⟨t307, A120, H⟩ := H
   replace H : ((laws_toState.f k a1_0 l1_1 l1_2 l1_3).bind fun bt310 => ((spec_StepState.f k t307 bt310.1 bt310.2.1 bt310.2.2.1 bt310.2.2.2 a2).bind fun bt320 => ((laws_toOpS.f k l0).bind fun t331 => ((laws_toState.f k a1_0 l1_1 l1_2 l1_3).bind fun bt334 => ((impl_StepState.f k t331 bt334.1 bt334.2.1 bt334.2.2.1 bt334.2.2.2 a2).bind fun bt345 => ((laws_eqState.f k bt345.1 bt345.2.1 bt345.2.2.1 bt345.2.2.2 bt320.1 bt320.2.1 bt320.2.2.1 bt320.2.2.2).bind fun t356 => (if t356 = true then ((laws_toOpS.f k l0).bind fun t357 => ((laws_eqOpS.f k t331 t357).bind fun t360 => (if t360 = true then ((laws_toState.f k a1_0 l1_1 l1_2 l1_3).bind fun bt361 => ((laws_eqState.f k bt334.1 bt334.2.1 bt334.2.2.1 bt334.2.2.2 bt361.1 bt361.2.1 bt361.2.2.1 bt361.2.2.2).bind fun t371 => (if t371 = true then ((laws_markOpS.f k t331 1).bind fun bt372 => ((laws_markState.f k bt334.1 bt334.2.1 bt334.2.2.1 bt334.2.2.2 bt372.1).bind fun bt374 => (if bt374.1 < 0 then (laws_FnExactStepState.j0 k l0 a2 true a1_0 l1_1 l1_2 l1_3 bt320.1 bt320.2.1 bt320.2.2.1 bt320.2.2.2 bt345.1 bt345.2.1 bt345.2.2.1 bt345.2.2.2) else ((laws_eqState.f k bt345.1 bt345.2.1 bt345.2.2.1 bt345.2.2.2 bt320.1 bt320.2.1 bt320.2.2.1 bt320.2.2.2).bind fun t378 => (laws_FnExactStepState.j0 k l0 a2 (!t378) a1_0 l1_1 l1_2 l1_3 bt320.1 bt320.2.1 bt320.2.2.1 bt320.2.2.2 bt345.1 bt345.2.1 bt345.2.2.1 bt345.2.2.2))))) else (some false)))) else (some false)))) else (some false)))))))) = some r := H
   have A12 := Aside0.mk A120
   clear A120
   replace H := Option.bind_eq_some_iff.mp H
   obtain ⟨⟨t310, t311, t314, t317⟩, A130, H⟩ := H
   replace H : ((spec_StepState.f k t307 t310 t311 t314 t317 a2).bind fun bt320 => ((laws_toOpS.f k l0).bind fun t331 => ((laws_toState.f k a1_0 l1_1 l1_2 l1_3).bind fun bt334 => ((impl_StepState.f k t331 bt334.1 bt334.2.1 bt334.2.2.1 bt334.2.2.2 a2).bind fun bt345 => ((laws_eqState.f k bt345.1 bt345.2.1 bt345.2.2.1 bt345.2.2.2 bt320.1 bt320.2.1 bt320.2.2.1 bt320.2.2.2).bind fun t356 => (if t356 = true then ((laws_toOpS.f k l0).bind fun t357 => ((laws_eqOpS.f k t331 t357).bind fun t360 => (if t360 = true then ((laws_toState.f k a1_0 l1_1 l1_2 l1_3).bind fun bt361 => ((laws_eqState.f k bt334.1 bt334.2.1 bt334.2.2.1 bt334.2.2.2 bt361.1 bt361.2.1 bt361.2.2.1 bt361.2.2.2).bind fun t371 => (if t371 = true then ((laws_markOpS.f k t331 1).bind fun bt372 => ((laws_markState.f k bt334.1 bt334.2.1 bt334.2.2.1 bt334.2.2.2 bt372.1).bind fun bt374 => (if bt374.1 < 0 then (laws_FnExactStepState.j0 k l0 a2 true a1_0 l1_1 l1_2 l1_3 bt320.1 bt320.2.1 bt320.2.2.1 bt320.2.2.2 bt345.1 bt345.2.1 bt345.2.2.1 bt345.2.2.2) else ((laws_eqState.f k bt345.1 bt345.2.1 bt345.2.2.1 bt345.2.2.2 bt320.1 bt320.2.1 bt320.2.2.1 bt320.2.2.2).bind fun t378 => (laws_FnExactStepState.j0 k l0 a2 (!t378) a1_0 l1_1 l1_2 l1_3 bt320.1 bt320.2.1 bt320.2.2.1 bt320.2.2.2 bt345.1 bt345.2.1 bt345.2.2.1 bt345.2.2.2))))) else (some false)))) else (some false)))) else (some false))))))) = some r := H
   have A13 := Aside0.mk A130
   clear A130
   replace H := Option.bind_eq_some_iff.mp H
   obtain ⟨⟨t320, t321, t324, t327⟩, A140, H⟩ := H
   replace H : ((laws_toOpS.f k l0).bind fun t331 => ((laws_toState.f k a1_0 l1_1 l1_2 l1_3).bind fun bt334 => ((impl_StepState.f k t331 bt334.1 bt334.2.1 bt334.2.2.1 bt334.2.2.2 a2).bind fun bt345 => ((laws_eqState.f k bt345.1 bt345.2.1 bt345.2.2.1 bt345.2.2.2 t320 t321 t324 t327).bind fun t356 => (if t356 = true then ((laws_toOpS.f k l0).bind fun t357 => ((laws_eqOpS.f k t331 t357).bind fun t360 => (if t360 = true then ((laws_toState.f k a1_0 l1_1 l1_2 l1_3).bind fun bt361 => ((laws_eqState.f k bt334.1 bt334.2.1 bt334.2.2.1 bt334.2.2.2 bt361.1 bt361.2.1 bt361.2.2.1 bt361.2.2.2).bind fun t371 => (if t371 = true then ((laws_markOpS.f k t331 1).bind fun bt372 => ((laws_markState.f k bt334.1 bt334.2.1 bt334.2.2.1 bt334.2.2.2 bt372.1).bind fun bt374 => (if bt374.1 < 0 then (laws_FnExactStepState.j0 k l0 a2 true a1_0 l1_1 l1_2 l1_3 t320 t321 t324 t327 bt345.1 bt345.2.1 bt345.2.2.1 bt345.2.2.2) else ((laws_eqState.f k bt345.1 bt345.2.1 bt345.2.2.1 bt345.2.2.2 t320 t321 t324 t327).bind fun t378 => (laws_FnExactStepState.j0 k l0 a2 (!t378) a1_0 l1_1 l1_2 l1_3 t320 t321 t324 t327 bt345.1 bt345.2.1 bt345.2.2.1 bt345.2.2.2))))) else (some false)))) else (some false)))) else (some false)))))) = some r := H
   have A14 := Aside0.mk A140
   clear A140
   replace H := Option.bind_eq_some_iff.mp H
   obtain ⟨t331, A150, H⟩ := H
   replace H : ((laws_toState.f k a1_0 l1_1 l1_2 l1_3).bind fun bt334 => ((impl_StepState.f k t331 bt334.1 bt334.2.1 bt334.2.2.1 bt334.2.2.2 a2).bind fun bt345 => ((laws_eqState.f k bt345.1 bt345.2.1 bt345.2.2.1 bt345.2.2.2 t320 t321 t324 t327).bind fun t356 => (if t356 = true then ((laws_toOpS.f k l0).bind fun t357 => ((laws_eqOpS.f k t331 t357).bind fun t360 => (if t360 = true then ((laws_toState.f k a1_0 l1_1 l1_2 l1_3).bind fun bt361 => ((laws_eqState.f k bt334.1 bt334.2.1 bt334.2.2.1 bt334.2.2.2 bt361.1 bt361.2.1 bt361.2.2.1 bt361.2.2.2).bind fun t371 => (if t371 = true then ((laws_markOpS.f k t331 1).bind fun bt372 => ((laws_markState.f k bt334.1 bt334.2.1 bt334.2.2.1 bt334.2.2.2 bt372.1).bind fun bt374 => (if bt374.1 < 0 then (laws_FnExactStepState.j0 k l0 a2 true a1_0 l1_1 l1_2 l1_3 t320 t321 t324 t327 bt345.1 bt345.2.1 bt345.2.2.1 bt345.2.2.2) else ((laws_eqState.f k bt345.1 bt345.2.1 bt345.2.2.1 bt345.2.2.2 t320 t321 t324 t327).bind fun t378 => (laws_FnExactStepState.j0 k l0 a2 (!t378) a1_0 l1_1 l1_2 l1_3 t320 t321 t324 t327 bt345.1 bt345.2.1 bt345.2.2.1 bt345.2.2.2))))) else (some false)))) else (some false)))) else (some false))))) = some r := H
   have A15 := Aside0.mk A150
   clear A150
   replace H := Option.bind_eq_some_iff.mp H
   obtain ⟨⟨t334, t335, t338, t341⟩, A160, H⟩ := H
   replace H : ((impl_StepState.f k t331 t334 t335 t338 t341 a2).bind fun bt345 => ((laws_eqState.f k bt345.1 bt345.2.1 bt345.2.2.1 bt345.2.2.2 t320 t321 t324 t327).bind fun t356 => (if t356 = true then ((laws_toOpS.f k l0).bind fun t357 => ((laws_eqOpS.f k t331 t357).bind fun t360 => (if t360 = true then ((laws_toState.f k a1_0 l1_1 l1_2 l1_3).bind fun bt361 => ((laws_eqState.f k t334 t335 t338 t341 bt361.1 bt361.2.1 bt361.2.2.1 bt361.2.2.2).bind fun t371 => (if t371 = true then ((laws_markOpS.f k t331 1).bind fun bt372 => ((laws_markState.f k t334 t335 t338 t341 bt372.1).bind fun bt374 => (if bt374.1 < 0 then (laws_FnExactStepState.j0 k l0 a2 true a1_0 l1_1 l1_2 l1_3 t320 t321 t324 t327 bt345.1 bt345.2.1 bt345.2.2.1 bt345.2.2.2) else ((laws_eqState.f k bt345.1 bt345.2.1 bt345.2.2.1 bt345.2.2.2 t320 t321 t324 t327).bind fun t378 => (laws_FnExactStepState.j0 k l0 a2 (!t378) a1_0 l1_1 l1_2 l1_3 t320 t321 t324 t327 bt345.1 bt345.2.1 bt345.2.2.1 bt345.2.2.2))))) else (some false)))) else (some false)))) else (some false)))) = some r := H
   have A16 := Aside0.mk A160
   clear A160
   replace H := Option.bind_eq_some_iff.mp H
   obtain ⟨⟨t345, t346, t349, t352⟩, A170, H⟩ := H
   replace H : ((laws_eqState.f k t345 t346 t349 t352 t320 t321 t324 t327).bind fun t356 => (if t356 = true then ((laws_toOpS.f k l0).bind fun t357 => ((laws_eqOpS.f k t331 t357).bind fun t360 => (if t360 = true then ((laws_toState.f k a1_0 l1_1 l1_2 l1_3).bind fun bt361 => ((laws_eqState.f k t334 t335 t338 t341 bt361.1 bt361.2.1 bt361.2.2.1 bt361.2.2.2).bind fun t371 => (if t371 = true then ((laws_markOpS.f k t331 1).bind fun bt372 => ((laws_markState.f k t334 t335 t338 t341 bt372.1).bind fun bt374 => (if bt374.1 < 0 then (laws_FnExactStepState.j0 k l0 a2 true a1_0 l1_1 l1_2 l1_3 t320 t321 t324 t327 t345 t346 t349 t352) else ((laws_eqState.f k t345 t346 t349 t352 t320 t321 t324 t327).bind fun t378 => (laws_FnExactStepState.j0 k l0 a2 (!t378) a1_0 l1_1 l1_2 l1_3 t320 t321 t324 t327 t345 t346 t349 t352))))) else (some false)))) else (some false)))) else (some false))) = some r := H
   have A17 := Aside0.mk A170
   clear A170
   replace H := Option.bind_eq_some_iff.mp H
   obtain ⟨t356, A180, H⟩ := H
   replace H : (if t356 = true then ((laws_toOpS.f k l0).bind fun t357 => ((laws_eqOpS.f k t331 t357).bind fun t360 => (if t360 = true then ((laws_toState.f k a1_0 l1_1 l1_2 l1_3).bind fun bt361 => ((laws_eqState.f k t334 t335 t338 t341 bt361.1 bt361.2.1 bt361.2.2.1 bt361.2.2.2).bind fun t371 => (if t371 = true then ((laws_markOpS.f k t331 1).bind fun bt372 => ((laws_markState.f k t334 t335 t338 t341 bt372.1).bind fun bt374 => (if bt374.1 < 0 then (laws_FnExactStepState.j0 k l0 a2 true a1_0 l1_1 l1_2 l1_3 t320 t321 t324 t327 t345 t346 t349 t352) else ((laws_eqState.f k t345 t346 t349 t352 t320 t321 t324 t327).bind fun t378 => (laws_FnExactStepState.j0 k l0 a2 (!t378) a1_0 l1_1 l1_2 l1_3 t320 t321 t324 t327 t345 t346 t349 t352))))) else (some false)))) else (some false)))) else (some false)) = some r := H
   have A18 := Aside0.mk A180
   clear A180
   by_cases c19 : t356 = true
   ·subst c19
    have H1 : ((laws_toOpS.f k l0).bind fun t357 => ((laws_eqOpS.f k t331 t357).bind fun t360 => (if t360 = true then ((laws_toState.f k a1_0 l1_1 l1_2 l1_3).bind fun bt361 => ((laws_eqState.f k t334 t335 t338 t341 bt361.1 bt361.2.1 bt361.2.2.1 bt361.2.2.2).bind fun t371 => (if t371 = true then ((laws_markOpS.f k t331 1).bind fun bt372 => ((laws_markState.f k t334 t335 t338 t341 bt372.1).bind fun bt374 => (if bt374.1 < 0 then (laws_FnExactStepState.j0 k l0 a2 true a1_0 l1_1 l1_2 l1_3 t320 t321 t324 t327 t345 t346 t349 t352) else ((laws_eqState.f k t345 t346 t349 t352 t320 t321 t324 t327).bind fun t378 => (laws_FnExactStepState.j0 k l0 a2 (!t378) a1_0 l1_1 l1_2 l1_3 t320 t321 t324 t327 t345 t346 t349 t352))))) else (some false)))) else (some false)))) = some r := by rw [if_pos rfl] at H; exact H
    clear H
    have H := H1
    clear H1
    replace H := Option.bind_eq_some_iff.mp H
    obtain ⟨t357, A200, H⟩ := H
    replace H : ((laws_eqOpS.f k t331 t357).bind fun t360 => (if t360 = true then ((laws_toState.f k a1_0 l1_1 l1_2 l1_3).bind fun bt361 => ((laws_eqState.f k t334 t335 t338 t341 bt361.1 bt361.2.1 bt361.2.2.1 bt361.2.2.2).bind fun t371 => (if t371 = true then ((laws_markOpS.f k t331 1).bind fun bt372 => ((laws_markState.f k t334 t335 t338 t341 bt372.1).bind fun bt374 => (if bt374.1 < 0 then (laws_FnExactStepState.j0 k l0 a2 true a1_0 l1_1 l1_2 l1_3 t320 t321 t324 t327 t345 t346 t349 t352) else ((laws_eqState.f k t345 t346 t349 t352 t320 t321 t324 t327).bind fun t378 => (laws_FnExactStepState.j0 k l0 a2 (!t378) a1_0 l1_1 l1_2 l1_3 t320 t321 t324 t327 t345 t346 t349 t352))))) else (some false)))) else (some false))) = some r := H
    have A20 := Aside0.mk A200
    clear A200
    replace H := Option.bind_eq_some_iff.mp H
    obtain ⟨t360, A210, H⟩ := H
    replace H : (if t360 = true then ((laws_toState.f k a1_0 l1_1 l1_2 l1_3).bind fun bt361 => ((laws_eqState.f k t334 t335 t338 t341 bt361.1 bt361.2.1 bt361.2.2.1 bt361.2.2.2).bind fun t371 => (if t371 = true then ((laws_markOpS.f k t331 1).bind fun bt372 => ((laws_markState.f k t334 t335 t338 t341 bt372.1).bind fun bt374 => (if bt374.1 < 0 then (laws_FnExactStepState.j0 k l0 a2 true a1_0 l1_1 l1_2 l1_3 t320 t321 t324 t327 t345 t346 t349 t352) else ((laws_eqState.f k t345 t346 t349 t352 t320 t321 t324 t327).bind fun t378 => (laws_FnExactStepState.j0 k l0 a2 (!t378) a1_0 l1_1 l1_2 l1_3 t320 t321 t324 t327 t345 t346 t349 t352))))) else (some false)))) else (some false)) = some r := H
    have A21 := Aside0.mk A210
    clear A210
    by_cases c22 : t360 = true
    ·subst c22
     have H1 : ((laws_toState.f k a1_0 l1_1 l1_2 l1_3).bind fun bt361 => ((laws_eqState.f k t334 t335 t338 t341 bt361.1 bt361.2.1 bt361.2.2.1 bt361.2.2.2).bind fun t371 => (if t371 = true then ((laws_markOpS.f k t331 1).bind fun bt372 => ((laws_markState.f k t334 t335 t338 t341 bt372.1).bind fun bt374 => (if bt374.1 < 0 then (laws_FnExactStepState.j0 k l0 a2 true a1_0 l1_1 l1_2 l1_3 t320 t321 t324 t327 t345 t346 t349 t352) else ((laws_eqState.f k t345 t346 t349 t352 t320 t321 t324 t327).bind fun t378 => (laws_FnExactStepState.j0 k l0 a2 (!t378) a1_0 l1_1 l1_2 l1_3 t320 t321 t324 t327 t345 t346 t349 t352))))) else (some false)))) = some r := by rw [if_pos rfl] at H; exact H
     clear H
     have H := H1
     clear H1
     replace H := Option.bind_eq_some_iff.mp H
     obtain ⟨⟨t361, t362, t365, t368⟩, A230, H⟩ := H
     replace H : ((laws_eqState.f k t334 t335 t338 t341 t361 t362 t365 t368).bind fun t371 => (if t371 = true then ((laws_markOpS.f k t331 1).bind fun bt372 => ((laws_markState.f k t334 t335 t338 t341 bt372.1).bind fun bt374 => (if bt374.1 < 0 then (laws_FnExactStepState.j0 k l0 a2 true a1_0 l1_1 l1_2 l1_3 t320 t321 t324 t327 t345 t346 t349 t352) else ((laws_eqState.f k t345 t346 t349 t352 t320 t321 t324 t327).bind fun t378 => (laws_FnExactStepState.j0 k l0 a2 (!t378) a1_0 l1_1 l1_2 l1_3 t320 t321 t324 t327 t345 t346 t349 t352))))) else (some false))) = some r := H
     have A23 := Aside0.mk A230
     clear A230
     replace H := Option.bind_eq_some_iff.mp H
     obtain ⟨t371, A240, H⟩ := H
     replace H : (if t371 = true then ((laws_markOpS.f k t331 1).bind fun bt372 => ((laws_markState.f k t334 t335 t338 t341 bt372.1).bind fun bt374 => (if bt374.1 < 0 then (laws_FnExactStepState.j0 k l0 a2 true a1_0 l1_1 l1_2 l1_3 t320 t321 t324 t327 t345 t346 t349 t352) else ((laws_eqState.f k t345 t346 t349 t352 t320 t321 t324 t327).bind fun t378 => (laws_FnExactStepState.j0 k l0 a2 (!t378) a1_0 l1_1 l1_2 l1_3 t320 t321 t324 t327 t345 t346 t349 t352))))) else (some false)) = some r := H
     have A24 := Aside0.mk A240
     clear A240
     by_cases c25 : t371 = true
     ·subst c25
      have H1 : ((laws_markOpS.f k t331 1).bind fun bt372 => ((laws_markState.f k t334 t335 t338 t341 bt372.1).bind fun bt374 => (if bt374.1 < 0 then (laws_FnExactStepState.j0 k l0 a2 true a1_0 l1_1 l1_2 l1_3 t320 t321 t324 t327 t345 t346 t349 t352) else ((laws_eqState.f k t345 t346 t349 t352 t320 t321 t324 t327).bind fun t378 => (laws_FnExactStepState.j0 k l0 a2 (!t378) a1_0 l1_1 l1_2 l1_3 t320 t321 t324 t327 t345 t346 t349 t352))))) = some r := by rw [if_pos rfl] at H; exact H
      clear H
      have H := H1
      clear H1
      replace H := Option.bind_eq_some_iff.mp H
      obtain ⟨⟨t372, t373⟩, A260, H⟩ := H
      replace H : ((laws_markState.f k t334 t335 t338 t341 t372).bind fun bt374 => (if bt374.1 < 0 then (laws_FnExactStepState.j0 k l0 a2 true a1_0 l1_1 l1_2 l1_3 t320 t321 t324 t327 t345 t346 t349 t352) else ((laws_eqState.f k t345 t346 t349 t352 t320 t321 t324 t327).bind fun t378 => (laws_FnExactStepState.j0 k l0 a2 (!t378) a1_0 l1_1 l1_2 l1_3 t320 t321 t324 t327 t345 t346 t349 t352)))) = some r := H
      have A26 := Aside0.mk A260
      clear A260
      replace H := Option.bind_eq_some_iff.mp H
      obtain ⟨⟨t374, t375, t376, t377⟩, A270, H⟩ := H
      replace H : (if t374 < 0 then (laws_FnExactStepState.j0 k l0 a2 true a1_0 l1_1 l1_2 l1_3 t320 t321 t324 t327 t345 t346 t349 t352) else ((laws_eqState.f k t345 t346 t349 t352 t320 t321 t324 t327).bind fun t378 => (laws_FnExactStepState.j0 k l0 a2 (!t378) a1_0 l1_1 l1_2 l1_3 t320 t321 t324 t327 t345 t346 t349 t352))) = some r := H
      have A27 := Aside0.mk A270
      clear A270
      have HC28 := Aside0.mk H
      clear H
      go_enter Try.func6, Try.ntmps6
      try go_wp2_with (first | ((with_reducible refine gate_dst (N := 4) rfl ?_); refine bx_ (N := 4) #[.int .i64 a1_0, .slice A1_1 l1_1.length c1_1, .slice A1_2 l1_2.length c1_2, .slice A1_3 l1_3.length c1_3] 72 ?_; intro gb304 hg w29 hbox hb; have BK304 := ak hbox; have GW304 := gy hg HB; have GE304 := gy hg HB; replace HB := bs HB hb; clear hb hbox hg) | ((with_reducible refine gate_callee (f := 37) rfl ?_); refine goesL_ (some 18) rfl rfl Try.func37 KR rfl #[.slice A0 l0.length c0, .int .i64 1048576] rfl AR ?_; (with_reducible refine (laws_szOpS.calls _ _ l0 1048576 t305 _ ?side1 ?side2 A4.out).mono ?_); (case side1 => exact CR (Kd.C_below HR0.out HB.out)); (case side2 => exact HC0.out); rintro e w' ⟨rfl, ⟨nd, rfl⟩⟩; refine ⟨_, rfl, ?_⟩; (try (rw [drewN_self w29]; generalize hq_ : World.drewN w29 _ = w29; replace BK304 : Aside0 (w29.heap[gb304]? = some (.cells #[.int .i64 a1_0, .slice A1_1 l1_1.length c1_1, .slice A1_2 l1_2.length c1_2, .slice A1_3 l1_3.length c1_3] 72 (0, 0))) := ⟨by rw [← hq_]; exact (PK BK304)⟩; replace HB : Aside0 (Below w.heap.size w w29) := ⟨by rw [← hq_]; exact PB⟩; clear hq_)); obtain ⟨_, _, _, _, _, _, _, _⟩ := bc4 BK304) | ((with_reducible refine gate_callee (f := 38) rfl ?_); refine goesL_ (some 23) rfl rfl Try.func38 KR rfl #[.agg #[.int .i64 a1_0, .slice A1_1 l1_1.length c1_1, .slice A1_2 l1_2.length c1_2, .slice A1_3 l1_3.length c1_3], .int .i64 t305] rfl AR ?_; (with_reducible refine (laws_szState.calls a1_0 _ _ l1_1 _ _ l1_2 _ _ l1_3 t305 t306 _ ?side1 ?side2 ?side3 ?side4 ?side5 ?side6 A7.out).mono ?_); (case side1 => exact CR (Kd.C_below HR1_1.out HB.out)); (case side2 => exact HC1_1.out); (case side3 => exact CR (Kd.C_below HR1_2.out HB.out)); (case side4 => exact HC1_2.out); (case side5 => exact CR (Kd.C_below HR1_3.out HB.out)); (case side6 => exact HC1_3.out); rintro e w31 ⟨rfl, hb⟩; refine ⟨_, rfl, ?_⟩; replace BK304 := kf BK304 hb; replace HB := bs HB hb; (try clear hb); (try clear hb2); (try clear hk); (try clear hi)))
      replace BK304 := ak (blk_drew BK304.out)
      replace HB := ak (below_drew1 HB.out)
      refine start_ (n := 8) (S := fun w' => w'.cell? ⟨gb304, 0, none⟩ = some (.int .i64 a1_0) ∧ w'.cell? ⟨gb304, 1, none⟩ = some (.slice A1_1 l1_1.length c1_1) ∧ w'.cell? ⟨gb304, 2, none⟩ = some (.slice A1_2 l1_2.length c1_2) ∧ w'.cell? ⟨gb304, 3, none⟩ = some (.slice A1_3 l1_3.length c1_3)) (ds := []) b11_11 KR rfl rfl ⟨(blk_cell BK304.out 0).trans rfl, (blk_cell BK304.out 1).trans rfl, (blk_cell BK304.out 2).trans rfl, (blk_cell BK304.out 3).trans rfl⟩ (fun hHeld => ?_); refine with_tabW laws_FnExactStepState.tab8 laws_FnExactStepState.bits8 (fun HT_ HW_ => ?_)
      generalize w31.drew = w32 at BK304 HB hHeld ⊢
      refine pu_ (i := 0) (N := some 26) b11_10 HT_ ?_
      refine pu_ (i := 4) (N := some 30) b11_9 HT_ ?_
      refine tk_ (i := 2) (N := some 28) b11_8 rfl rfl HT_ HW_ hHeld ?_
      refine join_ (σ := Value × Value × Value × Value × Value × Value × Value × Nat) 1 b11_1 (fun s_ => [(27, s_.1), (29, .agg #[.int .i64 t310, s_.2.1, s_.2.2.1, s_.2.2.2.1]), (31, .agg #[.int .i64 t320, s_.2.2.2.2.1, s_.2.2.2.2.2.1, s_.2.2.2.2.2.2.1]), (8, .pointer (some ⟨s_.2.2.2.2.2.2.2, 0, none⟩))]) (fun s_ w' => (w'.cell? ⟨gb304, 0, none⟩ = some (.int .i64 a1_0) ∧ w'.cell? ⟨gb304, 1, none⟩ = some (.slice A1_1 l1_1.length c1_1) ∧ w'.cell? ⟨gb304, 2, none⟩ = some (.slice A1_2 l1_2.length c1_2) ∧ w'.cell? ⟨gb304, 3, none⟩ = some (.slice A1_3 l1_3.length c1_3)) ∧ (Kd.R k121 121 w' w.heap.size (fun _ => True) s_.1 t307) ∧ (Kd.R (Kd.int .i64) 3 w' w.heap.size (fun k_ => some k_ ≠ (s_.2.2.1 : Value).ownBlock ∧ some k_ ≠ (s_.2.2.2.1 : Value).ownBlock ∧ some k_ ≠ (s_.2.2.2.2.1 : Value).ownBlock ∧ some k_ ≠ (s_.2.2.2.2.2.1 : Value).ownBlock ∧ some k_ ≠ (s_.2.2.2.2.2.2.1 : Value).ownBlock) s_.2.1 t311) ∧ (Kd.R (Kd.int .i64) 3 w' w.heap.size (fun k_ => some k_ ≠ (s_.2.1 : Value).ownBlock ∧ some k_ ≠ (s_.2.2.2.1 : Value).ownBlock ∧ some k_ ≠ (s_.2.2.2.2.1 : Value).ownBlock ∧ some k_ ≠ (s_.2.2.2.2.2.1 : Value).ownBlock ∧ some k_ ≠ (s_.2.2.2.2.2.2.1 : Value).ownBlock) s_.2.2.1 t314) ∧ (Kd.R (Kd.int .i64) 3 w' w.heap.size (fun k_ => some k_ ≠ (s_.2.1 : Value).ownBlock ∧ some k_ ≠ (s_.2.2.1 : Value).ownBlock ∧ some k_ ≠ (s_.2.2.2.2.1 : Value).ownBlock ∧ some k_ ≠ (s_.2.2.2.2.2.1 : Value).ownBlock ∧ some k_ ≠ (s_.2.2.2.2.2.2.1 : Value).ownBlock) s_.2.2.2.1 t317) ∧ (Kd.R (Kd.int .i64) 3 w' w.heap.size (fun k_ => some k_ ≠ (s_.2.1 : Value).ownBlock ∧ some k_ ≠ (s_.2.2.1 : Value).ownBlock ∧ some k_ ≠ (s_.2.2.2.1 : Value).ownBlock ∧ some k_ ≠ (s_.2.2.2.2.2.1 : Value).ownBlock ∧ some k_ ≠ (s_.2.2.2.2.2.2.1 : Value).ownBlock) s_.2.2.2.2.1 t321) ∧ (Kd.R (Kd.int .i64) 3 w' w.heap.size (fun k_ => some k_ ≠ (s_.2.1 : Value).ownBlock ∧ some k_ ≠ (s_.2.2.1 : Value).ownBlock ∧ some k_ ≠ (s_.2.2.2.1 : Value).ownBlock ∧ some k_ ≠ (s_.2.2.2.2.1 : Value).ownBlock ∧ some k_ ≠ (s_.2.2.2.2.2.2.1 : Value).ownBlock) s_.2.2.2.2.2.1 t324) ∧ (Kd.R (Kd.int .i64) 3 w' w.heap.size (fun k_ => some k_ ≠ (s_.2.1 : Value).ownBlock ∧ some k_ ≠ (s_.2.2.1 : Value).ownBlock ∧ some k_ ≠ (s_.2.2.2.1 : Value).ownBlock ∧ some k_ ≠ (s_.2.2.2.2.1 : Value).ownBlock ∧ some k_ ≠ (s_.2.2.2.2.2.1 : Value).ownBlock) s_.2.2.2.2.2.2.1 t327) ∧ (w'.heap[gb304]? = some (.cells #[.int .i64 a1_0, .slice A1_1 l1_1.length c1_1, .slice A1_2 l1_2.length c1_2, .slice A1_3 l1_3.length c1_3] 72 (0, 0))) ∧ (w'.heap[s_.2.2.2.2.2.2.2]? = some (.cells #[.int .i64 0, .slice none 0 0, .slice none 0 0, .slice none 0 0] 45 (0, 0))) ∧ (w.heap.size ≤ s_.2.2.2.2.2.2.2) ∧ (w.heap.size ≤ s_.2.2.2.2.2.2.2) ∧ (gb304 ≠ s_.2.2.2.2.2.2.2) ∧ (s_.2.2.2.2.2.2.2 ≠ gb304) ∧ (Below w.heap.size w w')) ?_ ?_
      rotate_left
      ·intro hCont
       refine two_ (i := 1) (j := 6) (Ni := some 27) (Nj := some 8) b11_7 b11_6 rfl rfl rfl rfl (two_of HT_.out KR) (by decide) (by decide) (fun K hK => ?_) (fun K hK => ?_)
       ·skip
        refine goes_ Try.func40 KR rfl #[.slice A0 l0.length c0] (by rfl) rfl rfl AR ?_
        with_reducible refine (laws_toOpS.calls k _ _ l0 t307 _ ?side1 ?side2 A12.out).mono ?_
        (case side1 => exact CR (Kd.C_below HR0.out HB.out))
        (case side2 => exact HC0.out)
        rintro e w33 ⟨v308, rfl, ho0, hb⟩
        refine ⟨_, rfl, ?_⟩
        have HO309 := Rn0 ho0 HB
        replace BK304 := kf BK304 hb
        replace HB := bs HB hb
        (try clear hb)
        (try clear hb2)
        (try clear hk)
        (try clear hi)
        (try clear ho0)
        obtain ⟨Ao308_, co308_, eo308_⟩ := Kd.R_slice HO309.out
        subst eo308_
        refine hK.out _ _ ⟨(blk_cell BK304.out 0).trans rfl, (blk_cell BK304.out 1).trans rfl, (blk_cell BK304.out 2).trans rfl, (blk_cell BK304.out 3).trans rfl⟩ (fun hHeld => ?_)
        clear hK K
        refine norm_ (a' := ?_) ?_ ?_
        rotate_left
        ·show Act.put _ (some 27) _ = _
         simp only [Act.put, List.setIfInBounds_toArray, List.set_cons_zero, List.set_cons_succ, i64_w, i32_w]
         rfl
        refine two_ (i := 3) (j := 6) (Ni := some 29) (Nj := some 8) b11_5 b11_4 rfl rfl rfl rfl (two_of HT_.out KR) (by decide) (by decide) (fun K hK => ?_) (fun K hK => ?_)
        ·skip
         refine goes_ Try.func41 KR rfl #[.agg #[.int .i64 a1_0, .slice A1_1 l1_1.length c1_1, .slice A1_2 l1_2.length c1_2, .slice A1_3 l1_3.length c1_3]] (by rfl) rfl rfl AR ?_
         with_reducible refine (laws_toState.calls k a1_0 _ _ l1_1 _ _ l1_2 _ _ l1_3 t310 t311 t314 t317 _ ?side1 ?side2 ?side3 ?side4 ?side5 ?side6 A13.out).mono ?_
         (case side1 => exact CR (Kd.C_below HR1_1.out HB.out))
         (case side2 => exact HC1_1.out)
         (case side3 => exact CR (Kd.C_below HR1_2.out HB.out))
         (case side4 => exact HC1_2.out)
         (case side5 => exact CR (Kd.C_below HR1_3.out HB.out))
         (case side6 => exact HC1_3.out)
         rintro e w34 ⟨v312, v315, v318, rfl, ho0, ho1, ho2, hb⟩
         refine ⟨_, rfl, ?_⟩
         replace HO309 := Rb HO309 hb
         have HO313 := Rn0 ho0 HB
         have HO316 := Rn0 ho1 HB
         have HO319 := Rn0 ho2 HB
         replace BK304 := kf BK304 hb
         replace HB := bs HB hb
         (try clear hb)
         (try clear hb2)
         (try clear hk)
         (try clear hi)
         (try clear ho0)
         (try clear ho1)
         (try clear ho2)
         obtain ⟨Ao35, co35, eo35⟩ := Kd.R_slice HO309.out
         (first | subst eo35 | (injection eo35 with f1_ f2_ f3_; have f4_ := f1_.symm; have f5_ := f3_.symm; clear f1_ f2_ f3_; subst f4_; subst f5_))
         obtain ⟨Ao36, co36, eo36⟩ := Kd.R_slice HO313.out
         (first | subst eo36 | (injection eo36 with f1_ f2_ f3_; have f4_ := f1_.symm; have f5_ := f3_.symm; clear f1_ f2_ f3_; subst f4_; subst f5_))
         obtain ⟨Ao37, co37, eo37⟩ := Kd.R_slice HO316.out
         (first | subst eo37 | (injection eo37 with f1_ f2_ f3_; have f4_ := f1_.symm; have f5_ := f3_.symm; clear f1_ f2_ f3_; subst f4_; subst f5_))
         obtain ⟨Ao38, co38, eo38⟩ := Kd.R_slice HO319.out
         (first | subst eo38 | (injection eo38 with f1_ f2_ f3_; have f4_ := f1_.symm; have f5_ := f3_.symm; clear f1_ f2_ f3_; subst f4_; subst f5_))
         refine hK.out _ _ ⟨(blk_cell BK304.out 0).trans rfl, (blk_cell BK304.out 1).trans rfl, (blk_cell BK304.out 2).trans rfl, (blk_cell BK304.out 3).trans rfl⟩ (fun hHeld => ?_)
         clear hK K
         refine norm_ (a' := ?_) ?_ ?_
         rotate_left
         ·show Act.put _ (some 29) _ = _
          simp only [Act.put, List.setIfInBounds_toArray, List.set_cons_zero, List.set_cons_succ, i64_w, i32_w]
          rfl
         refine two_ (i := 5) (j := 6) (Ni := some 31) (Nj := some 8) b11_3 b11_2 rfl rfl rfl rfl (two_of HT_.out KR) (by decide) (by decide) (fun K hK => ?_) (fun K hK => ?_)
         ·skip
          refine goes_ Try.func39 KR rfl #[.slice Ao35 t307.length co35, .agg #[.int .i64 t310, .slice Ao36 t311.length co36, .slice Ao37 t314.length co37, .slice Ao38 t317.length co38], .int .i64 a2] (by rfl) rfl rfl AR ?_
          with_reducible refine (spec_StepState.calls k _ _ t307 t310 _ _ t311 _ _ t314 _ _ t317 a2 t320 t321 t324 t327 _ ?side1 ?side2 ?side3 ?side4 ?side5 ?side6 ?side7 ?side8 A14.out).mono ?_
          (case side1 => exact CR ((Kd.R_reads' HO309.out).2.2))
          (case side2 => exact (Kd.R_reads' HO309.out).2.1)
          (case side3 => exact CR ((Kd.R_reads' HO313.out).2.2))
          (case side4 => exact (Kd.R_reads' HO313.out).2.1)
          (case side5 => exact CR ((Kd.R_reads' HO316.out).2.2))
          (case side6 => exact (Kd.R_reads' HO316.out).2.1)
          (case side7 => exact CR ((Kd.R_reads' HO319.out).2.2))
          (case side8 => exact (Kd.R_reads' HO319.out).2.1)
          rintro e w39 ⟨v322, v325, v328, rfl, ho0, ho1, ho2, hb⟩
          refine ⟨_, rfl, ?_⟩
          replace HO309 := Rb HO309 hb
          have HO323 := Rn3 ho0 HB HO313 HO316 HO319
          have HO326 := Rn3 ho1 HB HO313 HO316 HO319
          have HO329 := Rn3 ho2 HB HO313 HO316 HO319
          replace HO313 := (Ry3 HO313 hb ho0 ho1 ho2)
          replace HO316 := (Ry3 HO316 hb ho0 ho1 ho2)
          replace HO319 := (Ry3 HO319 hb ho0 ho1 ho2)
          replace BK304 := kf BK304 hb
          replace HB := bs HB hb
          (try clear hb)
          (try clear hb2)
          (try clear hk)
          (try clear hi)
          (try clear ho0)
          (try clear ho1)
          (try clear ho2)
          refine hK.out _ _ ⟨(blk_cell BK304.out 0).trans rfl, (blk_cell BK304.out 1).trans rfl, (blk_cell BK304.out 2).trans rfl, (blk_cell BK304.out 3).trans rfl⟩ (fun hHeld => ?_)
          clear hK K
          refine norm_ (a' := ?_) ?_ ?_
          rotate_left
          ·show Act.put _ (some 31) _ = _
           simp only [Act.put, List.setIfInBounds_toArray, List.set_cons_zero, List.set_cons_succ, i64_w, i32_w]
           rfl
          refine one_ (i := 6) (N := some 8) b11_1 rfl rfl (one_of HT_.out KR) (by decide) (fun K hK => ?_)
          refine box_step ?hg (N := 8) ?hd (cs := #[.int .i64 0, .slice none 0 0, .slice none 0 0, .slice none 0 0]) (t := 45) ?hr ?_; (case hd => rfl); (case hg => rfl); (case hr => first | (go_simp; done) | (go_simp; rfl))
          intro gb330 hg w40 hbox hb
          replace HO309 := Rb HO309 hb
          replace HO313 := Rb HO313 hb
          replace HO316 := Rb HO316 hb
          replace HO319 := Rb HO319 hb
          replace HO323 := Rb HO323 hb
          replace HO326 := Rb HO326 hb
          replace HO329 := Rb HO329 hb
          have BK330 := ak hbox
          have GW330 := gy hg HB
          have GE330 := gy hg HB
          replace HB := bs HB hb
          have NB304_330 := gm hg BK304
          have NB330_304 := gn hg BK304
          replace BK304 := kf BK304 hb
          clear hb hbox hg
          refine hK.out _ _ ⟨(blk_cell BK304.out 0).trans rfl, (blk_cell BK304.out 1).trans rfl, (blk_cell BK304.out 2).trans rfl, (blk_cell BK304.out 3).trans rfl⟩ (fun hHeld => ?_)
          clear hK K
          refine norm_ (a' := ?_) ?_ ?_
          rotate_left
          ·show Act.put _ (some 8) _ = _
           simp only [Act.put, List.setIfInBounds_toArray, List.set_cons_zero, List.set_cons_succ, i64_w, i32_w]
           rfl
          exact norm_ (by simp only [putAll, Act.put, List.setIfInBounds_toArray, List.set_cons_zero, List.set_cons_succ]) (hCont (.slice Ao35 t307.length co35, .slice Ao36 t311.length co36, .slice Ao37 t314.length co37, .slice Ao38 t317.length co38, v322, v325, v328, gb330) _ ⟨hHeld, (PR HO309), (RX HO313.out (fun _ hk => ⟨hk.1.1.1.1, ⟨hk.1.1.1.2, ⟨hk.1.1.2, ⟨hk.1.2, hk.2⟩⟩⟩⟩)), (RX HO316.out (fun _ hk => ⟨hk.1.1.1.1, ⟨hk.1.1.1.2, ⟨hk.1.1.2, ⟨hk.1.2, hk.2⟩⟩⟩⟩)), (RX HO319.out (fun _ hk => ⟨hk.1.1.1.1, ⟨hk.1.1.1.2, ⟨hk.1.1.2, ⟨hk.1.2, hk.2⟩⟩⟩⟩)), (RX HO323.out (fun _ hk => ⟨hk.1.1.2, ⟨hk.1.2, ⟨hk.2, ⟨hk.1.1.1.1, hk.1.1.1.2⟩⟩⟩⟩)), (RX HO326.out (fun _ hk => ⟨hk.1.1.2, ⟨hk.1.2, ⟨hk.2, ⟨hk.1.1.1.1, hk.1.1.1.2⟩⟩⟩⟩)), (RX HO329.out (fun _ hk => ⟨hk.1.1.2, ⟨hk.1.2, ⟨hk.2, ⟨hk.1.1.1.1, hk.1.1.1.2⟩⟩⟩⟩)), (PK BK304), (PK BK330), GW330.out, GE330.out, NB304_330.out, NB330_304.out, PB⟩)
         ·skip
          refine box_step ?hg (N := 8) ?hd (cs := #[.int .i64 0, .slice none 0 0, .slice none 0 0, .slice none 0 0]) (t := 45) ?hr ?_; (case hd => rfl); (case hg => rfl); (case hr => first | (go_simp; done) | (go_simp; rfl))
          intro gb330 hg w35 hbox hb
          replace HO309 := Rb HO309 hb
          replace HO313 := Rb HO313 hb
          replace HO316 := Rb HO316 hb
          replace HO319 := Rb HO319 hb
          have BK330 := ak hbox
          have GW330 := gy hg HB
          have GE330 := gy hg HB
          replace HB := bs HB hb
          have NB304_330 := gm hg BK304
          have NB330_304 := gn hg BK304
          replace BK304 := kf BK304 hb
          clear hb hbox hg
          obtain ⟨Ao36, co36, eo36⟩ := Kd.R_slice HO309.out
          (first | subst eo36 | (injection eo36 with f1_ f2_ f3_; have f4_ := f1_.symm; have f5_ := f3_.symm; clear f1_ f2_ f3_; subst f4_; subst f5_))
          obtain ⟨Ao37, co37, eo37⟩ := Kd.R_slice HO313.out
          (first | subst eo37 | (injection eo37 with f1_ f2_ f3_; have f4_ := f1_.symm; have f5_ := f3_.symm; clear f1_ f2_ f3_; subst f4_; subst f5_))
          obtain ⟨Ao38, co38, eo38⟩ := Kd.R_slice HO316.out
          (first | subst eo38 | (injection eo38 with f1_ f2_ f3_; have f4_ := f1_.symm; have f5_ := f3_.symm; clear f1_ f2_ f3_; subst f4_; subst f5_))
          obtain ⟨Ao39, co39, eo39⟩ := Kd.R_slice HO319.out
          (first | subst eo39 | (injection eo39 with f1_ f2_ f3_; have f4_ := f1_.symm; have f5_ := f3_.symm; clear f1_ f2_ f3_; subst f4_; subst f5_))
          refine hK.out _ _ ⟨(blk_cell BK304.out 0).trans rfl, (blk_cell BK304.out 1).trans rfl, (blk_cell BK304.out 2).trans rfl, (blk_cell BK304.out 3).trans rfl⟩ (fun hHeld => ?_)
          clear hK K
          refine norm_ (a' := ?_) ?_ ?_
          rotate_left
          ·show Act.put _ (some 8) _ = _
           simp only [Act.put, List.setIfInBounds_toArray, List.set_cons_zero, List.set_cons_succ, i64_w, i32_w]
           rfl
          refine one_ (i := 5) (N := some 31) b11_1 rfl rfl (one_of HT_.out KR) (by decide) (fun K hK => ?_)
          refine goes_ Try.func39 KR rfl #[.slice Ao36 t307.length co36, .agg #[.int .i64 t310, .slice Ao37 t311.length co37, .slice Ao38 t314.length co38, .slice Ao39 t317.length co39], .int .i64 a2] (by rfl) rfl rfl AR ?_
          with_reducible refine (spec_StepState.calls k _ _ t307 t310 _ _ t311 _ _ t314 _ _ t317 a2 t320 t321 t324 t327 _ ?side1 ?side2 ?side3 ?side4 ?side5 ?side6 ?side7 ?side8 A14.out).mono ?_
          (case side1 => exact CR ((Kd.R_reads' HO309.out).2.2))
          (case side2 => exact (Kd.R_reads' HO309.out).2.1)
          (case side3 => exact CR ((Kd.R_reads' HO313.out).2.2))
          (case side4 => exact (Kd.R_reads' HO313.out).2.1)
          (case side5 => exact CR ((Kd.R_reads' HO316.out).2.2))
          (case side6 => exact (Kd.R_reads' HO316.out).2.1)
          (case side7 => exact CR ((Kd.R_reads' HO319.out).2.2))
          (case side8 => exact (Kd.R_reads' HO319.out).2.1)
          rintro e w40 ⟨v322, v325, v328, rfl, ho0, ho1, ho2, hb⟩
          refine ⟨_, rfl, ?_⟩
          replace HO309 := Rb HO309 hb
          have HO323 := Rn3 ho0 HB HO313 HO316 HO319
          have HO326 := Rn3 ho1 HB HO313 HO316 HO319
          have HO329 := Rn3 ho2 HB HO313 HO316 HO319
          replace HO313 := (Ry3 HO313 hb ho0 ho1 ho2)
          replace HO316 := (Ry3 HO316 hb ho0 ho1 ho2)
          replace HO319 := (Ry3 HO319 hb ho0 ho1 ho2)
          replace BK304 := kf BK304 hb
          replace BK330 := kf BK330 hb
          replace HB := bs HB hb
          (try clear hb)
          (try clear hb2)
          (try clear hk)
          (try clear hi)
          (try clear ho0)
          (try clear ho1)
          (try clear ho2)
          refine hK.out _ _ ⟨(blk_cell BK304.out 0).trans rfl, (blk_cell BK304.out 1).trans rfl, (blk_cell BK304.out 2).trans rfl, (blk_cell BK304.out 3).trans rfl⟩ (fun hHeld => ?_)
          clear hK K
          refine norm_ (a' := ?_) ?_ ?_
          rotate_left
          ·show Act.put _ (some 31) _ = _
           simp only [Act.put, List.setIfInBounds_toArray, List.set_cons_zero, List.set_cons_succ, i64_w, i32_w]
           rfl
          exact norm_ (by simp only [putAll, Act.put, List.setIfInBounds_toArray, List.set_cons_zero, List.set_cons_succ]) (hCont (.slice Ao36 t307.length co36, .slice Ao37 t311.length co37, .slice Ao38 t314.length co38, .slice Ao39 t317.length co39, v322, v325, v328, gb330) _ ⟨hHeld, (PR HO309), (RX HO313.out (fun _ hk => ⟨hk.1.1.1.1, ⟨hk.1.1.1.2, ⟨hk.1.1.2, ⟨hk.1.2, hk.2⟩⟩⟩⟩)), (RX HO316.out (fun _ hk => ⟨hk.1.1.1.1, ⟨hk.1.1.1.2, ⟨hk.1.1.2, ⟨hk.1.2, hk.2⟩⟩⟩⟩)), (RX HO319.out (fun _ hk => ⟨hk.1.1.1.1, ⟨hk.1.1.1.2, ⟨hk.1.1.2, ⟨hk.1.2, hk.2⟩⟩⟩⟩)), (RX HO323.out (fun _ hk => ⟨hk.1.1.2, ⟨hk.1.2, ⟨hk.2, ⟨hk.1.1.1.1, hk.1.1.1.2⟩⟩⟩⟩)), (RX HO326.out (fun _ hk => ⟨hk.1.1.2, ⟨hk.1.2, ⟨hk.2, ⟨hk.1.1.1.1, hk.1.1.1.2⟩⟩⟩⟩)), (RX HO329.out (fun _ hk => ⟨hk.1.1.2, ⟨hk.1.2, ⟨hk.2, ⟨hk.1.1.1.1, hk.1.1.1.2⟩⟩⟩⟩)), (PK BK304), (PK BK330), GW330.out, GE330.out, NB304_330.out, NB330_304.out, PB⟩)
        ·skip
         refine box_step ?hg (N := 8) ?hd (cs := #[.int .i64 0, .slice none 0 0, .slice none 0 0, .slice none 0 0]) (t := 45) ?hr ?_; (case hd => rfl); (case hg => rfl); (case hr => first | (go_simp; done) | (go_simp; rfl))
         intro gb330 hg w34 hbox hb
         replace HO309 := Rb HO309 hb
         have BK330 := ak hbox
         have GW330 := gy hg HB
         have GE330 := gy hg HB
         replace HB := bs HB hb
         have NB304_330 := gm hg BK304
         have NB330_304 := gn hg BK304
         replace BK304 := kf BK304 hb
         clear hb hbox hg
         refine hK.out _ _ ⟨(blk_cell BK304.out 0).trans rfl, (blk_cell BK304.out 1).trans rfl, (blk_cell BK304.out 2).trans rfl, (blk_cell BK304.out 3).trans rfl⟩ (fun hHeld => ?_)
         clear hK K
         refine norm_ (a' := ?_) ?_ ?_
         rotate_left
         ·show Act.put _ (some 8) _ = _
          simp only [Act.put, List.setIfInBounds_toArray, List.set_cons_zero, List.set_cons_succ, i64_w, i32_w]
          rfl
         refine one_ (i := 3) (N := some 29) b11_2 rfl rfl (one_of HT_.out KR) (by decide) (fun K hK => ?_)
         refine goes_ Try.func41 KR rfl #[.agg #[.int .i64 a1_0, .slice A1_1 l1_1.length c1_1, .slice A1_2 l1_2.length c1_2, .slice A1_3 l1_3.length c1_3]] (by rfl) rfl rfl AR ?_
         with_reducible refine (laws_toState.calls k a1_0 _ _ l1_1 _ _ l1_2 _ _ l1_3 t310 t311 t314 t317 _ ?side1 ?side2 ?side3 ?side4 ?side5 ?side6 A13.out).mono ?_
         (case side1 => exact CR (Kd.C_below HR1_1.out HB.out))
         (case side2 => exact HC1_1.out)
         (case side3 => exact CR (Kd.C_below HR1_2.out HB.out))
         (case side4 => exact HC1_2.out)
         (case side5 => exact CR (Kd.C_below HR1_3.out HB.out))
         (case side6 => exact HC1_3.out)
         rintro e w35 ⟨v312, v315, v318, rfl, ho0, ho1, ho2, hb⟩
         refine ⟨_, rfl, ?_⟩
         replace HO309 := Rb HO309 hb
         have HO313 := Rn0 ho0 HB
         have HO316 := Rn0 ho1 HB
         have HO319 := Rn0 ho2 HB
         replace BK304 := kf BK304 hb
         replace BK330 := kf BK330 hb
         replace HB := bs HB hb
         (try clear hb)
         (try clear hb2)
         (try clear hk)
         (try clear hi)
         (try clear ho0)
         (try clear ho1)
         (try clear ho2)
         obtain ⟨Ao36, co36, eo36⟩ := Kd.R_slice HO309.out
         (first | subst eo36 | (injection eo36 with f1_ f2_ f3_; have f4_ := f1_.symm; have f5_ := f3_.symm; clear f1_ f2_ f3_; subst f4_; subst f5_))
         obtain ⟨Ao37, co37, eo37⟩ := Kd.R_slice HO313.out
         (first | subst eo37 | (injection eo37 with f1_ f2_ f3_; have f4_ := f1_.symm; have f5_ := f3_.symm; clear f1_ f2_ f3_; subst f4_; subst f5_))
         obtain ⟨Ao38, co38, eo38⟩ := Kd.R_slice HO316.out
         (first | subst eo38 | (injection eo38 with f1_ f2_ f3_; have f4_ := f1_.symm; have f5_ := f3_.symm; clear f1_ f2_ f3_; subst f4_; subst f5_))
         obtain ⟨Ao39, co39, eo39⟩ := Kd.R_slice HO319.out
         (first | subst eo39 | (injection eo39 with f1_ f2_ f3_; have f4_ := f1_.symm; have f5_ := f3_.symm; clear f1_ f2_ f3_; subst f4_; subst f5_))
         refine hK.out _ _ ⟨(blk_cell BK304.out 0).trans rfl, (blk_cell BK304.out 1).trans rfl, (blk_cell BK304.out 2).trans rfl, (blk_cell BK304.out 3).trans rfl⟩ (fun hHeld => ?_)
         clear hK K
         refine norm_ (a' := ?_) ?_ ?_
         rotate_left
         ·show Act.put _ (some 29) _ = _
          simp only [Act.put, List.setIfInBounds_toArray, List.set_cons_zero, List.set_cons_succ, i64_w, i32_w]
          rfl
         refine one_ (i := 5) (N := some 31) b11_1 rfl rfl (one_of HT_.out KR) (by decide) (fun K hK => ?_)
         refine goes_ Try.func39 KR rfl #[.slice Ao36 t307.length co36, .agg #[.int .i64 t310, .slice Ao37 t311.length co37, .slice Ao38 t314.length co38, .slice Ao39 t317.length co39], .int .i64 a2] (by rfl) rfl rfl AR ?_
         with_reducible refine (spec_StepState.calls k _ _ t307 t310 _ _ t311 _ _ t314 _ _ t317 a2 t320 t321 t324 t327 _ ?side1 ?side2 ?side3 ?side4 ?side5 ?side6 ?side7 ?side8 A14.out).mono ?_
         (case side1 => exact CR ((Kd.R_reads' HO309.out).2.2))
         (case side2 => exact (Kd.R_reads' HO309.out).2.1)
         (case side3 => exact CR ((Kd.R_reads' HO313.out).2.2))
         (case side4 => exact (Kd.R_reads' HO313.out).2.1)
         (case side5 => exact CR ((Kd.R_reads' HO316.out).2.2))
         (case side6 => exact (Kd.R_reads' HO316.out).2.1)
         (case side7 => exact CR ((Kd.R_reads' HO319.out).2.2))
         (case side8 => exact (Kd.R_reads' HO319.out).2.1)
         rintro e w40 ⟨v322, v325, v328, rfl, ho0, ho1, ho2, hb⟩
         refine ⟨_, rfl, ?_⟩
         replace HO309 := Rb HO309 hb
         have HO323 := Rn3 ho0 HB HO313 HO316 HO319
         have HO326 := Rn3 ho1 HB HO313 HO316 HO319
         have HO329 := Rn3 ho2 HB HO313 HO316 HO319
         replace HO313 := (Ry3 HO313 hb ho0 ho1 ho2)
         replace HO316 := (Ry3 HO316 hb ho0 ho1 ho2)
         replace HO319 := (Ry3 HO319 hb ho0 ho1 ho2)
         replace BK304 := kf BK304 hb
         replace BK330 := kf BK330 hb
         replace HB := bs HB hb
         (try clear hb)
         (try clear hb2)
         (try clear hk)
         (try clear hi)
         (try clear ho0)
         (try clear ho1)
         (try clear ho2)
         refine hK.out _ _ ⟨(blk_cell BK304.out 0).trans rfl, (blk_cell BK304.out 1).trans rfl, (blk_cell BK304.out 2).trans rfl, (blk_cell BK304.out 3).trans rfl⟩ (fun hHeld => ?_)
         clear hK K
         refine norm_ (a' := ?_) ?_ ?_
         rotate_left
         ·show Act.put _ (some 31) _ = _
          simp only [Act.put, List.setIfInBounds_toArray, List.set_cons_zero, List.set_cons_succ, i64_w, i32_w]
          rfl
         exact norm_ (by simp only [putAll, Act.put, List.setIfInBounds_toArray, List.set_cons_zero, List.set_cons_succ]) (hCont (.slice Ao36 t307.length co36, .slice Ao37 t311.length co37, .slice Ao38 t314.length co38, .slice Ao39 t317.length co39, v322, v325, v328, gb330) _ ⟨hHeld, (PR HO309), (RX HO313.out (fun _ hk => ⟨hk.1.1.1.1, ⟨hk.1.1.1.2, ⟨hk.1.1.2, ⟨hk.1.2, hk.2⟩⟩⟩⟩)), (RX HO316.out (fun _ hk => ⟨hk.1.1.1.1, ⟨hk.1.1.1.2, ⟨hk.1.1.2, ⟨hk.1.2, hk.2⟩⟩⟩⟩)), (RX HO319.out (fun _ hk => ⟨hk.1.1.1.1, ⟨hk.1.1.1.2, ⟨hk.1.1.2, ⟨hk.1.2, hk.2⟩⟩⟩⟩)), (RX HO323.out (fun _ hk => ⟨hk.1.1.2, ⟨hk.1.2, ⟨hk.2, ⟨hk.1.1.1.1, hk.1.1.1.2⟩⟩⟩⟩)), (RX HO326.out (fun _ hk => ⟨hk.1.1.2, ⟨hk.1.2, ⟨hk.2, ⟨hk.1.1.1.1, hk.1.1.1.2⟩⟩⟩⟩)), (RX HO329.out (fun _ hk => ⟨hk.1.1.2, ⟨hk.1.2, ⟨hk.2, ⟨hk.1.1.1.1, hk.1.1.1.2⟩⟩⟩⟩)), (PK BK304), (PK BK330), GW330.out, GE330.out, NB304_330.out, NB330_304.out, PB⟩)
       ·skip
        refine box_step ?hg (N := 8) ?hd (cs := #[.int .i64 0, .slice none 0 0, .slice none 0 0, .slice none 0 0]) (t := 45) ?hr ?_; (case hd => rfl); (case hg => rfl); (case hr => first | (go_simp; done) | (go_simp; rfl))
        intro gb330 hg w33 hbox hb
        have BK330 := ak hbox
        have GW330 := gy hg HB
        have GE330 := gy hg HB
        replace HB := bs HB hb
        have NB304_330 := gm hg BK304
        have NB330_304 := gn hg BK304
        replace BK304 := kf BK304 hb
        clear hb hbox hg
        refine hK.out _ _ ⟨(blk_cell BK304.out 0).trans rfl, (blk_cell BK304.out 1).trans rfl, (blk_cell BK304.out 2).trans rfl, (blk_cell BK304.out 3).trans rfl⟩ (fun hHeld => ?_)
        clear hK K
        refine norm_ (a' := ?_) ?_ ?_
        rotate_left
        ·show Act.put _ (some 8) _ = _
         simp only [Act.put, List.setIfInBounds_toArray, List.set_cons_zero, List.set_cons_succ, i64_w, i32_w]
         rfl
        refine one_ (i := 1) (N := some 27) b11_4 rfl rfl (one_of HT_.out KR) (by decide) (fun K hK => ?_)
        refine goes_ Try.func40 KR rfl #[.slice A0 l0.length c0] (by rfl) rfl rfl AR ?_
        with_reducible refine (laws_toOpS.calls k _ _ l0 t307 _ ?side1 ?side2 A12.out).mono ?_
        (case side1 => exact CR (Kd.C_below HR0.out HB.out))
        (case side2 => exact HC0.out)
        rintro e w34 ⟨v308, rfl, ho0, hb⟩
        refine ⟨_, rfl, ?_⟩
        have HO309 := Rn0 ho0 HB
        replace BK304 := kf BK304 hb
        replace BK330 := kf BK330 hb
        replace HB := bs HB hb
        (try clear hb)
        (try clear hb2)
        (try clear hk)
        (try clear hi)
        (try clear ho0)
        obtain ⟨Ao308_, co308_, eo308_⟩ := Kd.R_slice HO309.out
        subst eo308_
        refine hK.out _ _ ⟨(blk_cell BK304.out 0).trans rfl, (blk_cell BK304.out 1).trans rfl, (blk_cell BK304.out 2).trans rfl, (blk_cell BK304.out 3).trans rfl⟩ (fun hHeld => ?_)
        clear hK K
        refine norm_ (a' := ?_) ?_ ?_
        rotate_left
        ·show Act.put _ (some 27) _ = _
         simp only [Act.put, List.setIfInBounds_toArray, List.set_cons_zero, List.set_cons_succ, i64_w, i32_w]
         rfl
        refine one_ (i := 3) (N := some 29) b11_2 rfl rfl (one_of HT_.out KR) (by decide) (fun K hK => ?_)
        refine goes_ Try.func41 KR rfl #[.agg #[.int .i64 a1_0, .slice A1_1 l1_1.length c1_1, .slice A1_2 l1_2.length c1_2, .slice A1_3 l1_3.length c1_3]] (by rfl) rfl rfl AR ?_
        with_reducible refine (laws_toState.calls k a1_0 _ _ l1_1 _ _ l1_2 _ _ l1_3 t310 t311 t314 t317 _ ?side1 ?side2 ?side3 ?side4 ?side5 ?side6 A13.out).mono ?_
        (case side1 => exact CR (Kd.C_below HR1_1.out HB.out))
        (case side2 => exact HC1_1.out)
        (case side3 => exact CR (Kd.C_below HR1_2.out HB.out))
        (case side4 => exact HC1_2.out)
        (case side5 => exact CR (Kd.C_below HR1_3.out HB.out))
        (case side6 => exact HC1_3.out)
        rintro e w35 ⟨v312, v315, v318, rfl, ho0, ho1, ho2, hb⟩
        refine ⟨_, rfl, ?_⟩
        replace HO309 := Rb HO309 hb
        have HO313 := Rn0 ho0 HB
        have HO316 := Rn0 ho1 HB
        have HO319 := Rn0 ho2 HB
        replace BK304 := kf BK304 hb
        replace BK330 := kf BK330 hb
        replace HB := bs HB hb
        (try clear hb)
        (try clear hb2)
        (try clear hk)
        (try clear hi)
        (try clear ho0)
        (try clear ho1)
        (try clear ho2)
        obtain ⟨Ao36, co36, eo36⟩ := Kd.R_slice HO309.out
        (first | subst eo36 | (injection eo36 with f1_ f2_ f3_; have f4_ := f1_.symm; have f5_ := f3_.symm; clear f1_ f2_ f3_; subst f4_; subst f5_))
        obtain ⟨Ao37, co37, eo37⟩ := Kd.R_slice HO313.out
        (first | subst eo37 | (injection eo37 with f1_ f2_ f3_; have f4_ := f1_.symm; have f5_ := f3_.symm; clear f1_ f2_ f3_; subst f4_; subst f5_))
        obtain ⟨Ao38, co38, eo38⟩ := Kd.R_slice HO316.out
        (first | subst eo38 | (injection eo38 with f1_ f2_ f3_; have f4_ := f1_.symm; have f5_ := f3_.symm; clear f1_ f2_ f3_; subst f4_; subst f5_))
        obtain ⟨Ao39, co39, eo39⟩ := Kd.R_slice HO319.out
        (first | subst eo39 | (injection eo39 with f1_ f2_ f3_; have f4_ := f1_.symm; have f5_ := f3_.symm; clear f1_ f2_ f3_; subst f4_; subst f5_))
        refine hK.out _ _ ⟨(blk_cell BK304.out 0).trans rfl, (blk_cell BK304.out 1).trans rfl, (blk_cell BK304.out 2).trans rfl, (blk_cell BK304.out 3).trans rfl⟩ (fun hHeld => ?_)
        clear hK K
        refine norm_ (a' := ?_) ?_ ?_
        rotate_left
        ·show Act.put _ (some 29) _ = _
         simp only [Act.put, List.setIfInBounds_toArray, List.set_cons_zero, List.set_cons_succ, i64_w, i32_w]
         rfl
        refine one_ (i := 5) (N := some 31) b11_1 rfl rfl (one_of HT_.out KR) (by decide) (fun K hK => ?_)
        refine goes_ Try.func39 KR rfl #[.slice Ao36 t307.length co36, .agg #[.int .i64 t310, .slice Ao37 t311.length co37, .slice Ao38 t314.length co38, .slice Ao39 t317.length co39], .int .i64 a2] (by rfl) rfl rfl AR ?_
        with_reducible refine (spec_StepState.calls k _ _ t307 t310 _ _ t311 _ _ t314 _ _ t317 a2 t320 t321 t324 t327 _ ?side1 ?side2 ?side3 ?side4 ?side5 ?side6 ?side7 ?side8 A14.out).mono ?_
        (case side1 => exact CR ((Kd.R_reads' HO309.out).2.2))
        (case side2 => exact (Kd.R_reads' HO309.out).2.1)
        (case side3 => exact CR ((Kd.R_reads' HO313.out).2.2))
        (case side4 => exact (Kd.R_reads' HO313.out).2.1)
        (case side5 => exact CR ((Kd.R_reads' HO316.out).2.2))
        (case side6 => exact (Kd.R_reads' HO316.out).2.1)
        (case side7 => exact CR ((Kd.R_reads' HO319.out).2.2))
        (case side8 => exact (Kd.R_reads' HO319.out).2.1)
        rintro e w40 ⟨v322, v325, v328, rfl, ho0, ho1, ho2, hb⟩
        refine ⟨_, rfl, ?_⟩
        replace HO309 := Rb HO309 hb
        have HO323 := Rn3 ho0 HB HO313 HO316 HO319
        have HO326 := Rn3 ho1 HB HO313 HO316 HO319
        have HO329 := Rn3 ho2 HB HO313 HO316 HO319
        replace HO313 := (Ry3 HO313 hb ho0 ho1 ho2)
        replace HO316 := (Ry3 HO316 hb ho0 ho1 ho2)
        replace HO319 := (Ry3 HO319 hb ho0 ho1 ho2)
        replace BK304 := kf BK304 hb
        replace BK330 := kf BK330 hb
        replace HB := bs HB hb
        (try clear hb)
        (try clear hb2)
        (try clear hk)
        (try clear hi)
        (try clear ho0)
        (try clear ho1)
        (try clear ho2)
        refine hK.out _ _ ⟨(blk_cell BK304.out 0).trans rfl, (blk_cell BK304.out 1).trans rfl, (blk_cell BK304.out 2).trans rfl, (blk_cell BK304.out 3).trans rfl⟩ (fun hHeld => ?_)
        clear hK K
        refine norm_ (a' := ?_) ?_ ?_
        rotate_left
        ·show Act.put _ (some 31) _ = _
         simp only [Act.put, List.setIfInBounds_toArray, List.set_cons_zero, List.set_cons_succ, i64_w, i32_w]
         rfl
        exact norm_ (by simp only [putAll, Act.put, List.setIfInBounds_toArray, List.set_cons_zero, List.set_cons_succ]) (hCont (.slice Ao36 t307.length co36, .slice Ao37 t311.length co37, .slice Ao38 t314.length co38, .slice Ao39 t317.length co39, v322, v325, v328, gb330) _ ⟨hHeld, (PR HO309), (RX HO313.out (fun _ hk => ⟨hk.1.1.1.1, ⟨hk.1.1.1.2, ⟨hk.1.1.2, ⟨hk.1.2, hk.2⟩⟩⟩⟩)), (RX HO316.out (fun _ hk => ⟨hk.1.1.1.1, ⟨hk.1.1.1.2, ⟨hk.1.1.2, ⟨hk.1.2, hk.2⟩⟩⟩⟩)), (RX HO319.out (fun _ hk => ⟨hk.1.1.1.1, ⟨hk.1.1.1.2, ⟨hk.1.1.2, ⟨hk.1.2, hk.2⟩⟩⟩⟩)), (RX HO323.out (fun _ hk => ⟨hk.1.1.2, ⟨hk.1.2, ⟨hk.2, ⟨hk.1.1.1.1, hk.1.1.1.2⟩⟩⟩⟩)), (RX HO326.out (fun _ hk => ⟨hk.1.1.2, ⟨hk.1.2, ⟨hk.2, ⟨hk.1.1.1.1, hk.1.1.1.2⟩⟩⟩⟩)), (RX HO329.out (fun _ hk => ⟨hk.1.1.2, ⟨hk.1.2, ⟨hk.2, ⟨hk.1.1.1.1, hk.1.1.1.2⟩⟩⟩⟩)), (PK BK304), (PK BK330), GW330.out, GE330.out, NB304_330.out, NB330_304.out, PB⟩)
      rintro ⟨v308, v312, v315, v318, v322, v325, v328, gb330⟩ w41 ⟨hS_, h0_, h1_, h2_, h3_, h4_, h5_, h6_, h7_, h8_, h9_, h10_, h11_, h12_, h13_⟩
      have HO309 : Aside0 (Kd.R k121 121 w41 w.heap.size (fun _ => True) v308 t307) := ⟨h0_⟩
      have HO313 : Aside0 (Kd.R (Kd.int .i64) 3 w41 w.heap.size (fun k_ => some k_ ≠ (v315 : Value).ownBlock ∧ some k_ ≠ (v318 : Value).ownBlock ∧ some k_ ≠ (v322 : Value).ownBlock ∧ some k_ ≠ (v325 : Value).ownBlock ∧ some k_ ≠ (v328 : Value).ownBlock) v312 t311) := ⟨h1_⟩
      have HO316 : Aside0 (Kd.R (Kd.int .i64) 3 w41 w.heap.size (fun k_ => some k_ ≠ (v312 : Value).ownBlock ∧ some k_ ≠ (v318 : Value).ownBlock ∧ some k_ ≠ (v322 : Value).ownBlock ∧ some k_ ≠ (v325 : Value).ownBlock ∧ some k_ ≠ (v328 : Value).ownBlock) v315 t314) := ⟨h2_⟩
      have HO319 : Aside0 (Kd.R (Kd.int .i64) 3 w41 w.heap.size (fun k_ => some k_ ≠ (v312 : Value).ownBlock ∧ some k_ ≠ (v315 : Value).ownBlock ∧ some k_ ≠ (v322 : Value).ownBlock ∧ some k_ ≠ (v325 : Value).ownBlock ∧ some k_ ≠ (v328 : Value).ownBlock) v318 t317) := ⟨h3_⟩
      have HO323 : Aside0 (Kd.R (Kd.int .i64) 3 w41 w.heap.size (fun k_ => some k_ ≠ (v312 : Value).ownBlock ∧ some k_ ≠ (v315 : Value).ownBlock ∧ some k_ ≠ (v318 : Value).ownBlock ∧ some k_ ≠ (v325 : Value).ownBlock ∧ some k_ ≠ (v328 : Value).ownBlock) v322 t321) := ⟨h4_⟩
      have HO326 : Aside0 (Kd.R (Kd.int .i64) 3 w41 w.heap.size (fun k_ => some k_ ≠ (v312 : Value).ownBlock ∧ some k_ ≠ (v315 : Value).ownBlock ∧ some k_ ≠ (v318 : Value).ownBlock ∧ some k_ ≠ (v322 : Value).ownBlock ∧ some k_ ≠ (v328 : Value).ownBlock) v325 t324) := ⟨h5_⟩
      have HO329 : Aside0 (Kd.R (Kd.int .i64) 3 w41 w.heap.size (fun k_ => some k_ ≠ (v312 : Value).ownBlock ∧ some k_ ≠ (v315 : Value).ownBlock ∧ some k_ ≠ (v318 : Value).ownBlock ∧ some k_ ≠ (v322 : Value).ownBlock ∧ some k_ ≠ (v325 : Value).ownBlock) v328 t327) := ⟨h6_⟩
      replace BK304 : Aside0 (w41.heap[gb304]? = some (.cells #[.int .i64 a1_0, .slice A1_1 l1_1.length c1_1, .slice A1_2 l1_2.length c1_2, .slice A1_3 l1_3.length c1_3] 72 (0, 0))) := ⟨h7_⟩
      have BK330 : Aside0 (w41.heap[gb330]? = some (.cells #[.int .i64 0, .slice none 0 0, .slice none 0 0, .slice none 0 0] 45 (0, 0))) := ⟨h8_⟩
      have GW330 : Aside0 (w.heap.size ≤ gb330) := ⟨h9_⟩
      have GE330 : Aside0 (w.heap.size ≤ gb330) := ⟨h10_⟩
      have NB304_330 : Aside0 (gb304 ≠ gb330) := ⟨h11_⟩
      have NB330_304 : Aside0 (gb330 ≠ gb304) := ⟨h12_⟩
      replace HB : Aside0 (Below w.heap.size w w41) := ⟨h13_⟩
      clear h0_ h1_ h2_ h3_ h4_ h5_ h6_ h7_ h8_ h9_ h10_ h11_ h12_ h13_
      have hHeld : w41.cell? ⟨gb304, 0, none⟩ = some (.int .i64 a1_0) ∧ w41.cell? ⟨gb304, 1, none⟩ = some (.slice A1_1 l1_1.length c1_1) ∧ w41.cell? ⟨gb304, 2, none⟩ = some (.slice A1_2 l1_2.length c1_2) ∧ w41.cell? ⟨gb304, 3, none⟩ = some (.slice A1_3 l1_3.length c1_3) := hS_
      obtain ⟨Ao43, co43, eo43⟩ := Kd.R_slice HO323.out
      (first | subst eo43 | (injection eo43 with f1_ f2_ f3_; have f4_ := f1_.symm; have f5_ := f3_.symm; clear f1_ f2_ f3_; subst f4_; subst f5_))
      obtain ⟨Ao45, co45, eo45⟩ := Kd.R_slice HO326.out
      (first | subst eo45 | (injection eo45 with f1_ f2_ f3_; have f4_ := f1_.symm; have f5_ := f3_.symm; clear f1_ f2_ f3_; subst f4_; subst f5_))
      obtain ⟨Ao47, co47, eo47⟩ := Kd.R_slice HO329.out
      (first | subst eo47 | (injection eo47 with f1_ f2_ f3_; have f4_ := f1_.symm; have f5_ := f3_.symm; clear f1_ f2_ f3_; subst f4_; subst f5_))
      refine norm_ (a' := ?_) ?_ ?_
      rotate_left
      ·simp only [putAll, Act.put, List.setIfInBounds_toArray, List.set_cons_zero, List.set_cons_succ]
       rfl
      refine one_ (i := 7) (N := none) b11_0 rfl rfl (one_of HT_.out KR) (by decide) (fun K hK => ?_)
      have hs42 : w41.cell? ⟨gb330, 0, none⟩ = some (.int .i64 0) := (blk_cell BK330.out 0).trans rfl
      have hfs42 := blk_frozen BK330.out 0
      have hns42_0 := NB304_330.out
      have hms42_0 := NB330_304.out
      have hs44 : w41.cell? ⟨gb330, 1, none⟩ = some (.slice none 0 0) := (blk_cell BK330.out 1).trans rfl
      have hfs44 := blk_frozen BK330.out 1
      have hns44_0 := NB304_330.out
      have hms44_0 := NB330_304.out
      have hs46 : w41.cell? ⟨gb330, 2, none⟩ = some (.slice none 0 0) := (blk_cell BK330.out 2).trans rfl
      have hfs46 := blk_frozen BK330.out 2
      have hns46_0 := NB304_330.out
      have hms46_0 := NB330_304.out
      have hs48 : w41.cell? ⟨gb330, 3, none⟩ = some (.slice none 0 0) := (blk_cell BK330.out 3).trans rfl
      have hfs48 := blk_frozen BK330.out 3
      have hns48_0 := NB304_330.out
      have hms48_0 := NB330_304.out
      refine skip_ (w1 := ?_) (by rfl) rfl ?_ ?_
      rotate_left
      ·go_simp
       rfl
      refine hK.out _ _ ⟨((cell_far (p := ⟨gb330, _, none⟩) NB304_330.out _).trans (((cell_far (p := ⟨gb330, _, none⟩) NB304_330.out _).trans (((cell_far (p := ⟨gb330, _, none⟩) NB304_330.out _).trans (((cell_far (p := ⟨gb330, _, none⟩) NB304_330.out _).trans (hHeld.1)))))))), ((cell_far (p := ⟨gb330, _, none⟩) NB304_330.out _).trans (((cell_far (p := ⟨gb330, _, none⟩) NB304_330.out _).trans (((cell_far (p := ⟨gb330, _, none⟩) NB304_330.out _).trans (((cell_far (p := ⟨gb330, _, none⟩) NB304_330.out _).trans (hHeld.2.1)))))))), ((cell_far (p := ⟨gb330, _, none⟩) NB304_330.out _).trans (((cell_far (p := ⟨gb330, _, none⟩) NB304_330.out _).trans (((cell_far (p := ⟨gb330, _, none⟩) NB304_330.out _).trans (((cell_far (p := ⟨gb330, _, none⟩) NB304_330.out _).trans (hHeld.2.2.1)))))))), ((cell_far (p := ⟨gb330, _, none⟩) NB304_330.out _).trans (((cell_far (p := ⟨gb330, _, none⟩) NB304_330.out _).trans (((cell_far (p := ⟨gb330, _, none⟩) NB304_330.out _).trans (((cell_far (p := ⟨gb330, _, none⟩) NB304_330.out _).trans (hHeld.2.2.2))))))))⟩ (fun hHeld => ?_)
      clear hK K
      refine done_ (done_of HT_.out KR) ?_
      try go_wp2_with (first | ((with_reducible refine gate_callee (f := 40) rfl ?_); refine goesL_ (some 33) rfl rfl Try.func40 KR rfl #[.slice A0 l0.length c0] rfl AR ?_; (with_reducible refine (laws_toOpS.calls k _ _ l0 t331 _ ?side1 ?side2 A15.out).mono ?_); (case side1 => exact Kd.C_below HR0.out PB); (case side2 => exact HC0.out); rintro e w49 ⟨v332, rfl, ho0, hb⟩; refine ⟨_, rfl, ?_⟩; replace HO313 := ak (Kd.R_below (Re1 HO313 BK330) hb); replace HO316 := ak (Kd.R_below (Re1 HO316 BK330) hb); replace HO319 := ak (Kd.R_below (Re1 HO319 BK330) hb); replace HO323 := ak (Kd.R_below (Re1 HO323 BK330) hb); replace HO326 := ak (Kd.R_below (Re1 HO326 BK330) hb); replace HO329 := ak (Kd.R_below (Re1 HO329 BK330) hb); have HO333 := ak (Kd.R_lower (Kd.R_new' ho0 (Kd.R_lt (Re1 HO309 BK330))) (below_size PB)); replace HO309 := ak (Kd.R_elder' (Re1 HO309 BK330) (Kd.R_base ho0) hb); replace BK304 := kf BK304 hb; replace BK330 := kp (cs' := #[.int .i64 t320, .slice Ao43 t321.length co43, .slice Ao45 t324.length co45, .slice Ao47 t327.length co47]) BK330 hb; replace HB := bs HB hb; (try clear hb); (try clear hb2); (try clear hk); (try clear hi); (try clear ho0); have hnb50 := NB304_330.out; have hnc50 := NB330_304.out; obtain ⟨hcz51_0, hcz51_1, hcz51_2, hcz51_3, hfz51_0, hfz51_1, hfz51_2, hfz51_3⟩ := bc4 BK304) | ((with_reducible refine gate_callee (f := 41) rfl ?_); refine goesL_ (some 35) rfl rfl Try.func41 KR rfl #[.agg #[.int .i64 a1_0, .slice A1_1 l1_1.length c1_1, .slice A1_2 l1_2.length c1_2, .slice A1_3 l1_3.length c1_3]] rfl AR ?_; (with_reducible refine (laws_toState.calls k a1_0 _ _ l1_1 _ _ l1_2 _ _ l1_3 t334 t335 t338 t341 _ ?side1 ?side2 ?side3 ?side4 ?side5 ?side6 A16.out).mono ?_); (case side1 => exact CR (Kd.C_below HR1_1.out HB.out)); (case side2 => exact HC1_1.out); (case side3 => exact CR (Kd.C_below HR1_2.out HB.out)); (case side4 => exact HC1_2.out); (case side5 => exact CR (Kd.C_below HR1_3.out HB.out)); (case side6 => exact HC1_3.out); rintro e w52 ⟨v336, v339, v342, rfl, ho0, ho1, ho2, hb⟩; refine ⟨_, rfl, ?_⟩; replace HO309 := Rb HO309 hb; replace HO333 := Rb HO333 hb; have HO337 := Rn6 ho0 HB HO313 HO316 HO319 HO323 HO326 HO329; have HO340 := Rn6 ho1 HB HO313 HO316 HO319 HO323 HO326 HO329; have HO343 := Rn6 ho2 HB HO313 HO316 HO319 HO323 HO326 HO329; replace HO313 := (Ry3 HO313 hb ho0 ho1 ho2); replace HO316 := (Ry3 HO316 hb ho0 ho1 ho2); replace HO319 := (Ry3 HO319 hb ho0 ho1 ho2); replace HO323 := (Ry3 HO323 hb ho0 ho1 ho2); replace HO326 := (Ry3 HO326 hb ho0 ho1 ho2); replace HO329 := (Ry3 HO329 hb ho0 ho1 ho2); replace BK304 := kf BK304 hb; replace BK330 := kf BK330 hb; replace HB := bs HB hb; (try clear hb); (try clear hb2); (try clear hk); (try clear hi); (try clear ho0); (try clear ho1); (try clear ho2)) | ((with_reducible refine gate_dst (N := 10) rfl ?_); refine bx_ (N := 10) #[.int .i64 0, .slice none 0 0, .slice none 0 0, .slice none 0 0] 45 ?_; intro gb344 hg w53 hbox hb; replace HO309 := Rb HO309 hb; replace HO313 := Rb HO313 hb; replace HO316 := Rb HO316 hb; replace HO319 := Rb HO319 hb; replace HO323 := Rb HO323 hb; replace HO326 := Rb HO326 hb; replace HO329 := Rb HO329 hb; replace HO333 := Rb HO333 hb; replace HO337 := Rb HO337 hb; replace HO340 := Rb HO340 hb; replace HO343 := Rb HO343 hb; have BK344 := ak hbox; have GW344 := gy hg HB; have GE344 := gy hg HB; replace HB := bs HB hb; have NB304_344 := gm hg BK304; have NB344_304 := gn hg BK304; replace BK304 := kf BK304 hb; have NB330_344 := gm hg BK330; have NB344_330 := gn hg BK330; replace BK330 := kf BK330 hb; clear hb hbox hg; have hnb54 := NB344_304.out; have hnc54 := NB304_344.out; have hnb55 := NB344_330.out; have hnc55 := NB330_344.out; obtain ⟨hcz56_0, hcz56_1, hcz56_2, hcz56_3, hfz56_0, hfz56_1, hfz56_2, hfz56_3⟩ := bc4 BK344; obtain ⟨Ao57, co57, eo57⟩ := Kd.R_slice HO337.out; subst eo57; obtain ⟨Ao58, co58, eo58⟩ := Kd.R_slice HO340.out; subst eo58; obtain ⟨Ao59, co59, eo59⟩ := Kd.R_slice HO343.out; subst eo59; obtain ⟨Ao60, co60, eo60⟩ := Kd.R_slice HO333.out; subst eo60) | ((with_reducible refine gate_callee (f := 20) rfl ?_); refine goesL_ (some 39) rfl rfl Try.func20 KR rfl #[.slice Ao60 t331.length co60, .agg #[.int .i64 t334, .slice Ao57 t335.length co57, .slice Ao58 t338.length co58, .slice Ao59 t341.length co59], .int .i64 a2] rfl AR ?_; (with_reducible refine (impl_StepState.calls k _ _ t331 t334 _ _ t335 _ _ t338 _ _ t341 a2 t345 t346 t349 t352 _ ?side1 ?side2 ?side3 ?side4 ?side5 ?side6 ?side7 ?side8 A17.out).mono ?_); (case side1 => exact (Kd.R_reads' (Re1 HO333 BK344)).2.2); (case side2 => exact (Kd.R_reads' HO333.out).2.1); (case side3 => exact (Kd.R_reads' (Re1 HO337 BK344)).2.2); (case side4 => exact (Kd.R_reads' HO337.out).2.1); (case side5 => exact (Kd.R_reads' (Re1 HO340 BK344)).2.2); (case side6 => exact (Kd.R_reads' HO340.out).2.1); (case side7 => exact (Kd.R_reads' (Re1 HO343 BK344)).2.2); (case side8 => exact (Kd.R_reads' HO343.out).2.1); rintro e w61 ⟨v347, v350, v353, rfl, ho0, ho1, ho2, hb⟩; refine ⟨_, rfl, ?_⟩; replace HO309 := ak (Kd.R_below (Re1 HO309 BK344) hb); replace HO333 := ak (Kd.R_below (Re1 HO333 BK344) hb); have HO348 := ak (Kd.R_lower (Kd.R_new' (Kd.R_new' (Kd.R_new' (Kd.R_new' (Kd.R_new' (Kd.R_new' (Kd.R_new' (Kd.R_new' (Kd.R_new' ho0 (Kd.R_lt (Re1 HO313 BK344))) (Kd.R_lt (Re1 HO316 BK344))) (Kd.R_lt (Re1 HO319 BK344))) (Kd.R_lt (Re1 HO323 BK344))) (Kd.R_lt (Re1 HO326 BK344))) (Kd.R_lt (Re1 HO329 BK344))) (Kd.R_lt (Re1 HO337 BK344))) (Kd.R_lt (Re1 HO340 BK344))) (Kd.R_lt (Re1 HO343 BK344))) (below_size PB)); have HO351 := ak (Kd.R_lower (Kd.R_new' (Kd.R_new' (Kd.R_new' (Kd.R_new' (Kd.R_new' (Kd.R_new' (Kd.R_new' (Kd.R_new' (Kd.R_new' ho1 (Kd.R_lt (Re1 HO313 BK344))) (Kd.R_lt (Re1 HO316 BK344))) (Kd.R_lt (Re1 HO319 BK344))) (Kd.R_lt (Re1 HO323 BK344))) (Kd.R_lt (Re1 HO326 BK344))) (Kd.R_lt (Re1 HO329 BK344))) (Kd.R_lt (Re1 HO337 BK344))) (Kd.R_lt (Re1 HO340 BK344))) (Kd.R_lt (Re1 HO343 BK344))) (below_size PB)); have HO354 := ak (Kd.R_lower (Kd.R_new' (Kd.R_new' (Kd.R_new' (Kd.R_new' (Kd.R_new' (Kd.R_new' (Kd.R_new' (Kd.R_new' (Kd.R_new' ho2 (Kd.R_lt (Re1 HO313 BK344))) (Kd.R_lt (Re1 HO316 BK344))) (Kd.R_lt (Re1 HO319 BK344))) (Kd.R_lt (Re1 HO323 BK344))) (Kd.R_lt (Re1 HO326 BK344))) (Kd.R_lt (Re1 HO329 BK344))) (Kd.R_lt (Re1 HO337 BK344))) (Kd.R_lt (Re1 HO340 BK344))) (Kd.R_lt (Re1 HO343 BK344))) (below_size PB)); replace HO313 := ak (Kd.R_mono (Kd.R_told (Kd.R_told (Kd.R_told (Kd.R_old (Re1 HO313 BK344) hb) (Kd.R_base ho0)) (Kd.R_base ho1)) (Kd.R_base ho2)) (fun _ h_ => h_.1)); replace HO316 := ak (Kd.R_mono (Kd.R_told (Kd.R_told (Kd.R_told (Kd.R_old (Re1 HO316 BK344) hb) (Kd.R_base ho0)) (Kd.R_base ho1)) (Kd.R_base ho2)) (fun _ h_ => h_.1)); replace HO319 := ak (Kd.R_mono (Kd.R_told (Kd.R_told (Kd.R_told (Kd.R_old (Re1 HO319 BK344) hb) (Kd.R_base ho0)) (Kd.R_base ho1)) (Kd.R_base ho2)) (fun _ h_ => h_.1)); replace HO323 := ak (Kd.R_mono (Kd.R_told (Kd.R_told (Kd.R_told (Kd.R_old (Re1 HO323 BK344) hb) (Kd.R_base ho0)) (Kd.R_base ho1)) (Kd.R_base ho2)) (fun _ h_ => h_.1)); replace HO326 := ak (Kd.R_mono (Kd.R_told (Kd.R_told (Kd.R_told (Kd.R_old (Re1 HO326 BK344) hb) (Kd.R_base ho0)) (Kd.R_base ho1)) (Kd.R_base ho2)) (fun _ h_ => h_.1)); replace HO329 := ak (Kd.R_mono (Kd.R_told (Kd.R_told (Kd.R_told (Kd.R_old (Re1 HO329 BK344) hb) (Kd.R_base ho0)) (Kd.R_base ho1)) (Kd.R_base ho2)) (fun _ h_ => h_.1)); replace HO337 := ak (Kd.R_mono (Kd.R_told (Kd.R_told (Kd.R_told (Kd.R_old (Re1 HO337 BK344) hb) (Kd.R_base ho0)) (Kd.R_base ho1)) (Kd.R_base ho2)) (fun _ h_ => h_.1)); replace HO340 := ak (Kd.R_mono (Kd.R_told (Kd.R_told (Kd.R_told (Kd.R_old (Re1 HO340 BK344) hb) (Kd.R_base ho0)) (Kd.R_base ho1)) (Kd.R_base ho2)) (fun _ h_ => h_.1)); replace HO343 := ak (Kd.R_mono (Kd.R_told (Kd.R_told (Kd.R_told (Kd.R_old (Re1 HO343 BK344) hb) (Kd.R_base ho0)) (Kd.R_base ho1)) (Kd.R_base ho2)) (fun _ h_ => h_.1)); replace BK304 := kf BK304 hb; replace BK330 := kf BK330 hb; replace BK344 := kp (cs' := #[.int .i64 t334, .slice Ao57 t335.length co57, .slice Ao58 t338.length co58, .slice Ao59 t341.length co59]) BK344 hb; replace HB := bs HB hb; (try clear hb); (try clear hb2); (try clear hk); (try clear hi); (try clear ho0); (try clear ho1); (try clear ho2)) | ((with_reducible refine gate_dst (N := 11) rfl ?_); refine bx_ (N := 11) #[.int .i64 0, .slice none 0 0, .slice none 0 0, .slice none 0 0] 45 ?_; intro gb355 hg w62 hbox hb; replace HO309 := Rb HO309 hb; replace HO313 := Rb HO313 hb; replace HO316 := Rb HO316 hb; replace HO319 := Rb HO319 hb; replace HO323 := Rb HO323 hb; replace HO326 := Rb HO326 hb; replace HO329 := Rb HO329 hb; replace HO333 := Rb HO333 hb; replace HO337 := Rb HO337 hb; replace HO340 := Rb HO340 hb; replace HO343 := Rb HO343 hb; replace HO348 := Rb HO348 hb; replace HO351 := Rb HO351 hb; replace HO354 := Rb HO354 hb; have BK355 := ak hbox; have GW355 := gy hg HB; have GE355 := gy hg HB; replace HB := bs HB hb; have NB304_355 := gm hg BK304; have NB355_304 := gn hg BK304; replace BK304 := kf BK304 hb; have NB330_355 := gm hg BK330; have NB355_330 := gn hg BK330; replace BK330 := kf BK330 hb; have NB344_355 := gm hg BK344; have NB355_344 := gn hg BK344; replace BK344 := kf BK344 hb; clear hb hbox hg; have hnb63 := NB355_304.out; have hnc63 := NB304_355.out; have hnb64 := NB355_330.out; have hnc64 := NB330_355.out; have hnb65 := NB355_344.out; have hnc65 := NB344_355.out; obtain ⟨hcz66_0, hcz66_1, hcz66_2, hcz66_3, hfz66_0, hfz66_1, hfz66_2, hfz66_3⟩ := bc4 BK355; obtain ⟨Ao67, co67, eo67⟩ := Kd.R_slice HO348.out; subst eo67; obtain ⟨Ao68, co68, eo68⟩ := Kd.R_slice HO351.out; subst eo68; obtain ⟨Ao69, co69, eo69⟩ := Kd.R_slice HO354.out; subst eo69; obtain ⟨hcz70_0, hcz70_1, hcz70_2, hcz70_3, hfz70_0, hfz70_1, hfz70_2, hfz70_3⟩ := bc4 BK330) | ((with_reducible refine gate_callee (f := 42) rfl ?_); refine goesL_ (some 42) rfl rfl Try.func42 KR rfl #[.agg #[.int .i64 t345, .slice Ao67 t346.length co67, .slice Ao68 t349.length co68, .slice Ao69 t352.length co69], .agg #[.int .i64 t320, .slice Ao43 t321.length co43, .slice Ao45 t324.length co45, .slice Ao47 t327.length co47]] rfl AR ?_; (with_reducible refine (laws_eqState.calls k t345 _ _ t346 _ _ t349 _ _ t352 t320 _ _ t321 _ _ t324 _ _ t327 true _ ?side1 ?side2 ?side3 ?side4 ?side5 ?side6 ?side7 ?side8 ?side9 ?side10 ?side11 ?side12 A18.out).mono ?_); (case side1 => exact (Kd.R_reads' (Re1 HO348 BK355)).2.2); (case side2 => exact (Kd.R_reads' HO348.out).2.1); (case side3 => exact (Kd.R_reads' (Re1 HO351 BK355)).2.2); (case side4 => exact (Kd.R_reads' HO351.out).2.1); (case side5 => exact (Kd.R_reads' (Re1 HO354 BK355)).2.2); (case side6 => exact (Kd.R_reads' HO354.out).2.1); (case side7 => exact (Kd.R_reads' (Re1 HO323 BK355)).2.2); (case side8 => exact (Kd.R_reads' HO323.out).2.1); (case side9 => exact (Kd.R_reads' (Re1 HO326 BK355)).2.2); (case side10 => exact (Kd.R_reads' HO326.out).2.1); (case side11 => exact (Kd.R_reads' (Re1 HO329 BK355)).2.2); (case side12 => exact (Kd.R_reads' HO329.out).2.1); rintro e w71 ⟨rfl, hb⟩; refine ⟨_, rfl, ?_⟩; replace HO309 := ak (Kd.R_below (Re1 HO309 BK355) hb); replace HO313 := ak (Kd.R_below (Re1 HO313 BK355) hb); replace HO316 := ak (Kd.R_below (Re1 HO316 BK355) hb); replace HO319 := ak (Kd.R_below (Re1 HO319 BK355) hb); replace HO323 := ak (Kd.R_below (Re1 HO323 BK355) hb); replace HO326 := ak (Kd.R_below (Re1 HO326 BK355) hb); replace HO329 := ak (Kd.R_below (Re1 HO329 BK355) hb); replace HO333 := ak (Kd.R_below (Re1 HO333 BK355) hb); replace HO337 := ak (Kd.R_below (Re1 HO337 BK355) hb); replace HO340 := ak (Kd.R_below (Re1 HO340 BK355) hb); replace HO343 := ak (Kd.R_below (Re1 HO343 BK355) hb); replace HO348 := ak (Kd.R_below (Re1 HO348 BK355) hb); replace HO351 := ak (Kd.R_below (Re1 HO351 BK355) hb); replace HO354 := ak (Kd.R_below (Re1 HO354 BK355) hb); replace BK304 := kf BK304 hb; replace BK330 := kf BK330 hb; replace BK344 := kf BK344 hb; replace BK355 := kp (cs' := #[.int .i64 t345, .slice Ao67 t346.length co67, .slice Ao68 t349.length co68, .slice Ao69 t352.length co69]) BK355 hb; replace HB := bs HB hb; (try clear hb); (try clear hb2); (try clear hk); (try clear hi)) | ((with_reducible refine gate_callee (f := 40) rfl ?_); refine goesL_ (some 46) rfl rfl Try.func40 KR rfl #[.slice A0 l0.length c0] rfl AR ?_; (with_reducible refine (laws_toOpS.calls k _ _ l0 t357 _ ?side1 ?side2 A20.out).mono ?_); (case side1 => exact CR (Kd.C_below HR0.out HB.out)); (case side2 => exact HC0.out); rintro e w72 ⟨v358, rfl, ho0, hb⟩; refine ⟨_, rfl, ?_⟩; replace HO313 := Rb HO313 hb; replace HO316 := Rb HO316 hb; replace HO319 := Rb HO319 hb; replace HO323 := Rb HO323 hb; replace HO326 := Rb HO326 hb; replace HO329 := Rb HO329 hb; replace HO337 := Rb HO337 hb; replace HO340 := Rb HO340 hb; replace HO343 := Rb HO343 hb; replace HO348 := Rb HO348 hb; replace HO351 := Rb HO351 hb; replace HO354 := Rb HO354 hb; have HO359 := Rn2 ho0 HB HO309 HO333; replace HO309 := ak (Kd.R_elder' (PR HO309) (Kd.R_base ho0) hb); replace HO333 := ak (Kd.R_elder' (PR HO333) (Kd.R_base ho0) hb); replace BK304 := kf BK304 hb; replace BK330 := kf BK330 hb; replace BK344 := kf BK344 hb; replace BK355 := kf BK355 hb; replace HB := bs HB hb; (try clear hb); (try clear hb2); (try clear hk); (try clear hi); (try clear ho0); obtain ⟨Ao73, co73, eo73⟩ := Kd.R_slice HO359.out; subst eo73) | ((with_reducible refine gate_callee (f := 43) rfl ?_); refine goesL_ (some 47) rfl rfl Try.func43 KR rfl #[.slice Ao60 t331.length co60, .slice Ao73 t357.length co73] rfl AR ?_; (with_reducible refine (laws_eqOpS.calls k _ _ t331 _ _ t357 true _ ?side1 ?side2 ?side3 ?side4 rfl A21.out).mono ?_); (case side1 => exact CR ((Kd.R_reads' HO333.out).2.2)); (case side2 => exact (Kd.R_reads' HO333.out).2.1); (case side3 => exact CR ((Kd.R_reads' HO359.out).2.2)); (case side4 => exact (Kd.R_reads' HO359.out).2.1); rintro e w74 ⟨rfl, hb⟩; refine ⟨_, rfl, ?_⟩; replace HO309 := Rb HO309 hb; replace HO313 := Rb HO313 hb; replace HO316 := Rb HO316 hb; replace HO319 := Rb HO319 hb; replace HO323 := Rb HO323 hb; replace HO326 := Rb HO326 hb; replace HO329 := Rb HO329 hb; replace HO333 := Rb HO333 hb; replace HO337 := Rb HO337 hb; replace HO340 := Rb HO340 hb; replace HO343 := Rb HO343 hb; replace HO348 := Rb HO348 hb; replace HO351 := Rb HO351 hb; replace HO354 := Rb HO354 hb; replace HO359 := Rb HO359 hb; replace BK304 := kf BK304 hb; replace BK330 := kf BK330 hb; replace BK344 := kf BK344 hb; replace BK355 := kf BK355 hb; replace HB := bs HB hb; (try clear hb); (try clear hb2); (try clear hk); (try clear hi)))
      replace HO309 := ak (Kd.R_drew HO309.out)
      replace HO313 := ak (Kd.R_drew HO313.out)
      replace HO316 := ak (Kd.R_drew HO316.out)
      replace HO319 := ak (Kd.R_drew HO319.out)
      replace HO323 := ak (Kd.R_drew HO323.out)
      replace HO326 := ak (Kd.R_drew HO326.out)
      replace HO329 := ak (Kd.R_drew HO329.out)
      replace HO333 := ak (Kd.R_drew HO333.out)
      replace HO337 := ak (Kd.R_drew HO337.out)
      replace HO340 := ak (Kd.R_drew HO340.out)
      replace HO343 := ak (Kd.R_drew HO343.out)
      replace HO348 := ak (Kd.R_drew HO348.out)
      replace HO351 := ak (Kd.R_drew HO351.out)
      replace HO354 := ak (Kd.R_drew HO354.out)
      replace HO359 := ak (Kd.R_drew HO359.out)
      replace BK304 := ak (blk_drew BK304.out)
      replace BK330 := ak (blk_drew BK330.out)
      replace BK344 := ak (blk_drew BK344.out)
      replace BK355 := ak (blk_drew BK355.out)
      replace HB := ak (below_drew1 HB.out)
      refine start_ (n := 5) (S := fun w' => w'.cell? ⟨gb344, 0, none⟩ = some (.int .i64 t334) ∧ w'.cell? ⟨gb344, 1, none⟩ = some (.slice Ao57 t335.length co57) ∧ w'.cell? ⟨gb344, 2, none⟩ = some (.slice Ao58 t338.length co58) ∧ w'.cell? ⟨gb344, 3, none⟩ = some (.slice Ao59 t341.length co59) ∧ w'.cell? ⟨gb304, 0, none⟩ = some (.int .i64 a1_0) ∧ w'.cell? ⟨gb304, 1, none⟩ = some (.slice A1_1 l1_1.length c1_1) ∧ w'.cell? ⟨gb304, 2, none⟩ = some (.slice A1_2 l1_2.length c1_2) ∧ w'.cell? ⟨gb304, 3, none⟩ = some (.slice A1_3 l1_3.length c1_3)) (ds := []) #[false, false, false, false, false] KR rfl rfl ⟨(blk_cell BK344.out 0).trans rfl, (blk_cell BK344.out 1).trans rfl, (blk_cell BK344.out 2).trans rfl, (blk_cell BK344.out 3).trans rfl, (blk_cell BK304.out 0).trans rfl, (blk_cell BK304.out 1).trans rfl, (blk_cell BK304.out 2).trans rfl, (blk_cell BK304.out 3).trans rfl⟩ (fun hHeld => ?_)
      generalize w74.drew = w75 at HO309 HO313 HO316 HO319 HO323 HO326 HO329 HO333 HO337 HO340 HO343 HO348 HO351 HO354 HO359 BK304 BK330 BK344 BK355 HB hHeld ⊢
      refine take_ (i := 0) (N := some 49) (v := ?_) (a' := ?_) #[true, false, false, false, false] rfl rfl KR (fun _ _ _ h => h) (Or.inl ⟨by rfl, ?_⟩) hHeld ?_ ?_
      rotate_left
      ·rintro w' ⟨s0, s1, s2, s3, s4, s5, s6, s7⟩
       go_simp
       with_reducible rfl
      rotate_left
      ·simp only [Act.put, List.setIfInBounds_toArray, List.set_cons_zero, List.set_cons_succ, i64_w, i32_w]
       rfl
      refine take_ (i := 1) (N := some 50) (v := ?_) (a' := ?_) #[true, true, false, false, false] rfl rfl KR (fun _ _ _ h => h) (Or.inl ⟨by rfl, ?_⟩) hHeld ?_ ?_
      rotate_left
      ·rintro w' ⟨s0, s1, s2, s3, s4, s5, s6, s7⟩
       go_simp
       with_reducible rfl
      rotate_left
      ·simp only [Act.put, List.setIfInBounds_toArray, List.set_cons_zero, List.set_cons_succ, i64_w, i32_w]
       rfl
      refine one_ (i := 2) (N := some 51) #[true, true, true, false, false] rfl rfl KR (by decide) (fun K hK => ?_)
      refine goes_ Try.func41 KR rfl #[.agg #[.int .i64 a1_0, .slice A1_1 l1_1.length c1_1, .slice A1_2 l1_2.length c1_2, .slice A1_3 l1_3.length c1_3]] (by rfl) rfl rfl AR ?_
      with_reducible refine (laws_toState.calls k a1_0 _ _ l1_1 _ _ l1_2 _ _ l1_3 t361 t362 t365 t368 _ ?side1 ?side2 ?side3 ?side4 ?side5 ?side6 A23.out).mono ?_
      (case side1 => exact CR (Kd.C_below HR1_1.out HB.out))
      (case side2 => exact HC1_1.out)
      (case side3 => exact CR (Kd.C_below HR1_2.out HB.out))
      (case side4 => exact HC1_2.out)
      (case side5 => exact CR (Kd.C_below HR1_3.out HB.out))
      (case side6 => exact HC1_3.out)
      rintro e w76 ⟨v363, v366, v369, rfl, ho0, ho1, ho2, hb⟩
      refine ⟨_, rfl, ?_⟩
      replace HO309 := Rb HO309 hb
      replace HO333 := Rb HO333 hb
      replace HO359 := Rb HO359 hb
      have HO364 := ak (Kd.R_lower (Kd.R_new' (Kd.R_new' (Kd.R_new' (Kd.R_new' (Kd.R_new' (Kd.R_new' (Kd.R_new' (Kd.R_new' (Kd.R_new' (Kd.R_new' (Kd.R_new' (Kd.R_new' ho0 (Kd.R_lt (PR HO313))) (Kd.R_lt (PR HO316))) (Kd.R_lt (PR HO319))) (Kd.R_lt (PR HO323))) (Kd.R_lt (PR HO326))) (Kd.R_lt (PR HO329))) (Kd.R_lt (PR HO337))) (Kd.R_lt (PR HO340))) (Kd.R_lt (PR HO343))) (Kd.R_lt (PR HO348))) (Kd.R_lt (PR HO351))) (Kd.R_lt (PR HO354))) (below_size PB))
      have HO367 := ak (Kd.R_lower (Kd.R_new' (Kd.R_new' (Kd.R_new' (Kd.R_new' (Kd.R_new' (Kd.R_new' (Kd.R_new' (Kd.R_new' (Kd.R_new' (Kd.R_new' (Kd.R_new' (Kd.R_new' ho1 (Kd.R_lt (PR HO313))) (Kd.R_lt (PR HO316))) (Kd.R_lt (PR HO319))) (Kd.R_lt (PR HO323))) (Kd.R_lt (PR HO326))) (Kd.R_lt (PR HO329))) (Kd.R_lt (PR HO337))) (Kd.R_lt (PR HO340))) (Kd.R_lt (PR HO343))) (Kd.R_lt (PR HO348))) (Kd.R_lt (PR HO351))) (Kd.R_lt (PR HO354))) (below_size PB))
      have HO370 := ak (Kd.R_lower (Kd.R_new' (Kd.R_new' (Kd.R_new' (Kd.R_new' (Kd.R_new' (Kd.R_new' (Kd.R_new' (Kd.R_new' (Kd.R_new' (Kd.R_new' (Kd.R_new' (Kd.R_new' ho2 (Kd.R_lt (PR HO313))) (Kd.R_lt (PR HO316))) (Kd.R_lt (PR HO319))) (Kd.R_lt (PR HO323))) (Kd.R_lt (PR HO326))) (Kd.R_lt (PR HO329))) (Kd.R_lt (PR HO337))) (Kd.R_lt (PR HO340))) (Kd.R_lt (PR HO343))) (Kd.R_lt (PR HO348))) (Kd.R_lt (PR HO351))) (Kd.R_lt (PR HO354))) (below_size PB))
      replace HO313 := (Ry3 HO313 hb ho0 ho1 ho2)
      replace HO316 := (Ry3 HO316 hb ho0 ho1 ho2)
      replace HO319 := (Ry3 HO319 hb ho0 ho1 ho2)
      replace HO323 := (Ry3 HO323 hb ho0 ho1 ho2)
      replace HO326 := (Ry3 HO326 hb ho0 ho1 ho2)
      replace HO329 := (Ry3 HO329 hb ho0 ho1 ho2)
      replace HO337 := (Ry3 HO337 hb ho0 ho1 ho2)
      replace HO340 := (Ry3 HO340 hb ho0 ho1 ho2)
      replace HO343 := (Ry3 HO343 hb ho0 ho1 ho2)
      replace HO348 := (Ry3 HO348 hb ho0 ho1 ho2)
      replace HO351 := (Ry3 HO351 hb ho0 ho1 ho2)
      replace HO354 := (Ry3 HO354 hb ho0 ho1 ho2)
      replace BK304 := kf BK304 hb
      replace BK330 := kf BK330 hb
      replace BK344 := kf BK344 hb
      replace BK355 := kf BK355 hb
      replace HB := bs HB hb
      (try clear hb)
      (try clear hb2)
      (try clear hk)
      (try clear hi)
      (try clear ho0)
      (try clear ho1)
      (try clear ho2)
      obtain ⟨Ao77, co77, eo77⟩ := Kd.R_slice HO364.out
      (first | subst eo77 | (injection eo77 with f1_ f2_ f3_; have f4_ := f1_.symm; have f5_ := f3_.symm; clear f1_ f2_ f3_; subst f4_; subst f5_))
      obtain ⟨Ao78, co78, eo78⟩ := Kd.R_slice HO367.out
      (first | subst eo78 | (injection eo78 with f1_ f2_ f3_; have f4_ := f1_.symm; have f5_ := f3_.symm; clear f1_ f2_ f3_; subst f4_; subst f5_))
      obtain ⟨Ao79, co79, eo79⟩ := Kd.R_slice HO370.out
      (first | subst eo79 | (injection eo79 with f1_ f2_ f3_; have f4_ := f1_.symm; have f5_ := f3_.symm; clear f1_ f2_ f3_; subst f4_; subst f5_))
      refine hK.out _ _ ⟨(blk_cell BK344.out 0).trans rfl, (blk_cell BK344.out 1).trans rfl, (blk_cell BK344.out 2).trans rfl, (blk_cell BK344.out 3).trans rfl, (blk_cell BK304.out 0).trans rfl, (blk_cell BK304.out 1).trans rfl, (blk_cell BK304.out 2).trans rfl, (blk_cell BK304.out 3).trans rfl⟩ (fun hHeld => ?_)
      clear hK K
      refine norm_ (a' := ?_) ?_ ?_
      rotate_left
      ·show Act.put _ (some 51) _ = _
       simp only [Act.put, List.setIfInBounds_toArray, List.set_cons_zero, List.set_cons_succ, i64_w, i32_w]
       rfl
      refine one_ (i := 3) (N := some 52) #[true, true, true, true, false] rfl rfl KR (by decide) (fun K hK => ?_)
      refine goes_ Try.func42 KR rfl #[.agg #[.int .i64 t334, .slice Ao57 t335.length co57, .slice Ao58 t338.length co58, .slice Ao59 t341.length co59], .agg #[.int .i64 t361, .slice Ao77 t362.length co77, .slice Ao78 t365.length co78, .slice Ao79 t368.length co79]] (by rfl) rfl rfl AR ?_
      with_reducible refine (laws_eqState.calls k t334 _ _ t335 _ _ t338 _ _ t341 t361 _ _ t362 _ _ t365 _ _ t368 true _ ?side1 ?side2 ?side3 ?side4 ?side5 ?side6 ?side7 ?side8 ?side9 ?side10 ?side11 ?side12 A24.out).mono ?_
      (case side1 => exact CR ((Kd.R_reads' HO337.out).2.2))
      (case side2 => exact (Kd.R_reads' HO337.out).2.1)
      (case side3 => exact CR ((Kd.R_reads' HO340.out).2.2))
      (case side4 => exact (Kd.R_reads' HO340.out).2.1)
      (case side5 => exact CR ((Kd.R_reads' HO343.out).2.2))
      (case side6 => exact (Kd.R_reads' HO343.out).2.1)
      (case side7 => exact CR ((Kd.R_reads' HO364.out).2.2))
      (case side8 => exact (Kd.R_reads' HO364.out).2.1)
      (case side9 => exact CR ((Kd.R_reads' HO367.out).2.2))
      (case side10 => exact (Kd.R_reads' HO367.out).2.1)
      (case side11 => exact CR ((Kd.R_reads' HO370.out).2.2))
      (case side12 => exact (Kd.R_reads' HO370.out).2.1)
      rintro e w80 ⟨rfl, hb⟩
      refine ⟨_, rfl, ?_⟩
      replace HO309 := Rb HO309 hb
      replace HO313 := Rb HO313 hb
      replace HO316 := Rb HO316 hb
      replace HO319 := Rb HO319 hb
      replace HO323 := Rb HO323 hb
      replace HO326 := Rb HO326 hb
      replace HO329 := Rb HO329 hb
      replace HO333 := Rb HO333 hb
      replace HO337 := Rb HO337 hb
      replace HO340 := Rb HO340 hb
      replace HO343 := Rb HO343 hb
      replace HO348 := Rb HO348 hb
      replace HO351 := Rb HO351 hb
      replace HO354 := Rb HO354 hb
      replace HO359 := Rb HO359 hb
      replace HO364 := Rb HO364 hb
      replace HO367 := Rb HO367 hb
      replace HO370 := Rb HO370 hb
      replace BK304 := kf BK304 hb
      replace BK330 := kf BK330 hb
      replace BK344 := kf BK344 hb
      replace BK355 := kf BK355 hb
      replace HB := bs HB hb
      (try clear hb)
      (try clear hb2)
      (try clear hk)
      (try clear hi)
      refine hK.out _ _ ⟨(blk_cell BK344.out 0).trans rfl, (blk_cell BK344.out 1).trans rfl, (blk_cell BK344.out 2).trans rfl, (blk_cell BK344.out 3).trans rfl, (blk_cell BK304.out 0).trans rfl, (blk_cell BK304.out 1).trans rfl, (blk_cell BK304.out 2).trans rfl, (blk_cell BK304.out 3).trans rfl⟩ (fun hHeld => ?_)
      clear hK K
      refine norm_ (a' := ?_) ?_ ?_
      rotate_left
      ·show Act.put _ (some 52) _ = _
       simp only [Act.put, List.setIfInBounds_toArray, List.set_cons_zero, List.set_cons_succ, i64_w, i32_w]
       rfl
      refine pure_ (i := 4) (N := some 53) (v := ?_) (a' := ?_) #[true, true, true, true, true] rfl rfl KR (fun _ _ _ h => h) (Or.inl ⟨by rfl, ?_⟩) ?_ ?_
      rotate_left
      ·intro w'
       go_simp
       with_reducible rfl
      rotate_left
      ·simp only [Act.put, List.setIfInBounds_toArray, List.set_cons_zero, List.set_cons_succ, i64_w, i32_w]
       rfl
      refine done_ KR ?_
      go_upto_region 21 with (first | ((with_reducible refine gate_callee (f := 44) rfl ?_); refine goesL_ (some 56) rfl rfl Try.func44 KR rfl #[.slice Ao60 t331.length co60, .int .i64 1] rfl AR ?_; (with_reducible refine (laws_markOpS.calls k (fun k_ => some k_ = (.slice Ao60 t331.length co60 : Value).ownBlock) (.slice Ao60 t331.length co60) t331 1 t372 t373 w _ ?side1 ?side2 A26.out).mono ?_); (case side1 => exact PL); (case side2 => exact Kd.R_tight rfl HO333.out); rintro e w81 ⟨rfl, hy0, hb, hkp⟩; refine ⟨_, rfl, ?_⟩; replace BK304 := ak (blk_kept (PK BK304) hkp (fun hs_ => (fun e_ => (Kd.R_ne HO333.out BK304.out (by decide)) e_) hs_)); replace HO309 := ak (Kd.R_mono (ok' := fun k_ => some k_ ≠ (.slice Ao60 t331.length co60 : Value).ownBlock ∧ some k_ ≠ (.slice Ao73 t357.length co73 : Value).ownBlock) (Kd.R_keptB (HO309.out) hkp (fun k_ hk_ hs_ => by first | exact (hk_.1.2) hs_ | simp_all)) (fun k_ hk_ => by first | exact ⟨hk_.1.1.2, hk_.1.2⟩ | simp_all)); replace HO313 := ak (Kd.R_mono (ok' := fun k_ => some k_ ≠ (v315 : Value).ownBlock ∧ some k_ ≠ (v318 : Value).ownBlock ∧ some k_ ≠ (.slice Ao43 t321.length co43 : Value).ownBlock ∧ some k_ ≠ (.slice Ao45 t324.length co45 : Value).ownBlock ∧ some k_ ≠ (.slice Ao47 t327.length co47 : Value).ownBlock ∧ some k_ ≠ (.slice Ao57 t335.length co57 : Value).ownBlock ∧ some k_ ≠ (.slice Ao58 t338.length co58 : Value).ownBlock ∧ some k_ ≠ (.slice Ao59 t341.length co59 : Value).ownBlock ∧ some k_ ≠ (.slice Ao67 t346.length co67 : Value).ownBlock ∧ some k_ ≠ (.slice Ao68 t349.length co68 : Value).ownBlock ∧ some k_ ≠ (.slice Ao69 t352.length co69 : Value).ownBlock ∧ some k_ ≠ (.slice Ao77 t362.length co77 : Value).ownBlock ∧ some k_ ≠ (.slice Ao78 t365.length co78 : Value).ownBlock ∧ some k_ ≠ (.slice Ao79 t368.length co79 : Value).ownBlock) (Kd.R_keptB ((Kd.R_apart' HO313.out (Kd.R_typed HO333.out) (by decide))) hkp (fun k_ hk_ hs_ => by first | exact (hk_.2) hs_ | simp_all)) (fun k_ hk_ => by first | exact ⟨hk_.1.1.1.1.1.1.1.1.1.1.1.1, hk_.1.1.1.1.1.1.1.1.1.1.1.2.1, hk_.1.1.1.1.1.1.1.1.1.1.1.2.2.1, hk_.1.1.1.1.1.1.1.1.1.1.1.2.2.2.1, hk_.1.1.1.1.1.1.1.1.1.1.1.2.2.2.2, hk_.1.1.1.1.1.1.1.1.1.1.2, hk_.1.1.1.1.1.1.1.1.1.2, hk_.1.1.1.1.1.1.1.1.2, hk_.1.1.1.1.1.1.1.2, hk_.1.1.1.1.1.1.2, hk_.1.1.1.1.1.2, hk_.1.1.1.1.2, hk_.1.1.1.2, hk_.1.1.2⟩ | simp_all)); replace HO316 := ak (Kd.R_mono (ok' := fun k_ => some k_ ≠ (v312 : Value).ownBlock ∧ some k_ ≠ (v318 : Value).ownBlock ∧ some k_ ≠ (.slice Ao43 t321.length co43 : Value).ownBlock ∧ some k_ ≠ (.slice Ao45 t324.length co45 : Value).ownBlock ∧ some k_ ≠ (.slice Ao47 t327.length co47 : Value).ownBlock ∧ some k_ ≠ (.slice Ao57 t335.length co57 : Value).ownBlock ∧ some k_ ≠ (.slice Ao58 t338.length co58 : Value).ownBlock ∧ some k_ ≠ (.slice Ao59 t341.length co59 : Value).ownBlock ∧ some k_ ≠ (.slice Ao67 t346.length co67 : Value).ownBlock ∧ some k_ ≠ (.slice Ao68 t349.length co68 : Value).ownBlock ∧ some k_ ≠ (.slice Ao69 t352.length co69 : Value).ownBlock ∧ some k_ ≠ (.slice Ao77 t362.length co77 : Value).ownBlock ∧ some k_ ≠ (.slice Ao78 t365.length co78 : Value).ownBlock ∧ some k_ ≠ (.slice Ao79 t368.length co79 : Value).ownBlock) (Kd.R_keptB ((Kd.R_apart' HO316.out (Kd.R_typed HO333.out) (by decide))) hkp (fun k_ hk_ hs_ => by first | exact (hk_.2) hs_ | simp_all)) (fun k_ hk_ => by first | exact ⟨hk_.1.1.1.1.1.1.1.1.1.1.1.1, hk_.1.1.1.1.1.1.1.1.1.1.1.2.1, hk_.1.1.1.1.1.1.1.1.1.1.1.2.2.1, hk_.1.1.1.1.1.1.1.1.1.1.1.2.2.2.1, hk_.1.1.1.1.1.1.1.1.1.1.1.2.2.2.2, hk_.1.1.1.1.1.1.1.1.1.1.2, hk_.1.1.1.1.1.1.1.1.1.2, hk_.1.1.1.1.1.1.1.1.2, hk_.1.1.1.1.1.1.1.2, hk_.1.1.1.1.1.1.2, hk_.1.1.1.1.1.2, hk_.1.1.1.1.2, hk_.1.1.1.2, hk_.1.1.2⟩ | simp_all)); replace HO319 := ak (Kd.R_mono (ok' := fun k_ => some k_ ≠ (v312 : Value).ownBlock ∧ some k_ ≠ (v315 : Value).ownBlock ∧ some k_ ≠ (.slice Ao43 t321.length co43 : Value).ownBlock ∧ some k_ ≠ (.slice Ao45 t324.length co45 : Value).ownBlock ∧ some k_ ≠ (.slice Ao47 t327.length co47 : Value).ownBlock ∧ some k_ ≠ (.slice Ao57 t335.length co57 : Value).ownBlock ∧ some k_ ≠ (.slice Ao58 t338.length co58 : Value).ownBlock ∧ some k_ ≠ (.slice Ao59 t341.length co59 : Value).ownBlock ∧ some k_ ≠ (.slice Ao67 t346.length co67 : Value).ownBlock ∧ some k_ ≠ (.slice Ao68 t349.length co68 : Value).ownBlock ∧ some k_ ≠ (.slice Ao69 t352.length co69 : Value).ownBlock ∧ some k_ ≠ (.slice Ao77 t362.length co77 : Value).ownBlock ∧ some k_ ≠ (.slice Ao78 t365.length co78 : Value).ownBlock ∧ some k_ ≠ (.slice Ao79 t368.length co79 : Value).ownBlock) (Kd.R_keptB ((Kd.R_apart' HO319.out (Kd.R_typed HO333.out) (by decide))) hkp (fun k_ hk_ hs_ => by first | exact (hk_.2) hs_ | simp_all)) (fun k_ hk_ => by first | exact ⟨hk_.1.1.1.1.1.1.1.1.1.1.1.1, hk_.1.1.1.1.1.1.1.1.1.1.1.2.1, hk_.1.1.1.1.1.1.1.1.1.1.1.2.2.1, hk_.1.1.1.1.1.1.1.1.1.1.1.2.2.2.1, hk_.1.1.1.1.1.1.1.1.1.1.1.2.2.2.2, hk_.1.1.1.1.1.1.1.1.1.1.2, hk_.1.1.1.1.1.1.1.1.1.2, hk_.1.1.1.1.1.1.1.1.2, hk_.1.1.1.1.1.1.1.2, hk_.1.1.1.1.1.1.2, hk_.1.1.1.1.1.2, hk_.1.1.1.1.2, hk_.1.1.1.2, hk_.1.1.2⟩ | simp_all)); replace HO323 := ak (Kd.R_mono (ok' := fun k_ => some k_ ≠ (v312 : Value).ownBlock ∧ some k_ ≠ (v315 : Value).ownBlock ∧ some k_ ≠ (v318 : Value).ownBlock ∧ some k_ ≠ (.slice Ao45 t324.length co45 : Value).ownBlock ∧ some k_ ≠ (.slice Ao47 t327.length co47 : Value).ownBlock ∧ some k_ ≠ (.slice Ao57 t335.length co57 : Value).ownBlock ∧ some k_ ≠ (.slice Ao58 t338.length co58 : Value).ownBlock ∧ some k_ ≠ (.slice Ao59 t341.length co59 : Value).ownBlock ∧ some k_ ≠ (.slice Ao67 t346.length co67 : Value).ownBlock ∧ some k_ ≠ (.slice Ao68 t349.length co68 : Value).ownBlock ∧ some k_ ≠ (.slice Ao69 t352.length co69 : Value).ownBlock ∧ some k_ ≠ (.slice Ao77 t362.length co77 : Value).ownBlock ∧ some k_ ≠ (.slice Ao78 t365.length co78 : Value).ownBlock ∧ some k_ ≠ (.slice Ao79 t368.length co79 : Value).ownBlock) (Kd.R_keptB ((Kd.R_apart' HO323.out (Kd.R_typed HO333.out) (by decide))) hkp (fun k_ hk_ hs_ => by first | exact (hk_.2) hs_ | simp_all)) (fun k_ hk_ => by first | exact ⟨hk_.1.1.1.1.1.1.1.1.1.1.1.1, hk_.1.1.1.1.1.1.1.1.1.1.1.2.1, hk_.1.1.1.1.1.1.1.1.1.1.1.2.2.1, hk_.1.1.1.1.1.1.1.1.1.1.1.2.2.2.1, hk_.1.1.1.1.1.1.1.1.1.1.1.2.2.2.2, hk_.1.1.1.1.1.1.1.1.1.1.2, hk_.1.1.1.1.1.1.1.1.1.2, hk_.1.1.1.1.1.1.1.1.2, hk_.1.1.1.1.1.1.1.2, hk_.1.1.1.1.1.1.2, hk_.1.1.1.1.1.2, hk_.1.1.1.1.2, hk_.1.1.1.2, hk_.1.1.2⟩ | simp_all)); replace HO326 := ak (Kd.R_mono (ok' := fun k_ => some k_ ≠ (v312 : Value).ownBlock ∧ some k_ ≠ (v315 : Value).ownBlock ∧ some k_ ≠ (v318 : Value).ownBlock ∧ some k_ ≠ (.slice Ao43 t321.length co43 : Value).ownBlock ∧ some k_ ≠ (.slice Ao47 t327.length co47 : Value).ownBlock ∧ some k_ ≠ (.slice Ao57 t335.length co57 : Value).ownBlock ∧ some k_ ≠ (.slice Ao58 t338.length co58 : Value).ownBlock ∧ some k_ ≠ (.slice Ao59 t341.length co59 : Value).ownBlock ∧ some k_ ≠ (.slice Ao67 t346.length co67 : Value).ownBlock ∧ some k_ ≠ (.slice Ao68 t349.length co68 : Value).ownBlock ∧ some k_ ≠ (.slice Ao69 t352.length co69 : Value).ownBlock ∧ some k_ ≠ (.slice Ao77 t362.length co77 : Value).ownBlock ∧ some k_ ≠ (.slice Ao78 t365.length co78 : Value).ownBlock ∧ some k_ ≠ (.slice Ao79 t368.length co79 : Value).ownBlock) (Kd.R_keptB ((Kd.R_apart' HO326.out (Kd.R_typed HO333.out) (by decide))) hkp (fun k_ hk_ hs_ => by first | exact (hk_.2) hs_ | simp_all)) (fun k_ hk_ => by first | exact ⟨hk_.1.1.1.1.1.1.1.1.1.1.1.1, hk_.1.1.1.1.1.1.1.1.1.1.1.2.1, hk_.1.1.1.1.1.1.1.1.1.1.1.2.2.1, hk_.1.1.1.1.1.1.1.1.1.1.1.2.2.2.1, hk_.1.1.1.1.1.1.1.1.1.1.1.2.2.2.2, hk_.1.1.1.1.1.1.1.1.1.1.2, hk_.1.1.1.1.1.1.1.1.1.2, hk_.1.1.1.1.1.1.1.1.2, hk_.1.1.1.1.1.1.1.2, hk_.1.1.1.1.1.1.2, hk_.1.1.1.1.1.2, hk_.1.1.1.1.2, hk_.1.1.1.2, hk_.1.1.2⟩ | simp_all)); replace HO329 := ak (Kd.R_mono (ok' := fun k_ => some k_ ≠ (v312 : Value).ownBlock ∧ some k_ ≠ (v315 : Value).ownBlock ∧ some k_ ≠ (v318 : Value).ownBlock ∧ some k_ ≠ (.slice Ao43 t321.length co43 : Value).ownBlock ∧ some k_ ≠ (.slice Ao45 t324.length co45 : Value).ownBlock ∧ some k_ ≠ (.slice Ao57 t335.length co57 : Value).ownBlock ∧ some k_ ≠ (.slice Ao58 t338.length co58 : Value).ownBlock ∧ some k_ ≠ (.slice Ao59 t341.length co59 : Value).ownBlock ∧ some k_ ≠ (.slice Ao67 t346.length co67 : Value).ownBlock ∧ some k_ ≠ (.slice Ao68 t349.length co68 : Value).ownBlock ∧ some k_ ≠ (.slice Ao69 t352.length co69 : Value).ownBlock ∧ some k_ ≠ (.slice Ao77 t362.length co77 : Value).ownBlock ∧ some k_ ≠ (.slice Ao78 t365.length co78 : Value).ownBlock ∧ some k_ ≠ (.slice Ao79 t368.length co79 : Value).ownBlock) (Kd.R_keptB ((Kd.R_apart' HO329.out (Kd.R_typed HO333.out) (by decide))) hkp (fun k_ hk_ hs_ => by first | exact (hk_.2) hs_ | simp_all)) (fun k_ hk_ => by first | exact ⟨hk_.1.1.1.1.1.1.1.1.1.1.1.1, hk_.1.1.1.1.1.1.1.1.1.1.1.2.1, hk_.1.1.1.1.1.1.1.1.1.1.1.2.2.1, hk_.1.1.1.1.1.1.1.1.1.1.1.2.2.2.1, hk_.1.1.1.1.1.1.1.1.1.1.1.2.2.2.2, hk_.1.1.1.1.1.1.1.1.1.1.2, hk_.1.1.1.1.1.1.1.1.1.2, hk_.1.1.1.1.1.1.1.1.2, hk_.1.1.1.1.1.1.1.2, hk_.1.1.1.1.1.1.2, hk_.1.1.1.1.1.2, hk_.1.1.1.1.2, hk_.1.1.1.2, hk_.1.1.2⟩ | simp_all)); replace BK330 := ak (blk_kept (PK BK330) hkp (fun hs_ => (fun e_ => (Kd.R_ne HO333.out BK330.out (by decide)) e_) hs_)); replace HO337 := ak (Kd.R_mono (ok' := fun k_ => some k_ ≠ (v312 : Value).ownBlock ∧ some k_ ≠ (v315 : Value).ownBlock ∧ some k_ ≠ (v318 : Value).ownBlock ∧ some k_ ≠ (.slice Ao43 t321.length co43 : Value).ownBlock ∧ some k_ ≠ (.slice Ao45 t324.length co45 : Value).ownBlock ∧ some k_ ≠ (.slice Ao47 t327.length co47 : Value).ownBlock ∧ some k_ ≠ (.slice Ao58 t338.length co58 : Value).ownBlock ∧ some k_ ≠ (.slice Ao59 t341.length co59 : Value).ownBlock ∧ some k_ ≠ (.slice Ao67 t346.length co67 : Value).ownBlock ∧ some k_ ≠ (.slice Ao68 t349.length co68 : Value).ownBlock ∧ some k_ ≠ (.slice Ao69 t352.length co69 : Value).ownBlock ∧ some k_ ≠ (.slice Ao77 t362.length co77 : Value).ownBlock ∧ some k_ ≠ (.slice Ao78 t365.length co78 : Value).ownBlock ∧ some k_ ≠ (.slice Ao79 t368.length co79 : Value).ownBlock) (Kd.R_keptB ((Kd.R_apart' HO337.out (Kd.R_typed HO333.out) (by decide))) hkp (fun k_ hk_ hs_ => by first | exact (hk_.2) hs_ | simp_all)) (fun k_ hk_ => by first | exact ⟨hk_.1.1.1.1.1.1.1.1.1.1.1.1.1.2, hk_.1.1.1.1.1.1.1.1.1.1.1.1.2, hk_.1.1.1.1.1.1.1.1.1.1.1.2, hk_.1.1.1.1.1.1.1.1.1.1.2, hk_.1.1.1.1.1.1.1.1.1.2, hk_.1.1.1.1.1.1.1.1.2, hk_.1.1.1.1.1.1.1.1.1.1.1.1.1.1.1, hk_.1.1.1.1.1.1.1.1.1.1.1.1.1.1.2, hk_.1.1.1.1.1.1.1.2, hk_.1.1.1.1.1.1.2, hk_.1.1.1.1.1.2, hk_.1.1.1.1.2, hk_.1.1.1.2, hk_.1.1.2⟩ | simp_all)); replace HO340 := ak (Kd.R_mono (ok' := fun k_ => some k_ ≠ (v312 : Value).ownBlock ∧ some k_ ≠ (v315 : Value).ownBlock ∧ some k_ ≠ (v318 : Value).ownBlock ∧ some k_ ≠ (.slice Ao43 t321.length co43 : Value).ownBlock ∧ some k_ ≠ (.slice Ao45 t324.length co45 : Value).ownBlock ∧ some k_ ≠ (.slice Ao47 t327.length co47 : Value).ownBlock ∧ some k_ ≠ (.slice Ao57 t335.length co57 : Value).ownBlock ∧ some k_ ≠ (.slice Ao59 t341.length co59 : Value).ownBlock ∧ some k_ ≠ (.slice Ao67 t346.length co67 : Value).ownBlock ∧ some k_ ≠ (.slice Ao68 t349.length co68 : Value).ownBlock ∧ some k_ ≠ (.slice Ao69 t352.length co69 : Value).ownBlock ∧ some k_ ≠ (.slice Ao77 t362.length co77 : Value).ownBlock ∧ some k_ ≠ (.slice Ao78 t365.length co78 : Value).ownBlock ∧ some k_ ≠ (.slice Ao79 t368.length co79 : Value).ownBlock) (Kd.R_keptB ((Kd.R_apart' HO340.out (Kd.R_typed HO333.out) (by decide))) hkp (fun k_ hk_ hs_ => by first | exact (hk_.2) hs_ | simp_all)) (fun k_ hk_ => by first | exact ⟨hk_.1.1.1.1.1.1.1.1.1.1.1.1.1.2, hk_.1.1.1.1.1.1.1.1.1.1.1.1.2, hk_.1.1.1.1.1.1.1.1.1.1.1.2, hk_.1.1.1.1.1.1.1.1.1.1.2, hk_.1.1.1.1.1.1.1.1.1.2, hk_.1.1.1.1.1.1.1.1.2, hk_.1.1.1.1.1.1.1.1.1.1.1.1.1.1.1, hk_.1.1.1.1.1.1.1.1.1.1.1.1.1.1.2, hk_.1.1.1.1.1.1.1.2, hk_.1.1.1.1.1.1.2, hk_.1.1.1.1.1.2, hk_.1.1.1.1.2, hk_.1.1.1.2, hk_.1.1.2⟩ | simp_all)); replace HO343 := ak (Kd.R_mono (ok' := fun k_ => some k_ ≠ (v312 : Value).ownBlock ∧ some k_ ≠ (v315 : Value).ownBlock ∧ some k_ ≠ (v318 : Value).ownBlock ∧ some k_ ≠ (.slice Ao43 t321.length co43 : Value).ownBlock ∧ some k_ ≠ (.slice Ao45 t324.length co45 : Value).ownBlock ∧ some k_ ≠ (.slice Ao47 t327.length co47 : Value).ownBlock ∧ some k_ ≠ (.slice Ao57 t335.length co57 : Value).ownBlock ∧ some k_ ≠ (.slice Ao58 t338.length co58 : Value).ownBlock ∧ some k_ ≠ (.slice Ao67 t346.length co67 : Value).ownBlock ∧ some k_ ≠ (.slice Ao68 t349.length co68 : Value).ownBlock ∧ some k_ ≠ (.slice Ao69 t352.length co69 : Value).ownBlock ∧ some k_ ≠ (.slice Ao77 t362.length co77 : Value).ownBlock ∧ some k_ ≠ (.slice Ao78 t365.length co78 : Value).ownBlock ∧ some k_ ≠ (.slice Ao79 t368.length co79 : Value).ownBlock) (Kd.R_keptB ((Kd.R_apart' HO343.out (Kd.R_typed HO333.out) (by decide))) hkp (fun k_ hk_ hs_ => by first | exact (hk_.2) hs_ | simp_all)) (fun k_ hk_ => by first | exact ⟨hk_.1.1.1.1.1.1.1.1.1.1.1.1.1.2, hk_.1.1.1.1.1.1.1.1.1.1.1.1.2, hk_.1.1.1.1.1.1.1.1.1.1.1.2, hk_.1.1.1.1.1.1.1.1.1.1.2, hk_.1.1.1.1.1.1.1.1.1.2, hk_.1.1.1.1.1.1.1.1.2, hk_.1.1.1.1.1.1.1.1.1.1.1.1.1.1.1, hk_.1.1.1.1.1.1.1.1.1.1.1.1.1.1.2, hk_.1.1.1.1.1.1.1.2, hk_.1.1.1.1.1.1.2, hk_.1.1.1.1.1.2, hk_.1.1.1.1.2, hk_.1.1.1.2, hk_.1.1.2⟩ | simp_all)); replace BK344 := ak (blk_kept (PK BK344) hkp (fun hs_ => (fun e_ => (Kd.R_ne HO333.out BK344.out (by decide)) e_) hs_)); replace HO348 := ak (Kd.R_mono (ok' := fun k_ => some k_ ≠ (v312 : Value).ownBlock ∧ some k_ ≠ (v315 : Value).ownBlock ∧ some k_ ≠ (v318 : Value).ownBlock ∧ some k_ ≠ (.slice Ao43 t321.length co43 : Value).ownBlock ∧ some k_ ≠ (.slice Ao45 t324.length co45 : Value).ownBlock ∧ some k_ ≠ (.slice Ao47 t327.length co47 : Value).ownBlock ∧ some k_ ≠ (.slice Ao57 t335.length co57 : Value).ownBlock ∧ some k_ ≠ (.slice Ao58 t338.length co58 : Value).ownBlock ∧ some k_ ≠ (.slice Ao59 t341.length co59 : Value).ownBlock ∧ some k_ ≠ (.slice Ao68 t349.length co68 : Value).ownBlock ∧ some k_ ≠ (.slice Ao69 t352.length co69 : Value).ownBlock ∧ some k_ ≠ (.slice Ao77 t362.length co77 : Value).ownBlock ∧ some k_ ≠ (.slice Ao78 t365.length co78 : Value).ownBlock ∧ some k_ ≠ (.slice Ao79 t368.length co79 : Value).ownBlock) (Kd.R_keptB ((Kd.R_apart' HO348.out (Kd.R_typed HO333.out) (by decide))) hkp (fun k_ hk_ hs_ => by first | exact (hk_.2) hs_ | simp_all)) (fun k_ hk_ => by first | exact ⟨hk_.1.1.1.1.1.1.1.1.1.1.1.1.1.2, hk_.1.1.1.1.1.1.1.1.1.1.1.1.2, hk_.1.1.1.1.1.1.1.1.1.1.1.2, hk_.1.1.1.1.1.1.1.1.1.1.2, hk_.1.1.1.1.1.1.1.1.1.2, hk_.1.1.1.1.1.1.1.1.2, hk_.1.1.1.1.1.1.1.2, hk_.1.1.1.1.1.1.2, hk_.1.1.1.1.1.2, hk_.1.1.1.1.1.1.1.1.1.1.1.1.1.1.1, hk_.1.1.1.1.1.1.1.1.1.1.1.1.1.1.2, hk_.1.1.1.1.2, hk_.1.1.1.2, hk_.1.1.2⟩ | simp_all)); replace HO351 := ak (Kd.R_mono (ok' := fun k_ => some k_ ≠ (v312 : Value).ownBlock ∧ some k_ ≠ (v315 : Value).ownBlock ∧ some k_ ≠ (v318 : Value).ownBlock ∧ some k_ ≠ (.slice Ao43 t321.length co43 : Value).ownBlock ∧ some k_ ≠ (.slice Ao45 t324.length co45 : Value).ownBlock ∧ some k_ ≠ (.slice Ao47 t327.length co47 : Value).ownBlock ∧ some k_ ≠ (.slice Ao57 t335.length co57 : Value).ownBlock ∧ some k_ ≠ (.slice Ao58 t338.length co58 : Value).ownBlock ∧ some k_ ≠ (.slice Ao59 t341.length co59 : Value).ownBlock ∧ some k_ ≠ (.slice Ao67 t346.length co67 : Value).ownBlock ∧ some k_ ≠ (.slice Ao69 t352.length co69 : Value).ownBlock ∧ some k_ ≠ (.slice Ao77 t362.length co77 : Value).ownBlock ∧ some k_ ≠ (.slice Ao78 t365.length co78 : Value).ownBlock ∧ some k_ ≠ (.slice Ao79 t368.length co79 : Value).ownBlock) (Kd.R_keptB ((Kd.R_apart' HO351.out (Kd.R_typed HO333.out) (by decide))) hkp (fun k_ hk_ hs_ => by first | exact (hk_.2) hs_ | simp_all)) (fun k_ hk_ => by first | exact ⟨hk_.1.1.1.1.1.1.1.1.1.1.1.1.1.2, hk_.1.1.1.1.1.1.1.1.1.1.1.1.2, hk_.1.1.1.1.1.1.1.1.1.1.1.2, hk_.1.1.1.1.1.1.1.1.1.1.2, hk_.1.1.1.1.1.1.1.1.1.2, hk_.1.1.1.1.1.1.1.1.2, hk_.1.1.1.1.1.1.1.2, hk_.1.1.1.1.1.1.2, hk_.1.1.1.1.1.2, hk_.1.1.1.1.1.1.1.1.1.1.1.1.1.1.1, hk_.1.1.1.1.1.1.1.1.1.1.1.1.1.1.2, hk_.1.1.1.1.2, hk_.1.1.1.2, hk_.1.1.2⟩ | simp_all)); replace HO354 := ak (Kd.R_mono (ok' := fun k_ => some k_ ≠ (v312 : Value).ownBlock ∧ some k_ ≠ (v315 : Value).ownBlock ∧ some k_ ≠ (v318 : Value).ownBlock ∧ some k_ ≠ (.slice Ao43 t321.length co43 : Value).ownBlock ∧ some k_ ≠ (.slice Ao45 t324.length co45 : Value).ownBlock ∧ some k_ ≠ (.slice Ao47 t327.length co47 : Value).ownBlock ∧ some k_ ≠ (.slice Ao57 t335.length co57 : Value).ownBlock ∧ some k_ ≠ (.slice Ao58 t338.length co58 : Value).ownBlock ∧ some k_ ≠ (.slice Ao59 t341.length co59 : Value).ownBlock ∧ some k_ ≠ (.slice Ao67 t346.length co67 : Value).ownBlock ∧ some k_ ≠ (.slice Ao68 t349.length co68 : Value).ownBlock ∧ some k_ ≠ (.slice Ao77 t362.length co77 : Value).ownBlock ∧ some k_ ≠ (.slice Ao78 t365.length co78 : Value).ownBlock ∧ some k_ ≠ (.slice Ao79 t368.length co79 : Value).ownBlock) (Kd.R_keptB ((Kd.R_apart' HO354.out (Kd.R_typed HO333.out) (by decide))) hkp (fun k_ hk_ hs_ => by first | exact (hk_.2) hs_ | simp_all)) (fun k_ hk_ => by first | exact ⟨hk_.1.1.1.1.1.1.1.1.1.1.1.1.1.2, hk_.1.1.1.1.1.1.1.1.1.1.1.1.2, hk_.1.1.1.1.1.1.1.1.1.1.1.2, hk_.1.1.1.1.1.1.1.1.1.1.2, hk_.1.1.1.1.1.1.1.1.1.2, hk_.1.1.1.1.1.1.1.1.2, hk_.1.1.1.1.1.1.1.2, hk_.1.1.1.1.1.1.2, hk_.1.1.1.1.1.2, hk_.1.1.1.1.1.1.1.1.1.1.1.1.1.1.1, hk_.1.1.1.1.1.1.1.1.1.1.1.1.1.1.2, hk_.1.1.1.1.2, hk_.1.1.1.2, hk_.1.1.2⟩ | simp_all)); replace BK355 := ak (blk_kept (PK BK355) hkp (fun hs_ => (fun e_ => (Kd.R_ne HO333.out BK355.out (by decide)) e_) hs_)); replace HO359 := ak (Kd.R_mono (ok' := fun k_ => some k_ ≠ (v308 : Value).ownBlock ∧ some k_ ≠ (.slice Ao60 t331.length co60 : Value).ownBlock) (Kd.R_keptB (HO359.out) hkp (fun k_ hk_ hs_ => by first | exact (hk_.2) hs_ | simp_all)) (fun k_ hk_ => by first | exact ⟨hk_.1.1.2, hk_.1.2⟩ | simp_all)); replace HO364 := ak (Kd.R_mono (ok' := fun k_ => some k_ ≠ (v312 : Value).ownBlock ∧ some k_ ≠ (v315 : Value).ownBlock ∧ some k_ ≠ (v318 : Value).ownBlock ∧ some k_ ≠ (.slice Ao43 t321.length co43 : Value).ownBlock ∧ some k_ ≠ (.slice Ao45 t324.length co45 : Value).ownBlock ∧ some k_ ≠ (.slice Ao47 t327.length co47 : Value).ownBlock ∧ some k_ ≠ (.slice Ao57 t335.length co57 : Value).ownBlock ∧ some k_ ≠ (.slice Ao58 t338.length co58 : Value).ownBlock ∧ some k_ ≠ (.slice Ao59 t341.length co59 : Value).ownBlock ∧ some k_ ≠ (.slice Ao67 t346.length co67 : Value).ownBlock ∧ some k_ ≠ (.slice Ao68 t349.length co68 : Value).ownBlock ∧ some k_ ≠ (.slice Ao69 t352.length co69 : Value).ownBlock ∧ some k_ ≠ (.slice Ao78 t365.length co78 : Value).ownBlock ∧ some k_ ≠ (.slice Ao79 t368.length co79 : Value).ownBlock) (Kd.R_keptB ((Kd.R_apart' HO364.out (Kd.R_typed HO333.out) (by decide))) hkp (fun k_ hk_ hs_ => by first | exact (hk_.2) hs_ | simp_all)) (fun k_ hk_ => by first | exact ⟨hk_.1.1.1.1.1.1.1.1.1.1.1.1.1.2, hk_.1.1.1.1.1.1.1.1.1.1.1.1.2, hk_.1.1.1.1.1.1.1.1.1.1.1.2, hk_.1.1.1.1.1.1.1.1.1.1.2, hk_.1.1.1.1.1.1.1.1.1.2, hk_.1.1.1.1.1.1.1.1.2, hk_.1.1.1.1.1.1.1.2, hk_.1.1.1.1.1.1.2, hk_.1.1.1.1.1.2, hk_.1.1.1.1.2, hk_.1.1.1.2, hk_.1.1.2, hk_.1.1.1.1.1.1.1.1.1.1.1.1.1.1.1, hk_.1.1.1.1.1.1.1.1.1.1.1.1.1.1.2⟩ | simp_all)); replace HO367 := ak (Kd.R_mono (ok' := fun k_ => some k_ ≠ (v312 : Value).ownBlock ∧ some k_ ≠ (v315 : Value).ownBlock ∧ some k_ ≠ (v318 : Value).ownBlock ∧ some k_ ≠ (.slice Ao43 t321.length co43 : Value).ownBlock ∧ some k_ ≠ (.slice Ao45 t324.length co45 : Value).ownBlock ∧ some k_ ≠ (.slice Ao47 t327.length co47 : Value).ownBlock ∧ some k_ ≠ (.slice Ao57 t335.length co57 : Value).ownBlock ∧ some k_ ≠ (.slice Ao58 t338.length co58 : Value).ownBlock ∧ some k_ ≠ (.slice Ao59 t341.length co59 : Value).ownBlock ∧ some k_ ≠ (.slice Ao67 t346.length co67 : Value).ownBlock ∧ some k_ ≠ (.slice Ao68 t349.length co68 : Value).ownBlock ∧ some k_ ≠ (.slice Ao69 t352.length co69 : Value).ownBlock ∧ some k_ ≠ (.slice Ao77 t362.length co77 : Value).ownBlock ∧ some k_ ≠ (.slice Ao79 t368.length co79 : Value).ownBlock) (Kd.R_keptB ((Kd.R_apart' HO367.out (Kd.R_typed HO333.out) (by decide))) hkp (fun k_ hk_ hs_ => by first | exact (hk_.2) hs_ | simp_all)) (fun k_ hk_ => by first | exact ⟨hk_.1.1.1.1.1.1.1.1.1.1.1.1.1.2, hk_.1.1.1.1.1.1.1.1.1.1.1.1.2, hk_.1.1.1.1.1.1.1.1.1.1.1.2, hk_.1.1.1.1.1.1.1.1.1.1.2, hk_.1.1.1.1.1.1.1.1.1.2, hk_.1.1.1.1.1.1.1.1.2, hk_.1.1.1.1.1.1.1.2, hk_.1.1.1.1.1.1.2, hk_.1.1.1.1.1.2, hk_.1.1.1.1.2, hk_.1.1.1.2, hk_.1.1.2, hk_.1.1.1.1.1.1.1.1.1.1.1.1.1.1.1, hk_.1.1.1.1.1.1.1.1.1.1.1.1.1.1.2⟩ | simp_all)); replace HO370 := ak (Kd.R_mono (ok' := fun k_ => some k_ ≠ (v312 : Value).ownBlock ∧ some k_ ≠ (v315 : Value).ownBlock ∧ some k_ ≠ (v318 : Value).ownBlock ∧ some k_ ≠ (.slice Ao43 t321.length co43 : Value).ownBlock ∧ some k_ ≠ (.slice Ao45 t324.length co45 : Value).ownBlock ∧ some k_ ≠ (.slice Ao47 t327.length co47 : Value).ownBlock ∧ some k_ ≠ (.slice Ao57 t335.length co57 : Value).ownBlock ∧ some k_ ≠ (.slice Ao58 t338.length co58 : Value).ownBlock ∧ some k_ ≠ (.slice Ao59 t341.length co59 : Value).ownBlock ∧ some k_ ≠ (.slice Ao67 t346.length co67 : Value).ownBlock ∧ some k_ ≠ (.slice Ao68 t349.length co68 : Value).ownBlock ∧ some k_ ≠ (.slice Ao69 t352.length co69 : Value).ownBlock ∧ some k_ ≠ (.slice Ao77 t362.length co77 : Value).ownBlock ∧ some k_ ≠ (.slice Ao78 t365.length co78 : Value).ownBlock) (Kd.R_keptB ((Kd.R_apart' HO370.out (Kd.R_typed HO333.out) (by decide))) hkp (fun k_ hk_ hs_ => by first | exact (hk_.2) hs_ | simp_all)) (fun k_ hk_ => by first | exact ⟨hk_.1.1.1.1.1.1.1.1.1.1.1.1.1.2, hk_.1.1.1.1.1.1.1.1.1.1.1.1.2, hk_.1.1.1.1.1.1.1.1.1.1.1.2, hk_.1.1.1.1.1.1.1.1.1.1.2, hk_.1.1.1.1.1.1.1.1.1.2, hk_.1.1.1.1.1.1.1.1.2, hk_.1.1.1.1.1.1.1.2, hk_.1.1.1.1.1.1.2, hk_.1.1.1.1.1.2, hk_.1.1.1.1.2, hk_.1.1.1.2, hk_.1.1.2, hk_.1.1.1.1.1.1.1.1.1.1.1.1.1.1.1, hk_.1.1.1.1.1.1.1.1.1.1.1.1.1.1.2⟩ | simp_all)); replace HO333 := ak (Kd.R_reok rfl hy0 (fun k_ e_ => HO333.out.1 k_ e_)); replace HB := ak hb; (try clear hb); (try clear hkp); (try clear hy0); obtain ⟨hcz82_0, hcz82_1, hcz82_2, hcz82_3, hfz82_0, hfz82_1, hfz82_2, hfz82_3⟩ := bc4 BK344) | ((with_reducible refine gate_callee (f := 45) rfl ?_); refine goesL_ (some 59) rfl rfl Try.func45 KR rfl #[.agg #[.int .i64 t334, .slice Ao57 t335.length co57, .slice Ao58 t338.length co58, .slice Ao59 t341.length co59], .int .i64 t372] rfl AR ?_; (with_reducible refine (laws_markState.calls k t334 (fun k_ => some k_ = (.slice Ao57 t335.length co57 : Value).ownBlock) (.slice Ao57 t335.length co57) t335 (fun k_ => some k_ = (.slice Ao58 t338.length co58 : Value).ownBlock) (.slice Ao58 t338.length co58) t338 (fun k_ => some k_ = (.slice Ao59 t341.length co59 : Value).ownBlock) (.slice Ao59 t341.length co59) t341 t372 t374 t375 t376 t377 w _ ?side1 ?side2 ?side3 ?side4 ?side5 ?side6 ?side7 ?side8 ?side9 ?side10 A27.out).mono ?_); (case side1 => exact PL); (case side2 => exact Kd.R_tight rfl HO337.out); (case side3 => exact fun k_ e_ => (HO337.out.1 k_ e_.symm).2.2.2.2.2.2.1); (case side4 => exact fun k_ e_ => (HO337.out.1 k_ e_.symm).2.2.2.2.2.2.2.1); (case side5 => exact Kd.R_tight rfl HO340.out); (case side6 => exact fun k_ e_ => (HO340.out.1 k_ e_.symm).2.2.2.2.2.2.1); (case side7 => exact fun k_ e_ => (HO340.out.1 k_ e_.symm).2.2.2.2.2.2.2.1); (case side8 => exact Kd.R_tight rfl HO343.out); (case side9 => exact fun k_ e_ => (HO343.out.1 k_ e_.symm).2.2.2.2.2.2.1); (case side10 => exact fun k_ e_ => (HO343.out.1 k_ e_.symm).2.2.2.2.2.2.2.1); rintro e w83 ⟨rfl, hy0, hy1, hy2, hb, hkp⟩; refine ⟨_, rfl, ?_⟩; replace BK304 := ak (blk_kept (PK BK304) hkp (fun hs_ => Or.elim hs_ (fun e_ => (fun e_ => (Kd.R_ne HO337.out BK304.out (by decide)) e_) e_) (fun e_ => Or.elim e_ (fun e_ => (fun e_ => (Kd.R_ne HO340.out BK304.out (by decide)) e_) e_) (fun e_ => (fun e_ => (Kd.R_ne HO343.out BK304.out (by decide)) e_) e_)))); replace HO309 := ak (Kd.R_mono (ok' := fun k_ => some k_ ≠ (.slice Ao60 t331.length co60 : Value).ownBlock ∧ some k_ ≠ (.slice Ao73 t357.length co73 : Value).ownBlock) (Kd.R_keptB ((Kd.R_apart' (Kd.R_apart' (Kd.R_apart' HO309.out (Kd.R_typed HO337.out) (by decide)) (Kd.R_typed HO340.out) (by decide)) (Kd.R_typed HO343.out) (by decide))) hkp (fun k_ hk_ hs_ => Or.elim hs_ (fun e_ => (hk_.1.1.2) e_) (fun e_ => Or.elim e_ (fun e_ => (hk_.1.2) e_) (fun e_ => (hk_.2) e_)))) (fun k_ hk_ => by first | exact ⟨hk_.1.1.1.1.1, hk_.1.1.1.1.2⟩ | simp_all)); replace HO313 := ak (Kd.R_mono (ok' := fun k_ => some k_ ≠ (v315 : Value).ownBlock ∧ some k_ ≠ (v318 : Value).ownBlock ∧ some k_ ≠ (.slice Ao43 t321.length co43 : Value).ownBlock ∧ some k_ ≠ (.slice Ao45 t324.length co45 : Value).ownBlock ∧ some k_ ≠ (.slice Ao47 t327.length co47 : Value).ownBlock ∧ some k_ ≠ (.slice Ao57 t335.length co57 : Value).ownBlock ∧ some k_ ≠ (.slice Ao58 t338.length co58 : Value).ownBlock ∧ some k_ ≠ (.slice Ao59 t341.length co59 : Value).ownBlock ∧ some k_ ≠ (.slice Ao67 t346.length co67 : Value).ownBlock ∧ some k_ ≠ (.slice Ao68 t349.length co68 : Value).ownBlock ∧ some k_ ≠ (.slice Ao69 t352.length co69 : Value).ownBlock ∧ some k_ ≠ (.slice Ao77 t362.length co77 : Value).ownBlock ∧ some k_ ≠ (.slice Ao78 t365.length co78 : Value).ownBlock ∧ some k_ ≠ (.slice Ao79 t368.length co79 : Value).ownBlock) (Kd.R_keptB (HO313.out) hkp (fun k_ hk_ hs_ => Or.elim hs_ (fun e_ => (hk_.2.2.2.2.2.1) e_) (fun e_ => Or.elim e_ (fun e_ => (hk_.2.2.2.2.2.2.1) e_) (fun e_ => (hk_.2.2.2.2.2.2.2.1) e_)))) (fun k_ hk_ => by first | exact ⟨hk_.1.1, hk_.1.2.1, hk_.1.2.2.1, hk_.1.2.2.2.1, hk_.1.2.2.2.2.1, hk_.1.2.2.2.2.2.1, hk_.1.2.2.2.2.2.2.1, hk_.1.2.2.2.2.2.2.2.1, hk_.1.2.2.2.2.2.2.2.2.1, hk_.1.2.2.2.2.2.2.2.2.2.1, hk_.1.2.2.2.2.2.2.2.2.2.2.1, hk_.1.2.2.2.2.2.2.2.2.2.2.2.1, hk_.1.2.2.2.2.2.2.2.2.2.2.2.2.1, hk_.1.2.2.2.2.2.2.2.2.2.2.2.2.2⟩ | simp_all)); replace HO316 := ak (Kd.R_mono (ok' := fun k_ => some k_ ≠ (v312 : Value).ownBlock ∧ some k_ ≠ (v318 : Value).ownBlock ∧ some k_ ≠ (.slice Ao43 t321.length co43 : Value).ownBlock ∧ some k_ ≠ (.slice Ao45 t324.length co45 : Value).ownBlock ∧ some k_ ≠ (.slice Ao47 t327.length co47 : Value).ownBlock ∧ some k_ ≠ (.slice Ao57 t335.length co57 : Value).ownBlock ∧ some k_ ≠ (.slice Ao58 t338.length co58 : Value).ownBlock ∧ some k_ ≠ (.slice Ao59 t341.length co59 : Value).ownBlock ∧ some k_ ≠ (.slice Ao67 t346.length co67 : Value).ownBlock ∧ some k_ ≠ (.slice Ao68 t349.length co68 : Value).ownBlock ∧ some k_ ≠ (.slice Ao69 t352.length co69 : Value).ownBlock ∧ some k_ ≠ (.slice Ao77 t362.length co77 : Value).ownBlock ∧ some k_ ≠ (.slice Ao78 t365.length co78 : Value).ownBlock ∧ some k_ ≠ (.slice Ao79 t368.length co79 : Value).ownBlock) (Kd.R_keptB (HO316.out) hkp (fun k_ hk_ hs_ => Or.elim hs_ (fun e_ => (hk_.2.2.2.2.2.1) e_) (fun e_ => Or.elim e_ (fun e_ => (hk_.2.2.2.2.2.2.1) e_) (fun e_ => (hk_.2.2.2.2.2.2.2.1) e_)))) (fun k_ hk_ => by first | exact ⟨hk_.1.1, hk_.1.2.1, hk_.1.2.2.1, hk_.1.2.2.2.1, hk_.1.2.2.2.2.1, hk_.1.2.2.2.2.2.1, hk_.1.2.2.2.2.2.2.1, hk_.1.2.2.2.2.2.2.2.1, hk_.1.2.2.2.2.2.2.2.2.1, hk_.1.2.2.2.2.2.2.2.2.2.1, hk_.1.2.2.2.2.2.2.2.2.2.2.1, hk_.1.2.2.2.2.2.2.2.2.2.2.2.1, hk_.1.2.2.2.2.2.2.2.2.2.2.2.2.1, hk_.1.2.2.2.2.2.2.2.2.2.2.2.2.2⟩ | simp_all)); replace HO319 := ak (Kd.R_mono (ok' := fun k_ => some k_ ≠ (v312 : Value).ownBlock ∧ some k_ ≠ (v315 : Value).ownBlock ∧ some k_ ≠ (.slice Ao43 t321.length co43 : Value).ownBlock ∧ some k_ ≠ (.slice Ao45 t324.length co45 : Value).ownBlock ∧ some k_ ≠ (.slice Ao47 t327.length co47 : Value).ownBlock ∧ some k_ ≠ (.slice Ao57 t335.length co57 : Value).ownBlock ∧ some k_ ≠ (.slice Ao58 t338.length co58 : Value).ownBlock ∧ some k_ ≠ (.slice Ao59 t341.length co59 : Value).ownBlock ∧ some k_ ≠ (.slice Ao67 t346.length co67 : Value).ownBlock ∧ some k_ ≠ (.slice Ao68 t349.length co68 : Value).ownBlock ∧ some k_ ≠ (.slice Ao69 t352.length co69 : Value).ownBlock ∧ some k_ ≠ (.slice Ao77 t362.length co77 : Value).ownBlock ∧ some k_ ≠ (.slice Ao78 t365.length co78 : Value).ownBlock ∧ some k_ ≠ (.slice Ao79 t368.length co79 : Value).ownBlock) (Kd.R_keptB (HO319.out) hkp (fun k_ hk_ hs_ => Or.elim hs_ (fun e_ => (hk_.2.2.2.2.2.1) e_) (fun e_ => Or.elim e_ (fun e_ => (hk_.2.2.2.2.2.2.1) e_) (fun e_ => (hk_.2.2.2.2.2.2.2.1) e_)))) (fun k_ hk_ => by first | exact ⟨hk_.1.1, hk_.1.2.1, hk_.1.2.2.1, hk_.1.2.2.2.1, hk_.1.2.2.2.2.1, hk_.1.2.2.2.2.2.1, hk_.1.2.2.2.2.2.2.1, hk_.1.2.2.2.2.2.2.2.1, hk_.1.2.2.2.2.2.2.2.2.1, hk_.1.2.2.2.2.2.2.2.2.2.1, hk_.1.2.2.2.2.2.2.2.2.2.2.1, hk_.1.2.2.2.2.2.2.2.2.2.2.2.1, hk_.1.2.2.2.2.2.2.2.2.2.2.2.2.1, hk_.1.2.2.2.2.2.2.2.2.2.2.2.2.2⟩ | simp_all)); replace HO323 := ak (Kd.R_mono (ok' := fun k_ => some k_ ≠ (v312 : Value).ownBlock ∧ some k_ ≠ (v315 : Value).ownBlock ∧ some k_ ≠ (v318 : Value).ownBlock ∧ some k_ ≠ (.slice Ao45 t324.length co45 : Value).ownBlock ∧ some k_ ≠ (.slice Ao47 t327.length co47 : Value).ownBlock ∧ some k_ ≠ (.slice Ao57 t335.length co57 : Value).ownBlock ∧ some k_ ≠ (.slice Ao58 t338.length co58 : Value).ownBlock ∧ some k_ ≠ (.slice Ao59 t341.length co59 : Value).ownBlock ∧ some k_ ≠ (.slice Ao67 t346.length co67 : Value).ownBlock ∧ some k_ ≠ (.slice Ao68 t349.length co68 : Value).ownBlock ∧ some k_ ≠ (.slice Ao69 t352.length co69 : Value).ownBlock ∧ some k_ ≠ (.slice Ao77 t362.length co77 : Value).ownBlock ∧ some k_ ≠ (.slice Ao78 t365.length co78 : Value).ownBlock ∧ some k_ ≠ (.slice Ao79 t368.length co79 : Value).ownBlock) (Kd.R_keptB (HO323.out) hkp (fun k_ hk_ hs_ => Or.elim hs_ (fun e_ => (hk_.2.2.2.2.2.1) e_) (fun e_ => Or.elim e_ (fun e_ => (hk_.2.2.2.2.2.2.1) e_) (fun e_ => (hk_.2.2.2.2.2.2.2.1) e_)))) (fun k_ hk_ => by first | exact ⟨hk_.1.1, hk_.1.2.1, hk_.1.2.2.1, hk_.1.2.2.2.1, hk_.1.2.2.2.2.1, hk_.1.2.2.2.2.2.1, hk_.1.2.2.2.2.2.2.1, hk_.1.2.2.2.2.2.2.2.1, hk_.1.2.2.2.2.2.2.2.2.1, hk_.1.2.2.2.2.2.2.2.2.2.1, hk_.1.2.2.2.2.2.2.2.2.2.2.1, hk_.1.2.2.2.2.2.2.2.2.2.2.2.1, hk_.1.2.2.2.2.2.2.2.2.2.2.2.2.1, hk_.1.2.2.2.2.2.2.2.2.2.2.2.2.2⟩ | simp_all)); replace HO326 := ak (Kd.R_mono (ok' := fun k_ => some k_ ≠ (v312 : Value).ownBlock ∧ some k_ ≠ (v315 : Value).ownBlock ∧ some k_ ≠ (v318 : Value).ownBlock ∧ some k_ ≠ (.slice Ao43 t321.length co43 : Value).ownBlock ∧ some k_ ≠ (.slice Ao47 t327.length co47 : Value).ownBlock ∧ some k_ ≠ (.slice Ao57 t335.length co57 : Value).ownBlock ∧ some k_ ≠ (.slice Ao58 t338.length co58 : Value).ownBlock ∧ some k_ ≠ (.slice Ao59 t341.length co59 : Value).ownBlock ∧ some k_ ≠ (.slice Ao67 t346.length co67 : Value).ownBlock ∧ some k_ ≠ (.slice Ao68 t349.length co68 : Value).ownBlock ∧ some k_ ≠ (.slice Ao69 t352.length co69 : Value).ownBlock ∧ some k_ ≠ (.slice Ao77 t362.length co77 : Value).ownBlock ∧ some k_ ≠ (.slice Ao78 t365.length co78 : Value).ownBlock ∧ some k_ ≠ (.slice Ao79 t368.length co79 : Value).ownBlock) (Kd.R_keptB (HO326.out) hkp (fun k_ hk_ hs_ => Or.elim hs_ (fun e_ => (hk_.2.2.2.2.2.1) e_) (fun e_ => Or.elim e_ (fun e_ => (hk_.2.2.2.2.2.2.1) e_) (fun e_ => (hk_.2.2.2.2.2.2.2.1) e_)))) (fun k_ hk_ => by first | exact ⟨hk_.1.1, hk_.1.2.1, hk_.1.2.2.1, hk_.1.2.2.2.1, hk_.1.2.2.2.2.1, hk_.1.2.2.2.2.2.1, hk_.1.2.2.2.2.2.2.1, hk_.1.2.2.2.2.2.2.2.1, hk_.1.2.2.2.2.2.2.2.2.1, hk_.1.2.2.2.2.2.2.2.2.2.1, hk_.1.2.2.2.2.2.2.2.2.2.2.1, hk_.1.2.2.2.2.2.2.2.2.2.2.2.1, hk_.1.2.2.2.2.2.2.2.2.2.2.2.2.1, hk_.1.2.2.2.2.2.2.2.2.2.2.2.2.2⟩ | simp_all)); replace HO329 := ak (Kd.R_mono (ok' := fun k_ => some k_ ≠ (v312 : Value).ownBlock ∧ some k_ ≠ (v315 : Value).ownBlock ∧ some k_ ≠ (v318 : Value).ownBlock ∧ some k_ ≠ (.slice Ao43 t321.length co43 : Value).ownBlock ∧ some k_ ≠ (.slice Ao45 t324.length co45 : Value).ownBlock ∧ some k_ ≠ (.slice Ao57 t335.length co57 : Value).ownBlock ∧ some k_ ≠ (.slice Ao58 t338.length co58 : Value).ownBlock ∧ some k_ ≠ (.slice Ao59 t341.length co59 : Value).ownBlock ∧ some k_ ≠ (.slice Ao67 t346.length co67 : Value).ownBlock ∧ some k_ ≠ (.slice Ao68 t349.length co68 : Value).ownBlock ∧ some k_ ≠ (.slice Ao69 t352.length co69 : Value).ownBlock ∧ some k_ ≠ (.slice Ao77 t362.length co77 : Value).ownBlock ∧ some k_ ≠ (.slice Ao78 t365.length co78 : Value).ownBlock ∧ some k_ ≠ (.slice Ao79 t368.length co79 : Value).ownBlock) (Kd.R_keptB (HO329.out) hkp (fun k_ hk_ hs_ => Or.elim hs_ (fun e_ => (hk_.2.2.2.2.2.1) e_) (fun e_ => Or.elim e_ (fun e_ => (hk_.2.2.2.2.2.2.1) e_) (fun e_ => (hk_.2.2.2.2.2.2.2.1) e_)))) (fun k_ hk_ => by first | exact ⟨hk_.1.1, hk_.1.2.1, hk_.1.2.2.1, hk_.1.2.2.2.1, hk_.1.2.2.2.2.1, hk_.1.2.2.2.2.2.1, hk_.1.2.2.2.2.2.2.1, hk_.1.2.2.2.2.2.2.2.1, hk_.1.2.2.2.2.2.2.2.2.1, hk_.1.2.2.2.2.2.2.2.2.2.1, hk_.1.2.2.2.2.2.2.2.2.2.2.1, hk_.1.2.2.2.2.2.2.2.2.2.2.2.1, hk_.1.2.2.2.2.2.2.2.2.2.2.2.2.1, hk_.1.2.2.2.2.2.2.2.2.2.2.2.2.2⟩ | simp_all)); replace BK330 := ak (blk_kept (PK BK330) hkp (fun hs_ => Or.elim hs_ (fun e_ => (fun e_ => (Kd.R_ne HO337.out BK330.out (by decide)) e_) e_) (fun e_ => Or.elim e_ (fun e_ => (fun e_ => (Kd.R_ne HO340.out BK330.out (by decide)) e_) e_) (fun e_ => (fun e_ => (Kd.R_ne HO343.out BK330.out (by decide)) e_) e_)))); replace HO333 := ak (Kd.R_mono (ok' := fun k_ => some k_ ≠ (v308 : Value).ownBlock ∧ some k_ ≠ (.slice Ao73 t357.length co73 : Value).ownBlock) (Kd.R_keptB ((Kd.R_apart' (Kd.R_apart' (Kd.R_apart' HO333.out (Kd.R_typed HO337.out) (by decide)) (Kd.R_typed HO340.out) (by decide)) (Kd.R_typed HO343.out) (by decide))) hkp (fun k_ hk_ hs_ => Or.elim hs_ (fun e_ => (hk_.1.1.2) e_) (fun e_ => Or.elim e_ (fun e_ => (hk_.1.2) e_) (fun e_ => (hk_.2) e_)))) (fun k_ hk_ => by first | exact ⟨hk_.1.1.1.1.1.2, hk_.1.1.1.1.2⟩ | simp_all)); replace BK344 := ak (blk_kept (PK BK344) hkp (fun hs_ => Or.elim hs_ (fun e_ => (fun e_ => (Kd.R_ne HO337.out BK344.out (by decide)) e_) e_) (fun e_ => Or.elim e_ (fun e_ => (fun e_ => (Kd.R_ne HO340.out BK344.out (by decide)) e_) e_) (fun e_ => (fun e_ => (Kd.R_ne HO343.out BK344.out (by decide)) e_) e_)))); replace HO348 := ak (Kd.R_mono (ok' := fun k_ => some k_ ≠ (v312 : Value).ownBlock ∧ some k_ ≠ (v315 : Value).ownBlock ∧ some k_ ≠ (v318 : Value).ownBlock ∧ some k_ ≠ (.slice Ao43 t321.length co43 : Value).ownBlock ∧ some k_ ≠ (.slice Ao45 t324.length co45 : Value).ownBlock ∧ some k_ ≠ (.slice Ao47 t327.length co47 : Value).ownBlock ∧ some k_ ≠ (.slice Ao57 t335.length co57 : Value).ownBlock ∧ some k_ ≠ (.slice Ao58 t338.length co58 : Value).ownBlock ∧ some k_ ≠ (.slice Ao59 t341.length co59 : Value).ownBlock ∧ some k_ ≠ (.slice Ao68 t349.length co68 : Value).ownBlock ∧ some k_ ≠ (.slice Ao69 t352.length co69 : Value).ownBlock ∧ some k_ ≠ (.slice Ao77 t362.length co77 : Value).ownBlock ∧ some k_ ≠ (.slice Ao78 t365.length co78 : Value).ownBlock ∧ some k_ ≠ (.slice Ao79 t368.length co79 : Value).ownBlock) (Kd.R_keptB (HO348.out) hkp (fun k_ hk_ hs_ => Or.elim hs_ (fun e_ => (hk_.2.2.2.2.2.2.1) e_) (fun e_ => Or.elim e_ (fun e_ => (hk_.2.2.2.2.2.2.2.1) e_) (fun e_ => (hk_.2.2.2.2.2.2.2.2.1) e_)))) (fun k_ hk_ => by first | exact ⟨hk_.1.1, hk_.1.2.1, hk_.1.2.2.1, hk_.1.2.2.2.1, hk_.1.2.2.2.2.1, hk_.1.2.2.2.2.2.1, hk_.1.2.2.2.2.2.2.1, hk_.1.2.2.2.2.2.2.2.1, hk_.1.2.2.2.2.2.2.2.2.1, hk_.1.2.2.2.2.2.2.2.2.2.1, hk_.1.2.2.2.2.2.2.2.2.2.2.1, hk_.1.2.2.2.2.2.2.2.2.2.2.2.1, hk_.1.2.2.2.2.2.2.2.2.2.2.2.2.1, hk_.1.2.2.2.2.2.2.2.2.2.2.2.2.2⟩ | simp_all)); replace HO351 := ak (Kd.R_mono (ok' := fun k_ => some k_ ≠ (v312 : Value).ownBlock ∧ some k_ ≠ (v315 : Value).ownBlock ∧ some k_ ≠ (v318 : Value).ownBlock ∧ some k_ ≠ (.slice Ao43 t321.length co43 : Value).ownBlock ∧ some k_ ≠ (.slice Ao45 t324.length co45 : Value).ownBlock ∧ some k_ ≠ (.slice Ao47 t327.length co47 : Value).ownBlock ∧ some k_ ≠ (.slice Ao57 t335.length co57 : Value).ownBlock ∧ some k_ ≠ (.slice Ao58 t338.length co58 : Value).ownBlock ∧ some k_ ≠ (.slice Ao59 t341.length co59 : Value).ownBlock ∧ some k_ ≠ (.slice Ao67 t346.length co67 : Value).ownBlock ∧ some k_ ≠ (.slice Ao69 t352.length co69 : Value).ownBlock ∧ some k_ ≠ (.slice Ao77 t362.length co77 : Value).ownBlock ∧ some k_ ≠ (.slice Ao78 t365.length co78 : Value).ownBlock ∧ some k_ ≠ (.slice Ao79 t368.length co79 : Value).ownBlock) (Kd.R_keptB (HO351.out) hkp (fun k_ hk_ hs_ => Or.elim hs_ (fun e_ => (hk_.2.2.2.2.2.2.1) e_) (fun e_ => Or.elim e_ (fun e_ => (hk_.2.2.2.2.2.2.2.1) e_) (fun e_ => (hk_.2.2.2.2.2.2.2.2.1) e_)))) (fun k_ hk_ => by first | exact ⟨hk_.1.1, hk_.1.2.1, hk_.1.2.2.1, hk_.1.2.2.2.1, hk_.1.2.2.2.2.1, hk_.1.2.2.2.2.2.1, hk_.1.2.2.2.2.2.2.1, hk_.1.2.2.2.2.2.2.2.1, hk_.1.2.2.2.2.2.2.2.2.1, hk_.1.2.2.2.2.2.2.2.2.2.1, hk_.1.2.2.2.2.2.2.2.2.2.2.1, hk_.1.2.2.2.2.2.2.2.2.2.2.2.1, hk_.1.2.2.2.2.2.2.2.2.2.2.2.2.1, hk_.1.2.2.2.2.2.2.2.2.2.2.2.2.2⟩ | simp_all)); replace HO354 := ak (Kd.R_mono (ok' := fun k_ => some k_ ≠ (v312 : Value).ownBlock ∧ some k_ ≠ (v315 : Value).ownBlock ∧ some k_ ≠ (v318 : Value).ownBlock ∧ some k_ ≠ (.slice Ao43 t321.length co43 : Value).ownBlock ∧ some k_ ≠ (.slice Ao45 t324.length co45 : Value).ownBlock ∧ some k_ ≠ (.slice Ao47 t327.length co47 : Value).ownBlock ∧ some k_ ≠ (.slice Ao57 t335.length co57 : Value).ownBlock ∧ some k_ ≠ (.slice Ao58 t338.length co58 : Value).ownBlock ∧ some k_ ≠ (.slice Ao59 t341.length co59 : Value).ownBlock ∧ some k_ ≠ (.slice Ao67 t346.length co67 : Value).ownBlock ∧ some k_ ≠ (.slice Ao68 t349.length co68 : Value).ownBlock ∧ some k_ ≠ (.slice Ao77 t362.length co77 : Value).ownBlock ∧ some k_ ≠ (.slice Ao78 t365.length co78 : Value).ownBlock ∧ some k_ ≠ (.slice Ao79 t368.length co79 : Value).ownBlock) (Kd.R_keptB (HO354.out) hkp (fun k_ hk_ hs_ => Or.elim hs_ (fun e_ => (hk_.2.2.2.2.2.2.1) e_) (fun e_ => Or.elim e_ (fun e_ => (hk_.2.2.2.2.2.2.2.1) e_) (fun e_ => (hk_.2.2.2.2.2.2.2.2.1) e_)))) (fun k_ hk_ => by first | exact ⟨hk_.1.1, hk_.1.2.1, hk_.1.2.2.1, hk_.1.2.2.2.1, hk_.1.2.2.2.2.1, hk_.1.2.2.2.2.2.1, hk_.1.2.2.2.2.2.2.1, hk_.1.2.2.2.2.2.2.2.1, hk_.1.2.2.2.2.2.2.2.2.1, hk_.1.2.2.2.2.2.2.2.2.2.1, hk_.1.2.2.2.2.2.2.2.2.2.2.1, hk_.1.2.2.2.2.2.2.2.2.2.2.2.1, hk_.1.2.2.2.2.2.2.2.2.2.2.2.2.1, hk_.1.2.2.2.2.2.2.2.2.2.2.2.2.2⟩ | simp_all)); replace BK355 := ak (blk_kept (PK BK355) hkp (fun hs_ => Or.elim hs_ (fun e_ => (fun e_ => (Kd.R_ne HO337.out BK355.out (by decide)) e_) e_) (fun e_ => Or.elim e_ (fun e_ => (fun e_ => (Kd.R_ne HO340.out BK355.out (by decide)) e_) e_) (fun e_ => (fun e_ => (Kd.R_ne HO343.out BK355.out (by decide)) e_) e_)))); replace HO359 := ak (Kd.R_mono (ok' := fun k_ => some k_ ≠ (v308 : Value).ownBlock ∧ some k_ ≠ (.slice Ao60 t331.length co60 : Value).ownBlock) (Kd.R_keptB ((Kd.R_apart' (Kd.R_apart' (Kd.R_apart' HO359.out (Kd.R_typed HO337.out) (by decide)) (Kd.R_typed HO340.out) (by decide)) (Kd.R_typed HO343.out) (by decide))) hkp (fun k_ hk_ hs_ => Or.elim hs_ (fun e_ => (hk_.1.1.2) e_) (fun e_ => Or.elim e_ (fun e_ => (hk_.1.2) e_) (fun e_ => (hk_.2) e_)))) (fun k_ hk_ => by first | exact ⟨hk_.1.1.1.1.1, hk_.1.1.1.1.2⟩ | simp_all)); replace HO337 := ak (Kd.R_reok rfl hy0 (fun k_ e_ => HO337.out.1 k_ e_)); replace HO340 := ak (Kd.R_reok rfl hy1 (fun k_ e_ => HO340.out.1 k_ e_)); replace HO343 := ak (Kd.R_reok rfl hy2 (fun k_ e_ => HO343.out.1 k_ e_)); replace HO364 := ak (Kd.R_mono (ok' := fun k_ => some k_ ≠ (v312 : Value).ownBlock ∧ some k_ ≠ (v315 : Value).ownBlock ∧ some k_ ≠ (v318 : Value).ownBlock ∧ some k_ ≠ (.slice Ao43 t321.length co43 : Value).ownBlock ∧ some k_ ≠ (.slice Ao45 t324.length co45 : Value).ownBlock ∧ some k_ ≠ (.slice Ao47 t327.length co47 : Value).ownBlock ∧ some k_ ≠ (.slice Ao57 t335.length co57 : Value).ownBlock ∧ some k_ ≠ (.slice Ao58 t338.length co58 : Value).ownBlock ∧ some k_ ≠ (.slice Ao59 t341.length co59 : Value).ownBlock ∧ some k_ ≠ (.slice Ao67 t346.length co67 : Value).ownBlock ∧ some k_ ≠ (.slice Ao68 t349.length co68 : Value).ownBlock ∧ some k_ ≠ (.slice Ao69 t352.length co69 : Value).ownBlock ∧ some k_ ≠ (.slice Ao78 t365.length co78 : Value).ownBlock ∧ some k_ ≠ (.slice Ao79 t368.length co79 : Value).ownBlock) (Kd.R_keptB (HO364.out) hkp (fun k_ hk_ hs_ => Or.elim hs_ (fun e_ => (hk_.2.2.2.2.2.2.1) e_) (fun e_ => Or.elim e_ (fun e_ => (hk_.2.2.2.2.2.2.2.1) e_) (fun e_ => (hk_.2.2.2.2.2.2.2.2.1) e_)))) (fun k_ hk_ => by first | exact ⟨hk_.1.1, hk_.1.2.1, hk_.1.2.2.1, hk_.1.2.2.2.1, hk_.1.2.2.2.2.1, hk_.1.2.2.2.2.2.1, hk_.1.2.2.2.2.2.2.1, hk_.1.2.2.2.2.2.2.2.1, hk_.1.2.2.2.2.2.2.2.2.1, hk_.1.2.2.2.2.2.2.2.2.2.1, hk_.1.2.2.2.2.2.2.2.2.2.2.1, hk_.1.2.2.2.2.2.2.2.2.2.2.2.1, hk_.1.2.2.2.2.2.2.2.2.2.2.2.2.1, hk_.1.2.2.2.2.2.2.2.2.2.2.2.2.2⟩ | simp_all)); replace HO367 := ak (Kd.R_mono (ok' := fun k_ => some k_ ≠ (v312 : Value).ownBlock ∧ some k_ ≠ (v315 : Value).ownBlock ∧ some k_ ≠ (v318 : Value).ownBlock ∧ some k_ ≠ (.slice Ao43 t321.length co43 : Value).ownBlock ∧ some k_ ≠ (.slice Ao45 t324.length co45 : Value).ownBlock ∧ some k_ ≠ (.slice Ao47 t327.length co47 : Value).ownBlock ∧ some k_ ≠ (.slice Ao57 t335.length co57 : Value).ownBlock ∧ some k_ ≠ (.slice Ao58 t338.length co58 : Value).ownBlock ∧ some k_ ≠ (.slice Ao59 t341.length co59 : Value).ownBlock ∧ some k_ ≠ (.slice Ao67 t346.length co67 : Value).ownBlock ∧ some k_ ≠ (.slice Ao68 t349.length co68 : Value).ownBlock ∧ some k_ ≠ (.slice Ao69 t352.length co69 : Value).ownBlock ∧ some k_ ≠ (.slice Ao77 t362.length co77 : Value).ownBlock ∧ some k_ ≠ (.slice Ao79 t368.length co79 : Value).ownBlock) (Kd.R_keptB (HO367.out) hkp (fun k_ hk_ hs_ => Or.elim hs_ (fun e_ => (hk_.2.2.2.2.2.2.1) e_) (fun e_ => Or.elim e_ (fun e_ => (hk_.2.2.2.2.2.2.2.1) e_) (fun e_ => (hk_.2.2.2.2.2.2.2.2.1) e_)))) (fun k_ hk_ => by first | exact ⟨hk_.1.1, hk_.1.2.1, hk_.1.2.2.1, hk_.1.2.2.2.1, hk_.1.2.2.2.2.1, hk_.1.2.2.2.2.2.1, hk_.1.2.2.2.2.2.2.1, hk_.1.2.2.2.2.2.2.2.1, hk_.1.2.2.2.2.2.2.2.2.1, hk_.1.2.2.2.2.2.2.2.2.2.1, hk_.1.2.2.2.2.2.2.2.2.2.2.1, hk_.1.2.2.2.2.2.2.2.2.2.2.2.1, hk_.1.2.2.2.2.2.2.2.2.2.2.2.2.1, hk_.1.2.2.2.2.2.2.2.2.2.2.2.2.2⟩ | simp_all)); replace HO370 := ak (Kd.R_mono (ok' := fun k_ => some k_ ≠ (v312 : Value).ownBlock ∧ some k_ ≠ (v315 : Value).ownBlock ∧ some k_ ≠ (v318 : Value).ownBlock ∧ some k_ ≠ (.slice Ao43 t321.length co43 : Value).ownBlock ∧ some k_ ≠ (.slice Ao45 t324.length co45 : Value).ownBlock ∧ some k_ ≠ (.slice Ao47 t327.length co47 : Value).ownBlock ∧ some k_ ≠ (.slice Ao57 t335.length co57 : Value).ownBlock ∧ some k_ ≠ (.slice Ao58 t338.length co58 : Value).ownBlock ∧ some k_ ≠ (.slice Ao59 t341.length co59 : Value).ownBlock ∧ some k_ ≠ (.slice Ao67 t346.length co67 : Value).ownBlock ∧ some k_ ≠ (.slice Ao68 t349.length co68 : Value).ownBlock ∧ some k_ ≠ (.slice Ao69 t352.length co69 : Value).ownBlock ∧ some k_ ≠ (.slice Ao77 t362.length co77 : Value).ownBlock ∧ some k_ ≠ (.slice Ao78 t365.length co78 : Value).ownBlock) (Kd.R_keptB (HO370.out) hkp (fun k_ hk_ hs_ => Or.elim hs_ (fun e_ => (hk_.2.2.2.2.2.2.1) e_) (fun e_ => Or.elim e_ (fun e_ => (hk_.2.2.2.2.2.2.2.1) e_) (fun e_ => (hk_.2.2.2.2.2.2.2.2.1) e_)))) (fun k_ hk_ => by first | exact ⟨hk_.1.1, hk_.1.2.1, hk_.1.2.2.1, hk_.1.2.2.2.1, hk_.1.2.2.2.2.1, hk_.1.2.2.2.2.2.1, hk_.1.2.2.2.2.2.2.1, hk_.1.2.2.2.2.2.2.2.1, hk_.1.2.2.2.2.2.2.2.2.1, hk_.1.2.2.2.2.2.2.2.2.2.1, hk_.1.2.2.2.2.2.2.2.2.2.2.1, hk_.1.2.2.2.2.2.2.2.2.2.2.2.1, hk_.1.2.2.2.2.2.2.2.2.2.2.2.2.1, hk_.1.2.2.2.2.2.2.2.2.2.2.2.2.2⟩ | simp_all)); replace HB := ak hb; (try clear hb); (try clear hkp); (try clear hy0); (try clear hy1); (try clear hy2)))
      (try simp only [Act.put, List.setIfInBounds_toArray, List.set_cons_zero, List.set_cons_succ])
      go_cut [67] (fun v67 wc => ∃ (kq : Nat) (x67_27 : Bool), v67 = .bool x67_27 ∧ Aside0 (laws_FnExactStepState.j0 kq l0 a2 x67_27 a1_0 l1_1 l1_2 l1_3 t320 t321 t324 t327 t345 t346 t349 t352 = some r) ∧ Aside0 (kq ≤ k) ∧ Aside0 (Kd.R (Kd.int .i64) 3 wc w.heap.size (fun k_ => some k_ ≠ ((.slice Ao45 t324.length co45) : Value).ownBlock ∧ some k_ ≠ ((.slice Ao47 t327.length co47) : Value).ownBlock ∧ some k_ ≠ ((.slice Ao57 t335.length co57) : Value).ownBlock ∧ some k_ ≠ ((.slice Ao58 t338.length co58) : Value).ownBlock ∧ some k_ ≠ ((.slice Ao59 t341.length co59) : Value).ownBlock ∧ some k_ ≠ ((.slice Ao67 t346.length co67) : Value).ownBlock ∧ some k_ ≠ ((.slice Ao68 t349.length co68) : Value).ownBlock ∧ some k_ ≠ ((.slice Ao69 t352.length co69) : Value).ownBlock) (.slice Ao43 t321.length co43) t321) ∧ Aside0 (Kd.R (Kd.int .i64) 3 wc w.heap.size (fun k_ => some k_ ≠ ((.slice Ao43 t321.length co43) : Value).ownBlock ∧ some k_ ≠ ((.slice Ao47 t327.length co47) : Value).ownBlock ∧ some k_ ≠ ((.slice Ao57 t335.length co57) : Value).ownBlock ∧ some k_ ≠ ((.slice Ao58 t338.length co58) : Value).ownBlock ∧ some k_ ≠ ((.slice Ao59 t341.length co59) : Value).ownBlock ∧ some k_ ≠ ((.slice Ao67 t346.length co67) : Value).ownBlock ∧ some k_ ≠ ((.slice Ao68 t349.length co68) : Value).ownBlock ∧ some k_ ≠ ((.slice Ao69 t352.length co69) : Value).ownBlock) (.slice Ao45 t324.length co45) t324) ∧ Aside0 (Kd.R (Kd.int .i64) 3 wc w.heap.size (fun k_ => some k_ ≠ ((.slice Ao43 t321.length co43) : Value).ownBlock ∧ some k_ ≠ ((.slice Ao45 t324.length co45) : Value).ownBlock ∧ some k_ ≠ ((.slice Ao57 t335.length co57) : Value).ownBlock ∧ some k_ ≠ ((.slice Ao58 t338.length co58) : Value).ownBlock ∧ some k_ ≠ ((.slice Ao59 t341.length co59) : Value).ownBlock ∧ some k_ ≠ ((.slice Ao67 t346.length co67) : Value).ownBlock ∧ some k_ ≠ ((.slice Ao68 t349.length co68) : Value).ownBlock ∧ some k_ ≠ ((.slice Ao69 t352.length co69) : Value).ownBlock) (.slice Ao47 t327.length co47) t327) ∧ Aside0 (Kd.R (Kd.int .i64) 3 wc w.heap.size (fun k_ => some k_ ≠ ((.slice Ao43 t321.length co43) : Value).ownBlock ∧ some k_ ≠ ((.slice Ao45 t324.length co45) : Value).ownBlock ∧ some k_ ≠ ((.slice Ao47 t327.length co47) : Value).ownBlock ∧ some k_ ≠ ((.slice Ao58 t338.length co58) : Value).ownBlock ∧ some k_ ≠ ((.slice Ao59 t341.length co59) : Value).ownBlock ∧ some k_ ≠ ((.slice Ao67 t346.length co67) : Value).ownBlock ∧ some k_ ≠ ((.slice Ao68 t349.length co68) : Value).ownBlock ∧ some k_ ≠ ((.slice Ao69 t352.length co69) : Value).ownBlock) (.slice Ao57 t335.length co57) t375) ∧ Aside0 (Kd.R (Kd.int .i64) 3 wc w.heap.size (fun k_ => some k_ ≠ ((.slice Ao43 t321.length co43) : Value).ownBlock ∧ some k_ ≠ ((.slice Ao45 t324.length co45) : Value).ownBlock ∧ some k_ ≠ ((.slice Ao47 t327.length co47) : Value).ownBlock ∧ some k_ ≠ ((.slice Ao57 t335.length co57) : Value).ownBlock ∧ some k_ ≠ ((.slice Ao59 t341.length co59) : Value).ownBlock ∧ some k_ ≠ ((.slice Ao67 t346.length co67) : Value).ownBlock ∧ some k_ ≠ ((.slice Ao68 t349.length co68) : Value).ownBlock ∧ some k_ ≠ ((.slice Ao69 t352.length co69) : Value).ownBlock) (.slice Ao58 t338.length co58) t376) ∧ Aside0 (Kd.R (Kd.int .i64) 3 wc w.heap.size (fun k_ => some k_ ≠ ((.slice Ao43 t321.length co43) : Value).ownBlock ∧ some k_ ≠ ((.slice Ao45 t324.length co45) : Value).ownBlock ∧ some k_ ≠ ((.slice Ao47 t327.length co47) : Value).ownBlock ∧ some k_ ≠ ((.slice Ao57 t335.length co57) : Value).ownBlock ∧ some k_ ≠ ((.slice Ao58 t338.length co58) : Value).ownBlock ∧ some k_ ≠ ((.slice Ao67 t346.length co67) : Value).ownBlock ∧ some k_ ≠ ((.slice Ao68 t349.length co68) : Value).ownBlock ∧ some k_ ≠ ((.slice Ao69 t352.length co69) : Value).ownBlock) (.slice Ao59 t341.length co59) t377) ∧ Aside0 (Kd.R (Kd.int .i64) 3 wc w.heap.size (fun k_ => some k_ ≠ ((.slice Ao43 t321.length co43) : Value).ownBlock ∧ some k_ ≠ ((.slice Ao45 t324.length co45) : Value).ownBlock ∧ some k_ ≠ ((.slice Ao47 t327.length co47) : Value).ownBlock ∧ some k_ ≠ ((.slice Ao57 t335.length co57) : Value).ownBlock ∧ some k_ ≠ ((.slice Ao58 t338.length co58) : Value).ownBlock ∧ some k_ ≠ ((.slice Ao59 t341.length co59) : Value).ownBlock ∧ some k_ ≠ ((.slice Ao68 t349.length co68) : Value).ownBlock ∧ some k_ ≠ ((.slice Ao69 t352.length co69) : Value).ownBlock) (.slice Ao67 t346.length co67) t346) ∧ Aside0 (Kd.R (Kd.int .i64) 3 wc w.heap.size (fun k_ => some k_ ≠ ((.slice Ao43 t321.length co43) : Value).ownBlock ∧ some k_ ≠ ((.slice Ao45 t324.length co45) : Value).ownBlock ∧ some k_ ≠ ((.slice Ao47 t327.length co47) : Value).ownBlock ∧ some k_ ≠ ((.slice Ao57 t335.length co57) : Value).ownBlock ∧ some k_ ≠ ((.slice Ao58 t338.length co58) : Value).ownBlock ∧ some k_ ≠ ((.slice Ao59 t341.length co59) : Value).ownBlock ∧ some k_ ≠ ((.slice Ao67 t346.length co67) : Value).ownBlock ∧ some k_ ≠ ((.slice Ao69 t352.length co69) : Value).ownBlock) (.slice Ao68 t349.length co68) t349) ∧ Aside0 (Kd.R (Kd.int .i64) 3 wc w.heap.size (fun k_ => some k_ ≠ ((.slice Ao43 t321.length co43) : Value).ownBlock ∧ some k_ ≠ ((.slice Ao45 t324.length co45) : Value).ownBlock ∧ some k_ ≠ ((.slice Ao47 t327.length co47) : Value).ownBlock ∧ some k_ ≠ ((.slice Ao57 t335.length co57) : Value).ownBlock ∧ some k_ ≠ ((.slice Ao58 t338.length co58) : Value).ownBlock ∧ some k_ ≠ ((.slice Ao59 t341.length co59) : Value).ownBlock ∧ some k_ ≠ ((.slice Ao67 t346.length co67) : Value).ownBlock ∧ some k_ ≠ ((.slice Ao68 t349.length co68) : Value).ownBlock) (.slice Ao69 t352.length co69) t352) ∧ Aside0 (wc.heap[gb304]? = some (.cells #[.int .i64 a1_0, (.slice A1_1 l1_1.length c1_1), (.slice A1_2 l1_2.length c1_2), (.slice A1_3 l1_3.length c1_3)] 72 (0, 0))) ∧ Aside0 (wc.heap[gb330]? = some (.cells #[.int .i64 t320, (.slice Ao43 t321.length co43), (.slice Ao45 t324.length co45), (.slice Ao47 t327.length co47)] 45 (0, 0))) ∧ Aside0 (wc.heap[gb344]? = some (.cells #[.int .i64 t334, (.slice Ao57 t335.length co57), (.slice Ao58 t338.length co58), (.slice Ao59 t341.length co59)] 45 (0, 0))) ∧ Aside0 (wc.heap[gb355]? = some (.cells #[.int .i64 t345, (.slice Ao67 t346.length co67), (.slice Ao68 t349.length co68), (.slice Ao69 t352.length co69)] 45 (0, 0))) ∧ Aside0 (Below w.heap.size w wc))
      case first =>
       have H := HC28.out
       clear HC28
       by_cases c84 : t374 < 0
       ·rw [if_pos c84] at H
        have c84b0 : decide (t374 < 0) = true := decide_eq_true c84
        clear c84
        (first | rw [c84b0] | (simp only [i64_w, i32_w]; rw [c84b0]) | skip)
        have H' := Aside0.mk H
        clear H
        go_wp2
        go_meet
        case rel => exact ⟨_, (true), (by first | rfl | (simp; done) | (simp [*]; done)), H', ⟨by first | omega | exact Nat.le_refl _⟩, ⟨RX HO323.out (fun _ hk => ⟨hk.2.2.2.1, ⟨hk.2.2.2.2.1, ⟨hk.2.2.2.2.2.1, ⟨hk.2.2.2.2.2.2.1, ⟨hk.2.2.2.2.2.2.2.1, ⟨hk.2.2.2.2.2.2.2.2.1, ⟨hk.2.2.2.2.2.2.2.2.2.1, hk.2.2.2.2.2.2.2.2.2.2.1⟩⟩⟩⟩⟩⟩⟩)⟩, ⟨RX HO326.out (fun _ hk => ⟨hk.2.2.2.1, ⟨hk.2.2.2.2.1, ⟨hk.2.2.2.2.2.1, ⟨hk.2.2.2.2.2.2.1, ⟨hk.2.2.2.2.2.2.2.1, ⟨hk.2.2.2.2.2.2.2.2.1, ⟨hk.2.2.2.2.2.2.2.2.2.1, hk.2.2.2.2.2.2.2.2.2.2.1⟩⟩⟩⟩⟩⟩⟩)⟩, ⟨RX HO329.out (fun _ hk => ⟨hk.2.2.2.1, ⟨hk.2.2.2.2.1, ⟨hk.2.2.2.2.2.1, ⟨hk.2.2.2.2.2.2.1, ⟨hk.2.2.2.2.2.2.2.1, ⟨hk.2.2.2.2.2.2.2.2.1, ⟨hk.2.2.2.2.2.2.2.2.2.1, hk.2.2.2.2.2.2.2.2.2.2.1⟩⟩⟩⟩⟩⟩⟩)⟩, ⟨RX HO337.out (fun _ hk => ⟨hk.2.2.2.1, ⟨hk.2.2.2.2.1, ⟨hk.2.2.2.2.2.1, ⟨hk.2.2.2.2.2.2.1, ⟨hk.2.2.2.2.2.2.2.1, ⟨hk.2.2.2.2.2.2.2.2.1, ⟨hk.2.2.2.2.2.2.2.2.2.1, hk.2.2.2.2.2.2.2.2.2.2.1⟩⟩⟩⟩⟩⟩⟩)⟩, ⟨RX HO340.out (fun _ hk => ⟨hk.2.2.2.1, ⟨hk.2.2.2.2.1, ⟨hk.2.2.2.2.2.1, ⟨hk.2.2.2.2.2.2.1, ⟨hk.2.2.2.2.2.2.2.1, ⟨hk.2.2.2.2.2.2.2.2.1, ⟨hk.2.2.2.2.2.2.2.2.2.1, hk.2.2.2.2.2.2.2.2.2.2.1⟩⟩⟩⟩⟩⟩⟩)⟩, ⟨RX HO343.out (fun _ hk => ⟨hk.2.2.2.1, ⟨hk.2.2.2.2.1, ⟨hk.2.2.2.2.2.1, ⟨hk.2.2.2.2.2.2.1, ⟨hk.2.2.2.2.2.2.2.1, ⟨hk.2.2.2.2.2.2.2.2.1, ⟨hk.2.2.2.2.2.2.2.2.2.1, hk.2.2.2.2.2.2.2.2.2.2.1⟩⟩⟩⟩⟩⟩⟩)⟩, ⟨RX HO348.out (fun _ hk => ⟨hk.2.2.2.1, ⟨hk.2.2.2.2.1, ⟨hk.2.2.2.2.2.1, ⟨hk.2.2.2.2.2.2.1, ⟨hk.2.2.2.2.2.2.2.1, ⟨hk.2.2.2.2.2.2.2.2.1, ⟨hk.2.2.2.2.2.2.2.2.2.1, hk.2.2.2.2.2.2.2.2.2.2.1⟩⟩⟩⟩⟩⟩⟩)⟩, ⟨RX HO351.out (fun _ hk => ⟨hk.2.2.2.1, ⟨hk.2.2.2.2.1, ⟨hk.2.2.2.2.2.1, ⟨hk.2.2.2.2.2.2.1, ⟨hk.2.2.2.2.2.2.2.1, ⟨hk.2.2.2.2.2.2.2.2.1, ⟨hk.2.2.2.2.2.2.2.2.2.1, hk.2.2.2.2.2.2.2.2.2.2.1⟩⟩⟩⟩⟩⟩⟩)⟩, ⟨RX HO354.out (fun _ hk => ⟨hk.2.2.2.1, ⟨hk.2.2.2.2.1, ⟨hk.2.2.2.2.2.1, ⟨hk.2.2.2.2.2.2.1, ⟨hk.2.2.2.2.2.2.2.1, ⟨hk.2.2.2.2.2.2.2.2.1, ⟨hk.2.2.2.2.2.2.2.2.2.1, hk.2.2.2.2.2.2.2.2.2.2.1⟩⟩⟩⟩⟩⟩⟩)⟩, ⟨PK BK304⟩, ⟨PK BK330⟩, ⟨PK BK344⟩, ⟨PK BK355⟩, ⟨PB⟩⟩
       ·rw [if_neg c84] at H
        have c84b0 : decide (t374 < 0) = false := decide_eq_false c84
        clear c84
        (first | rw [c84b0] | (simp only [i64_w, i32_w]; rw [c84b0]) | skip)
        replace H := Option.bind_eq_some_iff.mp H
        obtain ⟨t378, A850, H⟩ := H
        replace H : (laws_FnExactStepState.j0 k l0 a2 (!t378) a1_0 l1_1 l1_2 l1_3 t320 t321 t324 t327 t345 t346 t349 t352) = some r := H
        have A85 := Aside0.mk A850
        clear A850
        have H' := Aside0.mk H
        clear H
        have hnb86 := NB355_304.out
        have hnc86 := NB304_355.out
        have hnb87 := NB355_330.out
        have hnc87 := NB330_355.out
        have hnb88 := NB355_344.out
        have hnc88 := NB344_355.out
        obtain ⟨hcz89_0, hcz89_1, hcz89_2, hcz89_3, hfz89_0, hfz89_1, hfz89_2, hfz89_3⟩ := bc4 BK355
        have hnb90 := NB330_304.out
        have hnc90 := NB304_330.out
        have hnb91 := NB330_344.out
        have hnc91 := NB344_330.out
        obtain ⟨hcz92_0, hcz92_1, hcz92_2, hcz92_3, hfz92_0, hfz92_1, hfz92_2, hfz92_3⟩ := bc4 BK330
        go_wp2_with (first | (go_at_call 42; (with_reducible refine (laws_eqState.calls k t345 _ _ t346 _ _ t349 _ _ t352 t320 _ _ t321 _ _ t324 _ _ t327 t378 _ ?side1 ?side2 ?side3 ?side4 ?side5 ?side6 ?side7 ?side8 ?side9 ?side10 ?side11 ?side12 A85.out).mono ?_); (case side1 => exact CR ((Kd.R_reads' HO348.out).2.2)); (case side2 => exact (Kd.R_reads' HO348.out).2.1); (case side3 => exact CR ((Kd.R_reads' HO351.out).2.2)); (case side4 => exact (Kd.R_reads' HO351.out).2.1); (case side5 => exact CR ((Kd.R_reads' HO354.out).2.2)); (case side6 => exact (Kd.R_reads' HO354.out).2.1); (case side7 => exact CR ((Kd.R_reads' HO323.out).2.2)); (case side8 => exact (Kd.R_reads' HO323.out).2.1); (case side9 => exact CR ((Kd.R_reads' HO326.out).2.2)); (case side10 => exact (Kd.R_reads' HO326.out).2.1); (case side11 => exact CR ((Kd.R_reads' HO329.out).2.2)); (case side12 => exact (Kd.R_reads' HO329.out).2.1); rintro e w93 ⟨rfl, hb⟩; replace HO309 := Rb HO309 hb; replace HO313 := Rb HO313 hb; replace HO316 := Rb HO316 hb; replace HO319 := Rb HO319 hb; replace HO323 := Rb HO323 hb; replace HO326 := Rb HO326 hb; replace HO329 := Rb HO329 hb; replace HO333 := Rb HO333 hb; replace HO337 := Rb HO337 hb; replace HO340 := Rb HO340 hb; replace HO343 := Rb HO343 hb; replace HO348 := Rb HO348 hb; replace HO351 := Rb HO351 hb; replace HO354 := Rb HO354 hb; replace HO359 := Rb HO359 hb; replace HO364 := Rb HO364 hb; replace HO367 := Rb HO367 hb; replace HO370 := Rb HO370 hb; replace BK304 := kf BK304 hb; replace BK330 := kf BK330 hb; replace BK344 := kf BK344 hb; replace BK355 := kf BK355 hb; replace HB := bs HB hb; (try clear hb); (try clear hb2); (try clear hk); (try clear hi)))
        go_meet
        case rel => exact ⟨_, (!t378), (by first | rfl | (simp; done) | (simp [*]; done)), H', ⟨by first | omega | exact Nat.le_refl _⟩, ⟨RX HO323.out (fun _ hk => ⟨hk.2.2.2.1, ⟨hk.2.2.2.2.1, ⟨hk.2.2.2.2.2.1, ⟨hk.2.2.2.2.2.2.1, ⟨hk.2.2.2.2.2.2.2.1, ⟨hk.2.2.2.2.2.2.2.2.1, ⟨hk.2.2.2.2.2.2.2.2.2.1, hk.2.2.2.2.2.2.2.2.2.2.1⟩⟩⟩⟩⟩⟩⟩)⟩, ⟨RX HO326.out (fun _ hk => ⟨hk.2.2.2.1, ⟨hk.2.2.2.2.1, ⟨hk.2.2.2.2.2.1, ⟨hk.2.2.2.2.2.2.1, ⟨hk.2.2.2.2.2.2.2.1, ⟨hk.2.2.2.2.2.2.2.2.1, ⟨hk.2.2.2.2.2.2.2.2.2.1, hk.2.2.2.2.2.2.2.2.2.2.1⟩⟩⟩⟩⟩⟩⟩)⟩, ⟨RX HO329.out (fun _ hk => ⟨hk.2.2.2.1, ⟨hk.2.2.2.2.1, ⟨hk.2.2.2.2.2.1, ⟨hk.2.2.2.2.2.2.1, ⟨hk.2.2.2.2.2.2.2.1, ⟨hk.2.2.2.2.2.2.2.2.1, ⟨hk.2.2.2.2.2.2.2.2.2.1, hk.2.2.2.2.2.2.2.2.2.2.1⟩⟩⟩⟩⟩⟩⟩)⟩, ⟨RX HO337.out (fun _ hk => ⟨hk.2.2.2.1, ⟨hk.2.2.2.2.1, ⟨hk.2.2.2.2.2.1, ⟨hk.2.2.2.2.2.2.1, ⟨hk.2.2.2.2.2.2.2.1, ⟨hk.2.2.2.2.2.2.2.2.1, ⟨hk.2.2.2.2.2.2.2.2.2.1, hk.2.2.2.2.2.2.2.2.2.2.1⟩⟩⟩⟩⟩⟩⟩)⟩, ⟨RX HO340.out (fun _ hk => ⟨hk.2.2.2.1, ⟨hk.2.2.2.2.1, ⟨hk.2.2.2.2.2.1, ⟨hk.2.2.2.2.2.2.1, ⟨hk.2.2.2.2.2.2.2.1, ⟨hk.2.2.2.2.2.2.2.2.1, ⟨hk.2.2.2.2.2.2.2.2.2.1, hk.2.2.2.2.2.2.2.2.2.2.1⟩⟩⟩⟩⟩⟩⟩)⟩, ⟨RX HO343.out (fun _ hk => ⟨hk.2.2.2.1, ⟨hk.2.2.2.2.1, ⟨hk.2.2.2.2.2.1, ⟨hk.2.2.2.2.2.2.1, ⟨hk.2.2.2.2.2.2.2.1, ⟨hk.2.2.2.2.2.2.2.2.1, ⟨hk.2.2.2.2.2.2.2.2.2.1, hk.2.2.2.2.2.2.2.2.2.2.1⟩⟩⟩⟩⟩⟩⟩)⟩, ⟨RX HO348.out (fun _ hk => ⟨hk.2.2.2.1, ⟨hk.2.2.2.2.1, ⟨hk.2.2.2.2.2.1, ⟨hk.2.2.2.2.2.2.1, ⟨hk.2.2.2.2.2.2.2.1, ⟨hk.2.2.2.2.2.2.2.2.1, ⟨hk.2.2.2.2.2.2.2.2.2.1, hk.2.2.2.2.2.2.2.2.2.2.1⟩⟩⟩⟩⟩⟩⟩)⟩, ⟨RX HO351.out (fun _ hk => ⟨hk.2.2.2.1, ⟨hk.2.2.2.2.1, ⟨hk.2.2.2.2.2.1, ⟨hk.2.2.2.2.2.2.1, ⟨hk.2.2.2.2.2.2.2.1, ⟨hk.2.2.2.2.2.2.2.2.1, ⟨hk.2.2.2.2.2.2.2.2.2.1, hk.2.2.2.2.2.2.2.2.2.2.1⟩⟩⟩⟩⟩⟩⟩)⟩, ⟨RX HO354.out (fun _ hk => ⟨hk.2.2.2.1, ⟨hk.2.2.2.2.1, ⟨hk.2.2.2.2.2.1, ⟨hk.2.2.2.2.2.2.1, ⟨hk.2.2.2.2.2.2.2.1, ⟨hk.2.2.2.2.2.2.2.2.1, ⟨hk.2.2.2.2.2.2.2.2.2.1, hk.2.2.2.2.2.2.2.2.2.2.1⟩⟩⟩⟩⟩⟩⟩)⟩, ⟨PK BK304⟩, ⟨PK BK330⟩, ⟨PK BK344⟩, ⟨PK BK355⟩, ⟨PB⟩⟩
      case rest =>
       clear HC28
       (try clear c1); (try clear c2); (try clear p2); (try clear c3); (try clear c4); (try clear c5); (try clear c6); (try clear c8); (try clear c9); (try clear c20); (try clear c39); (try clear c40); (try clear c41); (try clear c42); (try clear c43); (try clear c44); (try clear c45); (try clear c50); (try clear c54); (try clear c55); (try clear c63); (try clear c64); (try clear c65); (try clear c84); (try clear c84b0); (try clear c86); (try clear c87); (try clear c88); (try clear c90); (try clear c91); (try clear hcz51_0); (try clear hcz51_1); (try clear hcz51_2); (try clear hcz51_3); (try clear hcz56_0); (try clear hcz56_1); (try clear hcz56_2); (try clear hcz56_3); (try clear hcz66_0); (try clear hcz66_1); (try clear hcz66_2); (try clear hcz66_3); (try clear hcz70_0); (try clear hcz70_1); (try clear hcz70_2); (try clear hcz70_3); (try clear hcz82_0); (try clear hcz82_1); (try clear hcz82_2); (try clear hcz82_3); (try clear hcz89_0); (try clear hcz89_1); (try clear hcz89_2); (try clear hcz89_3); (try clear hcz92_0); (try clear hcz92_1); (try clear hcz92_2); (try clear hcz92_3); (try clear hfz51_0); (try clear hfz51_1); (try clear hfz51_2); (try clear hfz51_3); (try clear hfz56_0); (try clear hfz56_1); (try clear hfz56_2); (try clear hfz56_3); (try clear hfz66_0); (try clear hfz66_1); (try clear hfz66_2); (try clear hfz66_3); (try clear hfz70_0); (try clear hfz70_1); (try clear hfz70_2); (try clear hfz70_3); (try clear hfz82_0); (try clear hfz82_1); (try clear hfz82_2); (try clear hfz82_3); (try clear hfz89_0); (try clear hfz89_1); (try clear hfz89_2); (try clear hfz89_3); (try clear hfz92_0); (try clear hfz92_1); (try clear hfz92_2); (try clear hfz92_3)
       obtain ⟨kq, x67_27, rfl, HA, HJ27, HO_331001, HO_331002, HO_331003, HO_345001, HO_345002, HO_345003, HO_356001, HO_356002, HO_356003, BK304, BK330, BK344, BK355, HB⟩ := hcut
       have hl345001_27 := (Kd.R_reads' HO_345001.out).1
       rw [hl345001_27] at HO_345001
       (try simp only [hl345001_27])
       (try simp only [hl345001_27] at BK304)
       (try simp only [hl345001_27] at BK330)
       (try simp only [hl345001_27] at BK344)
       (try simp only [hl345001_27] at BK355)
       (try simp only [hl345001_27] at HO_331001)
       (try simp only [hl345001_27] at HO_331002)
       (try simp only [hl345001_27] at HO_331003)
       (try simp only [hl345001_27] at HO_345002)
       (try simp only [hl345001_27] at HO_345003)
       (try simp only [hl345001_27] at HO_356001)
       (try simp only [hl345001_27] at HO_356002)
       (try simp only [hl345001_27] at HO_356003)
       have hl345002_27 := (Kd.R_reads' HO_345002.out).1
       rw [hl345002_27] at HO_345002
       (try simp only [hl345002_27])
       (try simp only [hl345002_27] at BK304)
       (try simp only [hl345002_27] at BK330)
       (try simp only [hl345002_27] at BK344)
       (try simp only [hl345002_27] at BK355)
       (try simp only [hl345002_27] at HO_331001)
       (try simp only [hl345002_27] at HO_331002)
       (try simp only [hl345002_27] at HO_331003)
       (try simp only [hl345002_27] at HO_345001)
       (try simp only [hl345002_27] at HO_345003)
       (try simp only [hl345002_27] at HO_356001)
       (try simp only [hl345002_27] at HO_356002)
       (try simp only [hl345002_27] at HO_356003)
       have hl345003_27 := (Kd.R_reads' HO_345003.out).1
       rw [hl345003_27] at HO_345003
       (try simp only [hl345003_27])
       (try simp only [hl345003_27] at BK304)
       (try simp only [hl345003_27] at BK330)
       (try simp only [hl345003_27] at BK344)
       (try simp only [hl345003_27] at BK355)
       (try simp only [hl345003_27] at HO_331001)
       (try simp only [hl345003_27] at HO_331002)
       (try simp only [hl345003_27] at HO_331003)
       (try simp only [hl345003_27] at HO_345001)
       (try simp only [hl345003_27] at HO_345002)
       (try simp only [hl345003_27] at HO_356001)
       (try simp only [hl345003_27] at HO_356002)
       (try simp only [hl345003_27] at HO_356003)
       cases kq with
       | zero => exact absurd HA.out (by simp [laws_FnExactStepState.j0])
       | succ kj27 =>
        have H := HA.out
        clear HA
        simp only [laws_FnExactStepState.j0] at H
        by_cases c94 : x67_27 = true
        ·subst c94
         have H1 : (some false) = some r := by rw [if_pos rfl] at H; exact H
         clear H
         have H := H1
         clear H1
         cases (Option.some.inj H).trans hT_
        ·replace c94 := Bool.eq_false_iff.mpr c94
         subst c94
         have H1 : ((laws_markState.f kj27 t345 t346 t349 t352 1).bind fun bt379 => ((laws_heldState.f kj27 t345 bt379.2.1 bt379.2.2.1 bt379.2.2.2 1).bind fun t383 => (if t383 < 0 then (some false) else (if t383 = bt379.1 then ((laws_toOpS.f kj27 l0).bind fun t384 => ((laws_toState.f kj27 a1_0 l1_1 l1_2 l1_3).bind fun bt387 => ((impl_StepState.f kj27 t384 bt387.1 bt387.2.1 bt387.2.2.1 bt387.2.2.2 a2).bind fun bt397 => ((laws_eqState.f kj27 bt397.1 bt397.2.1 bt397.2.2.1 bt397.2.2.2 t320 t321 t324 t327).bind fun t408 => (if t408 = true then ((laws_heldState.f kj27 t345 bt379.2.1 bt379.2.2.1 bt379.2.2.2 1).bind fun t409 => (if t409 < 0 then (some false) else (if t409 = bt379.1 then (some true) else (some false)))) else (some false)))))) else (some false))))) = some r := by rw [if_neg (show ¬ (false = true) by decide)] at H; exact H
         clear H
         have H := H1
         clear H1
         replace H := Option.bind_eq_some_iff.mp H
         obtain ⟨⟨t379, t380, t381, t382⟩, A950, H⟩ := H
         replace H : ((laws_heldState.f kj27 t345 t380 t381 t382 1).bind fun t383 => (if t383 < 0 then (some false) else (if t383 = t379 then ((laws_toOpS.f kj27 l0).bind fun t384 => ((laws_toState.f kj27 a1_0 l1_1 l1_2 l1_3).bind fun bt387 => ((impl_StepState.f kj27 t384 bt387.1 bt387.2.1 bt387.2.2.1 bt387.2.2.2 a2).bind fun bt397 => ((laws_eqState.f kj27 bt397.1 bt397.2.1 bt397.2.2.1 bt397.2.2.2 t320 t321 t324 t327).bind fun t408 => (if t408 = true then ((laws_heldState.f kj27 t345 t380 t381 t382 1).bind fun t409 => (if t409 < 0 then (some false) else (if t409 = t379 then (some true) else (some false)))) else (some false)))))) else (some false)))) = some r := H
         have A95 := Aside0.mk A950
         clear A950
         replace H := Option.bind_eq_some_iff.mp H
         obtain ⟨t383, A960, H⟩ := H
         replace H : (if t383 < 0 then (some false) else (if t383 = t379 then ((laws_toOpS.f kj27 l0).bind fun t384 => ((laws_toState.f kj27 a1_0 l1_1 l1_2 l1_3).bind fun bt387 => ((impl_StepState.f kj27 t384 bt387.1 bt387.2.1 bt387.2.2.1 bt387.2.2.2 a2).bind fun bt397 => ((laws_eqState.f kj27 bt397.1 bt397.2.1 bt397.2.2.1 bt397.2.2.2 t320 t321 t324 t327).bind fun t408 => (if t408 = true then ((laws_heldState.f kj27 t345 t380 t381 t382 1).bind fun t409 => (if t409 < 0 then (some false) else (if t409 = t379 then (some true) else (some false)))) else (some false)))))) else (some false))) = some r := H
         have A96 := Aside0.mk A960
         clear A960
         by_cases c97 : t383 < 0
         ·rw [if_pos c97] at H
          have c97b0 : decide (t383 < 0) = true := decide_eq_true c97
          clear c97
          cases (Option.some.inj H).trans hT_
         ·rw [if_neg c97] at H
          have c97b0 : decide (t383 < 0) = false := decide_eq_false c97
          clear c97
          by_cases c105 : t383 = t379
          ·rw [if_pos c105] at H
           have c105b0 : (t383 == t379) = true := beq_iff_eq.mpr c105
           have c105b1 : (t383 != t379) = false := bne_eq_false_iff_eq.mpr c105
           clear c105
           replace H := Option.bind_eq_some_iff.mp H
           obtain ⟨t384, A1060, H⟩ := H
           replace H : ((laws_toState.f kj27 a1_0 l1_1 l1_2 l1_3).bind fun bt387 => ((impl_StepState.f kj27 t384 bt387.1 bt387.2.1 bt387.2.2.1 bt387.2.2.2 a2).bind fun bt397 => ((laws_eqState.f kj27 bt397.1 bt397.2.1 bt397.2.2.1 bt397.2.2.2 t320 t321 t324 t327).bind fun t408 => (if t408 = true then ((laws_heldState.f kj27 t345 t380 t381 t382 1).bind fun t409 => (if t409 < 0 then (some false) else (if t409 = t379 then (some true) else (some false)))) else (some false))))) = some r := H
           have A106 := Aside0.mk A1060
           clear A1060
           replace H := Option.bind_eq_some_iff.mp H
           obtain ⟨⟨t387, t388, t391, t394⟩, A1070, H⟩ := H
           replace H : ((impl_StepState.f kj27 t384 t387 t388 t391 t394 a2).bind fun bt397 => ((laws_eqState.f kj27 bt397.1 bt397.2.1 bt397.2.2.1 bt397.2.2.2 t320 t321 t324 t327).bind fun t408 => (if t408 = true then ((laws_heldState.f kj27 t345 t380 t381 t382 1).bind fun t409 => (if t409 < 0 then (some false) else (if t409 = t379 then (some true) else (some false)))) else (some false)))) = some r := H
           have A107 := Aside0.mk A1070
           clear A1070
           replace H := Option.bind_eq_some_iff.mp H
           obtain ⟨⟨t397, t398, t401, t404⟩, A1080, H⟩ := H
           replace H : ((laws_eqState.f kj27 t397 t398 t401 t404 t320 t321 t324 t327).bind fun t408 => (if t408 = true then ((laws_heldState.f kj27 t345 t380 t381 t382 1).bind fun t409 => (if t409 < 0 then (some false) else (if t409 = t379 then (some true) else (some false)))) else (some false))) = some r := H
           have A108 := Aside0.mk A1080
           clear A1080
           replace H := Option.bind_eq_some_iff.mp H
           obtain ⟨t408, A1090, H⟩ := H
           replace H : (if t408 = true then ((laws_heldState.f kj27 t345 t380 t381 t382 1).bind fun t409 => (if t409 < 0 then (some false) else (if t409 = t379 then (some true) else (some false)))) else (some false)) = some r := H
           have A109 := Aside0.mk A1090
           clear A1090
           by_cases c110 : t408 = true
           ·subst c110
            have H1 : ((laws_heldState.f kj27 t345 t380 t381 t382 1).bind fun t409 => (if t409 < 0 then (some false) else (if t409 = t379 then (some true) else (some false)))) = some r := by rw [if_pos rfl] at H; exact H
            clear H
            have H := H1
            clear H1
            replace H := Option.bind_eq_some_iff.mp H
            obtain ⟨t409, A1110, H⟩ := H
            replace H : (if t409 < 0 then (some false) else (if t409 = t379 then (some true) else (some false))) = some r := H
            have A111 := Aside0.mk A1110
            clear A1110
            by_cases c112 : t409 < 0
            ·rw [if_pos c112] at H
             have c112b0 : decide (t409 < 0) = true := decide_eq_true c112
             clear c112
             cases (Option.some.inj H).trans hT_
            ·rw [if_neg c112] at H
             have c112b0 : decide (t409 < 0) = false := decide_eq_false c112
             clear c112
             by_cases c148 : t409 = t379
             ·rw [if_pos c148] at H
              have c148b0 : (t409 == t379) = true := beq_iff_eq.mpr c148
              have c148b1 : (t409 != t379) = false := bne_eq_false_iff_eq.mpr c148
              clear c148
              obtain rfl := Option.some.inj H
              have hnb149 := NB355_304.out
              have hnc149 := NB304_355.out
              have hnb150 := NB355_330.out
              have hnc150 := NB330_355.out
              have hnb151 := NB355_344.out
              have hnc151 := NB344_355.out
              obtain ⟨_, _, _, _, _, _, _, _⟩ := bc4 BK355
              try go_wp2_with (first | ((with_reducible refine gate_callee (f := 45) rfl ?_); refine goesL_ (some 70) rfl rfl Try.func45 KR rfl #[.agg #[.int .i64 t345, .slice Ao67 t346.length co67, .slice Ao68 t349.length co68, .slice Ao69 t352.length co69], .int .i64 1] rfl AR ?_; (with_reducible refine (laws_markState.calls kj27 t345 (fun k_ => some k_ = (.slice Ao67 t346.length co67 : Value).ownBlock) (.slice Ao67 t346.length co67) t346 (fun k_ => some k_ = (.slice Ao68 t349.length co68 : Value).ownBlock) (.slice Ao68 t349.length co68) t349 (fun k_ => some k_ = (.slice Ao69 t352.length co69 : Value).ownBlock) (.slice Ao69 t352.length co69) t352 1 t379 t380 t381 t382 w _ ?side1 ?side2 ?side3 ?side4 ?side5 ?side6 ?side7 ?side8 ?side9 ?side10 A95.out).mono ?_); (case side1 => exact PL); (case side2 => exact Kd.R_tight rfl HO_356001.out); (case side3 => exact fun k_ e_ => (HO_356001.out.1 k_ e_.symm).2.2.2.2.2.2.1); (case side4 => exact fun k_ e_ => (HO_356001.out.1 k_ e_.symm).2.2.2.2.2.2.2); (case side5 => exact Kd.R_tight rfl HO_356002.out); (case side6 => exact fun k_ e_ => (HO_356002.out.1 k_ e_.symm).2.2.2.2.2.2.1); (case side7 => exact fun k_ e_ => (HO_356002.out.1 k_ e_.symm).2.2.2.2.2.2.2); (case side8 => exact Kd.R_tight rfl HO_356003.out); (case side9 => exact fun k_ e_ => (HO_356003.out.1 k_ e_.symm).2.2.2.2.2.2.1); (case side10 => exact fun k_ e_ => (HO_356003.out.1 k_ e_.symm).2.2.2.2.2.2.2); rintro e w153 ⟨rfl, hy0, hy1, hy2, hb, hkp⟩; refine ⟨_, rfl, ?_⟩; replace HO_331001 := ak (Kd.R_mono (ok' := fun k_ => some k_ ≠ (.slice Ao45 t324.length co45 : Value).ownBlock ∧ some k_ ≠ (.slice Ao47 t327.length co47 : Value).ownBlock ∧ some k_ ≠ (.slice Ao57 t375.length co57 : Value).ownBlock ∧ some k_ ≠ (.slice Ao58 t376.length co58 : Value).ownBlock ∧ some k_ ≠ (.slice Ao59 t377.length co59 : Value).ownBlock ∧ some k_ ≠ (.slice Ao67 t346.length co67 : Value).ownBlock ∧ some k_ ≠ (.slice Ao68 t349.length co68 : Value).ownBlock ∧ some k_ ≠ (.slice Ao69 t352.length co69 : Value).ownBlock) (Kd.R_keptB (HO_331001.out) hkp (fun k_ hk_ hs_ => Or.elim hs_ (fun e_ => (hk_.2.2.2.2.2.1) e_) (fun e_ => Or.elim e_ (fun e_ => (hk_.2.2.2.2.2.2.1) e_) (fun e_ => (hk_.2.2.2.2.2.2.2) e_)))) (fun k_ hk_ => by first | exact ⟨hk_.1.1, hk_.1.2.1, hk_.1.2.2.1, hk_.1.2.2.2.1, hk_.1.2.2.2.2.1, hk_.1.2.2.2.2.2.1, hk_.1.2.2.2.2.2.2.1, hk_.1.2.2.2.2.2.2.2⟩ | simp_all)); replace HO_331002 := ak (Kd.R_mono (ok' := fun k_ => some k_ ≠ (.slice Ao43 t321.length co43 : Value).ownBlock ∧ some k_ ≠ (.slice Ao47 t327.length co47 : Value).ownBlock ∧ some k_ ≠ (.slice Ao57 t375.length co57 : Value).ownBlock ∧ some k_ ≠ (.slice Ao58 t376.length co58 : Value).ownBlock ∧ some k_ ≠ (.slice Ao59 t377.length co59 : Value).ownBlock ∧ some k_ ≠ (.slice Ao67 t346.length co67 : Value).ownBlock ∧ some k_ ≠ (.slice Ao68 t349.length co68 : Value).ownBlock ∧ some k_ ≠ (.slice Ao69 t352.length co69 : Value).ownBlock) (Kd.R_keptB (HO_331002.out) hkp (fun k_ hk_ hs_ => Or.elim hs_ (fun e_ => (hk_.2.2.2.2.2.1) e_) (fun e_ => Or.elim e_ (fun e_ => (hk_.2.2.2.2.2.2.1) e_) (fun e_ => (hk_.2.2.2.2.2.2.2) e_)))) (fun k_ hk_ => by first | exact ⟨hk_.1.1, hk_.1.2.1, hk_.1.2.2.1, hk_.1.2.2.2.1, hk_.1.2.2.2.2.1, hk_.1.2.2.2.2.2.1, hk_.1.2.2.2.2.2.2.1, hk_.1.2.2.2.2.2.2.2⟩ | simp_all)); replace HO_331003 := ak (Kd.R_mono (ok' := fun k_ => some k_ ≠ (.slice Ao43 t321.length co43 : Value).ownBlock ∧ some k_ ≠ (.slice Ao45 t324.length co45 : Value).ownBlock ∧ some k_ ≠ (.slice Ao57 t375.length co57 : Value).ownBlock ∧ some k_ ≠ (.slice Ao58 t376.length co58 : Value).ownBlock ∧ some k_ ≠ (.slice Ao59 t377.length co59 : Value).ownBlock ∧ some k_ ≠ (.slice Ao67 t346.length co67 : Value).ownBlock ∧ some k_ ≠ (.slice Ao68 t349.length co68 : Value).ownBlock ∧ some k_ ≠ (.slice Ao69 t352.length co69 : Value).ownBlock) (Kd.R_keptB (HO_331003.out) hkp (fun k_ hk_ hs_ => Or.elim hs_ (fun e_ => (hk_.2.2.2.2.2.1) e_) (fun e_ => Or.elim e_ (fun e_ => (hk_.2.2.2.2.2.2.1) e_) (fun e_ => (hk_.2.2.2.2.2.2.2) e_)))) (fun k_ hk_ => by first | exact ⟨hk_.1.1, hk_.1.2.1, hk_.1.2.2.1, hk_.1.2.2.2.1, hk_.1.2.2.2.2.1, hk_.1.2.2.2.2.2.1, hk_.1.2.2.2.2.2.2.1, hk_.1.2.2.2.2.2.2.2⟩ | simp_all)); replace HO_345001 := ak (Kd.R_mono (ok' := fun k_ => some k_ ≠ (.slice Ao43 t321.length co43 : Value).ownBlock ∧ some k_ ≠ (.slice Ao45 t324.length co45 : Value).ownBlock ∧ some k_ ≠ (.slice Ao47 t327.length co47 : Value).ownBlock ∧ some k_ ≠ (.slice Ao58 t376.length co58 : Value).ownBlock ∧ some k_ ≠ (.slice Ao59 t377.length co59 : Value).ownBlock ∧ some k_ ≠ (.slice Ao67 t346.length co67 : Value).ownBlock ∧ some k_ ≠ (.slice Ao68 t349.length co68 : Value).ownBlock ∧ some k_ ≠ (.slice Ao69 t352.length co69 : Value).ownBlock) (Kd.R_keptB (HO_345001.out) hkp (fun k_ hk_ hs_ => Or.elim hs_ (fun e_ => (hk_.2.2.2.2.2.1) e_) (fun e_ => Or.elim e_ (fun e_ => (hk_.2.2.2.2.2.2.1) e_) (fun e_ => (hk_.2.2.2.2.2.2.2) e_)))) (fun k_ hk_ => by first | exact ⟨hk_.1.1, hk_.1.2.1, hk_.1.2.2.1, hk_.1.2.2.2.1, hk_.1.2.2.2.2.1, hk_.1.2.2.2.2.2.1, hk_.1.2.2.2.2.2.2.1, hk_.1.2.2.2.2.2.2.2⟩ | simp_all)); replace HO_345002 := ak (Kd.R_mono (ok' := fun k_ => some k_ ≠ (.slice Ao43 t321.length co43 : Value).ownBlock ∧ some k_ ≠ (.slice Ao45 t324.length co45 : Value).ownBlock ∧ some k_ ≠ (.slice Ao47 t327.length co47 : Value).ownBlock ∧ some k_ ≠ (.slice Ao57 t375.length co57 : Value).ownBlock ∧ some k_ ≠ (.slice Ao59 t377.length co59 : Value).ownBlock ∧ some k_ ≠ (.slice Ao67 t346.length co67 : Value).ownBlock ∧ some k_ ≠ (.slice Ao68 t349.length co68 : Value).ownBlock ∧ some k_ ≠ (.slice Ao69 t352.length co69 : Value).ownBlock) (Kd.R_keptB (HO_345002.out) hkp (fun k_ hk_ hs_ => Or.elim hs_ (fun e_ => (hk_.2.2.2.2.2.1) e_) (fun e_ => Or.elim e_ (fun e_ => (hk_.2.2.2.2.2.2.1) e_) (fun e_ => (hk_.2.2.2.2.2.2.2) e_)))) (fun k_ hk_ => by first | exact ⟨hk_.1.1, hk_.1.2.1, hk_.1.2.2.1, hk_.1.2.2.2.1, hk_.1.2.2.2.2.1, hk_.1.2.2.2.2.2.1, hk_.1.2.2.2.2.2.2.1, hk_.1.2.2.2.2.2.2.2⟩ | simp_all)); replace HO_345003 := ak (Kd.R_mono (ok' := fun k_ => some k_ ≠ (.slice Ao43 t321.length co43 : Value).ownBlock ∧ some k_ ≠ (.slice Ao45 t324.length co45 : Value).ownBlock ∧ some k_ ≠ (.slice Ao47 t327.length co47 : Value).ownBlock ∧ some k_ ≠ (.slice Ao57 t375.length co57 : Value).ownBlock ∧ some k_ ≠ (.slice Ao58 t376.length co58 : Value).ownBlock ∧ some k_ ≠ (.slice Ao67 t346.length co67 : Value).ownBlock ∧ some k_ ≠ (.slice Ao68 t349.length co68 : Value).ownBlock ∧ some k_ ≠ (.slice Ao69 t352.length co69 : Value).ownBlock) (Kd.R_keptB (HO_345003.out) hkp (fun k_ hk_ hs_ => Or.elim hs_ (fun e_ => (hk_.2.2.2.2.2.1) e_) (fun e_ => Or.elim e_ (fun e_ => (hk_.2.2.2.2.2.2.1) e_) (fun e_ => (hk_.2.2.2.2.2.2.2) e_)))) (fun k_ hk_ => by first | exact ⟨hk_.1.1, hk_.1.2.1, hk_.1.2.2.1, hk_.1.2.2.2.1, hk_.1.2.2.2.2.1, hk_.1.2.2.2.2.2.1, hk_.1.2.2.2.2.2.2.1, hk_.1.2.2.2.2.2.2.2⟩ | simp_all)); replace BK304 := ak (blk_kept (PK BK304) hkp (fun hs_ => Or.elim hs_ (fun e_ => (fun e_ => (Kd.R_ne HO_356001.out BK304.out (by decide)) e_) e_) (fun e_ => Or.elim e_ (fun e_ => (fun e_ => (Kd.R_ne HO_356002.out BK304.out (by decide)) e_) e_) (fun e_ => (fun e_ => (Kd.R_ne HO_356003.out BK304.out (by decide)) e_) e_)))); replace BK330 := ak (blk_kept (PK BK330) hkp (fun hs_ => Or.elim hs_ (fun e_ => (fun e_ => (Kd.R_ne HO_356001.out BK330.out (by decide)) e_) e_) (fun e_ => Or.elim e_ (fun e_ => (fun e_ => (Kd.R_ne HO_356002.out BK330.out (by decide)) e_) e_) (fun e_ => (fun e_ => (Kd.R_ne HO_356003.out BK330.out (by decide)) e_) e_)))); replace BK344 := ak (blk_kept (PK BK344) hkp (fun hs_ => Or.elim hs_ (fun e_ => (fun e_ => (Kd.R_ne HO_356001.out BK344.out (by decide)) e_) e_) (fun e_ => Or.elim e_ (fun e_ => (fun e_ => (Kd.R_ne HO_356002.out BK344.out (by decide)) e_) e_) (fun e_ => (fun e_ => (Kd.R_ne HO_356003.out BK344.out (by decide)) e_) e_)))); replace BK355 := ak (blk_kept (PK BK355) hkp (fun hs_ => Or.elim hs_ (fun e_ => (fun e_ => (Kd.R_ne HO_356001.out BK355.out (by decide)) e_) e_) (fun e_ => Or.elim e_ (fun e_ => (fun e_ => (Kd.R_ne HO_356002.out BK355.out (by decide)) e_) e_) (fun e_ => (fun e_ => (Kd.R_ne HO_356003.out BK355.out (by decide)) e_) e_)))); replace HO_356001 := ak (Kd.R_reok rfl hy0 (fun k_ e_ => HO_356001.out.1 k_ e_)); replace HO_356002 := ak (Kd.R_reok rfl hy1 (fun k_ e_ => HO_356002.out.1 k_ e_)); replace HO_356003 := ak (Kd.R_reok rfl hy2 (fun k_ e_ => HO_356003.out.1 k_ e_)); replace HB := ak hb; (try clear hb); (try clear hkp); (try clear hy0); (try clear hy1); (try clear hy2); obtain ⟨_, _, _, _, _, _, _, _⟩ := bc4 BK355) | ((with_reducible refine gate_callee (f := 46) rfl ?_); refine goesL_ (some 73) rfl rfl Try.func46 KR rfl #[.agg #[.int .i64 t345, .slice Ao67 t380.length co67, .slice Ao68 t381.length co68, .slice Ao69 t382.length co69], .int .i64 1] rfl (by (try simp only [List.map_toArray, List.map_cons, List.map_nil]); first | done | (rw [show t380.length = t346.length from (Kd.R_reads' HO_356001.out).1.symm, show t381.length = t349.length from (Kd.R_reads' HO_356002.out).1.symm, show t382.length = t352.length from (Kd.R_reads' HO_356003.out).1.symm] <;> rfl) | rfl | (simp only [List.length_drop, List.length_take]; rfl)) ?_; (with_reducible refine (laws_heldState.calls kj27 t345 _ _ t380 _ _ t381 _ _ t382 1 t383 _ ?side1 ?side2 ?side3 ?side4 ?side5 ?side6 A96.out).mono ?_); (case side1 => exact CR ((Kd.R_reads' HO_356001.out).2.2)); (case side2 => rw [show t380.length = t346.length from (Kd.R_reads' HO_356001.out).1.symm]; exact (Kd.R_reads' HO_356001.out).2.1); (case side3 => exact CR ((Kd.R_reads' HO_356002.out).2.2)); (case side4 => rw [show t381.length = t349.length from (Kd.R_reads' HO_356002.out).1.symm]; exact (Kd.R_reads' HO_356002.out).2.1); (case side5 => exact CR ((Kd.R_reads' HO_356003.out).2.2)); (case side6 => rw [show t382.length = t352.length from (Kd.R_reads' HO_356003.out).1.symm]; exact (Kd.R_reads' HO_356003.out).2.1); rintro e w155 ⟨rfl, hb⟩; refine ⟨_, rfl, ?_⟩; replace HO_331001 := Rb HO_331001 hb; replace HO_331002 := Rb HO_331002 hb; replace HO_331003 := Rb HO_331003 hb; replace HO_345001 := Rb HO_345001 hb; replace HO_345002 := Rb HO_345002 hb; replace HO_345003 := Rb HO_345003 hb; replace HO_356001 := Rb HO_356001 hb; replace HO_356002 := Rb HO_356002 hb; replace HO_356003 := Rb HO_356003 hb; replace BK304 := kf BK304 hb; replace BK330 := kf BK330 hb; replace BK344 := kf BK344 hb; replace BK355 := kf BK355 hb; replace HB := bs HB hb; (try clear hb); (try clear hb2); (try clear hk); (try clear hi)))
              replace HO_331001 := ak (Kd.R_drew HO_331001.out)
              replace HO_331002 := ak (Kd.R_drew HO_331002.out)
              replace HO_331003 := ak (Kd.R_drew HO_331003.out)
              replace HO_345001 := ak (Kd.R_drew HO_345001.out)
              replace HO_345002 := ak (Kd.R_drew HO_345002.out)
              replace HO_345003 := ak (Kd.R_drew HO_345003.out)
              replace HO_356001 := ak (Kd.R_drew HO_356001.out)
              replace HO_356002 := ak (Kd.R_drew HO_356002.out)
              replace HO_356003 := ak (Kd.R_drew HO_356003.out)
              replace BK304 := ak (blk_drew BK304.out)
              replace BK330 := ak (blk_drew BK330.out)
              replace BK344 := ak (blk_drew BK344.out)
              replace BK355 := ak (blk_drew BK355.out)
              replace HB := ak (below_drew1 HB.out)
              refine start_ (n := 8) (S := fun w' => w'.cell? ⟨gb304, 0, none⟩ = some (.int .i64 a1_0) ∧ w'.cell? ⟨gb304, 1, none⟩ = some (.slice A1_1 l1_1.length c1_1) ∧ w'.cell? ⟨gb304, 2, none⟩ = some (.slice A1_2 l1_2.length c1_2) ∧ w'.cell? ⟨gb304, 3, none⟩ = some (.slice A1_3 l1_3.length c1_3)) (ds := []) b11_11 KR rfl rfl ⟨(blk_cell BK304.out 0).trans rfl, (blk_cell BK304.out 1).trans rfl, (blk_cell BK304.out 2).trans rfl, (blk_cell BK304.out 3).trans rfl⟩ (fun hHeld => ?_); refine with_tabW laws_FnExactStepState.tab31 laws_FnExactStepState.bits31 (fun HT_ HW_ => ?_)
              generalize w155.drew = w156 at HO_331001 HO_331002 HO_331003 HO_345001 HO_345002 HO_345003 HO_356001 HO_356002 HO_356003 BK304 BK330 BK344 BK355 HB hHeld ⊢
              refine pu_ (i := 0) (N := some 79) b11_10 HT_ ?_
              refine pu_ (i := 4) (N := some 83) b11_9 HT_ ?_
              refine tk_ (i := 2) (N := some 81) b11_8 rfl rfl HT_ HW_ hHeld ?_
              refine join_ (σ := Value × Value × Value × Value × Value × Value × Value × Nat) 1 b11_1 (fun s_ => [(80, s_.1), (82, .agg #[.int .i64 t387, s_.2.1, s_.2.2.1, s_.2.2.2.1]), (84, .agg #[.int .i64 t397, s_.2.2.2.2.1, s_.2.2.2.2.2.1, s_.2.2.2.2.2.2.1]), (15, .pointer (some ⟨s_.2.2.2.2.2.2.2, 0, none⟩))]) (fun s_ w' => (w'.cell? ⟨gb304, 0, none⟩ = some (.int .i64 a1_0) ∧ w'.cell? ⟨gb304, 1, none⟩ = some (.slice A1_1 l1_1.length c1_1) ∧ w'.cell? ⟨gb304, 2, none⟩ = some (.slice A1_2 l1_2.length c1_2) ∧ w'.cell? ⟨gb304, 3, none⟩ = some (.slice A1_3 l1_3.length c1_3)) ∧ (Kd.R k121 121 w' w.heap.size (fun _ => True) s_.1 t384) ∧ (Kd.R (Kd.int .i64) 3 w' w.heap.size (fun k_ => some k_ ≠ (s_.2.2.1 : Value).ownBlock ∧ some k_ ≠ (s_.2.2.2.1 : Value).ownBlock ∧ some k_ ≠ (s_.2.2.2.2.1 : Value).ownBlock ∧ some k_ ≠ (s_.2.2.2.2.2.1 : Value).ownBlock ∧ some k_ ≠ (s_.2.2.2.2.2.2.1 : Value).ownBlock ∧ some k_ ≠ (.slice Ao43 t321.length co43 : Value).ownBlock ∧ some k_ ≠ (.slice Ao45 t324.length co45 : Value).ownBlock ∧ some k_ ≠ (.slice Ao47 t327.length co47 : Value).ownBlock ∧ some k_ ≠ (.slice Ao57 t375.length co57 : Value).ownBlock ∧ some k_ ≠ (.slice Ao58 t376.length co58 : Value).ownBlock ∧ some k_ ≠ (.slice Ao59 t377.length co59 : Value).ownBlock ∧ some k_ ≠ (.slice Ao67 t346.length co67 : Value).ownBlock ∧ some k_ ≠ (.slice Ao68 t349.length co68 : Value).ownBlock ∧ some k_ ≠ (.slice Ao69 t352.length co69 : Value).ownBlock) s_.2.1 t388) ∧ (Kd.R (Kd.int .i64) 3 w' w.heap.size (fun k_ => some k_ ≠ (s_.2.1 : Value).ownBlock ∧ some k_ ≠ (s_.2.2.2.1 : Value).ownBlock ∧ some k_ ≠ (s_.2.2.2.2.1 : Value).ownBlock ∧ some k_ ≠ (s_.2.2.2.2.2.1 : Value).ownBlock ∧ some k_ ≠ (s_.2.2.2.2.2.2.1 : Value).ownBlock ∧ some k_ ≠ (.slice Ao43 t321.length co43 : Value).ownBlock ∧ some k_ ≠ (.slice Ao45 t324.length co45 : Value).ownBlock ∧ some k_ ≠ (.slice Ao47 t327.length co47 : Value).ownBlock ∧ some k_ ≠ (.slice Ao57 t375.length co57 : Value).ownBlock ∧ some k_ ≠ (.slice Ao58 t376.length co58 : Value).ownBlock ∧ some k_ ≠ (.slice Ao59 t377.length co59 : Value).ownBlock ∧ some k_ ≠ (.slice Ao67 t346.length co67 : Value).ownBlock ∧ some k_ ≠ (.slice Ao68 t349.length co68 : Value).ownBlock ∧ some k_ ≠ (.slice Ao69 t352.length co69 : Value).ownBlock) s_.2.2.1 t391) ∧ (Kd.R (Kd.int .i64) 3 w' w.heap.size (fun k_ => some k_ ≠ (s_.2.1 : Value).ownBlock ∧ some k_ ≠ (s_.2.2.1 : Value).ownBlock ∧ some k_ ≠ (s_.2.2.2.2.1 : Value).ownBlock ∧ some k_ ≠ (s_.2.2.2.2.2.1 : Value).ownBlock ∧ some k_ ≠ (s_.2.2.2.2.2.2.1 : Value).ownBlock ∧ some k_ ≠ (.slice Ao43 t321.length co43 : Value).ownBlock ∧ some k_ ≠ (.slice Ao45 t324.length co45 : Value).ownBlock ∧ some k_ ≠ (.slice Ao47 t327.length co47 : Value).ownBlock ∧ some k_ ≠ (.slice Ao57 t375.length co57 : Value).ownBlock ∧ some k_ ≠ (.slice Ao58 t376.length co58 : Value).ownBlock ∧ some k_ ≠ (.slice Ao59 t377.length co59 : Value).ownBlock ∧ some k_ ≠ (.slice Ao67 t346.length co67 : Value).ownBlock ∧ some k_ ≠ (.slice Ao68 t349.length co68 : Value).ownBlock ∧ some k_ ≠ (.slice Ao69 t352.length co69 : Value).ownBlock) s_.2.2.2.1 t394) ∧ (Kd.R (Kd.int .i64) 3 w' w.heap.size (fun k_ => some k_ ≠ (s_.2.1 : Value).ownBlock ∧ some k_ ≠ (s_.2.2.1 : Value).ownBlock ∧ some k_ ≠ (s_.2.2.2.1 : Value).ownBlock ∧ some k_ ≠ (s_.2.2.2.2.2.1 : Value).ownBlock ∧ some k_ ≠ (s_.2.2.2.2.2.2.1 : Value).ownBlock ∧ some k_ ≠ (.slice Ao43 t321.length co43 : Value).ownBlock ∧ some k_ ≠ (.slice Ao45 t324.length co45 : Value).ownBlock ∧ some k_ ≠ (.slice Ao47 t327.length co47 : Value).ownBlock ∧ some k_ ≠ (.slice Ao57 t375.length co57 : Value).ownBlock ∧ some k_ ≠ (.slice Ao58 t376.length co58 : Value).ownBlock ∧ some k_ ≠ (.slice Ao59 t377.length co59 : Value).ownBlock ∧ some k_ ≠ (.slice Ao67 t346.length co67 : Value).ownBlock ∧ some k_ ≠ (.slice Ao68 t349.length co68 : Value).ownBlock ∧ some k_ ≠ (.slice Ao69 t352.length co69 : Value).ownBlock) s_.2.2.2.2.1 t398) ∧ (Kd.R (Kd.int .i64) 3 w' w.heap.size (fun k_ => some k_ ≠ (s_.2.1 : Value).ownBlock ∧ some k_ ≠ (s_.2.2.1 : Value).ownBlock ∧ some k_ ≠ (s_.2.2.2.1 : Value).ownBlock ∧ some k_ ≠ (s_.2.2.2.2.1 : Value).ownBlock ∧ some k_ ≠ (s_.2.2.2.2.2.2.1 : Value).ownBlock ∧ some k_ ≠ (.slice Ao43 t321.length co43 : Value).ownBlock ∧ some k_ ≠ (.slice Ao45 t324.length co45 : Value).ownBlock ∧ some k_ ≠ (.slice Ao47 t327.length co47 : Value).ownBlock ∧ some k_ ≠ (.slice Ao57 t375.length co57 : Value).ownBlock ∧ some k_ ≠ (.slice Ao58 t376.length co58 : Value).ownBlock ∧ some k_ ≠ (.slice Ao59 t377.length co59 : Value).ownBlock ∧ some k_ ≠ (.slice Ao67 t346.length co67 : Value).ownBlock ∧ some k_ ≠ (.slice Ao68 t349.length co68 : Value).ownBlock ∧ some k_ ≠ (.slice Ao69 t352.length co69 : Value).ownBlock) s_.2.2.2.2.2.1 t401) ∧ (Kd.R (Kd.int .i64) 3 w' w.heap.size (fun k_ => some k_ ≠ (s_.2.1 : Value).ownBlock ∧ some k_ ≠ (s_.2.2.1 : Value).ownBlock ∧ some k_ ≠ (s_.2.2.2.1 : Value).ownBlock ∧ some k_ ≠ (s_.2.2.2.2.1 : Value).ownBlock ∧ some k_ ≠ (s_.2.2.2.2.2.1 : Value).ownBlock ∧ some k_ ≠ (.slice Ao43 t321.length co43 : Value).ownBlock ∧ some k_ ≠ (.slice Ao45 t324.length co45 : Value).ownBlock ∧ some k_ ≠ (.slice Ao47 t327.length co47 : Value).ownBlock ∧ some k_ ≠ (.slice Ao57 t375.length co57 : Value).ownBlock ∧ some k_ ≠ (.slice Ao58 t376.length co58 : Value).ownBlock ∧ some k_ ≠ (.slice Ao59 t377.length co59 : Value).ownBlock ∧ some k_ ≠ (.slice Ao67 t346.length co67 : Value).ownBlock ∧ some k_ ≠ (.slice Ao68 t349.length co68 : Value).ownBlock ∧ some k_ ≠ (.slice Ao69 t352.length co69 : Value).ownBlock) s_.2.2.2.2.2.2.1 t404) ∧ (Kd.R (Kd.int .i64) 3 w' w.heap.size (fun k_ => some k_ ≠ (s_.2.1 : Value).ownBlock ∧ some k_ ≠ (s_.2.2.1 : Value).ownBlock ∧ some k_ ≠ (s_.2.2.2.1 : Value).ownBlock ∧ some k_ ≠ (s_.2.2.2.2.1 : Value).ownBlock ∧ some k_ ≠ (s_.2.2.2.2.2.1 : Value).ownBlock ∧ some k_ ≠ (s_.2.2.2.2.2.2.1 : Value).ownBlock ∧ some k_ ≠ (.slice Ao45 t324.length co45 : Value).ownBlock ∧ some k_ ≠ (.slice Ao47 t327.length co47 : Value).ownBlock ∧ some k_ ≠ (.slice Ao57 t375.length co57 : Value).ownBlock ∧ some k_ ≠ (.slice Ao58 t376.length co58 : Value).ownBlock ∧ some k_ ≠ (.slice Ao59 t377.length co59 : Value).ownBlock ∧ some k_ ≠ (.slice Ao67 t346.length co67 : Value).ownBlock ∧ some k_ ≠ (.slice Ao68 t349.length co68 : Value).ownBlock ∧ some k_ ≠ (.slice Ao69 t352.length co69 : Value).ownBlock) (.slice Ao43 t321.length co43) t321) ∧ (Kd.R (Kd.int .i64) 3 w' w.heap.size (fun k_ => some k_ ≠ (s_.2.1 : Value).ownBlock ∧ some k_ ≠ (s_.2.2.1 : Value).ownBlock ∧ some k_ ≠ (s_.2.2.2.1 : Value).ownBlock ∧ some k_ ≠ (s_.2.2.2.2.1 : Value).ownBlock ∧ some k_ ≠ (s_.2.2.2.2.2.1 : Value).ownBlock ∧ some k_ ≠ (s_.2.2.2.2.2.2.1 : Value).ownBlock ∧ some k_ ≠ (.slice Ao43 t321.length co43 : Value).ownBlock ∧ some k_ ≠ (.slice Ao47 t327.length co47 : Value).ownBlock ∧ some k_ ≠ (.slice Ao57 t375.length co57 : Value).ownBlock ∧ some k_ ≠ (.slice Ao58 t376.length co58 : Value).ownBlock ∧ some k_ ≠ (.slice Ao59 t377.length co59 : Value).ownBlock ∧ some k_ ≠ (.slice Ao67 t346.length co67 : Value).ownBlock ∧ some k_ ≠ (.slice Ao68 t349.length co68 : Value).ownBlock ∧ some k_ ≠ (.slice Ao69 t352.length co69 : Value).ownBlock) (.slice Ao45 t324.length co45) t324) ∧ (Kd.R (Kd.int .i64) 3 w' w.heap.size (fun k_ => some k_ ≠ (s_.2.1 : Value).ownBlock ∧ some k_ ≠ (s_.2.2.1 : Value).ownBlock ∧ some k_ ≠ (s_.2.2.2.1 : Value).ownBlock ∧ some k_ ≠ (s_.2.2.2.2.1 : Value).ownBlock ∧ some k_ ≠ (s_.2.2.2.2.2.1 : Value).ownBlock ∧ some k_ ≠ (s_.2.2.2.2.2.2.1 : Value).ownBlock ∧ some k_ ≠ (.slice Ao43 t321.length co43 : Value).ownBlock ∧ some k_ ≠ (.slice Ao45 t324.length co45 : Value).ownBlock ∧ some k_ ≠ (.slice Ao57 t375.length co57 : Value).ownBlock ∧ some k_ ≠ (.slice Ao58 t376.length co58 : Value).ownBlock ∧ some k_ ≠ (.slice Ao59 t377.length co59 : Value).ownBlock ∧ some k_ ≠ (.slice Ao67 t346.length co67 : Value).ownBlock ∧ some k_ ≠ (.slice Ao68 t349.length co68 : Value).ownBlock ∧ some k_ ≠ (.slice Ao69 t352.length co69 : Value).ownBlock) (.slice Ao47 t327.length co47) t327) ∧ (Kd.R (Kd.int .i64) 3 w' w.heap.size (fun k_ => some k_ ≠ (s_.2.1 : Value).ownBlock ∧ some k_ ≠ (s_.2.2.1 : Value).ownBlock ∧ some k_ ≠ (s_.2.2.2.1 : Value).ownBlock ∧ some k_ ≠ (s_.2.2.2.2.1 : Value).ownBlock ∧ some k_ ≠ (s_.2.2.2.2.2.1 : Value).ownBlock ∧ some k_ ≠ (s_.2.2.2.2.2.2.1 : Value).ownBlock ∧ some k_ ≠ (.slice Ao43 t321.length co43 : Value).ownBlock ∧ some k_ ≠ (.slice Ao45 t324.length co45 : Value).ownBlock ∧ some k_ ≠ (.slice Ao47 t327.length co47 : Value).ownBlock ∧ some k_ ≠ (.slice Ao58 t376.length co58 : Value).ownBlock ∧ some k_ ≠ (.slice Ao59 t377.length co59 : Value).ownBlock ∧ some k_ ≠ (.slice Ao67 t346.length co67 : Value).ownBlock ∧ some k_ ≠ (.slice Ao68 t349.length co68 : Value).ownBlock ∧ some k_ ≠ (.slice Ao69 t352.length co69 : Value).ownBlock) (.slice Ao57 t375.length co57) t375) ∧ (Kd.R (Kd.int .i64) 3 w' w.heap.size (fun k_ => some k_ ≠ (s_.2.1 : Value).ownBlock ∧ some k_ ≠ (s_.2.2.1 : Value).ownBlock ∧ some k_ ≠ (s_.2.2.2.1 : Value).ownBlock ∧ some k_ ≠ (s_.2.2.2.2.1 : Value).ownBlock ∧ some k_ ≠ (s_.2.2.2.2.2.1 : Value).ownBlock ∧ some k_ ≠ (s_.2.2.2.2.2.2.1 : Value).ownBlock ∧ some k_ ≠ (.slice Ao43 t321.length co43 : Value).ownBlock ∧ some k_ ≠ (.slice Ao45 t324.length co45 : Value).ownBlock ∧ some k_ ≠ (.slice Ao47 t327.length co47 : Value).ownBlock ∧ some k_ ≠ (.slice Ao57 t375.length co57 : Value).ownBlock ∧ some k_ ≠ (.slice Ao59 t377.length co59 : Value).ownBlock ∧ some k_ ≠ (.slice Ao67 t346.length co67 : Value).ownBlock ∧ some k_ ≠ (.slice Ao68 t349.length co68 : Value).ownBlock ∧ some k_ ≠ (.slice Ao69 t352.length co69 : Value).ownBlock) (.slice Ao58 t376.length co58) t376) ∧ (Kd.R (Kd.int .i64) 3 w' w.heap.size (fun k_ => some k_ ≠ (s_.2.1 : Value).ownBlock ∧ some k_ ≠ (s_.2.2.1 : Value).ownBlock ∧ some k_ ≠ (s_.2.2.2.1 : Value).ownBlock ∧ some k_ ≠ (s_.2.2.2.2.1 : Value).ownBlock ∧ some k_ ≠ (s_.2.2.2.2.2.1 : Value).ownBlock ∧ some k_ ≠ (s_.2.2.2.2.2.2.1 : Value).ownBlock ∧ some k_ ≠ (.slice Ao43 t321.length co43 : Value).ownBlock ∧ some k_ ≠ (.slice Ao45 t324.length co45 : Value).ownBlock ∧ some k_ ≠ (.slice Ao47 t327.length co47 : Value).ownBlock ∧ some k_ ≠ (.slice Ao57 t375.length co57 : Value).ownBlock ∧ some k_ ≠ (.slice Ao58 t376.length co58 : Value).ownBlock ∧ some k_ ≠ (.slice Ao67 t346.length co67 : Value).ownBlock ∧ some k_ ≠ (.slice Ao68 t349.length co68 : Value).ownBlock ∧ some k_ ≠ (.slice Ao69 t352.length co69 : Value).ownBlock) (.slice Ao59 t377.length co59) t377) ∧ (Kd.R (Kd.int .i64) 3 w' w.heap.size (fun k_ => some k_ ≠ (s_.2.1 : Value).ownBlock ∧ some k_ ≠ (s_.2.2.1 : Value).ownBlock ∧ some k_ ≠ (s_.2.2.2.1 : Value).ownBlock ∧ some k_ ≠ (s_.2.2.2.2.1 : Value).ownBlock ∧ some k_ ≠ (s_.2.2.2.2.2.1 : Value).ownBlock ∧ some k_ ≠ (s_.2.2.2.2.2.2.1 : Value).ownBlock ∧ some k_ ≠ (.slice Ao43 t321.length co43 : Value).ownBlock ∧ some k_ ≠ (.slice Ao45 t324.length co45 : Value).ownBlock ∧ some k_ ≠ (.slice Ao47 t327.length co47 : Value).ownBlock ∧ some k_ ≠ (.slice Ao57 t375.length co57 : Value).ownBlock ∧ some k_ ≠ (.slice Ao58 t376.length co58 : Value).ownBlock ∧ some k_ ≠ (.slice Ao59 t377.length co59 : Value).ownBlock ∧ some k_ ≠ (.slice Ao68 t349.length co68 : Value).ownBlock ∧ some k_ ≠ (.slice Ao69 t352.length co69 : Value).ownBlock) (.slice Ao67 t346.length co67) t380) ∧ (Kd.R (Kd.int .i64) 3 w' w.heap.size (fun k_ => some k_ ≠ (s_.2.1 : Value).ownBlock ∧ some k_ ≠ (s_.2.2.1 : Value).ownBlock ∧ some k_ ≠ (s_.2.2.2.1 : Value).ownBlock ∧ some k_ ≠ (s_.2.2.2.2.1 : Value).ownBlock ∧ some k_ ≠ (s_.2.2.2.2.2.1 : Value).ownBlock ∧ some k_ ≠ (s_.2.2.2.2.2.2.1 : Value).ownBlock ∧ some k_ ≠ (.slice Ao43 t321.length co43 : Value).ownBlock ∧ some k_ ≠ (.slice Ao45 t324.length co45 : Value).ownBlock ∧ some k_ ≠ (.slice Ao47 t327.length co47 : Value).ownBlock ∧ some k_ ≠ (.slice Ao57 t375.length co57 : Value).ownBlock ∧ some k_ ≠ (.slice Ao58 t376.length co58 : Value).ownBlock ∧ some k_ ≠ (.slice Ao59 t377.length co59 : Value).ownBlock ∧ some k_ ≠ (.slice Ao67 t346.length co67 : Value).ownBlock ∧ some k_ ≠ (.slice Ao69 t352.length co69 : Value).ownBlock) (.slice Ao68 t349.length co68) t381) ∧ (Kd.R (Kd.int .i64) 3 w' w.heap.size (fun k_ => some k_ ≠ (s_.2.1 : Value).ownBlock ∧ some k_ ≠ (s_.2.2.1 : Value).ownBlock ∧ some k_ ≠ (s_.2.2.2.1 : Value).ownBlock ∧ some k_ ≠ (s_.2.2.2.2.1 : Value).ownBlock ∧ some k_ ≠ (s_.2.2.2.2.2.1 : Value).ownBlock ∧ some k_ ≠ (s_.2.2.2.2.2.2.1 : Value).ownBlock ∧ some k_ ≠ (.slice Ao43 t321.length co43 : Value).ownBlock ∧ some k_ ≠ (.slice Ao45 t324.length co45 : Value).ownBlock ∧ some k_ ≠ (.slice Ao47 t327.length co47 : Value).ownBlock ∧ some k_ ≠ (.slice Ao57 t375.length co57 : Value).ownBlock ∧ some k_ ≠ (.slice Ao58 t376.length co58 : Value).ownBlock ∧ some k_ ≠ (.slice Ao59 t377.length co59 : Value).ownBlock ∧ some k_ ≠ (.slice Ao67 t346.length co67 : Value).ownBlock ∧ some k_ ≠ (.slice Ao68 t349.length co68 : Value).ownBlock) (.slice Ao69 t352.length co69) t382) ∧ (w'.heap[gb304]? = some (.cells #[.int .i64 a1_0, .slice A1_1 l1_1.length c1_1, .slice A1_2 l1_2.length c1_2, .slice A1_3 l1_3.length c1_3] 72 (0, 0))) ∧ (w'.heap[gb330]? = some (.cells #[.int .i64 t320, .slice Ao43 t321.length co43, .slice Ao45 t324.length co45, .slice Ao47 t327.length co47] 45 (0, 0))) ∧ (w'.heap[gb344]? = some (.cells #[.int .i64 t334, .slice Ao57 t375.length co57, .slice Ao58 t376.length co58, .slice Ao59 t377.length co59] 45 (0, 0))) ∧ (w'.heap[gb355]? = some (.cells #[.int .i64 t345, .slice Ao67 t346.length co67, .slice Ao68 t349.length co68, .slice Ao69 t352.length co69] 45 (0, 0))) ∧ (w'.heap[s_.2.2.2.2.2.2.2]? = some (.cells #[.int .i64 0, .slice none 0 0, .slice none 0 0, .slice none 0 0] 45 (0, 0))) ∧ (w.heap.size ≤ s_.2.2.2.2.2.2.2) ∧ (w.heap.size ≤ s_.2.2.2.2.2.2.2) ∧ (gb304 ≠ s_.2.2.2.2.2.2.2) ∧ (s_.2.2.2.2.2.2.2 ≠ gb304) ∧ (gb330 ≠ s_.2.2.2.2.2.2.2) ∧ (s_.2.2.2.2.2.2.2 ≠ gb330) ∧ (gb344 ≠ s_.2.2.2.2.2.2.2) ∧ (s_.2.2.2.2.2.2.2 ≠ gb344) ∧ (gb355 ≠ s_.2.2.2.2.2.2.2) ∧ (s_.2.2.2.2.2.2.2 ≠ gb355) ∧ (Below w.heap.size w w')) ?_ ?_
              rotate_left
              ·intro hCont
               refine two_ (i := 1) (j := 6) (Ni := some 80) (Nj := some 15) b11_7 b11_6 rfl rfl rfl rfl (two_of HT_.out KR) (by decide) (by decide) (fun K hK => ?_) (fun K hK => ?_)
               ·skip
                refine goes_ Try.func40 KR rfl #[.slice A0 l0.length c0] (by rfl) rfl rfl AR ?_
                with_reducible refine (laws_toOpS.calls kj27 _ _ l0 t384 _ ?side1 ?side2 A106.out).mono ?_
                (case side1 => exact CR (Kd.C_below HR0.out HB.out))
                (case side2 => exact HC0.out)
                rintro e w157 ⟨v385, rfl, ho0, hb⟩
                refine ⟨_, rfl, ?_⟩
                replace HO_331001 := Rb HO_331001 hb
                replace HO_331002 := Rb HO_331002 hb
                replace HO_331003 := Rb HO_331003 hb
                replace HO_345001 := Rb HO_345001 hb
                replace HO_345002 := Rb HO_345002 hb
                replace HO_345003 := Rb HO_345003 hb
                replace HO_356001 := Rb HO_356001 hb
                replace HO_356002 := Rb HO_356002 hb
                replace HO_356003 := Rb HO_356003 hb
                have HO386 := Rn0 ho0 HB
                replace BK304 := kf BK304 hb
                replace BK330 := kf BK330 hb
                replace BK344 := kf BK344 hb
                replace BK355 := kf BK355 hb
                replace HB := bs HB hb
                (try clear hb)
                (try clear hb2)
                (try clear hk)
                (try clear hi)
                (try clear ho0)
                obtain ⟨Ao385_, co385_, eo385_⟩ := Kd.R_slice HO386.out
                subst eo385_
                refine hK.out _ _ ⟨(blk_cell BK304.out 0).trans rfl, (blk_cell BK304.out 1).trans rfl, (blk_cell BK304.out 2).trans rfl, (blk_cell BK304.out 3).trans rfl⟩ (fun hHeld => ?_)
                clear hK K
                refine norm_ (a' := ?_) ?_ ?_
                rotate_left
                ·show Act.put _ (some 80) _ = _
                 simp only [Act.put, List.setIfInBounds_toArray, List.set_cons_zero, List.set_cons_succ, i64_w, i32_w]
                 rfl
                refine two_ (i := 3) (j := 6) (Ni := some 82) (Nj := some 15) b11_5 b11_4 rfl rfl rfl rfl (two_of HT_.out KR) (by decide) (by decide) (fun K hK => ?_) (fun K hK => ?_)
                ·skip
                 refine goes_ Try.func41 KR rfl #[.agg #[.int .i64 a1_0, .slice A1_1 l1_1.length c1_1, .slice A1_2 l1_2.length c1_2, .slice A1_3 l1_3.length c1_3]] (by rfl) rfl rfl AR ?_
                 with_reducible refine (laws_toState.calls kj27 a1_0 _ _ l1_1 _ _ l1_2 _ _ l1_3 t387 t388 t391 t394 _ ?side1 ?side2 ?side3 ?side4 ?side5 ?side6 A107.out).mono ?_
                 (case side1 => exact CR (Kd.C_below HR1_1.out HB.out))
                 (case side2 => exact HC1_1.out)
                 (case side3 => exact CR (Kd.C_below HR1_2.out HB.out))
                 (case side4 => exact HC1_2.out)
                 (case side5 => exact CR (Kd.C_below HR1_3.out HB.out))
                 (case side6 => exact HC1_3.out)
                 rintro e w158 ⟨v389, v392, v395, rfl, ho0, ho1, ho2, hb⟩
                 refine ⟨_, rfl, ?_⟩
                 replace HO386 := Rb HO386 hb
                 have HO390 := ak (Kd.R_lower (Kd.R_new' (Kd.R_new' (Kd.R_new' (Kd.R_new' (Kd.R_new' (Kd.R_new' (Kd.R_new' (Kd.R_new' (Kd.R_new' ho0 (Kd.R_lt (PR HO_331001))) (Kd.R_lt (PR HO_331002))) (Kd.R_lt (PR HO_331003))) (Kd.R_lt (PR HO_345001))) (Kd.R_lt (PR HO_345002))) (Kd.R_lt (PR HO_345003))) (Kd.R_lt (PR HO_356001))) (Kd.R_lt (PR HO_356002))) (Kd.R_lt (PR HO_356003))) (below_size PB))
                 have HO393 := ak (Kd.R_lower (Kd.R_new' (Kd.R_new' (Kd.R_new' (Kd.R_new' (Kd.R_new' (Kd.R_new' (Kd.R_new' (Kd.R_new' (Kd.R_new' ho1 (Kd.R_lt (PR HO_331001))) (Kd.R_lt (PR HO_331002))) (Kd.R_lt (PR HO_331003))) (Kd.R_lt (PR HO_345001))) (Kd.R_lt (PR HO_345002))) (Kd.R_lt (PR HO_345003))) (Kd.R_lt (PR HO_356001))) (Kd.R_lt (PR HO_356002))) (Kd.R_lt (PR HO_356003))) (below_size PB))
                 have HO396 := ak (Kd.R_lower (Kd.R_new' (Kd.R_new' (Kd.R_new' (Kd.R_new' (Kd.R_new' (Kd.R_new' (Kd.R_new' (Kd.R_new' (Kd.R_new' ho2 (Kd.R_lt (PR HO_331001))) (Kd.R_lt (PR HO_331002))) (Kd.R_lt (PR HO_331003))) (Kd.R_lt (PR HO_345001))) (Kd.R_lt (PR HO_345002))) (Kd.R_lt (PR HO_345003))) (Kd.R_lt (PR HO_356001))) (Kd.R_lt (PR HO_356002))) (Kd.R_lt (PR HO_356003))) (below_size PB))
                 replace HO_331001 := (Ry3 HO_331001 hb ho0 ho1 ho2)
                 replace HO_331002 := (Ry3 HO_331002 hb ho0 ho1 ho2)
                 replace HO_331003 := (Ry3 HO_331003 hb ho0 ho1 ho2)
                 replace HO_345001 := (Ry3 HO_345001 hb ho0 ho1 ho2)
                 replace HO_345002 := (Ry3 HO_345002 hb ho0 ho1 ho2)
                 replace HO_345003 := (Ry3 HO_345003 hb ho0 ho1 ho2)
                 replace HO_356001 := (Ry3 HO_356001 hb ho0 ho1 ho2)
                 replace HO_356002 := (Ry3 HO_356002 hb ho0 ho1 ho2)
                 replace HO_356003 := (Ry3 HO_356003 hb ho0 ho1 ho2)
                 replace BK304 := kf BK304 hb
                 replace BK330 := kf BK330 hb
                 replace BK344 := kf BK344 hb
                 replace BK355 := kf BK355 hb
                 replace HB := bs HB hb
                 (try clear hb)
                 (try clear hb2)
                 (try clear hk)
                 (try clear hi)
                 (try clear ho0)
                 (try clear ho1)
                 (try clear ho2)
                 obtain ⟨Ao159, co159, eo159⟩ := Kd.R_slice HO386.out
                 (first | subst eo159 | (injection eo159 with f1_ f2_ f3_; have f4_ := f1_.symm; have f5_ := f3_.symm; clear f1_ f2_ f3_; subst f4_; subst f5_))
                 obtain ⟨Ao160, co160, eo160⟩ := Kd.R_slice HO390.out
                 (first | subst eo160 | (injection eo160 with f1_ f2_ f3_; have f4_ := f1_.symm; have f5_ := f3_.symm; clear f1_ f2_ f3_; subst f4_; subst f5_))
                 obtain ⟨Ao161, co161, eo161⟩ := Kd.R_slice HO393.out
                 (first | subst eo161 | (injection eo161 with f1_ f2_ f3_; have f4_ := f1_.symm; have f5_ := f3_.symm; clear f1_ f2_ f3_; subst f4_; subst f5_))
                 obtain ⟨Ao162, co162, eo162⟩ := Kd.R_slice HO396.out
                 (first | subst eo162 | (injection eo162 with f1_ f2_ f3_; have f4_ := f1_.symm; have f5_ := f3_.symm; clear f1_ f2_ f3_; subst f4_; subst f5_))
                 refine hK.out _ _ ⟨(blk_cell BK304.out 0).trans rfl, (blk_cell BK304.out 1).trans rfl, (blk_cell BK304.out 2).trans rfl, (blk_cell BK304.out 3).trans rfl⟩ (fun hHeld => ?_)
                 clear hK K
                 refine norm_ (a' := ?_) ?_ ?_
                 rotate_left
                 ·show Act.put _ (some 82) _ = _
                  simp only [Act.put, List.setIfInBounds_toArray, List.set_cons_zero, List.set_cons_succ, i64_w, i32_w]
                  rfl
                 refine two_ (i := 5) (j := 6) (Ni := some 84) (Nj := some 15) b11_3 b11_2 rfl rfl rfl rfl (two_of HT_.out KR) (by decide) (by decide) (fun K hK => ?_) (fun K hK => ?_)
                 ·skip
                  refine goes_ Try.func20 KR rfl #[.slice Ao159 t384.length co159, .agg #[.int .i64 t387, .slice Ao160 t388.length co160, .slice Ao161 t391.length co161, .slice Ao162 t394.length co162], .int .i64 a2] (by rfl) rfl rfl AR ?_
                  with_reducible refine (impl_StepState.calls kj27 _ _ t384 t387 _ _ t388 _ _ t391 _ _ t394 a2 t397 t398 t401 t404 _ ?side1 ?side2 ?side3 ?side4 ?side5 ?side6 ?side7 ?side8 A108.out).mono ?_
                  (case side1 => exact CR ((Kd.R_reads' HO386.out).2.2))
                  (case side2 => exact (Kd.R_reads' HO386.out).2.1)
                  (case side3 => exact CR ((Kd.R_reads' HO390.out).2.2))
                  (case side4 => exact (Kd.R_reads' HO390.out).2.1)
                  (case side5 => exact CR ((Kd.R_reads' HO393.out).2.2))
                  (case side6 => exact (Kd.R_reads' HO393.out).2.1)
                  (case side7 => exact CR ((Kd.R_reads' HO396.out).2.2))
                  (case side8 => exact (Kd.R_reads' HO396.out).2.1)
                  rintro e w163 ⟨v399, v402, v405, rfl, ho0, ho1, ho2, hb⟩
                  refine ⟨_, rfl, ?_⟩
                  replace HO386 := Rb HO386 hb
                  have HO400 := ak (Kd.R_lower (Kd.R_new' (Kd.R_new' (Kd.R_new' (Kd.R_new' (Kd.R_new' (Kd.R_new' (Kd.R_new' (Kd.R_new' (Kd.R_new' (Kd.R_new' (Kd.R_new' (Kd.R_new' ho0 (Kd.R_lt (PR HO_331001))) (Kd.R_lt (PR HO_331002))) (Kd.R_lt (PR HO_331003))) (Kd.R_lt (PR HO_345001))) (Kd.R_lt (PR HO_345002))) (Kd.R_lt (PR HO_345003))) (Kd.R_lt (PR HO_356001))) (Kd.R_lt (PR HO_356002))) (Kd.R_lt (PR HO_356003))) (Kd.R_lt (PR HO390))) (Kd.R_lt (PR HO393))) (Kd.R_lt (PR HO396))) (below_size PB))
                  have HO403 := ak (Kd.R_lower (Kd.R_new' (Kd.R_new' (Kd.R_new' (Kd.R_new' (Kd.R_new' (Kd.R_new' (Kd.R_new' (Kd.R_new' (Kd.R_new' (Kd.R_new' (Kd.R_new' (Kd.R_new' ho1 (Kd.R_lt (PR HO_331001))) (Kd.R_lt (PR HO_331002))) (Kd.R_lt (PR HO_331003))) (Kd.R_lt (PR HO_345001))) (Kd.R_lt (PR HO_345002))) (Kd.R_lt (PR HO_345003))) (Kd.R_lt (PR HO_356001))) (Kd.R_lt (PR HO_356002))) (Kd.R_lt (PR HO_356003))) (Kd.R_lt (PR HO390))) (Kd.R_lt (PR HO393))) (Kd.R_lt (PR HO396))) (below_size PB))
                  have HO406 := ak (Kd.R_lower (Kd.R_new' (Kd.R_new' (Kd.R_new' (Kd.R_new' (Kd.R_new' (Kd.R_new' (Kd.R_new' (Kd.R_new' (Kd.R_new' (Kd.R_new' (Kd.R_new' (Kd.R_new' ho2 (Kd.R_lt (PR HO_331001))) (Kd.R_lt (PR HO_331002))) (Kd.R_lt (PR HO_331003))) (Kd.R_lt (PR HO_345001))) (Kd.R_lt (PR HO_345002))) (Kd.R_lt (PR HO_345003))) (Kd.R_lt (PR HO_356001))) (Kd.R_lt (PR HO_356002))) (Kd.R_lt (PR HO_356003))) (Kd.R_lt (PR HO390))) (Kd.R_lt (PR HO393))) (Kd.R_lt (PR HO396))) (below_size PB))
                  replace HO_331001 := (Ry3 HO_331001 hb ho0 ho1 ho2)
                  replace HO_331002 := (Ry3 HO_331002 hb ho0 ho1 ho2)
                  replace HO_331003 := (Ry3 HO_331003 hb ho0 ho1 ho2)
                  replace HO_345001 := (Ry3 HO_345001 hb ho0 ho1 ho2)
                  replace HO_345002 := (Ry3 HO_345002 hb ho0 ho1 ho2)
                  replace HO_345003 := (Ry3 HO_345003 hb ho0 ho1 ho2)
                  replace HO_356001 := (Ry3 HO_356001 hb ho0 ho1 ho2)
                  replace HO_356002 := (Ry3 HO_356002 hb ho0 ho1 ho2)
                  replace HO_356003 := (Ry3 HO_356003 hb ho0 ho1 ho2)
                  replace HO390 := (Ry3 HO390 hb ho0 ho1 ho2)
                  replace HO393 := (Ry3 HO393 hb ho0 ho1 ho2)
                  replace HO396 := (Ry3 HO396 hb ho0 ho1 ho2)
                  replace BK304 := kf BK304 hb
                  replace BK330 := kf BK330 hb
                  replace BK344 := kf BK344 hb
                  replace BK355 := kf BK355 hb
                  replace HB := bs HB hb
                  (try clear hb)
                  (try clear hb2)
                  (try clear hk)
                  (try clear hi)
                  (try clear ho0)
                  (try clear ho1)
                  (try clear ho2)
                  refine hK.out _ _ ⟨(blk_cell BK304.out 0).trans rfl, (blk_cell BK304.out 1).trans rfl, (blk_cell BK304.out 2).trans rfl, (blk_cell BK304.out 3).trans rfl⟩ (fun hHeld => ?_)
                  clear hK K
                  refine norm_ (a' := ?_) ?_ ?_
                  rotate_left
                  ·show Act.put _ (some 84) _ = _
                   simp only [Act.put, List.setIfInBounds_toArray, List.set_cons_zero, List.set_cons_succ, i64_w, i32_w]
                   rfl
                  refine one_ (i := 6) (N := some 15) b11_1 rfl rfl (one_of HT_.out KR) (by decide) (fun K hK => ?_)
                  refine box_step ?hg (N := 15) ?hd (cs := #[.int .i64 0, .slice none 0 0, .slice none 0 0, .slice none 0 0]) (t := 45) ?hr ?_; (case hd => rfl); (case hg => rfl); (case hr => first | (go_simp; done) | (go_simp; rfl))
                  intro gb407 hg w164 hbox hb
                  replace HO_331001 := Rb HO_331001 hb
                  replace HO_331002 := Rb HO_331002 hb
                  replace HO_331003 := Rb HO_331003 hb
                  replace HO_345001 := Rb HO_345001 hb
                  replace HO_345002 := Rb HO_345002 hb
                  replace HO_345003 := Rb HO_345003 hb
                  replace HO_356001 := Rb HO_356001 hb
                  replace HO_356002 := Rb HO_356002 hb
                  replace HO_356003 := Rb HO_356003 hb
                  replace HO386 := Rb HO386 hb
                  replace HO390 := Rb HO390 hb
                  replace HO393 := Rb HO393 hb
                  replace HO396 := Rb HO396 hb
                  replace HO400 := Rb HO400 hb
                  replace HO403 := Rb HO403 hb
                  replace HO406 := Rb HO406 hb
                  have BK407 := ak hbox
                  have GW407 := gy hg HB
                  have GE407 := gy hg HB
                  replace HB := bs HB hb
                  have NB304_407 := gm hg BK304
                  have NB407_304 := gn hg BK304
                  replace BK304 := kf BK304 hb
                  have NB330_407 := gm hg BK330
                  have NB407_330 := gn hg BK330
                  replace BK330 := kf BK330 hb
                  have NB344_407 := gm hg BK344
                  have NB407_344 := gn hg BK344
                  replace BK344 := kf BK344 hb
                  have NB355_407 := gm hg BK355
                  have NB407_355 := gn hg BK355
                  replace BK355 := kf BK355 hb
                  clear hb hbox hg
                  refine hK.out _ _ ⟨(blk_cell BK304.out 0).trans rfl, (blk_cell BK304.out 1).trans rfl, (blk_cell BK304.out 2).trans rfl, (blk_cell BK304.out 3).trans rfl⟩ (fun hHeld => ?_)
                  clear hK K
                  refine norm_ (a' := ?_) ?_ ?_
                  rotate_left
                  ·show Act.put _ (some 15) _ = _
                   simp only [Act.put, List.setIfInBounds_toArray, List.set_cons_zero, List.set_cons_succ, i64_w, i32_w]
                   rfl
                  exact norm_ (by simp only [putAll, Act.put, List.setIfInBounds_toArray, List.set_cons_zero, List.set_cons_succ]) (hCont (.slice Ao159 t384.length co159, .slice Ao160 t388.length co160, .slice Ao161 t391.length co161, .slice Ao162 t394.length co162, v399, v402, v405, gb407) _ ⟨hHeld, (PR HO386), (RX HO390.out (fun _ hk => ⟨hk.1.1.1.1.1.1.1.1.1.1.1.1.1, ⟨hk.1.1.1.1.1.1.1.1.1.1.1.1.2, ⟨hk.1.1.2, ⟨hk.1.2, ⟨hk.2, ⟨hk.1.1.1.1.1.1.1.1.1.1.1.2, ⟨hk.1.1.1.1.1.1.1.1.1.1.2, ⟨hk.1.1.1.1.1.1.1.1.1.2, ⟨hk.1.1.1.1.1.1.1.1.2, ⟨hk.1.1.1.1.1.1.1.2, ⟨hk.1.1.1.1.1.1.2, ⟨hk.1.1.1.1.1.2, ⟨hk.1.1.1.1.2, hk.1.1.1.2⟩⟩⟩⟩⟩⟩⟩⟩⟩⟩⟩⟩⟩)), (RX HO393.out (fun _ hk => ⟨hk.1.1.1.1.1.1.1.1.1.1.1.1.1, ⟨hk.1.1.1.1.1.1.1.1.1.1.1.1.2, ⟨hk.1.1.2, ⟨hk.1.2, ⟨hk.2, ⟨hk.1.1.1.1.1.1.1.1.1.1.1.2, ⟨hk.1.1.1.1.1.1.1.1.1.1.2, ⟨hk.1.1.1.1.1.1.1.1.1.2, ⟨hk.1.1.1.1.1.1.1.1.2, ⟨hk.1.1.1.1.1.1.1.2, ⟨hk.1.1.1.1.1.1.2, ⟨hk.1.1.1.1.1.2, ⟨hk.1.1.1.1.2, hk.1.1.1.2⟩⟩⟩⟩⟩⟩⟩⟩⟩⟩⟩⟩⟩)), (RX HO396.out (fun _ hk => ⟨hk.1.1.1.1.1.1.1.1.1.1.1.1.1, ⟨hk.1.1.1.1.1.1.1.1.1.1.1.1.2, ⟨hk.1.1.2, ⟨hk.1.2, ⟨hk.2, ⟨hk.1.1.1.1.1.1.1.1.1.1.1.2, ⟨hk.1.1.1.1.1.1.1.1.1.1.2, ⟨hk.1.1.1.1.1.1.1.1.1.2, ⟨hk.1.1.1.1.1.1.1.1.2, ⟨hk.1.1.1.1.1.1.1.2, ⟨hk.1.1.1.1.1.1.2, ⟨hk.1.1.1.1.1.2, ⟨hk.1.1.1.1.2, hk.1.1.1.2⟩⟩⟩⟩⟩⟩⟩⟩⟩⟩⟩⟩⟩)), (RX HO400.out (fun _ hk => ⟨hk.1.1.2, ⟨hk.1.2, ⟨hk.2, ⟨hk.1.1.1.1.1.1.1.1.1.1.1.1.1, ⟨hk.1.1.1.1.1.1.1.1.1.1.1.1.2, ⟨hk.1.1.1.1.1.1.1.1.1.1.1.2, ⟨hk.1.1.1.1.1.1.1.1.1.1.2, ⟨hk.1.1.1.1.1.1.1.1.1.2, ⟨hk.1.1.1.1.1.1.1.1.2, ⟨hk.1.1.1.1.1.1.1.2, ⟨hk.1.1.1.1.1.1.2, ⟨hk.1.1.1.1.1.2, ⟨hk.1.1.1.1.2, hk.1.1.1.2⟩⟩⟩⟩⟩⟩⟩⟩⟩⟩⟩⟩⟩)), (RX HO403.out (fun _ hk => ⟨hk.1.1.2, ⟨hk.1.2, ⟨hk.2, ⟨hk.1.1.1.1.1.1.1.1.1.1.1.1.1, ⟨hk.1.1.1.1.1.1.1.1.1.1.1.1.2, ⟨hk.1.1.1.1.1.1.1.1.1.1.1.2, ⟨hk.1.1.1.1.1.1.1.1.1.1.2, ⟨hk.1.1.1.1.1.1.1.1.1.2, ⟨hk.1.1.1.1.1.1.1.1.2, ⟨hk.1.1.1.1.1.1.1.2, ⟨hk.1.1.1.1.1.1.2, ⟨hk.1.1.1.1.1.2, ⟨hk.1.1.1.1.2, hk.1.1.1.2⟩⟩⟩⟩⟩⟩⟩⟩⟩⟩⟩⟩⟩)), (RX HO406.out (fun _ hk => ⟨hk.1.1.2, ⟨hk.1.2, ⟨hk.2, ⟨hk.1.1.1.1.1.1.1.1.1.1.1.1.1, ⟨hk.1.1.1.1.1.1.1.1.1.1.1.1.2, ⟨hk.1.1.1.1.1.1.1.1.1.1.1.2, ⟨hk.1.1.1.1.1.1.1.1.1.1.2, ⟨hk.1.1.1.1.1.1.1.1.1.2, ⟨hk.1.1.1.1.1.1.1.1.2, ⟨hk.1.1.1.1.1.1.1.2, ⟨hk.1.1.1.1.1.1.2, ⟨hk.1.1.1.1.1.2, ⟨hk.1.1.1.1.2, hk.1.1.1.2⟩⟩⟩⟩⟩⟩⟩⟩⟩⟩⟩⟩⟩)), (RX HO_331001.out (fun _ hk => ⟨hk.1.1.1.1.1.2, ⟨hk.1.1.1.1.2, ⟨hk.1.1.1.2, ⟨hk.1.1.2, ⟨hk.1.2, ⟨hk.2, ⟨hk.1.1.1.1.1.1.1, ⟨hk.1.1.1.1.1.1.2.1, ⟨hk.1.1.1.1.1.1.2.2.1, ⟨hk.1.1.1.1.1.1.2.2.2.1, ⟨hk.1.1.1.1.1.1.2.2.2.2.1, ⟨hk.1.1.1.1.1.1.2.2.2.2.2.1, ⟨hk.1.1.1.1.1.1.2.2.2.2.2.2.1, hk.1.1.1.1.1.1.2.2.2.2.2.2.2⟩⟩⟩⟩⟩⟩⟩⟩⟩⟩⟩⟩⟩)), (RX HO_331002.out (fun _ hk => ⟨hk.1.1.1.1.1.2, ⟨hk.1.1.1.1.2, ⟨hk.1.1.1.2, ⟨hk.1.1.2, ⟨hk.1.2, ⟨hk.2, ⟨hk.1.1.1.1.1.1.1, ⟨hk.1.1.1.1.1.1.2.1, ⟨hk.1.1.1.1.1.1.2.2.1, ⟨hk.1.1.1.1.1.1.2.2.2.1, ⟨hk.1.1.1.1.1.1.2.2.2.2.1, ⟨hk.1.1.1.1.1.1.2.2.2.2.2.1, ⟨hk.1.1.1.1.1.1.2.2.2.2.2.2.1, hk.1.1.1.1.1.1.2.2.2.2.2.2.2⟩⟩⟩⟩⟩⟩⟩⟩⟩⟩⟩⟩⟩)), (RX HO_331003.out (fun _ hk => ⟨hk.1.1.1.1.1.2, ⟨hk.1.1.1.1.2, ⟨hk.1.1.1.2, ⟨hk.1.1.2, ⟨hk.1.2, ⟨hk.2, ⟨hk.1.1.1.1.1.1.1, ⟨hk.1.1.1.1.1.1.2.1, ⟨hk.1.1.1.1.1.1.2.2.1, ⟨hk.1.1.1.1.1.1.2.2.2.1, ⟨hk.1.1.1.1.1.1.2.2.2.2.1, ⟨hk.1.1.1.1.1.1.2.2.2.2.2.1, ⟨hk.1.1.1.1.1.1.2.2.2.2.2.2.1, hk.1.1.1.1.1.1.2.2.2.2.2.2.2⟩⟩⟩⟩⟩⟩⟩⟩⟩⟩⟩⟩⟩)), (RX HO_345001.out (fun _ hk => ⟨hk.1.1.1.1.1.2, ⟨hk.1.1.1.1.2, ⟨hk.1.1.1.2, ⟨hk.1.1.2, ⟨hk.1.2, ⟨hk.2, ⟨hk.1.1.1.1.1.1.1, ⟨hk.1.1.1.1.1.1.2.1, ⟨hk.1.1.1.1.1.1.2.2.1, ⟨hk.1.1.1.1.1.1.2.2.2.1, ⟨hk.1.1.1.1.1.1.2.2.2.2.1, ⟨hk.1.1.1.1.1.1.2.2.2.2.2.1, ⟨hk.1.1.1.1.1.1.2.2.2.2.2.2.1, hk.1.1.1.1.1.1.2.2.2.2.2.2.2⟩⟩⟩⟩⟩⟩⟩⟩⟩⟩⟩⟩⟩)), (RX HO_345002.out (fun _ hk => ⟨hk.1.1.1.1.1.2, ⟨hk.1.1.1.1.2, ⟨hk.1.1.1.2, ⟨hk.1.1.2, ⟨hk.1.2, ⟨hk.2, ⟨hk.1.1.1.1.1.1.1, ⟨hk.1.1.1.1.1.1.2.1, ⟨hk.1.1.1.1.1.1.2.2.1, ⟨hk.1.1.1.1.1.1.2.2.2.1, ⟨hk.1.1.1.1.1.1.2.2.2.2.1, ⟨hk.1.1.1.1.1.1.2.2.2.2.2.1, ⟨hk.1.1.1.1.1.1.2.2.2.2.2.2.1, hk.1.1.1.1.1.1.2.2.2.2.2.2.2⟩⟩⟩⟩⟩⟩⟩⟩⟩⟩⟩⟩⟩)), (RX HO_345003.out (fun _ hk => ⟨hk.1.1.1.1.1.2, ⟨hk.1.1.1.1.2, ⟨hk.1.1.1.2, ⟨hk.1.1.2, ⟨hk.1.2, ⟨hk.2, ⟨hk.1.1.1.1.1.1.1, ⟨hk.1.1.1.1.1.1.2.1, ⟨hk.1.1.1.1.1.1.2.2.1, ⟨hk.1.1.1.1.1.1.2.2.2.1, ⟨hk.1.1.1.1.1.1.2.2.2.2.1, ⟨hk.1.1.1.1.1.1.2.2.2.2.2.1, ⟨hk.1.1.1.1.1.1.2.2.2.2.2.2.1, hk.1.1.1.1.1.1.2.2.2.2.2.2.2⟩⟩⟩⟩⟩⟩⟩⟩⟩⟩⟩⟩⟩)), (RX HO_356001.out (fun _ hk => ⟨hk.1.1.1.1.1.2, ⟨hk.1.1.1.1.2, ⟨hk.1.1.1.2, ⟨hk.1.1.2, ⟨hk.1.2, ⟨hk.2, ⟨hk.1.1.1.1.1.1.1, ⟨hk.1.1.1.1.1.1.2.1, ⟨hk.1.1.1.1.1.1.2.2.1, ⟨hk.1.1.1.1.1.1.2.2.2.1, ⟨hk.1.1.1.1.1.1.2.2.2.2.1, ⟨hk.1.1.1.1.1.1.2.2.2.2.2.1, ⟨hk.1.1.1.1.1.1.2.2.2.2.2.2.1, hk.1.1.1.1.1.1.2.2.2.2.2.2.2⟩⟩⟩⟩⟩⟩⟩⟩⟩⟩⟩⟩⟩)), (RX HO_356002.out (fun _ hk => ⟨hk.1.1.1.1.1.2, ⟨hk.1.1.1.1.2, ⟨hk.1.1.1.2, ⟨hk.1.1.2, ⟨hk.1.2, ⟨hk.2, ⟨hk.1.1.1.1.1.1.1, ⟨hk.1.1.1.1.1.1.2.1, ⟨hk.1.1.1.1.1.1.2.2.1, ⟨hk.1.1.1.1.1.1.2.2.2.1, ⟨hk.1.1.1.1.1.1.2.2.2.2.1, ⟨hk.1.1.1.1.1.1.2.2.2.2.2.1, ⟨hk.1.1.1.1.1.1.2.2.2.2.2.2.1, hk.1.1.1.1.1.1.2.2.2.2.2.2.2⟩⟩⟩⟩⟩⟩⟩⟩⟩⟩⟩⟩⟩)), (RX HO_356003.out (fun _ hk => ⟨hk.1.1.1.1.1.2, ⟨hk.1.1.1.1.2, ⟨hk.1.1.1.2, ⟨hk.1.1.2, ⟨hk.1.2, ⟨hk.2, ⟨hk.1.1.1.1.1.1.1, ⟨hk.1.1.1.1.1.1.2.1, ⟨hk.1.1.1.1.1.1.2.2.1, ⟨hk.1.1.1.1.1.1.2.2.2.1, ⟨hk.1.1.1.1.1.1.2.2.2.2.1, ⟨hk.1.1.1.1.1.1.2.2.2.2.2.1, ⟨hk.1.1.1.1.1.1.2.2.2.2.2.2.1, hk.1.1.1.1.1.1.2.2.2.2.2.2.2⟩⟩⟩⟩⟩⟩⟩⟩⟩⟩⟩⟩⟩)), (PK BK304), (PK BK330), (PK BK344), (PK BK355), (PK BK407), GW407.out, GE407.out, NB304_407.out, NB407_304.out, NB330_407.out, NB407_330.out, NB344_407.out, NB407_344.out, NB355_407.out, NB407_355.out, PB⟩)
                 ·skip
                  refine box_step ?hg (N := 15) ?hd (cs := #[.int .i64 0, .slice none 0 0, .slice none 0 0, .slice none 0 0]) (t := 45) ?hr ?_; (case hd => rfl); (case hg => rfl); (case hr => first | (go_simp; done) | (go_simp; rfl))
                  intro gb407 hg w159 hbox hb
                  replace HO_331001 := Rb HO_331001 hb
                  replace HO_331002 := Rb HO_331002 hb
                  replace HO_331003 := Rb HO_331003 hb
                  replace HO_345001 := Rb HO_345001 hb
                  replace HO_345002 := Rb HO_345002 hb
                  replace HO_345003 := Rb HO_345003 hb
                  replace HO_356001 := Rb HO_356001 hb
                  replace HO_356002 := Rb HO_356002 hb
                  replace HO_356003 := Rb HO_356003 hb
                  replace HO386 := Rb HO386 hb
                  replace HO390 := Rb HO390 hb
                  replace HO393 := Rb HO393 hb
                  replace HO396 := Rb HO396 hb
                  have BK407 := ak hbox
                  have GW407 := gy hg HB
                  have GE407 := gy hg HB
                  replace HB := bs HB hb
                  have NB304_407 := gm hg BK304
                  have NB407_304 := gn hg BK304
                  replace BK304 := kf BK304 hb
                  have NB330_407 := gm hg BK330
                  have NB407_330 := gn hg BK330
                  replace BK330 := kf BK330 hb
                  have NB344_407 := gm hg BK344
                  have NB407_344 := gn hg BK344
                  replace BK344 := kf BK344 hb
                  have NB355_407 := gm hg BK355
                  have NB407_355 := gn hg BK355
                  replace BK355 := kf BK355 hb
                  clear hb hbox hg
                  obtain ⟨Ao160, co160, eo160⟩ := Kd.R_slice HO386.out
                  (first | subst eo160 | (injection eo160 with f1_ f2_ f3_; have f4_ := f1_.symm; have f5_ := f3_.symm; clear f1_ f2_ f3_; subst f4_; subst f5_))
                  obtain ⟨Ao161, co161, eo161⟩ := Kd.R_slice HO390.out
                  (first | subst eo161 | (injection eo161 with f1_ f2_ f3_; have f4_ := f1_.symm; have f5_ := f3_.symm; clear f1_ f2_ f3_; subst f4_; subst f5_))
                  obtain ⟨Ao162, co162, eo162⟩ := Kd.R_slice HO393.out
                  (first | subst eo162 | (injection eo162 with f1_ f2_ f3_; have f4_ := f1_.symm; have f5_ := f3_.symm; clear f1_ f2_ f3_; subst f4_; subst f5_))
                  obtain ⟨Ao163, co163, eo163⟩ := Kd.R_slice HO396.out
                  (first | subst eo163 | (injection eo163 with f1_ f2_ f3_; have f4_ := f1_.symm; have f5_ := f3_.symm; clear f1_ f2_ f3_; subst f4_; subst f5_))
                  refine hK.out _ _ ⟨(blk_cell BK304.out 0).trans rfl, (blk_cell BK304.out 1).trans rfl, (blk_cell BK304.out 2).trans rfl, (blk_cell BK304.out 3).trans rfl⟩ (fun hHeld => ?_)
                  clear hK K
                  refine norm_ (a' := ?_) ?_ ?_
                  rotate_left
                  ·show Act.put _ (some 15) _ = _
                   simp only [Act.put, List.setIfInBounds_toArray, List.set_cons_zero, List.set_cons_succ, i64_w, i32_w]
                   rfl
                  refine one_ (i := 5) (N := some 84) b11_1 rfl rfl (one_of HT_.out KR) (by decide) (fun K hK => ?_)
                  refine goes_ Try.func20 KR rfl #[.slice Ao160 t384.length co160, .agg #[.int .i64 t387, .slice Ao161 t388.length co161, .slice Ao162 t391.length co162, .slice Ao163 t394.length co163], .int .i64 a2] (by rfl) rfl rfl AR ?_
                  with_reducible refine (impl_StepState.calls kj27 _ _ t384 t387 _ _ t388 _ _ t391 _ _ t394 a2 t397 t398 t401 t404 _ ?side1 ?side2 ?side3 ?side4 ?side5 ?side6 ?side7 ?side8 A108.out).mono ?_
                  (case side1 => exact CR ((Kd.R_reads' HO386.out).2.2))
                  (case side2 => exact (Kd.R_reads' HO386.out).2.1)
                  (case side3 => exact CR ((Kd.R_reads' HO390.out).2.2))
                  (case side4 => exact (Kd.R_reads' HO390.out).2.1)
                  (case side5 => exact CR ((Kd.R_reads' HO393.out).2.2))
                  (case side6 => exact (Kd.R_reads' HO393.out).2.1)
                  (case side7 => exact CR ((Kd.R_reads' HO396.out).2.2))
                  (case side8 => exact (Kd.R_reads' HO396.out).2.1)
                  rintro e w164 ⟨v399, v402, v405, rfl, ho0, ho1, ho2, hb⟩
                  refine ⟨_, rfl, ?_⟩
                  replace HO386 := Rb HO386 hb
                  have HO400 := ak (Kd.R_lower (Kd.R_new' (Kd.R_new' (Kd.R_new' (Kd.R_new' (Kd.R_new' (Kd.R_new' (Kd.R_new' (Kd.R_new' (Kd.R_new' (Kd.R_new' (Kd.R_new' (Kd.R_new' ho0 (Kd.R_lt (PR HO_331001))) (Kd.R_lt (PR HO_331002))) (Kd.R_lt (PR HO_331003))) (Kd.R_lt (PR HO_345001))) (Kd.R_lt (PR HO_345002))) (Kd.R_lt (PR HO_345003))) (Kd.R_lt (PR HO_356001))) (Kd.R_lt (PR HO_356002))) (Kd.R_lt (PR HO_356003))) (Kd.R_lt (PR HO390))) (Kd.R_lt (PR HO393))) (Kd.R_lt (PR HO396))) (below_size PB))
                  have HO403 := ak (Kd.R_lower (Kd.R_new' (Kd.R_new' (Kd.R_new' (Kd.R_new' (Kd.R_new' (Kd.R_new' (Kd.R_new' (Kd.R_new' (Kd.R_new' (Kd.R_new' (Kd.R_new' (Kd.R_new' ho1 (Kd.R_lt (PR HO_331001))) (Kd.R_lt (PR HO_331002))) (Kd.R_lt (PR HO_331003))) (Kd.R_lt (PR HO_345001))) (Kd.R_lt (PR HO_345002))) (Kd.R_lt (PR HO_345003))) (Kd.R_lt (PR HO_356001))) (Kd.R_lt (PR HO_356002))) (Kd.R_lt (PR HO_356003))) (Kd.R_lt (PR HO390))) (Kd.R_lt (PR HO393))) (Kd.R_lt (PR HO396))) (below_size PB))
                  have HO406 := ak (Kd.R_lower (Kd.R_new' (Kd.R_new' (Kd.R_new' (Kd.R_new' (Kd.R_new' (Kd.R_new' (Kd.R_new' (Kd.R_new' (Kd.R_new' (Kd.R_new' (Kd.R_new' (Kd.R_new' ho2 (Kd.R_lt (PR HO_331001))) (Kd.R_lt (PR HO_331002))) (Kd.R_lt (PR HO_331003))) (Kd.R_lt (PR HO_345001))) (Kd.R_lt (PR HO_345002))) (Kd.R_lt (PR HO_345003))) (Kd.R_lt (PR HO_356001))) (Kd.R_lt (PR HO_356002))) (Kd.R_lt (PR HO_356003))) (Kd.R_lt (PR HO390))) (Kd.R_lt (PR HO393))) (Kd.R_lt (PR HO396))) (below_size PB))
                  replace HO_331001 := (Ry3 HO_331001 hb ho0 ho1 ho2)
                  replace HO_331002 := (Ry3 HO_331002 hb ho0 ho1 ho2)
                  replace HO_331003 := (Ry3 HO_331003 hb ho0 ho1 ho2)
                  replace HO_345001 := (Ry3 HO_345001 hb ho0 ho1 ho2)
                  replace HO_345002 := (Ry3 HO_345002 hb ho0 ho1 ho2)
                  replace HO_345003 := (Ry3 HO_345003 hb ho0 ho1 ho2)
                  replace HO_356001 := (Ry3 HO_356001 hb ho0 ho1 ho2)
                  replace HO_356002 := (Ry3 HO_356002 hb ho0 ho1 ho2)
                  replace HO_356003 := (Ry3 HO_356003 hb ho0 ho1 ho2)
                  replace HO390 := (Ry3 HO390 hb ho0 ho1 ho2)
                  replace HO393 := (Ry3 HO393 hb ho0 ho1 ho2)
                  replace HO396 := (Ry3 HO396 hb ho0 ho1 ho2)
                  replace BK304 := kf BK304 hb
                  replace BK330 := kf BK330 hb
                  replace BK344 := kf BK344 hb
                  replace BK355 := kf BK355 hb
                  replace BK407 := kf BK407 hb
                  replace HB := bs HB hb
                  (try clear hb)
                  (try clear hb2)
                  (try clear hk)
                  (try clear hi)
                  (try clear ho0)
                  (try clear ho1)
                  (try clear ho2)
                  refine hK.out _ _ ⟨(blk_cell BK304.out 0).trans rfl, (blk_cell BK304.out 1).trans rfl, (blk_cell BK304.out 2).trans rfl, (blk_cell BK304.out 3).trans rfl⟩ (fun hHeld => ?_)
                  clear hK K
                  refine norm_ (a' := ?_) ?_ ?_
                  rotate_left
                  ·show Act.put _ (some 84) _ = _
                   simp only [Act.put, List.setIfInBounds_toArray, List.set_cons_zero, List.set_cons_succ, i64_w, i32_w]
                   rfl
                  exact norm_ (by simp only [putAll, Act.put, List.setIfInBounds_toArray, List.set_cons_zero, List.set_cons_succ]) (hCont (.slice Ao160 t384.length co160, .slice Ao161 t388.length co161, .slice Ao162 t391.length co162, .slice Ao163 t394.length co163, v399, v402, v405, gb407) _ ⟨hHeld, (PR HO386), (RX HO390.out (fun _ hk => ⟨hk.1.1.1.1.1.1.1.1.1.1.1.1.1, ⟨hk.1.1.1.1.1.1.1.1.1.1.1.1.2, ⟨hk.1.1.2, ⟨hk.1.2, ⟨hk.2, ⟨hk.1.1.1.1.1.1.1.1.1.1.1.2, ⟨hk.1.1.1.1.1.1.1.1.1.1.2, ⟨hk.1.1.1.1.1.1.1.1.1.2, ⟨hk.1.1.1.1.1.1.1.1.2, ⟨hk.1.1.1.1.1.1.1.2, ⟨hk.1.1.1.1.1.1.2, ⟨hk.1.1.1.1.1.2, ⟨hk.1.1.1.1.2, hk.1.1.1.2⟩⟩⟩⟩⟩⟩⟩⟩⟩⟩⟩⟩⟩)), (RX HO393.out (fun _ hk => ⟨hk.1.1.1.1.1.1.1.1.1.1.1.1.1, ⟨hk.1.1.1.1.1.1.1.1.1.1.1.1.2, ⟨hk.1.1.2, ⟨hk.1.2, ⟨hk.2, ⟨hk.1.1.1.1.1.1.1.1.1.1.1.2, ⟨hk.1.1.1.1.1.1.1.1.1.1.2, ⟨hk.1.1.1.1.1.1.1.1.1.2, ⟨hk.1.1.1.1.1.1.1.1.2, ⟨hk.1.1.1.1.1.1.1.2, ⟨hk.1.1.1.1.1.1.2, ⟨hk.1.1.1.1.1.2, ⟨hk.1.1.1.1.2, hk.1.1.1.2⟩⟩⟩⟩⟩⟩⟩⟩⟩⟩⟩⟩⟩)), (RX HO396.out (fun _ hk => ⟨hk.1.1.1.1.1.1.1.1.1.1.1.1.1, ⟨hk.1.1.1.1.1.1.1.1.1.1.1.1.2, ⟨hk.1.1.2, ⟨hk.1.2, ⟨hk.2, ⟨hk.1.1.1.1.1.1.1.1.1.1.1.2, ⟨hk.1.1.1.1.1.1.1.1.1.1.2, ⟨hk.1.1.1.1.1.1.1.1.1.2, ⟨hk.1.1.1.1.1.1.1.1.2, ⟨hk.1.1.1.1.1.1.1.2, ⟨hk.1.1.1.1.1.1.2, ⟨hk.1.1.1.1.1.2, ⟨hk.1.1.1.1.2, hk.1.1.1.2⟩⟩⟩⟩⟩⟩⟩⟩⟩⟩⟩⟩⟩)), (RX HO400.out (fun _ hk => ⟨hk.1.1.2, ⟨hk.1.2, ⟨hk.2, ⟨hk.1.1.1.1.1.1.1.1.1.1.1.1.1, ⟨hk.1.1.1.1.1.1.1.1.1.1.1.1.2, ⟨hk.1.1.1.1.1.1.1.1.1.1.1.2, ⟨hk.1.1.1.1.1.1.1.1.1.1.2, ⟨hk.1.1.1.1.1.1.1.1.1.2, ⟨hk.1.1.1.1.1.1.1.1.2, ⟨hk.1.1.1.1.1.1.1.2, ⟨hk.1.1.1.1.1.1.2, ⟨hk.1.1.1.1.1.2, ⟨hk.1.1.1.1.2, hk.1.1.1.2⟩⟩⟩⟩⟩⟩⟩⟩⟩⟩⟩⟩⟩)), (RX HO403.out (fun _ hk => ⟨hk.1.1.2, ⟨hk.1.2, ⟨hk.2, ⟨hk.1.1.1.1.1.1.1.1.1.1.1.1.1, ⟨hk.1.1.1.1.1.1.1.1.1.1.1.1.2, ⟨hk.1.1.1.1.1.1.1.1.1.1.1.2, ⟨hk.1.1.1.1.1.1.1.1.1.1.2, ⟨hk.1.1.1.1.1.1.1.1.1.2, ⟨hk.1.1.1.1.1.1.1.1.2, ⟨hk.1.1.1.1.1.1.1.2, ⟨hk.1.1.1.1.1.1.2, ⟨hk.1.1.1.1.1.2, ⟨hk.1.1.1.1.2, hk.1.1.1.2⟩⟩⟩⟩⟩⟩⟩⟩⟩⟩⟩⟩⟩)), (RX HO406.out (fun _ hk => ⟨hk.1.1.2, ⟨hk.1.2, ⟨hk.2, ⟨hk.1.1.1.1.1.1.1.1.1.1.1.1.1, ⟨hk.1.1.1.1.1.1.1.1.1.1.1.1.2, ⟨hk.1.1.1.1.1.1.1.1.1.1.1.2, ⟨hk.1.1.1.1.1.1.1.1.1.1.2, ⟨hk.1.1.1.1.1.1.1.1.1.2, ⟨hk.1.1.1.1.1.1.1.1.2, ⟨hk.1.1.1.1.1.1.1.2, ⟨hk.1.1.1.1.1.1.2, ⟨hk.1.1.1.1.1.2, ⟨hk.1.1.1.1.2, hk.1.1.1.2⟩⟩⟩⟩⟩⟩⟩⟩⟩⟩⟩⟩⟩)), (RX HO_331001.out (fun _ hk => ⟨hk.1.1.1.1.1.2, ⟨hk.1.1.1.1.2, ⟨hk.1.1.1.2, ⟨hk.1.1.2, ⟨hk.1.2, ⟨hk.2, ⟨hk.1.1.1.1.1.1.1, ⟨hk.1.1.1.1.1.1.2.1, ⟨hk.1.1.1.1.1.1.2.2.1, ⟨hk.1.1.1.1.1.1.2.2.2.1, ⟨hk.1.1.1.1.1.1.2.2.2.2.1, ⟨hk.1.1.1.1.1.1.2.2.2.2.2.1, ⟨hk.1.1.1.1.1.1.2.2.2.2.2.2.1, hk.1.1.1.1.1.1.2.2.2.2.2.2.2⟩⟩⟩⟩⟩⟩⟩⟩⟩⟩⟩⟩⟩)), (RX HO_331002.out (fun _ hk => ⟨hk.1.1.1.1.1.2, ⟨hk.1.1.1.1.2, ⟨hk.1.1.1.2, ⟨hk.1.1.2, ⟨hk.1.2, ⟨hk.2, ⟨hk.1.1.1.1.1.1.1, ⟨hk.1.1.1.1.1.1.2.1, ⟨hk.1.1.1.1.1.1.2.2.1, ⟨hk.1.1.1.1.1.1.2.2.2.1, ⟨hk.1.1.1.1.1.1.2.2.2.2.1, ⟨hk.1.1.1.1.1.1.2.2.2.2.2.1, ⟨hk.1.1.1.1.1.1.2.2.2.2.2.2.1, hk.1.1.1.1.1.1.2.2.2.2.2.2.2⟩⟩⟩⟩⟩⟩⟩⟩⟩⟩⟩⟩⟩)), (RX HO_331003.out (fun _ hk => ⟨hk.1.1.1.1.1.2, ⟨hk.1.1.1.1.2, ⟨hk.1.1.1.2, ⟨hk.1.1.2, ⟨hk.1.2, ⟨hk.2, ⟨hk.1.1.1.1.1.1.1, ⟨hk.1.1.1.1.1.1.2.1, ⟨hk.1.1.1.1.1.1.2.2.1, ⟨hk.1.1.1.1.1.1.2.2.2.1, ⟨hk.1.1.1.1.1.1.2.2.2.2.1, ⟨hk.1.1.1.1.1.1.2.2.2.2.2.1, ⟨hk.1.1.1.1.1.1.2.2.2.2.2.2.1, hk.1.1.1.1.1.1.2.2.2.2.2.2.2⟩⟩⟩⟩⟩⟩⟩⟩⟩⟩⟩⟩⟩)), (RX HO_345001.out (fun _ hk => ⟨hk.1.1.1.1.1.2, ⟨hk.1.1.1.1.2, ⟨hk.1.1.1.2, ⟨hk.1.1.2, ⟨hk.1.2, ⟨hk.2, ⟨hk.1.1.1.1.1.1.1, ⟨hk.1.1.1.1.1.1.2.1, ⟨hk.1.1.1.1.1.1.2.2.1, ⟨hk.1.1.1.1.1.1.2.2.2.1, ⟨hk.1.1.1.1.1.1.2.2.2.2.1, ⟨hk.1.1.1.1.1.1.2.2.2.2.2.1, ⟨hk.1.1.1.1.1.1.2.2.2.2.2.2.1, hk.1.1.1.1.1.1.2.2.2.2.2.2.2⟩⟩⟩⟩⟩⟩⟩⟩⟩⟩⟩⟩⟩)), (RX HO_345002.out (fun _ hk => ⟨hk.1.1.1.1.1.2, ⟨hk.1.1.1.1.2, ⟨hk.1.1.1.2, ⟨hk.1.1.2, ⟨hk.1.2, ⟨hk.2, ⟨hk.1.1.1.1.1.1.1, ⟨hk.1.1.1.1.1.1.2.1, ⟨hk.1.1.1.1.1.1.2.2.1, ⟨hk.1.1.1.1.1.1.2.2.2.1, ⟨hk.1.1.1.1.1.1.2.2.2.2.1, ⟨hk.1.1.1.1.1.1.2.2.2.2.2.1, ⟨hk.1.1.1.1.1.1.2.2.2.2.2.2.1, hk.1.1.1.1.1.1.2.2.2.2.2.2.2⟩⟩⟩⟩⟩⟩⟩⟩⟩⟩⟩⟩⟩)), (RX HO_345003.out (fun _ hk => ⟨hk.1.1.1.1.1.2, ⟨hk.1.1.1.1.2, ⟨hk.1.1.1.2, ⟨hk.1.1.2, ⟨hk.1.2, ⟨hk.2, ⟨hk.1.1.1.1.1.1.1, ⟨hk.1.1.1.1.1.1.2.1, ⟨hk.1.1.1.1.1.1.2.2.1, ⟨hk.1.1.1.1.1.1.2.2.2.1, ⟨hk.1.1.1.1.1.1.2.2.2.2.1, ⟨hk.1.1.1.1.1.1.2.2.2.2.2.1, ⟨hk.1.1.1.1.1.1.2.2.2.2.2.2.1, hk.1.1.1.1.1.1.2.2.2.2.2.2.2⟩⟩⟩⟩⟩⟩⟩⟩⟩⟩⟩⟩⟩)), (RX HO_356001.out (fun _ hk => ⟨hk.1.1.1.1.1.2, ⟨hk.1.1.1.1.2, ⟨hk.1.1.1.2, ⟨hk.1.1.2, ⟨hk.1.2, ⟨hk.2, ⟨hk.1.1.1.1.1.1.1, ⟨hk.1.1.1.1.1.1.2.1, ⟨hk.1.1.1.1.1.1.2.2.1, ⟨hk.1.1.1.1.1.1.2.2.2.1, ⟨hk.1.1.1.1.1.1.2.2.2.2.1, ⟨hk.1.1.1.1.1.1.2.2.2.2.2.1, ⟨hk.1.1.1.1.1.1.2.2.2.2.2.2.1, hk.1.1.1.1.1.1.2.2.2.2.2.2.2⟩⟩⟩⟩⟩⟩⟩⟩⟩⟩⟩⟩⟩)), (RX HO_356002.out (fun _ hk => ⟨hk.1.1.1.1.1.2, ⟨hk.1.1.1.1.2, ⟨hk.1.1.1.2, ⟨hk.1.1.2, ⟨hk.1.2, ⟨hk.2, ⟨hk.1.1.1.1.1.1.1, ⟨hk.1.1.1.1.1.1.2.1, ⟨hk.1.1.1.1.1.1.2.2.1, ⟨hk.1.1.1.1.1.1.2.2.2.1, ⟨hk.1.1.1.1.1.1.2.2.2.2.1, ⟨hk.1.1.1.1.1.1.2.2.2.2.2.1, ⟨hk.1.1.1.1.1.1.2.2.2.2.2.2.1, hk.1.1.1.1.1.1.2.2.2.2.2.2.2⟩⟩⟩⟩⟩⟩⟩⟩⟩⟩⟩⟩⟩)), (RX HO_356003.out (fun _ hk => ⟨hk.1.1.1.1.1.2, ⟨hk.1.1.1.1.2, ⟨hk.1.1.1.2, ⟨hk.1.1.2, ⟨hk.1.2, ⟨hk.2, ⟨hk.1.1.1.1.1.1.1, ⟨hk.1.1.1.1.1.1.2.1, ⟨hk.1.1.1.1.1.1.2.2.1, ⟨hk.1.1.1.1.1.1.2.2.2.1, ⟨hk.1.1.1.1.1.1.2.2.2.2.1, ⟨hk.1.1.1.1.1.1.2.2.2.2.2.1, ⟨hk.1.1.1.1.1.1.2.2.2.2.2.2.1, hk.1.1.1.1.1.1.2.2.2.2.2.2.2⟩⟩⟩⟩⟩⟩⟩⟩⟩⟩⟩⟩⟩)), (PK BK304), (PK BK330), (PK BK344), (PK BK355), (PK BK407), GW407.out, GE407.out, NB304_407.out, NB407_304.out, NB330_407.out, NB407_330.out, NB344_407.out, NB407_344.out, NB355_407.out, NB407_355.out, PB⟩)
                ·skip
                 refine box_step ?hg (N := 15) ?hd (cs := #[.int .i64 0, .slice none 0 0, .slice none 0 0, .slice none 0 0]) (t := 45) ?hr ?_; (case hd => rfl); (case hg => rfl); (case hr => first | (go_simp; done) | (go_simp; rfl))
                 intro gb407 hg w158 hbox hb
                 replace HO_331001 := Rb HO_331001 hb
                 replace HO_331002 := Rb HO_331002 hb
                 replace HO_331003 := Rb HO_331003 hb
                 replace HO_345001 := Rb HO_345001 hb
                 replace HO_345002 := Rb HO_345002 hb
                 replace HO_345003 := Rb HO_345003 hb
                 replace HO_356001 := Rb HO_356001 hb
                 replace HO_356002 := Rb HO_356002 hb
                 replace HO_356003 := Rb HO_356003 hb
                 replace HO386 := Rb HO386 hb
                 have BK407 := ak hbox
                 have GW407 := gy hg HB
                 have GE407 := gy hg HB
                 replace HB := bs HB hb
                 have NB304_407 := gm hg BK304
                 have NB407_304 := gn hg BK304
                 replace BK304 := kf BK304 hb
                 have NB330_407 := gm hg BK330
                 have NB407_330 := gn hg BK330
                 replace BK330 := kf BK330 hb
                 have NB344_407 := gm hg BK344
                 have NB407_344 := gn hg BK344
                 replace BK344 := kf BK344 hb
                 have NB355_407 := gm hg BK355
                 have NB407_355 := gn hg BK355
                 replace BK355 := kf BK355 hb
                 clear hb hbox hg
                 refine hK.out _ _ ⟨(blk_cell BK304.out 0).trans rfl, (blk_cell BK304.out 1).trans rfl, (blk_cell BK304.out 2).trans rfl, (blk_cell BK304.out 3).trans rfl⟩ (fun hHeld => ?_)
                 clear hK K
                 refine norm_ (a' := ?_) ?_ ?_
                 rotate_left
                 ·show Act.put _ (some 15) _ = _
                  simp only [Act.put, List.setIfInBounds_toArray, List.set_cons_zero, List.set_cons_succ, i64_w, i32_w]
                  rfl
                 refine one_ (i := 3) (N := some 82) b11_2 rfl rfl (one_of HT_.out KR) (by decide) (fun K hK => ?_)
                 refine goes_ Try.func41 KR rfl #[.agg #[.int .i64 a1_0, .slice A1_1 l1_1.length c1_1, .slice A1_2 l1_2.length c1_2, .slice A1_3 l1_3.length c1_3]] (by rfl) rfl rfl AR ?_
                 with_reducible refine (laws_toState.calls kj27 a1_0 _ _ l1_1 _ _ l1_2 _ _ l1_3 t387 t388 t391 t394 _ ?side1 ?side2 ?side3 ?side4 ?side5 ?side6 A107.out).mono ?_
                 (case side1 => exact CR (Kd.C_below HR1_1.out HB.out))
                 (case side2 => exact HC1_1.out)
                 (case side3 => exact CR (Kd.C_below HR1_2.out HB.out))
                 (case side4 => exact HC1_2.out)
                 (case side5 => exact CR (Kd.C_below HR1_3.out HB.out))
                 (case side6 => exact HC1_3.out)
                 rintro e w159 ⟨v389, v392, v395, rfl, ho0, ho1, ho2, hb⟩
                 refine ⟨_, rfl, ?_⟩
                 replace HO386 := Rb HO386 hb
                 have HO390 := ak (Kd.R_lower (Kd.R_new' (Kd.R_new' (Kd.R_new' (Kd.R_new' (Kd.R_new' (Kd.R_new' (Kd.R_new' (Kd.R_new' (Kd.R_new' ho0 (Kd.R_lt (PR HO_331001))) (Kd.R_lt (PR HO_331002))) (Kd.R_lt (PR HO_331003))) (Kd.R_lt (PR HO_345001))) (Kd.R_lt (PR HO_345002))) (Kd.R_lt (PR HO_345003))) (Kd.R_lt (PR HO_356001))) (Kd.R_lt (PR HO_356002))) (Kd.R_lt (PR HO_356003))) (below_size PB))
                 have HO393 := ak (Kd.R_lower (Kd.R_new' (Kd.R_new' (Kd.R_new' (Kd.R_new' (Kd.R_new' (Kd.R_new' (Kd.R_new' (Kd.R_new' (Kd.R_new' ho1 (Kd.R_lt (PR HO_331001))) (Kd.R_lt (PR HO_331002))) (Kd.R_lt (PR HO_331003))) (Kd.R_lt (PR HO_345001))) (Kd.R_lt (PR HO_345002))) (Kd.R_lt (PR HO_345003))) (Kd.R_lt (PR HO_356001))) (Kd.R_lt (PR HO_356002))) (Kd.R_lt (PR HO_356003))) (below_size PB))
                 have HO396 := ak (Kd.R_lower (Kd.R_new' (Kd.R_new' (Kd.R_new' (Kd.R_new' (Kd.R_new' (Kd.R_new' (Kd.R_new' (Kd.R_new' (Kd.R_new' ho2 (Kd.R_lt (PR HO_331001))) (Kd.R_lt (PR HO_331002))) (Kd.R_lt (PR HO_331003))) (Kd.R_lt (PR HO_345001))) (Kd.R_lt (PR HO_345002))) (Kd.R_lt (PR HO_345003))) (Kd.R_lt (PR HO_356001))) (Kd.R_lt (PR HO_356002))) (Kd.R_lt (PR HO_356003))) (below_size PB))
                 replace HO_331001 := (Ry3 HO_331001 hb ho0 ho1 ho2)
                 replace HO_331002 := (Ry3 HO_331002 hb ho0 ho1 ho2)
                 replace HO_331003 := (Ry3 HO_331003 hb ho0 ho1 ho2)
                 replace HO_345001 := (Ry3 HO_345001 hb ho0 ho1 ho2)
                 replace HO_345002 := (Ry3 HO_345002 hb ho0 ho1 ho2)
                 replace HO_345003 := (Ry3 HO_345003 hb ho0 ho1 ho2)
                 replace HO_356001 := (Ry3 HO_356001 hb ho0 ho1 ho2)
                 replace HO_356002 := (Ry3 HO_356002 hb ho0 ho1 ho2)
                 replace HO_356003 := (Ry3 HO_356003 hb ho0 ho1 ho2)
                 replace BK304 := kf BK304 hb
                 replace BK330 := kf BK330 hb
                 replace BK344 := kf BK344 hb
                 replace BK355 := kf BK355 hb
                 replace BK407 := kf BK407 hb
                 replace HB := bs HB hb
                 (try clear hb)
                 (try clear hb2)
                 (try clear hk)
                 (try clear hi)
                 (try clear ho0)
                 (try clear ho1)
                 (try clear ho2)
                 obtain ⟨Ao160, co160, eo160⟩ := Kd.R_slice HO386.out
                 (first | subst eo160 | (injection eo160 with f1_ f2_ f3_; have f4_ := f1_.symm; have f5_ := f3_.symm; clear f1_ f2_ f3_; subst f4_; subst f5_))
                 obtain ⟨Ao161, co161, eo161⟩ := Kd.R_slice HO390.out
                 (first | subst eo161 | (injection eo161 with f1_ f2_ f3_; have f4_ := f1_.symm; have f5_ := f3_.symm; clear f1_ f2_ f3_; subst f4_; subst f5_))
                 obtain ⟨Ao162, co162, eo162⟩ := Kd.R_slice HO393.out
                 (first | subst eo162 | (injection eo162 with f1_ f2_ f3_; have f4_ := f1_.symm; have f5_ := f3_.symm; clear f1_ f2_ f3_; subst f4_; subst f5_))
                 obtain ⟨Ao163, co163, eo163⟩ := Kd.R_slice HO396.out
                 (first | subst eo163 | (injection eo163 with f1_ f2_ f3_; have f4_ := f1_.symm; have f5_ := f3_.symm; clear f1_ f2_ f3_; subst f4_; subst f5_))
                 refine hK.out _ _ ⟨(blk_cell BK304.out 0).trans rfl, (blk_cell BK304.out 1).trans rfl, (blk_cell BK304.out 2).trans rfl, (blk_cell BK304.out 3).trans rfl⟩ (fun hHeld => ?_)
                 clear hK K
                 refine norm_ (a' := ?_) ?_ ?_
                 rotate_left
                 ·show Act.put _ (some 82) _ = _
                  simp only [Act.put, List.setIfInBounds_toArray, List.set_cons_zero, List.set_cons_succ, i64_w, i32_w]
                  rfl
                 refine one_ (i := 5) (N := some 84) b11_1 rfl rfl (one_of HT_.out KR) (by decide) (fun K hK => ?_)
                 refine goes_ Try.func20 KR rfl #[.slice Ao160 t384.length co160, .agg #[.int .i64 t387, .slice Ao161 t388.length co161, .slice Ao162 t391.length co162, .slice Ao163 t394.length co163], .int .i64 a2] (by rfl) rfl rfl AR ?_
                 with_reducible refine (impl_StepState.calls kj27 _ _ t384 t387 _ _ t388 _ _ t391 _ _ t394 a2 t397 t398 t401 t404 _ ?side1 ?side2 ?side3 ?side4 ?side5 ?side6 ?side7 ?side8 A108.out).mono ?_
                 (case side1 => exact CR ((Kd.R_reads' HO386.out).2.2))
                 (case side2 => exact (Kd.R_reads' HO386.out).2.1)
                 (case side3 => exact CR ((Kd.R_reads' HO390.out).2.2))
                 (case side4 => exact (Kd.R_reads' HO390.out).2.1)
                 (case side5 => exact CR ((Kd.R_reads' HO393.out).2.2))
                 (case side6 => exact (Kd.R_reads' HO393.out).2.1)
                 (case side7 => exact CR ((Kd.R_reads' HO396.out).2.2))
                 (case side8 => exact (Kd.R_reads' HO396.out).2.1)
                 rintro e w164 ⟨v399, v402, v405, rfl, ho0, ho1, ho2, hb⟩
                 refine ⟨_, rfl, ?_⟩
                 replace HO386 := Rb HO386 hb
                 have HO400 := ak (Kd.R_lower (Kd.R_new' (Kd.R_new' (Kd.R_new' (Kd.R_new' (Kd.R_new' (Kd.R_new' (Kd.R_new' (Kd.R_new' (Kd.R_new' (Kd.R_new' (Kd.R_new' (Kd.R_new' ho0 (Kd.R_lt (PR HO_331001))) (Kd.R_lt (PR HO_331002))) (Kd.R_lt (PR HO_331003))) (Kd.R_lt (PR HO_345001))) (Kd.R_lt (PR HO_345002))) (Kd.R_lt (PR HO_345003))) (Kd.R_lt (PR HO_356001))) (Kd.R_lt (PR HO_356002))) (Kd.R_lt (PR HO_356003))) (Kd.R_lt (PR HO390))) (Kd.R_lt (PR HO393))) (Kd.R_lt (PR HO396))) (below_size PB))
                 have HO403 := ak (Kd.R_lower (Kd.R_new' (Kd.R_new' (Kd.R_new' (Kd.R_new' (Kd.R_new' (Kd.R_new' (Kd.R_new' (Kd.R_new' (Kd.R_new' (Kd.R_new' (Kd.R_new' (Kd.R_new' ho1 (Kd.R_lt (PR HO_331001))) (Kd.R_lt (PR HO_331002))) (Kd.R_lt (PR HO_331003))) (Kd.R_lt (PR HO_345001))) (Kd.R_lt (PR HO_345002))) (Kd.R_lt (PR HO_345003))) (Kd.R_lt (PR HO_356001))) (Kd.R_lt (PR HO_356002))) (Kd.R_lt (PR HO_356003))) (Kd.R_lt (PR HO390))) (Kd.R_lt (PR HO393))) (Kd.R_lt (PR HO396))) (below_size PB))
                 have HO406 := ak (Kd.R_lower (Kd.R_new' (Kd.R_new' (Kd.R_new' (Kd.R_new' (Kd.R_new' (Kd.R_new' (Kd.R_new' (Kd.R_new' (Kd.R_new' (Kd.R_new' (Kd.R_new' (Kd.R_new' ho2 (Kd.R_lt (PR HO_331001))) (Kd.R_lt (PR HO_331002))) (Kd.R_lt (PR HO_331003))) (Kd.R_lt (PR HO_345001))) (Kd.R_lt (PR HO_345002))) (Kd.R_lt (PR HO_345003))) (Kd.R_lt (PR HO_356001))) (Kd.R_lt (PR HO_356002))) (Kd.R_lt (PR HO_356003))) (Kd.R_lt (PR HO390))) (Kd.R_lt (PR HO393))) (Kd.R_lt (PR HO396))) (below_size PB))
                 replace HO_331001 := (Ry3 HO_331001 hb ho0 ho1 ho2)
                 replace HO_331002 := (Ry3 HO_331002 hb ho0 ho1 ho2)
                 replace HO_331003 := (Ry3 HO_331003 hb ho0 ho1 ho2)
                 replace HO_345001 := (Ry3 HO_345001 hb ho0 ho1 ho2)
                 replace HO_345002 := (Ry3 HO_345002 hb ho0 ho1 ho2)
                 replace HO_345003 := (Ry3 HO_345003 hb ho0 ho1 ho2)
                 replace HO_356001 := (Ry3 HO_356001 hb ho0 ho1 ho2)
                 replace HO_356002 := (Ry3 HO_356002 hb ho0 ho1 ho2)
                 replace HO_356003 := (Ry3 HO_356003 hb ho0 ho1 ho2)
                 replace HO390 := (Ry3 HO390 hb ho0 ho1 ho2)
                 replace HO393 := (Ry3 HO393 hb ho0 ho1 ho2)
                 replace HO396 := (Ry3 HO396 hb ho0 ho1 ho2)
                 replace BK304 := kf BK304 hb
                 replace BK330 := kf BK330 hb
                 replace BK344 := kf BK344 hb
                 replace BK355 := kf BK355 hb
                 replace BK407 := kf BK407 hb
                 replace HB := bs HB hb
                 (try clear hb)
                 (try clear hb2)
                 (try clear hk)
                 (try clear hi)
                 (try clear ho0)
                 (try clear ho1)
                 (try clear ho2)
                 refine hK.out _ _ ⟨(blk_cell BK304.out 0).trans rfl, (blk_cell BK304.out 1).trans rfl, (blk_cell BK304.out 2).trans rfl, (blk_cell BK304.out 3).trans rfl⟩ (fun hHeld => ?_)
                 clear hK K
                 refine norm_ (a' := ?_) ?_ ?_
                 rotate_left
                 ·show Act.put _ (some 84) _ = _
                  simp only [Act.put, List.setIfInBounds_toArray, List.set_cons_zero, List.set_cons_succ, i64_w, i32_w]
                  rfl
                 exact norm_ (by simp only [putAll, Act.put, List.setIfInBounds_toArray, List.set_cons_zero, List.set_cons_succ]) (hCont (.slice Ao160 t384.length co160, .slice Ao161 t388.length co161, .slice Ao162 t391.length co162, .slice Ao163 t394.length co163, v399, v402, v405, gb407) _ ⟨hHeld, (PR HO386), (RX HO390.out (fun _ hk => ⟨hk.1.1.1.1.1.1.1.1.1.1.1.1.1, ⟨hk.1.1.1.1.1.1.1.1.1.1.1.1.2, ⟨hk.1.1.2, ⟨hk.1.2, ⟨hk.2, ⟨hk.1.1.1.1.1.1.1.1.1.1.1.2, ⟨hk.1.1.1.1.1.1.1.1.1.1.2, ⟨hk.1.1.1.1.1.1.1.1.1.2, ⟨hk.1.1.1.1.1.1.1.1.2, ⟨hk.1.1.1.1.1.1.1.2, ⟨hk.1.1.1.1.1.1.2, ⟨hk.1.1.1.1.1.2, ⟨hk.1.1.1.1.2, hk.1.1.1.2⟩⟩⟩⟩⟩⟩⟩⟩⟩⟩⟩⟩⟩)), (RX HO393.out (fun _ hk => ⟨hk.1.1.1.1.1.1.1.1.1.1.1.1.1, ⟨hk.1.1.1.1.1.1.1.1.1.1.1.1.2, ⟨hk.1.1.2, ⟨hk.1.2, ⟨hk.2, ⟨hk.1.1.1.1.1.1.1.1.1.1.1.2, ⟨hk.1.1.1.1.1.1.1.1.1.1.2, ⟨hk.1.1.1.1.1.1.1.1.1.2, ⟨hk.1.1.1.1.1.1.1.1.2, ⟨hk.1.1.1.1.1.1.1.2, ⟨hk.1.1.1.1.1.1.2, ⟨hk.1.1.1.1.1.2, ⟨hk.1.1.1.1.2, hk.1.1.1.2⟩⟩⟩⟩⟩⟩⟩⟩⟩⟩⟩⟩⟩)), (RX HO396.out (fun _ hk => ⟨hk.1.1.1.1.1.1.1.1.1.1.1.1.1, ⟨hk.1.1.1.1.1.1.1.1.1.1.1.1.2, ⟨hk.1.1.2, ⟨hk.1.2, ⟨hk.2, ⟨hk.1.1.1.1.1.1.1.1.1.1.1.2, ⟨hk.1.1.1.1.1.1.1.1.1.1.2, ⟨hk.1.1.1.1.1.1.1.1.1.2, ⟨hk.1.1.1.1.1.1.1.1.2, ⟨hk.1.1.1.1.1.1.1.2, ⟨hk.1.1.1.1.1.1.2, ⟨hk.1.1.1.1.1.2, ⟨hk.1.1.1.1.2, hk.1.1.1.2⟩⟩⟩⟩⟩⟩⟩⟩⟩⟩⟩⟩⟩)), (RX HO400.out (fun _ hk => ⟨hk.1.1.2, ⟨hk.1.2, ⟨hk.2, ⟨hk.1.1.1.1.1.1.1.1.1.1.1.1.1, ⟨hk.1.1.1.1.1.1.1.1.1.1.1.1.2, ⟨hk.1.1.1.1.1.1.1.1.1.1.1.2, ⟨hk.1.1.1.1.1.1.1.1.1.1.2, ⟨hk.1.1.1.1.1.1.1.1.1.2, ⟨hk.1.1.1.1.1.1.1.1.2, ⟨hk.1.1.1.1.1.1.1.2, ⟨hk.1.1.1.1.1.1.2, ⟨hk.1.1.1.1.1.2, ⟨hk.1.1.1.1.2, hk.1.1.1.2⟩⟩⟩⟩⟩⟩⟩⟩⟩⟩⟩⟩⟩)), (RX HO403.out (fun _ hk => ⟨hk.1.1.2, ⟨hk.1.2, ⟨hk.2, ⟨hk.1.1.1.1.1.1.1.1.1.1.1.1.1, ⟨hk.1.1.1.1.1.1.1.1.1.1.1.1.2, ⟨hk.1.1.1.1.1.1.1.1.1.1.1.2, ⟨hk.1.1.1.1.1.1.1.1.1.1.2, ⟨hk.1.1.1.1.1.1.1.1.1.2, ⟨hk.1.1.1.1.1.1.1.1.2, ⟨hk.1.1.1.1.1.1.1.2, ⟨hk.1.1.1.1.1.1.2, ⟨hk.1.1.1.1.1.2, ⟨hk.1.1.1.1.2, hk.1.1.1.2⟩⟩⟩⟩⟩⟩⟩⟩⟩⟩⟩⟩⟩)), (RX HO406.out (fun _ hk => ⟨hk.1.1.2, ⟨hk.1.2, ⟨hk.2, ⟨hk.1.1.1.1.1.1.1.1.1.1.1.1.1, ⟨hk.1.1.1.1.1.1.1.1.1.1.1.1.2, ⟨hk.1.1.1.1.1.1.1.1.1.1.1.2, ⟨hk.1.1.1.1.1.1.1.1.1.1.2, ⟨hk.1.1.1.1.1.1.1.1.1.2, ⟨hk.1.1.1.1.1.1.1.1.2, ⟨hk.1.1.1.1.1.1.1.2, ⟨hk.1.1.1.1.1.1.2, ⟨hk.1.1.1.1.1.2, ⟨hk.1.1.1.1.2, hk.1.1.1.2⟩⟩⟩⟩⟩⟩⟩⟩⟩⟩⟩⟩⟩)), (RX HO_331001.out (fun _ hk => ⟨hk.1.1.1.1.1.2, ⟨hk.1.1.1.1.2, ⟨hk.1.1.1.2, ⟨hk.1.1.2, ⟨hk.1.2, ⟨hk.2, ⟨hk.1.1.1.1.1.1.1, ⟨hk.1.1.1.1.1.1.2.1, ⟨hk.1.1.1.1.1.1.2.2.1, ⟨hk.1.1.1.1.1.1.2.2.2.1, ⟨hk.1.1.1.1.1.1.2.2.2.2.1, ⟨hk.1.1.1.1.1.1.2.2.2.2.2.1, ⟨hk.1.1.1.1.1.1.2.2.2.2.2.2.1, hk.1.1.1.1.1.1.2.2.2.2.2.2.2⟩⟩⟩⟩⟩⟩⟩⟩⟩⟩⟩⟩⟩)), (RX HO_331002.out (fun _ hk => ⟨hk.1.1.1.1.1.2, ⟨hk.1.1.1.1.2, ⟨hk.1.1.1.2, ⟨hk.1.1.2, ⟨hk.1.2, ⟨hk.2, ⟨hk.1.1.1.1.1.1.1, ⟨hk.1.1.1.1.1.1.2.1, ⟨hk.1.1.1.1.1.1.2.2.1, ⟨hk.1.1.1.1.1.1.2.2.2.1, ⟨hk.1.1.1.1.1.1.2.2.2.2.1, ⟨hk.1.1.1.1.1.1.2.2.2.2.2.1, ⟨hk.1.1.1.1.1.1.2.2.2.2.2.2.1, hk.1.1.1.1.1.1.2.2.2.2.2.2.2⟩⟩⟩⟩⟩⟩⟩⟩⟩⟩⟩⟩⟩)), (RX HO_331003.out (fun _ hk => ⟨hk.1.1.1.1.1.2, ⟨hk.1.1.1.1.2, ⟨hk.1.1.1.2, ⟨hk.1.1.2, ⟨hk.1.2, ⟨hk.2, ⟨hk.1.1.1.1.1.1.1, ⟨hk.1.1.1.1.1.1.2.1, ⟨hk.1.1.1.1.1.1.2.2.1, ⟨hk.1.1.1.1.1.1.2.2.2.1, ⟨hk.1.1.1.1.1.1.2.2.2.2.1, ⟨hk.1.1.1.1.1.1.2.2.2.2.2.1, ⟨hk.1.1.1.1.1.1.2.2.2.2.2.2.1, hk.1.1.1.1.1.1.2.2.2.2.2.2.2⟩⟩⟩⟩⟩⟩⟩⟩⟩⟩⟩⟩⟩)), (RX HO_345001.out (fun _ hk => ⟨hk.1.1.1.1.1.2, ⟨hk.1.1.1.1.2, ⟨hk.1.1.1.2, ⟨hk.1.1.2, ⟨hk.1.2, ⟨hk.2, ⟨hk.1.1.1.1.1.1.1, ⟨hk.1.1.1.1.1.1.2.1, ⟨hk.1.1.1.1.1.1.2.2.1, ⟨hk.1.1.1.1.1.1.2.2.2.1, ⟨hk.1.1.1.1.1.1.2.2.2.2.1, ⟨hk.1.1.1.1.1.1.2.2.2.2.2.1, ⟨hk.1.1.1.1.1.1.2.2.2.2.2.2.1, hk.1.1.1.1.1.1.2.2.2.2.2.2.2⟩⟩⟩⟩⟩⟩⟩⟩⟩⟩⟩⟩⟩)), (RX HO_345002.out (fun _ hk => ⟨hk.1.1.1.1.1.2, ⟨hk.1.1.1.1.2, ⟨hk.1.1.1.2, ⟨hk.1.1.2, ⟨hk.1.2, ⟨hk.2, ⟨hk.1.1.1.1.1.1.1, ⟨hk.1.1.1.1.1.1.2.1, ⟨hk.1.1.1.1.1.1.2.2.1, ⟨hk.1.1.1.1.1.1.2.2.2.1, ⟨hk.1.1.1.1.1.1.2.2.2.2.1, ⟨hk.1.1.1.1.1.1.2.2.2.2.2.1, ⟨hk.1.1.1.1.1.1.2.2.2.2.2.2.1, hk.1.1.1.1.1.1.2.2.2.2.2.2.2⟩⟩⟩⟩⟩⟩⟩⟩⟩⟩⟩⟩⟩)), (RX HO_345003.out (fun _ hk => ⟨hk.1.1.1.1.1.2, ⟨hk.1.1.1.1.2, ⟨hk.1.1.1.2, ⟨hk.1.1.2, ⟨hk.1.2, ⟨hk.2, ⟨hk.1.1.1.1.1.1.1, ⟨hk.1.1.1.1.1.1.2.1, ⟨hk.1.1.1.1.1.1.2.2.1, ⟨hk.1.1.1.1.1.1.2.2.2.1, ⟨hk.1.1.1.1.1.1.2.2.2.2.1, ⟨hk.1.1.1.1.1.1.2.2.2.2.2.1, ⟨hk.1.1.1.1.1.1.2.2.2.2.2.2.1, hk.1.1.1.1.1.1.2.2.2.2.2.2.2⟩⟩⟩⟩⟩⟩⟩⟩⟩⟩⟩⟩⟩)), (RX HO_356001.out (fun _ hk => ⟨hk.1.1.1.1.1.2, ⟨hk.1.1.1.1.2, ⟨hk.1.1.1.2, ⟨hk.1.1.2, ⟨hk.1.2, ⟨hk.2, ⟨hk.1.1.1.1.1.1.1, ⟨hk.1.1.1.1.1.1.2.1, ⟨hk.1.1.1.1.1.1.2.2.1, ⟨hk.1.1.1.1.1.1.2.2.2.1, ⟨hk.1.1.1.1.1.1.2.2.2.2.1, ⟨hk.1.1.1.1.1.1.2.2.2.2.2.1, ⟨hk.1.1.1.1.1.1.2.2.2.2.2.2.1, hk.1.1.1.1.1.1.2.2.2.2.2.2.2⟩⟩⟩⟩⟩⟩⟩⟩⟩⟩⟩⟩⟩)), (RX HO_356002.out (fun _ hk => ⟨hk.1.1.1.1.1.2, ⟨hk.1.1.1.1.2, ⟨hk.1.1.1.2, ⟨hk.1.1.2, ⟨hk.1.2, ⟨hk.2, ⟨hk.1.1.1.1.1.1.1, ⟨hk.1.1.1.1.1.1.2.1, ⟨hk.1.1.1.1.1.1.2.2.1, ⟨hk.1.1.1.1.1.1.2.2.2.1, ⟨hk.1.1.1.1.1.1.2.2.2.2.1, ⟨hk.1.1.1.1.1.1.2.2.2.2.2.1, ⟨hk.1.1.1.1.1.1.2.2.2.2.2.2.1, hk.1.1.1.1.1.1.2.2.2.2.2.2.2⟩⟩⟩⟩⟩⟩⟩⟩⟩⟩⟩⟩⟩)), (RX HO_356003.out (fun _ hk => ⟨hk.1.1.1.1.1.2, ⟨hk.1.1.1.1.2, ⟨hk.1.1.1.2, ⟨hk.1.1.2, ⟨hk.1.2, ⟨hk.2, ⟨hk.1.1.1.1.1.1.1, ⟨hk.1.1.1.1.1.1.2.1, ⟨hk.1.1.1.1.1.1.2.2.1, ⟨hk.1.1.1.1.1.1.2.2.2.1, ⟨hk.1.1.1.1.1.1.2.2.2.2.1, ⟨hk.1.1.1.1.1.1.2.2.2.2.2.1, ⟨hk.1.1.1.1.1.1.2.2.2.2.2.2.1, hk.1.1.1.1.1.1.2.2.2.2.2.2.2⟩⟩⟩⟩⟩⟩⟩⟩⟩⟩⟩⟩⟩)), (PK BK304), (PK BK330), (PK BK344), (PK BK355), (PK BK407), GW407.out, GE407.out, NB304_407.out, NB407_304.out, NB330_407.out, NB407_330.out, NB344_407.out, NB407_344.out, NB355_407.out, NB407_355.out, PB⟩)
               ·skip
                refine box_step ?hg (N := 15) ?hd (cs := #[.int .i64 0, .slice none 0 0, .slice none 0 0, .slice none 0 0]) (t := 45) ?hr ?_; (case hd => rfl); (case hg => rfl); (case hr => first | (go_simp; done) | (go_simp; rfl))
                intro gb407 hg w157 hbox hb
                replace HO_331001 := Rb HO_331001 hb
                replace HO_331002 := Rb HO_331002 hb
                replace HO_331003 := Rb HO_331003 hb
                replace HO_345001 := Rb HO_345001 hb
                replace HO_345002 := Rb HO_345002 hb
                replace HO_345003 := Rb HO_345003 hb
                replace HO_356001 := Rb HO_356001 hb
                replace HO_356002 := Rb HO_356002 hb
                replace HO_356003 := Rb HO_356003 hb
                have BK407 := ak hbox
                have GW407 := gy hg HB
                have GE407 := gy hg HB
                replace HB := bs HB hb
                have NB304_407 := gm hg BK304
                have NB407_304 := gn hg BK304
                replace BK304 := kf BK304 hb
                have NB330_407 := gm hg BK330
                have NB407_330 := gn hg BK330
                replace BK330 := kf BK330 hb
                have NB344_407 := gm hg BK344
                have NB407_344 := gn hg BK344
                replace BK344 := kf BK344 hb
                have NB355_407 := gm hg BK355
                have NB407_355 := gn hg BK355
                replace BK355 := kf BK355 hb
                clear hb hbox hg
                refine hK.out _ _ ⟨(blk_cell BK304.out 0).trans rfl, (blk_cell BK304.out 1).trans rfl, (blk_cell BK304.out 2).trans rfl, (blk_cell BK304.out 3).trans rfl⟩ (fun hHeld => ?_)
                clear hK K
                refine norm_ (a' := ?_) ?_ ?_
                rotate_left
                ·show Act.put _ (some 15) _ = _
                 simp only [Act.put, List.setIfInBounds_toArray, List.set_cons_zero, List.set_cons_succ, i64_w, i32_w]
                 rfl
                refine one_ (i := 1) (N := some 80) b11_4 rfl rfl (one_of HT_.out KR) (by decide) (fun K hK => ?_)
                refine goes_ Try.func40 KR rfl #[.slice A0 l0.length c0] (by rfl) rfl rfl AR ?_
                with_reducible refine (laws_toOpS.calls kj27 _ _ l0 t384 _ ?side1 ?side2 A106.out).mono ?_
                (case side1 => exact CR (Kd.C_below HR0.out HB.out))
                (case side2 => exact HC0.out)
                rintro e w158 ⟨v385, rfl, ho0, hb⟩
                refine ⟨_, rfl, ?_⟩
                replace HO_331001 := Rb HO_331001 hb
                replace HO_331002 := Rb HO_331002 hb
                replace HO_331003 := Rb HO_331003 hb
                replace HO_345001 := Rb HO_345001 hb
                replace HO_345002 := Rb HO_345002 hb
                replace HO_345003 := Rb HO_345003 hb
                replace HO_356001 := Rb HO_356001 hb
                replace HO_356002 := Rb HO_356002 hb
                replace HO_356003 := Rb HO_356003 hb
                have HO386 := Rn0 ho0 HB
                replace BK304 := kf BK304 hb
                replace BK330 := kf BK330 hb
                replace BK344 := kf BK344 hb
                replace BK355 := kf BK355 hb
                replace BK407 := kf BK407 hb
                replace HB := bs HB hb
                (try clear hb)
                (try clear hb2)
                (try clear hk)
                (try clear hi)
                (try clear ho0)
                obtain ⟨Ao385_, co385_, eo385_⟩ := Kd.R_slice HO386.out
                subst eo385_
                refine hK.out _ _ ⟨(blk_cell BK304.out 0).trans rfl, (blk_cell BK304.out 1).trans rfl, (blk_cell BK304.out 2).trans rfl, (blk_cell BK304.out 3).trans rfl⟩ (fun hHeld => ?_)
                clear hK K
                refine norm_ (a' := ?_) ?_ ?_
                rotate_left
                ·show Act.put _ (some 80) _ = _
                 simp only [Act.put, List.setIfInBounds_toArray, List.set_cons_zero, List.set_cons_succ, i64_w, i32_w]
                 rfl
                refine one_ (i := 3) (N := some 82) b11_2 rfl rfl (one_of HT_.out KR) (by decide) (fun K hK => ?_)
                refine goes_ Try.func41 KR rfl #[.agg #[.int .i64 a1_0, .slice A1_1 l1_1.length c1_1, .slice A1_2 l1_2.length c1_2, .slice A1_3 l1_3.length c1_3]] (by rfl) rfl rfl AR ?_
                with_reducible refine (laws_toState.calls kj27 a1_0 _ _ l1_1 _ _ l1_2 _ _ l1_3 t387 t388 t391 t394 _ ?side1 ?side2 ?side3 ?side4 ?side5 ?side6 A107.out).mono ?_
                (case side1 => exact CR (Kd.C_below HR1_1.out HB.out))
                (case side2 => exact HC1_1.out)
                (case side3 => exact CR (Kd.C_below HR1_2.out HB.out))
                (case side4 => exact HC1_2.out)
                (case side5 => exact CR (Kd.C_below HR1_3.out HB.out))
                (case side6 => exact HC1_3.out)
                rintro e w159 ⟨v389, v392, v395, rfl, ho0, ho1, ho2, hb⟩
                refine ⟨_, rfl, ?_⟩
                replace HO386 := Rb HO386 hb
                have HO390 := ak (Kd.R_lower (Kd.R_new' (Kd.R_new' (Kd.R_new' (Kd.R_new' (Kd.R_new' (Kd.R_new' (Kd.R_new' (Kd.R_new' (Kd.R_new' ho0 (Kd.R_lt (PR HO_331001))) (Kd.R_lt (PR HO_331002))) (Kd.R_lt (PR HO_331003))) (Kd.R_lt (PR HO_345001))) (Kd.R_lt (PR HO_345002))) (Kd.R_lt (PR HO_345003))) (Kd.R_lt (PR HO_356001))) (Kd.R_lt (PR HO_356002))) (Kd.R_lt (PR HO_356003))) (below_size PB))
                have HO393 := ak (Kd.R_lower (Kd.R_new' (Kd.R_new' (Kd.R_new' (Kd.R_new' (Kd.R_new' (Kd.R_new' (Kd.R_new' (Kd.R_new' (Kd.R_new' ho1 (Kd.R_lt (PR HO_331001))) (Kd.R_lt (PR HO_331002))) (Kd.R_lt (PR HO_331003))) (Kd.R_lt (PR HO_345001))) (Kd.R_lt (PR HO_345002))) (Kd.R_lt (PR HO_345003))) (Kd.R_lt (PR HO_356001))) (Kd.R_lt (PR HO_356002))) (Kd.R_lt (PR HO_356003))) (below_size PB))
                have HO396 := ak (Kd.R_lower (Kd.R_new' (Kd.R_new' (Kd.R_new' (Kd.R_new' (Kd.R_new' (Kd.R_new' (Kd.R_new' (Kd.R_new' (Kd.R_new' ho2 (Kd.R_lt (PR HO_331001))) (Kd.R_lt (PR HO_331002))) (Kd.R_lt (PR HO_331003))) (Kd.R_lt (PR HO_345001))) (Kd.R_lt (PR HO_345002))) (Kd.R_lt (PR HO_345003))) (Kd.R_lt (PR HO_356001))) (Kd.R_lt (PR HO_356002))) (Kd.R_lt (PR HO_356003))) (below_size PB))
                replace HO_331001 := (Ry3 HO_331001 hb ho0 ho1 ho2)
                replace HO_331002 := (Ry3 HO_331002 hb ho0 ho1 ho2)
                replace HO_331003 := (Ry3 HO_331003 hb ho0 ho1 ho2)
                replace HO_345001 := (Ry3 HO_345001 hb ho0 ho1 ho2)
                replace HO_345002 := (Ry3 HO_345002 hb ho0 ho1 ho2)
                replace HO_345003 := (Ry3 HO_345003 hb ho0 ho1 ho2)
                replace HO_356001 := (Ry3 HO_356001 hb ho0 ho1 ho2)
                replace HO_356002 := (Ry3 HO_356002 hb ho0 ho1 ho2)
                replace HO_356003 := (Ry3 HO_356003 hb ho0 ho1 ho2)
                replace BK304 := kf BK304 hb
                replace BK330 := kf BK330 hb
                replace BK344 := kf BK344 hb
                replace BK355 := kf BK355 hb
                replace BK407 := kf BK407 hb
                replace HB := bs HB hb
                (try clear hb)
                (try clear hb2)
                (try clear hk)
                (try clear hi)
                (try clear ho0)
                (try clear ho1)
                (try clear ho2)
                obtain ⟨Ao160, co160, eo160⟩ := Kd.R_slice HO386.out
                (first | subst eo160 | (injection eo160 with f1_ f2_ f3_; have f4_ := f1_.symm; have f5_ := f3_.symm; clear f1_ f2_ f3_; subst f4_; subst f5_))
                obtain ⟨Ao161, co161, eo161⟩ := Kd.R_slice HO390.out
                (first | subst eo161 | (injection eo161 with f1_ f2_ f3_; have f4_ := f1_.symm; have f5_ := f3_.symm; clear f1_ f2_ f3_; subst f4_; subst f5_))
                obtain ⟨Ao162, co162, eo162⟩ := Kd.R_slice HO393.out
                (first | subst eo162 | (injection eo162 with f1_ f2_ f3_; have f4_ := f1_.symm; have f5_ := f3_.symm; clear f1_ f2_ f3_; subst f4_; subst f5_))
                obtain ⟨Ao163, co163, eo163⟩ := Kd.R_slice HO396.out
                (first | subst eo163 | (injection eo163 with f1_ f2_ f3_; have f4_ := f1_.symm; have f5_ := f3_.symm; clear f1_ f2_ f3_; subst f4_; subst f5_))
                refine hK.out _ _ ⟨(blk_cell BK304.out 0).trans rfl, (blk_cell BK304.out 1).trans rfl, (blk_cell BK304.out 2).trans rfl, (blk_cell BK304.out 3).trans rfl⟩ (fun hHeld => ?_)
                clear hK K
                refine norm_ (a' := ?_) ?_ ?_
                rotate_left
                ·show Act.put _ (some 82) _ = _
                 simp only [Act.put, List.setIfInBounds_toArray, List.set_cons_zero, List.set_cons_succ, i64_w, i32_w]
                 rfl
                refine one_ (i := 5) (N := some 84) b11_1 rfl rfl (one_of HT_.out KR) (by decide) (fun K hK => ?_)
                refine goes_ Try.func20 KR rfl #[.slice Ao160 t384.length co160, .agg #[.int .i64 t387, .slice Ao161 t388.length co161, .slice Ao162 t391.length co162, .slice Ao163 t394.length co163], .int .i64 a2] (by rfl) rfl rfl AR ?_
                with_reducible refine (impl_StepState.calls kj27 _ _ t384 t387 _ _ t388 _ _ t391 _ _ t394 a2 t397 t398 t401 t404 _ ?side1 ?side2 ?side3 ?side4 ?side5 ?side6 ?side7 ?side8 A108.out).mono ?_
                (case side1 => exact CR ((Kd.R_reads' HO386.out).2.2))
                (case side2 => exact (Kd.R_reads' HO386.out).2.1)
                (case side3 => exact CR ((Kd.R_reads' HO390.out).2.2))
                (case side4 => exact (Kd.R_reads' HO390.out).2.1)
                (case side5 => exact CR ((Kd.R_reads' HO393.out).2.2))
                (case side6 => exact (Kd.R_reads' HO393.out).2.1)
                (case side7 => exact CR ((Kd.R_reads' HO396.out).2.2))
                (case side8 => exact (Kd.R_reads' HO396.out).2.1)
                rintro e w164 ⟨v399, v402, v405, rfl, ho0, ho1, ho2, hb⟩
                refine ⟨_, rfl, ?_⟩
                replace HO386 := Rb HO386 hb
                have HO400 := ak (Kd.R_lower (Kd.R_new' (Kd.R_new' (Kd.R_new' (Kd.R_new' (Kd.R_new' (Kd.R_new' (Kd.R_new' (Kd.R_new' (Kd.R_new' (Kd.R_new' (Kd.R_new' (Kd.R_new' ho0 (Kd.R_lt (PR HO_331001))) (Kd.R_lt (PR HO_331002))) (Kd.R_lt (PR HO_331003))) (Kd.R_lt (PR HO_345001))) (Kd.R_lt (PR HO_345002))) (Kd.R_lt (PR HO_345003))) (Kd.R_lt (PR HO_356001))) (Kd.R_lt (PR HO_356002))) (Kd.R_lt (PR HO_356003))) (Kd.R_lt (PR HO390))) (Kd.R_lt (PR HO393))) (Kd.R_lt (PR HO396))) (below_size PB))
                have HO403 := ak (Kd.R_lower (Kd.R_new' (Kd.R_new' (Kd.R_new' (Kd.R_new' (Kd.R_new' (Kd.R_new' (Kd.R_new' (Kd.R_new' (Kd.R_new' (Kd.R_new' (Kd.R_new' (Kd.R_new' ho1 (Kd.R_lt (PR HO_331001))) (Kd.R_lt (PR HO_331002))) (Kd.R_lt (PR HO_331003))) (Kd.R_lt (PR HO_345001))) (Kd.R_lt (PR HO_345002))) (Kd.R_lt (PR HO_345003))) (Kd.R_lt (PR HO_356001))) (Kd.R_lt (PR HO_356002))) (Kd.R_lt (PR HO_356003))) (Kd.R_lt (PR HO390))) (Kd.R_lt (PR HO393))) (Kd.R_lt (PR HO396))) (below_size PB))
                have HO406 := ak (Kd.R_lower (Kd.R_new' (Kd.R_new' (Kd.R_new' (Kd.R_new' (Kd.R_new' (Kd.R_new' (Kd.R_new' (Kd.R_new' (Kd.R_new' (Kd.R_new' (Kd.R_new' (Kd.R_new' ho2 (Kd.R_lt (PR HO_331001))) (Kd.R_lt (PR HO_331002))) (Kd.R_lt (PR HO_331003))) (Kd.R_lt (PR HO_345001))) (Kd.R_lt (PR HO_345002))) (Kd.R_lt (PR HO_345003))) (Kd.R_lt (PR HO_356001))) (Kd.R_lt (PR HO_356002))) (Kd.R_lt (PR HO_356003))) (Kd.R_lt (PR HO390))) (Kd.R_lt (PR HO393))) (Kd.R_lt (PR HO396))) (below_size PB))
                replace HO_331001 := (Ry3 HO_331001 hb ho0 ho1 ho2)
                replace HO_331002 := (Ry3 HO_331002 hb ho0 ho1 ho2)
                replace HO_331003 := (Ry3 HO_331003 hb ho0 ho1 ho2)
                replace HO_345001 := (Ry3 HO_345001 hb ho0 ho1 ho2)
                replace HO_345002 := (Ry3 HO_345002 hb ho0 ho1 ho2)
                replace HO_345003 := (Ry3 HO_345003 hb ho0 ho1 ho2)
                replace HO_356001 := (Ry3 HO_356001 hb ho0 ho1 ho2)
                replace HO_356002 := (Ry3 HO_356002 hb ho0 ho1 ho2)
                replace HO_356003 := (Ry3 HO_356003 hb ho0 ho1 ho2)
                replace HO390 := (Ry3 HO390 hb ho0 ho1 ho2)
                replace HO393 := (Ry3 HO393 hb ho0 ho1 ho2)
                replace HO396 := (Ry3 HO396 hb ho0 ho1 ho2)
                replace BK304 := kf BK304 hb
                replace BK330 := kf BK330 hb
                replace BK344 := kf BK344 hb
                replace BK355 := kf BK355 hb
                replace BK407 := kf BK407 hb
                replace HB := bs HB hb
                (try clear hb)
                (try clear hb2)
                (try clear hk)
                (try clear hi)
                (try clear ho0)
                (try clear ho1)
                (try clear ho2)
                refine hK.out _ _ ⟨(blk_cell BK304.out 0).trans rfl, (blk_cell BK304.out 1).trans rfl, (blk_cell BK304.out 2).trans rfl, (blk_cell BK304.out 3).trans rfl⟩ (fun hHeld => ?_)
                clear hK K
                refine norm_ (a' := ?_) ?_ ?_
                rotate_left
                ·show Act.put _ (some 84) _ = _
                 simp only [Act.put, List.setIfInBounds_toArray, List.set_cons_zero, List.set_cons_succ, i64_w, i32_w]
                 rfl
                exact norm_ (by simp only [putAll, Act.put, List.setIfInBounds_toArray, List.set_cons_zero, List.set_cons_succ]) (hCont (.slice Ao160 t384.length co160, .slice Ao161 t388.length co161, .slice Ao162 t391.length co162, .slice Ao163 t394.length co163, v399, v402, v405, gb407) _ ⟨hHeld, (PR HO386), (RX HO390.out (fun _ hk => ⟨hk.1.1.1.1.1.1.1.1.1.1.1.1.1, ⟨hk.1.1.1.1.1.1.1.1.1.1.1.1.2, ⟨hk.1.1.2, ⟨hk.1.2, ⟨hk.2, ⟨hk.1.1.1.1.1.1.1.1.1.1.1.2, ⟨hk.1.1.1.1.1.1.1.1.1.1.2, ⟨hk.1.1.1.1.1.1.1.1.1.2, ⟨hk.1.1.1.1.1.1.1.1.2, ⟨hk.1.1.1.1.1.1.1.2, ⟨hk.1.1.1.1.1.1.2, ⟨hk.1.1.1.1.1.2, ⟨hk.1.1.1.1.2, hk.1.1.1.2⟩⟩⟩⟩⟩⟩⟩⟩⟩⟩⟩⟩⟩)), (RX HO393.out (fun _ hk => ⟨hk.1.1.1.1.1.1.1.1.1.1.1.1.1, ⟨hk.1.1.1.1.1.1.1.1.1.1.1.1.2, ⟨hk.1.1.2, ⟨hk.1.2, ⟨hk.2, ⟨hk.1.1.1.1.1.1.1.1.1.1.1.2, ⟨hk.1.1.1.1.1.1.1.1.1.1.2, ⟨hk.1.1.1.1.1.1.1.1.1.2, ⟨hk.1.1.1.1.1.1.1.1.2, ⟨hk.1.1.1.1.1.1.1.2, ⟨hk.1.1.1.1.1.1.2, ⟨hk.1.1.1.1.1.2, ⟨hk.1.1.1.1.2, hk.1.1.1.2⟩⟩⟩⟩⟩⟩⟩⟩⟩⟩⟩⟩⟩)), (RX HO396.out (fun _ hk => ⟨hk.1.1.1.1.1.1.1.1.1.1.1.1.1, ⟨hk.1.1.1.1.1.1.1.1.1.1.1.1.2, ⟨hk.1.1.2, ⟨hk.1.2, ⟨hk.2, ⟨hk.1.1.1.1.1.1.1.1.1.1.1.2, ⟨hk.1.1.1.1.1.1.1.1.1.1.2, ⟨hk.1.1.1.1.1.1.1.1.1.2, ⟨hk.1.1.1.1.1.1.1.1.2, ⟨hk.1.1.1.1.1.1.1.2, ⟨hk.1.1.1.1.1.1.2, ⟨hk.1.1.1.1.1.2, ⟨hk.1.1.1.1.2, hk.1.1.1.2⟩⟩⟩⟩⟩⟩⟩⟩⟩⟩⟩⟩⟩)), (RX HO400.out (fun _ hk => ⟨hk.1.1.2, ⟨hk.1.2, ⟨hk.2, ⟨hk.1.1.1.1.1.1.1.1.1.1.1.1.1, ⟨hk.1.1.1.1.1.1.1.1.1.1.1.1.2, ⟨hk.1.1.1.1.1.1.1.1.1.1.1.2, ⟨hk.1.1.1.1.1.1.1.1.1.1.2, ⟨hk.1.1.1.1.1.1.1.1.1.2, ⟨hk.1.1.1.1.1.1.1.1.2, ⟨hk.1.1.1.1.1.1.1.2, ⟨hk.1.1.1.1.1.1.2, ⟨hk.1.1.1.1.1.2, ⟨hk.1.1.1.1.2, hk.1.1.1.2⟩⟩⟩⟩⟩⟩⟩⟩⟩⟩⟩⟩⟩)), (RX HO403.out (fun _ hk => ⟨hk.1.1.2, ⟨hk.1.2, ⟨hk.2, ⟨hk.1.1.1.1.1.1.1.1.1.1.1.1.1, ⟨hk.1.1.1.1.1.1.1.1.1.1.1.1.2, ⟨hk.1.1.1.1.1.1.1.1.1.1.1.2, ⟨hk.1.1.1.1.1.1.1.1.1.1.2, ⟨hk.1.1.1.1.1.1.1.1.1.2, ⟨hk.1.1.1.1.1.1.1.1.2, ⟨hk.1.1.1.1.1.1.1.2, ⟨hk.1.1.1.1.1.1.2, ⟨hk.1.1.1.1.1.2, ⟨hk.1.1.1.1.2, hk.1.1.1.2⟩⟩⟩⟩⟩⟩⟩⟩⟩⟩⟩⟩⟩)), (RX HO406.out (fun _ hk => ⟨hk.1.1.2, ⟨hk.1.2, ⟨hk.2, ⟨hk.1.1.1.1.1.1.1.1.1.1.1.1.1, ⟨hk.1.1.1.1.1.1.1.1.1.1.1.1.2, ⟨hk.1.1.1.1.1.1.1.1.1.1.1.2, ⟨hk.1.1.1.1.1.1.1.1.1.1.2, ⟨hk.1.1.1.1.1.1.1.1.1.2, ⟨hk.1.1.1.1.1.1.1.1.2, ⟨hk.1.1.1.1.1.1.1.2, ⟨hk.1.1.1.1.1.1.2, ⟨hk.1.1.1.1.1.2, ⟨hk.1.1.1.1.2, hk.1.1.1.2⟩⟩⟩⟩⟩⟩⟩⟩⟩⟩⟩⟩⟩)), (RX HO_331001.out (fun _ hk => ⟨hk.1.1.1.1.1.2, ⟨hk.1.1.1.1.2, ⟨hk.1.1.1.2, ⟨hk.1.1.2, ⟨hk.1.2, ⟨hk.2, ⟨hk.1.1.1.1.1.1.1, ⟨hk.1.1.1.1.1.1.2.1, ⟨hk.1.1.1.1.1.1.2.2.1, ⟨hk.1.1.1.1.1.1.2.2.2.1, ⟨hk.1.1.1.1.1.1.2.2.2.2.1, ⟨hk.1.1.1.1.1.1.2.2.2.2.2.1, ⟨hk.1.1.1.1.1.1.2.2.2.2.2.2.1, hk.1.1.1.1.1.1.2.2.2.2.2.2.2⟩⟩⟩⟩⟩⟩⟩⟩⟩⟩⟩⟩⟩)), (RX HO_331002.out (fun _ hk => ⟨hk.1.1.1.1.1.2, ⟨hk.1.1.1.1.2, ⟨hk.1.1.1.2, ⟨hk.1.1.2, ⟨hk.1.2, ⟨hk.2, ⟨hk.1.1.1.1.1.1.1, ⟨hk.1.1.1.1.1.1.2.1, ⟨hk.1.1.1.1.1.1.2.2.1, ⟨hk.1.1.1.1.1.1.2.2.2.1, ⟨hk.1.1.1.1.1.1.2.2.2.2.1, ⟨hk.1.1.1.1.1.1.2.2.2.2.2.1, ⟨hk.1.1.1.1.1.1.2.2.2.2.2.2.1, hk.1.1.1.1.1.1.2.2.2.2.2.2.2⟩⟩⟩⟩⟩⟩⟩⟩⟩⟩⟩⟩⟩)), (RX HO_331003.out (fun _ hk => ⟨hk.1.1.1.1.1.2, ⟨hk.1.1.1.1.2, ⟨hk.1.1.1.2, ⟨hk.1.1.2, ⟨hk.1.2, ⟨hk.2, ⟨hk.1.1.1.1.1.1.1, ⟨hk.1.1.1.1.1.1.2.1, ⟨hk.1.1.1.1.1.1.2.2.1, ⟨hk.1.1.1.1.1.1.2.2.2.1, ⟨hk.1.1.1.1.1.1.2.2.2.2.1, ⟨hk.1.1.1.1.1.1.2.2.2.2.2.1, ⟨hk.1.1.1.1.1.1.2.2.2.2.2.2.1, hk.1.1.1.1.1.1.2.2.2.2.2.2.2⟩⟩⟩⟩⟩⟩⟩⟩⟩⟩⟩⟩⟩)), (RX HO_345001.out (fun _ hk => ⟨hk.1.1.1.1.1.2, ⟨hk.1.1.1.1.2, ⟨hk.1.1.1.2, ⟨hk.1.1.2, ⟨hk.1.2, ⟨hk.2, ⟨hk.1.1.1.1.1.1.1, ⟨hk.1.1.1.1.1.1.2.1, ⟨hk.1.1.1.1.1.1.2.2.1, ⟨hk.1.1.1.1.1.1.2.2.2.1, ⟨hk.1.1.1.1.1.1.2.2.2.2.1, ⟨hk.1.1.1.1.1.1.2.2.2.2.2.1, ⟨hk.1.1.1.1.1.1.2.2.2.2.2.2.1, hk.1.1.1.1.1.1.2.2.2.2.2.2.2⟩⟩⟩⟩⟩⟩⟩⟩⟩⟩⟩⟩⟩)), (RX HO_345002.out (fun _ hk => ⟨hk.1.1.1.1.1.2, ⟨hk.1.1.1.1.2, ⟨hk.1.1.1.2, ⟨hk.1.1.2, ⟨hk.1.2, ⟨hk.2, ⟨hk.1.1.1.1.1.1.1, ⟨hk.1.1.1.1.1.1.2.1, ⟨hk.1.1.1.1.1.1.2.2.1, ⟨hk.1.1.1.1.1.1.2.2.2.1, ⟨hk.1.1.1.1.1.1.2.2.2.2.1, ⟨hk.1.1.1.1.1.1.2.2.2.2.2.1, ⟨hk.1.1.1.1.1.1.2.2.2.2.2.2.1, hk.1.1.1.1.1.1.2.2.2.2.2.2.2⟩⟩⟩⟩⟩⟩⟩⟩⟩⟩⟩⟩⟩)), (RX HO_345003.out (fun _ hk => ⟨hk.1.1.1.1.1.2, ⟨hk.1.1.1.1.2, ⟨hk.1.1.1.2, ⟨hk.1.1.2, ⟨hk.1.2, ⟨hk.2, ⟨hk.1.1.1.1.1.1.1, ⟨hk.1.1.1.1.1.1.2.1, ⟨hk.1.1.1.1.1.1.2.2.1, ⟨hk.1.1.1.1.1.1.2.2.2.1, ⟨hk.1.1.1.1.1.1.2.2.2.2.1, ⟨hk.1.1.1.1.1.1.2.2.2.2.2.1, ⟨hk.1.1.1.1.1.1.2.2.2.2.2.2.1, hk.1.1.1.1.1.1.2.2.2.2.2.2.2⟩⟩⟩⟩⟩⟩⟩⟩⟩⟩⟩⟩⟩)), (RX HO_356001.out (fun _ hk => ⟨hk.1.1.1.1.1.2, ⟨hk.1.1.1.1.2, ⟨hk.1.1.1.2, ⟨hk.1.1.2, ⟨hk.1.2, ⟨hk.2, ⟨hk.1.1.1.1.1.1.1, ⟨hk.1.1.1.1.1.1.2.1, ⟨hk.1.1.1.1.1.1.2.2.1, ⟨hk.1.1.1.1.1.1.2.2.2.1, ⟨hk.1.1.1.1.1.1.2.2.2.2.1, ⟨hk.1.1.1.1.1.1.2.2.2.2.2.1, ⟨hk.1.1.1.1.1.1.2.2.2.2.2.2.1, hk.1.1.1.1.1.1.2.2.2.2.2.2.2⟩⟩⟩⟩⟩⟩⟩⟩⟩⟩⟩⟩⟩)), (RX HO_356002.out (fun _ hk => ⟨hk.1.1.1.1.1.2, ⟨hk.1.1.1.1.2, ⟨hk.1.1.1.2, ⟨hk.1.1.2, ⟨hk.1.2, ⟨hk.2, ⟨hk.1.1.1.1.1.1.1, ⟨hk.1.1.1.1.1.1.2.1, ⟨hk.1.1.1.1.1.1.2.2.1, ⟨hk.1.1.1.1.1.1.2.2.2.1, ⟨hk.1.1.1.1.1.1.2.2.2.2.1, ⟨hk.1.1.1.1.1.1.2.2.2.2.2.1, ⟨hk.1.1.1.1.1.1.2.2.2.2.2.2.1, hk.1.1.1.1.1.1.2.2.2.2.2.2.2⟩⟩⟩⟩⟩⟩⟩⟩⟩⟩⟩⟩⟩)), (RX HO_356003.out (fun _ hk => ⟨hk.1.1.1.1.1.2, ⟨hk.1.1.1.1.2, ⟨hk.1.1.1.2, ⟨hk.1.1.2, ⟨hk.1.2, ⟨hk.2, ⟨hk.1.1.1.1.1.1.1, ⟨hk.1.1.1.1.1.1.2.1, ⟨hk.1.1.1.1.1.1.2.2.1, ⟨hk.1.1.1.1.1.1.2.2.2.1, ⟨hk.1.1.1.1.1.1.2.2.2.2.1, ⟨hk.1.1.1.1.1.1.2.2.2.2.2.1, ⟨hk.1.1.1.1.1.1.2.2.2.2.2.2.1, hk.1.1.1.1.1.1.2.2.2.2.2.2.2⟩⟩⟩⟩⟩⟩⟩⟩⟩⟩⟩⟩⟩)), (PK BK304), (PK BK330), (PK BK344), (PK BK355), (PK BK407), GW407.out, GE407.out, NB304_407.out, NB407_304.out, NB330_407.out, NB407_330.out, NB344_407.out, NB407_344.out, NB355_407.out, NB407_355.out, PB⟩)
              rintro ⟨v385, v389, v392, v395, v399, v402, v405, gb407⟩ w165 ⟨hS_, h0_, h1_, h2_, h3_, h4_, h5_, h6_, h7_, h8_, h9_, h10_, h11_, h12_, h13_, h14_, h15_, h16_, h17_, h18_, h19_, h20_, h21_, h22_, h23_, h24_, h25_, h26_, h27_, h28_, h29_, h30_, h31_⟩
              have HO386 : Aside0 (Kd.R k121 121 w165 w.heap.size (fun _ => True) v385 t384) := ⟨h0_⟩
              have HO390 : Aside0 (Kd.R (Kd.int .i64) 3 w165 w.heap.size (fun k_ => some k_ ≠ (v392 : Value).ownBlock ∧ some k_ ≠ (v395 : Value).ownBlock ∧ some k_ ≠ (v399 : Value).ownBlock ∧ some k_ ≠ (v402 : Value).ownBlock ∧ some k_ ≠ (v405 : Value).ownBlock ∧ some k_ ≠ (.slice Ao43 t321.length co43 : Value).ownBlock ∧ some k_ ≠ (.slice Ao45 t324.length co45 : Value).ownBlock ∧ some k_ ≠ (.slice Ao47 t327.length co47 : Value).ownBlock ∧ some k_ ≠ (.slice Ao57 t375.length co57 : Value).ownBlock ∧ some k_ ≠ (.slice Ao58 t376.length co58 : Value).ownBlock ∧ some k_ ≠ (.slice Ao59 t377.length co59 : Value).ownBlock ∧ some k_ ≠ (.slice Ao67 t346.length co67 : Value).ownBlock ∧ some k_ ≠ (.slice Ao68 t349.length co68 : Value).ownBlock ∧ some k_ ≠ (.slice Ao69 t352.length co69 : Value).ownBlock) v389 t388) := ⟨h1_⟩
              have HO393 : Aside0 (Kd.R (Kd.int .i64) 3 w165 w.heap.size (fun k_ => some k_ ≠ (v389 : Value).ownBlock ∧ some k_ ≠ (v395 : Value).ownBlock ∧ some k_ ≠ (v399 : Value).ownBlock ∧ some k_ ≠ (v402 : Value).ownBlock ∧ some k_ ≠ (v405 : Value).ownBlock ∧ some k_ ≠ (.slice Ao43 t321.length co43 : Value).ownBlock ∧ some k_ ≠ (.slice Ao45 t324.length co45 : Value).ownBlock ∧ some k_ ≠ (.slice Ao47 t327.length co47 : Value).ownBlock ∧ some k_ ≠ (.slice Ao57 t375.length co57 : Value).ownBlock ∧ some k_ ≠ (.slice Ao58 t376.length co58 : Value).ownBlock ∧ some k_ ≠ (.slice Ao59 t377.length co59 : Value).ownBlock ∧ some k_ ≠ (.slice Ao67 t346.length co67 : Value).ownBlock ∧ some k_ ≠ (.slice Ao68 t349.length co68 : Value).ownBlock ∧ some k_ ≠ (.slice Ao69 t352.length co69 : Value).ownBlock) v392 t391) := ⟨h2_⟩
              have HO396 : Aside0 (Kd.R (Kd.int .i64) 3 w165 w.heap.size (fun k_ => some k_ ≠ (v389 : Value).ownBlock ∧ some k_ ≠ (v392 : Value).ownBlock ∧ some k_ ≠ (v399 : Value).ownBlock ∧ some k_ ≠ (v402 : Value).ownBlock ∧ some k_ ≠ (v405 : Value).ownBlock ∧ some k_ ≠ (.slice Ao43 t321.length co43 : Value).ownBlock ∧ some k_ ≠ (.slice Ao45 t324.length co45 : Value).ownBlock ∧ some k_ ≠ (.slice Ao47 t327.length co47 : Value).ownBlock ∧ some k_ ≠ (.slice Ao57 t375.length co57 : Value).ownBlock ∧ some k_ ≠ (.slice Ao58 t376.length co58 : Value).ownBlock ∧ some k_ ≠ (.slice Ao59 t377.length co59 : Value).ownBlock ∧ some k_ ≠ (.slice Ao67 t346.length co67 : Value).ownBlock ∧ some k_ ≠ (.slice Ao68 t349.length co68 : Value).ownBlock ∧ some k_ ≠ (.slice Ao69 t352.length co69 : Value).ownBlock) v395 t394) := ⟨h3_⟩
              have HO400 : Aside0 (Kd.R (Kd.int .i64) 3 w165 w.heap.size (fun k_ => some k_ ≠ (v389 : Value).ownBlock ∧ some k_ ≠ (v392 : Value).ownBlock ∧ some k_ ≠ (v395 : Value).ownBlock ∧ some k_ ≠ (v402 : Value).ownBlock ∧ some k_ ≠ (v405 : Value).ownBlock ∧ some k_ ≠ (.slice Ao43 t321.length co43 : Value).ownBlock ∧ some k_ ≠ (.slice Ao45 t324.length co45 : Value).ownBlock ∧ some k_ ≠ (.slice Ao47 t327.length co47 : Value).ownBlock ∧ some k_ ≠ (.slice Ao57 t375.length co57 : Value).ownBlock ∧ some k_ ≠ (.slice Ao58 t376.length co58 : Value).ownBlock ∧ some k_ ≠ (.slice Ao59 t377.length co59 : Value).ownBlock ∧ some k_ ≠ (.slice Ao67 t346.length co67 : Value).ownBlock ∧ some k_ ≠ (.slice Ao68 t349.length co68 : Value).ownBlock ∧ some k_ ≠ (.slice Ao69 t352.length co69 : Value).ownBlock) v399 t398) := ⟨h4_⟩
              have HO403 : Aside0 (Kd.R (Kd.int .i64) 3 w165 w.heap.size (fun k_ => some k_ ≠ (v389 : Value).ownBlock ∧ some k_ ≠ (v392 : Value).ownBlock ∧ some k_ ≠ (v395 : Value).ownBlock ∧ some k_ ≠ (v399 : Value).ownBlock ∧ some k_ ≠ (v405 : Value).ownBlock ∧ some k_ ≠ (.slice Ao43 t321.length co43 : Value).ownBlock ∧ some k_ ≠ (.slice Ao45 t324.length co45 : Value).ownBlock ∧ some k_ ≠ (.slice Ao47 t327.length co47 : Value).ownBlock ∧ some k_ ≠ (.slice Ao57 t375.length co57 : Value).ownBlock ∧ some k_ ≠ (.slice Ao58 t376.length co58 : Value).ownBlock ∧ some k_ ≠ (.slice Ao59 t377.length co59 : Value).ownBlock ∧ some k_ ≠ (.slice Ao67 t346.length co67 : Value).ownBlock ∧ some k_ ≠ (.slice Ao68 t349.length co68 : Value).ownBlock ∧ some k_ ≠ (.slice Ao69 t352.length co69 : Value).ownBlock) v402 t401) := ⟨h5_⟩
              have HO406 : Aside0 (Kd.R (Kd.int .i64) 3 w165 w.heap.size (fun k_ => some k_ ≠ (v389 : Value).ownBlock ∧ some k_ ≠ (v392 : Value).ownBlock ∧ some k_ ≠ (v395 : Value).ownBlock ∧ some k_ ≠ (v399 : Value).ownBlock ∧ some k_ ≠ (v402 : Value).ownBlock ∧ some k_ ≠ (.slice Ao43 t321.length co43 : Value).ownBlock ∧ some k_ ≠ (.slice Ao45 t324.length co45 : Value).ownBlock ∧ some k_ ≠ (.slice Ao47 t327.length co47 : Value).ownBlock ∧ some k_ ≠ (.slice Ao57 t375.length co57 : Value).ownBlock ∧ some k_ ≠ (.slice Ao58 t376.length co58 : Value).ownBlock ∧ some k_ ≠ (.slice Ao59 t377.length co59 : Value).ownBlock ∧ some k_ ≠ (.slice Ao67 t346.length co67 : Value).ownBlock ∧ some k_ ≠ (.slice Ao68 t349.length co68 : Value).ownBlock ∧ some k_ ≠ (.slice Ao69 t352.length co69 : Value).ownBlock) v405 t404) := ⟨h6_⟩
              replace HO_331001 : Aside0 (Kd.R (Kd.int .i64) 3 w165 w.heap.size (fun k_ => some k_ ≠ (v389 : Value).ownBlock ∧ some k_ ≠ (v392 : Value).ownBlock ∧ some k_ ≠ (v395 : Value).ownBlock ∧ some k_ ≠ (v399 : Value).ownBlock ∧ some k_ ≠ (v402 : Value).ownBlock ∧ some k_ ≠ (v405 : Value).ownBlock ∧ some k_ ≠ (.slice Ao45 t324.length co45 : Value).ownBlock ∧ some k_ ≠ (.slice Ao47 t327.length co47 : Value).ownBlock ∧ some k_ ≠ (.slice Ao57 t375.length co57 : Value).ownBlock ∧ some k_ ≠ (.slice Ao58 t376.length co58 : Value).ownBlock ∧ some k_ ≠ (.slice Ao59 t377.length co59 : Value).ownBlock ∧ some k_ ≠ (.slice Ao67 t346.length co67 : Value).ownBlock ∧ some k_ ≠ (.slice Ao68 t349.length co68 : Value).ownBlock ∧ some k_ ≠ (.slice Ao69 t352.length co69 : Value).ownBlock) (.slice Ao43 t321.length co43) t321) := ⟨h7_⟩
              replace HO_331002 : Aside0 (Kd.R (Kd.int .i64) 3 w165 w.heap.size (fun k_ => some k_ ≠ (v389 : Value).ownBlock ∧ some k_ ≠ (v392 : Value).ownBlock ∧ some k_ ≠ (v395 : Value).ownBlock ∧ some k_ ≠ (v399 : Value).ownBlock ∧ some k_ ≠ (v402 : Value).ownBlock ∧ some k_ ≠ (v405 : Value).ownBlock ∧ some k_ ≠ (.slice Ao43 t321.length co43 : Value).ownBlock ∧ some k_ ≠ (.slice Ao47 t327.length co47 : Value).ownBlock ∧ some k_ ≠ (.slice Ao57 t375.length co57 : Value).ownBlock ∧ some k_ ≠ (.slice Ao58 t376.length co58 : Value).ownBlock ∧ some k_ ≠ (.slice Ao59 t377.length co59 : Value).ownBlock ∧ some k_ ≠ (.slice Ao67 t346.length co67 : Value).ownBlock ∧ some k_ ≠ (.slice Ao68 t349.length co68 : Value).ownBlock ∧ some k_ ≠ (.slice Ao69 t352.length co69 : Value).ownBlock) (.slice Ao45 t324.length co45) t324) := ⟨h8_⟩
              replace HO_331003 : Aside0 (Kd.R (Kd.int .i64) 3 w165 w.heap.size (fun k_ => some k_ ≠ (v389 : Value).ownBlock ∧ some k_ ≠ (v392 : Value).ownBlock ∧ some k_ ≠ (v395 : Value).ownBlock ∧ some k_ ≠ (v399 : Value).ownBlock ∧ some k_ ≠ (v402 : Value).ownBlock ∧ some k_ ≠ (v405 : Value).ownBlock ∧ some k_ ≠ (.slice Ao43 t321.length co43 : Value).ownBlock ∧ some k_ ≠ (.slice Ao45 t324.length co45 : Value).ownBlock ∧ some k_ ≠ (.slice Ao57 t375.length co57 : Value).ownBlock ∧ some k_ ≠ (.slice Ao58 t376.length co58 : Value).ownBlock ∧ some k_ ≠ (.slice Ao59 t377.length co59 : Value).ownBlock ∧ some k_ ≠ (.slice Ao67 t346.length co67 : Value).ownBlock ∧ some k_ ≠ (.slice Ao68 t349.length co68 : Value).ownBlock ∧ some k_ ≠ (.slice Ao69 t352.length co69 : Value).ownBlock) (.slice Ao47 t327.length co47) t327) := ⟨h9_⟩
              replace HO_345001 : Aside0 (Kd.R (Kd.int .i64) 3 w165 w.heap.size (fun k_ => some k_ ≠ (v389 : Value).ownBlock ∧ some k_ ≠ (v392 : Value).ownBlock ∧ some k_ ≠ (v395 : Value).ownBlock ∧ some k_ ≠ (v399 : Value).ownBlock ∧ some k_ ≠ (v402 : Value).ownBlock ∧ some k_ ≠ (v405 : Value).ownBlock ∧ some k_ ≠ (.slice Ao43 t321.length co43 : Value).ownBlock ∧ some k_ ≠ (.slice Ao45 t324.length co45 : Value).ownBlock ∧ some k_ ≠ (.slice Ao47 t327.length co47 : Value).ownBlock ∧ some k_ ≠ (.slice Ao58 t376.length co58 : Value).ownBlock ∧ some k_ ≠ (.slice Ao59 t377.length co59 : Value).ownBlock ∧ some k_ ≠ (.slice Ao67 t346.length co67 : Value).ownBlock ∧ some k_ ≠ (.slice Ao68 t349.length co68 : Value).ownBlock ∧ some k_ ≠ (.slice Ao69 t352.length co69 : Value).ownBlock) (.slice Ao57 t375.length co57) t375) := ⟨h10_⟩
              replace HO_345002 : Aside0 (Kd.R (Kd.int .i64) 3 w165 w.heap.size (fun k_ => some k_ ≠ (v389 : Value).ownBlock ∧ some k_ ≠ (v392 : Value).ownBlock ∧ some k_ ≠ (v395 : Value).ownBlock ∧ some k_ ≠ (v399 : Value).ownBlock ∧ some k_ ≠ (v402 : Value).ownBlock ∧ some k_ ≠ (v405 : Value).ownBlock ∧ some k_ ≠ (.slice Ao43 t321.length co43 : Value).ownBlock ∧ some k_ ≠ (.slice Ao45 t324.length co45 : Value).ownBlock ∧ some k_ ≠ (.slice Ao47 t327.length co47 : Value).ownBlock ∧ some k_ ≠ (.slice Ao57 t375.length co57 : Value).ownBlock ∧ some k_ ≠ (.slice Ao59 t377.length co59 : Value).ownBlock ∧ some k_ ≠ (.slice Ao67 t346.length co67 : Value).ownBlock ∧ some k_ ≠ (.slice Ao68 t349.length co68 : Value).ownBlock ∧ some k_ ≠ (.slice Ao69 t352.length co69 : Value).ownBlock) (.slice Ao58 t376.length co58) t376) := ⟨h11_⟩
              replace HO_345003 : Aside0 (Kd.R (Kd.int .i64) 3 w165 w.heap.size (fun k_ => some k_ ≠ (v389 : Value).ownBlock ∧ some k_ ≠ (v392 : Value).ownBlock ∧ some k_ ≠ (v395 : Value).ownBlock ∧ some k_ ≠ (v399 : Value).ownBlock ∧ some k_ ≠ (v402 : Value).ownBlock ∧ some k_ ≠ (v405 : Value).ownBlock ∧ some k_ ≠ (.slice Ao43 t321.length co43 : Value).ownBlock ∧ some k_ ≠ (.slice Ao45 t324.length co45 : Value).ownBlock ∧ some k_ ≠ (.slice Ao47 t327.length co47 : Value).ownBlock ∧ some k_ ≠ (.slice Ao57 t375.length co57 : Value).ownBlock ∧ some k_ ≠ (.slice Ao58 t376.length co58 : Value).ownBlock ∧ some k_ ≠ (.slice Ao67 t346.length co67 : Value).ownBlock ∧ some k_ ≠ (.slice Ao68 t349.length co68 : Value).ownBlock ∧ some k_ ≠ (.slice Ao69 t352.length co69 : Value).ownBlock) (.slice Ao59 t377.length co59) t377) := ⟨h12_⟩
              replace HO_356001 : Aside0 (Kd.R (Kd.int .i64) 3 w165 w.heap.size (fun k_ => some k_ ≠ (v389 : Value).ownBlock ∧ some k_ ≠ (v392 : Value).ownBlock ∧ some k_ ≠ (v395 : Value).ownBlock ∧ some k_ ≠ (v399 : Value).ownBlock ∧ some k_ ≠ (v402 : Value).ownBlock ∧ some k_ ≠ (v405 : Value).ownBlock ∧ some k_ ≠ (.slice Ao43 t321.length co43 : Value).ownBlock ∧ some k_ ≠ (.slice Ao45 t324.length co45 : Value).ownBlock ∧ some k_ ≠ (.slice Ao47 t327.length co47 : Value).ownBlock ∧ some k_ ≠ (.slice Ao57 t375.length co57 : Value).ownBlock ∧ some k_ ≠ (.slice Ao58 t376.length co58 : Value).ownBlock ∧ some k_ ≠ (.slice Ao59 t377.length co59 : Value).ownBlock ∧ some k_ ≠ (.slice Ao68 t349.length co68 : Value).ownBlock ∧ some k_ ≠ (.slice Ao69 t352.length co69 : Value).ownBlock) (.slice Ao67 t346.length co67) t380) := ⟨h13_⟩
              replace HO_356002 : Aside0 (Kd.R (Kd.int .i64) 3 w165 w.heap.size (fun k_ => some k_ ≠ (v389 : Value).ownBlock ∧ some k_ ≠ (v392 : Value).ownBlock ∧ some k_ ≠ (v395 : Value).ownBlock ∧ some k_ ≠ (v399 : Value).ownBlock ∧ some k_ ≠ (v402 : Value).ownBlock ∧ some k_ ≠ (v405 : Value).ownBlock ∧ some k_ ≠ (.slice Ao43 t321.length co43 : Value).ownBlock ∧ some k_ ≠ (.slice Ao45 t324.length co45 : Value).ownBlock ∧ some k_ ≠ (.slice Ao47 t327.length co47 : Value).ownBlock ∧ some k_ ≠ (.slice Ao57 t375.length co57 : Value).ownBlock ∧ some k_ ≠ (.slice Ao58 t376.length co58 : Value).ownBlock ∧ some k_ ≠ (.slice Ao59 t377.length co59 : Value).ownBlock ∧ some k_ ≠ (.slice Ao67 t346.length co67 : Value).ownBlock ∧ some k_ ≠ (.slice Ao69 t352.length co69 : Value).ownBlock) (.slice Ao68 t349.length co68) t381) := ⟨h14_⟩
              replace HO_356003 : Aside0 (Kd.R (Kd.int .i64) 3 w165 w.heap.size (fun k_ => some k_ ≠ (v389 : Value).ownBlock ∧ some k_ ≠ (v392 : Value).ownBlock ∧ some k_ ≠ (v395 : Value).ownBlock ∧ some k_ ≠ (v399 : Value).ownBlock ∧ some k_ ≠ (v402 : Value).ownBlock ∧ some k_ ≠ (v405 : Value).ownBlock ∧ some k_ ≠ (.slice Ao43 t321.length co43 : Value).ownBlock ∧ some k_ ≠ (.slice Ao45 t324.length co45 : Value).ownBlock ∧ some k_ ≠ (.slice Ao47 t327.length co47 : Value).ownBlock ∧ some k_ ≠ (.slice Ao57 t375.length co57 : Value).ownBlock ∧ some k_ ≠ (.slice Ao58 t376.length co58 : Value).ownBlock ∧ some k_ ≠ (.slice Ao59 t377.length co59 : Value).ownBlock ∧ some k_ ≠ (.slice Ao67 t346.length co67 : Value).ownBlock ∧ some k_ ≠ (.slice Ao68 t349.length co68 : Value).ownBlock) (.slice Ao69 t352.length co69) t382) := ⟨h15_⟩
              replace BK304 : Aside0 (w165.heap[gb304]? = some (.cells #[.int .i64 a1_0, .slice A1_1 l1_1.length c1_1, .slice A1_2 l1_2.length c1_2, .slice A1_3 l1_3.length c1_3] 72 (0, 0))) := ⟨h16_⟩
              replace BK330 : Aside0 (w165.heap[gb330]? = some (.cells #[.int .i64 t320, .slice Ao43 t321.length co43, .slice Ao45 t324.length co45, .slice Ao47 t327.length co47] 45 (0, 0))) := ⟨h17_⟩
              replace BK344 : Aside0 (w165.heap[gb344]? = some (.cells #[.int .i64 t334, .slice Ao57 t375.length co57, .slice Ao58 t376.length co58, .slice Ao59 t377.length co59] 45 (0, 0))) := ⟨h18_⟩
              replace BK355 : Aside0 (w165.heap[gb355]? = some (.cells #[.int .i64 t345, .slice Ao67 t346.length co67, .slice Ao68 t349.length co68, .slice Ao69 t352.length co69] 45 (0, 0))) := ⟨h19_⟩
              have BK407 : Aside0 (w165.heap[gb407]? = some (.cells #[.int .i64 0, .slice none 0 0, .slice none 0 0, .slice none 0 0] 45 (0, 0))) := ⟨h20_⟩
              have GW407 : Aside0 (w.heap.size ≤ gb407) := ⟨h21_⟩
              have GE407 : Aside0 (w.heap.size ≤ gb407) := ⟨h22_⟩
              have NB304_407 : Aside0 (gb304 ≠ gb407) := ⟨h23_⟩
              have NB407_304 : Aside0 (gb407 ≠ gb304) := ⟨h24_⟩
              have NB330_407 : Aside0 (gb330 ≠ gb407) := ⟨h25_⟩
              have NB407_330 : Aside0 (gb407 ≠ gb330) := ⟨h26_⟩
              have NB344_407 : Aside0 (gb344 ≠ gb407) := ⟨h27_⟩
              have NB407_344 : Aside0 (gb407 ≠ gb344) := ⟨h28_⟩
              have NB355_407 : Aside0 (gb355 ≠ gb407) := ⟨h29_⟩
              have NB407_355 : Aside0 (gb407 ≠ gb355) := ⟨h30_⟩
              replace HB : Aside0 (Below w.heap.size w w165) := ⟨h31_⟩
              clear h0_ h1_ h2_ h3_ h4_ h5_ h6_ h7_ h8_ h9_ h10_ h11_ h12_ h13_ h14_ h15_ h16_ h17_ h18_ h19_ h20_ h21_ h22_ h23_ h24_ h25_ h26_ h27_ h28_ h29_ h30_ h31_
              have hHeld : w165.cell? ⟨gb304, 0, none⟩ = some (.int .i64 a1_0) ∧ w165.cell? ⟨gb304, 1, none⟩ = some (.slice A1_1 l1_1.length c1_1) ∧ w165.cell? ⟨gb304, 2, none⟩ = some (.slice A1_2 l1_2.length c1_2) ∧ w165.cell? ⟨gb304, 3, none⟩ = some (.slice A1_3 l1_3.length c1_3) := hS_
              obtain ⟨Ao167, co167, eo167⟩ := Kd.R_slice HO400.out
              (first | subst eo167 | (injection eo167 with f1_ f2_ f3_; have f4_ := f1_.symm; have f5_ := f3_.symm; clear f1_ f2_ f3_; subst f4_; subst f5_))
              obtain ⟨Ao169, co169, eo169⟩ := Kd.R_slice HO403.out
              (first | subst eo169 | (injection eo169 with f1_ f2_ f3_; have f4_ := f1_.symm; have f5_ := f3_.symm; clear f1_ f2_ f3_; subst f4_; subst f5_))
              obtain ⟨Ao171, co171, eo171⟩ := Kd.R_slice HO406.out
              (first | subst eo171 | (injection eo171 with f1_ f2_ f3_; have f4_ := f1_.symm; have f5_ := f3_.symm; clear f1_ f2_ f3_; subst f4_; subst f5_))
              refine norm_ (a' := ?_) ?_ ?_
              rotate_left
              ·simp only [putAll, Act.put, List.setIfInBounds_toArray, List.set_cons_zero, List.set_cons_succ]
               rfl
              refine one_ (i := 7) (N := none) b11_0 rfl rfl (one_of HT_.out KR) (by decide) (fun K hK => ?_)
              have hs166 : w165.cell? ⟨gb407, 0, none⟩ = some (.int .i64 0) := (blk_cell BK407.out 0).trans rfl
              have hfs166 := blk_frozen BK407.out 0
              have hns166_0 := NB304_407.out
              have hns166_1 := NB330_407.out
              have hns166_2 := NB344_407.out
              have hns166_3 := NB355_407.out
              have hms166_0 := NB407_304.out
              have hms166_1 := NB407_330.out
              have hms166_2 := NB407_344.out
              have hms166_3 := NB407_355.out
              have hs168 : w165.cell? ⟨gb407, 1, none⟩ = some (.slice none 0 0) := (blk_cell BK407.out 1).trans rfl
              have hfs168 := blk_frozen BK407.out 1
              have hns168_0 := NB304_407.out
              have hns168_1 := NB330_407.out
              have hns168_2 := NB344_407.out
              have hns168_3 := NB355_407.out
              have hms168_0 := NB407_304.out
              have hms168_1 := NB407_330.out
              have hms168_2 := NB407_344.out
              have hms168_3 := NB407_355.out
              have hs170 : w165.cell? ⟨gb407, 2, none⟩ = some (.slice none 0 0) := (blk_cell BK407.out 2).trans rfl
              have hfs170 := blk_frozen BK407.out 2
              have hns170_0 := NB304_407.out
              have hns170_1 := NB330_407.out
              have hns170_2 := NB344_407.out
              have hns170_3 := NB355_407.out
              have hms170_0 := NB407_304.out
              have hms170_1 := NB407_330.out
              have hms170_2 := NB407_344.out
              have hms170_3 := NB407_355.out
              have hs172 : w165.cell? ⟨gb407, 3, none⟩ = some (.slice none 0 0) := (blk_cell BK407.out 3).trans rfl
              have hfs172 := blk_frozen BK407.out 3
              have hns172_0 := NB304_407.out
              have hns172_1 := NB330_407.out
              have hns172_2 := NB344_407.out
              have hns172_3 := NB355_407.out
              have hms172_0 := NB407_304.out
              have hms172_1 := NB407_330.out
              have hms172_2 := NB407_344.out
              have hms172_3 := NB407_355.out
              refine skip_ (w1 := ?_) (by rfl) rfl ?_ ?_
              rotate_left
              ·go_simp
               rfl
              refine hK.out _ _ ⟨((cell_far (p := ⟨gb407, _, none⟩) NB304_407.out _).trans (((cell_far (p := ⟨gb407, _, none⟩) NB304_407.out _).trans (((cell_far (p := ⟨gb407, _, none⟩) NB304_407.out _).trans (((cell_far (p := ⟨gb407, _, none⟩) NB304_407.out _).trans (hHeld.1)))))))), ((cell_far (p := ⟨gb407, _, none⟩) NB304_407.out _).trans (((cell_far (p := ⟨gb407, _, none⟩) NB304_407.out _).trans (((cell_far (p := ⟨gb407, _, none⟩) NB304_407.out _).trans (((cell_far (p := ⟨gb407, _, none⟩) NB304_407.out _).trans (hHeld.2.1)))))))), ((cell_far (p := ⟨gb407, _, none⟩) NB304_407.out _).trans (((cell_far (p := ⟨gb407, _, none⟩) NB304_407.out _).trans (((cell_far (p := ⟨gb407, _, none⟩) NB304_407.out _).trans (((cell_far (p := ⟨gb407, _, none⟩) NB304_407.out _).trans (hHeld.2.2.1)))))))), ((cell_far (p := ⟨gb407, _, none⟩) NB304_407.out _).trans (((cell_far (p := ⟨gb407, _, none⟩) NB304_407.out _).trans (((cell_far (p := ⟨gb407, _, none⟩) NB304_407.out _).trans (((cell_far (p := ⟨gb407, _, none⟩) NB304_407.out _).trans (hHeld.2.2.2))))))))⟩ (fun hHeld => ?_)
              clear hK K
              refine done_ (done_of HT_.out KR) ?_
              have hnb173 := NB407_304.out
              have hnc173 := NB304_407.out
              have hnb174 := NB407_330.out
              have hnc174 := NB330_407.out
              have hnb175 := NB407_344.out
              have hnc175 := NB344_407.out
              have hnb176 := NB407_355.out
              have hnc176 := NB355_407.out
              obtain ⟨_, _, _, _, _, _, _, _⟩ := bc4 BK407
              have hnb178 := NB330_304.out
              have hnc178 := NB304_330.out
              have hnb179 := NB330_344.out
              have hnc179 := NB344_330.out
              obtain ⟨_, _, _, _, _, _, _, _⟩ := bc4 BK330
              try go_wp2_with (first | ((with_reducible refine gate_callee (f := 42) rfl ?_); refine goesL_ (some 87) rfl rfl Try.func42 KR rfl #[.agg #[.int .i64 t397, .slice Ao167 t398.length co167, .slice Ao169 t401.length co169, .slice Ao171 t404.length co171], .agg #[.int .i64 t320, .slice Ao43 t321.length co43, .slice Ao45 t324.length co45, .slice Ao47 t327.length co47]] rfl AR ?_; (with_reducible refine (laws_eqState.calls kj27 t397 _ _ t398 _ _ t401 _ _ t404 t320 _ _ t321 _ _ t324 _ _ t327 true _ ?side1 ?side2 ?side3 ?side4 ?side5 ?side6 ?side7 ?side8 ?side9 ?side10 ?side11 ?side12 A109.out).mono ?_); (case side1 => exact (Kd.R_reads' (Re1 HO400 BK407)).2.2); (case side2 => exact (Kd.R_reads' HO400.out).2.1); (case side3 => exact (Kd.R_reads' (Re1 HO403 BK407)).2.2); (case side4 => exact (Kd.R_reads' HO403.out).2.1); (case side5 => exact (Kd.R_reads' (Re1 HO406 BK407)).2.2); (case side6 => exact (Kd.R_reads' HO406.out).2.1); (case side7 => exact (Kd.R_reads' (Re1 HO_331001 BK407)).2.2); (case side8 => exact (Kd.R_reads' HO_331001.out).2.1); (case side9 => exact (Kd.R_reads' (Re1 HO_331002 BK407)).2.2); (case side10 => exact (Kd.R_reads' HO_331002.out).2.1); (case side11 => exact (Kd.R_reads' (Re1 HO_331003 BK407)).2.2); (case side12 => exact (Kd.R_reads' HO_331003.out).2.1); rintro e w181 ⟨rfl, hb⟩; refine ⟨_, rfl, ?_⟩; replace HO_331001 := ak (Kd.R_below (Re1 HO_331001 BK407) hb); replace HO_331002 := ak (Kd.R_below (Re1 HO_331002 BK407) hb); replace HO_331003 := ak (Kd.R_below (Re1 HO_331003 BK407) hb); replace HO_345001 := ak (Kd.R_below (Re1 HO_345001 BK407) hb); replace HO_345002 := ak (Kd.R_below (Re1 HO_345002 BK407) hb); replace HO_345003 := ak (Kd.R_below (Re1 HO_345003 BK407) hb); replace HO_356001 := ak (Kd.R_below (Re1 HO_356001 BK407) hb); replace HO_356002 := ak (Kd.R_below (Re1 HO_356002 BK407) hb); replace HO_356003 := ak (Kd.R_below (Re1 HO_356003 BK407) hb); replace HO386 := ak (Kd.R_below (Re1 HO386 BK407) hb); replace HO390 := ak (Kd.R_below (Re1 HO390 BK407) hb); replace HO393 := ak (Kd.R_below (Re1 HO393 BK407) hb); replace HO396 := ak (Kd.R_below (Re1 HO396 BK407) hb); replace HO400 := ak (Kd.R_below (Re1 HO400 BK407) hb); replace HO403 := ak (Kd.R_below (Re1 HO403 BK407) hb); replace HO406 := ak (Kd.R_below (Re1 HO406 BK407) hb); replace BK304 := kf BK304 hb; replace BK330 := kf BK330 hb; replace BK344 := kf BK344 hb; replace BK355 := kf BK355 hb; replace BK407 := kp (cs' := #[.int .i64 t397, .slice Ao167 t398.length co167, .slice Ao169 t401.length co169, .slice Ao171 t404.length co171]) BK407 hb; replace HB := bs HB hb; (try clear hb); (try clear hb2); (try clear hk); (try clear hi); obtain ⟨_, _, _, _, _, _, _, _⟩ := bc4 BK355) | ((with_reducible refine gate_callee (f := 46) rfl ?_); refine goesL_ (some 91) rfl rfl Try.func46 KR rfl #[.agg #[.int .i64 t345, .slice Ao67 t380.length co67, .slice Ao68 t381.length co68, .slice Ao69 t382.length co69], .int .i64 1] rfl (by (try simp only [List.map_toArray, List.map_cons, List.map_nil]); first | done | (rw [show t380.length = t346.length from (Kd.R_reads' HO_356001.out).1.symm, show t381.length = t349.length from (Kd.R_reads' HO_356002.out).1.symm, show t382.length = t352.length from (Kd.R_reads' HO_356003.out).1.symm] <;> rfl) | rfl | (simp only [List.length_drop, List.length_take]; rfl)) ?_; (with_reducible refine (laws_heldState.calls kj27 t345 _ _ t380 _ _ t381 _ _ t382 1 t409 _ ?side1 ?side2 ?side3 ?side4 ?side5 ?side6 A111.out).mono ?_); (case side1 => exact CR ((Kd.R_reads' HO_356001.out).2.2)); (case side2 => rw [show t380.length = t346.length from (Kd.R_reads' HO_356001.out).1.symm]; exact (Kd.R_reads' HO_356001.out).2.1); (case side3 => exact CR ((Kd.R_reads' HO_356002.out).2.2)); (case side4 => rw [show t381.length = t349.length from (Kd.R_reads' HO_356002.out).1.symm]; exact (Kd.R_reads' HO_356002.out).2.1); (case side5 => exact CR ((Kd.R_reads' HO_356003.out).2.2)); (case side6 => rw [show t382.length = t352.length from (Kd.R_reads' HO_356003.out).1.symm]; exact (Kd.R_reads' HO_356003.out).2.1); rintro e w183 ⟨rfl, hb⟩; refine ⟨_, rfl, ?_⟩; replace HO_331001 := Rb HO_331001 hb; replace HO_331002 := Rb HO_331002 hb; replace HO_331003 := Rb HO_331003 hb; replace HO_345001 := Rb HO_345001 hb; replace HO_345002 := Rb HO_345002 hb; replace HO_345003 := Rb HO_345003 hb; replace HO_356001 := Rb HO_356001 hb; replace HO_356002 := Rb HO_356002 hb; replace HO_356003 := Rb HO_356003 hb; replace HO386 := Rb HO386 hb; replace HO390 := Rb HO390 hb; replace HO393 := Rb HO393 hb; replace HO396 := Rb HO396 hb; replace HO400 := Rb HO400 hb; replace HO403 := Rb HO403 hb; replace HO406 := Rb HO406 hb; replace BK304 := kf BK304 hb; replace BK330 := kf BK330 hb; replace BK344 := kf BK344 hb; replace BK355 := kf BK355 hb; replace BK407 := kf BK407 hb; replace HB := bs HB hb; (try clear hb); (try clear hb2); (try clear hk); (try clear hi)))
              go_ret
              exact ⟨RT, PB⟩
             ·rw [if_neg c148] at H
              have c148b0 : (t409 == t379) = false := beq_eq_false_iff_ne.mpr c148
              have c148b1 : (t409 != t379) = true := bne_iff_ne.mpr c148
              cases (Option.some.inj H).trans hT_
           ·replace c110 := Bool.eq_false_iff.mpr c110
            subst c110
            have H1 : (some false) = some r := by rw [if_neg (show ¬ (false = true) by decide)] at H; exact H
            clear H
            have H := H1
            clear H1
            cases (Option.some.inj H).trans hT_
          ·rw [if_neg c105] at H
           have c105b0 : (t383 == t379) = false := beq_eq_false_iff_ne.mpr c105
           have c105b1 : (t383 != t379) = true := bne_iff_ne.mpr c105
           cases (Option.some.inj H).trans hT_
     ·replace c25 := Bool.eq_false_iff.mpr c25
      subst c25
      have H1 : (some false) = some r := by rw [if_neg (show ¬ (false = true) by decide)] at H; exact H
      clear H
      have H := H1
      clear H1
      cases (Option.some.inj H).trans hT_
    ·replace c22 := Bool.eq_false_iff.mpr c22
     subst c22
     have H1 : (some false) = some r := by rw [if_neg (show ¬ (false = true) by decide)] at H; exact H
     clear H
     have H := H1
     clear H1
     cases (Option.some.inj H).trans hT_
   ·replace c19 := Bool.eq_false_iff.mpr c19
    subst c19
    have H1 : (some false) = some r := by rw [if_neg (show ¬ (false = true) by decide)] at H; exact H
    clear H
    have H := H1
    clear H1
    cases (Option.some.inj H).trans hT_
end Go.Proofs.Ytgcamebeonodeaa.MFnExactStepState

