-- Written by a program of this session out of the translation's own print. Not trusted: Lean checks it.
import Derived.Test.YtgcamebeonodeaaShr2
import Derived.Test.YtgcamebeonodeaaMFnVisitsx0
import Derived.Test.YtgcamebeonodeaaMFnVisitsx1
import Derived.Test.YtgcamebeonodeaaMFnVisitsx2
import Derived.Test.YtgcamebeonodeaaMFnVisitsx5
import Derived.Test.YtgcamebeonodeaaMFnVisitsx6
import Derived.Test.YtgcamebeonodeaaMFnVisitsx7
import Derived.Test.YtgcamebeonodeaaMFnVisitsx8
import Derived.Test.YtgcamebeonodeaaMFnVisitsx10
namespace Go.Proofs.Ytgcamebeonodeaa.MFnVisits
open Go.RowKit Go.Proofs.YtgcamebeonodeaaW.PrintWords Go.Proofs.YtgcamebeonodeaaW.PrintLast Go.Proofs.YtgcamebeonodeaaW.PrintMore
attribute [local go_sem] max2_int min2_int max_two min_two max_three min_three max_four min_four   -- for this text's walks alone
set_option linter.unusedVariables false
set_option linter.unusedSimpArgs false

attribute [local go_sem high] eqA26
abbrev b11_0 : Array Bool := mkB 32 4294967295
abbrev b11_1 : Array Bool := mkB 32 2147483647
abbrev b11_2 : Array Bool := mkB 32 1073741823
abbrev b11_3 : Array Bool := mkB 32 536870911
abbrev b11_4 : Array Bool := mkB 32 268435455
abbrev b11_6 : Array Bool := mkB 32 134217727
abbrev b11_7 : Array Bool := mkB 32 67108863
abbrev b11_8 : Array Bool := mkB 32 33554431
abbrev b11_9 : Array Bool := mkB 32 16777215
abbrev b11_10 : Array Bool := mkB 32 8388607
abbrev b11_11 : Array Bool := mkB 32 4194303
abbrev b11_12 : Array Bool := mkB 32 2097151
abbrev b11_13 : Array Bool := mkB 32 1048575
abbrev b11_14 : Array Bool := mkB 32 524287
abbrev b11_15 : Array Bool := mkB 32 262143
abbrev b11_16 : Array Bool := mkB 32 131071
abbrev b11_17 : Array Bool := mkB 32 65535
abbrev b11_18 : Array Bool := mkB 32 32767
abbrev b11_19 : Array Bool := mkB 32 16383
abbrev b11_20 : Array Bool := mkB 32 8191
abbrev b11_21 : Array Bool := mkB 32 4095
abbrev b11_22 : Array Bool := mkB 32 2047
abbrev b11_23 : Array Bool := mkB 32 1023
abbrev b11_24 : Array Bool := mkB 32 511
abbrev b11_25 : Array Bool := mkB 32 255
abbrev b11_26 : Array Bool := mkB 32 127
abbrev b11_27 : Array Bool := mkB 32 63
abbrev b11_28 : Array Bool := mkB 32 31
abbrev b11_29 : Array Bool := mkB 32 15
abbrev b11_30 : Array Bool := mkB 32 7
abbrev b11_31 : Array Bool := mkB 32 3
abbrev b11_32 : Array Bool := mkB 32 1
abbrev b11_33 : Array Bool := #[false, false, false, false, false, false, false, false, false, false, false, false, false, false, false, false, false, false, false, false, false, false, false, false, false, false, false, false, false, false, false, false]
/-! ### laws_FnVisits: function 5 -/
mutual
def laws_FnVisits.j0 : Nat → List Int → Int → Bool → List (S169) → Int → Int → List Int → Int → Int → Int → Int → Option (Bool)
  | 0, _, _, _, _, _, _, _, _, _, _, _ => none
  | k + 1, x0, x5, x41, x591000, x591001, x591002, x591003, x592000, x592001, x592002, x592003 => if x41 = true then (some false) else ((impl_AddressesFrom.f k x591000 x591001 x591002 x591003 x592000 x592001 x592002 x592003 x5).bind fun t596 => (if x592000 = 1 then ((impl_IsVisit.f k x591000 x591001 x591002 x591003).bind fun t599 => (if t599 = true then (if x5 ≥ 0 then (if ((decide ((t596.length : Int) > 0)) != (decide (x5 ≤ 100))) = true then (laws_FnVisits.j1 k x0 true) else (if (t596.length : Int) > 0 then (if 0 < (t596.length : Int) then (laws_FnVisits.j1 k x0 (!(((rd_T26 t596 0).f0) == x592001) || (!(((rd_T26 t596 0).f1) == x592002) || (!(((rd_T26 t596 0).f2) == x592003))))) else (none)) else (laws_FnVisits.j1 k x0 false))) else (if ((decide ((t596.length : Int) > 0)) != false) = true then (laws_FnVisits.j1 k x0 true) else (if (t596.length : Int) > 0 then (if 0 < (t596.length : Int) then (laws_FnVisits.j1 k x0 (!(((rd_T26 t596 0).f0) == x592001) || (!(((rd_T26 t596 0).f1) == x592002) || (!(((rd_T26 t596 0).f2) == x592003))))) else (none)) else (laws_FnVisits.j1 k x0 false)))) else (if ((decide ((t596.length : Int) > 0)) != false) = true then (laws_FnVisits.j1 k x0 true) else (if (t596.length : Int) > 0 then (if 0 < (t596.length : Int) then (laws_FnVisits.j1 k x0 (!(((rd_T26 t596 0).f0) == x592001) || (!(((rd_T26 t596 0).f1) == x592002) || (!(((rd_T26 t596 0).f2) == x592003))))) else (none)) else (laws_FnVisits.j1 k x0 false))))) else (if ((decide ((t596.length : Int) > 0)) != false) = true then (laws_FnVisits.j1 k x0 true) else (if (t596.length : Int) > 0 then (if 0 < (t596.length : Int) then (laws_FnVisits.j1 k x0 (!(((rd_T26 t596 0).f0) == x592001) || (!(((rd_T26 t596 0).f1) == x592002) || (!(((rd_T26 t596 0).f2) == x592003))))) else (none)) else (laws_FnVisits.j1 k x0 false)))))
def laws_FnVisits.j1 : Nat → List Int → Bool → Option (Bool)
  | 0, _, _ => none
  | k + 1, x0, x77 => if x77 = true then (some false) else ((spec_DrawValueOfResource.f k x0).bind fun bt604 => ((impl_ValueOfResource.f k bt604.1 bt604.2.1 bt604.2.2.1 bt604.2.2.2.1 bt604.2.2.2.2).bind fun t612 => (if t612 ≥ 0 then (if t612 ≤ 999 then ((impl_IsResource.f k bt604.1 bt604.2.1 bt604.2.2.1 bt604.2.2.2.1 bt604.2.2.2.2).bind fun t613 => (if t613 = true then (some ((decide (t612 > 0)) == (decide (bt604.1 ≤ 2)))) else (some ((decide (t612 > 0)) == false)))) else (some false)) else (some false))))
end
def laws_FnVisits.f (k : Nat) (l0 : List Int) : Option (Bool) := (laws_big.f l0).bind fun t576 => (if t576 = true then (some true) else ((spec_DrawLiveValue.f k l0).bind fun bt577 => ((impl_LiveValue.f k bt577.1 bt577.2.1 bt577.2.2.1 bt577.2.2.2.1 bt577.2.2.2.2.1 bt577.2.2.2.2.2.1 bt577.2.2.2.2.2.2.1 bt577.2.2.2.2.2.2.2.1 bt577.2.2.2.2.2.2.2.2).bind fun t592 => ((impl_IsVisit.f k bt577.1 bt577.2.1 bt577.2.2.1 bt577.2.2.2.1).bind fun t593 => ((spec_IsVisit.f k bt577.1 bt577.2.1 bt577.2.2.1 bt577.2.2.2.1).bind fun t594 => (if (t593 != t594) = true then (some false) else (if t592 < 0 then (laws_FnVisits.j0 k l0 bt577.2.2.2.2.2.2.2.2 true bt577.1 bt577.2.1 bt577.2.2.1 bt577.2.2.2.1 bt577.2.2.2.2.1 bt577.2.2.2.2.2.1 bt577.2.2.2.2.2.2.1 bt577.2.2.2.2.2.2.2.1) else (if t592 > 999 then (laws_FnVisits.j0 k l0 bt577.2.2.2.2.2.2.2.2 true bt577.1 bt577.2.1 bt577.2.2.1 bt577.2.2.2.1 bt577.2.2.2.2.1 bt577.2.2.2.2.2.1 bt577.2.2.2.2.2.2.1 bt577.2.2.2.2.2.2.2.1) else ((impl_IsVisit.f k bt577.1 bt577.2.1 bt577.2.2.1 bt577.2.2.2.1).bind fun t595 => (if t595 = true then (laws_FnVisits.j0 k l0 bt577.2.2.2.2.2.2.2.2 false bt577.1 bt577.2.1 bt577.2.2.1 bt577.2.2.2.1 bt577.2.2.2.2.1 bt577.2.2.2.2.2.1 bt577.2.2.2.2.2.2.1 bt577.2.2.2.2.2.2.2.1) else (laws_FnVisits.j0 k l0 bt577.2.2.2.2.2.2.2.2 (t592 != 0) bt577.1 bt577.2.1 bt577.2.2.1 bt577.2.2.2.1 bt577.2.2.2.2.1 bt577.2.2.2.2.2.1 bt577.2.2.2.2.2.2.1 bt577.2.2.2.2.2.2.2.1)))))))))))
def laws_FnVisits.T10 : Bool × List (List Nat × List Nat) := (true, [([], []), ([0], [0]), ([1], [1]), ([], []), ([3], [3]), ([4], [4]), ([5], [5]), ([6], [6]), ([7, 6, 6], [6, 7]), ([6, 8], [6, 8]), ([9, 8], [9]), ([10], [10]), ([11, 10], [10, 11]), ([10, 12], [10, 12]), ([13, 10], [13]), ([14], [14]), ([15, 14], [14, 15]), ([14, 16], [14, 16]), ([2, 17], [2, 17]), ([18, 14], [18]), ([19], [19]), ([20, 19], [19, 20]), ([21, 19], [19, 21]), ([22, 19, 19], [19, 22]), ([23], [23]), ([24, 23], [23, 24]), ([25, 23], [23, 25]), ([23], [23]), ([27, 23], [23, 27]), ([26, 28, 23], [23, 26, 28]), ([23, 29, 19], [19, 23, 29]), ([19, 30], [19, 30])])
def laws_FnVisits.B10 : List Nat := [0, 1, 3, 0, 8, 24, 56, 120, 248, 504, 1016, 2040, 4088, 8184, 16376, 32760, 65528, 131064, 262143, 524287, 1048575, 2097151, 4194303, 8388607, 16777215, 33554431, 67108863, 16777215, 150994943, 536870911, 1073741823, 2147483647]
theorem laws_FnVisits.tab10 : rtab .any (opsOf Try.f5 10) = laws_FnVisits.T10 := by kernel_rfl
theorem laws_FnVisits.bits10 : waitsOk laws_FnVisits.T10.2 laws_FnVisits.B10 = true := by kernel_rfl
set_option maxHeartbeats 8000000 in
set_option maxRecDepth 100000 in
theorem laws_FnVisits.calls (k : Nat) (A0 : Option Addr) (c0 : Nat) (l0 : List Int) (r : Bool) (w : World) (hr0 : Kd.C (Kd.int .u8) w A0 l0.length l0) (hc0 : l0.length ≤ c0) (hT_ : r = true) (h : laws_FnVisits.f k l0 = some r) :
  Calls Try.prog 5 #[.slice A0 l0.length c0] w fun e w' => e = .returned (.bool r) ∧ Below w.heap.size w w' := by
 have hu61 := Try.underlying61
 have hu50 := Try.underlying50
 have hu26 := Try.underlying26
 have hu38 := Try.underlying38
 have HR0 := Aside0.mk hr0
 have HC0 := Aside0.mk hc0
 clear hr0 hc0
 have HB := ak (Below.refl w.heap.size w)
 have H : ((laws_big.f l0).bind fun t576 => (if t576 = true then (some true) else ((spec_DrawLiveValue.f k l0).bind fun bt577 => ((impl_LiveValue.f k bt577.1 bt577.2.1 bt577.2.2.1 bt577.2.2.2.1 bt577.2.2.2.2.1 bt577.2.2.2.2.2.1 bt577.2.2.2.2.2.2.1 bt577.2.2.2.2.2.2.2.1 bt577.2.2.2.2.2.2.2.2).bind fun t592 => ((impl_IsVisit.f k bt577.1 bt577.2.1 bt577.2.2.1 bt577.2.2.2.1).bind fun t593 => ((spec_IsVisit.f k bt577.1 bt577.2.1 bt577.2.2.1 bt577.2.2.2.1).bind fun t594 => (if (t593 != t594) = true then (some false) else (if t592 < 0 then (laws_FnVisits.j0 k l0 bt577.2.2.2.2.2.2.2.2 true bt577.1 bt577.2.1 bt577.2.2.1 bt577.2.2.2.1 bt577.2.2.2.2.1 bt577.2.2.2.2.2.1 bt577.2.2.2.2.2.2.1 bt577.2.2.2.2.2.2.2.1) else (if t592 > 999 then (laws_FnVisits.j0 k l0 bt577.2.2.2.2.2.2.2.2 true bt577.1 bt577.2.1 bt577.2.2.1 bt577.2.2.2.1 bt577.2.2.2.2.1 bt577.2.2.2.2.2.1 bt577.2.2.2.2.2.2.1 bt577.2.2.2.2.2.2.2.1) else ((impl_IsVisit.f k bt577.1 bt577.2.1 bt577.2.2.1 bt577.2.2.2.1).bind fun t595 => (if t595 = true then (laws_FnVisits.j0 k l0 bt577.2.2.2.2.2.2.2.2 false bt577.1 bt577.2.1 bt577.2.2.1 bt577.2.2.2.1 bt577.2.2.2.2.1 bt577.2.2.2.2.2.1 bt577.2.2.2.2.2.2.1 bt577.2.2.2.2.2.2.2.1) else (laws_FnVisits.j0 k l0 bt577.2.2.2.2.2.2.2.2 (t592 != 0) bt577.1 bt577.2.1 bt577.2.2.1 bt577.2.2.2.1 bt577.2.2.2.2.1 bt577.2.2.2.2.2.1 bt577.2.2.2.2.2.2.1 bt577.2.2.2.2.2.2.2.1)))))))))))) = some r := h
 clear h
 replace H := Option.bind_eq_some_iff.mp H
 obtain ⟨t576, A20, H⟩ := H
 replace H : (if t576 = true then (some true) else ((spec_DrawLiveValue.f k l0).bind fun bt577 => ((impl_LiveValue.f k bt577.1 bt577.2.1 bt577.2.2.1 bt577.2.2.2.1 bt577.2.2.2.2.1 bt577.2.2.2.2.2.1 bt577.2.2.2.2.2.2.1 bt577.2.2.2.2.2.2.2.1 bt577.2.2.2.2.2.2.2.2).bind fun t592 => ((impl_IsVisit.f k bt577.1 bt577.2.1 bt577.2.2.1 bt577.2.2.2.1).bind fun t593 => ((spec_IsVisit.f k bt577.1 bt577.2.1 bt577.2.2.1 bt577.2.2.2.1).bind fun t594 => (if (t593 != t594) = true then (some false) else (if t592 < 0 then (laws_FnVisits.j0 k l0 bt577.2.2.2.2.2.2.2.2 true bt577.1 bt577.2.1 bt577.2.2.1 bt577.2.2.2.1 bt577.2.2.2.2.1 bt577.2.2.2.2.2.1 bt577.2.2.2.2.2.2.1 bt577.2.2.2.2.2.2.2.1) else (if t592 > 999 then (laws_FnVisits.j0 k l0 bt577.2.2.2.2.2.2.2.2 true bt577.1 bt577.2.1 bt577.2.2.1 bt577.2.2.2.1 bt577.2.2.2.2.1 bt577.2.2.2.2.2.1 bt577.2.2.2.2.2.2.1 bt577.2.2.2.2.2.2.2.1) else ((impl_IsVisit.f k bt577.1 bt577.2.1 bt577.2.2.1 bt577.2.2.2.1).bind fun t595 => (if t595 = true then (laws_FnVisits.j0 k l0 bt577.2.2.2.2.2.2.2.2 false bt577.1 bt577.2.1 bt577.2.2.1 bt577.2.2.2.1 bt577.2.2.2.2.1 bt577.2.2.2.2.2.1 bt577.2.2.2.2.2.2.1 bt577.2.2.2.2.2.2.2.1) else (laws_FnVisits.j0 k l0 bt577.2.2.2.2.2.2.2.2 (t592 != 0) bt577.1 bt577.2.1 bt577.2.2.1 bt577.2.2.2.1 bt577.2.2.2.2.1 bt577.2.2.2.2.2.1 bt577.2.2.2.2.2.2.1 bt577.2.2.2.2.2.2.2.1))))))))))) = some r := H
 have A2 := Aside0.mk A20
 clear A20
 by_cases c3 : t576 = true
 ·subst c3
  have H1 : (some true) = some r := by rw [if_pos rfl] at H; exact H
  clear H
  have H := H1
  clear H1
  obtain rfl := Option.some.inj H
  go_enter Try.func5, Try.ntmps5
  go_wp2_with (first | ((with_reducible refine gate_callee (f := 10) rfl ?_); refine goesL_ (some 11) rfl rfl Try.func10 KR rfl #[.slice A0 l0.length c0] rfl AR ?_; (with_reducible refine (laws_big.calls _ _ l0 true _ ?side1 ?side2 A2.out).mono ?_); (case side1 => exact CR (HR0.out)); (case side2 => exact HC0.out); rintro e w' ⟨rfl, ⟨nd, rfl⟩⟩; refine ⟨_, rfl, ?_⟩))
  go_ret
  exact ⟨RT, PB⟩
 ·replace c3 := Bool.eq_false_iff.mpr c3
  subst c3
  have H1 : ((spec_DrawLiveValue.f k l0).bind fun bt577 => ((impl_LiveValue.f k bt577.1 bt577.2.1 bt577.2.2.1 bt577.2.2.2.1 bt577.2.2.2.2.1 bt577.2.2.2.2.2.1 bt577.2.2.2.2.2.2.1 bt577.2.2.2.2.2.2.2.1 bt577.2.2.2.2.2.2.2.2).bind fun t592 => ((impl_IsVisit.f k bt577.1 bt577.2.1 bt577.2.2.1 bt577.2.2.2.1).bind fun t593 => ((spec_IsVisit.f k bt577.1 bt577.2.1 bt577.2.2.1 bt577.2.2.2.1).bind fun t594 => (if (t593 != t594) = true then (some false) else (if t592 < 0 then (laws_FnVisits.j0 k l0 bt577.2.2.2.2.2.2.2.2 true bt577.1 bt577.2.1 bt577.2.2.1 bt577.2.2.2.1 bt577.2.2.2.2.1 bt577.2.2.2.2.2.1 bt577.2.2.2.2.2.2.1 bt577.2.2.2.2.2.2.2.1) else (if t592 > 999 then (laws_FnVisits.j0 k l0 bt577.2.2.2.2.2.2.2.2 true bt577.1 bt577.2.1 bt577.2.2.1 bt577.2.2.2.1 bt577.2.2.2.2.1 bt577.2.2.2.2.2.1 bt577.2.2.2.2.2.2.1 bt577.2.2.2.2.2.2.2.1) else ((impl_IsVisit.f k bt577.1 bt577.2.1 bt577.2.2.1 bt577.2.2.2.1).bind fun t595 => (if t595 = true then (laws_FnVisits.j0 k l0 bt577.2.2.2.2.2.2.2.2 false bt577.1 bt577.2.1 bt577.2.2.1 bt577.2.2.2.1 bt577.2.2.2.2.1 bt577.2.2.2.2.2.1 bt577.2.2.2.2.2.2.1 bt577.2.2.2.2.2.2.2.1) else (laws_FnVisits.j0 k l0 bt577.2.2.2.2.2.2.2.2 (t592 != 0) bt577.1 bt577.2.1 bt577.2.2.1 bt577.2.2.2.1 bt577.2.2.2.2.1 bt577.2.2.2.2.2.1 bt577.2.2.2.2.2.2.1 bt577.2.2.2.2.2.2.2.1)))))))))) = some r := by rw [if_neg (show ¬ (false = true) by decide)] at H; exact H
  clear H
  have H := H1
  clear H1
  replace H := Option.bind_eq_some_iff.mp H
  obtain ⟨⟨t577, t580, t581, t582, t585, t586, t587, t588, t589⟩, A40, H⟩ := H
  replace H : ((impl_LiveValue.f k t577 t580 t581 t582 t585 t586 t587 t588 t589).bind fun t592 => ((impl_IsVisit.f k t577 t580 t581 t582).bind fun t593 => ((spec_IsVisit.f k t577 t580 t581 t582).bind fun t594 => (if (t593 != t594) = true then (some false) else (if t592 < 0 then (laws_FnVisits.j0 k l0 t589 true t577 t580 t581 t582 t585 t586 t587 t588) else (if t592 > 999 then (laws_FnVisits.j0 k l0 t589 true t577 t580 t581 t582 t585 t586 t587 t588) else ((impl_IsVisit.f k t577 t580 t581 t582).bind fun t595 => (if t595 = true then (laws_FnVisits.j0 k l0 t589 false t577 t580 t581 t582 t585 t586 t587 t588) else (laws_FnVisits.j0 k l0 t589 (t592 != 0) t577 t580 t581 t582 t585 t586 t587 t588))))))))) = some r := H
  have A4 := Aside0.mk A40
  clear A40
  replace H := Option.bind_eq_some_iff.mp H
  obtain ⟨t592, A50, H⟩ := H
  replace H : ((impl_IsVisit.f k t577 t580 t581 t582).bind fun t593 => ((spec_IsVisit.f k t577 t580 t581 t582).bind fun t594 => (if (t593 != t594) = true then (some false) else (if t592 < 0 then (laws_FnVisits.j0 k l0 t589 true t577 t580 t581 t582 t585 t586 t587 t588) else (if t592 > 999 then (laws_FnVisits.j0 k l0 t589 true t577 t580 t581 t582 t585 t586 t587 t588) else ((impl_IsVisit.f k t577 t580 t581 t582).bind fun t595 => (if t595 = true then (laws_FnVisits.j0 k l0 t589 false t577 t580 t581 t582 t585 t586 t587 t588) else (laws_FnVisits.j0 k l0 t589 (t592 != 0) t577 t580 t581 t582 t585 t586 t587 t588)))))))) = some r := H
  have A5 := Aside0.mk A50
  clear A50
  replace H := Option.bind_eq_some_iff.mp H
  obtain ⟨t593, A60, H⟩ := H
  replace H : ((spec_IsVisit.f k t577 t580 t581 t582).bind fun t594 => (if (t593 != t594) = true then (some false) else (if t592 < 0 then (laws_FnVisits.j0 k l0 t589 true t577 t580 t581 t582 t585 t586 t587 t588) else (if t592 > 999 then (laws_FnVisits.j0 k l0 t589 true t577 t580 t581 t582 t585 t586 t587 t588) else ((impl_IsVisit.f k t577 t580 t581 t582).bind fun t595 => (if t595 = true then (laws_FnVisits.j0 k l0 t589 false t577 t580 t581 t582 t585 t586 t587 t588) else (laws_FnVisits.j0 k l0 t589 (t592 != 0) t577 t580 t581 t582 t585 t586 t587 t588))))))) = some r := H
  have A6 := Aside0.mk A60
  clear A60
  replace H := Option.bind_eq_some_iff.mp H
  obtain ⟨t594, A70, H⟩ := H
  replace H : (if (t593 != t594) = true then (some false) else (if t592 < 0 then (laws_FnVisits.j0 k l0 t589 true t577 t580 t581 t582 t585 t586 t587 t588) else (if t592 > 999 then (laws_FnVisits.j0 k l0 t589 true t577 t580 t581 t582 t585 t586 t587 t588) else ((impl_IsVisit.f k t577 t580 t581 t582).bind fun t595 => (if t595 = true then (laws_FnVisits.j0 k l0 t589 false t577 t580 t581 t582 t585 t586 t587 t588) else (laws_FnVisits.j0 k l0 t589 (t592 != 0) t577 t580 t581 t582 t585 t586 t587 t588)))))) = some r := H
  have A7 := Aside0.mk A70
  clear A70
  by_cases c8 : (t593 != t594) = true
  ·rw [if_pos c8] at H
   have c8b0 : (t593 != t594) = true := c8
   (try (have c8b1 : decide (t593 = t594) = false := by simpa using c8))
   (try (have c8b2 : (t593 == t594) = false := by simpa using c8))
   (try (have c8b3 : ¬ (t593 = t594) := by simpa using c8))
   clear c8
   cases (Option.some.inj H).trans hT_
  ·rw [if_neg c8] at H
   have c8b0 : (t593 != t594) = false := by simpa using c8
   (try (have c8b1 : decide (t593 = t594) = true := by simpa using c8))
   (try (have c8b2 : (t593 == t594) = true := by simpa using c8))
   clear c8
   have HC21 := Aside0.mk H
   clear H
   go_enter Try.func5, Try.ntmps5
   try go_wp2_with (first | ((with_reducible refine gate_callee (f := 10) rfl ?_); refine goesL_ (some 11) rfl rfl Try.func10 KR rfl #[.slice A0 l0.length c0] rfl AR ?_; (with_reducible refine (laws_big.calls _ _ l0 false _ ?side1 ?side2 A2.out).mono ?_); (case side1 => exact CR (HR0.out)); (case side2 => exact HC0.out); rintro e w' ⟨rfl, ⟨nd, rfl⟩⟩; refine ⟨_, rfl, ?_⟩) | ((with_reducible refine gate_callee (f := 29) rfl ?_); refine goesL_ (some 14) rfl rfl Try.func29 KR rfl #[.slice A0 l0.length c0] rfl AR ?_; (with_reducible refine (spec_DrawLiveValue.calls k _ _ l0 t577 t580 t581 t582 t585 t586 t587 t588 t589 _ ?side1 ?side2 A4.out).mono ?_); (case side1 => exact CR (HR0.out)); (case side2 => exact HC0.out); rintro e w22 ⟨v578, v583, rfl, ho0, ho1, hb⟩; refine ⟨_, rfl, ?_⟩; have HO579 := ak (Kd.S_lower ho0 (below_size PB)); have HO584 := Rn0 ho1 HB; replace HB := bs HB hb; (try clear hb); (try clear hb2); (try clear hk); (try clear hi); (try clear ho0); (try clear ho1)) | ((with_reducible refine gate_dst (N := 3) rfl ?_); (try (refine gate_guard (by rfl) ?_; dsimp only)); refine bx_ (N := 3) #[.slice none 0 0, .int .i64 0, .int .i64 0, .slice none 0 0] 61 ?_; intro gb590 hg w23 hbox hb; replace HO579 := Sb HO579 hb; replace HO584 := Rb HO584 hb; have BK590 := ak hbox; have GW590 := gy hg HB; have GE590 := gy hg HB; replace HB := bs HB hb; clear hb hbox hg) | ((with_reducible refine gate_dst (N := 4) rfl ?_); (try (refine gate_guard (by rfl) ?_; dsimp only)); refine bx_ (N := 4) #[.int .i64 0, .int .i64 0, .int .i64 0, .int .i64 0] 50 ?_; intro gb591 hg w24 hbox hb; replace HO579 := Sb HO579 hb; replace HO584 := Rb HO584 hb; have BK591 := ak hbox; have GW591 := gy hg HB; have GE591 := gy hg HB; replace HB := bs HB hb; have NB590_591 := gm hg BK590; have NB591_590 := gn hg BK590; replace BK590 := kf BK590 hb; clear hb hbox hg; obtain ⟨Ao25, co25, eo25⟩ := Kd.S_slice HO579.out; subst eo25; have hnb26 := NB590_591.out; have hnc26 := NB591_590.out; obtain ⟨hcz27_0, hcz27_1, hcz27_2, hcz27_3, hfz27_0, hfz27_1, hfz27_2, hfz27_3⟩ := bc4 BK590; obtain ⟨Ao28, co28, eo28⟩ := Kd.R_slice HO584.out; subst eo28; obtain ⟨hcz29_0, hcz29_1, hcz29_2, hcz29_3, hfz29_0, hfz29_1, hfz29_2, hfz29_3⟩ := bc4 BK591) | ((with_reducible refine gate_callee (f := 30) rfl ?_); refine goesL_ (some 21) rfl rfl Try.func30 KR rfl #[.agg #[.slice Ao25 t577.length co25, .int .i64 t580, .int .i64 t581, .slice Ao28 t582.length co28], .agg #[.int .i64 t585, .int .i64 t586, .int .i64 t587, .int .i64 t588], .int .i64 t589] rfl AR ?_; (with_reducible refine (impl_LiveValue.calls k _ _ t577 t580 t581 _ _ t582 t585 t586 t587 t588 t589 t592 _ ?side1 ?side2 ?side3 ?side4 A5.out).mono ?_); (case side1 => exact (Kd.S_reads' (Se2 HO579 BK590 BK591)).2.2); (case side2 => exact (Kd.S_reads' HO579.out).2.1); (case side3 => exact (Kd.R_reads' (Re2 HO584 BK590 BK591)).2.2); (case side4 => exact (Kd.R_reads' HO584.out).2.1); rintro e w30 ⟨rfl, hb⟩; refine ⟨_, rfl, ?_⟩; replace HO579 := ak (Kd.S_below (Se2 HO579 BK590 BK591) hb); replace HO584 := ak (Kd.R_below (Re2 HO584 BK590 BK591) hb); replace BK590 := kp (cs' := #[.slice Ao25 t577.length co25, .int .i64 t580, .int .i64 t581, .slice Ao28 t582.length co28]) BK590 hb; replace BK591 := kp (cs' := #[.int .i64 t585, .int .i64 t586, .int .i64 t587, .int .i64 t588]) BK591 hb; replace HB := bs HB hb; (try clear hb); (try clear hb2); (try clear hk); (try clear hi)))
   replace HO579 := ak (Kd.S_drew HO579.out)
   replace HO584 := ak (Kd.R_drew HO584.out)
   replace BK590 := ak (blk_drew BK590.out)
   replace BK591 := ak (blk_drew BK591.out)
   replace HB := ak (below_drew1 HB.out)
   refine start_ (n := 5) (S := fun w' => w'.cell? ⟨gb590, 0, none⟩ = some (.slice Ao25 t577.length co25) ∧ w'.cell? ⟨gb590, 1, none⟩ = some (.int .i64 t580) ∧ w'.cell? ⟨gb590, 2, none⟩ = some (.int .i64 t581) ∧ w'.cell? ⟨gb590, 3, none⟩ = some (.slice Ao28 t582.length co28)) (ds := []) #[false, false, false, false, false] KR rfl rfl ⟨(blk_cell BK590.out 0).trans rfl, (blk_cell BK590.out 1).trans rfl, (blk_cell BK590.out 2).trans rfl, (blk_cell BK590.out 3).trans rfl⟩ (fun hHeld => ?_)
   generalize w30.drew = w31 at HO579 HO584 BK590 BK591 HB hHeld ⊢
   refine take_ (i := 0) (N := some 22) (v := ?_) (a' := ?_) #[true, false, false, false, false] rfl rfl KR (fun _ _ _ h => h) (Or.inl ⟨by rfl, ?_⟩) hHeld ?_ ?_
   rotate_left
   ·rintro w' ⟨s0, s1, s2, s3⟩
    go_simp
    with_reducible rfl
   rotate_left
   ·simp only [Act.put, List.setIfInBounds_toArray, List.set_cons_zero, List.set_cons_succ, i64_w, i32_w]
    rfl
   refine take_ (i := 2) (N := some 24) (v := ?_) (a' := ?_) #[true, false, true, false, false] rfl rfl KR (fun _ _ _ h => h) (Or.inl ⟨by rfl, ?_⟩) hHeld ?_ ?_
   rotate_left
   ·rintro w' ⟨s0, s1, s2, s3⟩
    go_simp
    with_reducible rfl
   rotate_left
   ·simp only [Act.put, List.setIfInBounds_toArray, List.set_cons_zero, List.set_cons_succ, i64_w, i32_w]
    rfl
   refine one_ (i := 1) (N := some 23) #[true, true, true, false, false] rfl rfl KR (by decide) (fun K hK => ?_)
   refine goes_ Try.func31 KR rfl #[.agg #[.slice Ao25 t577.length co25, .int .i64 t580, .int .i64 t581, .slice Ao28 t582.length co28]] (by rfl) rfl rfl AR ?_
   with_reducible refine (impl_IsVisit.calls k _ _ t577 t580 t581 _ _ t582 t593 _ ?side1 ?side2 ?side3 ?side4 A6.out).mono ?_
   (case side1 => exact CR ((Kd.S_reads' HO579.out).2.2))
   (case side2 => exact (Kd.S_reads' HO579.out).2.1)
   (case side3 => exact CR ((Kd.R_reads' HO584.out).2.2))
   (case side4 => exact (Kd.R_reads' HO584.out).2.1)
   rintro e w32 ⟨rfl, hb⟩
   refine ⟨_, rfl, ?_⟩
   replace HO579 := Sb HO579 hb
   replace HO584 := Rb HO584 hb
   replace BK590 := kf BK590 hb
   replace BK591 := kf BK591 hb
   replace HB := bs HB hb
   (try clear hb)
   (try clear hb2)
   (try clear hk)
   (try clear hi)
   refine hK.out _ _ ⟨(blk_cell BK590.out 0).trans rfl, (blk_cell BK590.out 1).trans rfl, (blk_cell BK590.out 2).trans rfl, (blk_cell BK590.out 3).trans rfl⟩ (fun hHeld => ?_)
   clear hK K
   refine norm_ (a' := ?_) ?_ ?_
   rotate_left
   ·show Act.put _ (some 23) _ = _
    simp only [Act.put, List.setIfInBounds_toArray, List.set_cons_zero, List.set_cons_succ, i64_w, i32_w]
    rfl
   refine one_ (i := 3) (N := some 25) #[true, true, true, true, false] rfl rfl KR (by decide) (fun K hK => ?_)
   refine goes_ Try.func32 KR rfl #[.agg #[.slice Ao25 t577.length co25, .int .i64 t580, .int .i64 t581, .slice Ao28 t582.length co28]] (by rfl) rfl rfl AR ?_
   with_reducible refine (spec_IsVisit.calls k _ _ t577 t580 t581 _ _ t582 t594 _ ?side1 ?side2 ?side3 ?side4 A7.out).mono ?_
   (case side1 => exact CR ((Kd.S_reads' HO579.out).2.2))
   (case side2 => exact (Kd.S_reads' HO579.out).2.1)
   (case side3 => exact CR ((Kd.R_reads' HO584.out).2.2))
   (case side4 => exact (Kd.R_reads' HO584.out).2.1)
   rintro e w33 ⟨rfl, hb⟩
   refine ⟨_, rfl, ?_⟩
   replace HO579 := Sb HO579 hb
   replace HO584 := Rb HO584 hb
   replace BK590 := kf BK590 hb
   replace BK591 := kf BK591 hb
   replace HB := bs HB hb
   (try clear hb)
   (try clear hb2)
   (try clear hk)
   (try clear hi)
   refine hK.out _ _ ⟨(blk_cell BK590.out 0).trans rfl, (blk_cell BK590.out 1).trans rfl, (blk_cell BK590.out 2).trans rfl, (blk_cell BK590.out 3).trans rfl⟩ (fun hHeld => ?_)
   clear hK K
   refine norm_ (a' := ?_) ?_ ?_
   rotate_left
   ·show Act.put _ (some 25) _ = _
    simp only [Act.put, List.setIfInBounds_toArray, List.set_cons_zero, List.set_cons_succ, i64_w, i32_w]
    rfl
   refine pure_ (i := 4) (N := some 26) (v := ?_) (a' := ?_) #[true, true, true, true, true] rfl rfl KR (fun _ _ _ h => h) (Or.inl ⟨by rfl, ?_⟩) ?_ ?_
   rotate_left
   ·intro w'
    go_simp
    with_reducible rfl
   rotate_left
   ·simp only [Act.put, List.setIfInBounds_toArray, List.set_cons_zero, List.set_cons_succ, i64_w, i32_w]
    rfl
   refine done_ KR ?_
   go_upto_region 7 with (fail)
   go_cut [41] (fun v41 wc => ∃ (kq : Nat) (x41_20 : Bool), v41 = .bool x41_20 ∧ Aside0 (laws_FnVisits.j0 kq l0 t589 x41_20 t577 t580 t581 t582 t585 t586 t587 t588 = some r) ∧ Aside0 (kq ≤ k) ∧ Aside0 (Kd.S k169 169 wc w.heap.size (fun k_ => some k_ ≠ ((.slice Ao28 t582.length co28) : Value).ownBlock) (.slice Ao25 t577.length co25) t577) ∧ Aside0 (Kd.R (Kd.int .i64) 3 wc w.heap.size (fun _ => True) (.slice Ao28 t582.length co28) t582) ∧ Aside0 (wc.heap[gb590]? = some (.cells #[(.slice Ao25 t577.length co25), .int .i64 t580, .int .i64 t581, (.slice Ao28 t582.length co28)] 61 (0, 0))) ∧ Aside0 (wc.heap[gb591]? = some (.cells #[.int .i64 t585, .int .i64 t586, .int .i64 t587, .int .i64 t588] 50 (0, 0))) ∧ Aside0 (Below w.heap.size w wc))
   case first =>
    have H := HC21.out
    clear HC21
    by_cases c34 : t592 < 0
    ·rw [if_pos c34] at H
     have c34b0 : decide (t592 < 0) = true := decide_eq_true c34
     clear c34
     (first | rw [c34b0] | (simp only [i64_w, i32_w]; rw [c34b0]) | skip)
     have H' := Aside0.mk H
     clear H
     go_wp2
     go_meet
     case rel => exact ⟨_, (true), (by first | rfl | (simp; done) | (simp [*]; done)), H', ⟨by first | omega | exact Nat.le_refl _⟩, ⟨PS HO579⟩, ⟨PR HO584⟩, ⟨PK BK590⟩, ⟨PK BK591⟩, ⟨PB⟩⟩
    ·rw [if_neg c34] at H
     have c34b0 : decide (t592 < 0) = false := decide_eq_false c34
     clear c34
     (first | rw [c34b0] | (simp only [i64_w, i32_w]; rw [c34b0]) | skip)
     by_cases c35 : t592 > 999
     ·rw [if_pos c35] at H
      have c35b0 : decide (999 < t592) = true := decide_eq_true c35
      clear c35
      have H' := Aside0.mk H
      clear H
      go_wp2
      go_meet
      case rel => exact ⟨_, (true), (by first | rfl | (simp; done) | (simp [*]; done)), H', ⟨by first | omega | exact Nat.le_refl _⟩, ⟨PS HO579⟩, ⟨PR HO584⟩, ⟨PK BK590⟩, ⟨PK BK591⟩, ⟨PB⟩⟩
     ·rw [if_neg c35] at H
      have c35b0 : decide (999 < t592) = false := decide_eq_false c35
      clear c35
      replace H := Option.bind_eq_some_iff.mp H
      obtain ⟨t595, A360, H⟩ := H
      replace H : (if t595 = true then (laws_FnVisits.j0 k l0 t589 false t577 t580 t581 t582 t585 t586 t587 t588) else (laws_FnVisits.j0 k l0 t589 (t592 != 0) t577 t580 t581 t582 t585 t586 t587 t588)) = some r := H
      have A36 := Aside0.mk A360
      clear A360
      by_cases c37 : t595 = true
      ·subst c37
       have H1 : (laws_FnVisits.j0 k l0 t589 false t577 t580 t581 t582 t585 t586 t587 t588) = some r := by rw [if_pos rfl] at H; exact H
       clear H
       have H := H1
       clear H1
       have H' := Aside0.mk H
       clear H
       have hnb38 := NB590_591.out
       have hnc38 := NB591_590.out
       obtain ⟨hcz39_0, hcz39_1, hcz39_2, hcz39_3, hfz39_0, hfz39_1, hfz39_2, hfz39_3⟩ := bc4 BK590
       go_wp2_with (first | (go_at_call 31; (with_reducible refine (impl_IsVisit.calls k _ _ t577 t580 t581 _ _ t582 true _ ?side1 ?side2 ?side3 ?side4 A36.out).mono ?_); (case side1 => exact CR ((Kd.S_reads' HO579.out).2.2)); (case side2 => exact (Kd.S_reads' HO579.out).2.1); (case side3 => exact CR ((Kd.R_reads' HO584.out).2.2)); (case side4 => exact (Kd.R_reads' HO584.out).2.1); rintro e w40 ⟨rfl, hb⟩; replace HO579 := Sb HO579 hb; replace HO584 := Rb HO584 hb; replace BK590 := kf BK590 hb; replace BK591 := kf BK591 hb; replace HB := bs HB hb; (try clear hb); (try clear hb2); (try clear hk); (try clear hi)))
       go_meet
       case rel => exact ⟨_, (false), (by first | rfl | (simp; done) | (simp [*]; done)), H', ⟨by first | omega | exact Nat.le_refl _⟩, ⟨PS HO579⟩, ⟨PR HO584⟩, ⟨PK BK590⟩, ⟨PK BK591⟩, ⟨PB⟩⟩
      ·replace c37 := Bool.eq_false_iff.mpr c37
       subst c37
       have H1 : (laws_FnVisits.j0 k l0 t589 (t592 != 0) t577 t580 t581 t582 t585 t586 t587 t588) = some r := by rw [if_neg (show ¬ (false = true) by decide)] at H; exact H
       clear H
       have H := H1
       clear H1
       have H' := Aside0.mk H
       clear H
       have hnb41 := NB590_591.out
       have hnc41 := NB591_590.out
       obtain ⟨hcz42_0, hcz42_1, hcz42_2, hcz42_3, hfz42_0, hfz42_1, hfz42_2, hfz42_3⟩ := bc4 BK590
       go_wp2_with (first | (go_at_call 31; (with_reducible refine (impl_IsVisit.calls k _ _ t577 t580 t581 _ _ t582 false _ ?side1 ?side2 ?side3 ?side4 A36.out).mono ?_); (case side1 => exact CR ((Kd.S_reads' HO579.out).2.2)); (case side2 => exact (Kd.S_reads' HO579.out).2.1); (case side3 => exact CR ((Kd.R_reads' HO584.out).2.2)); (case side4 => exact (Kd.R_reads' HO584.out).2.1); rintro e w43 ⟨rfl, hb⟩; replace HO579 := Sb HO579 hb; replace HO584 := Rb HO584 hb; replace BK590 := kf BK590 hb; replace BK591 := kf BK591 hb; replace HB := bs HB hb; (try clear hb); (try clear hb2); (try clear hk); (try clear hi)))
       go_meet
       case rel => exact ⟨_, ((t592 != 0)), (by first | rfl | (simp; done) | (simp [*]; done)), H', ⟨by first | omega | exact Nat.le_refl _⟩, ⟨PS HO579⟩, ⟨PR HO584⟩, ⟨PK BK590⟩, ⟨PK BK591⟩, ⟨PB⟩⟩
   case rest =>
    clear HC21
    (try clear c1); (try clear c2); (try clear p2); (try clear c3); (try clear c4); (try clear c5); (try clear c8); (try clear c8b0); (try clear c8b1); (try clear c8b2); (try clear c10); (try clear c13); (try clear c26); (try clear c29); (try clear c30); (try clear c31); (try clear c32); (try clear c34); (try clear c34b0); (try clear c35); (try clear c35b0); (try clear c37); (try clear c38); (try clear c41); (try clear hcz14_0); (try clear hcz14_1); (try clear hcz14_2); (try clear hcz14_3); (try clear hcz16_0); (try clear hcz16_1); (try clear hcz16_2); (try clear hcz16_3); (try clear hcz27_0); (try clear hcz27_1); (try clear hcz27_2); (try clear hcz27_3); (try clear hcz29_0); (try clear hcz29_1); (try clear hcz29_2); (try clear hcz29_3); (try clear hcz39_0); (try clear hcz39_1); (try clear hcz39_2); (try clear hcz39_3); (try clear hcz42_0); (try clear hcz42_1); (try clear hcz42_2); (try clear hcz42_3); (try clear hfz14_0); (try clear hfz14_1); (try clear hfz14_2); (try clear hfz14_3); (try clear hfz16_0); (try clear hfz16_1); (try clear hfz16_2); (try clear hfz16_3); (try clear hfz27_0); (try clear hfz27_1); (try clear hfz27_2); (try clear hfz27_3); (try clear hfz29_0); (try clear hfz29_1); (try clear hfz29_2); (try clear hfz29_3); (try clear hfz39_0); (try clear hfz39_1); (try clear hfz39_2); (try clear hfz39_3); (try clear hfz42_0); (try clear hfz42_1); (try clear hfz42_2); (try clear hfz42_3)
    obtain ⟨kq, x41_20, rfl, HA, HJ20, HO_591000, HO_591003, BK590, BK591, HB⟩ := hcut
    cases kq with
    | zero => exact absurd HA.out (by simp [laws_FnVisits.j0])
    | succ kj20 =>
     have H := HA.out
     clear HA
     simp only [laws_FnVisits.j0] at H
     by_cases c44 : x41_20 = true
     ·subst c44
      have H1 : (some false) = some r := by rw [if_pos rfl] at H; exact H
      clear H
      have H := H1
      clear H1
      cases (Option.some.inj H).trans hT_
     ·replace c44 := Bool.eq_false_iff.mpr c44
      subst c44
      have H1 : ((impl_AddressesFrom.f kj20 t577 t580 t581 t582 t585 t586 t587 t588 t589).bind fun t596 => (if t585 = 1 then ((impl_IsVisit.f kj20 t577 t580 t581 t582).bind fun t599 => (if t599 = true then (if t589 ≥ 0 then (if ((decide ((t596.length : Int) > 0)) != (decide (t589 ≤ 100))) = true then (laws_FnVisits.j1 kj20 l0 true) else (if (t596.length : Int) > 0 then (if 0 < (t596.length : Int) then (laws_FnVisits.j1 kj20 l0 (!(((rd_T26 t596 0).f0) == t586) || (!(((rd_T26 t596 0).f1) == t587) || (!(((rd_T26 t596 0).f2) == t588))))) else (none)) else (laws_FnVisits.j1 kj20 l0 false))) else (if ((decide ((t596.length : Int) > 0)) != false) = true then (laws_FnVisits.j1 kj20 l0 true) else (if (t596.length : Int) > 0 then (if 0 < (t596.length : Int) then (laws_FnVisits.j1 kj20 l0 (!(((rd_T26 t596 0).f0) == t586) || (!(((rd_T26 t596 0).f1) == t587) || (!(((rd_T26 t596 0).f2) == t588))))) else (none)) else (laws_FnVisits.j1 kj20 l0 false)))) else (if ((decide ((t596.length : Int) > 0)) != false) = true then (laws_FnVisits.j1 kj20 l0 true) else (if (t596.length : Int) > 0 then (if 0 < (t596.length : Int) then (laws_FnVisits.j1 kj20 l0 (!(((rd_T26 t596 0).f0) == t586) || (!(((rd_T26 t596 0).f1) == t587) || (!(((rd_T26 t596 0).f2) == t588))))) else (none)) else (laws_FnVisits.j1 kj20 l0 false))))) else (if ((decide ((t596.length : Int) > 0)) != false) = true then (laws_FnVisits.j1 kj20 l0 true) else (if (t596.length : Int) > 0 then (if 0 < (t596.length : Int) then (laws_FnVisits.j1 kj20 l0 (!(((rd_T26 t596 0).f0) == t586) || (!(((rd_T26 t596 0).f1) == t587) || (!(((rd_T26 t596 0).f2) == t588))))) else (none)) else (laws_FnVisits.j1 kj20 l0 false))))) = some r := by rw [if_neg (show ¬ (false = true) by decide)] at H; exact H
      clear H
      have H := H1
      clear H1
      replace H := Option.bind_eq_some_iff.mp H
      obtain ⟨t596, A450, H⟩ := H
      replace H : (if t585 = 1 then ((impl_IsVisit.f kj20 t577 t580 t581 t582).bind fun t599 => (if t599 = true then (if t589 ≥ 0 then (if ((decide ((t596.length : Int) > 0)) != (decide (t589 ≤ 100))) = true then (laws_FnVisits.j1 kj20 l0 true) else (if (t596.length : Int) > 0 then (if 0 < (t596.length : Int) then (laws_FnVisits.j1 kj20 l0 (!(((rd_T26 t596 0).f0) == t586) || (!(((rd_T26 t596 0).f1) == t587) || (!(((rd_T26 t596 0).f2) == t588))))) else (none)) else (laws_FnVisits.j1 kj20 l0 false))) else (if ((decide ((t596.length : Int) > 0)) != false) = true then (laws_FnVisits.j1 kj20 l0 true) else (if (t596.length : Int) > 0 then (if 0 < (t596.length : Int) then (laws_FnVisits.j1 kj20 l0 (!(((rd_T26 t596 0).f0) == t586) || (!(((rd_T26 t596 0).f1) == t587) || (!(((rd_T26 t596 0).f2) == t588))))) else (none)) else (laws_FnVisits.j1 kj20 l0 false)))) else (if ((decide ((t596.length : Int) > 0)) != false) = true then (laws_FnVisits.j1 kj20 l0 true) else (if (t596.length : Int) > 0 then (if 0 < (t596.length : Int) then (laws_FnVisits.j1 kj20 l0 (!(((rd_T26 t596 0).f0) == t586) || (!(((rd_T26 t596 0).f1) == t587) || (!(((rd_T26 t596 0).f2) == t588))))) else (none)) else (laws_FnVisits.j1 kj20 l0 false))))) else (if ((decide ((t596.length : Int) > 0)) != false) = true then (laws_FnVisits.j1 kj20 l0 true) else (if (t596.length : Int) > 0 then (if 0 < (t596.length : Int) then (laws_FnVisits.j1 kj20 l0 (!(((rd_T26 t596 0).f0) == t586) || (!(((rd_T26 t596 0).f1) == t587) || (!(((rd_T26 t596 0).f2) == t588))))) else (none)) else (laws_FnVisits.j1 kj20 l0 false)))) = some r := H
      have A45 := Aside0.mk A450
      clear A450
      have HC46 := Aside0.mk H
      clear H
      have hnb47 := NB590_591.out
      have hnc47 := NB591_590.out
      obtain ⟨_, _, _, _, _, _, _, _⟩ := bc4 BK590
      obtain ⟨_, _, _, _, _, _, _, _⟩ := bc4 BK591
      go_upto_region 10 with (first | ((with_reducible refine gate_callee (f := 33) rfl ?_); refine goesL_ (some 45) rfl rfl Try.func33 KR rfl #[.agg #[.slice Ao25 t577.length co25, .int .i64 t580, .int .i64 t581, .slice Ao28 t582.length co28], .agg #[.int .i64 t585, .int .i64 t586, .int .i64 t587, .int .i64 t588], .int .i64 t589] rfl AR ?_; (with_reducible refine (impl_AddressesFrom.calls kj20 _ _ t577 t580 t581 _ _ t582 t585 t586 t587 t588 t589 t596 _ ?side1 ?side2 ?side3 ?side4 A45.out).mono ?_); (case side1 => exact CR ((Kd.S_reads' HO_591000.out).2.2)); (case side2 => exact (Kd.S_reads' HO_591000.out).2.1); (case side3 => exact CR ((Kd.R_reads' HO_591003.out).2.2)); (case side4 => exact (Kd.R_reads' HO_591003.out).2.1); rintro e w50 ⟨v597, rfl, ho0, hb⟩; refine ⟨_, rfl, ?_⟩; replace HO_591000 := Sb HO_591000 hb; replace HO_591003 := Rb HO_591003 hb; have HO598 := Rn0 ho0 HB; replace BK590 := kf BK590 hb; replace BK591 := kf BK591 hb; replace HB := bs HB hb; (try clear hb); (try clear hb2); (try clear hk); (try clear hi); (try clear ho0)))
      (try simp only [Act.put, List.setIfInBounds_toArray, List.set_cons_zero, List.set_cons_succ])
      go_cut [77] (fun v77 wc => ∃ (kq : Nat) (x77_45 : Bool), v77 = .bool x77_45 ∧ Aside0 (laws_FnVisits.j1 kq l0 x77_45 = some r) ∧ Aside0 (kq ≤ kj20) ∧ Aside0 (Kd.S k169 169 wc w.heap.size (fun k_ => some k_ ≠ ((.slice Ao28 t582.length co28) : Value).ownBlock) (.slice Ao25 t577.length co25) t577) ∧ Aside0 (Kd.R (Kd.int .i64) 3 wc w.heap.size (fun _ => True) (.slice Ao28 t582.length co28) t582) ∧ Aside0 (wc.heap[gb590]? = some (.cells #[(.slice Ao25 t577.length co25), .int .i64 t580, .int .i64 t581, (.slice Ao28 t582.length co28)] 61 (0, 0))) ∧ Aside0 (wc.heap[gb591]? = some (.cells #[.int .i64 t585, .int .i64 t586, .int .i64 t587, .int .i64 t588] 50 (0, 0))) ∧ Aside0 (Below w.heap.size w wc))
      case first =>
       have H := HC46.out
       clear HC46
       by_cases c51 : t585 = 1
       ·rw [if_pos c51] at H
        have c51b0 : (t585 == 1) = true := beq_iff_eq.mpr c51
        have c51b1 : (t585 != 1) = false := bne_eq_false_iff_eq.mpr c51
        clear c51
        (first | rw [c51b0] | (simp only [i64_w, i32_w]; rw [c51b0]) | skip)
        replace H := Option.bind_eq_some_iff.mp H
        obtain ⟨t599, A520, H⟩ := H
        replace H : (if t599 = true then (if t589 ≥ 0 then (if ((decide ((t596.length : Int) > 0)) != (decide (t589 ≤ 100))) = true then (laws_FnVisits.j1 kj20 l0 true) else (if (t596.length : Int) > 0 then (if 0 < (t596.length : Int) then (laws_FnVisits.j1 kj20 l0 (!(((rd_T26 t596 0).f0) == t586) || (!(((rd_T26 t596 0).f1) == t587) || (!(((rd_T26 t596 0).f2) == t588))))) else (none)) else (laws_FnVisits.j1 kj20 l0 false))) else (if ((decide ((t596.length : Int) > 0)) != false) = true then (laws_FnVisits.j1 kj20 l0 true) else (if (t596.length : Int) > 0 then (if 0 < (t596.length : Int) then (laws_FnVisits.j1 kj20 l0 (!(((rd_T26 t596 0).f0) == t586) || (!(((rd_T26 t596 0).f1) == t587) || (!(((rd_T26 t596 0).f2) == t588))))) else (none)) else (laws_FnVisits.j1 kj20 l0 false)))) else (if ((decide ((t596.length : Int) > 0)) != false) = true then (laws_FnVisits.j1 kj20 l0 true) else (if (t596.length : Int) > 0 then (if 0 < (t596.length : Int) then (laws_FnVisits.j1 kj20 l0 (!(((rd_T26 t596 0).f0) == t586) || (!(((rd_T26 t596 0).f1) == t587) || (!(((rd_T26 t596 0).f2) == t588))))) else (none)) else (laws_FnVisits.j1 kj20 l0 false)))) = some r := H
        have A52 := Aside0.mk A520
        clear A520
        by_cases c53 : t599 = true
        ·subst c53
         have H1 : (if t589 ≥ 0 then (if ((decide ((t596.length : Int) > 0)) != (decide (t589 ≤ 100))) = true then (laws_FnVisits.j1 kj20 l0 true) else (if (t596.length : Int) > 0 then (if 0 < (t596.length : Int) then (laws_FnVisits.j1 kj20 l0 (!(((rd_T26 t596 0).f0) == t586) || (!(((rd_T26 t596 0).f1) == t587) || (!(((rd_T26 t596 0).f2) == t588))))) else (none)) else (laws_FnVisits.j1 kj20 l0 false))) else (if ((decide ((t596.length : Int) > 0)) != false) = true then (laws_FnVisits.j1 kj20 l0 true) else (if (t596.length : Int) > 0 then (if 0 < (t596.length : Int) then (laws_FnVisits.j1 kj20 l0 (!(((rd_T26 t596 0).f0) == t586) || (!(((rd_T26 t596 0).f1) == t587) || (!(((rd_T26 t596 0).f2) == t588))))) else (none)) else (laws_FnVisits.j1 kj20 l0 false)))) = some r := by rw [if_pos rfl] at H; exact H
         clear H
         have H := H1
         clear H1
         by_cases c54 : t589 ≥ 0
         ·rw [if_pos c54] at H
          have c54b0 : decide (0 ≤ t589) = true := decide_eq_true c54
          clear c54
          by_cases c55 : ((decide ((t596.length : Int) > 0)) != (decide (t589 ≤ 100))) = true
          ·rw [if_pos c55] at H
           have c55b0 : ((decide ((t596.length : Int) > 0)) != (decide (t589 ≤ 100))) = true := c55
           (try (have c55b5 : ((decide (0 < t596.length)) == (decide (t589 ≤ 100))) = false := by simpa using c55))
           (try (have c55b6 : decide (0 < t596.length) = true := by simpa using c55))
           (try (have c55b7 : decide (0 < t596.length) = false := by simpa using c55))
           (try (have c55b1 : decide ((decide ((t596.length : Int) > 0)) = (decide (t589 ≤ 100))) = false := by simpa using c55))
           (try (have c55b2 : ((decide ((t596.length : Int) > 0)) == (decide (t589 ≤ 100))) = false := by simpa using c55))
           (try (have c55b3 : ¬ ((decide ((t596.length : Int) > 0)) = (decide (t589 ≤ 100))) := by simpa using c55))
           clear c55
           have H' := Aside0.mk H
           clear H
           try go_wp2
           replace HO_591000 := ak (Kd.S_drew HO_591000.out)
           replace HO_591003 := ak (Kd.R_drew HO_591003.out)
           replace HO598 := ak (Kd.R_drew HO598.out)
           replace BK590 := ak (blk_drew BK590.out)
           replace BK591 := ak (blk_drew BK591.out)
           replace HB := ak (below_drew1 HB.out)
           obtain ⟨Ao57, co57, eo57⟩ := Kd.R_slice HO598.out
           (first | subst eo57 | (injection eo57 with f1_ f2_ f3_; have f4_ := f1_.symm; have f5_ := f3_.symm; clear f1_ f2_ f3_; subst f4_; subst f5_))
           refine start_ (n := 32) (S := fun w' => w'.cell? ⟨gb591, 0, none⟩ = some (.int .i64 t585) ∧ w'.cell? ⟨gb591, 1, none⟩ = some (.int .i64 t586) ∧ w'.cell? ⟨gb591, 2, none⟩ = some (.int .i64 t587) ∧ w'.cell? ⟨gb591, 3, none⟩ = some (.int .i64 t588) ∧ w'.cell? ⟨gb590, 0, none⟩ = some (.slice Ao25 t577.length co25) ∧ w'.cell? ⟨gb590, 1, none⟩ = some (.int .i64 t580) ∧ w'.cell? ⟨gb590, 2, none⟩ = some (.int .i64 t581) ∧ w'.cell? ⟨gb590, 3, none⟩ = some (.slice Ao28 t582.length co28)) (ds := []) b11_33 KR rfl rfl ⟨(blk_cell BK591.out 0).trans rfl, (blk_cell BK591.out 1).trans rfl, (blk_cell BK591.out 2).trans rfl, (blk_cell BK591.out 3).trans rfl, (blk_cell BK590.out 0).trans rfl, (blk_cell BK590.out 1).trans rfl, (blk_cell BK590.out 2).trans rfl, (blk_cell BK590.out 3).trans rfl⟩ (fun hHeld => ?_); refine with_tabW laws_FnVisits.tab10 laws_FnVisits.bits10 (fun HT_ HW_ => ?_)
           generalize w50.drew = w56 at HO_591000 HO_591003 HO598 BK590 BK591 HB hHeld ⊢
           refine pu_ (i := 0) (N := some 46) b11_32 HT_ ?_
           refine pu_ (i := 1) (N := some 47) b11_31 HT_ ?_
           refine pu_ (i := 2) (N := some 48) b11_30 HT_ ?_
           refine pu_ (i := 3) (N := some 49) b11_29 HT_ ?_
           refine tk_ (i := 4) (N := some 50) b11_28 rfl rfl HT_ HW_ hHeld ?_
           refine pu_ (i := 5) (N := some 51) b11_27 HT_ ?_
           refine pu_ (i := 6) (N := some 52) b11_26 HT_ ?_
           refine tk_ (i := 7) (N := some 53) b11_25 rfl rfl HT_ HW_ hHeld ?_
           refine one_ (i := 8) (N := some 54) b11_24 rfl rfl (one_of HT_.out KR) (by decide) (fun K hK => ?_)
           refine goes_ Try.func31 KR rfl #[.agg #[.slice Ao25 t577.length co25, .int .i64 t580, .int .i64 t581, .slice Ao28 t582.length co28]] (by rfl) rfl rfl AR ?_
           with_reducible refine (impl_IsVisit.calls kj20 _ _ t577 t580 t581 _ _ t582 true _ ?side1 ?side2 ?side3 ?side4 A52.out).mono ?_
           (case side1 => exact CR ((Kd.S_reads' HO_591000.out).2.2))
           (case side2 => exact (Kd.S_reads' HO_591000.out).2.1)
           (case side3 => exact CR ((Kd.R_reads' HO_591003.out).2.2))
           (case side4 => exact (Kd.R_reads' HO_591003.out).2.1)
           rintro e w58 ⟨rfl, hb⟩
           refine ⟨_, rfl, ?_⟩
           replace HO_591000 := Sb HO_591000 hb
           replace HO_591003 := Rb HO_591003 hb
           replace HO598 := Rb HO598 hb
           replace BK590 := kf BK590 hb
           replace BK591 := kf BK591 hb
           replace HB := bs HB hb
           (try clear hb)
           (try clear hb2)
           (try clear hk)
           (try clear hi)
           refine hK.out _ _ ⟨(blk_cell BK591.out 0).trans rfl, (blk_cell BK591.out 1).trans rfl, (blk_cell BK591.out 2).trans rfl, (blk_cell BK591.out 3).trans rfl, (blk_cell BK590.out 0).trans rfl, (blk_cell BK590.out 1).trans rfl, (blk_cell BK590.out 2).trans rfl, (blk_cell BK590.out 3).trans rfl⟩ (fun hHeld => ?_)
           clear hK K
           refine norm_ (a' := ?_) ?_ ?_
           rotate_left
           ·show Act.put _ (some 54) _ = _
            simp only [Act.put, List.setIfInBounds_toArray, List.set_cons_zero, List.set_cons_succ, i64_w, i32_w]
            rfl
           refine pu_ (i := 9) (N := some 55) b11_23 HT_ ?_
           refine pu_ (i := 10) (N := some 56) b11_22 HT_ ?_
           refine pu_ (i := 11) (N := some 57) b11_21 HT_ ?_
           refine pu_ (i := 12) (N := some 58) b11_20 HT_ ?_
           refine pu_ (i := 13) (N := some 59) b11_19 HT_ ?_
           refine pu_ (i := 14) (N := some 60) b11_18 HT_ ?_
           refine pu_ (i := 15) (N := some 61) b11_17 HT_ ?_
           refine pu_ (i := 16) (N := some 62) b11_16 HT_ ?_
           refine pu_ (i := 17) (N := some 63) b11_15 HT_ ?_
           refine pu_ (i := 18) (N := some 64) b11_14 HT_ ?_
           refine pu_ (i := 19) (N := some 65) b11_13 HT_ ?_
           refine un_ (i := 20) (N := some 66) b11_12 HT_ ?_
           refine un_ (i := 21) (N := some 67) b11_11 HT_ ?_
           refine un_ (i := 22) (N := some 68) b11_10 HT_ ?_
           refine un_ (i := 23) (N := some 69) b11_9 HT_ ?_
           refine un_ (i := 24) (N := some 70) b11_8 HT_ ?_
           refine un_ (i := 25) (N := some 71) b11_7 HT_ ?_
           refine un_ (i := 26) (N := some 72) b11_6 HT_ ?_
           refine un_ (i := 27) (N := some 73) b11_4 HT_ ?_
           refine un_ (i := 28) (N := some 74) b11_3 HT_ ?_
           refine un_ (i := 29) (N := some 75) b11_2 HT_ ?_
           refine un_ (i := 30) (N := some 76) b11_1 HT_ ?_
           refine pu_ (i := 31) (N := some 77) b11_0 HT_ ?_
           refine done_ (done_of HT_.out KR) ?_
           try go_wp2
           go_meet
           case rel => exact ⟨_, (true), (by first | rfl | (simp; done) | (simp [*]; done)), H', ⟨by have := HJ20.out; first | omega | exact Nat.le_refl _⟩, ⟨PS HO_591000⟩, ⟨PR HO_591003⟩, ⟨PK BK590⟩, ⟨PK BK591⟩, ⟨PB⟩⟩
          ·rw [if_neg c55] at H
           have c55b0 : ((decide ((t596.length : Int) > 0)) != (decide (t589 ≤ 100))) = false := by simpa using c55
           (try (have c55b5 : ((decide (0 < t596.length)) == (decide (t589 ≤ 100))) = true := by simpa using c55))
           (try (have c55b6 : decide (0 < t596.length) = true := by simpa using c55))
           (try (have c55b7 : decide (0 < t596.length) = false := by simpa using c55))
           (try (have c55b1 : decide ((decide ((t596.length : Int) > 0)) = (decide (t589 ≤ 100))) = true := by simpa using c55))
           (try (have c55b2 : ((decide ((t596.length : Int) > 0)) == (decide (t589 ≤ 100))) = true := by simpa using c55))
           clear c55
           by_cases c59 : (t596.length : Int) > 0
           ·rw [if_pos c59] at H
            have c59b0 : decide (0 < (t596.length : Int)) = true := decide_eq_true c59
            have c59b1 : decide (0 < t596.length) = true := decide_eq_true (by omega)
            (try (have c59b8 : (decide (t589 ≤ 100)) = true := by simpa [c59b1] using c55b5))
            (try (have c59b9 : (decide (t589 ≤ 100)) = false := by simpa [c59b1] using c55b5))
            clear c59
            by_cases c60 : 0 < (t596.length : Int)
            ·rw [if_pos c60] at H
             have c60b0 : decide (0 < (t596.length : Int)) = true := decide_eq_true c60
             have c60b1 : decide (0 < t596.length) = true := decide_eq_true (by omega)
             (try (have c60b8 : (decide (t589 ≤ 100)) = true := by simpa [c60b1] using c55b5))
             (try (have c60b9 : (decide (t589 ≤ 100)) = false := by simpa [c60b1] using c55b5))
             clear c60
             have H' := Aside0.mk H
             clear H
             try go_wp2
             replace HO_591000 := ak (Kd.S_drew HO_591000.out)
             replace HO_591003 := ak (Kd.R_drew HO_591003.out)
             replace HO598 := ak (Kd.R_drew HO598.out)
             replace BK590 := ak (blk_drew BK590.out)
             replace BK591 := ak (blk_drew BK591.out)
             replace HB := ak (below_drew1 HB.out)
             obtain ⟨Ao62, co62, eo62⟩ := Kd.R_slice HO598.out
             (first | subst eo62 | (injection eo62 with f1_ f2_ f3_; have f4_ := f1_.symm; have f5_ := f3_.symm; clear f1_ f2_ f3_; subst f4_; subst f5_))
             have p600 : 0 ≤ (0 : Int) := (by omega)
             have q600 : 0 < (t596.length : Int) := of_decide_eq_true (by first | (with_reducible assumption) | assumption)
             obtain ⟨ad600, e600, hx600_0, hx600_1, hx600_2⟩ := at_T26 (Kd.R_reads' HO598.out).2.2 0 p600 q600
             cases e600
             have qi600 : (0 < t596.length) = True := eq_true (by omega)
             (try rw [show ((0 : Int)).toNat = 0 from rfl] at hx600_0)
             (try rw [show 0 * 3 = 0 from rfl] at hx600_0)
             (try rw [Addr.add_zero'] at hx600_0)
             (try rw [show ((0 : Int)).toNat = 0 from rfl] at hx600_1)
             (try rw [show 0 * 3 = 0 from rfl] at hx600_1)
             (try rw [Addr.add_zero'] at hx600_1)
             (try rw [show ((0 : Int)).toNat = 0 from rfl] at hx600_2)
             (try rw [show 0 * 3 = 0 from rfl] at hx600_2)
             (try rw [Addr.add_zero'] at hx600_2)
             replace p600 := eq_true p600
             replace q600 := eq_true q600
             refine start_ (n := 32) (S := fun w' => w'.cell? ⟨gb591, 0, none⟩ = some (.int .i64 t585) ∧ w'.cell? ⟨gb591, 1, none⟩ = some (.int .i64 t586) ∧ w'.cell? ⟨gb591, 2, none⟩ = some (.int .i64 t587) ∧ w'.cell? ⟨gb591, 3, none⟩ = some (.int .i64 t588) ∧ w'.cell? ⟨gb590, 0, none⟩ = some (.slice Ao25 t577.length co25) ∧ w'.cell? ⟨gb590, 1, none⟩ = some (.int .i64 t580) ∧ w'.cell? ⟨gb590, 2, none⟩ = some (.int .i64 t581) ∧ w'.cell? ⟨gb590, 3, none⟩ = some (.slice Ao28 t582.length co28) ∧ w'.cell? ad600 = some (.int .i64 ((rd_T26 t596 0).f0)) ∧ w'.cell? ⟨ad600.block, ad600.off + 1, none⟩ = some (.int .i64 ((rd_T26 t596 0).f1)) ∧ w'.cell? ⟨ad600.block, ad600.off + 2, none⟩ = some (.int .i64 ((rd_T26 t596 0).f2))) (ds := []) b11_33 KR rfl rfl ⟨(blk_cell BK591.out 0).trans rfl, (blk_cell BK591.out 1).trans rfl, (blk_cell BK591.out 2).trans rfl, (blk_cell BK591.out 3).trans rfl, (blk_cell BK590.out 0).trans rfl, (blk_cell BK590.out 1).trans rfl, (blk_cell BK590.out 2).trans rfl, (blk_cell BK590.out 3).trans rfl, hx600_0, hx600_1, hx600_2⟩ (fun hHeld => ?_); refine with_tabW laws_FnVisits.tab10 laws_FnVisits.bits10 (fun HT_ HW_ => ?_)
             generalize w50.drew = w61 at HO_591000 HO_591003 HO598 BK590 BK591 HB hx600_0 hx600_1 hx600_2 hHeld ⊢
             refine pu_ (i := 0) (N := some 46) b11_32 HT_ ?_
             refine pu_ (i := 1) (N := some 47) b11_31 HT_ ?_
             refine pu_ (i := 2) (N := some 48) b11_30 HT_ ?_
             refine pu_ (i := 3) (N := some 49) b11_29 HT_ ?_
             refine tk_ (i := 4) (N := some 50) b11_28 rfl rfl HT_ HW_ hHeld ?_
             refine pu_ (i := 5) (N := some 51) b11_27 HT_ ?_
             refine pu_ (i := 6) (N := some 52) b11_26 HT_ ?_
             refine tk_ (i := 7) (N := some 53) b11_25 rfl rfl HT_ HW_ hHeld ?_
             refine one_ (i := 8) (N := some 54) b11_24 rfl rfl (one_of HT_.out KR) (by decide) (fun K hK => ?_)
             refine goes_ Try.func31 KR rfl #[.agg #[.slice Ao25 t577.length co25, .int .i64 t580, .int .i64 t581, .slice Ao28 t582.length co28]] (by rfl) rfl rfl AR ?_
             with_reducible refine (impl_IsVisit.calls kj20 _ _ t577 t580 t581 _ _ t582 true _ ?side1 ?side2 ?side3 ?side4 A52.out).mono ?_
             (case side1 => exact CR ((Kd.S_reads' HO_591000.out).2.2))
             (case side2 => exact (Kd.S_reads' HO_591000.out).2.1)
             (case side3 => exact CR ((Kd.R_reads' HO_591003.out).2.2))
             (case side4 => exact (Kd.R_reads' HO_591003.out).2.1)
             rintro e w63 ⟨rfl, hb⟩
             have HS8_ := hs_ hb hHeld.2.2.2.2.2.2.2.2.1; have HS9_ := hs_ hb hHeld.2.2.2.2.2.2.2.2.2.1; have HS10_ := hs_ hb hHeld.2.2.2.2.2.2.2.2.2.2
             refine ⟨_, rfl, ?_⟩
             replace HO_591000 := Sb HO_591000 hb
             replace HO_591003 := Rb HO_591003 hb
             replace HO598 := Rb HO598 hb
             replace BK590 := kf BK590 hb
             replace BK591 := kf BK591 hb
             replace HB := bs HB hb
             (try clear hb)
             (try clear hb2)
             (try clear hk)
             (try clear hi)
             refine hK.out _ _ ⟨(blk_cell BK591.out 0).trans rfl, (blk_cell BK591.out 1).trans rfl, (blk_cell BK591.out 2).trans rfl, (blk_cell BK591.out 3).trans rfl, (blk_cell BK590.out 0).trans rfl, (blk_cell BK590.out 1).trans rfl, (blk_cell BK590.out 2).trans rfl, (blk_cell BK590.out 3).trans rfl, HS8_, HS9_, HS10_⟩ (fun hHeld => ?_)
             clear hK K
             refine norm_ (a' := ?_) ?_ ?_
             rotate_left
             ·show Act.put _ (some 54) _ = _
              simp only [Act.put, List.setIfInBounds_toArray, List.set_cons_zero, List.set_cons_succ, i64_w, i32_w]
              rfl
             refine pu_ (i := 9) (N := some 55) b11_23 HT_ ?_
             refine pu_ (i := 10) (N := some 56) b11_22 HT_ ?_
             refine pu_ (i := 11) (N := some 57) b11_21 HT_ ?_
             refine pu_ (i := 12) (N := some 58) b11_20 HT_ ?_
             refine pu_ (i := 13) (N := some 59) b11_19 HT_ ?_
             refine pu_ (i := 14) (N := some 60) b11_18 HT_ ?_
             refine pu_ (i := 15) (N := some 61) b11_17 HT_ ?_
             refine pu_ (i := 16) (N := some 62) b11_16 HT_ ?_
             refine pu_ (i := 17) (N := some 63) b11_15 HT_ ?_
             refine pu_ (i := 18) (N := some 64) b11_14 HT_ ?_
             refine pu_ (i := 19) (N := some 65) b11_13 HT_ ?_
             refine pu_ (i := 20) (N := some 66) b11_12 HT_ ?_
             refine pu_ (i := 21) (N := some 67) b11_11 HT_ ?_
             refine pu_ (i := 22) (N := some 68) b11_10 HT_ ?_
             refine pu_ (i := 23) (N := some 69) b11_9 HT_ ?_
             refine pu_ (i := 24) (N := some 70) b11_8 HT_ ?_
             refine pu_ (i := 25) (N := some 71) b11_7 HT_ ?_
             refine pu_ (i := 27) (N := some 73) #[true, true, true, true, true, true, true, true, true, true, true, true, true, true, true, true, true, true, true, true, true, true, true, true, true, true, false, true, false, false, false, false] HT_ ?_
             refine tk_ (i := 26) (N := some 72) b11_4 rfl rfl HT_ HW_ hHeld ?_
             refine take_ (i := 28) (N := some 74) (v := ?_) (a' := ?_) b11_3 rfl rfl (take_ofW HT_.out HW_.out KR) (fun _ _ _ h => h) (Or.inl ⟨by rfl, ?_⟩) hHeld ?_ ?_
             rotate_left
             ·rintro w' ⟨s0, s1, s2, s3, s4, s5, s6, s7, s8, s9, s10⟩
              go_simp
              with_reducible rfl
             rotate_left
             ·simp only [Act.put, List.setIfInBounds_toArray, List.set_cons_zero, List.set_cons_succ, i64_w, i32_w]
              rfl
             refine pu_ (i := 29) (N := some 75) b11_2 HT_ ?_
             refine pu_ (i := 30) (N := some 76) b11_1 HT_ ?_
             refine pu_ (i := 31) (N := some 77) b11_0 HT_ ?_
             refine done_ (done_of HT_.out KR) ?_
             try go_wp2
             go_meet
             case rel => exact ⟨_, ((!(((rd_T26 t596 0).f0) == t586) || (!(((rd_T26 t596 0).f1) == t587) || (!(((rd_T26 t596 0).f2) == t588))))), (by first | rfl | (simp; done) | (simp [*]; done)), H', ⟨by have := HJ20.out; first | omega | exact Nat.le_refl _⟩, ⟨PS HO_591000⟩, ⟨PR HO_591003⟩, ⟨PK BK590⟩, ⟨PK BK591⟩, ⟨PB⟩⟩
            ·rw [if_neg c60] at H
             exact absurd H (by simp)
           ·rw [if_neg c59] at H
            have c59b0 : decide (0 < (t596.length : Int)) = false := decide_eq_false c59
            have c59b1 : decide (0 < t596.length) = false := decide_eq_false (by omega)
            (try (have c59b8 : (decide (t589 ≤ 100)) = true := by simpa [c59b1] using c55b5))
            (try (have c59b9 : (decide (t589 ≤ 100)) = false := by simpa [c59b1] using c55b5))
            clear c59
            have H' := Aside0.mk H
            clear H
            try go_wp2
            replace HO_591000 := ak (Kd.S_drew HO_591000.out)
            replace HO_591003 := ak (Kd.R_drew HO_591003.out)
            replace HO598 := ak (Kd.R_drew HO598.out)
            replace BK590 := ak (blk_drew BK590.out)
            replace BK591 := ak (blk_drew BK591.out)
            replace HB := ak (below_drew1 HB.out)
            obtain ⟨Ao65, co65, eo65⟩ := Kd.R_slice HO598.out
            (first | subst eo65 | (injection eo65 with f1_ f2_ f3_; have f4_ := f1_.symm; have f5_ := f3_.symm; clear f1_ f2_ f3_; subst f4_; subst f5_))
            refine start_ (n := 32) (S := fun w' => w'.cell? ⟨gb591, 0, none⟩ = some (.int .i64 t585) ∧ w'.cell? ⟨gb591, 1, none⟩ = some (.int .i64 t586) ∧ w'.cell? ⟨gb591, 2, none⟩ = some (.int .i64 t587) ∧ w'.cell? ⟨gb591, 3, none⟩ = some (.int .i64 t588) ∧ w'.cell? ⟨gb590, 0, none⟩ = some (.slice Ao25 t577.length co25) ∧ w'.cell? ⟨gb590, 1, none⟩ = some (.int .i64 t580) ∧ w'.cell? ⟨gb590, 2, none⟩ = some (.int .i64 t581) ∧ w'.cell? ⟨gb590, 3, none⟩ = some (.slice Ao28 t582.length co28)) (ds := []) b11_33 KR rfl rfl ⟨(blk_cell BK591.out 0).trans rfl, (blk_cell BK591.out 1).trans rfl, (blk_cell BK591.out 2).trans rfl, (blk_cell BK591.out 3).trans rfl, (blk_cell BK590.out 0).trans rfl, (blk_cell BK590.out 1).trans rfl, (blk_cell BK590.out 2).trans rfl, (blk_cell BK590.out 3).trans rfl⟩ (fun hHeld => ?_); refine with_tabW laws_FnVisits.tab10 laws_FnVisits.bits10 (fun HT_ HW_ => ?_)
            generalize w50.drew = w64 at HO_591000 HO_591003 HO598 BK590 BK591 HB hHeld ⊢
            refine pu_ (i := 0) (N := some 46) b11_32 HT_ ?_
            refine pu_ (i := 1) (N := some 47) b11_31 HT_ ?_
            refine pu_ (i := 2) (N := some 48) b11_30 HT_ ?_
            refine pu_ (i := 3) (N := some 49) b11_29 HT_ ?_
            refine tk_ (i := 4) (N := some 50) b11_28 rfl rfl HT_ HW_ hHeld ?_
            refine pu_ (i := 5) (N := some 51) b11_27 HT_ ?_
            refine pu_ (i := 6) (N := some 52) b11_26 HT_ ?_
            refine tk_ (i := 7) (N := some 53) b11_25 rfl rfl HT_ HW_ hHeld ?_
            refine one_ (i := 8) (N := some 54) b11_24 rfl rfl (one_of HT_.out KR) (by decide) (fun K hK => ?_)
            refine goes_ Try.func31 KR rfl #[.agg #[.slice Ao25 t577.length co25, .int .i64 t580, .int .i64 t581, .slice Ao28 t582.length co28]] (by rfl) rfl rfl AR ?_
            with_reducible refine (impl_IsVisit.calls kj20 _ _ t577 t580 t581 _ _ t582 true _ ?side1 ?side2 ?side3 ?side4 A52.out).mono ?_
            (case side1 => exact CR ((Kd.S_reads' HO_591000.out).2.2))
            (case side2 => exact (Kd.S_reads' HO_591000.out).2.1)
            (case side3 => exact CR ((Kd.R_reads' HO_591003.out).2.2))
            (case side4 => exact (Kd.R_reads' HO_591003.out).2.1)
            rintro e w66 ⟨rfl, hb⟩
            refine ⟨_, rfl, ?_⟩
            replace HO_591000 := Sb HO_591000 hb
            replace HO_591003 := Rb HO_591003 hb
            replace HO598 := Rb HO598 hb
            replace BK590 := kf BK590 hb
            replace BK591 := kf BK591 hb
            replace HB := bs HB hb
            (try clear hb)
            (try clear hb2)
            (try clear hk)
            (try clear hi)
            refine hK.out _ _ ⟨(blk_cell BK591.out 0).trans rfl, (blk_cell BK591.out 1).trans rfl, (blk_cell BK591.out 2).trans rfl, (blk_cell BK591.out 3).trans rfl, (blk_cell BK590.out 0).trans rfl, (blk_cell BK590.out 1).trans rfl, (blk_cell BK590.out 2).trans rfl, (blk_cell BK590.out 3).trans rfl⟩ (fun hHeld => ?_)
            clear hK K
            refine norm_ (a' := ?_) ?_ ?_
            rotate_left
            ·show Act.put _ (some 54) _ = _
             simp only [Act.put, List.setIfInBounds_toArray, List.set_cons_zero, List.set_cons_succ, i64_w, i32_w]
             rfl
            refine pu_ (i := 9) (N := some 55) b11_23 HT_ ?_
            refine pu_ (i := 10) (N := some 56) b11_22 HT_ ?_
            refine pu_ (i := 11) (N := some 57) b11_21 HT_ ?_
            refine pu_ (i := 12) (N := some 58) b11_20 HT_ ?_
            refine pu_ (i := 13) (N := some 59) b11_19 HT_ ?_
            refine pu_ (i := 14) (N := some 60) b11_18 HT_ ?_
            refine pu_ (i := 15) (N := some 61) b11_17 HT_ ?_
            refine pu_ (i := 16) (N := some 62) b11_16 HT_ ?_
            refine pu_ (i := 17) (N := some 63) b11_15 HT_ ?_
            refine pu_ (i := 18) (N := some 64) b11_14 HT_ ?_
            refine pu_ (i := 19) (N := some 65) b11_13 HT_ ?_
            refine pu_ (i := 20) (N := some 66) b11_12 HT_ ?_
            refine pu_ (i := 21) (N := some 67) b11_11 HT_ ?_
            refine pu_ (i := 22) (N := some 68) b11_10 HT_ ?_
            refine pu_ (i := 23) (N := some 69) b11_9 HT_ ?_
            refine un_ (i := 24) (N := some 70) b11_8 HT_ ?_
            refine un_ (i := 25) (N := some 71) b11_7 HT_ ?_
            refine un_ (i := 26) (N := some 72) b11_6 HT_ ?_
            refine un_ (i := 27) (N := some 73) b11_4 HT_ ?_
            refine un_ (i := 28) (N := some 74) b11_3 HT_ ?_
            refine un_ (i := 29) (N := some 75) b11_2 HT_ ?_
            refine pu_ (i := 30) (N := some 76) b11_1 HT_ ?_
            refine pu_ (i := 31) (N := some 77) b11_0 HT_ ?_
            refine done_ (done_of HT_.out KR) ?_
            try go_wp2
            go_meet
            case rel => exact ⟨_, (false), (by first | rfl | (simp; done) | (simp [*]; done)), H', ⟨by have := HJ20.out; first | omega | exact Nat.le_refl _⟩, ⟨PS HO_591000⟩, ⟨PR HO_591003⟩, ⟨PK BK590⟩, ⟨PK BK591⟩, ⟨PB⟩⟩
         ·rw [if_neg c54] at H
          have c54b0 : decide (0 ≤ t589) = false := decide_eq_false c54
          clear c54
          by_cases c67 : ((decide ((t596.length : Int) > 0)) != false) = true
          ·rw [if_pos c67] at H
           have c67b0 : ((decide ((t596.length : Int) > 0)) != false) = true := c67
           (try (have c67b5 : ((decide (0 < t596.length)) == false) = false := by simpa using c67))
           (try (have c67b6 : decide (0 < t596.length) = true := by simpa using c67))
           (try (have c67b7 : decide (0 < t596.length) = false := by simpa using c67))
           (try (have c67b1 : decide ((decide ((t596.length : Int) > 0)) = false) = false := by simpa using c67))
           (try (have c67b2 : ((decide ((t596.length : Int) > 0)) == false) = false := by simpa using c67))
           (try (have c67b3 : ¬ ((decide ((t596.length : Int) > 0)) = false) := by simpa using c67))
           clear c67
           have H' := Aside0.mk H
           clear H
           try go_wp2
           replace HO_591000 := ak (Kd.S_drew HO_591000.out)
           replace HO_591003 := ak (Kd.R_drew HO_591003.out)
           replace HO598 := ak (Kd.R_drew HO598.out)
           replace BK590 := ak (blk_drew BK590.out)
           replace BK591 := ak (blk_drew BK591.out)
           replace HB := ak (below_drew1 HB.out)
           obtain ⟨Ao69, co69, eo69⟩ := Kd.R_slice HO598.out
           (first | subst eo69 | (injection eo69 with f1_ f2_ f3_; have f4_ := f1_.symm; have f5_ := f3_.symm; clear f1_ f2_ f3_; subst f4_; subst f5_))
           refine start_ (n := 32) (S := fun w' => w'.cell? ⟨gb591, 0, none⟩ = some (.int .i64 t585) ∧ w'.cell? ⟨gb591, 1, none⟩ = some (.int .i64 t586) ∧ w'.cell? ⟨gb591, 2, none⟩ = some (.int .i64 t587) ∧ w'.cell? ⟨gb591, 3, none⟩ = some (.int .i64 t588) ∧ w'.cell? ⟨gb590, 0, none⟩ = some (.slice Ao25 t577.length co25) ∧ w'.cell? ⟨gb590, 1, none⟩ = some (.int .i64 t580) ∧ w'.cell? ⟨gb590, 2, none⟩ = some (.int .i64 t581) ∧ w'.cell? ⟨gb590, 3, none⟩ = some (.slice Ao28 t582.length co28)) (ds := []) b11_33 KR rfl rfl ⟨(blk_cell BK591.out 0).trans rfl, (blk_cell BK591.out 1).trans rfl, (blk_cell BK591.out 2).trans rfl, (blk_cell BK591.out 3).trans rfl, (blk_cell BK590.out 0).trans rfl, (blk_cell BK590.out 1).trans rfl, (blk_cell BK590.out 2).trans rfl, (blk_cell BK590.out 3).trans rfl⟩ (fun hHeld => ?_); refine with_tabW laws_FnVisits.tab10 laws_FnVisits.bits10 (fun HT_ HW_ => ?_)
           generalize w50.drew = w68 at HO_591000 HO_591003 HO598 BK590 BK591 HB hHeld ⊢
           refine pu_ (i := 0) (N := some 46) b11_32 HT_ ?_
           refine pu_ (i := 1) (N := some 47) b11_31 HT_ ?_
           refine pu_ (i := 2) (N := some 48) b11_30 HT_ ?_
           refine pu_ (i := 3) (N := some 49) b11_29 HT_ ?_
           refine tk_ (i := 4) (N := some 50) b11_28 rfl rfl HT_ HW_ hHeld ?_
           refine pu_ (i := 5) (N := some 51) b11_27 HT_ ?_
           refine pu_ (i := 6) (N := some 52) b11_26 HT_ ?_
           refine tk_ (i := 7) (N := some 53) b11_25 rfl rfl HT_ HW_ hHeld ?_
           refine one_ (i := 8) (N := some 54) b11_24 rfl rfl (one_of HT_.out KR) (by decide) (fun K hK => ?_)
           refine goes_ Try.func31 KR rfl #[.agg #[.slice Ao25 t577.length co25, .int .i64 t580, .int .i64 t581, .slice Ao28 t582.length co28]] (by rfl) rfl rfl AR ?_
           with_reducible refine (impl_IsVisit.calls kj20 _ _ t577 t580 t581 _ _ t582 true _ ?side1 ?side2 ?side3 ?side4 A52.out).mono ?_
           (case side1 => exact CR ((Kd.S_reads' HO_591000.out).2.2))
           (case side2 => exact (Kd.S_reads' HO_591000.out).2.1)
           (case side3 => exact CR ((Kd.R_reads' HO_591003.out).2.2))
           (case side4 => exact (Kd.R_reads' HO_591003.out).2.1)
           rintro e w70 ⟨rfl, hb⟩
           refine ⟨_, rfl, ?_⟩
           replace HO_591000 := Sb HO_591000 hb
           replace HO_591003 := Rb HO_591003 hb
           replace HO598 := Rb HO598 hb
           replace BK590 := kf BK590 hb
           replace BK591 := kf BK591 hb
           replace HB := bs HB hb
           (try clear hb)
           (try clear hb2)
           (try clear hk)
           (try clear hi)
           refine hK.out _ _ ⟨(blk_cell BK591.out 0).trans rfl, (blk_cell BK591.out 1).trans rfl, (blk_cell BK591.out 2).trans rfl, (blk_cell BK591.out 3).trans rfl, (blk_cell BK590.out 0).trans rfl, (blk_cell BK590.out 1).trans rfl, (blk_cell BK590.out 2).trans rfl, (blk_cell BK590.out 3).trans rfl⟩ (fun hHeld => ?_)
           clear hK K
           refine norm_ (a' := ?_) ?_ ?_
           rotate_left
           ·show Act.put _ (some 54) _ = _
            simp only [Act.put, List.setIfInBounds_toArray, List.set_cons_zero, List.set_cons_succ, i64_w, i32_w]
            rfl
           refine pu_ (i := 9) (N := some 55) b11_23 HT_ ?_
           refine pu_ (i := 10) (N := some 56) b11_22 HT_ ?_
           refine pu_ (i := 11) (N := some 57) b11_21 HT_ ?_
           refine pu_ (i := 12) (N := some 58) b11_20 HT_ ?_
           refine pu_ (i := 13) (N := some 59) b11_19 HT_ ?_
           refine pu_ (i := 14) (N := some 60) b11_18 HT_ ?_
           refine un_ (i := 15) (N := some 61) b11_17 HT_ ?_
           refine un_ (i := 16) (N := some 62) b11_16 HT_ ?_
           refine pu_ (i := 17) (N := some 63) b11_15 HT_ ?_
           refine pu_ (i := 18) (N := some 64) b11_14 HT_ ?_
           refine pu_ (i := 19) (N := some 65) b11_13 HT_ ?_
           refine un_ (i := 20) (N := some 66) b11_12 HT_ ?_
           refine un_ (i := 21) (N := some 67) b11_11 HT_ ?_
           refine un_ (i := 22) (N := some 68) b11_10 HT_ ?_
           refine un_ (i := 23) (N := some 69) b11_9 HT_ ?_
           refine un_ (i := 24) (N := some 70) b11_8 HT_ ?_
           refine un_ (i := 25) (N := some 71) b11_7 HT_ ?_
           refine un_ (i := 26) (N := some 72) b11_6 HT_ ?_
           refine un_ (i := 27) (N := some 73) b11_4 HT_ ?_
           refine un_ (i := 28) (N := some 74) b11_3 HT_ ?_
           refine un_ (i := 29) (N := some 75) b11_2 HT_ ?_
           refine un_ (i := 30) (N := some 76) b11_1 HT_ ?_
           refine pu_ (i := 31) (N := some 77) b11_0 HT_ ?_
           refine done_ (done_of HT_.out KR) ?_
           try go_wp2
           go_meet
           case rel => exact ⟨_, (true), (by first | rfl | (simp; done) | (simp [*]; done)), H', ⟨by have := HJ20.out; first | omega | exact Nat.le_refl _⟩, ⟨PS HO_591000⟩, ⟨PR HO_591003⟩, ⟨PK BK590⟩, ⟨PK BK591⟩, ⟨PB⟩⟩
          ·rw [if_neg c67] at H
           have c67b0 : ((decide ((t596.length : Int) > 0)) != false) = false := by simpa using c67
           (try (have c67b5 : ((decide (0 < t596.length)) == false) = true := by simpa using c67))
           (try (have c67b6 : decide (0 < t596.length) = true := by simpa using c67))
           (try (have c67b7 : decide (0 < t596.length) = false := by simpa using c67))
           (try (have c67b1 : decide ((decide ((t596.length : Int) > 0)) = false) = true := by simpa using c67))
           (try (have c67b2 : ((decide ((t596.length : Int) > 0)) == false) = true := by simpa using c67))
           clear c67
           by_cases c71 : (t596.length : Int) > 0
           ·exact absurd c71 (by first | (have h_ := of_decide_eq_false c67b7; omega) | (have h_ := c67b0; simp at h_; omega))
           ·rw [if_neg c71] at H
            have c71b0 : decide (0 < (t596.length : Int)) = false := decide_eq_false c71
            have c71b1 : decide (0 < t596.length) = false := decide_eq_false (by omega)
            clear c71
            have H' := Aside0.mk H
            clear H
            try go_wp2
            replace HO_591000 := ak (Kd.S_drew HO_591000.out)
            replace HO_591003 := ak (Kd.R_drew HO_591003.out)
            replace HO598 := ak (Kd.R_drew HO598.out)
            replace BK590 := ak (blk_drew BK590.out)
            replace BK591 := ak (blk_drew BK591.out)
            replace HB := ak (below_drew1 HB.out)
            obtain ⟨Ao77, co77, eo77⟩ := Kd.R_slice HO598.out
            (first | subst eo77 | (injection eo77 with f1_ f2_ f3_; have f4_ := f1_.symm; have f5_ := f3_.symm; clear f1_ f2_ f3_; subst f4_; subst f5_))
            refine start_ (n := 32) (S := fun w' => w'.cell? ⟨gb591, 0, none⟩ = some (.int .i64 t585) ∧ w'.cell? ⟨gb591, 1, none⟩ = some (.int .i64 t586) ∧ w'.cell? ⟨gb591, 2, none⟩ = some (.int .i64 t587) ∧ w'.cell? ⟨gb591, 3, none⟩ = some (.int .i64 t588) ∧ w'.cell? ⟨gb590, 0, none⟩ = some (.slice Ao25 t577.length co25) ∧ w'.cell? ⟨gb590, 1, none⟩ = some (.int .i64 t580) ∧ w'.cell? ⟨gb590, 2, none⟩ = some (.int .i64 t581) ∧ w'.cell? ⟨gb590, 3, none⟩ = some (.slice Ao28 t582.length co28)) (ds := []) b11_33 KR rfl rfl ⟨(blk_cell BK591.out 0).trans rfl, (blk_cell BK591.out 1).trans rfl, (blk_cell BK591.out 2).trans rfl, (blk_cell BK591.out 3).trans rfl, (blk_cell BK590.out 0).trans rfl, (blk_cell BK590.out 1).trans rfl, (blk_cell BK590.out 2).trans rfl, (blk_cell BK590.out 3).trans rfl⟩ (fun hHeld => ?_); refine with_tabW laws_FnVisits.tab10 laws_FnVisits.bits10 (fun HT_ HW_ => ?_)
            generalize w50.drew = w76 at HO_591000 HO_591003 HO598 BK590 BK591 HB hHeld ⊢
            refine pu_ (i := 0) (N := some 46) b11_32 HT_ ?_
            refine pu_ (i := 1) (N := some 47) b11_31 HT_ ?_
            refine pu_ (i := 2) (N := some 48) b11_30 HT_ ?_
            refine pu_ (i := 3) (N := some 49) b11_29 HT_ ?_
            refine tk_ (i := 4) (N := some 50) b11_28 rfl rfl HT_ HW_ hHeld ?_
            refine pu_ (i := 5) (N := some 51) b11_27 HT_ ?_
            refine pu_ (i := 6) (N := some 52) b11_26 HT_ ?_
            refine tk_ (i := 7) (N := some 53) b11_25 rfl rfl HT_ HW_ hHeld ?_
            refine one_ (i := 8) (N := some 54) b11_24 rfl rfl (one_of HT_.out KR) (by decide) (fun K hK => ?_)
            refine goes_ Try.func31 KR rfl #[.agg #[.slice Ao25 t577.length co25, .int .i64 t580, .int .i64 t581, .slice Ao28 t582.length co28]] (by rfl) rfl rfl AR ?_
            with_reducible refine (impl_IsVisit.calls kj20 _ _ t577 t580 t581 _ _ t582 true _ ?side1 ?side2 ?side3 ?side4 A52.out).mono ?_
            (case side1 => exact CR ((Kd.S_reads' HO_591000.out).2.2))
            (case side2 => exact (Kd.S_reads' HO_591000.out).2.1)
            (case side3 => exact CR ((Kd.R_reads' HO_591003.out).2.2))
            (case side4 => exact (Kd.R_reads' HO_591003.out).2.1)
            rintro e w78 ⟨rfl, hb⟩
            refine ⟨_, rfl, ?_⟩
            replace HO_591000 := Sb HO_591000 hb
            replace HO_591003 := Rb HO_591003 hb
            replace HO598 := Rb HO598 hb
            replace BK590 := kf BK590 hb
            replace BK591 := kf BK591 hb
            replace HB := bs HB hb
            (try clear hb)
            (try clear hb2)
            (try clear hk)
            (try clear hi)
            refine hK.out _ _ ⟨(blk_cell BK591.out 0).trans rfl, (blk_cell BK591.out 1).trans rfl, (blk_cell BK591.out 2).trans rfl, (blk_cell BK591.out 3).trans rfl, (blk_cell BK590.out 0).trans rfl, (blk_cell BK590.out 1).trans rfl, (blk_cell BK590.out 2).trans rfl, (blk_cell BK590.out 3).trans rfl⟩ (fun hHeld => ?_)
            clear hK K
            refine norm_ (a' := ?_) ?_ ?_
            rotate_left
            ·show Act.put _ (some 54) _ = _
             simp only [Act.put, List.setIfInBounds_toArray, List.set_cons_zero, List.set_cons_succ, i64_w, i32_w]
             rfl
            refine pu_ (i := 9) (N := some 55) b11_23 HT_ ?_
            refine pu_ (i := 10) (N := some 56) b11_22 HT_ ?_
            refine pu_ (i := 11) (N := some 57) b11_21 HT_ ?_
            refine pu_ (i := 12) (N := some 58) b11_20 HT_ ?_
            refine pu_ (i := 13) (N := some 59) b11_19 HT_ ?_
            refine pu_ (i := 14) (N := some 60) b11_18 HT_ ?_
            refine un_ (i := 15) (N := some 61) b11_17 HT_ ?_
            refine un_ (i := 16) (N := some 62) b11_16 HT_ ?_
            refine pu_ (i := 17) (N := some 63) b11_15 HT_ ?_
            refine pu_ (i := 18) (N := some 64) b11_14 HT_ ?_
            refine pu_ (i := 19) (N := some 65) b11_13 HT_ ?_
            refine pu_ (i := 20) (N := some 66) b11_12 HT_ ?_
            refine pu_ (i := 21) (N := some 67) b11_11 HT_ ?_
            refine pu_ (i := 22) (N := some 68) b11_10 HT_ ?_
            refine pu_ (i := 23) (N := some 69) b11_9 HT_ ?_
            refine un_ (i := 24) (N := some 70) b11_8 HT_ ?_
            refine un_ (i := 25) (N := some 71) b11_7 HT_ ?_
            refine un_ (i := 26) (N := some 72) b11_6 HT_ ?_
            refine un_ (i := 27) (N := some 73) b11_4 HT_ ?_
            refine un_ (i := 28) (N := some 74) b11_3 HT_ ?_
            refine un_ (i := 29) (N := some 75) b11_2 HT_ ?_
            refine pu_ (i := 30) (N := some 76) b11_1 HT_ ?_
            refine pu_ (i := 31) (N := some 77) b11_0 HT_ ?_
            refine done_ (done_of HT_.out KR) ?_
            try go_wp2
            go_meet
            case rel => exact ⟨_, (false), (by first | rfl | (simp; done) | (simp [*]; done)), H', ⟨by have := HJ20.out; first | omega | exact Nat.le_refl _⟩, ⟨PS HO_591000⟩, ⟨PR HO_591003⟩, ⟨PK BK590⟩, ⟨PK BK591⟩, ⟨PB⟩⟩
        ·replace c53 := Bool.eq_false_iff.mpr c53
         subst c53
         have H1 : (if ((decide ((t596.length : Int) > 0)) != false) = true then (laws_FnVisits.j1 kj20 l0 true) else (if (t596.length : Int) > 0 then (if 0 < (t596.length : Int) then (laws_FnVisits.j1 kj20 l0 (!(((rd_T26 t596 0).f0) == t586) || (!(((rd_T26 t596 0).f1) == t587) || (!(((rd_T26 t596 0).f2) == t588))))) else (none)) else (laws_FnVisits.j1 kj20 l0 false))) = some r := by rw [if_neg (show ¬ (false = true) by decide)] at H; exact H
         clear H
         have H := H1
         clear H1
         by_cases c79 : ((decide ((t596.length : Int) > 0)) != false) = true
         ·rw [if_pos c79] at H
          have c79b0 : ((decide ((t596.length : Int) > 0)) != false) = true := c79
          (try (have c79b5 : ((decide (0 < t596.length)) == false) = false := by simpa using c79))
          (try (have c79b6 : decide (0 < t596.length) = true := by simpa using c79))
          (try (have c79b7 : decide (0 < t596.length) = false := by simpa using c79))
          (try (have c79b1 : decide ((decide ((t596.length : Int) > 0)) = false) = false := by simpa using c79))
          (try (have c79b2 : ((decide ((t596.length : Int) > 0)) == false) = false := by simpa using c79))
          (try (have c79b3 : ¬ ((decide ((t596.length : Int) > 0)) = false) := by simpa using c79))
          clear c79
          have H' := Aside0.mk H
          clear H
          try go_wp2
          replace HO_591000 := ak (Kd.S_drew HO_591000.out)
          replace HO_591003 := ak (Kd.R_drew HO_591003.out)
          replace HO598 := ak (Kd.R_drew HO598.out)
          replace BK590 := ak (blk_drew BK590.out)
          replace BK591 := ak (blk_drew BK591.out)
          replace HB := ak (below_drew1 HB.out)
          obtain ⟨Ao81, co81, eo81⟩ := Kd.R_slice HO598.out
          (first | subst eo81 | (injection eo81 with f1_ f2_ f3_; have f4_ := f1_.symm; have f5_ := f3_.symm; clear f1_ f2_ f3_; subst f4_; subst f5_))
          refine start_ (n := 32) (S := fun w' => w'.cell? ⟨gb591, 0, none⟩ = some (.int .i64 t585) ∧ w'.cell? ⟨gb591, 1, none⟩ = some (.int .i64 t586) ∧ w'.cell? ⟨gb591, 2, none⟩ = some (.int .i64 t587) ∧ w'.cell? ⟨gb591, 3, none⟩ = some (.int .i64 t588) ∧ w'.cell? ⟨gb590, 0, none⟩ = some (.slice Ao25 t577.length co25) ∧ w'.cell? ⟨gb590, 1, none⟩ = some (.int .i64 t580) ∧ w'.cell? ⟨gb590, 2, none⟩ = some (.int .i64 t581) ∧ w'.cell? ⟨gb590, 3, none⟩ = some (.slice Ao28 t582.length co28)) (ds := []) b11_33 KR rfl rfl ⟨(blk_cell BK591.out 0).trans rfl, (blk_cell BK591.out 1).trans rfl, (blk_cell BK591.out 2).trans rfl, (blk_cell BK591.out 3).trans rfl, (blk_cell BK590.out 0).trans rfl, (blk_cell BK590.out 1).trans rfl, (blk_cell BK590.out 2).trans rfl, (blk_cell BK590.out 3).trans rfl⟩ (fun hHeld => ?_); refine with_tabW laws_FnVisits.tab10 laws_FnVisits.bits10 (fun HT_ HW_ => ?_)
          generalize w50.drew = w80 at HO_591000 HO_591003 HO598 BK590 BK591 HB hHeld ⊢
          refine pu_ (i := 0) (N := some 46) b11_32 HT_ ?_
          refine pu_ (i := 1) (N := some 47) b11_31 HT_ ?_
          refine pu_ (i := 2) (N := some 48) b11_30 HT_ ?_
          refine pu_ (i := 3) (N := some 49) b11_29 HT_ ?_
          refine tk_ (i := 4) (N := some 50) b11_28 rfl rfl HT_ HW_ hHeld ?_
          refine pu_ (i := 5) (N := some 51) b11_27 HT_ ?_
          refine pu_ (i := 6) (N := some 52) b11_26 HT_ ?_
          refine tk_ (i := 7) (N := some 53) b11_25 rfl rfl HT_ HW_ hHeld ?_
          refine one_ (i := 8) (N := some 54) b11_24 rfl rfl (one_of HT_.out KR) (by decide) (fun K hK => ?_)
          refine goes_ Try.func31 KR rfl #[.agg #[.slice Ao25 t577.length co25, .int .i64 t580, .int .i64 t581, .slice Ao28 t582.length co28]] (by rfl) rfl rfl AR ?_
          with_reducible refine (impl_IsVisit.calls kj20 _ _ t577 t580 t581 _ _ t582 false _ ?side1 ?side2 ?side3 ?side4 A52.out).mono ?_
          (case side1 => exact CR ((Kd.S_reads' HO_591000.out).2.2))
          (case side2 => exact (Kd.S_reads' HO_591000.out).2.1)
          (case side3 => exact CR ((Kd.R_reads' HO_591003.out).2.2))
          (case side4 => exact (Kd.R_reads' HO_591003.out).2.1)
          rintro e w82 ⟨rfl, hb⟩
          refine ⟨_, rfl, ?_⟩
          replace HO_591000 := Sb HO_591000 hb
          replace HO_591003 := Rb HO_591003 hb
          replace HO598 := Rb HO598 hb
          replace BK590 := kf BK590 hb
          replace BK591 := kf BK591 hb
          replace HB := bs HB hb
          (try clear hb)
          (try clear hb2)
          (try clear hk)
          (try clear hi)
          refine hK.out _ _ ⟨(blk_cell BK591.out 0).trans rfl, (blk_cell BK591.out 1).trans rfl, (blk_cell BK591.out 2).trans rfl, (blk_cell BK591.out 3).trans rfl, (blk_cell BK590.out 0).trans rfl, (blk_cell BK590.out 1).trans rfl, (blk_cell BK590.out 2).trans rfl, (blk_cell BK590.out 3).trans rfl⟩ (fun hHeld => ?_)
          clear hK K
          refine norm_ (a' := ?_) ?_ ?_
          rotate_left
          ·show Act.put _ (some 54) _ = _
           simp only [Act.put, List.setIfInBounds_toArray, List.set_cons_zero, List.set_cons_succ, i64_w, i32_w]
           rfl
          refine pu_ (i := 9) (N := some 55) b11_23 HT_ ?_
          refine pu_ (i := 10) (N := some 56) b11_22 HT_ ?_
          refine un_ (i := 11) (N := some 57) b11_21 HT_ ?_
          refine un_ (i := 12) (N := some 58) b11_20 HT_ ?_
          refine pu_ (i := 13) (N := some 59) b11_19 HT_ ?_
          refine pu_ (i := 14) (N := some 60) b11_18 HT_ ?_
          refine un_ (i := 15) (N := some 61) b11_17 HT_ ?_
          refine un_ (i := 16) (N := some 62) b11_16 HT_ ?_
          refine pu_ (i := 17) (N := some 63) b11_15 HT_ ?_
          refine pu_ (i := 18) (N := some 64) b11_14 HT_ ?_
          refine pu_ (i := 19) (N := some 65) b11_13 HT_ ?_
          refine un_ (i := 20) (N := some 66) b11_12 HT_ ?_
          refine un_ (i := 21) (N := some 67) b11_11 HT_ ?_
          refine un_ (i := 22) (N := some 68) b11_10 HT_ ?_
          refine un_ (i := 23) (N := some 69) b11_9 HT_ ?_
          refine un_ (i := 24) (N := some 70) b11_8 HT_ ?_
          refine un_ (i := 25) (N := some 71) b11_7 HT_ ?_
          refine un_ (i := 26) (N := some 72) b11_6 HT_ ?_
          refine un_ (i := 27) (N := some 73) b11_4 HT_ ?_
          refine un_ (i := 28) (N := some 74) b11_3 HT_ ?_
          refine un_ (i := 29) (N := some 75) b11_2 HT_ ?_
          refine un_ (i := 30) (N := some 76) b11_1 HT_ ?_
          refine pu_ (i := 31) (N := some 77) b11_0 HT_ ?_
          refine done_ (done_of HT_.out KR) ?_
          try go_wp2
          go_meet
          case rel => exact ⟨_, (true), (by first | rfl | (simp; done) | (simp [*]; done)), H', ⟨by have := HJ20.out; first | omega | exact Nat.le_refl _⟩, ⟨PS HO_591000⟩, ⟨PR HO_591003⟩, ⟨PK BK590⟩, ⟨PK BK591⟩, ⟨PB⟩⟩
         ·rw [if_neg c79] at H
          have c79b0 : ((decide ((t596.length : Int) > 0)) != false) = false := by simpa using c79
          (try (have c79b5 : ((decide (0 < t596.length)) == false) = true := by simpa using c79))
          (try (have c79b6 : decide (0 < t596.length) = true := by simpa using c79))
          (try (have c79b7 : decide (0 < t596.length) = false := by simpa using c79))
          (try (have c79b1 : decide ((decide ((t596.length : Int) > 0)) = false) = true := by simpa using c79))
          (try (have c79b2 : ((decide ((t596.length : Int) > 0)) == false) = true := by simpa using c79))
          clear c79
          by_cases c83 : (t596.length : Int) > 0
          ·exact absurd c83 (by first | (have h_ := of_decide_eq_false c79b7; omega) | (have h_ := c79b0; simp at h_; omega))
          ·rw [if_neg c83] at H
           have c83b0 : decide (0 < (t596.length : Int)) = false := decide_eq_false c83
           have c83b1 : decide (0 < t596.length) = false := decide_eq_false (by omega)
           clear c83
           have H' := Aside0.mk H
           clear H
           try go_wp2
           replace HO_591000 := ak (Kd.S_drew HO_591000.out)
           replace HO_591003 := ak (Kd.R_drew HO_591003.out)
           replace HO598 := ak (Kd.R_drew HO598.out)
           replace BK590 := ak (blk_drew BK590.out)
           replace BK591 := ak (blk_drew BK591.out)
           replace HB := ak (below_drew1 HB.out)
           obtain ⟨Ao89, co89, eo89⟩ := Kd.R_slice HO598.out
           (first | subst eo89 | (injection eo89 with f1_ f2_ f3_; have f4_ := f1_.symm; have f5_ := f3_.symm; clear f1_ f2_ f3_; subst f4_; subst f5_))
           refine start_ (n := 32) (S := fun w' => w'.cell? ⟨gb591, 0, none⟩ = some (.int .i64 t585) ∧ w'.cell? ⟨gb591, 1, none⟩ = some (.int .i64 t586) ∧ w'.cell? ⟨gb591, 2, none⟩ = some (.int .i64 t587) ∧ w'.cell? ⟨gb591, 3, none⟩ = some (.int .i64 t588) ∧ w'.cell? ⟨gb590, 0, none⟩ = some (.slice Ao25 t577.length co25) ∧ w'.cell? ⟨gb590, 1, none⟩ = some (.int .i64 t580) ∧ w'.cell? ⟨gb590, 2, none⟩ = some (.int .i64 t581) ∧ w'.cell? ⟨gb590, 3, none⟩ = some (.slice Ao28 t582.length co28)) (ds := []) b11_33 KR rfl rfl ⟨(blk_cell BK591.out 0).trans rfl, (blk_cell BK591.out 1).trans rfl, (blk_cell BK591.out 2).trans rfl, (blk_cell BK591.out 3).trans rfl, (blk_cell BK590.out 0).trans rfl, (blk_cell BK590.out 1).trans rfl, (blk_cell BK590.out 2).trans rfl, (blk_cell BK590.out 3).trans rfl⟩ (fun hHeld => ?_); refine with_tabW laws_FnVisits.tab10 laws_FnVisits.bits10 (fun HT_ HW_ => ?_)
           generalize w50.drew = w88 at HO_591000 HO_591003 HO598 BK590 BK591 HB hHeld ⊢
           refine pu_ (i := 0) (N := some 46) b11_32 HT_ ?_
           refine pu_ (i := 1) (N := some 47) b11_31 HT_ ?_
           refine pu_ (i := 2) (N := some 48) b11_30 HT_ ?_
           refine pu_ (i := 3) (N := some 49) b11_29 HT_ ?_
           refine tk_ (i := 4) (N := some 50) b11_28 rfl rfl HT_ HW_ hHeld ?_
           refine pu_ (i := 5) (N := some 51) b11_27 HT_ ?_
           refine pu_ (i := 6) (N := some 52) b11_26 HT_ ?_
           refine tk_ (i := 7) (N := some 53) b11_25 rfl rfl HT_ HW_ hHeld ?_
           refine one_ (i := 8) (N := some 54) b11_24 rfl rfl (one_of HT_.out KR) (by decide) (fun K hK => ?_)
           refine goes_ Try.func31 KR rfl #[.agg #[.slice Ao25 t577.length co25, .int .i64 t580, .int .i64 t581, .slice Ao28 t582.length co28]] (by rfl) rfl rfl AR ?_
           with_reducible refine (impl_IsVisit.calls kj20 _ _ t577 t580 t581 _ _ t582 false _ ?side1 ?side2 ?side3 ?side4 A52.out).mono ?_
           (case side1 => exact CR ((Kd.S_reads' HO_591000.out).2.2))
           (case side2 => exact (Kd.S_reads' HO_591000.out).2.1)
           (case side3 => exact CR ((Kd.R_reads' HO_591003.out).2.2))
           (case side4 => exact (Kd.R_reads' HO_591003.out).2.1)
           rintro e w90 ⟨rfl, hb⟩
           refine ⟨_, rfl, ?_⟩
           replace HO_591000 := Sb HO_591000 hb
           replace HO_591003 := Rb HO_591003 hb
           replace HO598 := Rb HO598 hb
           replace BK590 := kf BK590 hb
           replace BK591 := kf BK591 hb
           replace HB := bs HB hb
           (try clear hb)
           (try clear hb2)
           (try clear hk)
           (try clear hi)
           refine hK.out _ _ ⟨(blk_cell BK591.out 0).trans rfl, (blk_cell BK591.out 1).trans rfl, (blk_cell BK591.out 2).trans rfl, (blk_cell BK591.out 3).trans rfl, (blk_cell BK590.out 0).trans rfl, (blk_cell BK590.out 1).trans rfl, (blk_cell BK590.out 2).trans rfl, (blk_cell BK590.out 3).trans rfl⟩ (fun hHeld => ?_)
           clear hK K
           refine norm_ (a' := ?_) ?_ ?_
           rotate_left
           ·show Act.put _ (some 54) _ = _
            simp only [Act.put, List.setIfInBounds_toArray, List.set_cons_zero, List.set_cons_succ, i64_w, i32_w]
            rfl
           refine pu_ (i := 9) (N := some 55) b11_23 HT_ ?_
           refine pu_ (i := 10) (N := some 56) b11_22 HT_ ?_
           refine un_ (i := 11) (N := some 57) b11_21 HT_ ?_
           refine un_ (i := 12) (N := some 58) b11_20 HT_ ?_
           refine pu_ (i := 13) (N := some 59) b11_19 HT_ ?_
           refine pu_ (i := 14) (N := some 60) b11_18 HT_ ?_
           refine un_ (i := 15) (N := some 61) b11_17 HT_ ?_
           refine un_ (i := 16) (N := some 62) b11_16 HT_ ?_
           refine pu_ (i := 17) (N := some 63) b11_15 HT_ ?_
           refine pu_ (i := 18) (N := some 64) b11_14 HT_ ?_
           refine pu_ (i := 19) (N := some 65) b11_13 HT_ ?_
           refine pu_ (i := 20) (N := some 66) b11_12 HT_ ?_
           refine pu_ (i := 21) (N := some 67) b11_11 HT_ ?_
           refine pu_ (i := 22) (N := some 68) b11_10 HT_ ?_
           refine pu_ (i := 23) (N := some 69) b11_9 HT_ ?_
           refine un_ (i := 24) (N := some 70) b11_8 HT_ ?_
           refine un_ (i := 25) (N := some 71) b11_7 HT_ ?_
           refine un_ (i := 26) (N := some 72) b11_6 HT_ ?_
           refine un_ (i := 27) (N := some 73) b11_4 HT_ ?_
           refine un_ (i := 28) (N := some 74) b11_3 HT_ ?_
           refine un_ (i := 29) (N := some 75) b11_2 HT_ ?_
           refine pu_ (i := 30) (N := some 76) b11_1 HT_ ?_
           refine pu_ (i := 31) (N := some 77) b11_0 HT_ ?_
           refine done_ (done_of HT_.out KR) ?_
           try go_wp2
           go_meet
           case rel => exact ⟨_, (false), (by first | rfl | (simp; done) | (simp [*]; done)), H', ⟨by have := HJ20.out; first | omega | exact Nat.le_refl _⟩, ⟨PS HO_591000⟩, ⟨PR HO_591003⟩, ⟨PK BK590⟩, ⟨PK BK591⟩, ⟨PB⟩⟩
       ·rw [if_neg c51] at H
        have c51b0 : (t585 == 1) = false := beq_eq_false_iff_ne.mpr c51
        have c51b1 : (t585 != 1) = true := bne_iff_ne.mpr c51
        (first | rw [c51b0] | (simp only [i64_w, i32_w]; rw [c51b0]) | skip)
        by_cases c91 : ((decide ((t596.length : Int) > 0)) != false) = true
        ·rw [if_pos c91] at H
         have c91b0 : ((decide ((t596.length : Int) > 0)) != false) = true := c91
         (try (have c91b5 : ((decide (0 < t596.length)) == false) = false := by simpa using c91))
         (try (have c91b6 : decide (0 < t596.length) = true := by simpa using c91))
         (try (have c91b7 : decide (0 < t596.length) = false := by simpa using c91))
         (try (have c91b1 : decide ((decide ((t596.length : Int) > 0)) = false) = false := by simpa using c91))
         (try (have c91b2 : ((decide ((t596.length : Int) > 0)) == false) = false := by simpa using c91))
         (try (have c91b3 : ¬ ((decide ((t596.length : Int) > 0)) = false) := by simpa using c91))
         clear c91
         have H' := Aside0.mk H
         clear H
         try go_wp2
         replace HO_591000 := ak (Kd.S_drew HO_591000.out)
         replace HO_591003 := ak (Kd.R_drew HO_591003.out)
         replace HO598 := ak (Kd.R_drew HO598.out)
         replace BK590 := ak (blk_drew BK590.out)
         replace BK591 := ak (blk_drew BK591.out)
         replace HB := ak (below_drew1 HB.out)
         obtain ⟨Ao93, co93, eo93⟩ := Kd.R_slice HO598.out
         (first | subst eo93 | (injection eo93 with f1_ f2_ f3_; have f4_ := f1_.symm; have f5_ := f3_.symm; clear f1_ f2_ f3_; subst f4_; subst f5_))
         refine start_ (n := 32) (S := fun w' => w'.cell? ⟨gb591, 0, none⟩ = some (.int .i64 t585) ∧ w'.cell? ⟨gb591, 1, none⟩ = some (.int .i64 t586) ∧ w'.cell? ⟨gb591, 2, none⟩ = some (.int .i64 t587) ∧ w'.cell? ⟨gb591, 3, none⟩ = some (.int .i64 t588)) (ds := []) b11_33 KR rfl rfl ⟨(blk_cell BK591.out 0).trans rfl, (blk_cell BK591.out 1).trans rfl, (blk_cell BK591.out 2).trans rfl, (blk_cell BK591.out 3).trans rfl⟩ (fun hHeld => ?_); refine with_tabW laws_FnVisits.tab10 laws_FnVisits.bits10 (fun HT_ HW_ => ?_)
         generalize w50.drew = w92 at HO_591000 HO_591003 HO598 BK590 BK591 HB hHeld ⊢
         refine pu_ (i := 0) (N := some 46) b11_32 HT_ ?_
         refine pu_ (i := 1) (N := some 47) b11_31 HT_ ?_
         refine pu_ (i := 2) (N := some 48) b11_30 HT_ ?_
         refine pu_ (i := 3) (N := some 49) b11_29 HT_ ?_
         refine tk_ (i := 4) (N := some 50) b11_28 rfl rfl HT_ HW_ hHeld ?_
         refine pu_ (i := 5) (N := some 51) b11_27 HT_ ?_
         refine pu_ (i := 6) (N := some 52) b11_26 HT_ ?_
         refine un_ (i := 7) (N := some 53) b11_25 HT_ ?_
         refine un_ (i := 8) (N := some 54) b11_24 HT_ ?_
         refine pu_ (i := 9) (N := some 55) b11_23 HT_ ?_
         refine pu_ (i := 10) (N := some 56) b11_22 HT_ ?_
         refine un_ (i := 11) (N := some 57) b11_21 HT_ ?_
         refine un_ (i := 12) (N := some 58) b11_20 HT_ ?_
         refine pu_ (i := 13) (N := some 59) b11_19 HT_ ?_
         refine pu_ (i := 14) (N := some 60) b11_18 HT_ ?_
         refine un_ (i := 15) (N := some 61) b11_17 HT_ ?_
         refine un_ (i := 16) (N := some 62) b11_16 HT_ ?_
         refine pu_ (i := 17) (N := some 63) b11_15 HT_ ?_
         refine pu_ (i := 18) (N := some 64) b11_14 HT_ ?_
         refine pu_ (i := 19) (N := some 65) b11_13 HT_ ?_
         refine un_ (i := 20) (N := some 66) b11_12 HT_ ?_
         refine un_ (i := 21) (N := some 67) b11_11 HT_ ?_
         refine un_ (i := 22) (N := some 68) b11_10 HT_ ?_
         refine un_ (i := 23) (N := some 69) b11_9 HT_ ?_
         refine un_ (i := 24) (N := some 70) b11_8 HT_ ?_
         refine un_ (i := 25) (N := some 71) b11_7 HT_ ?_
         refine un_ (i := 26) (N := some 72) b11_6 HT_ ?_
         refine un_ (i := 27) (N := some 73) b11_4 HT_ ?_
         refine un_ (i := 28) (N := some 74) b11_3 HT_ ?_
         refine un_ (i := 29) (N := some 75) b11_2 HT_ ?_
         refine un_ (i := 30) (N := some 76) b11_1 HT_ ?_
         refine pu_ (i := 31) (N := some 77) b11_0 HT_ ?_
         refine done_ (done_of HT_.out KR) ?_
         try go_wp2
         go_meet
         case rel => exact ⟨_, (true), (by first | rfl | (simp; done) | (simp [*]; done)), H', ⟨by have := HJ20.out; first | omega | exact Nat.le_refl _⟩, ⟨PS HO_591000⟩, ⟨PR HO_591003⟩, ⟨PK BK590⟩, ⟨PK BK591⟩, ⟨PB⟩⟩
        ·rw [if_neg c91] at H
         have c91b0 : ((decide ((t596.length : Int) > 0)) != false) = false := by simpa using c91
         (try (have c91b5 : ((decide (0 < t596.length)) == false) = true := by simpa using c91))
         (try (have c91b6 : decide (0 < t596.length) = true := by simpa using c91))
         (try (have c91b7 : decide (0 < t596.length) = false := by simpa using c91))
         (try (have c91b1 : decide ((decide ((t596.length : Int) > 0)) = false) = true := by simpa using c91))
         (try (have c91b2 : ((decide ((t596.length : Int) > 0)) == false) = true := by simpa using c91))
         clear c91
         by_cases c94 : (t596.length : Int) > 0
         ·exact absurd c94 (by first | (have h_ := of_decide_eq_false c91b7; omega) | (have h_ := c91b0; simp at h_; omega))
         ·rw [if_neg c94] at H
          have c94b0 : decide (0 < (t596.length : Int)) = false := decide_eq_false c94
          have c94b1 : decide (0 < t596.length) = false := decide_eq_false (by omega)
          clear c94
          have H' := Aside0.mk H
          clear H
          try go_wp2
          replace HO_591000 := ak (Kd.S_drew HO_591000.out)
          replace HO_591003 := ak (Kd.R_drew HO_591003.out)
          replace HO598 := ak (Kd.R_drew HO598.out)
          replace BK590 := ak (blk_drew BK590.out)
          replace BK591 := ak (blk_drew BK591.out)
          replace HB := ak (below_drew1 HB.out)
          obtain ⟨Ao99, co99, eo99⟩ := Kd.R_slice HO598.out
          (first | subst eo99 | (injection eo99 with f1_ f2_ f3_; have f4_ := f1_.symm; have f5_ := f3_.symm; clear f1_ f2_ f3_; subst f4_; subst f5_))
          refine start_ (n := 32) (S := fun w' => w'.cell? ⟨gb591, 0, none⟩ = some (.int .i64 t585) ∧ w'.cell? ⟨gb591, 1, none⟩ = some (.int .i64 t586) ∧ w'.cell? ⟨gb591, 2, none⟩ = some (.int .i64 t587) ∧ w'.cell? ⟨gb591, 3, none⟩ = some (.int .i64 t588)) (ds := []) b11_33 KR rfl rfl ⟨(blk_cell BK591.out 0).trans rfl, (blk_cell BK591.out 1).trans rfl, (blk_cell BK591.out 2).trans rfl, (blk_cell BK591.out 3).trans rfl⟩ (fun hHeld => ?_); refine with_tabW laws_FnVisits.tab10 laws_FnVisits.bits10 (fun HT_ HW_ => ?_)
          generalize w50.drew = w98 at HO_591000 HO_591003 HO598 BK590 BK591 HB hHeld ⊢
          refine pu_ (i := 0) (N := some 46) b11_32 HT_ ?_
          refine pu_ (i := 1) (N := some 47) b11_31 HT_ ?_
          refine pu_ (i := 2) (N := some 48) b11_30 HT_ ?_
          refine pu_ (i := 3) (N := some 49) b11_29 HT_ ?_
          refine tk_ (i := 4) (N := some 50) b11_28 rfl rfl HT_ HW_ hHeld ?_
          refine pu_ (i := 5) (N := some 51) b11_27 HT_ ?_
          refine pu_ (i := 6) (N := some 52) b11_26 HT_ ?_
          refine un_ (i := 7) (N := some 53) b11_25 HT_ ?_
          refine un_ (i := 8) (N := some 54) b11_24 HT_ ?_
          refine pu_ (i := 9) (N := some 55) b11_23 HT_ ?_
          refine pu_ (i := 10) (N := some 56) b11_22 HT_ ?_
          refine un_ (i := 11) (N := some 57) b11_21 HT_ ?_
          refine un_ (i := 12) (N := some 58) b11_20 HT_ ?_
          refine pu_ (i := 13) (N := some 59) b11_19 HT_ ?_
          refine pu_ (i := 14) (N := some 60) b11_18 HT_ ?_
          refine un_ (i := 15) (N := some 61) b11_17 HT_ ?_
          refine un_ (i := 16) (N := some 62) b11_16 HT_ ?_
          refine pu_ (i := 17) (N := some 63) b11_15 HT_ ?_
          refine pu_ (i := 18) (N := some 64) b11_14 HT_ ?_
          refine pu_ (i := 19) (N := some 65) b11_13 HT_ ?_
          refine pu_ (i := 20) (N := some 66) b11_12 HT_ ?_
          refine pu_ (i := 21) (N := some 67) b11_11 HT_ ?_
          refine pu_ (i := 22) (N := some 68) b11_10 HT_ ?_
          refine pu_ (i := 23) (N := some 69) b11_9 HT_ ?_
          refine un_ (i := 24) (N := some 70) b11_8 HT_ ?_
          refine un_ (i := 25) (N := some 71) b11_7 HT_ ?_
          refine un_ (i := 26) (N := some 72) b11_6 HT_ ?_
          refine un_ (i := 27) (N := some 73) b11_4 HT_ ?_
          refine un_ (i := 28) (N := some 74) b11_3 HT_ ?_
          refine un_ (i := 29) (N := some 75) b11_2 HT_ ?_
          refine pu_ (i := 30) (N := some 76) b11_1 HT_ ?_
          refine pu_ (i := 31) (N := some 77) b11_0 HT_ ?_
          refine done_ (done_of HT_.out KR) ?_
          try go_wp2
          go_meet
          case rel => exact ⟨_, (false), (by first | rfl | (simp; done) | (simp [*]; done)), H', ⟨by have := HJ20.out; first | omega | exact Nat.le_refl _⟩, ⟨PS HO_591000⟩, ⟨PR HO_591003⟩, ⟨PK BK590⟩, ⟨PK BK591⟩, ⟨PB⟩⟩
      case rest =>
       clear HC46
       (try clear p2); (try clear p6); (try clear q6); (try clear hx6); (try clear qi6); (try clear c9); (try clear p60); (try clear q60); (try clear hx60); (try clear qi60); (try clear c91); (try clear c91b0); (try clear c91b1); (try clear c91b2); (try clear c94); (try clear c94b0); (try clear c94b1); (try clear c95); (try clear c95b0); (try clear c95b1); (try clear hx603_0); (try clear hx603_1); (try clear hx603_2); (try clear p603); (try clear q603)
       obtain ⟨kq, x77_45, rfl, HA, HJ45, HO_591000, HO_591003, BK590, BK591, HB⟩ := hcut
       cases kq with
       | zero => exact absurd HA.out (by simp [laws_FnVisits.j1])
       | succ kj45 =>
        have H := HA.out
        clear HA
        simp only [laws_FnVisits.j1] at H
        by_cases c100 : x77_45 = true
        ·subst c100
         have H1 : (some false) = some r := by rw [if_pos rfl] at H; exact H
         clear H
         have H := H1
         clear H1
         cases (Option.some.inj H).trans hT_
        ·replace c100 := Bool.eq_false_iff.mpr c100
         subst c100
         have H1 : ((spec_DrawValueOfResource.f kj45 l0).bind fun bt604 => ((impl_ValueOfResource.f kj45 bt604.1 bt604.2.1 bt604.2.2.1 bt604.2.2.2.1 bt604.2.2.2.2).bind fun t612 => (if t612 ≥ 0 then (if t612 ≤ 999 then ((impl_IsResource.f kj45 bt604.1 bt604.2.1 bt604.2.2.1 bt604.2.2.2.1 bt604.2.2.2.2).bind fun t613 => (if t613 = true then (some ((decide (t612 > 0)) == (decide (bt604.1 ≤ 2)))) else (some ((decide (t612 > 0)) == false)))) else (some false)) else (some false)))) = some r := by rw [if_neg (show ¬ (false = true) by decide)] at H; exact H
         clear H
         have H := H1
         clear H1
         replace H := Option.bind_eq_some_iff.mp H
         obtain ⟨⟨t604, t605, t608, t609, t610⟩, A1010, H⟩ := H
         replace H : ((impl_ValueOfResource.f kj45 t604 t605 t608 t609 t610).bind fun t612 => (if t612 ≥ 0 then (if t612 ≤ 999 then ((impl_IsResource.f kj45 t604 t605 t608 t609 t610).bind fun t613 => (if t613 = true then (some ((decide (t612 > 0)) == (decide (t604 ≤ 2)))) else (some ((decide (t612 > 0)) == false)))) else (some false)) else (some false))) = some r := H
         have A101 := Aside0.mk A1010
         clear A1010
         replace H := Option.bind_eq_some_iff.mp H
         obtain ⟨t612, A1020, H⟩ := H
         replace H : (if t612 ≥ 0 then (if t612 ≤ 999 then ((impl_IsResource.f kj45 t604 t605 t608 t609 t610).bind fun t613 => (if t613 = true then (some ((decide (t612 > 0)) == (decide (t604 ≤ 2)))) else (some ((decide (t612 > 0)) == false)))) else (some false)) else (some false)) = some r := H
         have A102 := Aside0.mk A1020
         clear A1020
         by_cases c103 : t612 ≥ 0
         ·rw [if_pos c103] at H
          have c103b0 : decide (0 ≤ t612) = true := decide_eq_true c103
          clear c103
          by_cases c104 : t612 ≤ 999
          ·rw [if_pos c104] at H
           have c104b0 : decide (t612 ≤ 999) = true := decide_eq_true c104
           clear c104
           replace H := Option.bind_eq_some_iff.mp H
           obtain ⟨t613, A1050, H⟩ := H
           replace H : (if t613 = true then (some ((decide (t612 > 0)) == (decide (t604 ≤ 2)))) else (some ((decide (t612 > 0)) == false))) = some r := H
           have A105 := Aside0.mk A1050
           clear A1050
           by_cases c106 : t613 = true
           ·subst c106
            have H1 : (some ((decide (t612 > 0)) == (decide (t604 ≤ 2)))) = some r := by rw [if_pos rfl] at H; exact H
            clear H
            have H := H1
            clear H1
            obtain rfl := Option.some.inj H
            go_wp2_with (first | ((with_reducible refine gate_callee (f := 34) rfl ?_); refine goesL_ (some 79) rfl rfl Try.func34 KR rfl #[.slice A0 l0.length c0] rfl AR ?_; (with_reducible refine (spec_DrawValueOfResource.calls kj45 _ _ l0 t604 t605 t608 t609 t610 _ ?side1 ?side2 A101.out).mono ?_); (case side1 => exact CR (Kd.C_below HR0.out HB.out)); (case side2 => exact HC0.out); rintro e w107 ⟨v606, rfl, ho0, hb⟩; refine ⟨_, rfl, ?_⟩; replace HO_591000 := ak (Kd.S_elder' (PS HO_591000) (Kd.R_base ho0) hb); have HO607 := Rn1 ho0 HB HO_591003; replace HO_591003 := ak (Kd.R_elder' (PR HO_591003) (Kd.R_base ho0) hb); replace BK590 := kf BK590 hb; replace BK591 := kf BK591 hb; replace HB := bs HB hb; (try clear hb); (try clear hb2); (try clear hk); (try clear hi); (try clear ho0)) | ((with_reducible refine gate_dst (N := 8) rfl ?_); (try (refine gate_guard (by rfl) ?_; dsimp only)); refine bx_ (N := 8) #[.int .i64 0, .slice none 0 0, .int .i64 0, .int .i64 0, .int .i64 0] 38 ?_; intro gb611 hg w108 hbox hb; replace HO_591000 := Sb HO_591000 hb; replace HO_591003 := Rb HO_591003 hb; replace HO607 := Rb HO607 hb; have BK611 := ak hbox; have GW611 := gy hg HB; have GE611 := gy hg HB; replace HB := bs HB hb; have NB590_611 := gm hg BK590; have NB611_590 := gn hg BK590; replace BK590 := kf BK590 hb; have NB591_611 := gm hg BK591; have NB611_591 := gn hg BK591; replace BK591 := kf BK591 hb; clear hb hbox hg; have hnb109 := NB611_590.out; have hnc109 := NB590_611.out; have hnb110 := NB611_591.out; have hnc110 := NB591_611.out; obtain ⟨_, _, _, _, _, _, _, _, _, _⟩ := bc5 BK611; obtain ⟨Ao112, co112, eo112⟩ := Kd.R_slice HO607.out; subst eo112) | ((with_reducible refine gate_callee (f := 35) rfl ?_); refine goesL_ (some 81) rfl rfl Try.func35 KR rfl #[.agg #[.int .i64 t604, .slice Ao112 t605.length co112, .int .i64 t608, .int .i64 t609, .int .i64 t610]] rfl AR ?_; (with_reducible refine (impl_ValueOfResource.calls kj45 t604 _ _ t605 t608 t609 t610 t612 _ ?side1 ?side2 A102.out).mono ?_); (case side1 => exact (Kd.R_reads' (Re1 HO607 BK611)).2.2); (case side2 => exact (Kd.R_reads' HO607.out).2.1); rintro e w113 ⟨rfl, hb⟩; refine ⟨_, rfl, ?_⟩; replace HO_591000 := ak (Kd.S_below (Se1 HO_591000 BK611) hb); replace HO_591003 := ak (Kd.R_below (Re1 HO_591003 BK611) hb); replace HO607 := ak (Kd.R_below (Re1 HO607 BK611) hb); replace BK590 := kf BK590 hb; replace BK591 := kf BK591 hb; replace BK611 := kp (cs' := #[.int .i64 t604, .slice Ao112 t605.length co112, .int .i64 t608, .int .i64 t609, .int .i64 t610]) BK611 hb; replace HB := bs HB hb; (try clear hb); (try clear hb2); (try clear hk); (try clear hi); obtain ⟨_, _, _, _, _, _, _, _, _, _⟩ := bc5 BK611) | (go_at_call 36; (with_reducible refine (impl_IsResource.calls kj45 t604 _ _ t605 t608 t609 t610 true _ ?side1 ?side2 A105.out).mono ?_); (case side1 => exact CR ((Kd.R_reads' HO607.out).2.2)); (case side2 => exact (Kd.R_reads' HO607.out).2.1); rintro e w115 ⟨rfl, hb⟩; replace HO_591000 := Sb HO_591000 hb; replace HO_591003 := Rb HO_591003 hb; replace HO607 := Rb HO607 hb; replace BK590 := kf BK590 hb; replace BK591 := kf BK591 hb; replace BK611 := kf BK611 hb; replace HB := bs HB hb; (try clear hb); (try clear hb2); (try clear hk); (try clear hi); obtain ⟨_, _, _, _, _, _, _, _, _, _⟩ := bc5 BK611))
            go_ret
            exact ⟨RT, PB⟩
           ·replace c106 := Bool.eq_false_iff.mpr c106
            subst c106
            have H1 : (some ((decide (t612 > 0)) == false)) = some r := by rw [if_neg (show ¬ (false = true) by decide)] at H; exact H
            clear H
            have H := H1
            clear H1
            obtain rfl := Option.some.inj H
            go_wp2_with (first | ((with_reducible refine gate_callee (f := 34) rfl ?_); refine goesL_ (some 79) rfl rfl Try.func34 KR rfl #[.slice A0 l0.length c0] rfl AR ?_; (with_reducible refine (spec_DrawValueOfResource.calls kj45 _ _ l0 t604 t605 t608 t609 t610 _ ?side1 ?side2 A101.out).mono ?_); (case side1 => exact CR (Kd.C_below HR0.out HB.out)); (case side2 => exact HC0.out); rintro e w117 ⟨v606, rfl, ho0, hb⟩; refine ⟨_, rfl, ?_⟩; replace HO_591000 := ak (Kd.S_elder' (PS HO_591000) (Kd.R_base ho0) hb); have HO607 := Rn1 ho0 HB HO_591003; replace HO_591003 := ak (Kd.R_elder' (PR HO_591003) (Kd.R_base ho0) hb); replace BK590 := kf BK590 hb; replace BK591 := kf BK591 hb; replace HB := bs HB hb; (try clear hb); (try clear hb2); (try clear hk); (try clear hi); (try clear ho0)) | ((with_reducible refine gate_dst (N := 8) rfl ?_); (try (refine gate_guard (by rfl) ?_; dsimp only)); refine bx_ (N := 8) #[.int .i64 0, .slice none 0 0, .int .i64 0, .int .i64 0, .int .i64 0] 38 ?_; intro gb611 hg w118 hbox hb; replace HO_591000 := Sb HO_591000 hb; replace HO_591003 := Rb HO_591003 hb; replace HO607 := Rb HO607 hb; have BK611 := ak hbox; have GW611 := gy hg HB; have GE611 := gy hg HB; replace HB := bs HB hb; have NB590_611 := gm hg BK590; have NB611_590 := gn hg BK590; replace BK590 := kf BK590 hb; have NB591_611 := gm hg BK591; have NB611_591 := gn hg BK591; replace BK591 := kf BK591 hb; clear hb hbox hg; have hnb119 := NB611_590.out; have hnc119 := NB590_611.out; have hnb120 := NB611_591.out; have hnc120 := NB591_611.out; obtain ⟨_, _, _, _, _, _, _, _, _, _⟩ := bc5 BK611; obtain ⟨Ao122, co122, eo122⟩ := Kd.R_slice HO607.out; subst eo122) | ((with_reducible refine gate_callee (f := 35) rfl ?_); refine goesL_ (some 81) rfl rfl Try.func35 KR rfl #[.agg #[.int .i64 t604, .slice Ao122 t605.length co122, .int .i64 t608, .int .i64 t609, .int .i64 t610]] rfl AR ?_; (with_reducible refine (impl_ValueOfResource.calls kj45 t604 _ _ t605 t608 t609 t610 t612 _ ?side1 ?side2 A102.out).mono ?_); (case side1 => exact (Kd.R_reads' (Re1 HO607 BK611)).2.2); (case side2 => exact (Kd.R_reads' HO607.out).2.1); rintro e w123 ⟨rfl, hb⟩; refine ⟨_, rfl, ?_⟩; replace HO_591000 := ak (Kd.S_below (Se1 HO_591000 BK611) hb); replace HO_591003 := ak (Kd.R_below (Re1 HO_591003 BK611) hb); replace HO607 := ak (Kd.R_below (Re1 HO607 BK611) hb); replace BK590 := kf BK590 hb; replace BK591 := kf BK591 hb; replace BK611 := kp (cs' := #[.int .i64 t604, .slice Ao122 t605.length co122, .int .i64 t608, .int .i64 t609, .int .i64 t610]) BK611 hb; replace HB := bs HB hb; (try clear hb); (try clear hb2); (try clear hk); (try clear hi); obtain ⟨_, _, _, _, _, _, _, _, _, _⟩ := bc5 BK611) | (go_at_call 36; (with_reducible refine (impl_IsResource.calls kj45 t604 _ _ t605 t608 t609 t610 false _ ?side1 ?side2 A105.out).mono ?_); (case side1 => exact CR ((Kd.R_reads' HO607.out).2.2)); (case side2 => exact (Kd.R_reads' HO607.out).2.1); rintro e w125 ⟨rfl, hb⟩; replace HO_591000 := Sb HO_591000 hb; replace HO_591003 := Rb HO_591003 hb; replace HO607 := Rb HO607 hb; replace BK590 := kf BK590 hb; replace BK591 := kf BK591 hb; replace BK611 := kf BK611 hb; replace HB := bs HB hb; (try clear hb); (try clear hb2); (try clear hk); (try clear hi)))
            go_ret
            exact ⟨RT, PB⟩
          ·rw [if_neg c104] at H
           have c104b0 : decide (t612 ≤ 999) = false := decide_eq_false c104
           clear c104
           cases (Option.some.inj H).trans hT_
         ·rw [if_neg c103] at H
          have c103b0 : decide (0 ≤ t612) = false := decide_eq_false c103
          clear c103
          cases (Option.some.inj H).trans hT_
/-- THE ONE PURE STATEMENT of laws_FnVisits: yours. -/
def laws_FnVisits.Pure : Prop := ∀ (l0 : List Int), l0.length ≤ maxLen → l0.length * 1 ≤ 140737488351232 → (∀ x ∈ l0, (Lit.int .u8 x).wf = true) → ∃ k, laws_FnVisits.f k l0 = some true
theorem laws_FnVisits.walk (P : laws_FnVisits.Pure) (a0 : Option Addr) (len0 cap0 : Nat) (z0 : List Int) (w : World) (w0 : (a0 = none ∧ len0 = 0 ∧ cap0 = 0 ∧ z0 = []) ∨ ∃ x, a0 = some x ∧ len0 ≤ cap0 ∧ cap0 ≤ maxLen ∧ z0.length = cap0 ∧ (∀ i, i < z0.length → w.cell? (x.add i) = some (.int .u8 (z0.getD i 0))) ∧ ∀ n ∈ z0, (Lit.int .u8 n).wf = true) (y0 : len0 * 1 ≤ 140737488351232) :
    Calls Try.prog 5 #[.slice a0 len0 cap0] w fun e w' => e = .returned (.bool true) ∧ Below w.heap.size w w' := by
  obtain ⟨l0, rfl, hr0, hm0, hw0, hc0⟩ := ReadsInt.ofRowC w0
  obtain ⟨k, h⟩ := P l0 hm0 y0 hw0
  refine (laws_FnVisits.calls k _ _ l0 true w (Kd.C_of_reads (d := (0 : Int)) (h1 := fun _ => rfl) hr0) hc0 rfl h).mono ?_
  rintro e w' ⟨rfl, hd⟩
  exact ⟨rfl, hd⟩

end Go.Proofs.Ytgcamebeonodeaa.MFnVisits
