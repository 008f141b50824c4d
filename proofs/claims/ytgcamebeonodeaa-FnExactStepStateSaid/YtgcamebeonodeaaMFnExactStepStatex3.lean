-- Written by a program of this session out of the translation's own print. Not trusted: Lean checks it.
import Derived.Test.YtgcamebeonodeaaShr2
import Derived.Test.YtgcamebeonodeaaMFnExactStepStatex0
import Derived.Test.YtgcamebeonodeaaMFnExactStepStatex1
import Derived.Test.YtgcamebeonodeaaMFnExactStepStatex2
namespace Go.Proofs.Ytgcamebeonodeaa.MFnExactStepState
open Go.RowKit Go.Proofs.YtgcamebeonodeaaW.PrintWords Go.Proofs.YtgcamebeonodeaaW.PrintLast Go.Proofs.YtgcamebeonodeaaW.PrintMore
attribute [local go_sem] max2_int min2_int max_two min_two max_three min_three max_four min_four   -- for this text's walks alone
set_option linter.unusedVariables false
set_option linter.unusedSimpArgs false

abbrev b3_0 : Array Bool := mkB 12 4095
abbrev b3_1 : Array Bool := mkB 12 2047
abbrev b3_2 : Array Bool := mkB 12 1023
abbrev b3_3 : Array Bool := mkB 12 511
abbrev b3_4 : Array Bool := mkB 12 255
abbrev b3_5 : Array Bool := mkB 12 127
abbrev b3_6 : Array Bool := mkB 12 95
abbrev b3_7 : Array Bool := mkB 12 87
abbrev b3_8 : Array Bool := mkB 12 85
abbrev b3_9 : Array Bool := mkB 12 21
abbrev b3_10 : Array Bool := mkB 12 5
abbrev b3_11 : Array Bool := mkB 12 1
abbrev b3_12 : Array Bool := #[false, false, false, false, false, false, false, false, false, false, false, false]
/-! ### impl_StepState: function 20 -/
def impl_StepState.f (k : Nat) (l0 : List (S121)) (a1_0 : Int) (l1_1 : List Int) (l1_2 : List Int) (l1_3 : List Int) (a2 : Int) : Option (Int × List Int × List Int × List Int) := (impl_copyState.f a1_0 l1_1 l1_2 l1_3).bind fun bt146 => ((impl_canStep.f k l0 a1_0 l1_1 l1_2 l1_3).bind fun t157 => (if t157 = true then (if 0 ≤ a1_0 then (if a1_0 < (l0.length : Int) then (if ((rd_T121 l0 a1_0).f0) = 5 then (if 0 ≤ ((rd_T121 l0 a1_0).f2) then (if ((rd_T121 l0 a1_0).f2) < (l1_1.length : Int) then (if 0 ≤ ((rd_T121 l0 a1_0).f3) then (if ((rd_T121 l0 a1_0).f3) < (l1_1.length : Int) then (if 0 ≤ ((rd_T121 l0 a1_0).f1) then (if ((rd_T121 l0 a1_0).f1) < (bt146.2.1.length : Int) then (some (wrap64 (bt146.1 + 1), (bt146.2.1.set (((rd_T121 l0 a1_0).f1) : Int).toNat (Int.tmod (wrap64 ((rd l1_1 ((rd_T121 l0 a1_0).f2)) + (rd l1_1 ((rd_T121 l0 a1_0).f3)))) 1000)), bt146.2.2.1, bt146.2.2.2)) else (none)) else (none)) else (none)) else (none)) else (none)) else (none)) else (if ((rd_T121 l0 a1_0).f0) = 6 then (if 0 ≤ ((rd_T121 l0 a1_0).f1) then (if ((rd_T121 l0 a1_0).f1) < (l1_1.length : Int) then (if 0 ≤ ((rd_T121 l0 a1_0).f2) then (if ((rd_T121 l0 a1_0).f2) < (bt146.2.2.2.length : Int) then (some (wrap64 (bt146.1 + 1), bt146.2.1, bt146.2.2.1, (bt146.2.2.2.set (((rd_T121 l0 a1_0).f2) : Int).toNat (rd l1_1 ((rd_T121 l0 a1_0).f1))))) else (none)) else (none)) else (none)) else (none)) else (if ((rd_T121 l0 a1_0).f0) = 7 then (if 0 ≤ ((rd_T121 l0 a1_0).f1) then (if ((rd_T121 l0 a1_0).f1) < (l1_1.length : Int) then (if (Int.tmod (rd l1_1 ((rd_T121 l0 a1_0).f1)) 2) = 0 then (some (wrap64 ((wrap64 (bt146.1 + 1)) + ((rd_T121 l0 a1_0).f2)), bt146.2.1, bt146.2.2.1, bt146.2.2.2)) else (some (wrap64 (bt146.1 + 1), bt146.2.1, bt146.2.2.1, bt146.2.2.2))) else (none)) else (none)) else (if ((rd_T121 l0 a1_0).f0) = 8 then (if 0 ≤ ((rd_T121 l0 a1_0).f2) then (if ((rd_T121 l0 a1_0).f2) < (l1_2.length : Int) then (if 0 ≤ ((rd_T121 l0 a1_0).f1) then (if ((rd_T121 l0 a1_0).f1) < (bt146.2.1.length : Int) then (some (wrap64 (bt146.1 + 1), (bt146.2.1.set (((rd_T121 l0 a1_0).f1) : Int).toNat (rd l1_2 ((rd_T121 l0 a1_0).f2))), bt146.2.2.1, bt146.2.2.2)) else (none)) else (none)) else (none)) else (none)) else (if ((rd_T121 l0 a1_0).f0) = 9 then (if 0 ≤ ((rd_T121 l0 a1_0).f1) then (if ((rd_T121 l0 a1_0).f1) < (l1_1.length : Int) then (if 0 ≤ ((rd_T121 l0 a1_0).f2) then (if ((rd_T121 l0 a1_0).f2) < (bt146.2.2.1.length : Int) then (some (wrap64 (bt146.1 + 1), bt146.2.1, (bt146.2.2.1.set (((rd_T121 l0 a1_0).f2) : Int).toNat (rd l1_1 ((rd_T121 l0 a1_0).f1))), bt146.2.2.2)) else (none)) else (none)) else (none)) else (none)) else (if 0 ≤ ((rd_T121 l0 a1_0).f1) then (if ((rd_T121 l0 a1_0).f1) < (bt146.2.1.length : Int) then (some (wrap64 (bt146.1 + 1), (bt146.2.1.set (((rd_T121 l0 a1_0).f1) : Int).toNat (mn (mx a2 0) 999)), bt146.2.2.1, bt146.2.2.2)) else (none)) else (none))))))) else (none)) else (none)) else (some (bt146.1, bt146.2.1, bt146.2.2.1, bt146.2.2.2))))
def impl_StepState.T9 : Bool × List (List Nat × List Nat) := (true, [([], []), ([0], [0]), ([], []), ([2], [2]), ([], []), ([4], [4]), ([], []), ([6], [6]), ([5, 7], [5, 7]), ([8], [8]), ([], []), ([10], [10]), ([], []), ([12], [12]), ([11, 13], [11, 13]), ([14], [14]), ([9, 15], [9, 15]), ([16], [16]), ([1, 3, 0, 1, 2, 3, 4, 5, 6, 7, 8, 9, 10, 11, 12, 13, 14, 15, 16, 17], [1, 3]), ([18, 17, 0, 1, 2, 3, 4, 5, 6, 7, 8, 9, 10, 11, 12, 13, 14, 15, 16, 17], [17, 18])])
def impl_StepState.B9 : List Nat := [0, 1, 0, 4, 0, 16, 0, 64, 240, 496, 0, 1024, 0, 4096, 15360, 31744, 65520, 131056, 262143, 524287]
theorem impl_StepState.tab9 : rtab .any (opsOf Try.f20 9) = impl_StepState.T9 := by kernel_rfl
theorem impl_StepState.bits9 : waitsOk impl_StepState.T9.2 impl_StepState.B9 = true := by kernel_rfl
def impl_StepState.T11 : Bool × List (List Nat × List Nat) := (true, [([], []), ([0], [0]), ([], []), ([2], [2]), ([], []), ([4], [4]), ([], []), ([6], [6]), ([5, 7], [5, 7]), ([8], [8]), ([1, 3, 0, 1, 2, 3, 4, 5, 6, 7, 8, 9], [1, 3]), ([10, 9, 0, 1, 2, 3, 4, 5, 6, 7, 8, 9], [9, 10])])
def impl_StepState.B11 : List Nat := [0, 1, 0, 4, 0, 16, 0, 64, 240, 496, 1023, 2047]
theorem impl_StepState.tab11 : rtab .any (opsOf Try.f20 11) = impl_StepState.T11 := by kernel_rfl
theorem impl_StepState.bits11 : waitsOk impl_StepState.T11.2 impl_StepState.B11 = true := by kernel_rfl
def impl_StepState.T16 : Bool × List (List Nat × List Nat) := (true, [([], []), ([0], [0]), ([], []), ([2], [2]), ([], []), ([4], [4]), ([], []), ([6], [6]), ([5, 7], [5, 7]), ([8], [8]), ([1, 3, 0, 1, 2, 3, 4, 5, 6, 7, 8, 9], [1, 3]), ([10, 9, 0, 1, 2, 3, 4, 5, 6, 7, 8, 9], [9, 10])])
def impl_StepState.B16 : List Nat := [0, 1, 0, 4, 0, 16, 0, 64, 240, 496, 1023, 2047]
theorem impl_StepState.tab16 : rtab .any (opsOf Try.f20 16) = impl_StepState.T16 := by kernel_rfl
theorem impl_StepState.bits16 : waitsOk impl_StepState.T16.2 impl_StepState.B16 = true := by kernel_rfl
def impl_StepState.T18 : Bool × List (List Nat × List Nat) := (true, [([], []), ([0], [0]), ([], []), ([2], [2]), ([], []), ([4], [4]), ([], []), ([6], [6]), ([5, 7], [5, 7]), ([8], [8]), ([1, 3, 0, 1, 2, 3, 4, 5, 6, 7, 8, 9], [1, 3]), ([10, 9, 0, 1, 2, 3, 4, 5, 6, 7, 8, 9], [9, 10])])
def impl_StepState.B18 : List Nat := [0, 1, 0, 4, 0, 16, 0, 64, 240, 496, 1023, 2047]
theorem impl_StepState.tab18 : rtab .any (opsOf Try.f20 18) = impl_StepState.T18 := by kernel_rfl
theorem impl_StepState.bits18 : waitsOk impl_StepState.T18.2 impl_StepState.B18 = true := by kernel_rfl
set_option maxHeartbeats 8000000 in
set_option maxRecDepth 100000 in
theorem impl_StepState.calls (k : Nat) (A0 : Option Addr) (c0 : Nat) (l0 : List (S121)) (a1_0 : Int) (A1_1 : Option Addr) (c1_1 : Nat) (l1_1 : List Int) (A1_2 : Option Addr) (c1_2 : Nat) (l1_2 : List Int) (A1_3 : Option Addr) (c1_3 : Nat) (l1_3 : List Int) (a2 : Int) (r1 : Int) (r2 : List Int) (r3 : List Int) (r4 : List Int) (w : World) (hr0 : Kd.C k121 w A0 l0.length l0) (hc0 : l0.length ≤ c0) (hr1_1 : Kd.C (Kd.int .i64) w A1_1 l1_1.length l1_1) (hc1_1 : l1_1.length ≤ c1_1) (hr1_2 : Kd.C (Kd.int .i64) w A1_2 l1_2.length l1_2) (hc1_2 : l1_2.length ≤ c1_2) (hr1_3 : Kd.C (Kd.int .i64) w A1_3 l1_3.length l1_3) (hc1_3 : l1_3.length ≤ c1_3) (h : impl_StepState.f k l0 a1_0 l1_1 l1_2 l1_3 a2 = some (r1, r2, r3, r4)) :
  Calls Try.prog 20 #[.slice A0 l0.length c0, .agg #[.int .i64 a1_0, .slice A1_1 l1_1.length c1_1, .slice A1_2 l1_2.length c1_2, .slice A1_3 l1_3.length c1_3], .int .i64 a2] w fun e w' => ∃ v1_ v2_ v3_ : Value, e = .returned (.agg #[.int .i64 r1, v1_, v2_, v3_]) ∧ Kd.R (Kd.int .i64) 3 w' w.heap.size (fun k_ => some k_ ≠ (v2_ : Value).ownBlock ∧ some k_ ≠ (v3_ : Value).ownBlock) v1_ r2 ∧ Kd.R (Kd.int .i64) 3 w' w.heap.size (fun k_ => some k_ ≠ (v1_ : Value).ownBlock ∧ some k_ ≠ (v3_ : Value).ownBlock) v2_ r3 ∧ Kd.R (Kd.int .i64) 3 w' w.heap.size (fun k_ => some k_ ≠ (v1_ : Value).ownBlock ∧ some k_ ≠ (v2_ : Value).ownBlock) v3_ r4 ∧ Below w.heap.size w w' := by
 have hu45 := Try.underlying45
 have hu121 := Try.underlying121
 have HR0 := Aside0.mk hr0
 have HC0 := Aside0.mk hc0
 clear hr0 hc0
 have HR1_1 := Aside0.mk hr1_1
 have HC1_1 := Aside0.mk hc1_1
 clear hr1_1 hc1_1
 have HR1_2 := Aside0.mk hr1_2
 have HC1_2 := Aside0.mk hc1_2
 clear hr1_2 hc1_2
 have HR1_3 := Aside0.mk hr1_3
 have HC1_3 := Aside0.mk hc1_3
 clear hr1_3 hc1_3
 have HB := ak (Below.refl w.heap.size w)
 have H : ((impl_copyState.f a1_0 l1_1 l1_2 l1_3).bind fun bt146 => ((impl_canStep.f k l0 a1_0 l1_1 l1_2 l1_3).bind fun t157 => (if t157 = true then (if 0 ≤ a1_0 then (if a1_0 < (l0.length : Int) then (if ((rd_T121 l0 a1_0).f0) = 5 then (if 0 ≤ ((rd_T121 l0 a1_0).f2) then (if ((rd_T121 l0 a1_0).f2) < (l1_1.length : Int) then (if 0 ≤ ((rd_T121 l0 a1_0).f3) then (if ((rd_T121 l0 a1_0).f3) < (l1_1.length : Int) then (if 0 ≤ ((rd_T121 l0 a1_0).f1) then (if ((rd_T121 l0 a1_0).f1) < (bt146.2.1.length : Int) then (some (wrap64 (bt146.1 + 1), (bt146.2.1.set (((rd_T121 l0 a1_0).f1) : Int).toNat (Int.tmod (wrap64 ((rd l1_1 ((rd_T121 l0 a1_0).f2)) + (rd l1_1 ((rd_T121 l0 a1_0).f3)))) 1000)), bt146.2.2.1, bt146.2.2.2)) else (none)) else (none)) else (none)) else (none)) else (none)) else (none)) else (if ((rd_T121 l0 a1_0).f0) = 6 then (if 0 ≤ ((rd_T121 l0 a1_0).f1) then (if ((rd_T121 l0 a1_0).f1) < (l1_1.length : Int) then (if 0 ≤ ((rd_T121 l0 a1_0).f2) then (if ((rd_T121 l0 a1_0).f2) < (bt146.2.2.2.length : Int) then (some (wrap64 (bt146.1 + 1), bt146.2.1, bt146.2.2.1, (bt146.2.2.2.set (((rd_T121 l0 a1_0).f2) : Int).toNat (rd l1_1 ((rd_T121 l0 a1_0).f1))))) else (none)) else (none)) else (none)) else (none)) else (if ((rd_T121 l0 a1_0).f0) = 7 then (if 0 ≤ ((rd_T121 l0 a1_0).f1) then (if ((rd_T121 l0 a1_0).f1) < (l1_1.length : Int) then (if (Int.tmod (rd l1_1 ((rd_T121 l0 a1_0).f1)) 2) = 0 then (some (wrap64 ((wrap64 (bt146.1 + 1)) + ((rd_T121 l0 a1_0).f2)), bt146.2.1, bt146.2.2.1, bt146.2.2.2)) else (some (wrap64 (bt146.1 + 1), bt146.2.1, bt146.2.2.1, bt146.2.2.2))) else (none)) else (none)) else (if ((rd_T121 l0 a1_0).f0) = 8 then (if 0 ≤ ((rd_T121 l0 a1_0).f2) then (if ((rd_T121 l0 a1_0).f2) < (l1_2.length : Int) then (if 0 ≤ ((rd_T121 l0 a1_0).f1) then (if ((rd_T121 l0 a1_0).f1) < (bt146.2.1.length : Int) then (some (wrap64 (bt146.1 + 1), (bt146.2.1.set (((rd_T121 l0 a1_0).f1) : Int).toNat (rd l1_2 ((rd_T121 l0 a1_0).f2))), bt146.2.2.1, bt146.2.2.2)) else (none)) else (none)) else (none)) else (none)) else (if ((rd_T121 l0 a1_0).f0) = 9 then (if 0 ≤ ((rd_T121 l0 a1_0).f1) then (if ((rd_T121 l0 a1_0).f1) < (l1_1.length : Int) then (if 0 ≤ ((rd_T121 l0 a1_0).f2) then (if ((rd_T121 l0 a1_0).f2) < (bt146.2.2.1.length : Int) then (some (wrap64 (bt146.1 + 1), bt146.2.1, (bt146.2.2.1.set (((rd_T121 l0 a1_0).f2) : Int).toNat (rd l1_1 ((rd_T121 l0 a1_0).f1))), bt146.2.2.2)) else (none)) else (none)) else (none)) else (none)) else (if 0 ≤ ((rd_T121 l0 a1_0).f1) then (if ((rd_T121 l0 a1_0).f1) < (bt146.2.1.length : Int) then (some (wrap64 (bt146.1 + 1), (bt146.2.1.set (((rd_T121 l0 a1_0).f1) : Int).toNat (mn (mx a2 0) 999)), bt146.2.2.1, bt146.2.2.2)) else (none)) else (none))))))) else (none)) else (none)) else (some (bt146.1, bt146.2.1, bt146.2.2.1, bt146.2.2.2))))) = some (r1, r2, r3, r4) := h
 clear h
 replace H := Option.bind_eq_some_iff.mp H
 obtain ⟨⟨t146, t147, t150, t153⟩, A40, H⟩ := H
 replace H : ((impl_canStep.f k l0 a1_0 l1_1 l1_2 l1_3).bind fun t157 => (if t157 = true then (if 0 ≤ a1_0 then (if a1_0 < (l0.length : Int) then (if ((rd_T121 l0 a1_0).f0) = 5 then (if 0 ≤ ((rd_T121 l0 a1_0).f2) then (if ((rd_T121 l0 a1_0).f2) < (l1_1.length : Int) then (if 0 ≤ ((rd_T121 l0 a1_0).f3) then (if ((rd_T121 l0 a1_0).f3) < (l1_1.length : Int) then (if 0 ≤ ((rd_T121 l0 a1_0).f1) then (if ((rd_T121 l0 a1_0).f1) < (t147.length : Int) then (some (wrap64 (t146 + 1), (t147.set (((rd_T121 l0 a1_0).f1) : Int).toNat (Int.tmod (wrap64 ((rd l1_1 ((rd_T121 l0 a1_0).f2)) + (rd l1_1 ((rd_T121 l0 a1_0).f3)))) 1000)), t150, t153)) else (none)) else (none)) else (none)) else (none)) else (none)) else (none)) else (if ((rd_T121 l0 a1_0).f0) = 6 then (if 0 ≤ ((rd_T121 l0 a1_0).f1) then (if ((rd_T121 l0 a1_0).f1) < (l1_1.length : Int) then (if 0 ≤ ((rd_T121 l0 a1_0).f2) then (if ((rd_T121 l0 a1_0).f2) < (t153.length : Int) then (some (wrap64 (t146 + 1), t147, t150, (t153.set (((rd_T121 l0 a1_0).f2) : Int).toNat (rd l1_1 ((rd_T121 l0 a1_0).f1))))) else (none)) else (none)) else (none)) else (none)) else (if ((rd_T121 l0 a1_0).f0) = 7 then (if 0 ≤ ((rd_T121 l0 a1_0).f1) then (if ((rd_T121 l0 a1_0).f1) < (l1_1.length : Int) then (if (Int.tmod (rd l1_1 ((rd_T121 l0 a1_0).f1)) 2) = 0 then (some (wrap64 ((wrap64 (t146 + 1)) + ((rd_T121 l0 a1_0).f2)), t147, t150, t153)) else (some (wrap64 (t146 + 1), t147, t150, t153))) else (none)) else (none)) else (if ((rd_T121 l0 a1_0).f0) = 8 then (if 0 ≤ ((rd_T121 l0 a1_0).f2) then (if ((rd_T121 l0 a1_0).f2) < (l1_2.length : Int) then (if 0 ≤ ((rd_T121 l0 a1_0).f1) then (if ((rd_T121 l0 a1_0).f1) < (t147.length : Int) then (some (wrap64 (t146 + 1), (t147.set (((rd_T121 l0 a1_0).f1) : Int).toNat (rd l1_2 ((rd_T121 l0 a1_0).f2))), t150, t153)) else (none)) else (none)) else (none)) else (none)) else (if ((rd_T121 l0 a1_0).f0) = 9 then (if 0 ≤ ((rd_T121 l0 a1_0).f1) then (if ((rd_T121 l0 a1_0).f1) < (l1_1.length : Int) then (if 0 ≤ ((rd_T121 l0 a1_0).f2) then (if ((rd_T121 l0 a1_0).f2) < (t150.length : Int) then (some (wrap64 (t146 + 1), t147, (t150.set (((rd_T121 l0 a1_0).f2) : Int).toNat (rd l1_1 ((rd_T121 l0 a1_0).f1))), t153)) else (none)) else (none)) else (none)) else (none)) else (if 0 ≤ ((rd_T121 l0 a1_0).f1) then (if ((rd_T121 l0 a1_0).f1) < (t147.length : Int) then (some (wrap64 (t146 + 1), (t147.set (((rd_T121 l0 a1_0).f1) : Int).toNat (mn (mx a2 0) 999)), t150, t153)) else (none)) else (none))))))) else (none)) else (none)) else (some (t146, t147, t150, t153)))) = some (r1, r2, r3, r4) := H
 have A4 := Aside0.mk A40
 clear A40
 replace H := Option.bind_eq_some_iff.mp H
 obtain ⟨t157, A50, H⟩ := H
 replace H : (if t157 = true then (if 0 ≤ a1_0 then (if a1_0 < (l0.length : Int) then (if ((rd_T121 l0 a1_0).f0) = 5 then (if 0 ≤ ((rd_T121 l0 a1_0).f2) then (if ((rd_T121 l0 a1_0).f2) < (l1_1.length : Int) then (if 0 ≤ ((rd_T121 l0 a1_0).f3) then (if ((rd_T121 l0 a1_0).f3) < (l1_1.length : Int) then (if 0 ≤ ((rd_T121 l0 a1_0).f1) then (if ((rd_T121 l0 a1_0).f1) < (t147.length : Int) then (some (wrap64 (t146 + 1), (t147.set (((rd_T121 l0 a1_0).f1) : Int).toNat (Int.tmod (wrap64 ((rd l1_1 ((rd_T121 l0 a1_0).f2)) + (rd l1_1 ((rd_T121 l0 a1_0).f3)))) 1000)), t150, t153)) else (none)) else (none)) else (none)) else (none)) else (none)) else (none)) else (if ((rd_T121 l0 a1_0).f0) = 6 then (if 0 ≤ ((rd_T121 l0 a1_0).f1) then (if ((rd_T121 l0 a1_0).f1) < (l1_1.length : Int) then (if 0 ≤ ((rd_T121 l0 a1_0).f2) then (if ((rd_T121 l0 a1_0).f2) < (t153.length : Int) then (some (wrap64 (t146 + 1), t147, t150, (t153.set (((rd_T121 l0 a1_0).f2) : Int).toNat (rd l1_1 ((rd_T121 l0 a1_0).f1))))) else (none)) else (none)) else (none)) else (none)) else (if ((rd_T121 l0 a1_0).f0) = 7 then (if 0 ≤ ((rd_T121 l0 a1_0).f1) then (if ((rd_T121 l0 a1_0).f1) < (l1_1.length : Int) then (if (Int.tmod (rd l1_1 ((rd_T121 l0 a1_0).f1)) 2) = 0 then (some (wrap64 ((wrap64 (t146 + 1)) + ((rd_T121 l0 a1_0).f2)), t147, t150, t153)) else (some (wrap64 (t146 + 1), t147, t150, t153))) else (none)) else (none)) else (if ((rd_T121 l0 a1_0).f0) = 8 then (if 0 ≤ ((rd_T121 l0 a1_0).f2) then (if ((rd_T121 l0 a1_0).f2) < (l1_2.length : Int) then (if 0 ≤ ((rd_T121 l0 a1_0).f1) then (if ((rd_T121 l0 a1_0).f1) < (t147.length : Int) then (some (wrap64 (t146 + 1), (t147.set (((rd_T121 l0 a1_0).f1) : Int).toNat (rd l1_2 ((rd_T121 l0 a1_0).f2))), t150, t153)) else (none)) else (none)) else (none)) else (none)) else (if ((rd_T121 l0 a1_0).f0) = 9 then (if 0 ≤ ((rd_T121 l0 a1_0).f1) then (if ((rd_T121 l0 a1_0).f1) < (l1_1.length : Int) then (if 0 ≤ ((rd_T121 l0 a1_0).f2) then (if ((rd_T121 l0 a1_0).f2) < (t150.length : Int) then (some (wrap64 (t146 + 1), t147, (t150.set (((rd_T121 l0 a1_0).f2) : Int).toNat (rd l1_1 ((rd_T121 l0 a1_0).f1))), t153)) else (none)) else (none)) else (none)) else (none)) else (if 0 ≤ ((rd_T121 l0 a1_0).f1) then (if ((rd_T121 l0 a1_0).f1) < (t147.length : Int) then (some (wrap64 (t146 + 1), (t147.set (((rd_T121 l0 a1_0).f1) : Int).toNat (mn (mx a2 0) 999)), t150, t153)) else (none)) else (none))))))) else (none)) else (none)) else (some (t146, t147, t150, t153))) = some (r1, r2, r3, r4) := H
 have A5 := Aside0.mk A50
 clear A50
 by_cases c6 : t157 = true
 ·subst c6
  have H1 : (if 0 ≤ a1_0 then (if a1_0 < (l0.length : Int) then (if ((rd_T121 l0 a1_0).f0) = 5 then (if 0 ≤ ((rd_T121 l0 a1_0).f2) then (if ((rd_T121 l0 a1_0).f2) < (l1_1.length : Int) then (if 0 ≤ ((rd_T121 l0 a1_0).f3) then (if ((rd_T121 l0 a1_0).f3) < (l1_1.length : Int) then (if 0 ≤ ((rd_T121 l0 a1_0).f1) then (if ((rd_T121 l0 a1_0).f1) < (t147.length : Int) then (some (wrap64 (t146 + 1), (t147.set (((rd_T121 l0 a1_0).f1) : Int).toNat (Int.tmod (wrap64 ((rd l1_1 ((rd_T121 l0 a1_0).f2)) + (rd l1_1 ((rd_T121 l0 a1_0).f3)))) 1000)), t150, t153)) else (none)) else (none)) else (none)) else (none)) else (none)) else (none)) else (if ((rd_T121 l0 a1_0).f0) = 6 then (if 0 ≤ ((rd_T121 l0 a1_0).f1) then (if ((rd_T121 l0 a1_0).f1) < (l1_1.length : Int) then (if 0 ≤ ((rd_T121 l0 a1_0).f2) then (if ((rd_T121 l0 a1_0).f2) < (t153.length : Int) then (some (wrap64 (t146 + 1), t147, t150, (t153.set (((rd_T121 l0 a1_0).f2) : Int).toNat (rd l1_1 ((rd_T121 l0 a1_0).f1))))) else (none)) else (none)) else (none)) else (none)) else (if ((rd_T121 l0 a1_0).f0) = 7 then (if 0 ≤ ((rd_T121 l0 a1_0).f1) then (if ((rd_T121 l0 a1_0).f1) < (l1_1.length : Int) then (if (Int.tmod (rd l1_1 ((rd_T121 l0 a1_0).f1)) 2) = 0 then (some (wrap64 ((wrap64 (t146 + 1)) + ((rd_T121 l0 a1_0).f2)), t147, t150, t153)) else (some (wrap64 (t146 + 1), t147, t150, t153))) else (none)) else (none)) else (if ((rd_T121 l0 a1_0).f0) = 8 then (if 0 ≤ ((rd_T121 l0 a1_0).f2) then (if ((rd_T121 l0 a1_0).f2) < (l1_2.length : Int) then (if 0 ≤ ((rd_T121 l0 a1_0).f1) then (if ((rd_T121 l0 a1_0).f1) < (t147.length : Int) then (some (wrap64 (t146 + 1), (t147.set (((rd_T121 l0 a1_0).f1) : Int).toNat (rd l1_2 ((rd_T121 l0 a1_0).f2))), t150, t153)) else (none)) else (none)) else (none)) else (none)) else (if ((rd_T121 l0 a1_0).f0) = 9 then (if 0 ≤ ((rd_T121 l0 a1_0).f1) then (if ((rd_T121 l0 a1_0).f1) < (l1_1.length : Int) then (if 0 ≤ ((rd_T121 l0 a1_0).f2) then (if ((rd_T121 l0 a1_0).f2) < (t150.length : Int) then (some (wrap64 (t146 + 1), t147, (t150.set (((rd_T121 l0 a1_0).f2) : Int).toNat (rd l1_1 ((rd_T121 l0 a1_0).f1))), t153)) else (none)) else (none)) else (none)) else (none)) else (if 0 ≤ ((rd_T121 l0 a1_0).f1) then (if ((rd_T121 l0 a1_0).f1) < (t147.length : Int) then (some (wrap64 (t146 + 1), (t147.set (((rd_T121 l0 a1_0).f1) : Int).toNat (mn (mx a2 0) 999)), t150, t153)) else (none)) else (none))))))) else (none)) else (none)) = some (r1, r2, r3, r4) := by rw [if_pos rfl] at H; exact H
  clear H
  have H := H1
  clear H1
  by_cases c7 : 0 ≤ a1_0
  ·rw [if_pos c7] at H
   have c7b0 : decide (0 ≤ a1_0) = true := decide_eq_true c7
   clear c7
   by_cases c8 : a1_0 < (l0.length : Int)
   ·rw [if_pos c8] at H
    have c8b0 : decide (a1_0 < (l0.length : Int)) = true := decide_eq_true c8
    clear c8
    by_cases c9 : ((rd_T121 l0 a1_0).f0) = 5
    ·rw [if_pos c9] at H
     have c9b0 : (((rd_T121 l0 a1_0).f0) == 5) = true := beq_iff_eq.mpr c9
     have c9b1 : (((rd_T121 l0 a1_0).f0) != 5) = false := bne_eq_false_iff_eq.mpr c9
     clear c9
     by_cases c10 : 0 ≤ ((rd_T121 l0 a1_0).f2)
     ·rw [if_pos c10] at H
      have c10b0 : decide (0 ≤ ((rd_T121 l0 a1_0).f2)) = true := decide_eq_true c10
      clear c10
      by_cases c11 : ((rd_T121 l0 a1_0).f2) < (l1_1.length : Int)
      ·rw [if_pos c11] at H
       have c11b0 : decide (((rd_T121 l0 a1_0).f2) < (l1_1.length : Int)) = true := decide_eq_true c11
       clear c11
       by_cases c12 : 0 ≤ ((rd_T121 l0 a1_0).f3)
       ·rw [if_pos c12] at H
        have c12b0 : decide (0 ≤ ((rd_T121 l0 a1_0).f3)) = true := decide_eq_true c12
        clear c12
        by_cases c13 : ((rd_T121 l0 a1_0).f3) < (l1_1.length : Int)
        ·rw [if_pos c13] at H
         have c13b0 : decide (((rd_T121 l0 a1_0).f3) < (l1_1.length : Int)) = true := decide_eq_true c13
         clear c13
         by_cases c14 : 0 ≤ ((rd_T121 l0 a1_0).f1)
         ·rw [if_pos c14] at H
          have c14b0 : decide (0 ≤ ((rd_T121 l0 a1_0).f1)) = true := decide_eq_true c14
          clear c14
          by_cases c15 : ((rd_T121 l0 a1_0).f1) < (t147.length : Int)
          ·rw [if_pos c15] at H
           have c15b0 : decide (((rd_T121 l0 a1_0).f1) < (t147.length : Int)) = true := decide_eq_true c15
           clear c15
           obtain ⟨y162, hy162⟩ : ∃ y_ : List Int, y_ = (t147.set (((rd_T121 l0 a1_0).f1) : Int).toNat (Int.tmod (wrap64 ((rd l1_1 ((rd_T121 l0 a1_0).f2)) + (rd l1_1 ((rd_T121 l0 a1_0).f3)))) 1000)) := ⟨_, rfl⟩
           replace H : (some (wrap64 (t146 + 1), y162, t150, t153)) = some (r1, r2, r3, r4) := by first | (rw [hy162]; with_reducible exact H) | (have H2_ := (Option.bind_some _ _).symm.trans H; rw [hy162]; with_reducible exact H2_) | (have H2_ := (Option.bind_some _ _).symm.trans H; with_reducible exact H2_) | with_reducible exact H | (rw [hy162]; exact H) | exact H
           have Ny162 := Aside0.mk hy162
           clear hy162
           simp only [Option.some.injEq, Prod.mk.injEq] at H
           obtain ⟨rfl, rfl, rfl, rfl⟩ := H
           go_enter Try.func20, Try.ntmps20
           try go_wp2_with (first | ((with_reducible refine gate_dst (N := 4) rfl ?_); refine bx_ (N := 4) #[.int .i64 a1_0, .slice A1_1 l1_1.length c1_1, .slice A1_2 l1_2.length c1_2, .slice A1_3 l1_3.length c1_3] 45 ?_; intro gb144 hg w17 hbox hb; have BK144 := ak hbox; have GW144 := gy hg HB; have GE144 := gy hg HB; replace HB := bs HB hb; clear hb hbox hg) | ((with_reducible refine gate_dst (N := 6) rfl ?_); refine bx_ (N := 6) #[.int .i64 0, .slice none 0 0, .slice none 0 0, .slice none 0 0] 45 ?_; intro gb145 hg w18 hbox hb; have BK145 := ak hbox; have GW145 := gy hg HB; have GE145 := gy hg HB; replace HB := bs HB hb; have NB144_145 := gm hg BK144; have NB145_144 := gn hg BK144; replace BK144 := kf BK144 hb; clear hb hbox hg; have hnb19 := NB144_145.out; have hnc19 := NB145_144.out; obtain ⟨_, _, _, _, _, _, _, _⟩ := bc4 BK144) | ((with_reducible refine gate_callee (f := 77) rfl ?_); refine goesL_ (some 10) rfl rfl Try.func77 KR rfl #[.agg #[.int .i64 a1_0, .slice A1_1 l1_1.length c1_1, .slice A1_2 l1_2.length c1_2, .slice A1_3 l1_3.length c1_3]] rfl AR ?_; (with_reducible refine (impl_copyState.calls a1_0 _ _ l1_1 _ _ l1_2 _ _ l1_3 t146 t147 t150 t153 _ ?side1 ?side2 ?side3 ?side4 ?side5 ?side6 A4.out).mono ?_); (case side1 => exact CR (Kd.C_below HR1_1.out HB.out)); (case side2 => exact HC1_1.out); (case side3 => exact CR (Kd.C_below HR1_2.out HB.out)); (case side4 => exact HC1_2.out); (case side5 => exact CR (Kd.C_below HR1_3.out HB.out)); (case side6 => exact HC1_3.out); rintro e w21 ⟨v148, v151, v154, rfl, ho0, ho1, ho2, hb⟩; refine ⟨_, rfl, ?_⟩; have HO149 := Rn0 ho0 HB; have HO152 := Rn0 ho1 HB; have HO155 := Rn0 ho2 HB; replace BK144 := kf BK144 hb; replace BK145 := kf BK145 hb; replace HB := bs HB hb; (try clear hb); (try clear hb2); (try clear hk); (try clear hi); (try clear ho0); (try clear ho1); (try clear ho2)) | ((with_reducible refine gate_dst (N := 7) rfl ?_); refine bx_ (N := 7) #[.int .i64 0, .slice none 0 0, .slice none 0 0, .slice none 0 0] 45 ?_; intro gb156 hg w22 hbox hb; replace HO149 := Rb HO149 hb; replace HO152 := Rb HO152 hb; replace HO155 := Rb HO155 hb; have BK156 := ak hbox; have GW156 := gy hg HB; have GE156 := gy hg HB; replace HB := bs HB hb; have NB144_156 := gm hg BK144; have NB156_144 := gn hg BK144; replace BK144 := kf BK144 hb; have NB145_156 := gm hg BK145; have NB156_145 := gn hg BK145; replace BK145 := kf BK145 hb; clear hb hbox hg; have hnb23 := NB156_144.out; have hnc23 := NB144_156.out; have hnb24 := NB156_145.out; have hnc24 := NB145_156.out; obtain ⟨_, _, _, _, _, _, _, _⟩ := bc4 BK156; obtain ⟨Ao26, co26, eo26⟩ := Kd.R_slice HO149.out; subst eo26; obtain ⟨Ao27, co27, eo27⟩ := Kd.R_slice HO152.out; subst eo27; obtain ⟨Ao28, co28, eo28⟩ := Kd.R_slice HO155.out; subst eo28; obtain ⟨_, _, _, _, _, _, _, _⟩ := bc4 BK144) | ((with_reducible refine gate_callee (f := 78) rfl ?_); refine goesL_ (some 13) rfl rfl Try.func78 KR rfl #[.slice A0 l0.length c0, .agg #[.int .i64 a1_0, .slice A1_1 l1_1.length c1_1, .slice A1_2 l1_2.length c1_2, .slice A1_3 l1_3.length c1_3]] rfl AR ?_; (with_reducible refine (impl_canStep.calls k _ _ l0 a1_0 _ _ l1_1 _ _ l1_2 _ _ l1_3 true _ ?side1 ?side2 ?side3 ?side4 ?side5 ?side6 ?side7 ?side8 A5.out).mono ?_); (case side1 => exact Kd.C_below HR0.out PB); (case side2 => exact HC0.out); (case side3 => exact Kd.C_below HR1_1.out PB); (case side4 => exact HC1_1.out); (case side5 => exact Kd.C_below HR1_2.out PB); (case side6 => exact HC1_2.out); (case side7 => exact Kd.C_below HR1_3.out PB); (case side8 => exact HC1_3.out); rintro e w30 ⟨rfl, hb⟩; refine ⟨_, rfl, ?_⟩; replace HO149 := ak (Kd.R_below (Re1 HO149 BK156) hb); replace HO152 := ak (Kd.R_below (Re1 HO152 BK156) hb); replace HO155 := ak (Kd.R_below (Re1 HO155 BK156) hb); replace BK144 := kf BK144 hb; replace BK145 := kf BK145 hb; replace BK156 := kp (cs' := #[.int .i64 t146, .slice Ao26 t147.length co26, .slice Ao27 t150.length co27, .slice Ao28 t153.length co28]) BK156 hb; replace HB := bs HB hb; (try clear hb); (try clear hb2); (try clear hk); (try clear hi); obtain ⟨_, _, _, _, _, _, _, _⟩ := bc4 BK144; have p158 : 0 ≤ (a1_0 : Int) := of_decide_eq_true (by first | (with_reducible assumption) | assumption); have q158 : a1_0 < (l0.length : Int) := of_decide_eq_true (by first | (with_reducible assumption) | assumption); obtain ⟨ad158, e158, hx158_0, hx158_1, hx158_2, hx158_3⟩ := at_T121 HR0.out a1_0 p158 q158; cases e158; replace hx158_0 := hx_ HB hx158_0; replace hx158_1 := hx_ HB hx158_1; replace hx158_2 := hx_ HB hx158_2; replace hx158_3 := hx_ HB hx158_3; replace p158 := eq_true p158; replace q158 := eq_true q158) | ((with_reducible refine gate_dst (N := 8) rfl ?_); refine bx_ (N := 8) #[.int .i64 0, .int .i64 0, .int .i64 0, .int .i64 0] 121 ?_; intro gb159 hg w32 hbox hb; replace HO149 := Rb HO149 hb; replace HO152 := Rb HO152 hb; replace HO155 := Rb HO155 hb; have BK159 := ak hbox; have GW159 := gy hg HB; have GE159 := gy hg HB; replace HB := bs HB hb; have NB144_159 := gm hg BK144; have NB159_144 := gn hg BK144; replace BK144 := kf BK144 hb; have NB145_159 := gm hg BK145; have NB159_145 := gn hg BK145; replace BK145 := kf BK145 hb; have NB156_159 := gm hg BK156; have NB159_156 := gn hg BK156; replace BK156 := kf BK156 hb; clear hb hbox hg; have hnb33 := NB159_144.out; have hnc33 := NB144_159.out; have hnb34 := NB159_145.out; have hnc34 := NB145_159.out; have hnb35 := NB159_156.out; have hnc35 := NB156_159.out; obtain ⟨_, _, _, _, _, _, _, _⟩ := bc4 BK159; obtain ⟨_, _, _, _, _, _, _, _⟩ := bc4 BK156))
           generalize hW_ : (((((w32.setCell ⟨gb159, 0, none⟩ (.int .i64 ((rd_T121 l0 a1_0).f0))).setCell ⟨gb159, 1, none⟩ (.int .i64 ((rd_T121 l0 a1_0).f1))).setCell ⟨gb159, 2, none⟩ (.int .i64 ((rd_T121 l0 a1_0).f2))).setCell ⟨gb159, 3, none⟩ (.int .i64 ((rd_T121 l0 a1_0).f3))).setCell ⟨gb156, 0, none⟩ (.int .i64 (wrap64 (t146 + 1)))) = w38
           replace HO149 := R2 hW_ HO149 BK159 BK156
           replace HO152 := R2 hW_ HO152 BK159 BK156
           replace HO155 := R2 hW_ HO155 BK159 BK156
           replace BK144 := BE hW_ BK144
           replace BK145 := BE hW_ BK145
           replace BK156 : Aside0 (w38.heap[gb156]? = some (.cells #[.int .i64 (wrap64 (t146 + 1)), .slice Ao26 t147.length co26, .slice Ao27 t150.length co27, .slice Ao28 t153.length co28] 45 (0, 0))) := BP hW_ BK156
           replace BK159 : Aside0 (w38.heap[gb159]? = some (.cells #[.int .i64 ((rd_T121 l0 a1_0).f0), .int .i64 ((rd_T121 l0 a1_0).f1), .int .i64 ((rd_T121 l0 a1_0).f2), .int .i64 ((rd_T121 l0 a1_0).f3)] 121 (0, 0))) := BP hW_ BK159
           replace HB := BL hW_ HB
           (try clear hW_)
           replace HO149 := ak (Kd.R_drew HO149.out)
           replace HO152 := ak (Kd.R_drew HO152.out)
           replace HO155 := ak (Kd.R_drew HO155.out)
           replace BK144 := ak (blk_drew BK144.out)
           replace BK145 := ak (blk_drew BK145.out)
           replace BK156 := ak (blk_drew BK156.out)
           replace BK159 := ak (blk_drew BK159.out)
           replace HB := ak (below_drew1 HB.out)
           have p160 : 0 ≤ (((rd_T121 l0 a1_0).f2) : Int) := of_decide_eq_true (by first | (with_reducible assumption) | assumption)
           have q160 : ((rd_T121 l0 a1_0).f2) < (l1_1.length : Int) := of_decide_eq_true (by first | (with_reducible assumption) | assumption)
           obtain ⟨ad160, e160, hx160_0⟩ := Kd.at_int HR1_1.out ((rd_T121 l0 a1_0).f2) p160 q160
           have hw160_0 := hx160_0
           cases e160
           replace hx160_0 := hx_ HB hx160_0
           replace p160 := eq_true p160
           replace q160 := eq_true q160
           have p161 : 0 ≤ (((rd_T121 l0 a1_0).f3) : Int) := of_decide_eq_true (by first | (with_reducible assumption) | assumption)
           have q161 : ((rd_T121 l0 a1_0).f3) < (l1_1.length : Int) := of_decide_eq_true (by first | (with_reducible assumption) | assumption)
           obtain ⟨ad161, e161, hx161_0⟩ := Kd.at_int HR1_1.out ((rd_T121 l0 a1_0).f3) p161 q161
           have hw161_0 := hx161_0
           obtain rfl : ad160 = ad161 := (by injection e161)
           replace hx161_0 := hx_ HB hx161_0
           replace p161 := eq_true p161
           replace q161 := eq_true q161
           have p16 : 0 ≤ (((rd_T121 l0 a1_0).f1) : Int) := of_decide_eq_true (by first | (with_reducible assumption) | assumption)
           have q16 : (((rd_T121 l0 a1_0).f1) : Int) < ((t147.length : Int) : Int) := of_decide_eq_true (by first | (with_reducible assumption) | assumption)
           obtain ⟨go16, co16, eo16, gb16, gl16, cl16, HG16⟩ := Kd.R_form HO149.out (by omega)
           (first | cases eo16 | (injection eo16 with ea_ en_ ec_; (first | subst ea_ | (injection ea_ with ea_; subst ea_)); subst ec_; clear en_))
           have GB16 := Aside0.mk gb16
           have GG16 := Aside0.mk HG16
           clear gb16 gl16 HG16
           obtain ⟨hx16_0, hf16_0⟩ := Kd.R_celln 0 HO149.out (((rd_T121 l0 a1_0).f1) : Int) p16 q16
           replace p16 := eq_true p16
           replace q16 := eq_true q16
           have HP40 := Kd.R_putn HO149.out (((rd_T121 l0 a1_0).f1) : Int) (Int.tmod (wrap64 ((rd l1_1 ((rd_T121 l0 a1_0).f2)) + (rd l1_1 ((rd_T121 l0 a1_0).f3)))) 1000)
           rw [← Ny162.out] at HP40
           have HQ40 := Aside0.mk HP40
           clear HP40
           refine start_ (n := 20) (S := fun w' => w'.cell? ⟨gb156, 0, none⟩ = some (.int .i64 (wrap64 (t146 + 1))) ∧ w'.cell? ⟨gb156, 1, none⟩ = some (.slice (some ⟨go16, 0, none⟩) t147.length co26) ∧ w'.cell? ⟨gb156, 2, none⟩ = some (.slice Ao27 t150.length co27) ∧ w'.cell? ⟨gb156, 3, none⟩ = some (.slice Ao28 t153.length co28) ∧ w'.cell? ⟨gb159, 0, none⟩ = some (.int .i64 ((rd_T121 l0 a1_0).f0)) ∧ w'.cell? ⟨gb159, 1, none⟩ = some (.int .i64 ((rd_T121 l0 a1_0).f1)) ∧ w'.cell? ⟨gb159, 2, none⟩ = some (.int .i64 ((rd_T121 l0 a1_0).f2)) ∧ w'.cell? ⟨gb159, 3, none⟩ = some (.int .i64 ((rd_T121 l0 a1_0).f3)) ∧ w'.cell? ⟨gb144, 0, none⟩ = some (.int .i64 a1_0) ∧ w'.cell? ⟨gb144, 1, none⟩ = some (.slice (some ad160) l1_1.length c1_1) ∧ w'.cell? ⟨gb144, 2, none⟩ = some (.slice A1_2 l1_2.length c1_2) ∧ w'.cell? ⟨gb144, 3, none⟩ = some (.slice A1_3 l1_3.length c1_3) ∧ w'.cell? (ad160.add (((rd_T121 l0 a1_0).f2)).toNat) = some (.int .i64 (rd l1_1 ((rd_T121 l0 a1_0).f2))) ∧ w'.cell? (ad160.add (((rd_T121 l0 a1_0).f3)).toNat) = some (.int .i64 (rd l1_1 ((rd_T121 l0 a1_0).f3)))) (ds := [19]) #[false, false, false, false, false, false, false, false, false, false, false, false, false, false, false, false, false, false, false, false] KR rfl rfl ⟨(blk_cell BK156.out 0).trans rfl, (blk_cell BK156.out 1).trans rfl, (blk_cell BK156.out 2).trans rfl, (blk_cell BK156.out 3).trans rfl, (blk_cell BK159.out 0).trans rfl, (blk_cell BK159.out 1).trans rfl, (blk_cell BK159.out 2).trans rfl, (blk_cell BK159.out 3).trans rfl, (blk_cell BK144.out 0).trans rfl, (blk_cell BK144.out 1).trans rfl, (blk_cell BK144.out 2).trans rfl, (blk_cell BK144.out 3).trans rfl, ((HB.out.cell (World.block_lt_of_cell? w _ hw160_0)).trans hw160_0), ((HB.out.cell (World.block_lt_of_cell? w _ hw161_0)).trans hw161_0)⟩ (fun hHeld => ?_); refine with_tabW impl_StepState.tab9 impl_StepState.bits9 (fun HT_ HW_ => ?_)
           generalize w38.drew = w39 at HO149 HO152 HO155 BK144 BK145 BK156 BK159 HB GG16 HQ40 hf16_0 hx160_0 hx161_0 hx16_0 hHeld ⊢
           refine pu_ (i := 0) (N := some 37) #[true, false, false, false, false, false, false, false, false, false, false, false, false, false, false, false, false, false, false, false] HT_ ?_
           refine pu_ (i := 2) (N := some 39) #[true, false, true, false, false, false, false, false, false, false, false, false, false, false, false, false, false, false, false, false] HT_ ?_
           refine pu_ (i := 4) (N := some 41) #[true, false, true, false, true, false, false, false, false, false, false, false, false, false, false, false, false, false, false, false] HT_ ?_
           refine pu_ (i := 6) (N := some 43) #[true, false, true, false, true, false, true, false, false, false, false, false, false, false, false, false, false, false, false, false] HT_ ?_
           refine pu_ (i := 10) (N := some 47) #[true, false, true, false, true, false, true, false, false, false, true, false, false, false, false, false, false, false, false, false] HT_ ?_
           refine pu_ (i := 12) (N := some 49) #[true, false, true, false, true, false, true, false, false, false, true, false, true, false, false, false, false, false, false, false] HT_ ?_
           refine tk_ (i := 1) (N := some 38) #[true, true, true, false, true, false, true, false, false, false, true, false, true, false, false, false, false, false, false, false] rfl rfl HT_ HW_ hHeld ?_
           refine take_ (i := 3) (N := some 40) (v := ?_) (a' := ?_) #[true, true, true, true, true, false, true, false, false, false, true, false, true, false, false, false, false, false, false, false] rfl rfl (take_ofW HT_.out HW_.out KR) (fun _ _ _ h => h) (Or.inl ⟨by rfl, ?_⟩) hHeld ?_ ?_
           rotate_left
           ·rintro w' ⟨s0, s1, s2, s3, s4, s5, s6, s7, s8, s9, s10, s11, s12, s13⟩
            go_simp
            with_reducible rfl
           rotate_left
           ·simp only [Act.put, List.setIfInBounds_toArray, List.set_cons_zero, List.set_cons_succ, i64_w, i32_w]
            rfl
           refine tk_ (i := 5) (N := some 42) #[true, true, true, true, true, true, true, false, false, false, true, false, true, false, false, false, false, false, false, false] rfl rfl HT_ HW_ hHeld ?_
           refine take_ (i := 7) (N := some 44) (v := ?_) (a' := ?_) #[true, true, true, true, true, true, true, true, false, false, true, false, true, false, false, false, false, false, false, false] rfl rfl (take_ofW HT_.out HW_.out KR) (fun _ _ _ h => h) (Or.inl ⟨by rfl, ?_⟩) hHeld ?_ ?_
           rotate_left
           ·rintro w' ⟨s0, s1, s2, s3, s4, s5, s6, s7, s8, s9, s10, s11, s12, s13⟩
            go_simp
            with_reducible rfl
           rotate_left
           ·simp only [Act.put, List.setIfInBounds_toArray, List.set_cons_zero, List.set_cons_succ, i64_w, i32_w]
            rfl
           refine pu_ (i := 8) (N := some 45) #[true, true, true, true, true, true, true, true, true, false, true, false, true, false, false, false, false, false, false, false] HT_ ?_
           refine tk_ (i := 9) (N := some 46) #[true, true, true, true, true, true, true, true, true, true, true, false, true, false, false, false, false, false, false, false] rfl rfl HT_ HW_ hHeld ?_
           refine take_ (i := 11) (N := some 48) (v := ?_) (a' := ?_) #[true, true, true, true, true, true, true, true, true, true, true, true, true, false, false, false, false, false, false, false] rfl rfl (take_ofW HT_.out HW_.out KR) (fun _ _ _ h => h) (Or.inl ⟨by rfl, ?_⟩) hHeld ?_ ?_
           rotate_left
           ·rintro w' ⟨s0, s1, s2, s3, s4, s5, s6, s7, s8, s9, s10, s11, s12, s13⟩
            go_simp
            with_reducible rfl
           rotate_left
           ·simp only [Act.put, List.setIfInBounds_toArray, List.set_cons_zero, List.set_cons_succ, i64_w, i32_w]
            rfl
           refine tk_ (i := 13) (N := some 50) #[true, true, true, true, true, true, true, true, true, true, true, true, true, true, false, false, false, false, false, false] rfl rfl HT_ HW_ hHeld ?_
           refine pu_ (i := 14) (N := some 51) #[true, true, true, true, true, true, true, true, true, true, true, true, true, true, true, false, false, false, false, false] HT_ ?_
           refine tk_ (i := 15) (N := some 52) #[true, true, true, true, true, true, true, true, true, true, true, true, true, true, true, true, false, false, false, false] rfl rfl HT_ HW_ hHeld ?_
           refine pu_ (i := 16) (N := some 53) #[true, true, true, true, true, true, true, true, true, true, true, true, true, true, true, true, true, false, false, false] HT_ ?_
           refine pu_ (i := 17) (N := some 54) #[true, true, true, true, true, true, true, true, true, true, true, true, true, true, true, true, true, true, false, false] HT_ ?_
           refine pu_ (i := 18) (N := some 55) #[true, true, true, true, true, true, true, true, true, true, true, true, true, true, true, true, true, true, true, false] HT_ ?_
           refine last_ (i := 19) (N := none) #[true, true, true, true, true, true, true, true, true, true, true, true, true, true, true, true, true, true, true, true] rfl rfl (one_of HT_.out KR) (by decide) (fun K hK => ?_)
           refine skip_ (w1 := ?_) (by rfl) rfl ?_ ?_
           rotate_left
           ·go_simp
            rfl
           refine hK.out _ _ ?_
           clear hK K
           refine done_ (done_of HT_.out KR) ?_
           generalize hW_ : (w39.setCell ⟨go16, (((rd_T121 l0 a1_0).f1) : Int).toNat, none⟩ (.int .i64 (Int.tmod (wrap64 ((rd l1_1 ((rd_T121 l0 a1_0).f2)) + (rd l1_1 ((rd_T121 l0 a1_0).f3)))) 1000))) = w41
           replace HO152 : Aside0 (Kd.R (Kd.int .i64) 3 w41 w.heap.size (fun k_ => some k_ ≠ (.slice (some ⟨go16, 0, none⟩) t147.length co26 : Value).ownBlock ∧ some k_ ≠ (.slice Ao28 t153.length co28 : Value).ownBlock) (.slice Ao27 t150.length co27) t150) := ⟨by rw [← hW_]; exact RX (Kd.R_mono HO152.out (fun k_ hk => (⟨hk, fun e_ => hk.1 (by rw [e_]; rfl)⟩ : _ ∧ k_ ≠ go16))) (fun _ hk => by first | exact ⟨hk.1.1, hk.1.2⟩ | simp_all)⟩
           replace HO155 : Aside0 (Kd.R (Kd.int .i64) 3 w41 w.heap.size (fun k_ => some k_ ≠ (.slice (some ⟨go16, 0, none⟩) t147.length co26 : Value).ownBlock ∧ some k_ ≠ (.slice Ao27 t150.length co27 : Value).ownBlock) (.slice Ao28 t153.length co28) t153) := ⟨by rw [← hW_]; exact RX (Kd.R_mono HO155.out (fun k_ hk => (⟨hk, fun e_ => hk.1 (by rw [e_]; rfl)⟩ : _ ∧ k_ ≠ go16))) (fun _ hk => by first | exact ⟨hk.1.1, hk.1.2⟩ | simp_all)⟩
           replace BK144 := BQ hW_ HO149 BK144
           replace BK145 := BQ hW_ HO149 BK145
           replace BK156 := BQ hW_ HO149 BK156
           replace BK159 := BQ hW_ HO149 BK159
           replace HO149 : Aside0 (Kd.R (Kd.int .i64) 3 w41 w.heap.size (fun k_ => some k_ ≠ (.slice Ao27 t150.length co27 : Value).ownBlock ∧ some k_ ≠ (.slice Ao28 t153.length co28 : Value).ownBlock) (.slice (some ⟨go16, 0, none⟩) t147.length co26) y162) := ⟨by rw [← hW_]; exact PR HQ40⟩
           replace HB := BL hW_ HB
           (try clear hW_)
           obtain ⟨_, _, _, _, _, _, _, _⟩ := bc4 BK156
           obtain ⟨_, _, _, _, _, _, _, _⟩ := bc4 BK145
           try go_wp2
           refine bodyPost_ret (results_cell_row rfl _ _ gb145 45 #[.int .i64 (wrap64 (t146 + 1)), .slice (some ⟨go16, 0, none⟩) t147.length co26, .slice Ao27 t150.length co27, .slice Ao28 t153.length co28] (0, 0) _ rfl (PX BK145) Try.underlying45 rfl KR) rfl ?_
           exact ⟨_, _, _, RT, Re1 HO149 BK145, Re1 HO152 BK145, Re1 HO155 BK145, PB⟩
          ·rw [if_neg c15] at H
           exact absurd H (by simp)
         ·rw [if_neg c14] at H
          exact absurd H (by simp)
        ·rw [if_neg c13] at H
         exact absurd H (by simp)
       ·rw [if_neg c12] at H
        exact absurd H (by simp)
      ·rw [if_neg c11] at H
       exact absurd H (by simp)
     ·rw [if_neg c10] at H
      exact absurd H (by simp)
    ·rw [if_neg c9] at H
     have c9b0 : (((rd_T121 l0 a1_0).f0) == 5) = false := beq_eq_false_iff_ne.mpr c9
     have c9b1 : (((rd_T121 l0 a1_0).f0) != 5) = true := bne_iff_ne.mpr c9
     by_cases c44 : ((rd_T121 l0 a1_0).f0) = 6
     ·rw [if_pos c44] at H
      have c44b0 : (((rd_T121 l0 a1_0).f0) == 6) = true := beq_iff_eq.mpr c44
      have c44b1 : (((rd_T121 l0 a1_0).f0) != 6) = false := bne_eq_false_iff_eq.mpr c44
      clear c44
      by_cases c45 : 0 ≤ ((rd_T121 l0 a1_0).f1)
      ·rw [if_pos c45] at H
       have c45b0 : decide (0 ≤ ((rd_T121 l0 a1_0).f1)) = true := decide_eq_true c45
       clear c45
       by_cases c46 : ((rd_T121 l0 a1_0).f1) < (l1_1.length : Int)
       ·rw [if_pos c46] at H
        have c46b0 : decide (((rd_T121 l0 a1_0).f1) < (l1_1.length : Int)) = true := decide_eq_true c46
        clear c46
        by_cases c47 : 0 ≤ ((rd_T121 l0 a1_0).f2)
        ·rw [if_pos c47] at H
         have c47b0 : decide (0 ≤ ((rd_T121 l0 a1_0).f2)) = true := decide_eq_true c47
         clear c47
         by_cases c48 : ((rd_T121 l0 a1_0).f2) < (t153.length : Int)
         ·rw [if_pos c48] at H
          have c48b0 : decide (((rd_T121 l0 a1_0).f2) < (t153.length : Int)) = true := decide_eq_true c48
          clear c48
          obtain ⟨y164, hy164⟩ : ∃ y_ : List Int, y_ = (t153.set (((rd_T121 l0 a1_0).f2) : Int).toNat (rd l1_1 ((rd_T121 l0 a1_0).f1))) := ⟨_, rfl⟩
          replace H : (some (wrap64 (t146 + 1), t147, t150, y164)) = some (r1, r2, r3, r4) := by first | (rw [hy164]; with_reducible exact H) | (have H2_ := (Option.bind_some _ _).symm.trans H; rw [hy164]; with_reducible exact H2_) | (have H2_ := (Option.bind_some _ _).symm.trans H; with_reducible exact H2_) | with_reducible exact H | (rw [hy164]; exact H) | exact H
          have Ny164 := Aside0.mk hy164
          clear hy164
          simp only [Option.some.injEq, Prod.mk.injEq] at H
          obtain ⟨rfl, rfl, rfl, rfl⟩ := H
          go_enter Try.func20, Try.ntmps20
          try go_wp2_with (first | ((with_reducible refine gate_dst (N := 4) rfl ?_); refine bx_ (N := 4) #[.int .i64 a1_0, .slice A1_1 l1_1.length c1_1, .slice A1_2 l1_2.length c1_2, .slice A1_3 l1_3.length c1_3] 45 ?_; intro gb144 hg w50 hbox hb; have BK144 := ak hbox; have GW144 := gy hg HB; have GE144 := gy hg HB; replace HB := bs HB hb; clear hb hbox hg) | ((with_reducible refine gate_dst (N := 6) rfl ?_); refine bx_ (N := 6) #[.int .i64 0, .slice none 0 0, .slice none 0 0, .slice none 0 0] 45 ?_; intro gb145 hg w51 hbox hb; have BK145 := ak hbox; have GW145 := gy hg HB; have GE145 := gy hg HB; replace HB := bs HB hb; have NB144_145 := gm hg BK144; have NB145_144 := gn hg BK144; replace BK144 := kf BK144 hb; clear hb hbox hg; have hnb52 := NB144_145.out; have hnc52 := NB145_144.out; obtain ⟨_, _, _, _, _, _, _, _⟩ := bc4 BK144) | ((with_reducible refine gate_callee (f := 77) rfl ?_); refine goesL_ (some 10) rfl rfl Try.func77 KR rfl #[.agg #[.int .i64 a1_0, .slice A1_1 l1_1.length c1_1, .slice A1_2 l1_2.length c1_2, .slice A1_3 l1_3.length c1_3]] rfl AR ?_; (with_reducible refine (impl_copyState.calls a1_0 _ _ l1_1 _ _ l1_2 _ _ l1_3 t146 t147 t150 t153 _ ?side1 ?side2 ?side3 ?side4 ?side5 ?side6 A4.out).mono ?_); (case side1 => exact CR (Kd.C_below HR1_1.out HB.out)); (case side2 => exact HC1_1.out); (case side3 => exact CR (Kd.C_below HR1_2.out HB.out)); (case side4 => exact HC1_2.out); (case side5 => exact CR (Kd.C_below HR1_3.out HB.out)); (case side6 => exact HC1_3.out); rintro e w54 ⟨v148, v151, v154, rfl, ho0, ho1, ho2, hb⟩; refine ⟨_, rfl, ?_⟩; have HO149 := Rn0 ho0 HB; have HO152 := Rn0 ho1 HB; have HO155 := Rn0 ho2 HB; replace BK144 := kf BK144 hb; replace BK145 := kf BK145 hb; replace HB := bs HB hb; (try clear hb); (try clear hb2); (try clear hk); (try clear hi); (try clear ho0); (try clear ho1); (try clear ho2)) | ((with_reducible refine gate_dst (N := 7) rfl ?_); refine bx_ (N := 7) #[.int .i64 0, .slice none 0 0, .slice none 0 0, .slice none 0 0] 45 ?_; intro gb156 hg w55 hbox hb; replace HO149 := Rb HO149 hb; replace HO152 := Rb HO152 hb; replace HO155 := Rb HO155 hb; have BK156 := ak hbox; have GW156 := gy hg HB; have GE156 := gy hg HB; replace HB := bs HB hb; have NB144_156 := gm hg BK144; have NB156_144 := gn hg BK144; replace BK144 := kf BK144 hb; have NB145_156 := gm hg BK145; have NB156_145 := gn hg BK145; replace BK145 := kf BK145 hb; clear hb hbox hg; have hnb56 := NB156_144.out; have hnc56 := NB144_156.out; have hnb57 := NB156_145.out; have hnc57 := NB145_156.out; obtain ⟨_, _, _, _, _, _, _, _⟩ := bc4 BK156; obtain ⟨Ao59, co59, eo59⟩ := Kd.R_slice HO149.out; subst eo59; obtain ⟨Ao60, co60, eo60⟩ := Kd.R_slice HO152.out; subst eo60; obtain ⟨Ao61, co61, eo61⟩ := Kd.R_slice HO155.out; subst eo61; obtain ⟨_, _, _, _, _, _, _, _⟩ := bc4 BK144) | ((with_reducible refine gate_callee (f := 78) rfl ?_); refine goesL_ (some 13) rfl rfl Try.func78 KR rfl #[.slice A0 l0.length c0, .agg #[.int .i64 a1_0, .slice A1_1 l1_1.length c1_1, .slice A1_2 l1_2.length c1_2, .slice A1_3 l1_3.length c1_3]] rfl AR ?_; (with_reducible refine (impl_canStep.calls k _ _ l0 a1_0 _ _ l1_1 _ _ l1_2 _ _ l1_3 true _ ?side1 ?side2 ?side3 ?side4 ?side5 ?side6 ?side7 ?side8 A5.out).mono ?_); (case side1 => exact Kd.C_below HR0.out PB); (case side2 => exact HC0.out); (case side3 => exact Kd.C_below HR1_1.out PB); (case side4 => exact HC1_1.out); (case side5 => exact Kd.C_below HR1_2.out PB); (case side6 => exact HC1_2.out); (case side7 => exact Kd.C_below HR1_3.out PB); (case side8 => exact HC1_3.out); rintro e w63 ⟨rfl, hb⟩; refine ⟨_, rfl, ?_⟩; replace HO149 := ak (Kd.R_below (Re1 HO149 BK156) hb); replace HO152 := ak (Kd.R_below (Re1 HO152 BK156) hb); replace HO155 := ak (Kd.R_below (Re1 HO155 BK156) hb); replace BK144 := kf BK144 hb; replace BK145 := kf BK145 hb; replace BK156 := kp (cs' := #[.int .i64 t146, .slice Ao59 t147.length co59, .slice Ao60 t150.length co60, .slice Ao61 t153.length co61]) BK156 hb; replace HB := bs HB hb; (try clear hb); (try clear hb2); (try clear hk); (try clear hi); obtain ⟨_, _, _, _, _, _, _, _⟩ := bc4 BK144; have p158 : 0 ≤ (a1_0 : Int) := of_decide_eq_true (by first | (with_reducible assumption) | assumption); have q158 : a1_0 < (l0.length : Int) := of_decide_eq_true (by first | (with_reducible assumption) | assumption); obtain ⟨ad158, e158, hx158_0, hx158_1, hx158_2, hx158_3⟩ := at_T121 HR0.out a1_0 p158 q158; cases e158; replace hx158_0 := hx_ HB hx158_0; replace hx158_1 := hx_ HB hx158_1; replace hx158_2 := hx_ HB hx158_2; replace hx158_3 := hx_ HB hx158_3; replace p158 := eq_true p158; replace q158 := eq_true q158) | ((with_reducible refine gate_dst (N := 8) rfl ?_); refine bx_ (N := 8) #[.int .i64 0, .int .i64 0, .int .i64 0, .int .i64 0] 121 ?_; intro gb159 hg w65 hbox hb; replace HO149 := Rb HO149 hb; replace HO152 := Rb HO152 hb; replace HO155 := Rb HO155 hb; have BK159 := ak hbox; have GW159 := gy hg HB; have GE159 := gy hg HB; replace HB := bs HB hb; have NB144_159 := gm hg BK144; have NB159_144 := gn hg BK144; replace BK144 := kf BK144 hb; have NB145_159 := gm hg BK145; have NB159_145 := gn hg BK145; replace BK145 := kf BK145 hb; have NB156_159 := gm hg BK156; have NB159_156 := gn hg BK156; replace BK156 := kf BK156 hb; clear hb hbox hg; have hnb66 := NB159_144.out; have hnc66 := NB144_159.out; have hnb67 := NB159_145.out; have hnc67 := NB145_159.out; have hnb68 := NB159_156.out; have hnc68 := NB156_159.out; obtain ⟨_, _, _, _, _, _, _, _⟩ := bc4 BK159; obtain ⟨_, _, _, _, _, _, _, _⟩ := bc4 BK156))
          generalize hW_ : (((((w65.setCell ⟨gb159, 0, none⟩ (.int .i64 ((rd_T121 l0 a1_0).f0))).setCell ⟨gb159, 1, none⟩ (.int .i64 ((rd_T121 l0 a1_0).f1))).setCell ⟨gb159, 2, none⟩ (.int .i64 ((rd_T121 l0 a1_0).f2))).setCell ⟨gb159, 3, none⟩ (.int .i64 ((rd_T121 l0 a1_0).f3))).setCell ⟨gb156, 0, none⟩ (.int .i64 (wrap64 (t146 + 1)))) = w71
          replace HO149 := R2 hW_ HO149 BK159 BK156
          replace HO152 := R2 hW_ HO152 BK159 BK156
          replace HO155 := R2 hW_ HO155 BK159 BK156
          replace BK144 := BE hW_ BK144
          replace BK145 := BE hW_ BK145
          replace BK156 : Aside0 (w71.heap[gb156]? = some (.cells #[.int .i64 (wrap64 (t146 + 1)), .slice Ao59 t147.length co59, .slice Ao60 t150.length co60, .slice Ao61 t153.length co61] 45 (0, 0))) := BP hW_ BK156
          replace BK159 : Aside0 (w71.heap[gb159]? = some (.cells #[.int .i64 ((rd_T121 l0 a1_0).f0), .int .i64 ((rd_T121 l0 a1_0).f1), .int .i64 ((rd_T121 l0 a1_0).f2), .int .i64 ((rd_T121 l0 a1_0).f3)] 121 (0, 0))) := BP hW_ BK159
          replace HB := BL hW_ HB
          (try clear hW_)
          replace HO149 := ak (Kd.R_drew HO149.out)
          replace HO152 := ak (Kd.R_drew HO152.out)
          replace HO155 := ak (Kd.R_drew HO155.out)
          replace BK144 := ak (blk_drew BK144.out)
          replace BK145 := ak (blk_drew BK145.out)
          replace BK156 := ak (blk_drew BK156.out)
          replace BK159 := ak (blk_drew BK159.out)
          replace HB := ak (below_drew1 HB.out)
          have p163 : 0 ≤ (((rd_T121 l0 a1_0).f1) : Int) := of_decide_eq_true (by first | (with_reducible assumption) | assumption)
          have q163 : ((rd_T121 l0 a1_0).f1) < (l1_1.length : Int) := of_decide_eq_true (by first | (with_reducible assumption) | assumption)
          obtain ⟨ad163, e163, hx163_0⟩ := Kd.at_int HR1_1.out ((rd_T121 l0 a1_0).f1) p163 q163
          have hw163_0 := hx163_0
          cases e163
          replace hx163_0 := hx_ HB hx163_0
          replace p163 := eq_true p163
          replace q163 := eq_true q163
          have p49 : 0 ≤ (((rd_T121 l0 a1_0).f2) : Int) := of_decide_eq_true (by first | (with_reducible assumption) | assumption)
          have q49 : (((rd_T121 l0 a1_0).f2) : Int) < ((t153.length : Int) : Int) := of_decide_eq_true (by first | (with_reducible assumption) | assumption)
          obtain ⟨go49, co49, eo49, gb49, gl49, cl49, HG49⟩ := Kd.R_form HO155.out (by omega)
          (first | cases eo49 | (injection eo49 with ea_ en_ ec_; (first | subst ea_ | (injection ea_ with ea_; subst ea_)); subst ec_; clear en_))
          have GB49 := Aside0.mk gb49
          have GG49 := Aside0.mk HG49
          clear gb49 gl49 HG49
          obtain ⟨hx49_0, hf49_0⟩ := Kd.R_celln 0 HO155.out (((rd_T121 l0 a1_0).f2) : Int) p49 q49
          replace p49 := eq_true p49
          replace q49 := eq_true q49
          have HP73 := Kd.R_putn HO155.out (((rd_T121 l0 a1_0).f2) : Int) (rd l1_1 ((rd_T121 l0 a1_0).f1))
          rw [← Ny164.out] at HP73
          have HQ73 := Aside0.mk HP73
          clear HP73
          refine start_ (n := 12) (S := fun w' => w'.cell? ⟨gb156, 0, none⟩ = some (.int .i64 (wrap64 (t146 + 1))) ∧ w'.cell? ⟨gb156, 1, none⟩ = some (.slice Ao59 t147.length co59) ∧ w'.cell? ⟨gb156, 2, none⟩ = some (.slice Ao60 t150.length co60) ∧ w'.cell? ⟨gb156, 3, none⟩ = some (.slice (some ⟨go49, 0, none⟩) t153.length co61) ∧ w'.cell? ⟨gb159, 0, none⟩ = some (.int .i64 ((rd_T121 l0 a1_0).f0)) ∧ w'.cell? ⟨gb159, 1, none⟩ = some (.int .i64 ((rd_T121 l0 a1_0).f1)) ∧ w'.cell? ⟨gb159, 2, none⟩ = some (.int .i64 ((rd_T121 l0 a1_0).f2)) ∧ w'.cell? ⟨gb159, 3, none⟩ = some (.int .i64 ((rd_T121 l0 a1_0).f3)) ∧ w'.cell? ⟨gb144, 0, none⟩ = some (.int .i64 a1_0) ∧ w'.cell? ⟨gb144, 1, none⟩ = some (.slice (some ad163) l1_1.length c1_1) ∧ w'.cell? ⟨gb144, 2, none⟩ = some (.slice A1_2 l1_2.length c1_2) ∧ w'.cell? ⟨gb144, 3, none⟩ = some (.slice A1_3 l1_3.length c1_3) ∧ w'.cell? (ad163.add (((rd_T121 l0 a1_0).f1)).toNat) = some (.int .i64 (rd l1_1 ((rd_T121 l0 a1_0).f1)))) (ds := [11]) b3_12 KR rfl rfl ⟨(blk_cell BK156.out 0).trans rfl, (blk_cell BK156.out 1).trans rfl, (blk_cell BK156.out 2).trans rfl, (blk_cell BK156.out 3).trans rfl, (blk_cell BK159.out 0).trans rfl, (blk_cell BK159.out 1).trans rfl, (blk_cell BK159.out 2).trans rfl, (blk_cell BK159.out 3).trans rfl, (blk_cell BK144.out 0).trans rfl, (blk_cell BK144.out 1).trans rfl, (blk_cell BK144.out 2).trans rfl, (blk_cell BK144.out 3).trans rfl, ((HB.out.cell (World.block_lt_of_cell? w _ hw163_0)).trans hw163_0)⟩ (fun hHeld => ?_); refine with_tabW impl_StepState.tab11 impl_StepState.bits11 (fun HT_ HW_ => ?_)
          generalize w71.drew = w72 at HO149 HO152 HO155 BK144 BK145 BK156 BK159 HB GG49 HQ73 hf49_0 hx163_0 hx49_0 hHeld ⊢
          refine pu_ (i := 0) (N := some 58) b3_11 HT_ ?_
          refine pu_ (i := 2) (N := some 60) b3_10 HT_ ?_
          refine pu_ (i := 4) (N := some 62) b3_9 HT_ ?_
          refine pu_ (i := 6) (N := some 64) b3_8 HT_ ?_
          refine tk_ (i := 1) (N := some 59) b3_7 rfl rfl HT_ HW_ hHeld ?_
          refine take_ (i := 3) (N := some 61) (v := ?_) (a' := ?_) b3_6 rfl rfl (take_ofW HT_.out HW_.out KR) (fun _ _ _ h => h) (Or.inl ⟨by rfl, ?_⟩) hHeld ?_ ?_
          rotate_left
          ·rintro w' ⟨s0, s1, s2, s3, s4, s5, s6, s7, s8, s9, s10, s11, s12⟩
           go_simp
           with_reducible rfl
          rotate_left
          ·simp only [Act.put, List.setIfInBounds_toArray, List.set_cons_zero, List.set_cons_succ, i64_w, i32_w]
           rfl
          refine tk_ (i := 5) (N := some 63) b3_5 rfl rfl HT_ HW_ hHeld ?_
          refine take_ (i := 7) (N := some 65) (v := ?_) (a' := ?_) b3_4 rfl rfl (take_ofW HT_.out HW_.out KR) (fun _ _ _ h => h) (Or.inl ⟨by rfl, ?_⟩) hHeld ?_ ?_
          rotate_left
          ·rintro w' ⟨s0, s1, s2, s3, s4, s5, s6, s7, s8, s9, s10, s11, s12⟩
           go_simp
           with_reducible rfl
          rotate_left
          ·simp only [Act.put, List.setIfInBounds_toArray, List.set_cons_zero, List.set_cons_succ, i64_w, i32_w]
           rfl
          refine pu_ (i := 8) (N := some 66) b3_3 HT_ ?_
          refine tk_ (i := 9) (N := some 67) b3_2 rfl rfl HT_ HW_ hHeld ?_
          refine pu_ (i := 10) (N := some 68) b3_1 HT_ ?_
          refine last_ (i := 11) (N := none) b3_0 rfl rfl (one_of HT_.out KR) (by decide) (fun K hK => ?_)
          refine skip_ (w1 := ?_) (by rfl) rfl ?_ ?_
          rotate_left
          ·go_simp
           rfl
          refine hK.out _ _ ?_
          clear hK K
          refine done_ (done_of HT_.out KR) ?_
          generalize hW_ : (w72.setCell ⟨go49, (((rd_T121 l0 a1_0).f2) : Int).toNat, none⟩ (.int .i64 (rd l1_1 ((rd_T121 l0 a1_0).f1)))) = w74
          replace HO149 : Aside0 (Kd.R (Kd.int .i64) 3 w74 w.heap.size (fun k_ => some k_ ≠ (.slice Ao60 t150.length co60 : Value).ownBlock ∧ some k_ ≠ (.slice (some ⟨go49, 0, none⟩) t153.length co61 : Value).ownBlock) (.slice Ao59 t147.length co59) t147) := ⟨by rw [← hW_]; exact RX (Kd.R_mono HO149.out (fun k_ hk => (⟨hk, fun e_ => hk.2 (by rw [e_]; rfl)⟩ : _ ∧ k_ ≠ go49))) (fun _ hk => by first | exact ⟨hk.1.1, hk.1.2⟩ | simp_all)⟩
          replace HO152 : Aside0 (Kd.R (Kd.int .i64) 3 w74 w.heap.size (fun k_ => some k_ ≠ (.slice Ao59 t147.length co59 : Value).ownBlock ∧ some k_ ≠ (.slice (some ⟨go49, 0, none⟩) t153.length co61 : Value).ownBlock) (.slice Ao60 t150.length co60) t150) := ⟨by rw [← hW_]; exact RX (Kd.R_mono HO152.out (fun k_ hk => (⟨hk, fun e_ => hk.2 (by rw [e_]; rfl)⟩ : _ ∧ k_ ≠ go49))) (fun _ hk => by first | exact ⟨hk.1.1, hk.1.2⟩ | simp_all)⟩
          replace BK144 := BQ hW_ HO155 BK144
          replace BK145 := BQ hW_ HO155 BK145
          replace BK156 := BQ hW_ HO155 BK156
          replace BK159 := BQ hW_ HO155 BK159
          replace HO155 : Aside0 (Kd.R (Kd.int .i64) 3 w74 w.heap.size (fun k_ => some k_ ≠ (.slice Ao59 t147.length co59 : Value).ownBlock ∧ some k_ ≠ (.slice Ao60 t150.length co60 : Value).ownBlock) (.slice (some ⟨go49, 0, none⟩) t153.length co61) y164) := ⟨by rw [← hW_]; exact PR HQ73⟩
          replace HB := BL hW_ HB
          (try clear hW_)
          obtain ⟨_, _, _, _, _, _, _, _⟩ := bc4 BK156
          obtain ⟨_, _, _, _, _, _, _, _⟩ := bc4 BK145
          try go_wp2
          refine bodyPost_ret (results_cell_row rfl _ _ gb145 45 #[.int .i64 (wrap64 (t146 + 1)), .slice Ao59 t147.length co59, .slice Ao60 t150.length co60, .slice (some ⟨go49, 0, none⟩) t153.length co61] (0, 0) _ rfl (PX BK145) Try.underlying45 rfl KR) rfl ?_
          exact ⟨_, _, _, RT, Re1 HO149 BK145, Re1 HO152 BK145, Re1 HO155 BK145, PB⟩
         ·rw [if_neg c48] at H
          exact absurd H (by simp)
        ·rw [if_neg c47] at H
         exact absurd H (by simp)
       ·rw [if_neg c46] at H
        exact absurd H (by simp)
      ·rw [if_neg c45] at H
       exact absurd H (by simp)
     ·rw [if_neg c44] at H
      have c44b0 : (((rd_T121 l0 a1_0).f0) == 6) = false := beq_eq_false_iff_ne.mpr c44
      have c44b1 : (((rd_T121 l0 a1_0).f0) != 6) = true := bne_iff_ne.mpr c44
      by_cases c77 : ((rd_T121 l0 a1_0).f0) = 7
      ·rw [if_pos c77] at H
       have c77b0 : (((rd_T121 l0 a1_0).f0) == 7) = true := beq_iff_eq.mpr c77
       have c77b1 : (((rd_T121 l0 a1_0).f0) != 7) = false := bne_eq_false_iff_eq.mpr c77
       clear c77
       by_cases c78 : 0 ≤ ((rd_T121 l0 a1_0).f1)
       ·rw [if_pos c78] at H
        have c78b0 : decide (0 ≤ ((rd_T121 l0 a1_0).f1)) = true := decide_eq_true c78
        clear c78
        by_cases c79 : ((rd_T121 l0 a1_0).f1) < (l1_1.length : Int)
        ·rw [if_pos c79] at H
         have c79b0 : decide (((rd_T121 l0 a1_0).f1) < (l1_1.length : Int)) = true := decide_eq_true c79
         clear c79
         by_cases c80 : (Int.tmod (rd l1_1 ((rd_T121 l0 a1_0).f1)) 2) = 0
         ·rw [if_pos c80] at H
          have c80b0 : ((Int.tmod (rd l1_1 ((rd_T121 l0 a1_0).f1)) 2) == 0) = true := beq_iff_eq.mpr c80
          have c80b1 : ((Int.tmod (rd l1_1 ((rd_T121 l0 a1_0).f1)) 2) != 0) = false := bne_eq_false_iff_eq.mpr c80
          clear c80
          simp only [Option.some.injEq, Prod.mk.injEq] at H
          obtain ⟨rfl, rfl, rfl, rfl⟩ := H
          go_enter Try.func20, Try.ntmps20
          go_upto_region 19 with (first | ((with_reducible refine gate_dst (N := 4) rfl ?_); refine bx_ (N := 4) #[.int .i64 a1_0, .slice A1_1 l1_1.length c1_1, .slice A1_2 l1_2.length c1_2, .slice A1_3 l1_3.length c1_3] 45 ?_; intro gb144 hg w81 hbox hb; have BK144 := ak hbox; have GW144 := gy hg HB; have GE144 := gy hg HB; replace HB := bs HB hb; clear hb hbox hg) | ((with_reducible refine gate_dst (N := 6) rfl ?_); refine bx_ (N := 6) #[.int .i64 0, .slice none 0 0, .slice none 0 0, .slice none 0 0] 45 ?_; intro gb145 hg w82 hbox hb; have BK145 := ak hbox; have GW145 := gy hg HB; have GE145 := gy hg HB; replace HB := bs HB hb; have NB144_145 := gm hg BK144; have NB145_144 := gn hg BK144; replace BK144 := kf BK144 hb; clear hb hbox hg; have hnb83 := NB144_145.out; have hnc83 := NB145_144.out; obtain ⟨_, _, _, _, _, _, _, _⟩ := bc4 BK144) | ((with_reducible refine gate_callee (f := 77) rfl ?_); refine goesL_ (some 10) rfl rfl Try.func77 KR rfl #[.agg #[.int .i64 a1_0, .slice A1_1 l1_1.length c1_1, .slice A1_2 l1_2.length c1_2, .slice A1_3 l1_3.length c1_3]] rfl AR ?_; (with_reducible refine (impl_copyState.calls a1_0 _ _ l1_1 _ _ l1_2 _ _ l1_3 t146 t147 t150 t153 _ ?side1 ?side2 ?side3 ?side4 ?side5 ?side6 A4.out).mono ?_); (case side1 => exact CR (Kd.C_below HR1_1.out HB.out)); (case side2 => exact HC1_1.out); (case side3 => exact CR (Kd.C_below HR1_2.out HB.out)); (case side4 => exact HC1_2.out); (case side5 => exact CR (Kd.C_below HR1_3.out HB.out)); (case side6 => exact HC1_3.out); rintro e w85 ⟨v148, v151, v154, rfl, ho0, ho1, ho2, hb⟩; refine ⟨_, rfl, ?_⟩; have HO149 := Rn0 ho0 HB; have HO152 := Rn0 ho1 HB; have HO155 := Rn0 ho2 HB; replace BK144 := kf BK144 hb; replace BK145 := kf BK145 hb; replace HB := bs HB hb; (try clear hb); (try clear hb2); (try clear hk); (try clear hi); (try clear ho0); (try clear ho1); (try clear ho2)) | ((with_reducible refine gate_dst (N := 7) rfl ?_); refine bx_ (N := 7) #[.int .i64 0, .slice none 0 0, .slice none 0 0, .slice none 0 0] 45 ?_; intro gb156 hg w86 hbox hb; replace HO149 := Rb HO149 hb; replace HO152 := Rb HO152 hb; replace HO155 := Rb HO155 hb; have BK156 := ak hbox; have GW156 := gy hg HB; have GE156 := gy hg HB; replace HB := bs HB hb; have NB144_156 := gm hg BK144; have NB156_144 := gn hg BK144; replace BK144 := kf BK144 hb; have NB145_156 := gm hg BK145; have NB156_145 := gn hg BK145; replace BK145 := kf BK145 hb; clear hb hbox hg; have hnb87 := NB156_144.out; have hnc87 := NB144_156.out; have hnb88 := NB156_145.out; have hnc88 := NB145_156.out; obtain ⟨_, _, _, _, _, _, _, _⟩ := bc4 BK156; obtain ⟨Ao90, co90, eo90⟩ := Kd.R_slice HO149.out; subst eo90; obtain ⟨Ao91, co91, eo91⟩ := Kd.R_slice HO152.out; subst eo91; obtain ⟨Ao92, co92, eo92⟩ := Kd.R_slice HO155.out; subst eo92; obtain ⟨_, _, _, _, _, _, _, _⟩ := bc4 BK144) | ((with_reducible refine gate_callee (f := 78) rfl ?_); refine goesL_ (some 13) rfl rfl Try.func78 KR rfl #[.slice A0 l0.length c0, .agg #[.int .i64 a1_0, .slice A1_1 l1_1.length c1_1, .slice A1_2 l1_2.length c1_2, .slice A1_3 l1_3.length c1_3]] rfl AR ?_; (with_reducible refine (impl_canStep.calls k _ _ l0 a1_0 _ _ l1_1 _ _ l1_2 _ _ l1_3 true _ ?side1 ?side2 ?side3 ?side4 ?side5 ?side6 ?side7 ?side8 A5.out).mono ?_); (case side1 => exact Kd.C_below HR0.out PB); (case side2 => exact HC0.out); (case side3 => exact Kd.C_below HR1_1.out PB); (case side4 => exact HC1_1.out); (case side5 => exact Kd.C_below HR1_2.out PB); (case side6 => exact HC1_2.out); (case side7 => exact Kd.C_below HR1_3.out PB); (case side8 => exact HC1_3.out); rintro e w94 ⟨rfl, hb⟩; refine ⟨_, rfl, ?_⟩; replace HO149 := ak (Kd.R_below (Re1 HO149 BK156) hb); replace HO152 := ak (Kd.R_below (Re1 HO152 BK156) hb); replace HO155 := ak (Kd.R_below (Re1 HO155 BK156) hb); replace BK144 := kf BK144 hb; replace BK145 := kf BK145 hb; replace BK156 := kp (cs' := #[.int .i64 t146, .slice Ao90 t147.length co90, .slice Ao91 t150.length co91, .slice Ao92 t153.length co92]) BK156 hb; replace HB := bs HB hb; (try clear hb); (try clear hb2); (try clear hk); (try clear hi); obtain ⟨_, _, _, _, _, _, _, _⟩ := bc4 BK144; have p158 : 0 ≤ (a1_0 : Int) := of_decide_eq_true (by first | (with_reducible assumption) | assumption); have q158 : a1_0 < (l0.length : Int) := of_decide_eq_true (by first | (with_reducible assumption) | assumption); obtain ⟨ad158, e158, hx158_0, hx158_1, hx158_2, hx158_3⟩ := at_T121 HR0.out a1_0 p158 q158; cases e158; replace hx158_0 := hx_ HB hx158_0; replace hx158_1 := hx_ HB hx158_1; replace hx158_2 := hx_ HB hx158_2; replace hx158_3 := hx_ HB hx158_3; replace p158 := eq_true p158; replace q158 := eq_true q158) | ((with_reducible refine gate_dst (N := 8) rfl ?_); refine bx_ (N := 8) #[.int .i64 0, .int .i64 0, .int .i64 0, .int .i64 0] 121 ?_; intro gb159 hg w96 hbox hb; replace HO149 := Rb HO149 hb; replace HO152 := Rb HO152 hb; replace HO155 := Rb HO155 hb; have BK159 := ak hbox; have GW159 := gy hg HB; have GE159 := gy hg HB; replace HB := bs HB hb; have NB144_159 := gm hg BK144; have NB159_144 := gn hg BK144; replace BK144 := kf BK144 hb; have NB145_159 := gm hg BK145; have NB159_145 := gn hg BK145; replace BK145 := kf BK145 hb; have NB156_159 := gm hg BK156; have NB159_156 := gn hg BK156; replace BK156 := kf BK156 hb; clear hb hbox hg; have hnb97 := NB159_144.out; have hnc97 := NB144_159.out; have hnb98 := NB159_145.out; have hnc98 := NB145_159.out; have hnb99 := NB159_156.out; have hnc99 := NB156_159.out; obtain ⟨_, _, _, _, _, _, _, _⟩ := bc4 BK159; obtain ⟨_, _, _, _, _, _, _, _⟩ := bc4 BK156; obtain ⟨_, _, _, _, _, _, _, _⟩ := bc4 BK144; have p165 : 0 ≤ (((rd_T121 l0 a1_0).f1) : Int) := of_decide_eq_true (by first | (with_reducible assumption) | assumption); have q165 : ((rd_T121 l0 a1_0).f1) < (l1_1.length : Int) := of_decide_eq_true (by first | (with_reducible assumption) | assumption); obtain ⟨ad165, e165, hx165_0⟩ := Kd.at_int HR1_1.out ((rd_T121 l0 a1_0).f1) p165 q165; cases e165; have hn165_0 : ad165.block ≠ gb159 := Nat.ne_of_lt (Nat.lt_of_lt_of_le (by have := World.block_lt_of_cell? _ _ hx165_0; first | rwa [add_block] at this | exact this) GW159.out); have hn165_1 : ad165.block ≠ gb159 := Nat.ne_of_lt (Nat.lt_of_lt_of_le (by have := World.block_lt_of_cell? _ _ hx165_0; first | rwa [add_block] at this | exact this) GW159.out); have hn165_2 : ad165.block ≠ gb159 := Nat.ne_of_lt (Nat.lt_of_lt_of_le (by have := World.block_lt_of_cell? _ _ hx165_0; first | rwa [add_block] at this | exact this) GW159.out); have hn165_3 : ad165.block ≠ gb159 := Nat.ne_of_lt (Nat.lt_of_lt_of_le (by have := World.block_lt_of_cell? _ _ hx165_0; first | rwa [add_block] at this | exact this) GW159.out); have hn165_4 : ad165.block ≠ gb156 := Nat.ne_of_lt (Nat.lt_of_lt_of_le (by have := World.block_lt_of_cell? _ _ hx165_0; first | rwa [add_block] at this | exact this) GW156.out); replace hx165_0 := hx_ HB hx165_0; replace hx165_0 := (cell_far (p := ⟨gb159, 0, none⟩) (by first | (rw [add_block]; exact hn165_0) | (show (Addr.add _ _).block ≠ _; rw [add_block]; exact hn165_0) | exact hn165_0) (.int .i64 ((rd_T121 l0 a1_0).f0))).trans hx165_0; replace hx165_0 := (cell_far (p := ⟨gb159, 1, none⟩) (by first | (rw [add_block]; exact hn165_1) | (show (Addr.add _ _).block ≠ _; rw [add_block]; exact hn165_1) | exact hn165_1) (.int .i64 ((rd_T121 l0 a1_0).f1))).trans hx165_0; replace hx165_0 := (cell_far (p := ⟨gb159, 2, none⟩) (by first | (rw [add_block]; exact hn165_2) | (show (Addr.add _ _).block ≠ _; rw [add_block]; exact hn165_2) | exact hn165_2) (.int .i64 ((rd_T121 l0 a1_0).f2))).trans hx165_0; replace hx165_0 := (cell_far (p := ⟨gb159, 3, none⟩) (by first | (rw [add_block]; exact hn165_3) | (show (Addr.add _ _).block ≠ _; rw [add_block]; exact hn165_3) | exact hn165_3) (.int .i64 ((rd_T121 l0 a1_0).f3))).trans hx165_0; replace hx165_0 := (cell_far (p := ⟨gb156, 0, none⟩) (by first | (rw [add_block]; exact hn165_4) | (show (Addr.add _ _).block ≠ _; rw [add_block]; exact hn165_4) | exact hn165_4) (.int .i64 (wrap64 (t146 + 1)))).trans hx165_0; clear hn165_0 hn165_1 hn165_2 hn165_3; clear hn165_4; replace p165 := eq_true p165; replace q165 := eq_true q165; obtain ⟨_, _, _, _, _, _, _, _⟩ := bc4 BK145))
          generalize hW_ : World.setCell (World.setCell _ ⟨gb156, 0, none⟩ _) ⟨gb156, 0, none⟩ _ = wz_
          replace HO149 := R2 hW_ HO149 BK159 BK156
          replace HO152 := R2 hW_ HO152 BK159 BK156
          replace HO155 := R2 hW_ HO155 BK159 BK156
          replace BK144 := BE hW_ BK144
          replace BK145 := BE hW_ BK145
          replace BK156 : Aside0 (wz_.heap[gb156]? = some (.cells #[.int .i64 (wrap64 ((wrap64 (t146 + 1)) + ((rd_T121 l0 a1_0).f2))), .slice Ao90 t147.length co90, .slice Ao91 t150.length co91, .slice Ao92 t153.length co92] 45 (0, 0))) := BP hW_ BK156
          replace HB := BL hW_ HB
          (try clear hW_)
          obtain ⟨_, _, _, _, _, _, _, _⟩ := bc4 BK156
          obtain ⟨_, _, _, _, _, _, _, _⟩ := bc4 BK145
          go_wp2
          refine bodyPost_ret (results_cell_row rfl _ _ gb145 45 #[.int .i64 (wrap64 ((wrap64 (t146 + 1)) + ((rd_T121 l0 a1_0).f2))), .slice Ao90 t147.length co90, .slice Ao91 t150.length co91, .slice Ao92 t153.length co92] (0, 0) _ rfl (PX BK145) Try.underlying45 rfl KR) rfl ?_
          exact ⟨_, _, _, RT, Re1 HO149 BK145, Re1 HO152 BK145, Re1 HO155 BK145, PB⟩
         ·rw [if_neg c80] at H
          have c80b0 : ((Int.tmod (rd l1_1 ((rd_T121 l0 a1_0).f1)) 2) == 0) = false := beq_eq_false_iff_ne.mpr c80
          have c80b1 : ((Int.tmod (rd l1_1 ((rd_T121 l0 a1_0).f1)) 2) != 0) = true := bne_iff_ne.mpr c80
          simp only [Option.some.injEq, Prod.mk.injEq] at H
          obtain ⟨rfl, rfl, rfl, rfl⟩ := H
          go_enter Try.func20, Try.ntmps20
          go_wp2_with (first | ((with_reducible refine gate_dst (N := 4) rfl ?_); refine bx_ (N := 4) #[.int .i64 a1_0, .slice A1_1 l1_1.length c1_1, .slice A1_2 l1_2.length c1_2, .slice A1_3 l1_3.length c1_3] 45 ?_; intro gb144 hg w104 hbox hb; have BK144 := ak hbox; have GW144 := gy hg HB; have GE144 := gy hg HB; replace HB := bs HB hb; clear hb hbox hg) | ((with_reducible refine gate_dst (N := 6) rfl ?_); refine bx_ (N := 6) #[.int .i64 0, .slice none 0 0, .slice none 0 0, .slice none 0 0] 45 ?_; intro gb145 hg w105 hbox hb; have BK145 := ak hbox; have GW145 := gy hg HB; have GE145 := gy hg HB; replace HB := bs HB hb; have NB144_145 := gm hg BK144; have NB145_144 := gn hg BK144; replace BK144 := kf BK144 hb; clear hb hbox hg; have hnb106 := NB144_145.out; have hnc106 := NB145_144.out; obtain ⟨_, _, _, _, _, _, _, _⟩ := bc4 BK144) | ((with_reducible refine gate_callee (f := 77) rfl ?_); refine goesL_ (some 10) rfl rfl Try.func77 KR rfl #[.agg #[.int .i64 a1_0, .slice A1_1 l1_1.length c1_1, .slice A1_2 l1_2.length c1_2, .slice A1_3 l1_3.length c1_3]] rfl AR ?_; (with_reducible refine (impl_copyState.calls a1_0 _ _ l1_1 _ _ l1_2 _ _ l1_3 t146 t147 t150 t153 _ ?side1 ?side2 ?side3 ?side4 ?side5 ?side6 A4.out).mono ?_); (case side1 => exact CR (Kd.C_below HR1_1.out HB.out)); (case side2 => exact HC1_1.out); (case side3 => exact CR (Kd.C_below HR1_2.out HB.out)); (case side4 => exact HC1_2.out); (case side5 => exact CR (Kd.C_below HR1_3.out HB.out)); (case side6 => exact HC1_3.out); rintro e w108 ⟨v148, v151, v154, rfl, ho0, ho1, ho2, hb⟩; refine ⟨_, rfl, ?_⟩; have HO149 := Rn0 ho0 HB; have HO152 := Rn0 ho1 HB; have HO155 := Rn0 ho2 HB; replace BK144 := kf BK144 hb; replace BK145 := kf BK145 hb; replace HB := bs HB hb; (try clear hb); (try clear hb2); (try clear hk); (try clear hi); (try clear ho0); (try clear ho1); (try clear ho2)) | ((with_reducible refine gate_dst (N := 7) rfl ?_); refine bx_ (N := 7) #[.int .i64 0, .slice none 0 0, .slice none 0 0, .slice none 0 0] 45 ?_; intro gb156 hg w109 hbox hb; replace HO149 := Rb HO149 hb; replace HO152 := Rb HO152 hb; replace HO155 := Rb HO155 hb; have BK156 := ak hbox; have GW156 := gy hg HB; have GE156 := gy hg HB; replace HB := bs HB hb; have NB144_156 := gm hg BK144; have NB156_144 := gn hg BK144; replace BK144 := kf BK144 hb; have NB145_156 := gm hg BK145; have NB156_145 := gn hg BK145; replace BK145 := kf BK145 hb; clear hb hbox hg; have hnb110 := NB156_144.out; have hnc110 := NB144_156.out; have hnb111 := NB156_145.out; have hnc111 := NB145_156.out; obtain ⟨_, _, _, _, _, _, _, _⟩ := bc4 BK156; obtain ⟨Ao113, co113, eo113⟩ := Kd.R_slice HO149.out; subst eo113; obtain ⟨Ao114, co114, eo114⟩ := Kd.R_slice HO152.out; subst eo114; obtain ⟨Ao115, co115, eo115⟩ := Kd.R_slice HO155.out; subst eo115; obtain ⟨_, _, _, _, _, _, _, _⟩ := bc4 BK144) | ((with_reducible refine gate_callee (f := 78) rfl ?_); refine goesL_ (some 13) rfl rfl Try.func78 KR rfl #[.slice A0 l0.length c0, .agg #[.int .i64 a1_0, .slice A1_1 l1_1.length c1_1, .slice A1_2 l1_2.length c1_2, .slice A1_3 l1_3.length c1_3]] rfl AR ?_; (with_reducible refine (impl_canStep.calls k _ _ l0 a1_0 _ _ l1_1 _ _ l1_2 _ _ l1_3 true _ ?side1 ?side2 ?side3 ?side4 ?side5 ?side6 ?side7 ?side8 A5.out).mono ?_); (case side1 => exact Kd.C_below HR0.out PB); (case side2 => exact HC0.out); (case side3 => exact Kd.C_below HR1_1.out PB); (case side4 => exact HC1_1.out); (case side5 => exact Kd.C_below HR1_2.out PB); (case side6 => exact HC1_2.out); (case side7 => exact Kd.C_below HR1_3.out PB); (case side8 => exact HC1_3.out); rintro e w117 ⟨rfl, hb⟩; refine ⟨_, rfl, ?_⟩; replace HO149 := ak (Kd.R_below (Re1 HO149 BK156) hb); replace HO152 := ak (Kd.R_below (Re1 HO152 BK156) hb); replace HO155 := ak (Kd.R_below (Re1 HO155 BK156) hb); replace BK144 := kf BK144 hb; replace BK145 := kf BK145 hb; replace BK156 := kp (cs' := #[.int .i64 t146, .slice Ao113 t147.length co113, .slice Ao114 t150.length co114, .slice Ao115 t153.length co115]) BK156 hb; replace HB := bs HB hb; (try clear hb); (try clear hb2); (try clear hk); (try clear hi); obtain ⟨_, _, _, _, _, _, _, _⟩ := bc4 BK144; have p158 : 0 ≤ (a1_0 : Int) := of_decide_eq_true (by first | (with_reducible assumption) | assumption); have q158 : a1_0 < (l0.length : Int) := of_decide_eq_true (by first | (with_reducible assumption) | assumption); obtain ⟨ad158, e158, hx158_0, hx158_1, hx158_2, hx158_3⟩ := at_T121 HR0.out a1_0 p158 q158; cases e158; replace hx158_0 := hx_ HB hx158_0; replace hx158_1 := hx_ HB hx158_1; replace hx158_2 := hx_ HB hx158_2; replace hx158_3 := hx_ HB hx158_3; replace p158 := eq_true p158; replace q158 := eq_true q158) | ((with_reducible refine gate_dst (N := 8) rfl ?_); refine bx_ (N := 8) #[.int .i64 0, .int .i64 0, .int .i64 0, .int .i64 0] 121 ?_; intro gb159 hg w119 hbox hb; replace HO149 := Rb HO149 hb; replace HO152 := Rb HO152 hb; replace HO155 := Rb HO155 hb; have BK159 := ak hbox; have GW159 := gy hg HB; have GE159 := gy hg HB; replace HB := bs HB hb; have NB144_159 := gm hg BK144; have NB159_144 := gn hg BK144; replace BK144 := kf BK144 hb; have NB145_159 := gm hg BK145; have NB159_145 := gn hg BK145; replace BK145 := kf BK145 hb; have NB156_159 := gm hg BK156; have NB159_156 := gn hg BK156; replace BK156 := kf BK156 hb; clear hb hbox hg; have hnb120 := NB159_144.out; have hnc120 := NB144_159.out; have hnb121 := NB159_145.out; have hnc121 := NB145_159.out; have hnb122 := NB159_156.out; have hnc122 := NB156_159.out; obtain ⟨_, _, _, _, _, _, _, _⟩ := bc4 BK159; obtain ⟨_, _, _, _, _, _, _, _⟩ := bc4 BK156; obtain ⟨_, _, _, _, _, _, _, _⟩ := bc4 BK144; have p165 : 0 ≤ (((rd_T121 l0 a1_0).f1) : Int) := of_decide_eq_true (by first | (with_reducible assumption) | assumption); have q165 : ((rd_T121 l0 a1_0).f1) < (l1_1.length : Int) := of_decide_eq_true (by first | (with_reducible assumption) | assumption); obtain ⟨ad165, e165, hx165_0⟩ := Kd.at_int HR1_1.out ((rd_T121 l0 a1_0).f1) p165 q165; cases e165; have hn165_0 : ad165.block ≠ gb159 := Nat.ne_of_lt (Nat.lt_of_lt_of_le (by have := World.block_lt_of_cell? _ _ hx165_0; first | rwa [add_block] at this | exact this) GW159.out); have hn165_1 : ad165.block ≠ gb159 := Nat.ne_of_lt (Nat.lt_of_lt_of_le (by have := World.block_lt_of_cell? _ _ hx165_0; first | rwa [add_block] at this | exact this) GW159.out); have hn165_2 : ad165.block ≠ gb159 := Nat.ne_of_lt (Nat.lt_of_lt_of_le (by have := World.block_lt_of_cell? _ _ hx165_0; first | rwa [add_block] at this | exact this) GW159.out); have hn165_3 : ad165.block ≠ gb159 := Nat.ne_of_lt (Nat.lt_of_lt_of_le (by have := World.block_lt_of_cell? _ _ hx165_0; first | rwa [add_block] at this | exact this) GW159.out); have hn165_4 : ad165.block ≠ gb156 := Nat.ne_of_lt (Nat.lt_of_lt_of_le (by have := World.block_lt_of_cell? _ _ hx165_0; first | rwa [add_block] at this | exact this) GW156.out); replace hx165_0 := hx_ HB hx165_0; replace hx165_0 := (cell_far (p := ⟨gb159, 0, none⟩) (by first | (rw [add_block]; exact hn165_0) | (show (Addr.add _ _).block ≠ _; rw [add_block]; exact hn165_0) | exact hn165_0) (.int .i64 ((rd_T121 l0 a1_0).f0))).trans hx165_0; replace hx165_0 := (cell_far (p := ⟨gb159, 1, none⟩) (by first | (rw [add_block]; exact hn165_1) | (show (Addr.add _ _).block ≠ _; rw [add_block]; exact hn165_1) | exact hn165_1) (.int .i64 ((rd_T121 l0 a1_0).f1))).trans hx165_0; replace hx165_0 := (cell_far (p := ⟨gb159, 2, none⟩) (by first | (rw [add_block]; exact hn165_2) | (show (Addr.add _ _).block ≠ _; rw [add_block]; exact hn165_2) | exact hn165_2) (.int .i64 ((rd_T121 l0 a1_0).f2))).trans hx165_0; replace hx165_0 := (cell_far (p := ⟨gb159, 3, none⟩) (by first | (rw [add_block]; exact hn165_3) | (show (Addr.add _ _).block ≠ _; rw [add_block]; exact hn165_3) | exact hn165_3) (.int .i64 ((rd_T121 l0 a1_0).f3))).trans hx165_0; replace hx165_0 := (cell_far (p := ⟨gb156, 0, none⟩) (by first | (rw [add_block]; exact hn165_4) | (show (Addr.add _ _).block ≠ _; rw [add_block]; exact hn165_4) | exact hn165_4) (.int .i64 (wrap64 (t146 + 1)))).trans hx165_0; clear hn165_0 hn165_1 hn165_2 hn165_3; clear hn165_4; replace p165 := eq_true p165; replace q165 := eq_true q165; obtain ⟨_, _, _, _, _, _, _, _⟩ := bc4 BK145))
          refine bodyPost_ret (results_cell_row rfl _ _ gb145 45 #[.int .i64 (wrap64 (t146 + 1)), .slice Ao113 t147.length co113, .slice Ao114 t150.length co114, .slice Ao115 t153.length co115] (0, 0) _ rfl (PX BK145) Try.underlying45 rfl KR) rfl ?_
          exact ⟨_, _, _, RT, Re3 HO149 BK159 BK156 BK145, Re3 HO152 BK159 BK156 BK145, Re3 HO155 BK159 BK156 BK145, PB⟩
        ·rw [if_neg c79] at H
         exact absurd H (by simp)
       ·rw [if_neg c78] at H
        exact absurd H (by simp)
      ·rw [if_neg c77] at H
       have c77b0 : (((rd_T121 l0 a1_0).f0) == 7) = false := beq_eq_false_iff_ne.mpr c77
       have c77b1 : (((rd_T121 l0 a1_0).f0) != 7) = true := bne_iff_ne.mpr c77
       by_cases c127 : ((rd_T121 l0 a1_0).f0) = 8
       ·rw [if_pos c127] at H
        have c127b0 : (((rd_T121 l0 a1_0).f0) == 8) = true := beq_iff_eq.mpr c127
        have c127b1 : (((rd_T121 l0 a1_0).f0) != 8) = false := bne_eq_false_iff_eq.mpr c127
        clear c127
        by_cases c128 : 0 ≤ ((rd_T121 l0 a1_0).f2)
        ·rw [if_pos c128] at H
         have c128b0 : decide (0 ≤ ((rd_T121 l0 a1_0).f2)) = true := decide_eq_true c128
         clear c128
         by_cases c129 : ((rd_T121 l0 a1_0).f2) < (l1_2.length : Int)
         ·rw [if_pos c129] at H
          have c129b0 : decide (((rd_T121 l0 a1_0).f2) < (l1_2.length : Int)) = true := decide_eq_true c129
          clear c129
          by_cases c130 : 0 ≤ ((rd_T121 l0 a1_0).f1)
          ·rw [if_pos c130] at H
           have c130b0 : decide (0 ≤ ((rd_T121 l0 a1_0).f1)) = true := decide_eq_true c130
           clear c130
           by_cases c131 : ((rd_T121 l0 a1_0).f1) < (t147.length : Int)
           ·rw [if_pos c131] at H
            have c131b0 : decide (((rd_T121 l0 a1_0).f1) < (t147.length : Int)) = true := decide_eq_true c131
            clear c131
            obtain ⟨y167, hy167⟩ : ∃ y_ : List Int, y_ = (t147.set (((rd_T121 l0 a1_0).f1) : Int).toNat (rd l1_2 ((rd_T121 l0 a1_0).f2))) := ⟨_, rfl⟩
            replace H : (some (wrap64 (t146 + 1), y167, t150, t153)) = some (r1, r2, r3, r4) := by first | (rw [hy167]; with_reducible exact H) | (have H2_ := (Option.bind_some _ _).symm.trans H; rw [hy167]; with_reducible exact H2_) | (have H2_ := (Option.bind_some _ _).symm.trans H; with_reducible exact H2_) | with_reducible exact H | (rw [hy167]; exact H) | exact H
            have Ny167 := Aside0.mk hy167
            clear hy167
            simp only [Option.some.injEq, Prod.mk.injEq] at H
            obtain ⟨rfl, rfl, rfl, rfl⟩ := H
            go_enter Try.func20, Try.ntmps20
            try go_wp2_with (first | ((with_reducible refine gate_dst (N := 4) rfl ?_); refine bx_ (N := 4) #[.int .i64 a1_0, .slice A1_1 l1_1.length c1_1, .slice A1_2 l1_2.length c1_2, .slice A1_3 l1_3.length c1_3] 45 ?_; intro gb144 hg w133 hbox hb; have BK144 := ak hbox; have GW144 := gy hg HB; have GE144 := gy hg HB; replace HB := bs HB hb; clear hb hbox hg) | ((with_reducible refine gate_dst (N := 6) rfl ?_); refine bx_ (N := 6) #[.int .i64 0, .slice none 0 0, .slice none 0 0, .slice none 0 0] 45 ?_; intro gb145 hg w134 hbox hb; have BK145 := ak hbox; have GW145 := gy hg HB; have GE145 := gy hg HB; replace HB := bs HB hb; have NB144_145 := gm hg BK144; have NB145_144 := gn hg BK144; replace BK144 := kf BK144 hb; clear hb hbox hg; have hnb135 := NB144_145.out; have hnc135 := NB145_144.out; obtain ⟨_, _, _, _, _, _, _, _⟩ := bc4 BK144) | ((with_reducible refine gate_callee (f := 77) rfl ?_); refine goesL_ (some 10) rfl rfl Try.func77 KR rfl #[.agg #[.int .i64 a1_0, .slice A1_1 l1_1.length c1_1, .slice A1_2 l1_2.length c1_2, .slice A1_3 l1_3.length c1_3]] rfl AR ?_; (with_reducible refine (impl_copyState.calls a1_0 _ _ l1_1 _ _ l1_2 _ _ l1_3 t146 t147 t150 t153 _ ?side1 ?side2 ?side3 ?side4 ?side5 ?side6 A4.out).mono ?_); (case side1 => exact CR (Kd.C_below HR1_1.out HB.out)); (case side2 => exact HC1_1.out); (case side3 => exact CR (Kd.C_below HR1_2.out HB.out)); (case side4 => exact HC1_2.out); (case side5 => exact CR (Kd.C_below HR1_3.out HB.out)); (case side6 => exact HC1_3.out); rintro e w137 ⟨v148, v151, v154, rfl, ho0, ho1, ho2, hb⟩; refine ⟨_, rfl, ?_⟩; have HO149 := Rn0 ho0 HB; have HO152 := Rn0 ho1 HB; have HO155 := Rn0 ho2 HB; replace BK144 := kf BK144 hb; replace BK145 := kf BK145 hb; replace HB := bs HB hb; (try clear hb); (try clear hb2); (try clear hk); (try clear hi); (try clear ho0); (try clear ho1); (try clear ho2)) | ((with_reducible refine gate_dst (N := 7) rfl ?_); refine bx_ (N := 7) #[.int .i64 0, .slice none 0 0, .slice none 0 0, .slice none 0 0] 45 ?_; intro gb156 hg w138 hbox hb; replace HO149 := Rb HO149 hb; replace HO152 := Rb HO152 hb; replace HO155 := Rb HO155 hb; have BK156 := ak hbox; have GW156 := gy hg HB; have GE156 := gy hg HB; replace HB := bs HB hb; have NB144_156 := gm hg BK144; have NB156_144 := gn hg BK144; replace BK144 := kf BK144 hb; have NB145_156 := gm hg BK145; have NB156_145 := gn hg BK145; replace BK145 := kf BK145 hb; clear hb hbox hg; have hnb139 := NB156_144.out; have hnc139 := NB144_156.out; have hnb140 := NB156_145.out; have hnc140 := NB145_156.out; obtain ⟨_, _, _, _, _, _, _, _⟩ := bc4 BK156; obtain ⟨Ao142, co142, eo142⟩ := Kd.R_slice HO149.out; subst eo142; obtain ⟨Ao143, co143, eo143⟩ := Kd.R_slice HO152.out; subst eo143; obtain ⟨Ao144, co144, eo144⟩ := Kd.R_slice HO155.out; subst eo144; obtain ⟨_, _, _, _, _, _, _, _⟩ := bc4 BK144) | ((with_reducible refine gate_callee (f := 78) rfl ?_); refine goesL_ (some 13) rfl rfl Try.func78 KR rfl #[.slice A0 l0.length c0, .agg #[.int .i64 a1_0, .slice A1_1 l1_1.length c1_1, .slice A1_2 l1_2.length c1_2, .slice A1_3 l1_3.length c1_3]] rfl AR ?_; (with_reducible refine (impl_canStep.calls k _ _ l0 a1_0 _ _ l1_1 _ _ l1_2 _ _ l1_3 true _ ?side1 ?side2 ?side3 ?side4 ?side5 ?side6 ?side7 ?side8 A5.out).mono ?_); (case side1 => exact Kd.C_below HR0.out PB); (case side2 => exact HC0.out); (case side3 => exact Kd.C_below HR1_1.out PB); (case side4 => exact HC1_1.out); (case side5 => exact Kd.C_below HR1_2.out PB); (case side6 => exact HC1_2.out); (case side7 => exact Kd.C_below HR1_3.out PB); (case side8 => exact HC1_3.out); rintro e w146 ⟨rfl, hb⟩; refine ⟨_, rfl, ?_⟩; replace HO149 := ak (Kd.R_below (Re1 HO149 BK156) hb); replace HO152 := ak (Kd.R_below (Re1 HO152 BK156) hb); replace HO155 := ak (Kd.R_below (Re1 HO155 BK156) hb); replace BK144 := kf BK144 hb; replace BK145 := kf BK145 hb; replace BK156 := kp (cs' := #[.int .i64 t146, .slice Ao142 t147.length co142, .slice Ao143 t150.length co143, .slice Ao144 t153.length co144]) BK156 hb; replace HB := bs HB hb; (try clear hb); (try clear hb2); (try clear hk); (try clear hi); obtain ⟨_, _, _, _, _, _, _, _⟩ := bc4 BK144; have p158 : 0 ≤ (a1_0 : Int) := of_decide_eq_true (by first | (with_reducible assumption) | assumption); have q158 : a1_0 < (l0.length : Int) := of_decide_eq_true (by first | (with_reducible assumption) | assumption); obtain ⟨ad158, e158, hx158_0, hx158_1, hx158_2, hx158_3⟩ := at_T121 HR0.out a1_0 p158 q158; cases e158; replace hx158_0 := hx_ HB hx158_0; replace hx158_1 := hx_ HB hx158_1; replace hx158_2 := hx_ HB hx158_2; replace hx158_3 := hx_ HB hx158_3; replace p158 := eq_true p158; replace q158 := eq_true q158) | ((with_reducible refine gate_dst (N := 8) rfl ?_); refine bx_ (N := 8) #[.int .i64 0, .int .i64 0, .int .i64 0, .int .i64 0] 121 ?_; intro gb159 hg w148 hbox hb; replace HO149 := Rb HO149 hb; replace HO152 := Rb HO152 hb; replace HO155 := Rb HO155 hb; have BK159 := ak hbox; have GW159 := gy hg HB; have GE159 := gy hg HB; replace HB := bs HB hb; have NB144_159 := gm hg BK144; have NB159_144 := gn hg BK144; replace BK144 := kf BK144 hb; have NB145_159 := gm hg BK145; have NB159_145 := gn hg BK145; replace BK145 := kf BK145 hb; have NB156_159 := gm hg BK156; have NB159_156 := gn hg BK156; replace BK156 := kf BK156 hb; clear hb hbox hg; have hnb149 := NB159_144.out; have hnc149 := NB144_159.out; have hnb150 := NB159_145.out; have hnc150 := NB145_159.out; have hnb151 := NB159_156.out; have hnc151 := NB156_159.out; obtain ⟨_, _, _, _, _, _, _, _⟩ := bc4 BK159; obtain ⟨_, _, _, _, _, _, _, _⟩ := bc4 BK156))
            generalize hW_ : (((((w148.setCell ⟨gb159, 0, none⟩ (.int .i64 ((rd_T121 l0 a1_0).f0))).setCell ⟨gb159, 1, none⟩ (.int .i64 ((rd_T121 l0 a1_0).f1))).setCell ⟨gb159, 2, none⟩ (.int .i64 ((rd_T121 l0 a1_0).f2))).setCell ⟨gb159, 3, none⟩ (.int .i64 ((rd_T121 l0 a1_0).f3))).setCell ⟨gb156, 0, none⟩ (.int .i64 (wrap64 (t146 + 1)))) = w154
            replace HO149 := R2 hW_ HO149 BK159 BK156
            replace HO152 := R2 hW_ HO152 BK159 BK156
            replace HO155 := R2 hW_ HO155 BK159 BK156
            replace BK144 := BE hW_ BK144
            replace BK145 := BE hW_ BK145
            replace BK156 : Aside0 (w154.heap[gb156]? = some (.cells #[.int .i64 (wrap64 (t146 + 1)), .slice Ao142 t147.length co142, .slice Ao143 t150.length co143, .slice Ao144 t153.length co144] 45 (0, 0))) := BP hW_ BK156
            replace BK159 : Aside0 (w154.heap[gb159]? = some (.cells #[.int .i64 ((rd_T121 l0 a1_0).f0), .int .i64 ((rd_T121 l0 a1_0).f1), .int .i64 ((rd_T121 l0 a1_0).f2), .int .i64 ((rd_T121 l0 a1_0).f3)] 121 (0, 0))) := BP hW_ BK159
            replace HB := BL hW_ HB
            (try clear hW_)
            replace HO149 := ak (Kd.R_drew HO149.out)
            replace HO152 := ak (Kd.R_drew HO152.out)
            replace HO155 := ak (Kd.R_drew HO155.out)
            replace BK144 := ak (blk_drew BK144.out)
            replace BK145 := ak (blk_drew BK145.out)
            replace BK156 := ak (blk_drew BK156.out)
            replace BK159 := ak (blk_drew BK159.out)
            replace HB := ak (below_drew1 HB.out)
            have p166 : 0 ≤ (((rd_T121 l0 a1_0).f2) : Int) := of_decide_eq_true (by first | (with_reducible assumption) | assumption)
            have q166 : ((rd_T121 l0 a1_0).f2) < (l1_2.length : Int) := of_decide_eq_true (by first | (with_reducible assumption) | assumption)
            obtain ⟨ad166, e166, hx166_0⟩ := Kd.at_int HR1_2.out ((rd_T121 l0 a1_0).f2) p166 q166
            have hw166_0 := hx166_0
            cases e166
            replace hx166_0 := hx_ HB hx166_0
            replace p166 := eq_true p166
            replace q166 := eq_true q166
            have p132 : 0 ≤ (((rd_T121 l0 a1_0).f1) : Int) := of_decide_eq_true (by first | (with_reducible assumption) | assumption)
            have q132 : (((rd_T121 l0 a1_0).f1) : Int) < ((t147.length : Int) : Int) := of_decide_eq_true (by first | (with_reducible assumption) | assumption)
            obtain ⟨go132, co132, eo132, gb132, gl132, cl132, HG132⟩ := Kd.R_form HO149.out (by omega)
            (first | cases eo132 | (injection eo132 with ea_ en_ ec_; (first | subst ea_ | (injection ea_ with ea_; subst ea_)); subst ec_; clear en_))
            have GB132 := Aside0.mk gb132
            have GG132 := Aside0.mk HG132
            clear gb132 gl132 HG132
            obtain ⟨hx132_0, hf132_0⟩ := Kd.R_celln 0 HO149.out (((rd_T121 l0 a1_0).f1) : Int) p132 q132
            replace p132 := eq_true p132
            replace q132 := eq_true q132
            have HP156 := Kd.R_putn HO149.out (((rd_T121 l0 a1_0).f1) : Int) (rd l1_2 ((rd_T121 l0 a1_0).f2))
            rw [← Ny167.out] at HP156
            have HQ156 := Aside0.mk HP156
            clear HP156
            refine start_ (n := 12) (S := fun w' => w'.cell? ⟨gb156, 0, none⟩ = some (.int .i64 (wrap64 (t146 + 1))) ∧ w'.cell? ⟨gb156, 1, none⟩ = some (.slice (some ⟨go132, 0, none⟩) t147.length co142) ∧ w'.cell? ⟨gb156, 2, none⟩ = some (.slice Ao143 t150.length co143) ∧ w'.cell? ⟨gb156, 3, none⟩ = some (.slice Ao144 t153.length co144) ∧ w'.cell? ⟨gb159, 0, none⟩ = some (.int .i64 ((rd_T121 l0 a1_0).f0)) ∧ w'.cell? ⟨gb159, 1, none⟩ = some (.int .i64 ((rd_T121 l0 a1_0).f1)) ∧ w'.cell? ⟨gb159, 2, none⟩ = some (.int .i64 ((rd_T121 l0 a1_0).f2)) ∧ w'.cell? ⟨gb159, 3, none⟩ = some (.int .i64 ((rd_T121 l0 a1_0).f3)) ∧ w'.cell? ⟨gb144, 0, none⟩ = some (.int .i64 a1_0) ∧ w'.cell? ⟨gb144, 1, none⟩ = some (.slice A1_1 l1_1.length c1_1) ∧ w'.cell? ⟨gb144, 2, none⟩ = some (.slice (some ad166) l1_2.length c1_2) ∧ w'.cell? ⟨gb144, 3, none⟩ = some (.slice A1_3 l1_3.length c1_3) ∧ w'.cell? (ad166.add (((rd_T121 l0 a1_0).f2)).toNat) = some (.int .i64 (rd l1_2 ((rd_T121 l0 a1_0).f2)))) (ds := [11]) b3_12 KR rfl rfl ⟨(blk_cell BK156.out 0).trans rfl, (blk_cell BK156.out 1).trans rfl, (blk_cell BK156.out 2).trans rfl, (blk_cell BK156.out 3).trans rfl, (blk_cell BK159.out 0).trans rfl, (blk_cell BK159.out 1).trans rfl, (blk_cell BK159.out 2).trans rfl, (blk_cell BK159.out 3).trans rfl, (blk_cell BK144.out 0).trans rfl, (blk_cell BK144.out 1).trans rfl, (blk_cell BK144.out 2).trans rfl, (blk_cell BK144.out 3).trans rfl, ((HB.out.cell (World.block_lt_of_cell? w _ hw166_0)).trans hw166_0)⟩ (fun hHeld => ?_); refine with_tabW impl_StepState.tab16 impl_StepState.bits16 (fun HT_ HW_ => ?_)
            generalize w154.drew = w155 at HO149 HO152 HO155 BK144 BK145 BK156 BK159 HB GG132 HQ156 hf132_0 hx132_0 hx166_0 hHeld ⊢
            refine pu_ (i := 0) (N := some 87) b3_11 HT_ ?_
            refine pu_ (i := 2) (N := some 89) b3_10 HT_ ?_
            refine pu_ (i := 4) (N := some 91) b3_9 HT_ ?_
            refine pu_ (i := 6) (N := some 93) b3_8 HT_ ?_
            refine tk_ (i := 1) (N := some 88) b3_7 rfl rfl HT_ HW_ hHeld ?_
            refine take_ (i := 3) (N := some 90) (v := ?_) (a' := ?_) b3_6 rfl rfl (take_ofW HT_.out HW_.out KR) (fun _ _ _ h => h) (Or.inl ⟨by rfl, ?_⟩) hHeld ?_ ?_
            rotate_left
            ·rintro w' ⟨s0, s1, s2, s3, s4, s5, s6, s7, s8, s9, s10, s11, s12⟩
             go_simp
             with_reducible rfl
            rotate_left
            ·simp only [Act.put, List.setIfInBounds_toArray, List.set_cons_zero, List.set_cons_succ, i64_w, i32_w]
             rfl
            refine tk_ (i := 5) (N := some 92) b3_5 rfl rfl HT_ HW_ hHeld ?_
            refine take_ (i := 7) (N := some 94) (v := ?_) (a' := ?_) b3_4 rfl rfl (take_ofW HT_.out HW_.out KR) (fun _ _ _ h => h) (Or.inl ⟨by rfl, ?_⟩) hHeld ?_ ?_
            rotate_left
            ·rintro w' ⟨s0, s1, s2, s3, s4, s5, s6, s7, s8, s9, s10, s11, s12⟩
             go_simp
             with_reducible rfl
            rotate_left
            ·simp only [Act.put, List.setIfInBounds_toArray, List.set_cons_zero, List.set_cons_succ, i64_w, i32_w]
             rfl
            refine pu_ (i := 8) (N := some 95) b3_3 HT_ ?_
            refine tk_ (i := 9) (N := some 96) b3_2 rfl rfl HT_ HW_ hHeld ?_
            refine pu_ (i := 10) (N := some 97) b3_1 HT_ ?_
            refine last_ (i := 11) (N := none) b3_0 rfl rfl (one_of HT_.out KR) (by decide) (fun K hK => ?_)
            refine skip_ (w1 := ?_) (by rfl) rfl ?_ ?_
            rotate_left
            ·go_simp
             rfl
            refine hK.out _ _ ?_
            clear hK K
            refine done_ (done_of HT_.out KR) ?_
            generalize hW_ : (w155.setCell ⟨go132, (((rd_T121 l0 a1_0).f1) : Int).toNat, none⟩ (.int .i64 (rd l1_2 ((rd_T121 l0 a1_0).f2)))) = w157
            replace HO152 : Aside0 (Kd.R (Kd.int .i64) 3 w157 w.heap.size (fun k_ => some k_ ≠ (.slice (some ⟨go132, 0, none⟩) t147.length co142 : Value).ownBlock ∧ some k_ ≠ (.slice Ao144 t153.length co144 : Value).ownBlock) (.slice Ao143 t150.length co143) t150) := ⟨by rw [← hW_]; exact RX (Kd.R_mono HO152.out (fun k_ hk => (⟨hk, fun e_ => hk.1 (by rw [e_]; rfl)⟩ : _ ∧ k_ ≠ go132))) (fun _ hk => by first | exact ⟨hk.1.1, hk.1.2⟩ | simp_all)⟩
            replace HO155 : Aside0 (Kd.R (Kd.int .i64) 3 w157 w.heap.size (fun k_ => some k_ ≠ (.slice (some ⟨go132, 0, none⟩) t147.length co142 : Value).ownBlock ∧ some k_ ≠ (.slice Ao143 t150.length co143 : Value).ownBlock) (.slice Ao144 t153.length co144) t153) := ⟨by rw [← hW_]; exact RX (Kd.R_mono HO155.out (fun k_ hk => (⟨hk, fun e_ => hk.1 (by rw [e_]; rfl)⟩ : _ ∧ k_ ≠ go132))) (fun _ hk => by first | exact ⟨hk.1.1, hk.1.2⟩ | simp_all)⟩
            replace BK144 := BQ hW_ HO149 BK144
            replace BK145 := BQ hW_ HO149 BK145
            replace BK156 := BQ hW_ HO149 BK156
            replace BK159 := BQ hW_ HO149 BK159
            replace HO149 : Aside0 (Kd.R (Kd.int .i64) 3 w157 w.heap.size (fun k_ => some k_ ≠ (.slice Ao143 t150.length co143 : Value).ownBlock ∧ some k_ ≠ (.slice Ao144 t153.length co144 : Value).ownBlock) (.slice (some ⟨go132, 0, none⟩) t147.length co142) y167) := ⟨by rw [← hW_]; exact PR HQ156⟩
            replace HB := BL hW_ HB
            (try clear hW_)
            obtain ⟨_, _, _, _, _, _, _, _⟩ := bc4 BK156
            obtain ⟨_, _, _, _, _, _, _, _⟩ := bc4 BK145
            try go_wp2
            refine bodyPost_ret (results_cell_row rfl _ _ gb145 45 #[.int .i64 (wrap64 (t146 + 1)), .slice (some ⟨go132, 0, none⟩) t147.length co142, .slice Ao143 t150.length co143, .slice Ao144 t153.length co144] (0, 0) _ rfl (PX BK145) Try.underlying45 rfl KR) rfl ?_
            exact ⟨_, _, _, RT, Re1 HO149 BK145, Re1 HO152 BK145, Re1 HO155 BK145, PB⟩
           ·rw [if_neg c131] at H
            exact absurd H (by simp)
          ·rw [if_neg c130] at H
           exact absurd H (by simp)
         ·rw [if_neg c129] at H
          exact absurd H (by simp)
        ·rw [if_neg c128] at H
         exact absurd H (by simp)
       ·rw [if_neg c127] at H
        have c127b0 : (((rd_T121 l0 a1_0).f0) == 8) = false := beq_eq_false_iff_ne.mpr c127
        have c127b1 : (((rd_T121 l0 a1_0).f0) != 8) = true := bne_iff_ne.mpr c127
        by_cases c160 : ((rd_T121 l0 a1_0).f0) = 9
        ·rw [if_pos c160] at H
         have c160b0 : (((rd_T121 l0 a1_0).f0) == 9) = true := beq_iff_eq.mpr c160
         have c160b1 : (((rd_T121 l0 a1_0).f0) != 9) = false := bne_eq_false_iff_eq.mpr c160
         clear c160
         by_cases c161 : 0 ≤ ((rd_T121 l0 a1_0).f1)
         ·rw [if_pos c161] at H
          have c161b0 : decide (0 ≤ ((rd_T121 l0 a1_0).f1)) = true := decide_eq_true c161
          clear c161
          by_cases c162 : ((rd_T121 l0 a1_0).f1) < (l1_1.length : Int)
          ·rw [if_pos c162] at H
           have c162b0 : decide (((rd_T121 l0 a1_0).f1) < (l1_1.length : Int)) = true := decide_eq_true c162
           clear c162
           by_cases c163 : 0 ≤ ((rd_T121 l0 a1_0).f2)
           ·rw [if_pos c163] at H
            have c163b0 : decide (0 ≤ ((rd_T121 l0 a1_0).f2)) = true := decide_eq_true c163
            clear c163
            by_cases c164 : ((rd_T121 l0 a1_0).f2) < (t150.length : Int)
            ·rw [if_pos c164] at H
             have c164b0 : decide (((rd_T121 l0 a1_0).f2) < (t150.length : Int)) = true := decide_eq_true c164
             clear c164
             obtain ⟨y169, hy169⟩ : ∃ y_ : List Int, y_ = (t150.set (((rd_T121 l0 a1_0).f2) : Int).toNat (rd l1_1 ((rd_T121 l0 a1_0).f1))) := ⟨_, rfl⟩
             replace H : (some (wrap64 (t146 + 1), t147, y169, t153)) = some (r1, r2, r3, r4) := by first | (rw [hy169]; with_reducible exact H) | (have H2_ := (Option.bind_some _ _).symm.trans H; rw [hy169]; with_reducible exact H2_) | (have H2_ := (Option.bind_some _ _).symm.trans H; with_reducible exact H2_) | with_reducible exact H | (rw [hy169]; exact H) | exact H
             have Ny169 := Aside0.mk hy169
             clear hy169
             simp only [Option.some.injEq, Prod.mk.injEq] at H
             obtain ⟨rfl, rfl, rfl, rfl⟩ := H
             go_enter Try.func20, Try.ntmps20
             try go_wp2_with (first | ((with_reducible refine gate_dst (N := 4) rfl ?_); refine bx_ (N := 4) #[.int .i64 a1_0, .slice A1_1 l1_1.length c1_1, .slice A1_2 l1_2.length c1_2, .slice A1_3 l1_3.length c1_3] 45 ?_; intro gb144 hg w166 hbox hb; have BK144 := ak hbox; have GW144 := gy hg HB; have GE144 := gy hg HB; replace HB := bs HB hb; clear hb hbox hg) | ((with_reducible refine gate_dst (N := 6) rfl ?_); refine bx_ (N := 6) #[.int .i64 0, .slice none 0 0, .slice none 0 0, .slice none 0 0] 45 ?_; intro gb145 hg w167 hbox hb; have BK145 := ak hbox; have GW145 := gy hg HB; have GE145 := gy hg HB; replace HB := bs HB hb; have NB144_145 := gm hg BK144; have NB145_144 := gn hg BK144; replace BK144 := kf BK144 hb; clear hb hbox hg; have hnb168 := NB144_145.out; have hnc168 := NB145_144.out; obtain ⟨_, _, _, _, _, _, _, _⟩ := bc4 BK144) | ((with_reducible refine gate_callee (f := 77) rfl ?_); refine goesL_ (some 10) rfl rfl Try.func77 KR rfl #[.agg #[.int .i64 a1_0, .slice A1_1 l1_1.length c1_1, .slice A1_2 l1_2.length c1_2, .slice A1_3 l1_3.length c1_3]] rfl AR ?_; (with_reducible refine (impl_copyState.calls a1_0 _ _ l1_1 _ _ l1_2 _ _ l1_3 t146 t147 t150 t153 _ ?side1 ?side2 ?side3 ?side4 ?side5 ?side6 A4.out).mono ?_); (case side1 => exact CR (Kd.C_below HR1_1.out HB.out)); (case side2 => exact HC1_1.out); (case side3 => exact CR (Kd.C_below HR1_2.out HB.out)); (case side4 => exact HC1_2.out); (case side5 => exact CR (Kd.C_below HR1_3.out HB.out)); (case side6 => exact HC1_3.out); rintro e w170 ⟨v148, v151, v154, rfl, ho0, ho1, ho2, hb⟩; refine ⟨_, rfl, ?_⟩; have HO149 := Rn0 ho0 HB; have HO152 := Rn0 ho1 HB; have HO155 := Rn0 ho2 HB; replace BK144 := kf BK144 hb; replace BK145 := kf BK145 hb; replace HB := bs HB hb; (try clear hb); (try clear hb2); (try clear hk); (try clear hi); (try clear ho0); (try clear ho1); (try clear ho2)) | ((with_reducible refine gate_dst (N := 7) rfl ?_); refine bx_ (N := 7) #[.int .i64 0, .slice none 0 0, .slice none 0 0, .slice none 0 0] 45 ?_; intro gb156 hg w171 hbox hb; replace HO149 := Rb HO149 hb; replace HO152 := Rb HO152 hb; replace HO155 := Rb HO155 hb; have BK156 := ak hbox; have GW156 := gy hg HB; have GE156 := gy hg HB; replace HB := bs HB hb; have NB144_156 := gm hg BK144; have NB156_144 := gn hg BK144; replace BK144 := kf BK144 hb; have NB145_156 := gm hg BK145; have NB156_145 := gn hg BK145; replace BK145 := kf BK145 hb; clear hb hbox hg; have hnb172 := NB156_144.out; have hnc172 := NB144_156.out; have hnb173 := NB156_145.out; have hnc173 := NB145_156.out; obtain ⟨_, _, _, _, _, _, _, _⟩ := bc4 BK156; obtain ⟨Ao175, co175, eo175⟩ := Kd.R_slice HO149.out; subst eo175; obtain ⟨Ao176, co176, eo176⟩ := Kd.R_slice HO152.out; subst eo176; obtain ⟨Ao177, co177, eo177⟩ := Kd.R_slice HO155.out; subst eo177; obtain ⟨_, _, _, _, _, _, _, _⟩ := bc4 BK144) | ((with_reducible refine gate_callee (f := 78) rfl ?_); refine goesL_ (some 13) rfl rfl Try.func78 KR rfl #[.slice A0 l0.length c0, .agg #[.int .i64 a1_0, .slice A1_1 l1_1.length c1_1, .slice A1_2 l1_2.length c1_2, .slice A1_3 l1_3.length c1_3]] rfl AR ?_; (with_reducible refine (impl_canStep.calls k _ _ l0 a1_0 _ _ l1_1 _ _ l1_2 _ _ l1_3 true _ ?side1 ?side2 ?side3 ?side4 ?side5 ?side6 ?side7 ?side8 A5.out).mono ?_); (case side1 => exact Kd.C_below HR0.out PB); (case side2 => exact HC0.out); (case side3 => exact Kd.C_below HR1_1.out PB); (case side4 => exact HC1_1.out); (case side5 => exact Kd.C_below HR1_2.out PB); (case side6 => exact HC1_2.out); (case side7 => exact Kd.C_below HR1_3.out PB); (case side8 => exact HC1_3.out); rintro e w179 ⟨rfl, hb⟩; refine ⟨_, rfl, ?_⟩; replace HO149 := ak (Kd.R_below (Re1 HO149 BK156) hb); replace HO152 := ak (Kd.R_below (Re1 HO152 BK156) hb); replace HO155 := ak (Kd.R_below (Re1 HO155 BK156) hb); replace BK144 := kf BK144 hb; replace BK145 := kf BK145 hb; replace BK156 := kp (cs' := #[.int .i64 t146, .slice Ao175 t147.length co175, .slice Ao176 t150.length co176, .slice Ao177 t153.length co177]) BK156 hb; replace HB := bs HB hb; (try clear hb); (try clear hb2); (try clear hk); (try clear hi); obtain ⟨_, _, _, _, _, _, _, _⟩ := bc4 BK144; have p158 : 0 ≤ (a1_0 : Int) := of_decide_eq_true (by first | (with_reducible assumption) | assumption); have q158 : a1_0 < (l0.length : Int) := of_decide_eq_true (by first | (with_reducible assumption) | assumption); obtain ⟨ad158, e158, hx158_0, hx158_1, hx158_2, hx158_3⟩ := at_T121 HR0.out a1_0 p158 q158; cases e158; replace hx158_0 := hx_ HB hx158_0; replace hx158_1 := hx_ HB hx158_1; replace hx158_2 := hx_ HB hx158_2; replace hx158_3 := hx_ HB hx158_3; replace p158 := eq_true p158; replace q158 := eq_true q158) | ((with_reducible refine gate_dst (N := 8) rfl ?_); refine bx_ (N := 8) #[.int .i64 0, .int .i64 0, .int .i64 0, .int .i64 0] 121 ?_; intro gb159 hg w181 hbox hb; replace HO149 := Rb HO149 hb; replace HO152 := Rb HO152 hb; replace HO155 := Rb HO155 hb; have BK159 := ak hbox; have GW159 := gy hg HB; have GE159 := gy hg HB; replace HB := bs HB hb; have NB144_159 := gm hg BK144; have NB159_144 := gn hg BK144; replace BK144 := kf BK144 hb; have NB145_159 := gm hg BK145; have NB159_145 := gn hg BK145; replace BK145 := kf BK145 hb; have NB156_159 := gm hg BK156; have NB159_156 := gn hg BK156; replace BK156 := kf BK156 hb; clear hb hbox hg; have hnb182 := NB159_144.out; have hnc182 := NB144_159.out; have hnb183 := NB159_145.out; have hnc183 := NB145_159.out; have hnb184 := NB159_156.out; have hnc184 := NB156_159.out; obtain ⟨_, _, _, _, _, _, _, _⟩ := bc4 BK159; obtain ⟨_, _, _, _, _, _, _, _⟩ := bc4 BK156))
             generalize hW_ : (((((w181.setCell ⟨gb159, 0, none⟩ (.int .i64 ((rd_T121 l0 a1_0).f0))).setCell ⟨gb159, 1, none⟩ (.int .i64 ((rd_T121 l0 a1_0).f1))).setCell ⟨gb159, 2, none⟩ (.int .i64 ((rd_T121 l0 a1_0).f2))).setCell ⟨gb159, 3, none⟩ (.int .i64 ((rd_T121 l0 a1_0).f3))).setCell ⟨gb156, 0, none⟩ (.int .i64 (wrap64 (t146 + 1)))) = w187
             replace HO149 := R2 hW_ HO149 BK159 BK156
             replace HO152 := R2 hW_ HO152 BK159 BK156
             replace HO155 := R2 hW_ HO155 BK159 BK156
             replace BK144 := BE hW_ BK144
             replace BK145 := BE hW_ BK145
             replace BK156 : Aside0 (w187.heap[gb156]? = some (.cells #[.int .i64 (wrap64 (t146 + 1)), .slice Ao175 t147.length co175, .slice Ao176 t150.length co176, .slice Ao177 t153.length co177] 45 (0, 0))) := BP hW_ BK156
             replace BK159 : Aside0 (w187.heap[gb159]? = some (.cells #[.int .i64 ((rd_T121 l0 a1_0).f0), .int .i64 ((rd_T121 l0 a1_0).f1), .int .i64 ((rd_T121 l0 a1_0).f2), .int .i64 ((rd_T121 l0 a1_0).f3)] 121 (0, 0))) := BP hW_ BK159
             replace HB := BL hW_ HB
             (try clear hW_)
             replace HO149 := ak (Kd.R_drew HO149.out)
             replace HO152 := ak (Kd.R_drew HO152.out)
             replace HO155 := ak (Kd.R_drew HO155.out)
             replace BK144 := ak (blk_drew BK144.out)
             replace BK145 := ak (blk_drew BK145.out)
             replace BK156 := ak (blk_drew BK156.out)
             replace BK159 := ak (blk_drew BK159.out)
             replace HB := ak (below_drew1 HB.out)
             have p168 : 0 ≤ (((rd_T121 l0 a1_0).f1) : Int) := of_decide_eq_true (by first | (with_reducible assumption) | assumption)
             have q168 : ((rd_T121 l0 a1_0).f1) < (l1_1.length : Int) := of_decide_eq_true (by first | (with_reducible assumption) | assumption)
             obtain ⟨ad168, e168, hx168_0⟩ := Kd.at_int HR1_1.out ((rd_T121 l0 a1_0).f1) p168 q168
             have hw168_0 := hx168_0
             cases e168
             replace hx168_0 := hx_ HB hx168_0
             replace p168 := eq_true p168
             replace q168 := eq_true q168
             have p165 : 0 ≤ (((rd_T121 l0 a1_0).f2) : Int) := of_decide_eq_true (by first | (with_reducible assumption) | assumption)
             have q165 : (((rd_T121 l0 a1_0).f2) : Int) < ((t150.length : Int) : Int) := of_decide_eq_true (by first | (with_reducible assumption) | assumption)
             obtain ⟨go165, co165, eo165, gb165, gl165, cl165, HG165⟩ := Kd.R_form HO152.out (by omega)
             (first | cases eo165 | (injection eo165 with ea_ en_ ec_; (first | subst ea_ | (injection ea_ with ea_; subst ea_)); subst ec_; clear en_))
             have GB165 := Aside0.mk gb165
             have GG165 := Aside0.mk HG165
             clear gb165 gl165 HG165
             obtain ⟨hx165_0, hf165_0⟩ := Kd.R_celln 0 HO152.out (((rd_T121 l0 a1_0).f2) : Int) p165 q165
             replace p165 := eq_true p165
             replace q165 := eq_true q165
             have HP189 := Kd.R_putn HO152.out (((rd_T121 l0 a1_0).f2) : Int) (rd l1_1 ((rd_T121 l0 a1_0).f1))
             rw [← Ny169.out] at HP189
             have HQ189 := Aside0.mk HP189
             clear HP189
             refine start_ (n := 12) (S := fun w' => w'.cell? ⟨gb156, 0, none⟩ = some (.int .i64 (wrap64 (t146 + 1))) ∧ w'.cell? ⟨gb156, 1, none⟩ = some (.slice Ao175 t147.length co175) ∧ w'.cell? ⟨gb156, 2, none⟩ = some (.slice (some ⟨go165, 0, none⟩) t150.length co176) ∧ w'.cell? ⟨gb156, 3, none⟩ = some (.slice Ao177 t153.length co177) ∧ w'.cell? ⟨gb159, 0, none⟩ = some (.int .i64 ((rd_T121 l0 a1_0).f0)) ∧ w'.cell? ⟨gb159, 1, none⟩ = some (.int .i64 ((rd_T121 l0 a1_0).f1)) ∧ w'.cell? ⟨gb159, 2, none⟩ = some (.int .i64 ((rd_T121 l0 a1_0).f2)) ∧ w'.cell? ⟨gb159, 3, none⟩ = some (.int .i64 ((rd_T121 l0 a1_0).f3)) ∧ w'.cell? ⟨gb144, 0, none⟩ = some (.int .i64 a1_0) ∧ w'.cell? ⟨gb144, 1, none⟩ = some (.slice (some ad168) l1_1.length c1_1) ∧ w'.cell? ⟨gb144, 2, none⟩ = some (.slice A1_2 l1_2.length c1_2) ∧ w'.cell? ⟨gb144, 3, none⟩ = some (.slice A1_3 l1_3.length c1_3) ∧ w'.cell? (ad168.add (((rd_T121 l0 a1_0).f1)).toNat) = some (.int .i64 (rd l1_1 ((rd_T121 l0 a1_0).f1)))) (ds := [11]) b3_12 KR rfl rfl ⟨(blk_cell BK156.out 0).trans rfl, (blk_cell BK156.out 1).trans rfl, (blk_cell BK156.out 2).trans rfl, (blk_cell BK156.out 3).trans rfl, (blk_cell BK159.out 0).trans rfl, (blk_cell BK159.out 1).trans rfl, (blk_cell BK159.out 2).trans rfl, (blk_cell BK159.out 3).trans rfl, (blk_cell BK144.out 0).trans rfl, (blk_cell BK144.out 1).trans rfl, (blk_cell BK144.out 2).trans rfl, (blk_cell BK144.out 3).trans rfl, ((HB.out.cell (World.block_lt_of_cell? w _ hw168_0)).trans hw168_0)⟩ (fun hHeld => ?_); refine with_tabW impl_StepState.tab18 impl_StepState.bits18 (fun HT_ HW_ => ?_)
             generalize w187.drew = w188 at HO149 HO152 HO155 BK144 BK145 BK156 BK159 HB GG165 HQ189 hf165_0 hx165_0 hx168_0 hHeld ⊢
             refine pu_ (i := 0) (N := some 100) b3_11 HT_ ?_
             refine pu_ (i := 2) (N := some 102) b3_10 HT_ ?_
             refine pu_ (i := 4) (N := some 104) b3_9 HT_ ?_
             refine pu_ (i := 6) (N := some 106) b3_8 HT_ ?_
             refine tk_ (i := 1) (N := some 101) b3_7 rfl rfl HT_ HW_ hHeld ?_
             refine take_ (i := 3) (N := some 103) (v := ?_) (a' := ?_) b3_6 rfl rfl (take_ofW HT_.out HW_.out KR) (fun _ _ _ h => h) (Or.inl ⟨by rfl, ?_⟩) hHeld ?_ ?_
             rotate_left
             ·rintro w' ⟨s0, s1, s2, s3, s4, s5, s6, s7, s8, s9, s10, s11, s12⟩
              go_simp
              with_reducible rfl
             rotate_left
             ·simp only [Act.put, List.setIfInBounds_toArray, List.set_cons_zero, List.set_cons_succ, i64_w, i32_w]
              rfl
             refine tk_ (i := 5) (N := some 105) b3_5 rfl rfl HT_ HW_ hHeld ?_
             refine take_ (i := 7) (N := some 107) (v := ?_) (a' := ?_) b3_4 rfl rfl (take_ofW HT_.out HW_.out KR) (fun _ _ _ h => h) (Or.inl ⟨by rfl, ?_⟩) hHeld ?_ ?_
             rotate_left
             ·rintro w' ⟨s0, s1, s2, s3, s4, s5, s6, s7, s8, s9, s10, s11, s12⟩
              go_simp
              with_reducible rfl
             rotate_left
             ·simp only [Act.put, List.setIfInBounds_toArray, List.set_cons_zero, List.set_cons_succ, i64_w, i32_w]
              rfl
             refine pu_ (i := 8) (N := some 108) b3_3 HT_ ?_
             refine tk_ (i := 9) (N := some 109) b3_2 rfl rfl HT_ HW_ hHeld ?_
             refine pu_ (i := 10) (N := some 110) b3_1 HT_ ?_
             refine last_ (i := 11) (N := none) b3_0 rfl rfl (one_of HT_.out KR) (by decide) (fun K hK => ?_)
             refine skip_ (w1 := ?_) (by rfl) rfl ?_ ?_
             rotate_left
             ·go_simp
              rfl
             refine hK.out _ _ ?_
             clear hK K
             refine done_ (done_of HT_.out KR) ?_
             generalize hW_ : (w188.setCell ⟨go165, (((rd_T121 l0 a1_0).f2) : Int).toNat, none⟩ (.int .i64 (rd l1_1 ((rd_T121 l0 a1_0).f1)))) = w190
             replace HO149 : Aside0 (Kd.R (Kd.int .i64) 3 w190 w.heap.size (fun k_ => some k_ ≠ (.slice (some ⟨go165, 0, none⟩) t150.length co176 : Value).ownBlock ∧ some k_ ≠ (.slice Ao177 t153.length co177 : Value).ownBlock) (.slice Ao175 t147.length co175) t147) := ⟨by rw [← hW_]; exact RX (Kd.R_mono HO149.out (fun k_ hk => (⟨hk, fun e_ => hk.1 (by rw [e_]; rfl)⟩ : _ ∧ k_ ≠ go165))) (fun _ hk => by first | exact ⟨hk.1.1, hk.1.2⟩ | simp_all)⟩
             replace HO155 : Aside0 (Kd.R (Kd.int .i64) 3 w190 w.heap.size (fun k_ => some k_ ≠ (.slice Ao175 t147.length co175 : Value).ownBlock ∧ some k_ ≠ (.slice (some ⟨go165, 0, none⟩) t150.length co176 : Value).ownBlock) (.slice Ao177 t153.length co177) t153) := ⟨by rw [← hW_]; exact RX (Kd.R_mono HO155.out (fun k_ hk => (⟨hk, fun e_ => hk.2 (by rw [e_]; rfl)⟩ : _ ∧ k_ ≠ go165))) (fun _ hk => by first | exact ⟨hk.1.1, hk.1.2⟩ | simp_all)⟩
             replace BK144 := BQ hW_ HO152 BK144
             replace BK145 := BQ hW_ HO152 BK145
             replace BK156 := BQ hW_ HO152 BK156
             replace BK159 := BQ hW_ HO152 BK159
             replace HO152 : Aside0 (Kd.R (Kd.int .i64) 3 w190 w.heap.size (fun k_ => some k_ ≠ (.slice Ao175 t147.length co175 : Value).ownBlock ∧ some k_ ≠ (.slice Ao177 t153.length co177 : Value).ownBlock) (.slice (some ⟨go165, 0, none⟩) t150.length co176) y169) := ⟨by rw [← hW_]; exact PR HQ189⟩
             replace HB := BL hW_ HB
             (try clear hW_)
             obtain ⟨_, _, _, _, _, _, _, _⟩ := bc4 BK156
             obtain ⟨_, _, _, _, _, _, _, _⟩ := bc4 BK145
             try go_wp2
             refine bodyPost_ret (results_cell_row rfl _ _ gb145 45 #[.int .i64 (wrap64 (t146 + 1)), .slice Ao175 t147.length co175, .slice (some ⟨go165, 0, none⟩) t150.length co176, .slice Ao177 t153.length co177] (0, 0) _ rfl (PX BK145) Try.underlying45 rfl KR) rfl ?_
             exact ⟨_, _, _, RT, Re1 HO149 BK145, Re1 HO152 BK145, Re1 HO155 BK145, PB⟩
            ·rw [if_neg c164] at H
             exact absurd H (by simp)
           ·rw [if_neg c163] at H
            exact absurd H (by simp)
          ·rw [if_neg c162] at H
           exact absurd H (by simp)
         ·rw [if_neg c161] at H
          exact absurd H (by simp)
        ·rw [if_neg c160] at H
         have c160b0 : (((rd_T121 l0 a1_0).f0) == 9) = false := beq_eq_false_iff_ne.mpr c160
         have c160b1 : (((rd_T121 l0 a1_0).f0) != 9) = true := bne_iff_ne.mpr c160
         obtain ⟨ji193, hji193⟩ : ∃ j_ : Int, (mx a2 0) = j_ := ⟨_, rfl⟩
         replace H : (if 0 ≤ ((rd_T121 l0 a1_0).f1) then (if ((rd_T121 l0 a1_0).f1) < (t147.length : Int) then (some (wrap64 (t146 + 1), (t147.set (((rd_T121 l0 a1_0).f1) : Int).toNat (mn (ji193) 999)), t150, t153)) else (none)) else (none)) = some (r1, r2, r3, r4) := by first | (rw [hji193] at H; exact H) | (simp only [hji193] at H ⊢; exact H)
         (try rw [hji193] at A4)
         (try rw [hji193] at A5)
         (try (have hji193l : 0 ≤ ji193 := by (rw [← hji193]; unfold mx; (repeat' split) <;> omega)))
         (try (have hji193m : 0 ≤ ji193 := by omega))
         have hji193_ : (if a2 < 0 then 0 else a2) = ji193 := hji193
         obtain ⟨ji194, hji194⟩ : ∃ j_ : Int, (mn (ji193) 999) = j_ := ⟨_, rfl⟩
         replace H : (if 0 ≤ ((rd_T121 l0 a1_0).f1) then (if ((rd_T121 l0 a1_0).f1) < (t147.length : Int) then (some (wrap64 (t146 + 1), (t147.set (((rd_T121 l0 a1_0).f1) : Int).toNat (ji194)), t150, t153)) else (none)) else (none)) = some (r1, r2, r3, r4) := by first | (rw [hji194] at H; exact H) | (simp only [hji194] at H ⊢; exact H)
         (try rw [hji194] at A4)
         (try rw [hji194] at A5)
         have hji194_ : (if 999 < (ji193) then 999 else (ji193)) = ji194 := hji194
         by_cases c195 : 0 ≤ ((rd_T121 l0 a1_0).f1)
         ·rw [if_pos c195] at H
          have c195b0 : decide (0 ≤ ((rd_T121 l0 a1_0).f1)) = true := decide_eq_true c195
          clear c195
          by_cases c196 : ((rd_T121 l0 a1_0).f1) < (t147.length : Int)
          ·rw [if_pos c196] at H
           have c196b0 : decide (((rd_T121 l0 a1_0).f1) < (t147.length : Int)) = true := decide_eq_true c196
           clear c196
           obtain ⟨y170, hy170⟩ : ∃ y_ : List Int, y_ = (t147.set (((rd_T121 l0 a1_0).f1) : Int).toNat (ji194)) := ⟨_, rfl⟩
           replace H : (some (wrap64 (t146 + 1), y170, t150, t153)) = some (r1, r2, r3, r4) := by first | (rw [hy170]; with_reducible exact H) | (have H2_ := (Option.bind_some _ _).symm.trans H; rw [hy170]; with_reducible exact H2_) | (have H2_ := (Option.bind_some _ _).symm.trans H; with_reducible exact H2_) | with_reducible exact H | (rw [hy170]; exact H) | exact H
           have Ny170 := Aside0.mk hy170
           clear hy170
           simp only [Option.some.injEq, Prod.mk.injEq] at H
           obtain ⟨rfl, rfl, rfl, rfl⟩ := H
           go_enter Try.func20, Try.ntmps20
           go_wp2_with (first | ((with_reducible refine gate_dst (N := 4) rfl ?_); refine bx_ (N := 4) #[.int .i64 a1_0, .slice A1_1 l1_1.length c1_1, .slice A1_2 l1_2.length c1_2, .slice A1_3 l1_3.length c1_3] 45 ?_; intro gb144 hg w198 hbox hb; have BK144 := ak hbox; have GW144 := gy hg HB; have GE144 := gy hg HB; replace HB := bs HB hb; clear hb hbox hg) | ((with_reducible refine gate_dst (N := 6) rfl ?_); refine bx_ (N := 6) #[.int .i64 0, .slice none 0 0, .slice none 0 0, .slice none 0 0] 45 ?_; intro gb145 hg w199 hbox hb; have BK145 := ak hbox; have GW145 := gy hg HB; have GE145 := gy hg HB; replace HB := bs HB hb; have NB144_145 := gm hg BK144; have NB145_144 := gn hg BK144; replace BK144 := kf BK144 hb; clear hb hbox hg; have hnb200 := NB144_145.out; have hnc200 := NB145_144.out; obtain ⟨_, _, _, _, _, _, _, _⟩ := bc4 BK144) | ((with_reducible refine gate_callee (f := 77) rfl ?_); refine goesL_ (some 10) rfl rfl Try.func77 KR rfl #[.agg #[.int .i64 a1_0, .slice A1_1 l1_1.length c1_1, .slice A1_2 l1_2.length c1_2, .slice A1_3 l1_3.length c1_3]] rfl AR ?_; (with_reducible refine (impl_copyState.calls a1_0 _ _ l1_1 _ _ l1_2 _ _ l1_3 t146 t147 t150 t153 _ ?side1 ?side2 ?side3 ?side4 ?side5 ?side6 A4.out).mono ?_); (case side1 => exact CR (Kd.C_below HR1_1.out HB.out)); (case side2 => exact HC1_1.out); (case side3 => exact CR (Kd.C_below HR1_2.out HB.out)); (case side4 => exact HC1_2.out); (case side5 => exact CR (Kd.C_below HR1_3.out HB.out)); (case side6 => exact HC1_3.out); rintro e w202 ⟨v148, v151, v154, rfl, ho0, ho1, ho2, hb⟩; refine ⟨_, rfl, ?_⟩; have HO149 := Rn0 ho0 HB; have HO152 := Rn0 ho1 HB; have HO155 := Rn0 ho2 HB; replace BK144 := kf BK144 hb; replace BK145 := kf BK145 hb; replace HB := bs HB hb; (try clear hb); (try clear hb2); (try clear hk); (try clear hi); (try clear ho0); (try clear ho1); (try clear ho2)) | ((with_reducible refine gate_dst (N := 7) rfl ?_); refine bx_ (N := 7) #[.int .i64 0, .slice none 0 0, .slice none 0 0, .slice none 0 0] 45 ?_; intro gb156 hg w203 hbox hb; replace HO149 := Rb HO149 hb; replace HO152 := Rb HO152 hb; replace HO155 := Rb HO155 hb; have BK156 := ak hbox; have GW156 := gy hg HB; have GE156 := gy hg HB; replace HB := bs HB hb; have NB144_156 := gm hg BK144; have NB156_144 := gn hg BK144; replace BK144 := kf BK144 hb; have NB145_156 := gm hg BK145; have NB156_145 := gn hg BK145; replace BK145 := kf BK145 hb; clear hb hbox hg; have hnb204 := NB156_144.out; have hnc204 := NB144_156.out; have hnb205 := NB156_145.out; have hnc205 := NB145_156.out; obtain ⟨_, _, _, _, _, _, _, _⟩ := bc4 BK156; obtain ⟨Ao207, co207, eo207⟩ := Kd.R_slice HO149.out; subst eo207; obtain ⟨Ao208, co208, eo208⟩ := Kd.R_slice HO152.out; subst eo208; obtain ⟨Ao209, co209, eo209⟩ := Kd.R_slice HO155.out; subst eo209; obtain ⟨_, _, _, _, _, _, _, _⟩ := bc4 BK144) | ((with_reducible refine gate_callee (f := 78) rfl ?_); refine goesL_ (some 13) rfl rfl Try.func78 KR rfl #[.slice A0 l0.length c0, .agg #[.int .i64 a1_0, .slice A1_1 l1_1.length c1_1, .slice A1_2 l1_2.length c1_2, .slice A1_3 l1_3.length c1_3]] rfl AR ?_; (with_reducible refine (impl_canStep.calls k _ _ l0 a1_0 _ _ l1_1 _ _ l1_2 _ _ l1_3 true _ ?side1 ?side2 ?side3 ?side4 ?side5 ?side6 ?side7 ?side8 A5.out).mono ?_); (case side1 => exact Kd.C_below HR0.out PB); (case side2 => exact HC0.out); (case side3 => exact Kd.C_below HR1_1.out PB); (case side4 => exact HC1_1.out); (case side5 => exact Kd.C_below HR1_2.out PB); (case side6 => exact HC1_2.out); (case side7 => exact Kd.C_below HR1_3.out PB); (case side8 => exact HC1_3.out); rintro e w211 ⟨rfl, hb⟩; refine ⟨_, rfl, ?_⟩; replace HO149 := ak (Kd.R_below (Re1 HO149 BK156) hb); replace HO152 := ak (Kd.R_below (Re1 HO152 BK156) hb); replace HO155 := ak (Kd.R_below (Re1 HO155 BK156) hb); replace BK144 := kf BK144 hb; replace BK145 := kf BK145 hb; replace BK156 := kp (cs' := #[.int .i64 t146, .slice Ao207 t147.length co207, .slice Ao208 t150.length co208, .slice Ao209 t153.length co209]) BK156 hb; replace HB := bs HB hb; (try clear hb); (try clear hb2); (try clear hk); (try clear hi); obtain ⟨_, _, _, _, _, _, _, _⟩ := bc4 BK144; have p158 : 0 ≤ (a1_0 : Int) := of_decide_eq_true (by first | (with_reducible assumption) | assumption); have q158 : a1_0 < (l0.length : Int) := of_decide_eq_true (by first | (with_reducible assumption) | assumption); obtain ⟨ad158, e158, hx158_0, hx158_1, hx158_2, hx158_3⟩ := at_T121 HR0.out a1_0 p158 q158; cases e158; replace hx158_0 := hx_ HB hx158_0; replace hx158_1 := hx_ HB hx158_1; replace hx158_2 := hx_ HB hx158_2; replace hx158_3 := hx_ HB hx158_3; replace p158 := eq_true p158; replace q158 := eq_true q158) | ((with_reducible refine gate_dst (N := 8) rfl ?_); refine bx_ (N := 8) #[.int .i64 0, .int .i64 0, .int .i64 0, .int .i64 0] 121 ?_; intro gb159 hg w213 hbox hb; replace HO149 := Rb HO149 hb; replace HO152 := Rb HO152 hb; replace HO155 := Rb HO155 hb; have BK159 := ak hbox; have GW159 := gy hg HB; have GE159 := gy hg HB; replace HB := bs HB hb; have NB144_159 := gm hg BK144; have NB159_144 := gn hg BK144; replace BK144 := kf BK144 hb; have NB145_159 := gm hg BK145; have NB159_145 := gn hg BK145; replace BK145 := kf BK145 hb; have NB156_159 := gm hg BK156; have NB159_156 := gn hg BK156; replace BK156 := kf BK156 hb; clear hb hbox hg; have hnb214 := NB159_144.out; have hnc214 := NB144_159.out; have hnb215 := NB159_145.out; have hnc215 := NB145_159.out; have hnb216 := NB159_156.out; have hnc216 := NB156_159.out; obtain ⟨_, _, _, _, _, _, _, _⟩ := bc4 BK159) | ((with_reducible refine gate_store (t := 121) (p := 8) rfl ?_); refine store_event (t := 121) (p := 8) (v := ?vo_w218) (w1 := ((((w213.setCell ⟨gb159, 0, none⟩ (.int .i64 ((rd_T121 l0 a1_0).f0))).setCell ⟨gb159, 1, none⟩ (.int .i64 ((rd_T121 l0 a1_0).f1))).setCell ⟨gb159, 2, none⟩ (.int .i64 ((rd_T121 l0 a1_0).f2))).setCell ⟨gb159, 3, none⟩ (.int .i64 ((rd_T121 l0 a1_0).f3)))) ?hg ?ho ?hn ?hr ?_; (case ho => rfl); (case hg => rfl); (case hn => rfl); (case hr => first | (go_simp; done) | (go_simp; rfl)); intro w218 hw; replace HO149 : Aside0 (Kd.R (Kd.int .i64) 3 w218 w.heap.size (fun k_ => some k_ ≠ (.slice Ao208 t150.length co208 : Value).ownBlock ∧ some k_ ≠ (.slice Ao209 t153.length co209 : Value).ownBlock) (.slice Ao207 t147.length co207) t147) := ⟨(by rw [hw]; exact (Re1 HO149 BK159))⟩; replace HO152 : Aside0 (Kd.R (Kd.int .i64) 3 w218 w.heap.size (fun k_ => some k_ ≠ (.slice Ao207 t147.length co207 : Value).ownBlock ∧ some k_ ≠ (.slice Ao209 t153.length co209 : Value).ownBlock) (.slice Ao208 t150.length co208) t150) := ⟨(by rw [hw]; exact (Re1 HO152 BK159))⟩; replace HO155 : Aside0 (Kd.R (Kd.int .i64) 3 w218 w.heap.size (fun k_ => some k_ ≠ (.slice Ao207 t147.length co207 : Value).ownBlock ∧ some k_ ≠ (.slice Ao208 t150.length co208 : Value).ownBlock) (.slice Ao209 t153.length co209) t153) := ⟨(by rw [hw]; exact (Re1 HO155 BK159))⟩; replace BK144 : Aside0 (w218.heap[gb144]? = some (.cells #[.int .i64 a1_0, .slice A1_1 l1_1.length c1_1, .slice A1_2 l1_2.length c1_2, .slice A1_3 l1_3.length c1_3] 45 (0, 0))) := ⟨(by rw [hw]; exact (PF BK144))⟩; replace BK145 : Aside0 (w218.heap[gb145]? = some (.cells #[.int .i64 0, .slice none 0 0, .slice none 0 0, .slice none 0 0] 45 (0, 0))) := ⟨(by rw [hw]; exact (PF BK145))⟩; replace BK156 : Aside0 (w218.heap[gb156]? = some (.cells #[.int .i64 t146, .slice Ao207 t147.length co207, .slice Ao208 t150.length co208, .slice Ao209 t153.length co209] 45 (0, 0))) := ⟨(by rw [hw]; exact (PF BK156))⟩; replace BK159 : Aside0 (w218.heap[gb159]? = some (.cells #[.int .i64 ((rd_T121 l0 a1_0).f0), .int .i64 ((rd_T121 l0 a1_0).f1), .int .i64 ((rd_T121 l0 a1_0).f2), .int .i64 ((rd_T121 l0 a1_0).f3)] 121 (0, 0))) := ⟨(by rw [hw]; exact (PX BK159))⟩; replace HB : Aside0 (Below w.heap.size w w218) := ⟨(by rw [hw]; exact PB)⟩; clear hw; obtain ⟨_, _, _, _, _, _, _, _⟩ := bc4 BK156) | ((with_reducible refine gate_store (t := 3) (p := 24) rfl ?_); refine store_event (t := 3) (p := 24) (v := ?vo_w220) (w1 := (w218.setCell ⟨gb156, 0, none⟩ (.int .i64 (wrap64 (t146 + 1))))) ?hg ?ho ?hn ?hr ?_; (case ho => rfl); (case hg => rfl); (case hn => rfl); (case hr => first | (go_simp; done) | (go_simp; rfl)); intro w220 hw; replace HO149 : Aside0 (Kd.R (Kd.int .i64) 3 w220 w.heap.size (fun k_ => some k_ ≠ (.slice Ao208 t150.length co208 : Value).ownBlock ∧ some k_ ≠ (.slice Ao209 t153.length co209 : Value).ownBlock) (.slice Ao207 t147.length co207) t147) := ⟨(by rw [hw]; exact (Re1 HO149 BK156))⟩; replace HO152 : Aside0 (Kd.R (Kd.int .i64) 3 w220 w.heap.size (fun k_ => some k_ ≠ (.slice Ao207 t147.length co207 : Value).ownBlock ∧ some k_ ≠ (.slice Ao209 t153.length co209 : Value).ownBlock) (.slice Ao208 t150.length co208) t150) := ⟨(by rw [hw]; exact (Re1 HO152 BK156))⟩; replace HO155 : Aside0 (Kd.R (Kd.int .i64) 3 w220 w.heap.size (fun k_ => some k_ ≠ (.slice Ao207 t147.length co207 : Value).ownBlock ∧ some k_ ≠ (.slice Ao208 t150.length co208 : Value).ownBlock) (.slice Ao209 t153.length co209) t153) := ⟨(by rw [hw]; exact (Re1 HO155 BK156))⟩; replace BK144 : Aside0 (w220.heap[gb144]? = some (.cells #[.int .i64 a1_0, .slice A1_1 l1_1.length c1_1, .slice A1_2 l1_2.length c1_2, .slice A1_3 l1_3.length c1_3] 45 (0, 0))) := ⟨(by rw [hw]; exact (PF BK144))⟩; replace BK145 : Aside0 (w220.heap[gb145]? = some (.cells #[.int .i64 0, .slice none 0 0, .slice none 0 0, .slice none 0 0] 45 (0, 0))) := ⟨(by rw [hw]; exact (PF BK145))⟩; replace BK156 : Aside0 (w220.heap[gb156]? = some (.cells #[.int .i64 (wrap64 (t146 + 1)), .slice Ao207 t147.length co207, .slice Ao208 t150.length co208, .slice Ao209 t153.length co209] 45 (0, 0))) := ⟨(by rw [hw]; exact (PX BK156))⟩; replace BK159 : Aside0 (w220.heap[gb159]? = some (.cells #[.int .i64 ((rd_T121 l0 a1_0).f0), .int .i64 ((rd_T121 l0 a1_0).f1), .int .i64 ((rd_T121 l0 a1_0).f2), .int .i64 ((rd_T121 l0 a1_0).f3)] 121 (0, 0))) := ⟨(by rw [hw]; exact (PF BK159))⟩; replace HB : Aside0 (Below w.heap.size w w220) := ⟨(by rw [hw]; exact PB)⟩; clear hw; obtain ⟨_, _, _, _, _, _, _, _⟩ := bc4 BK159; obtain ⟨_, _, _, _, _, _, _, _⟩ := bc4 BK156; have p197 : 0 ≤ (((rd_T121 l0 a1_0).f1) : Int) := of_decide_eq_true (by first | (with_reducible assumption) | assumption); have q197 : (((rd_T121 l0 a1_0).f1) : Int) < ((t147.length : Int) : Int) := of_decide_eq_true (by first | (with_reducible assumption) | assumption); obtain ⟨go197, co197, eo197, gb197, gl197, cl197, HG197⟩ := Kd.R_form HO149.out (by omega); (first | cases eo197 | (injection eo197 with ea_ en_ ec_; (first | subst ea_ | (injection ea_ with ea_; subst ea_)); subst ec_; clear en_)); have GB197 := Aside0.mk gb197; have GG197 := Aside0.mk HG197; clear gb197 gl197 HG197; obtain ⟨hx197_0, hf197_0⟩ := Kd.R_celln 0 HO149.out (((rd_T121 l0 a1_0).f1) : Int) p197 q197; replace p197 := eq_true p197; replace q197 := eq_true q197; obtain ⟨hy223_, hz223_⟩ := Kd.R_celln 0 HO149.out (((rd_T121 l0 a1_0).f1) : Int) (of_decide_eq_true (by first | (with_reducible assumption) | assumption)) (of_decide_eq_true (by first | (with_reducible assumption) | assumption)); have HP223 := Kd.R_putg HO149.out (((rd_T121 l0 a1_0).f1) : Int) ji194) | ((with_reducible refine gate_store (t := 3) (p := 34) rfl ?_); refine store_event (t := 3) (p := 34) (v := ?vo_w224) (w1 := (w220.setCell ⟨go197, (((rd_T121 l0 a1_0).f1) : Int).toNat, none⟩ (.int .i64 ji194))) ?hg ?ho ?hn ?hr ?_; (case ho => rfl); (case hg => rfl); (case hn => rfl); (case hr => first | (go_simp; done) | (go_simp; rfl)); intro w224 hw; have hg : w220.grownBy w224 (some go197) := (by rw [hw]; exact HP223.2); have hp_ : Kd.R (Kd.int .i64) 3 w224 w.heap.size (fun k_ => some k_ ≠ (.slice Ao208 t150.length co208 : Value).ownBlock ∧ some k_ ≠ (.slice Ao209 t153.length co209 : Value).ownBlock) (.slice (some ⟨go197, 0, none⟩) t147.length co207) y170 := (by rw [hw, Ny170.out]; exact HP223.1); clear HP223; replace BK144 := ak (blk_grown (g := gb144) (o := .cells #[.int .i64 a1_0, .slice A1_1 l1_1.length c1_1, .slice A1_2 l1_2.length c1_2, .slice A1_3 l1_3.length c1_3] 45 (0, 0)) (PK BK144) hg (Kd.R_ne HO149.out BK144.out (by decide))); replace BK145 := ak (blk_grown (g := gb145) (o := .cells #[.int .i64 0, .slice none 0 0, .slice none 0 0, .slice none 0 0] 45 (0, 0)) (PK BK145) hg (Kd.R_ne HO149.out BK145.out (by decide))); replace HO152 := ak (Kd.R_after (v := (.slice (some ⟨go197, 0, none⟩) t147.length co207)) (v1 := (.slice (some ⟨go197, 0, none⟩) t147.length co207)) (ok := (fun k_ => some k_ ≠ (.slice Ao209 t153.length co209 : Value).ownBlock)) (RX HO152.out (fun _ hk => by first | exact ⟨hk.2, hk.1⟩ | simp_all)) hg (.inl rfl)); replace HO155 := ak (Kd.R_after (v := (.slice (some ⟨go197, 0, none⟩) t147.length co207)) (v1 := (.slice (some ⟨go197, 0, none⟩) t147.length co207)) (ok := (fun k_ => some k_ ≠ (.slice Ao208 t150.length co208 : Value).ownBlock)) (RX HO155.out (fun _ hk => by first | exact ⟨hk.2, hk.1⟩ | simp_all)) hg (.inl rfl)); replace BK156 := ak (blk_grown (g := gb156) (o := .cells #[.int .i64 (wrap64 (t146 + 1)), .slice (some ⟨go197, 0, none⟩) t147.length co207, .slice Ao208 t150.length co208, .slice Ao209 t153.length co209] 45 (0, 0)) (PK BK156) hg (Kd.R_ne HO149.out BK156.out (by decide))); replace BK159 := ak (blk_grown (g := gb159) (o := .cells #[.int .i64 ((rd_T121 l0 a1_0).f0), .int .i64 ((rd_T121 l0 a1_0).f1), .int .i64 ((rd_T121 l0 a1_0).f2), .int .i64 ((rd_T121 l0 a1_0).f3)] 121 (0, 0)) (PK BK159) hg (Kd.R_ne HO149.out BK159.out (by decide))); replace HO149 := ak (hp_); replace HB := ak ((by rw [hw]; exact below_set (HB.out) GB197.out : Below w.heap.size w w224)); clear hg hw hp_; obtain ⟨_, _, _, _, _, _, _, _⟩ := bc4 BK156; obtain ⟨_, _, _, _, _, _, _, _⟩ := bc4 BK145))
           refine bodyPost_ret (results_cell_row rfl _ _ gb145 45 #[.int .i64 (wrap64 (t146 + 1)), .slice (some ⟨go197, 0, none⟩) t147.length co207, .slice Ao208 t150.length co208, .slice Ao209 t153.length co209] (0, 0) _ rfl (PX BK145) Try.underlying45 rfl KR) rfl ?_
           exact ⟨_, _, _, by first | rfl | (simp [errW_none, errW_some] <;> rfl) | (simp only [← hji193, ← hji194]; first | rfl | (simp [errW_none, errW_some] <;> rfl)) | (simp [*, errW_none, errW_some] <;> rfl), Re1 HO149 BK145, RX (Rt HO152.out BK145) (fun _ hk => by first | exact ⟨hk.1.2, hk.1.1⟩ | simp_all), RX (Rt HO155.out BK145) (fun _ hk => by first | exact ⟨hk.1.2, hk.1.1⟩ | simp_all), PB⟩
          ·rw [if_neg c196] at H
           exact absurd H (by simp)
         ·rw [if_neg c195] at H
          exact absurd H (by simp)
   ·rw [if_neg c8] at H
    exact absurd H (by simp)
  ·rw [if_neg c7] at H
   exact absurd H (by simp)
 ·replace c6 := Bool.eq_false_iff.mpr c6
  subst c6
  have H1 : (some (t146, t147, t150, t153)) = some (r1, r2, r3, r4) := by rw [if_neg (show ¬ (false = true) by decide)] at H; exact H
  clear H
  have H := H1
  clear H1
  simp only [Option.some.injEq, Prod.mk.injEq] at H
  obtain ⟨rfl, rfl, rfl, rfl⟩ := H
  go_enter Try.func20, Try.ntmps20
  go_wp2_with (first | ((with_reducible refine gate_dst (N := 4) rfl ?_); refine bx_ (N := 4) #[.int .i64 a1_0, .slice A1_1 l1_1.length c1_1, .slice A1_2 l1_2.length c1_2, .slice A1_3 l1_3.length c1_3] 45 ?_; intro gb144 hg w227 hbox hb; have BK144 := ak hbox; have GW144 := gy hg HB; have GE144 := gy hg HB; replace HB := bs HB hb; clear hb hbox hg) | ((with_reducible refine gate_dst (N := 6) rfl ?_); refine bx_ (N := 6) #[.int .i64 0, .slice none 0 0, .slice none 0 0, .slice none 0 0] 45 ?_; intro gb145 hg w228 hbox hb; have BK145 := ak hbox; have GW145 := gy hg HB; have GE145 := gy hg HB; replace HB := bs HB hb; have NB144_145 := gm hg BK144; have NB145_144 := gn hg BK144; replace BK144 := kf BK144 hb; clear hb hbox hg; have hnb229 := NB144_145.out; have hnc229 := NB145_144.out; obtain ⟨_, _, _, _, _, _, _, _⟩ := bc4 BK144) | ((with_reducible refine gate_callee (f := 77) rfl ?_); refine goesL_ (some 10) rfl rfl Try.func77 KR rfl #[.agg #[.int .i64 a1_0, .slice A1_1 l1_1.length c1_1, .slice A1_2 l1_2.length c1_2, .slice A1_3 l1_3.length c1_3]] rfl AR ?_; (with_reducible refine (impl_copyState.calls a1_0 _ _ l1_1 _ _ l1_2 _ _ l1_3 t146 t147 t150 t153 _ ?side1 ?side2 ?side3 ?side4 ?side5 ?side6 A4.out).mono ?_); (case side1 => exact CR (Kd.C_below HR1_1.out HB.out)); (case side2 => exact HC1_1.out); (case side3 => exact CR (Kd.C_below HR1_2.out HB.out)); (case side4 => exact HC1_2.out); (case side5 => exact CR (Kd.C_below HR1_3.out HB.out)); (case side6 => exact HC1_3.out); rintro e w231 ⟨v148, v151, v154, rfl, ho0, ho1, ho2, hb⟩; refine ⟨_, rfl, ?_⟩; have HO149 := Rn0 ho0 HB; have HO152 := Rn0 ho1 HB; have HO155 := Rn0 ho2 HB; replace BK144 := kf BK144 hb; replace BK145 := kf BK145 hb; replace HB := bs HB hb; (try clear hb); (try clear hb2); (try clear hk); (try clear hi); (try clear ho0); (try clear ho1); (try clear ho2)) | ((with_reducible refine gate_dst (N := 7) rfl ?_); refine bx_ (N := 7) #[.int .i64 0, .slice none 0 0, .slice none 0 0, .slice none 0 0] 45 ?_; intro gb156 hg w232 hbox hb; replace HO149 := Rb HO149 hb; replace HO152 := Rb HO152 hb; replace HO155 := Rb HO155 hb; have BK156 := ak hbox; have GW156 := gy hg HB; have GE156 := gy hg HB; replace HB := bs HB hb; have NB144_156 := gm hg BK144; have NB156_144 := gn hg BK144; replace BK144 := kf BK144 hb; have NB145_156 := gm hg BK145; have NB156_145 := gn hg BK145; replace BK145 := kf BK145 hb; clear hb hbox hg; have hnb233 := NB156_144.out; have hnc233 := NB144_156.out; have hnb234 := NB156_145.out; have hnc234 := NB145_156.out; obtain ⟨_, _, _, _, _, _, _, _⟩ := bc4 BK156; obtain ⟨Ao236, co236, eo236⟩ := Kd.R_slice HO149.out; subst eo236; obtain ⟨Ao237, co237, eo237⟩ := Kd.R_slice HO152.out; subst eo237; obtain ⟨Ao238, co238, eo238⟩ := Kd.R_slice HO155.out; subst eo238; obtain ⟨_, _, _, _, _, _, _, _⟩ := bc4 BK144) | ((with_reducible refine gate_callee (f := 78) rfl ?_); refine goesL_ (some 13) rfl rfl Try.func78 KR rfl #[.slice A0 l0.length c0, .agg #[.int .i64 a1_0, .slice A1_1 l1_1.length c1_1, .slice A1_2 l1_2.length c1_2, .slice A1_3 l1_3.length c1_3]] rfl AR ?_; (with_reducible refine (impl_canStep.calls k _ _ l0 a1_0 _ _ l1_1 _ _ l1_2 _ _ l1_3 false _ ?side1 ?side2 ?side3 ?side4 ?side5 ?side6 ?side7 ?side8 A5.out).mono ?_); (case side1 => exact Kd.C_below HR0.out PB); (case side2 => exact HC0.out); (case side3 => exact Kd.C_below HR1_1.out PB); (case side4 => exact HC1_1.out); (case side5 => exact Kd.C_below HR1_2.out PB); (case side6 => exact HC1_2.out); (case side7 => exact Kd.C_below HR1_3.out PB); (case side8 => exact HC1_3.out); rintro e w240 ⟨rfl, hb⟩; refine ⟨_, rfl, ?_⟩; replace HO149 := ak (Kd.R_below (Re1 HO149 BK156) hb); replace HO152 := ak (Kd.R_below (Re1 HO152 BK156) hb); replace HO155 := ak (Kd.R_below (Re1 HO155 BK156) hb); replace BK144 := kf BK144 hb; replace BK145 := kf BK145 hb; replace BK156 := kp (cs' := #[.int .i64 t146, .slice Ao236 t147.length co236, .slice Ao237 t150.length co237, .slice Ao238 t153.length co238]) BK156 hb; replace HB := bs HB hb; (try clear hb); (try clear hb2); (try clear hk); (try clear hi); obtain ⟨_, _, _, _, _, _, _, _⟩ := bc4 BK156; obtain ⟨_, _, _, _, _, _, _, _⟩ := bc4 BK145))
  refine bodyPost_ret (results_cell_row rfl _ _ gb145 45 #[.int .i64 t146, .slice Ao236 t147.length co236, .slice Ao237 t150.length co237, .slice Ao238 t153.length co238] (0, 0) _ rfl (PX BK145) Try.underlying45 rfl KR) rfl ?_
  exact ⟨_, _, _, RT, Re1 HO149 BK145, Re1 HO152 BK145, Re1 HO155 BK145, PB⟩

end Go.Proofs.Ytgcamebeonodeaa.MFnExactStepState
