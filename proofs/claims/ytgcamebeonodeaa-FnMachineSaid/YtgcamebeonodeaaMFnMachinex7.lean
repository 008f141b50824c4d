-- Written by a program of this session out of the translation's own print. Not trusted: Lean checks it.
import Derived.Test.YtgcamebeonodeaaShr2
import Derived.Test.YtgcamebeonodeaaMFnMachinex0
import Derived.Test.YtgcamebeonodeaaMFnMachinex5
import Derived.Test.YtgcamebeonodeaaMFnMachinex6
namespace Go.Proofs.Ytgcamebeonodeaa.MFnMachine
open Go.RowKit Go.Proofs.YtgcamebeonodeaaW.PrintWords Go.Proofs.YtgcamebeonodeaaW.PrintLast Go.Proofs.YtgcamebeonodeaaW.PrintMore
attribute [local go_sem] max2_int min2_int max_two min_two max_three min_three max_four min_four   -- for this text's walks alone
set_option linter.unusedVariables false
set_option linter.unusedSimpArgs false

abbrev b7_0 : Array Bool := mkB 12 4095
abbrev b7_1 : Array Bool := mkB 12 2047
abbrev b7_2 : Array Bool := mkB 12 1023
abbrev b7_3 : Array Bool := mkB 12 511
abbrev b7_4 : Array Bool := mkB 12 255
abbrev b7_5 : Array Bool := mkB 12 127
abbrev b7_6 : Array Bool := mkB 12 95
abbrev b7_7 : Array Bool := mkB 12 87
abbrev b7_8 : Array Bool := mkB 12 85
abbrev b7_9 : Array Bool := mkB 12 21
abbrev b7_10 : Array Bool := mkB 12 5
abbrev b7_11 : Array Bool := mkB 12 1
abbrev b7_12 : Array Bool := #[false, false, false, false, false, false, false, false, false, false, false, false]
/-! ### impl_StepState: function 20 -/
def impl_StepState.f (k : Nat) (l0 : List (S121)) (a1_0 : Int) (l1_1 : List Int) (l1_2 : List Int) (l1_3 : List Int) (a2 : Int) : Option (Int × List Int × List Int × List Int) := (impl_copyState.f a1_0 l1_1 l1_2 l1_3).bind fun bt387 => ((impl_canStep.f k l0 a1_0 l1_1 l1_2 l1_3).bind fun t398 => (if t398 = true then (if 0 ≤ a1_0 then (if a1_0 < (l0.length : Int) then (if ((rd_T121 l0 a1_0).f0) = 5 then (if 0 ≤ ((rd_T121 l0 a1_0).f2) then (if ((rd_T121 l0 a1_0).f2) < (l1_1.length : Int) then (if 0 ≤ ((rd_T121 l0 a1_0).f3) then (if ((rd_T121 l0 a1_0).f3) < (l1_1.length : Int) then (if 0 ≤ ((rd_T121 l0 a1_0).f1) then (if ((rd_T121 l0 a1_0).f1) < (bt387.2.1.length : Int) then (some (wrap64 (bt387.1 + 1), (bt387.2.1.set (((rd_T121 l0 a1_0).f1) : Int).toNat (Int.tmod (wrap64 ((rd l1_1 ((rd_T121 l0 a1_0).f2)) + (rd l1_1 ((rd_T121 l0 a1_0).f3)))) 1000)), bt387.2.2.1, bt387.2.2.2)) else (none)) else (none)) else (none)) else (none)) else (none)) else (none)) else (if ((rd_T121 l0 a1_0).f0) = 6 then (if 0 ≤ ((rd_T121 l0 a1_0).f1) then (if ((rd_T121 l0 a1_0).f1) < (l1_1.length : Int) then (if 0 ≤ ((rd_T121 l0 a1_0).f2) then (if ((rd_T121 l0 a1_0).f2) < (bt387.2.2.2.length : Int) then (some (wrap64 (bt387.1 + 1), bt387.2.1, bt387.2.2.1, (bt387.2.2.2.set (((rd_T121 l0 a1_0).f2) : Int).toNat (rd l1_1 ((rd_T121 l0 a1_0).f1))))) else (none)) else (none)) else (none)) else (none)) else (if ((rd_T121 l0 a1_0).f0) = 7 then (if 0 ≤ ((rd_T121 l0 a1_0).f1) then (if ((rd_T121 l0 a1_0).f1) < (l1_1.length : Int) then (if (Int.tmod (rd l1_1 ((rd_T121 l0 a1_0).f1)) 2) = 0 then (some (wrap64 ((wrap64 (bt387.1 + 1)) + ((rd_T121 l0 a1_0).f2)), bt387.2.1, bt387.2.2.1, bt387.2.2.2)) else (some (wrap64 (bt387.1 + 1), bt387.2.1, bt387.2.2.1, bt387.2.2.2))) else (none)) else (none)) else (if ((rd_T121 l0 a1_0).f0) = 8 then (if 0 ≤ ((rd_T121 l0 a1_0).f2) then (if ((rd_T121 l0 a1_0).f2) < (l1_2.length : Int) then (if 0 ≤ ((rd_T121 l0 a1_0).f1) then (if ((rd_T121 l0 a1_0).f1) < (bt387.2.1.length : Int) then (some (wrap64 (bt387.1 + 1), (bt387.2.1.set (((rd_T121 l0 a1_0).f1) : Int).toNat (rd l1_2 ((rd_T121 l0 a1_0).f2))), bt387.2.2.1, bt387.2.2.2)) else (none)) else (none)) else (none)) else (none)) else (if ((rd_T121 l0 a1_0).f0) = 9 then (if 0 ≤ ((rd_T121 l0 a1_0).f1) then (if ((rd_T121 l0 a1_0).f1) < (l1_1.length : Int) then (if 0 ≤ ((rd_T121 l0 a1_0).f2) then (if ((rd_T121 l0 a1_0).f2) < (bt387.2.2.1.length : Int) then (some (wrap64 (bt387.1 + 1), bt387.2.1, (bt387.2.2.1.set (((rd_T121 l0 a1_0).f2) : Int).toNat (rd l1_1 ((rd_T121 l0 a1_0).f1))), bt387.2.2.2)) else (none)) else (none)) else (none)) else (none)) else (if 0 ≤ ((rd_T121 l0 a1_0).f1) then (if ((rd_T121 l0 a1_0).f1) < (bt387.2.1.length : Int) then (some (wrap64 (bt387.1 + 1), (bt387.2.1.set (((rd_T121 l0 a1_0).f1) : Int).toNat (mn (mx a2 0) 999)), bt387.2.2.1, bt387.2.2.2)) else (none)) else (none))))))) else (none)) else (none)) else (some (bt387.1, bt387.2.1, bt387.2.2.1, bt387.2.2.2))))
def impl_StepState.T9 : Bool × List (List Nat × List Nat) := (true, [([], []), ([0], [0]), ([], []), ([2], [2]), ([], []), ([4], [4]), ([], []), ([6], [6]), ([5, 7], [5, 7]), ([8], [8]), ([], []), ([10], [10]), ([], []), ([12], [12]), ([11, 13], [11, 13]), ([14], [14]), ([9, 15], [9, 15]), ([16], [16]), ([1, 3, 0, 1, 2, 3, 4, 5, 6, 7, 8, 9, 10, 11, 12, 13, 14, 15, 16, 17], [1, 3]), ([18, 17, 0, 1, 2, 3, 4, 5, 6, 7, 8, 9, 10, 11, 12, 13, 14, 15, 16, 17], [17, 18])])
def impl_StepState.B9 : List Nat := [0, 1, 0, 4, 0, 16, 0, 64, 240, 496, 0, 1024, 0, 4096, 15360, 31744, 65520, 131056, 262143, 524287]
theorem impl_StepState.tab9 : rtab .any (opsOf Try.f20 9) = impl_StepState.T9 := by kernel_rfl
theorem impl_StepState.bits9 : waitsOk impl_StepState.T9.2 impl_StepState.B9 = true := by kernel_rfl
def impl_StepState.T11 : Bool × List (List Nat × List Nat) := (true, [([], []), ([0], [0]), ([], []), ([2], [2]), ([], []), ([4], [4]), ([], []), ([6], [6]), ([5, 7], [5, 7]), ([8], [8]), ([1, 3, 0, 1, 2, 3, 4, 5, 6, 7, 8, 9], [1, 3]), ([10, 9, 0, 1, 2, 3, 4, 5, 6, 7, 8, 9], [9, 10])])
def impl_StepState.B11 : List Nat := [0, 1, 0, 4, 0, 16, 0, 64, 240, 496, 1023, 2047]
theorem impl_StepState.tab11 : rtab .any (opsOf Try.f20 11) = impl_StepState.T11 := by kernel_rfl
theorem impl_StepState.bits11 : waitsOk impl_StepState.T11.2 impl_StepState.B11 = true := by kernel_rfl
def impl_StepState.T16 : Bool × List (List Nat × List Nat) := (true, [([], []), ([0], [0]), ([], []), ([2], [2]), ([], []), ([4], [4]), ([], []), ([6], [6]), ([5, 7], [5, 7]), ([8], [8]), ([1, 3, 0, 1, 2, 3, 4, 5, 6, 7, 8, 9], [1, 3]), ([10, 9, 0, 1, 2, 3, 4, 5, 6, 7, 8, 9], [9, 10])])
def impl_StepState.B16 : List Nat := [0, 1, 0, 4, 0, 16, 0, 64, 240, 496, 1023, 2047]
theorem impl_StepState.tab16 : rtab .any (opsOf Try.f20 16) = impl_StepState.T16 := by kernel_rfl
theorem impl_StepState.bits16 : waitsOk impl_StepState.T16.2 impl_StepState.B16 = true := by kernel_rfl
def impl_StepState.T18 : Bool × List (List Nat × List Nat) := (true, [([], []), ([0], [0]), ([], []), ([2], [2]), ([], []), ([4], [4]), ([], []), ([6], [6]), ([5, 7], [5, 7]), ([8], [8]), ([1, 3, 0, 1, 2, 3, 4, 5, 6, 7, 8, 9], [1, 3]), ([10, 9, 0, 1, 2, 3, 4, 5, 6, 7, 8, 9], [9, 10])])
def impl_StepState.B18 : List Nat := [0, 1, 0, 4, 0, 16, 0, 64, 240, 496, 1023, 2047]
theorem impl_StepState.tab18 : rtab .any (opsOf Try.f20 18) = impl_StepState.T18 := by kernel_rfl
theorem impl_StepState.bits18 : waitsOk impl_StepState.T18.2 impl_StepState.B18 = true := by kernel_rfl
set_option maxHeartbeats 8000000 in
set_option maxRecDepth 100000 in
theorem impl_StepState.calls (k : Nat) (A0 : Option Addr) (c0 : Nat) (l0 : List (S121)) (a1_0 : Int) (A1_1 : Option Addr) (c1_1 : Nat) (l1_1 : List Int) (A1_2 : Option Addr) (c1_2 : Nat) (l1_2 : List Int) (A1_3 : Option Addr) (c1_3 : Nat) (l1_3 : List Int) (a2 : Int) (r1 : Int) (r2 : List Int) (r3 : List Int) (r4 : List Int) (w : World) (hr0 : Kd.C k121 w A0 l0.length l0) (hc0 : l0.length ≤ c0) (hr1_1 : Kd.C (Kd.int .i64) w A1_1 l1_1.length l1_1) (hc1_1 : l1_1.length ≤ c1_1) (hr1_2 : Kd.C (Kd.int .i64) w A1_2 l1_2.length l1_2) (hc1_2 : l1_2.length ≤ c1_2) (hr1_3 : Kd.C (Kd.int .i64) w A1_3 l1_3.length l1_3) (hc1_3 : l1_3.length ≤ c1_3) (h : impl_StepState.f k l0 a1_0 l1_1 l1_2 l1_3 a2 = some (r1, r2, r3, r4)) :
  Calls Try.prog 20 #[.slice A0 l0.length c0, .agg #[.int .i64 a1_0, .slice A1_1 l1_1.length c1_1, .slice A1_2 l1_2.length c1_2, .slice A1_3 l1_3.length c1_3], .int .i64 a2] w fun e w' => ∃ v1_ v2_ v3_ : Value, e = .returned (.agg #[.int .i64 r1, v1_, v2_, v3_]) ∧ Kd.R (Kd.int .i64) 3 w' w.heap.size (fun k_ => some k_ ≠ (v2_ : Value).ownBlock ∧ some k_ ≠ (v3_ : Value).ownBlock) v1_ r2 ∧ Kd.R (Kd.int .i64) 3 w' w.heap.size (fun k_ => some k_ ≠ (v1_ : Value).ownBlock ∧ some k_ ≠ (v3_ : Value).ownBlock) v2_ r3 ∧ Kd.R (Kd.int .i64) 3 w' w.heap.size (fun k_ => some k_ ≠ (v1_ : Value).ownBlock ∧ some k_ ≠ (v2_ : Value).ownBlock) v3_ r4 ∧ Below w.heap.size w w' := by
 have hu45 := Try.underlying45
 have hu121 := Try.underlying121
 have HR0 := Aside0.mk hr0
 have HC0 := Aside0.mk hc0
 clear hr0 hc0
 have HR1_1 := Aside0.mk hr1_1
 have HC1_1 := Aside0.mk hc1_1
 clear hr1_1 hc1_1
 have HR1_2 := Aside0.mk hr1_2
 have HC1_2 := Aside0.mk hc1_2
 clear hr1_2 hc1_2
 have HR1_3 := Aside0.mk hr1_3
 have HC1_3 := Aside0.mk hc1_3
 clear hr1_3 hc1_3
 have HB := ak (Below.refl w.heap.size w)
 have H : ((impl_copyState.f a1_0 l1_1 l1_2 l1_3).bind fun bt387 => ((impl_canStep.f k l0 a1_0 l1_1 l1_2 l1_3).bind fun t398 => (if t398 = true then (if 0 ≤ a1_0 then (if a1_0 < (l0.length : Int) then (if ((rd_T121 l0 a1_0).f0) = 5 then (if 0 ≤ ((rd_T121 l0 a1_0).f2) then (if ((rd_T121 l0 a1_0).f2) < (l1_1.length : Int) then (if 0 ≤ ((rd_T121 l0 a1_0).f3) then (if ((rd_T121 l0 a1_0).f3) < (l1_1.length : Int) then (if 0 ≤ ((rd_T121 l0 a1_0).f1) then (if ((rd_T121 l0 a1_0).f1) < (bt387.2.1.length : Int) then (some (wrap64 (bt387.1 + 1), (bt387.2.1.set (((rd_T121 l0 a1_0).f1) : Int).toNat (Int.tmod (wrap64 ((rd l1_1 ((rd_T121 l0 a1_0).f2)) + (rd l1_1 ((rd_T121 l0 a1_0).f3)))) 1000)), bt387.2.2.1, bt387.2.2.2)) else (none)) else (none)) else (none)) else (none)) else (none)) else (none)) else (if ((rd_T121 l0 a1_0).f0) = 6 then (if 0 ≤ ((rd_T121 l0 a1_0).f1) then (if ((rd_T121 l0 a1_0).f1) < (l1_1.length : Int) then (if 0 ≤ ((rd_T121 l0 a1_0).f2) then (if ((rd_T121 l0 a1_0).f2) < (bt387.2.2.2.length : Int) then (some (wrap64 (bt387.1 + 1), bt387.2.1, bt387.2.2.1, (bt387.2.2.2.set (((rd_T121 l0 a1_0).f2) : Int).toNat (rd l1_1 ((rd_T121 l0 a1_0).f1))))) else (none)) else (none)) else (none)) else (none)) else (if ((rd_T121 l0 a1_0).f0) = 7 then (if 0 ≤ ((rd_T121 l0 a1_0).f1) then (if ((rd_T121 l0 a1_0).f1) < (l1_1.length : Int) then (if (Int.tmod (rd l1_1 ((rd_T121 l0 a1_0).f1)) 2) = 0 then (some (wrap64 ((wrap64 (bt387.1 + 1)) + ((rd_T121 l0 a1_0).f2)), bt387.2.1, bt387.2.2.1, bt387.2.2.2)) else (some (wrap64 (bt387.1 + 1), bt387.2.1, bt387.2.2.1, bt387.2.2.2))) else (none)) else (none)) else (if ((rd_T121 l0 a1_0).f0) = 8 then (if 0 ≤ ((rd_T121 l0 a1_0).f2) then (if ((rd_T121 l0 a1_0).f2) < (l1_2.length : Int) then (if 0 ≤ ((rd_T121 l0 a1_0).f1) then (if ((rd_T121 l0 a1_0).f1) < (bt387.2.1.length : Int) then (some (wrap64 (bt387.1 + 1), (bt387.2.1.set (((rd_T121 l0 a1_0).f1) : Int).toNat (rd l1_2 ((rd_T121 l0 a1_0).f2))), bt387.2.2.1, bt387.2.2.2)) else (none)) else (none)) else (none)) else (none)) else (if ((rd_T121 l0 a1_0).f0) = 9 then (if 0 ≤ ((rd_T121 l0 a1_0).f1) then (if ((rd_T121 l0 a1_0).f1) < (l1_1.length : Int) then (if 0 ≤ ((rd_T121 l0 a1_0).f2) then (if ((rd_T121 l0 a1_0).f2) < (bt387.2.2.1.length : Int) then (some (wrap64 (bt387.1 + 1), bt387.2.1, (bt387.2.2.1.set (((rd_T121 l0 a1_0).f2) : Int).toNat (rd l1_1 ((rd_T121 l0 a1_0).f1))), bt387.2.2.2)) else (none)) else (none)) else (none)) else (none)) else (if 0 ≤ ((rd_T121 l0 a1_0).f1) then (if ((rd_T121 l0 a1_0).f1) < (bt387.2.1.length : Int) then (some (wrap64 (bt387.1 + 1), (bt387.2.1.set (((rd_T121 l0 a1_0).f1) : Int).toNat (mn (mx a2 0) 999)), bt387.2.2.1, bt387.2.2.2)) else (none)) else (none))))))) else (none)) else (none)) else (some (bt387.1, bt387.2.1, bt387.2.2.1, bt387.2.2.2))))) = some (r1, r2, r3, r4) := h
 clear h
 replace H := Option.bind_eq_some_iff.mp H
 obtain ⟨⟨t387, t388, t391, t394⟩, A40, H⟩ := H
 replace H : ((impl_canStep.f k l0 a1_0 l1_1 l1_2 l1_3).bind fun t398 => (if t398 = true then (if 0 ≤ a1_0 then (if a1_0 < (l0.length : Int) then (if ((rd_T121 l0 a1_0).f0) = 5 then (if 0 ≤ ((rd_T121 l0 a1_0).f2) then (if ((rd_T121 l0 a1_0).f2) < (l1_1.length : Int) then (if 0 ≤ ((rd_T121 l0 a1_0).f3) then (if ((rd_T121 l0 a1_0).f3) < (l1_1.length : Int) then (if 0 ≤ ((rd_T121 l0 a1_0).f1) then (if ((rd_T121 l0 a1_0).f1) < (t388.length : Int) then (some (wrap64 (t387 + 1), (t388.set (((rd_T121 l0 a1_0).f1) : Int).toNat (Int.tmod (wrap64 ((rd l1_1 ((rd_T121 l0 a1_0).f2)) + (rd l1_1 ((rd_T121 l0 a1_0).f3)))) 1000)), t391, t394)) else (none)) else (none)) else (none)) else (none)) else (none)) else (none)) else (if ((rd_T121 l0 a1_0).f0) = 6 then (if 0 ≤ ((rd_T121 l0 a1_0).f1) then (if ((rd_T121 l0 a1_0).f1) < (l1_1.length : Int) then (if 0 ≤ ((rd_T121 l0 a1_0).f2) then (if ((rd_T121 l0 a1_0).f2) < (t394.length : Int) then (some (wrap64 (t387 + 1), t388, t391, (t394.set (((rd_T121 l0 a1_0).f2) : Int).toNat (rd l1_1 ((rd_T121 l0 a1_0).f1))))) else (none)) else (none)) else (none)) else (none)) else (if ((rd_T121 l0 a1_0).f0) = 7 then (if 0 ≤ ((rd_T121 l0 a1_0).f1) then (if ((rd_T121 l0 a1_0).f1) < (l1_1.length : Int) then (if (Int.tmod (rd l1_1 ((rd_T121 l0 a1_0).f1)) 2) = 0 then (some (wrap64 ((wrap64 (t387 + 1)) + ((rd_T121 l0 a1_0).f2)), t388, t391, t394)) else (some (wrap64 (t387 + 1), t388, t391, t394))) else (none)) else (none)) else (if ((rd_T121 l0 a1_0).f0) = 8 then (if 0 ≤ ((rd_T121 l0 a1_0).f2) then (if ((rd_T121 l0 a1_0).f2) < (l1_2.length : Int) then (if 0 ≤ ((rd_T121 l0 a1_0).f1) then (if ((rd_T121 l0 a1_0).f1) < (t388.length : Int) then (some (wrap64 (t387 + 1), (t388.set (((rd_T121 l0 a1_0).f1) : Int).toNat (rd l1_2 ((rd_T121 l0 a1_0).f2))), t391, t394)) else (none)) else (none)) else (none)) else (none)) else (if ((rd_T121 l0 a1_0).f0) = 9 then (if 0 ≤ ((rd_T121 l0 a1_0).f1) then (if ((rd_T121 l0 a1_0).f1) < (l1_1.length : Int) then (if 0 ≤ ((rd_T121 l0 a1_0).f2) then (if ((rd_T121 l0 a1_0).f2) < (t391.length : Int) then (some (wrap64 (t387 + 1), t388, (t391.set (((rd_T121 l0 a1_0).f2) : Int).toNat (rd l1_1 ((rd_T121 l0 a1_0).f1))), t394)) else (none)) else (none)) else (none)) else (none)) else (if 0 ≤ ((rd_T121 l0 a1_0).f1) then (if ((rd_T121 l0 a1_0).f1) < (t388.length : Int) then (some (wrap64 (t387 + 1), (t388.set (((rd_T121 l0 a1_0).f1) : Int).toNat (mn (mx a2 0) 999)), t391, t394)) else (none)) else (none))))))) else (none)) else (none)) else (some (t387, t388, t391, t394)))) = some (r1, r2, r3, r4) := H
 have A4 := Aside0.mk A40
 clear A40
 replace H := Option.bind_eq_some_iff.mp H
 obtain ⟨t398, A50, H⟩ := H
 replace H : (if t398 = true then (if 0 ≤ a1_0 then (if a1_0 < (l0.length : Int) then (if ((rd_T121 l0 a1_0).f0) = 5 then (if 0 ≤ ((rd_T121 l0 a1_0).f2) then (if ((rd_T121 l0 a1_0).f2) < (l1_1.length : Int) then (if 0 ≤ ((rd_T121 l0 a1_0).f3) then (if ((rd_T121 l0 a1_0).f3) < (l1_1.length : Int) then (if 0 ≤ ((rd_T121 l0 a1_0).f1) then (if ((rd_T121 l0 a1_0).f1) < (t388.length : Int) then (some (wrap64 (t387 + 1), (t388.set (((rd_T121 l0 a1_0).f1) : Int).toNat (Int.tmod (wrap64 ((rd l1_1 ((rd_T121 l0 a1_0).f2)) + (rd l1_1 ((rd_T121 l0 a1_0).f3)))) 1000)), t391, t394)) else (none)) else (none)) else (none)) else (none)) else (none)) else (none)) else (if ((rd_T121 l0 a1_0).f0) = 6 then (if 0 ≤ ((rd_T121 l0 a1_0).f1) then (if ((rd_T121 l0 a1_0).f1) < (l1_1.length : Int) then (if 0 ≤ ((rd_T121 l0 a1_0).f2) then (if ((rd_T121 l0 a1_0).f2) < (t394.length : Int) then (some (wrap64 (t387 + 1), t388, t391, (t394.set (((rd_T121 l0 a1_0).f2) : Int).toNat (rd l1_1 ((rd_T121 l0 a1_0).f1))))) else (none)) else (none)) else (none)) else (none)) else (if ((rd_T121 l0 a1_0).f0) = 7 then (if 0 ≤ ((rd_T121 l0 a1_0).f1) then (if ((rd_T121 l0 a1_0).f1) < (l1_1.length : Int) then (if (Int.tmod (rd l1_1 ((rd_T121 l0 a1_0).f1)) 2) = 0 then (some (wrap64 ((wrap64 (t387 + 1)) + ((rd_T121 l0 a1_0).f2)), t388, t391, t394)) else (some (wrap64 (t387 + 1), t388, t391, t394))) else (none)) else (none)) else (if ((rd_T121 l0 a1_0).f0) = 8 then (if 0 ≤ ((rd_T121 l0 a1_0).f2) then (if ((rd_T121 l0 a1_0).f2) < (l1_2.length : Int) then (if 0 ≤ ((rd_T121 l0 a1_0).f1) then (if ((rd_T121 l0 a1_0).f1) < (t388.length : Int) then (some (wrap64 (t387 + 1), (t388.set (((rd_T121 l0 a1_0).f1) : Int).toNat (rd l1_2 ((rd_T121 l0 a1_0).f2))), t391, t394)) else (none)) else (none)) else (none)) else (none)) else (if ((rd_T121 l0 a1_0).f0) = 9 then (if 0 ≤ ((rd_T121 l0 a1_0).f1) then (if ((rd_T121 l0 a1_0).f1) < (l1_1.length : Int) then (if 0 ≤ ((rd_T121 l0 a1_0).f2) then (if ((rd_T121 l0 a1_0).f2) < (t391.length : Int) then (some (wrap64 (t387 + 1), t388, (t391.set (((rd_T121 l0 a1_0).f2) : Int).toNat (rd l1_1 ((rd_T121 l0 a1_0).f1))), t394)) else (none)) else (none)) else (none)) else (none)) else (if 0 ≤ ((rd_T121 l0 a1_0).f1) then (if ((rd_T121 l0 a1_0).f1) < (t388.length : Int) then (some (wrap64 (t387 + 1), (t388.set (((rd_T121 l0 a1_0).f1) : Int).toNat (mn (mx a2 0) 999)), t391, t394)) else (none)) else (none))))))) else (none)) else (none)) else (some (t387, t388, t391, t394))) = some (r1, r2, r3, r4) := H
 have A5 := Aside0.mk A50
 clear A50
 by_cases c6 : t398 = true
 ·subst c6
  have H1 : (if 0 ≤ a1_0 then (if a1_0 < (l0.length : Int) then (if ((rd_T121 l0 a1_0).f0) = 5 then (if 0 ≤ ((rd_T121 l0 a1_0).f2) then (if ((rd_T121 l0 a1_0).f2) < (l1_1.length : Int) then (if 0 ≤ ((rd_T121 l0 a1_0).f3) then (if ((rd_T121 l0 a1_0).f3) < (l1_1.length : Int) then (if 0 ≤ ((rd_T121 l0 a1_0).f1) then (if ((rd_T121 l0 a1_0).f1) < (t388.length : Int) then (some (wrap64 (t387 + 1), (t388.set (((rd_T121 l0 a1_0).f1) : Int).toNat (Int.tmod (wrap64 ((rd l1_1 ((rd_T121 l0 a1_0).f2)) + (rd l1_1 ((rd_T121 l0 a1_0).f3)))) 1000)), t391, t394)) else (none)) else (none)) else (none)) else (none)) else (none)) else (none)) else (if ((rd_T121 l0 a1_0).f0) = 6 then (if 0 ≤ ((rd_T121 l0 a1_0).f1) then (if ((rd_T121 l0 a1_0).f1) < (l1_1.length : Int) then (if 0 ≤ ((rd_T121 l0 a1_0).f2) then (if ((rd_T121 l0 a1_0).f2) < (t394.length : Int) then (some (wrap64 (t387 + 1), t388, t391, (t394.set (((rd_T121 l0 a1_0).f2) : Int).toNat (rd l1_1 ((rd_T121 l0 a1_0).f1))))) else (none)) else (none)) else (none)) else (none)) else (if ((rd_T121 l0 a1_0).f0) = 7 then (if 0 ≤ ((rd_T121 l0 a1_0).f1) then (if ((rd_T121 l0 a1_0).f1) < (l1_1.length : Int) then (if (Int.tmod (rd l1_1 ((rd_T121 l0 a1_0).f1)) 2) = 0 then (some (wrap64 ((wrap64 (t387 + 1)) + ((rd_T121 l0 a1_0).f2)), t388, t391, t394)) else (some (wrap64 (t387 + 1), t388, t391, t394))) else (none)) else (none)) else (if ((rd_T121 l0 a1_0).f0) = 8 then (if 0 ≤ ((rd_T121 l0 a1_0).f2) then (if ((rd_T121 l0 a1_0).f2) < (l1_2.length : Int) then (if 0 ≤ ((rd_T121 l0 a1_0).f1) then (if ((rd_T121 l0 a1_0).f1) < (t388.length : Int) then (some (wrap64 (t387 + 1), (t388.set (((rd_T121 l0 a1_0).f1) : Int).toNat (rd l1_2 ((rd_T121 l0 a1_0).f2))), t391, t394)) else (none)) else (none)) else (none)) else (none)) else (if ((rd_T121 l0 a1_0).f0) = 9 then (if 0 ≤ ((rd_T121 l0 a1_0).f1) then (if ((rd_T121 l0 a1_0).f1) < (l1_1.length : Int) then (if 0 ≤ ((rd_T121 l0 a1_0).f2) then (if ((rd_T121 l0 a1_0).f2) < (t391.length : Int) then (some (wrap64 (t387 + 1), t388, (t391.set (((rd_T121 l0 a1_0).f2) : Int).toNat (rd l1_1 ((rd_T121 l0 a1_0).f1))), t394)) else (none)) else (none)) else (none)) else (none)) else (if 0 ≤ ((rd_T121 l0 a1_0).f1) then (if ((rd_T121 l0 a1_0).f1) < (t388.length : Int) then (some (wrap64 (t387 + 1), (t388.set (((rd_T121 l0 a1_0).f1) : Int).toNat (mn (mx a2 0) 999)), t391, t394)) else (none)) else (none))))))) else (none)) else (none)) = some (r1, r2, r3, r4) := by rw [if_pos rfl] at H; exact H
  clear H
  have H := H1
  clear H1
  by_cases c7 : 0 ≤ a1_0
  ·rw [if_pos c7] at H
   have c7b0 : decide (0 ≤ a1_0) = true := decide_eq_true c7
   clear c7
   by_cases c8 : a1_0 < (l0.length : Int)
   ·rw [if_pos c8] at H
    have c8b0 : decide (a1_0 < (l0.length : Int)) = true := decide_eq_true c8
    clear c8
    by_cases c9 : ((rd_T121 l0 a1_0).f0) = 5
    ·rw [if_pos c9] at H
     have c9b0 : (((rd_T121 l0 a1_0).f0) == 5) = true := beq_iff_eq.mpr c9
     have c9b1 : (((rd_T121 l0 a1_0).f0) != 5) = false := bne_eq_false_iff_eq.mpr c9
     clear c9
     by_cases c10 : 0 ≤ ((rd_T121 l0 a1_0).f2)
     ·rw [if_pos c10] at H
      have c10b0 : decide (0 ≤ ((rd_T121 l0 a1_0).f2)) = true := decide_eq_true c10
      clear c10
      by_cases c11 : ((rd_T121 l0 a1_0).f2) < (l1_1.length : Int)
      ·rw [if_pos c11] at H
       have c11b0 : decide (((rd_T121 l0 a1_0).f2) < (l1_1.length : Int)) = true := decide_eq_true c11
       clear c11
       by_cases c12 : 0 ≤ ((rd_T121 l0 a1_0).f3)
       ·rw [if_pos c12] at H
        have c12b0 : decide (0 ≤ ((rd_T121 l0 a1_0).f3)) = true := decide_eq_true c12
        clear c12
        by_cases c13 : ((rd_T121 l0 a1_0).f3) < (l1_1.length : Int)
        ·rw [if_pos c13] at H
         have c13b0 : decide (((rd_T121 l0 a1_0).f3) < (l1_1.length : Int)) = true := decide_eq_true c13
         clear c13
         by_cases c14 : 0 ≤ ((rd_T121 l0 a1_0).f1)
         ·rw [if_pos c14] at H
          have c14b0 : decide (0 ≤ ((rd_T121 l0 a1_0).f1)) = true := decide_eq_true c14
          clear c14
          by_cases c15 : ((rd_T121 l0 a1_0).f1) < (t388.length : Int)
          ·rw [if_pos c15] at H
           have c15b0 : decide (((rd_T121 l0 a1_0).f1) < (t388.length : Int)) = true := decide_eq_true c15
           clear c15
           obtain ⟨y403, hy403⟩ : ∃ y_ : List Int, y_ = (t388.set (((rd_T121 l0 a1_0).f1) : Int).toNat (Int.tmod (wrap64 ((rd l1_1 ((rd_T121 l0 a1_0).f2)) + (rd l1_1 ((rd_T121 l0 a1_0).f3)))) 1000)) := ⟨_, rfl⟩
           replace H : (some (wrap64 (t387 + 1), y403, t391, t394)) = some (r1, r2, r3, r4) := by first | (rw [hy403]; with_reducible exact H) | (have H2_ := (Option.bind_some _ _).symm.trans H; rw [hy403]; with_reducible exact H2_) | (have H2_ := (Option.bind_some _ _).symm.trans H; with_reducible exact H2_) | with_reducible exact H | (rw [hy403]; exact H) | exact H
           have Ny403 := Aside0.mk hy403
           clear hy403
           simp only [Option.some.injEq, Prod.mk.injEq] at H
           obtain ⟨rfl, rfl, rfl, rfl⟩ := H
           go_enter Try.func20, Try.ntmps20
           try go_wp2_with (first | ((with_reducible refine gate_dst (N := 4) rfl ?_); refine bx_ (N := 4) #[.int .i64 a1_0, .slice A1_1 l1_1.length c1_1, .slice A1_2 l1_2.length c1_2, .slice A1_3 l1_3.length c1_3] 45 ?_; intro gb385 hg w17 hbox hb; have BK385 := ak hbox; have GW385 := gy hg HB; have GE385 := gy hg HB; replace HB := bs HB hb; clear hb hbox hg) | ((with_reducible refine gate_dst (N := 6) rfl ?_); refine bx_ (N := 6) #[.int .i64 0, .slice none 0 0, .slice none 0 0, .slice none 0 0] 45 ?_; intro gb386 hg w18 hbox hb; have BK386 := ak hbox; have GW386 := gy hg HB; have GE386 := gy hg HB; replace HB := bs HB hb; have NB385_386 := gm hg BK385; have NB386_385 := gn hg BK385; replace BK385 := kf BK385 hb; clear hb hbox hg; have hnb19 := NB385_386.out; have hnc19 := NB386_385.out; obtain ⟨_, _, _, _, _, _, _, _⟩ := bc4 BK385) | ((with_reducible refine gate_callee (f := 77) rfl ?_); refine goesL_ (some 10) rfl rfl Try.func77 KR rfl #[.agg #[.int .i64 a1_0, .slice A1_1 l1_1.length c1_1, .slice A1_2 l1_2.length c1_2, .slice A1_3 l1_3.length c1_3]] rfl AR ?_; (with_reducible refine (impl_copyState.calls a1_0 _ _ l1_1 _ _ l1_2 _ _ l1_3 t387 t388 t391 t394 _ ?side1 ?side2 ?side3 ?side4 ?side5 ?side6 A4.out).mono ?_); (case side1 => exact CR (Kd.C_below HR1_1.out HB.out)); (case side2 => exact HC1_1.out); (case side3 => exact CR (Kd.C_below HR1_2.out HB.out)); (case side4 => exact HC1_2.out); (case side5 => exact CR (Kd.C_below HR1_3.out HB.out)); (case side6 => exact HC1_3.out); rintro e w21 ⟨v389, v392, v395, rfl, ho0, ho1, ho2, hb⟩; refine ⟨_, rfl, ?_⟩; have HO390 := Rn0 ho0 HB; have HO393 := Rn0 ho1 HB; have HO396 := Rn0 ho2 HB; replace BK385 := kf BK385 hb; replace BK386 := kf BK386 hb; replace HB := bs HB hb; (try clear hb); (try clear hb2); (try clear hk); (try clear hi); (try clear ho0); (try clear ho1); (try clear ho2)) | ((with_reducible refine gate_dst (N := 7) rfl ?_); refine bx_ (N := 7) #[.int .i64 0, .slice none 0 0, .slice none 0 0, .slice none 0 0] 45 ?_; intro gb397 hg w22 hbox hb; replace HO390 := Rb HO390 hb; replace HO393 := Rb HO393 hb; replace HO396 := Rb HO396 hb; have BK397 := ak hbox; have GW397 := gy hg HB; have GE397 := gy hg HB; replace HB := bs HB hb; have NB385_397 := gm hg BK385; have NB397_385 := gn hg BK385; replace BK385 := kf BK385 hb; have NB386_397 := gm hg BK386; have NB397_386 := gn hg BK386; replace BK386 := kf BK386 hb; clear hb hbox hg; have hnb23 := NB397_385.out; have hnc23 := NB385_397.out; have hnb24 := NB397_386.out; have hnc24 := NB386_397.out; obtain ⟨_, _, _, _, _, _, _, _⟩ := bc4 BK397; obtain ⟨Ao26, co26, eo26⟩ := Kd.R_slice HO390.out; subst eo26; obtain ⟨Ao27, co27, eo27⟩ := Kd.R_slice HO393.out; subst eo27; obtain ⟨Ao28, co28, eo28⟩ := Kd.R_slice HO396.out; subst eo28; obtain ⟨_, _, _, _, _, _, _, _⟩ := bc4 BK385) | ((with_reducible refine gate_callee (f := 78) rfl ?_); refine goesL_ (some 13) rfl rfl Try.func78 KR rfl #[.slice A0 l0.length c0, .agg #[.int .i64 a1_0, .slice A1_1 l1_1.length c1_1, .slice A1_2 l1_2.length c1_2, .slice A1_3 l1_3.length c1_3]] rfl AR ?_; (with_reducible refine (impl_canStep.calls k _ _ l0 a1_0 _ _ l1_1 _ _ l1_2 _ _ l1_3 true _ ?side1 ?side2 ?side3 ?side4 ?side5 ?side6 ?side7 ?side8 A5.out).mono ?_); (case side1 => exact Kd.C_below HR0.out PB); (case side2 => exact HC0.out); (case side3 => exact Kd.C_below HR1_1.out PB); (case side4 => exact HC1_1.out); (case side5 => exact Kd.C_below HR1_2.out PB); (case side6 => exact HC1_2.out); (case side7 => exact Kd.C_below HR1_3.out PB); (case side8 => exact HC1_3.out); rintro e w30 ⟨rfl, hb⟩; refine ⟨_, rfl, ?_⟩; replace HO390 := ak (Kd.R_below (Re1 HO390 BK397) hb); replace HO393 := ak (Kd.R_below (Re1 HO393 BK397) hb); replace HO396 := ak (Kd.R_below (Re1 HO396 BK397) hb); replace BK385 := kf BK385 hb; replace BK386 := kf BK386 hb; replace BK397 := kp (cs' := #[.int .i64 t387, .slice Ao26 t388.length co26, .slice Ao27 t391.length co27, .slice Ao28 t394.length co28]) BK397 hb; replace HB := bs HB hb; (try clear hb); (try clear hb2); (try clear hk); (try clear hi); obtain ⟨_, _, _, _, _, _, _, _⟩ := bc4 BK385; have p399 : 0 ≤ (a1_0 : Int) := of_decide_eq_true (by first | (with_reducible assumption) | assumption); have q399 : a1_0 < (l0.length : Int) := of_decide_eq_true (by first | (with_reducible assumption) | assumption); obtain ⟨ad399, e399, hx399_0, hx399_1, hx399_2, hx399_3⟩ := at_T121 HR0.out a1_0 p399 q399; cases e399; replace hx399_0 := hx_ HB hx399_0; replace hx399_1 := hx_ HB hx399_1; replace hx399_2 := hx_ HB hx399_2; replace hx399_3 := hx_ HB hx399_3; replace p399 := eq_true p399; replace q399 := eq_true q399) | ((with_reducible refine gate_dst (N := 8) rfl ?_); refine bx_ (N := 8) #[.int .i64 0, .int .i64 0, .int .i64 0, .int .i64 0] 121 ?_; intro gb400 hg w32 hbox hb; replace HO390 := Rb HO390 hb; replace HO393 := Rb HO393 hb; replace HO396 := Rb HO396 hb; have BK400 := ak hbox; have GW400 := gy hg HB; have GE400 := gy hg HB; replace HB := bs HB hb; have NB385_400 := gm hg BK385; have NB400_385 := gn hg BK385; replace BK385 := kf BK385 hb; have NB386_400 := gm hg BK386; have NB400_386 := gn hg BK386; replace BK386 := kf BK386 hb; have NB397_400 := gm hg BK397; have NB400_397 := gn hg BK397; replace BK397 := kf BK397 hb; clear hb hbox hg; have hnb33 := NB400_385.out; have hnc33 := NB385_400.out; have hnb34 := NB400_386.out; have hnc34 := NB386_400.out; have hnb35 := NB400_397.out; have hnc35 := NB397_400.out; obtain ⟨_, _, _, _, _, _, _, _⟩ := bc4 BK400; obtain ⟨_, _, _, _, _, _, _, _⟩ := bc4 BK397))
           generalize hW_ : (((((w32.setCell ⟨gb400, 0, none⟩ (.int .i64 ((rd_T121 l0 a1_0).f0))).setCell ⟨gb400, 1, none⟩ (.int .i64 ((rd_T121 l0 a1_0).f1))).setCell ⟨gb400, 2, none⟩ (.int .i64 ((rd_T121 l0 a1_0).f2))).setCell ⟨gb400, 3, none⟩ (.int .i64 ((rd_T121 l0 a1_0).f3))).setCell ⟨gb397, 0, none⟩ (.int .i64 (wrap64 (t387 + 1)))) = w38
           replace HO390 := R2 hW_ HO390 BK400 BK397
           replace HO393 := R2 hW_ HO393 BK400 BK397
           replace HO396 := R2 hW_ HO396 BK400 BK397
           replace BK385 := BE hW_ BK385
           replace BK386 := BE hW_ BK386
           replace BK397 : Aside0 (w38.heap[gb397]? = some (.cells #[.int .i64 (wrap64 (t387 + 1)), .slice Ao26 t388.length co26, .slice Ao27 t391.length co27, .slice Ao28 t394.length co28] 45 (0, 0))) := BP hW_ BK397
           replace BK400 : Aside0 (w38.heap[gb400]? = some (.cells #[.int .i64 ((rd_T121 l0 a1_0).f0), .int .i64 ((rd_T121 l0 a1_0).f1), .int .i64 ((rd_T121 l0 a1_0).f2), .int .i64 ((rd_T121 l0 a1_0).f3)] 121 (0, 0))) := BP hW_ BK400
           replace HB := BL hW_ HB
           (try clear hW_)
           replace HO390 := ak (Kd.R_drew HO390.out)
           replace HO393 := ak (Kd.R_drew HO393.out)
           replace HO396 := ak (Kd.R_drew HO396.out)
           replace BK385 := ak (blk_drew BK385.out)
           replace BK386 := ak (blk_drew BK386.out)
           replace BK397 := ak (blk_drew BK397.out)
           replace BK400 := ak (blk_drew BK400.out)
           replace HB := ak (below_drew1 HB.out)
           have p401 : 0 ≤ (((rd_T121 l0 a1_0).f2) : Int) := of_decide_eq_true (by first | (with_reducible assumption) | assumption)
           have q401 : ((rd_T121 l0 a1_0).f2) < (l1_1.length : Int) := of_decide_eq_true (by first | (with_reducible assumption) | assumption)
           obtain ⟨ad401, e401, hx401_0⟩ := Kd.at_int HR1_1.out ((rd_T121 l0 a1_0).f2) p401 q401
           have hw401_0 := hx401_0
           cases e401
           replace hx401_0 := hx_ HB hx401_0
           replace p401 := eq_true p401
           replace q401 := eq_true q401
           have p402 : 0 ≤ (((rd_T121 l0 a1_0).f3) : Int) := of_decide_eq_true (by first | (with_reducible assumption) | assumption)
           have q402 : ((rd_T121 l0 a1_0).f3) < (l1_1.length : Int) := of_decide_eq_true (by first | (with_reducible assumption) | assumption)
           obtain ⟨ad402, e402, hx402_0⟩ := Kd.at_int HR1_1.out ((rd_T121 l0 a1_0).f3) p402 q402
           have hw402_0 := hx402_0
           obtain rfl : ad401 = ad402 := (by injection e402)
           replace hx402_0 := hx_ HB hx402_0
           replace p402 := eq_true p402
           replace q402 := eq_true q402
           have p16 : 0 ≤ (((rd_T121 l0 a1_0).f1) : Int) := of_decide_eq_true (by first | (with_reducible assumption) | assumption)
           have q16 : (((rd_T121 l0 a1_0).f1) : Int) < ((t388.length : Int) : Int) := of_decide_eq_true (by first | (with_reducible assumption) | assumption)
           obtain ⟨go16, co16, eo16, gb16, gl16, cl16, HG16⟩ := Kd.R_form HO390.out (by omega)
           (first | cases eo16 | (injection eo16 with ea_ en_ ec_; (first | subst ea_ | (injection ea_ with ea_; subst ea_)); subst ec_; clear en_))
           have GB16 := Aside0.mk gb16
           have GG16 := Aside0.mk HG16
           clear gb16 gl16 HG16
           obtain ⟨hx16_0, hf16_0⟩ := Kd.R_celln 0 HO390.out (((rd_T121 l0 a1_0).f1) : Int) p16 q16
           replace p16 := eq_true p16
           replace q16 := eq_true q16
           have HP40 := Kd.R_putn HO390.out (((rd_T121 l0 a1_0).f1) : Int) (Int.tmod (wrap64 ((rd l1_1 ((rd_T121 l0 a1_0).f2)) + (rd l1_1 ((rd_T121 l0 a1_0).f3)))) 1000)
           rw [← Ny403.out] at HP40
           have HQ40 := Aside0.mk HP40
           clear HP40
           refine start_ (n := 20) (S := fun w' => w'.cell? ⟨gb397, 0, none⟩ = some (.int .i64 (wrap64 (t387 + 1))) ∧ w'.cell? ⟨gb397, 1, none⟩ = some (.slice (some ⟨go16, 0, none⟩) t388.length co26) ∧ w'.cell? ⟨gb397, 2, none⟩ = some (.slice Ao27 t391.length co27) ∧ w'.cell? ⟨gb397, 3, none⟩ = some (.slice Ao28 t394.length co28) ∧ w'.cell? ⟨gb400, 0, none⟩ = some (.int .i64 ((rd_T121 l0 a1_0).f0)) ∧ w'.cell? ⟨gb400, 1, none⟩ = some (.int .i64 ((rd_T121 l0 a1_0).f1)) ∧ w'.cell? ⟨gb400, 2, none⟩ = some (.int .i64 ((rd_T121 l0 a1_0).f2)) ∧ w'.cell? ⟨gb400, 3, none⟩ = some (.int .i64 ((rd_T121 l0 a1_0).f3)) ∧ w'.cell? ⟨gb385, 0, none⟩ = some (.int .i64 a1_0) ∧ w'.cell? ⟨gb385, 1, none⟩ = some (.slice (some ad401) l1_1.length c1_1) ∧ w'.cell? ⟨gb385, 2, none⟩ = some (.slice A1_2 l1_2.length c1_2) ∧ w'.cell? ⟨gb385, 3, none⟩ = some (.slice A1_3 l1_3.length c1_3) ∧ w'.cell? (ad401.add (((rd_T121 l0 a1_0).f2)).toNat) = some (.int .i64 (rd l1_1 ((rd_T121 l0 a1_0).f2))) ∧ w'.cell? (ad401.add (((rd_T121 l0 a1_0).f3)).toNat) = some (.int .i64 (rd l1_1 ((rd_T121 l0 a1_0).f3)))) (ds := [19]) #[false, false, false, false, false, false, false, false, false, false, false, false, false, false, false, false, false, false, false, false] KR rfl rfl ⟨(blk_cell BK397.out 0).trans rfl, (blk_cell BK397.out 1).trans rfl, (blk_cell BK397.out 2).trans rfl, (blk_cell BK397.out 3).trans rfl, (blk_cell BK400.out 0).trans rfl, (blk_cell BK400.out 1).trans rfl, (blk_cell BK400.out 2).trans rfl, (blk_cell BK400.out 3).trans rfl, (blk_cell BK385.out 0).trans rfl, (blk_cell BK385.out 1).trans rfl, (blk_cell BK385.out 2).trans rfl, (blk_cell BK385.out 3).trans rfl, ((HB.out.cell (World.block_lt_of_cell? w _ hw401_0)).trans hw401_0), ((HB.out.cell (World.block_lt_of_cell? w _ hw402_0)).trans hw402_0)⟩ (fun hHeld => ?_); refine with_tabW impl_StepState.tab9 impl_StepState.bits9 (fun HT_ HW_ => ?_)
           generalize w38.drew = w39 at HO390 HO393 HO396 BK385 BK386 BK397 BK400 HB GG16 HQ40 hf16_0 hx16_0 hx401_0 hx402_0 hHeld ⊢
           refine pu_ (i := 0) (N := some 37) #[true, false, false, false, false, false, false, false, false, false, false, false, false, false, false, false, false, false, false, false] HT_ ?_
           refine pu_ (i := 2) (N := some 39) #[true, false, true, false, false, false, false, false, false, false, false, false, false, false, false, false, false, false, false, false] HT_ ?_
           refine pu_ (i := 4) (N := some 41) #[true, false, true, false, true, false, false, false, false, false, false, false, false, false, false, false, false, false, false, false] HT_ ?_
           refine pu_ (i := 6) (N := some 43) #[true, false, true, false, true, false, true, false, false, false, false, false, false, false, false, false, false, false, false, false] HT_ ?_
           refine pu_ (i := 10) (N := some 47) #[true, false, true, false, true, false, true, false, false, false, true, false, false, false, false, false, false, false, false, false] HT_ ?_
           refine pu_ (i := 12) (N := some 49) #[true, false, true, false, true, false, true, false, false, false, true, false, true, false, false, false, false, false, false, false] HT_ ?_
           refine tk_ (i := 1) (N := some 38) #[true, true, true, false, true, false, true, false, false, false, true, false, true, false, false, false, false, false, false, false] rfl rfl HT_ HW_ hHeld ?_
           refine take_ (i := 3) (N := some 40) (v := ?_) (a' := ?_) #[true, true, true, true, true, false, true, false, false, false, true, false, true, false, false, false, false, false, false, false] rfl rfl (take_ofW HT_.out HW_.out KR) (fun _ _ _ h => h) (Or.inl ⟨by rfl, ?_⟩) hHeld ?_ ?_
           rotate_left
           ·rintro w' ⟨s0, s1, s2, s3, s4, s5, s6, s7, s8, s9, s10, s11, s12, s13⟩
            go_simp
            with_reducible rfl
           rotate_left
           ·simp only [Act.put, List.setIfInBounds_toArray, List.set_cons_zero, List.set_cons_succ, i64_w, i32_w]
            rfl
           refine tk_ (i := 5) (N := some 42) #[true, true, true, true, true, true, true, false, false, false, true, false, true, false, false, false, false, false, false, false] rfl rfl HT_ HW_ hHeld ?_
           refine take_ (i := 7) (N := some 44) (v := ?_) (a' := ?_) #[true, true, true, true, true, true, true, true, false, false, true, false, true, false, false, false, false, false, false, false] rfl rfl (take_ofW HT_.out HW_.out KR) (fun _ _ _ h => h) (Or.inl ⟨by rfl, ?_⟩) hHeld ?_ ?_
           rotate_left
           ·rintro w' ⟨s0, s1, s2, s3, s4, s5, s6, s7, s8, s9, s10, s11, s12, s13⟩
            go_simp
            with_reducible rfl
           rotate_left
           ·simp only [Act.put, List.setIfInBounds_toArray, List.set_cons_zero, List.set_cons_succ, i64_w, i32_w]
            rfl
           refine pu_ (i := 8) (N := some 45) #[true, true, true, true, true, true, true, true, true, false, true, false, true, false, false, false, false, false, false, false] HT_ ?_
           refine tk_ (i := 9) (N := some 46) #[true, true, true, true, true, true, true, true, true, true, true, false, true, false, false, false, false, false, false, false] rfl rfl HT_ HW_ hHeld ?_
           refine take_ (i := 11) (N := some 48) (v := ?_) (a' := ?_) #[true, true, true, true, true, true, true, true, true, true, true, true, true, false, false, false, false, false, false, false] rfl rfl (take_ofW HT_.out HW_.out KR) (fun _ _ _ h => h) (Or.inl ⟨by rfl, ?_⟩) hHeld ?_ ?_
           rotate_left
           ·rintro w' ⟨s0, s1, s2, s3, s4, s5, s6, s7, s8, s9, s10, s11, s12, s13⟩
            go_simp
            with_reducible rfl
           rotate_left
           ·simp only [Act.put, List.setIfInBounds_toArray, List.set_cons_zero, List.set_cons_succ, i64_w, i32_w]
            rfl
           refine tk_ (i := 13) (N := some 50) #[true, true, true, true, true, true, true, true, true, true, true, true, true, true, false, false, false, false, false, false] rfl rfl HT_ HW_ hHeld ?_
           refine pu_ (i := 14) (N := some 51) #[true, true, true, true, true, true, true, true, true, true, true, true, true, true, true, false, false, false, false, false] HT_ ?_
           refine tk_ (i := 15) (N := some 52) #[true, true, true, true, true, true, true, true, true, true, true, true, true, true, true, true, false, false, false, false] rfl rfl HT_ HW_ hHeld ?_
           refine pu_ (i := 16) (N := some 53) #[true, true, true, true, true, true, true, true, true, true, true, true, true, true, true, true, true, false, false, false] HT_ ?_
           refine pu_ (i := 17) (N := some 54) #[true, true, true, true, true, true, true, true, true, true, true, true, true, true, true, true, true, true, false, false] HT_ ?_
           refine pu_ (i := 18) (N := some 55) #[true, true, true, true, true, true, true, true, true, true, true, true, true, true, true, true, true, true, true, false] HT_ ?_
           refine last_ (i := 19) (N := none) #[true, true, true, true, true, true, true, true, true, true, true, true, true, true, true, true, true, true, true, true] rfl rfl (one_of HT_.out KR) (by decide) (fun K hK => ?_)
           refine skip_ (w1 := ?_) (by rfl) rfl ?_ ?_
           rotate_left
           ·go_simp
            rfl
           refine hK.out _ _ ?_
           clear hK K
           refine done_ (done_of HT_.out KR) ?_
           generalize hW_ : (w39.setCell ⟨go16, (((rd_T121 l0 a1_0).f1) : Int).toNat, none⟩ (.int .i64 (Int.tmod (wrap64 ((rd l1_1 ((rd_T121 l0 a1_0).f2)) + (rd l1_1 ((rd_T121 l0 a1_0).f3)))) 1000))) = w41
           replace HO393 : Aside0 (Kd.R (Kd.int .i64) 3 w41 w.heap.size (fun k_ => some k_ ≠ (.slice (some ⟨go16, 0, none⟩) t388.length co26 : Value).ownBlock ∧ some k_ ≠ (.slice Ao28 t394.length co28 : Value).ownBlock) (.slice Ao27 t391.length co27) t391) := ⟨by rw [← hW_]; exact RX (Kd.R_mono HO393.out (fun k_ hk => (⟨hk, fun e_ => hk.1 (by rw [e_]; rfl)⟩ : _ ∧ k_ ≠ go16))) (fun _ hk => by first | exact ⟨hk.1.1, hk.1.2⟩ | simp_all)⟩
           replace HO396 : Aside0 (Kd.R (Kd.int .i64) 3 w41 w.heap.size (fun k_ => some k_ ≠ (.slice (some ⟨go16, 0, none⟩) t388.length co26 : Value).ownBlock ∧ some k_ ≠ (.slice Ao27 t391.length co27 : Value).ownBlock) (.slice Ao28 t394.length co28) t394) := ⟨by rw [← hW_]; exact RX (Kd.R_mono HO396.out (fun k_ hk => (⟨hk, fun e_ => hk.1 (by rw [e_]; rfl)⟩ : _ ∧ k_ ≠ go16))) (fun _ hk => by first | exact ⟨hk.1.1, hk.1.2⟩ | simp_all)⟩
           replace BK385 := BQ hW_ HO390 BK385
           replace BK386 := BQ hW_ HO390 BK386
           replace BK397 := BQ hW_ HO390 BK397
           replace BK400 := BQ hW_ HO390 BK400
           replace HO390 : Aside0 (Kd.R (Kd.int .i64) 3 w41 w.heap.size (fun k_ => some k_ ≠ (.slice Ao27 t391.length co27 : Value).ownBlock ∧ some k_ ≠ (.slice Ao28 t394.length co28 : Value).ownBlock) (.slice (some ⟨go16, 0, none⟩) t388.length co26) y403) := ⟨by rw [← hW_]; exact PR HQ40⟩
           replace HB := BL hW_ HB
           (try clear hW_)
           obtain ⟨_, _, _, _, _, _, _, _⟩ := bc4 BK397
           obtain ⟨_, _, _, _, _, _, _, _⟩ := bc4 BK386
           try go_wp2
           refine bodyPost_ret (results_cell_row rfl _ _ gb386 45 #[.int .i64 (wrap64 (t387 + 1)), .slice (some ⟨go16, 0, none⟩) t388.length co26, .slice Ao27 t391.length co27, .slice Ao28 t394.length co28] (0, 0) _ rfl (PX BK386) Try.underlying45 rfl KR) rfl ?_
           exact ⟨_, _, _, RT, Re1 HO390 BK386, Re1 HO393 BK386, Re1 HO396 BK386, PB⟩
          ·rw [if_neg c15] at H
           exact absurd H (by simp)
         ·rw [if_neg c14] at H
          exact absurd H (by simp)
        ·rw [if_neg c13] at H
         exact absurd H (by simp)
       ·rw [if_neg c12] at H
        exact absurd H (by simp)
      ·rw [if_neg c11] at H
       exact absurd H (by simp)
     ·rw [if_neg c10] at H
      exact absurd H (by simp)
    ·rw [if_neg c9] at H
     have c9b0 : (((rd_T121 l0 a1_0).f0) == 5) = false := beq_eq_false_iff_ne.mpr c9
     have c9b1 : (((rd_T121 l0 a1_0).f0) != 5) = true := bne_iff_ne.mpr c9
     by_cases c44 : ((rd_T121 l0 a1_0).f0) = 6
     ·rw [if_pos c44] at H
      have c44b0 : (((rd_T121 l0 a1_0).f0) == 6) = true := beq_iff_eq.mpr c44
      have c44b1 : (((rd_T121 l0 a1_0).f0) != 6) = false := bne_eq_false_iff_eq.mpr c44
      clear c44
      by_cases c45 : 0 ≤ ((rd_T121 l0 a1_0).f1)
      ·rw [if_pos c45] at H
       have c45b0 : decide (0 ≤ ((rd_T121 l0 a1_0).f1)) = true := decide_eq_true c45
       clear c45
       by_cases c46 : ((rd_T121 l0 a1_0).f1) < (l1_1.length : Int)
       ·rw [if_pos c46] at H
        have c46b0 : decide (((rd_T121 l0 a1_0).f1) < (l1_1.length : Int)) = true := decide_eq_true c46
        clear c46
        by_cases c47 : 0 ≤ ((rd_T121 l0 a1_0).f2)
        ·rw [if_pos c47] at H
         have c47b0 : decide (0 ≤ ((rd_T121 l0 a1_0).f2)) = true := decide_eq_true c47
         clear c47
         by_cases c48 : ((rd_T121 l0 a1_0).f2) < (t394.length : Int)
         ·rw [if_pos c48] at H
          have c48b0 : decide (((rd_T121 l0 a1_0).f2) < (t394.length : Int)) = true := decide_eq_true c48
          clear c48
          obtain ⟨y405, hy405⟩ : ∃ y_ : List Int, y_ = (t394.set (((rd_T121 l0 a1_0).f2) : Int).toNat (rd l1_1 ((rd_T121 l0 a1_0).f1))) := ⟨_, rfl⟩
          replace H : (some (wrap64 (t387 + 1), t388, t391, y405)) = some (r1, r2, r3, r4) := by first | (rw [hy405]; with_reducible exact H) | (have H2_ := (Option.bind_some _ _).symm.trans H; rw [hy405]; with_reducible exact H2_) | (have H2_ := (Option.bind_some _ _).symm.trans H; with_reducible exact H2_) | with_reducible exact H | (rw [hy405]; exact H) | exact H
          have Ny405 := Aside0.mk hy405
          clear hy405
          simp only [Option.some.injEq, Prod.mk.injEq] at H
          obtain ⟨rfl, rfl, rfl, rfl⟩ := H
          go_enter Try.func20, Try.ntmps20
          try go_wp2_with (first | ((with_reducible refine gate_dst (N := 4) rfl ?_); refine bx_ (N := 4) #[.int .i64 a1_0, .slice A1_1 l1_1.length c1_1, .slice A1_2 l1_2.length c1_2, .slice A1_3 l1_3.length c1_3] 45 ?_; intro gb385 hg w50 hbox hb; have BK385 := ak hbox; have GW385 := gy hg HB; have GE385 := gy hg HB; replace HB := bs HB hb; clear hb hbox hg) | ((with_reducible refine gate_dst (N := 6) rfl ?_); refine bx_ (N := 6) #[.int .i64 0, .slice none 0 0, .slice none 0 0, .slice none 0 0] 45 ?_; intro gb386 hg w51 hbox hb; have BK386 := ak hbox; have GW386 := gy hg HB; have GE386 := gy hg HB; replace HB := bs HB hb; have NB385_386 := gm hg BK385; have NB386_385 := gn hg BK385; replace BK385 := kf BK385 hb; clear hb hbox hg; have hnb52 := NB385_386.out; have hnc52 := NB386_385.out; obtain ⟨_, _, _, _, _, _, _, _⟩ := bc4 BK385) | ((with_reducible refine gate_callee (f := 77) rfl ?_); refine goesL_ (some 10) rfl rfl Try.func77 KR rfl #[.agg #[.int .i64 a1_0, .slice A1_1 l1_1.length c1_1, .slice A1_2 l1_2.length c1_2, .slice A1_3 l1_3.length c1_3]] rfl AR ?_; (with_reducible refine (impl_copyState.calls a1_0 _ _ l1_1 _ _ l1_2 _ _ l1_3 t387 t388 t391 t394 _ ?side1 ?side2 ?side3 ?side4 ?side5 ?side6 A4.out).mono ?_); (case side1 => exact CR (Kd.C_below HR1_1.out HB.out)); (case side2 => exact HC1_1.out); (case side3 => exact CR (Kd.C_below HR1_2.out HB.out)); (case side4 => exact HC1_2.out); (case side5 => exact CR (Kd.C_below HR1_3.out HB.out)); (case side6 => exact HC1_3.out); rintro e w54 ⟨v389, v392, v395, rfl, ho0, ho1, ho2, hb⟩; refine ⟨_, rfl, ?_⟩; have HO390 := Rn0 ho0 HB; have HO393 := Rn0 ho1 HB; have HO396 := Rn0 ho2 HB; replace BK385 := kf BK385 hb; replace BK386 := kf BK386 hb; replace HB := bs HB hb; (try clear hb); (try clear hb2); (try clear hk); (try clear hi); (try clear ho0); (try clear ho1); (try clear ho2)) | ((with_reducible refine gate_dst (N := 7) rfl ?_); refine bx_ (N := 7) #[.int .i64 0, .slice none 0 0, .slice none 0 0, .slice none 0 0] 45 ?_; intro gb397 hg w55 hbox hb; replace HO390 := Rb HO390 hb; replace HO393 := Rb HO393 hb; replace HO396 := Rb HO396 hb; have BK397 := ak hbox; have GW397 := gy hg HB; have GE397 := gy hg HB; replace HB := bs HB hb; have NB385_397 := gm hg BK385; have NB397_385 := gn hg BK385; replace BK385 := kf BK385 hb; have NB386_397 := gm hg BK386; have NB397_386 := gn hg BK386; replace BK386 := kf BK386 hb; clear hb hbox hg; have hnb56 := NB397_385.out; have hnc56 := NB385_397.out; have hnb57 := NB397_386.out; have hnc57 := NB386_397.out; obtain ⟨_, _, _, _, _, _, _, _⟩ := bc4 BK397; obtain ⟨Ao59, co59, eo59⟩ := Kd.R_slice HO390.out; subst eo59; obtain ⟨Ao60, co60, eo60⟩ := Kd.R_slice HO393.out; subst eo60; obtain ⟨Ao61, co61, eo61⟩ := Kd.R_slice HO396.out; subst eo61; obtain ⟨_, _, _, _, _, _, _, _⟩ := bc4 BK385) | ((with_reducible refine gate_callee (f := 78) rfl ?_); refine goesL_ (some 13) rfl rfl Try.func78 KR rfl #[.slice A0 l0.length c0, .agg #[.int .i64 a1_0, .slice A1_1 l1_1.length c1_1, .slice A1_2 l1_2.length c1_2, .slice A1_3 l1_3.length c1_3]] rfl AR ?_; (with_reducible refine (impl_canStep.calls k _ _ l0 a1_0 _ _ l1_1 _ _ l1_2 _ _ l1_3 true _ ?side1 ?side2 ?side3 ?side4 ?side5 ?side6 ?side7 ?side8 A5.out).mono ?_); (case side1 => exact Kd.C_below HR0.out PB); (case side2 => exact HC0.out); (case side3 => exact Kd.C_below HR1_1.out PB); (case side4 => exact HC1_1.out); (case side5 => exact Kd.C_below HR1_2.out PB); (case side6 => exact HC1_2.out); (case side7 => exact Kd.C_below HR1_3.out PB); (case side8 => exact HC1_3.out); rintro e w63 ⟨rfl, hb⟩; refine ⟨_, rfl, ?_⟩; replace HO390 := ak (Kd.R_below (Re1 HO390 BK397) hb); replace HO393 := ak (Kd.R_below (Re1 HO393 BK397) hb); replace HO396 := ak (Kd.R_below (Re1 HO396 BK397) hb); replace BK385 := kf BK385 hb; replace BK386 := kf BK386 hb; replace BK397 := kp (cs' := #[.int .i64 t387, .slice Ao59 t388.length co59, .slice Ao60 t391.length co60, .slice Ao61 t394.length co61]) BK397 hb; replace HB := bs HB hb; (try clear hb); (try clear hb2); (try clear hk); (try clear hi); obtain ⟨_, _, _, _, _, _, _, _⟩ := bc4 BK385; have p399 : 0 ≤ (a1_0 : Int) := of_decide_eq_true (by first | (with_reducible assumption) | assumption); have q399 : a1_0 < (l0.length : Int) := of_decide_eq_true (by first | (with_reducible assumption) | assumption); obtain ⟨ad399, e399, hx399_0, hx399_1, hx399_2, hx399_3⟩ := at_T121 HR0.out a1_0 p399 q399; cases e399; replace hx399_0 := hx_ HB hx399_0; replace hx399_1 := hx_ HB hx399_1; replace hx399_2 := hx_ HB hx399_2; replace hx399_3 := hx_ HB hx399_3; replace p399 := eq_true p399; replace q399 := eq_true q399) | ((with_reducible refine gate_dst (N := 8) rfl ?_); refine bx_ (N := 8) #[.int .i64 0, .int .i64 0, .int .i64 0, .int .i64 0] 121 ?_; intro gb400 hg w65 hbox hb; replace HO390 := Rb HO390 hb; replace HO393 := Rb HO393 hb; replace HO396 := Rb HO396 hb; have BK400 := ak hbox; have GW400 := gy hg HB; have GE400 := gy hg HB; replace HB := bs HB hb; have NB385_400 := gm hg BK385; have NB400_385 := gn hg BK385; replace BK385 := kf BK385 hb; have NB386_400 := gm hg BK386; have NB400_386 := gn hg BK386; replace BK386 := kf BK386 hb; have NB397_400 := gm hg BK397; have NB400_397 := gn hg BK397; replace BK397 := kf BK397 hb; clear hb hbox hg; have hnb66 := NB400_385.out; have hnc66 := NB385_400.out; have hnb67 := NB400_386.out; have hnc67 := NB386_400.out; have hnb68 := NB400_397.out; have hnc68 := NB397_400.out; obtain ⟨_, _, _, _, _, _, _, _⟩ := bc4 BK400; obtain ⟨_, _, _, _, _, _, _, _⟩ := bc4 BK397))
          generalize hW_ : (((((w65.setCell ⟨gb400, 0, none⟩ (.int .i64 ((rd_T121 l0 a1_0).f0))).setCell ⟨gb400, 1, none⟩ (.int .i64 ((rd_T121 l0 a1_0).f1))).setCell ⟨gb400, 2, none⟩ (.int .i64 ((rd_T121 l0 a1_0).f2))).setCell ⟨gb400, 3, none⟩ (.int .i64 ((rd_T121 l0 a1_0).f3))).setCell ⟨gb397, 0, none⟩ (.int .i64 (wrap64 (t387 + 1)))) = w71
          replace HO390 := R2 hW_ HO390 BK400 BK397
          replace HO393 := R2 hW_ HO393 BK400 BK397
          replace HO396 := R2 hW_ HO396 BK400 BK397
          replace BK385 := BE hW_ BK385
          replace BK386 := BE hW_ BK386
          replace BK397 : Aside0 (w71.heap[gb397]? = some (.cells #[.int .i64 (wrap64 (t387 + 1)), .slice Ao59 t388.length co59, .slice Ao60 t391.length co60, .slice Ao61 t394.length co61] 45 (0, 0))) := BP hW_ BK397
          replace BK400 : Aside0 (w71.heap[gb400]? = some (.cells #[.int .i64 ((rd_T121 l0 a1_0).f0), .int .i64 ((rd_T121 l0 a1_0).f1), .int .i64 ((rd_T121 l0 a1_0).f2), .int .i64 ((rd_T121 l0 a1_0).f3)] 121 (0, 0))) := BP hW_ BK400
          replace HB := BL hW_ HB
          (try clear hW_)
          replace HO390 := ak (Kd.R_drew HO390.out)
          replace HO393 := ak (Kd.R_drew HO393.out)
          replace HO396 := ak (Kd.R_drew HO396.out)
          replace BK385 := ak (blk_drew BK385.out)
          replace BK386 := ak (blk_drew BK386.out)
          replace BK397 := ak (blk_drew BK397.out)
          replace BK400 := ak (blk_drew BK400.out)
          replace HB := ak (below_drew1 HB.out)
          have p404 : 0 ≤ (((rd_T121 l0 a1_0).f1) : Int) := of_decide_eq_true (by first | (with_reducible assumption) | assumption)
          have q404 : ((rd_T121 l0 a1_0).f1) < (l1_1.length : Int) := of_decide_eq_true (by first | (with_reducible assumption) | assumption)
          obtain ⟨ad404, e404, hx404_0⟩ := Kd.at_int HR1_1.out ((rd_T121 l0 a1_0).f1) p404 q404
          have hw404_0 := hx404_0
          cases e404
          replace hx404_0 := hx_ HB hx404_0
          replace p404 := eq_true p404
          replace q404 := eq_true q404
          have p49 : 0 ≤ (((rd_T121 l0 a1_0).f2) : Int) := of_decide_eq_true (by first | (with_reducible assumption) | assumption)
          have q49 : (((rd_T121 l0 a1_0).f2) : Int) < ((t394.length : Int) : Int) := of_decide_eq_true (by first | (with_reducible assumption) | assumption)
          obtain ⟨go49, co49, eo49, gb49, gl49, cl49, HG49⟩ := Kd.R_form HO396.out (by omega)
          (first | cases eo49 | (injection eo49 with ea_ en_ ec_; (first | subst ea_ | (injection ea_ with ea_; subst ea_)); subst ec_; clear en_))
          have GB49 := Aside0.mk gb49
          have GG49 := Aside0.mk HG49
          clear gb49 gl49 HG49
          obtain ⟨hx49_0, hf49_0⟩ := Kd.R_celln 0 HO396.out (((rd_T121 l0 a1_0).f2) : Int) p49 q49
          replace p49 := eq_true p49
          replace q49 := eq_true q49
          have HP73 := Kd.R_putn HO396.out (((rd_T121 l0 a1_0).f2) : Int) (rd l1_1 ((rd_T121 l0 a1_0).f1))
          rw [← Ny405.out] at HP73
          have HQ73 := Aside0.mk HP73
          clear HP73
          refine start_ (n := 12) (S := fun w' => w'.cell? ⟨gb397, 0, none⟩ = some (.int .i64 (wrap64 (t387 + 1))) ∧ w'.cell? ⟨gb397, 1, none⟩ = some (.slice Ao59 t388.length co59) ∧ w'.cell? ⟨gb397, 2, none⟩ = some (.slice Ao60 t391.length co60) ∧ w'.cell? ⟨gb397, 3, none⟩ = some (.slice (some ⟨go49, 0, none⟩) t394.length co61) ∧ w'.cell? ⟨gb400, 0, none⟩ = some (.int .i64 ((rd_T121 l0 a1_0).f0)) ∧ w'.cell? ⟨gb400, 1, none⟩ = some (.int .i64 ((rd_T121 l0 a1_0).f1)) ∧ w'.cell? ⟨gb400, 2, none⟩ = some (.int .i64 ((rd_T121 l0 a1_0).f2)) ∧ w'.cell? ⟨gb400, 3, none⟩ = some (.int .i64 ((rd_T121 l0 a1_0).f3)) ∧ w'.cell? ⟨gb385, 0, none⟩ = some (.int .i64 a1_0) ∧ w'.cell? ⟨gb385, 1, none⟩ = some (.slice (some ad404) l1_1.length c1_1) ∧ w'.cell? ⟨gb385, 2, none⟩ = some (.slice A1_2 l1_2.length c1_2) ∧ w'.cell? ⟨gb385, 3, none⟩ = some (.slice A1_3 l1_3.length c1_3) ∧ w'.cell? (ad404.add (((rd_T121 l0 a1_0).f1)).toNat) = some (.int .i64 (rd l1_1 ((rd_T121 l0 a1_0).f1)))) (ds := [11]) b7_12 KR rfl rfl ⟨(blk_cell BK397.out 0).trans rfl, (blk_cell BK397.out 1).trans rfl, (blk_cell BK397.out 2).trans rfl, (blk_cell BK397.out 3).trans rfl, (blk_cell BK400.out 0).trans rfl, (blk_cell BK400.out 1).trans rfl, (blk_cell BK400.out 2).trans rfl, (blk_cell BK400.out 3).trans rfl, (blk_cell BK385.out 0).trans rfl, (blk_cell BK385.out 1).trans rfl, (blk_cell BK385.out 2).trans rfl, (blk_cell BK385.out 3).trans rfl, ((HB.out.cell (World.block_lt_of_cell? w _ hw404_0)).trans hw404_0)⟩ (fun hHeld => ?_); refine with_tabW impl_StepState.tab11 impl_StepState.bits11 (fun HT_ HW_ => ?_)
          generalize w71.drew = w72 at HO390 HO393 HO396 BK385 BK386 BK397 BK400 HB GG49 HQ73 hf49_0 hx404_0 hx49_0 hHeld ⊢
          refine pu_ (i := 0) (N := some 58) b7_11 HT_ ?_
          refine pu_ (i := 2) (N := some 60) b7_10 HT_ ?_
          refine pu_ (i := 4) (N := some 62) b7_9 HT_ ?_
          refine pu_ (i := 6) (N := some 64) b7_8 HT_ ?_
          refine tk_ (i := 1) (N := some 59) b7_7 rfl rfl HT_ HW_ hHeld ?_
          refine take_ (i := 3) (N := some 61) (v := ?_) (a' := ?_) b7_6 rfl rfl (take_ofW HT_.out HW_.out KR) (fun _ _ _ h => h) (Or.inl ⟨by rfl, ?_⟩) hHeld ?_ ?_
          rotate_left
          ·rintro w' ⟨s0, s1, s2, s3, s4, s5, s6, s7, s8, s9, s10, s11, s12⟩
           go_simp
           with_reducible rfl
          rotate_left
          ·simp only [Act.put, List.setIfInBounds_toArray, List.set_cons_zero, List.set_cons_succ, i64_w, i32_w]
           rfl
          refine tk_ (i := 5) (N := some 63) b7_5 rfl rfl HT_ HW_ hHeld ?_
          refine take_ (i := 7) (N := some 65) (v := ?_) (a' := ?_) b7_4 rfl rfl (take_ofW HT_.out HW_.out KR) (fun _ _ _ h => h) (Or.inl ⟨by rfl, ?_⟩) hHeld ?_ ?_
          rotate_left
          ·rintro w' ⟨s0, s1, s2, s3, s4, s5, s6, s7, s8, s9, s10, s11, s12⟩
           go_simp
           with_reducible rfl
          rotate_left
          ·simp only [Act.put, List.setIfInBounds_toArray, List.set_cons_zero, List.set_cons_succ, i64_w, i32_w]
           rfl
          refine pu_ (i := 8) (N := some 66) b7_3 HT_ ?_
          refine tk_ (i := 9) (N := some 67) b7_2 rfl rfl HT_ HW_ hHeld ?_
          refine pu_ (i := 10) (N := some 68) b7_1 HT_ ?_
          refine last_ (i := 11) (N := none) b7_0 rfl rfl (one_of HT_.out KR) (by decide) (fun K hK => ?_)
          refine skip_ (w1 := ?_) (by rfl) rfl ?_ ?_
          rotate_left
          ·go_simp
           rfl
          refine hK.out _ _ ?_
          clear hK K
          refine done_ (done_of HT_.out KR) ?_
          generalize hW_ : (w72.setCell ⟨go49, (((rd_T121 l0 a1_0).f2) : Int).toNat, none⟩ (.int .i64 (rd l1_1 ((rd_T121 l0 a1_0).f1)))) = w74
          replace HO390 : Aside0 (Kd.R (Kd.int .i64) 3 w74 w.heap.size (fun k_ => some k_ ≠ (.slice Ao60 t391.length co60 : Value).ownBlock ∧ some k_ ≠ (.slice (some ⟨go49, 0, none⟩) t394.length co61 : Value).ownBlock) (.slice Ao59 t388.length co59) t388) := ⟨by rw [← hW_]; exact RX (Kd.R_mono HO390.out (fun k_ hk => (⟨hk, fun e_ => hk.2 (by rw [e_]; rfl)⟩ : _ ∧ k_ ≠ go49))) (fun _ hk => by first | exact ⟨hk.1.1, hk.1.2⟩ | simp_all)⟩
          replace HO393 : Aside0 (Kd.R (Kd.int .i64) 3 w74 w.heap.size (fun k_ => some k_ ≠ (.slice Ao59 t388.length co59 : Value).ownBlock ∧ some k_ ≠ (.slice (some ⟨go49, 0, none⟩) t394.length co61 : Value).ownBlock) (.slice Ao60 t391.length co60) t391) := ⟨by rw [← hW_]; exact RX (Kd.R_mono HO393.out (fun k_ hk => (⟨hk, fun e_ => hk.2 (by rw [e_]; rfl)⟩ : _ ∧ k_ ≠ go49))) (fun _ hk => by first | exact ⟨hk.1.1, hk.1.2⟩ | simp_all)⟩
          replace BK385 := BQ hW_ HO396 BK385
          replace BK386 := BQ hW_ HO396 BK386
          replace BK397 := BQ hW_ HO396 BK397
          replace BK400 := BQ hW_ HO396 BK400
          replace HO396 : Aside0 (Kd.R (Kd.int .i64) 3 w74 w.heap.size (fun k_ => some k_ ≠ (.slice Ao59 t388.length co59 : Value).ownBlock ∧ some k_ ≠ (.slice Ao60 t391.length co60 : Value).ownBlock) (.slice (some ⟨go49, 0, none⟩) t394.length co61) y405) := ⟨by rw [← hW_]; exact PR HQ73⟩
          replace HB := BL hW_ HB
          (try clear hW_)
          obtain ⟨_, _, _, _, _, _, _, _⟩ := bc4 BK397
          obtain ⟨_, _, _, _, _, _, _, _⟩ := bc4 BK386
          try go_wp2
          refine bodyPost_ret (results_cell_row rfl _ _ gb386 45 #[.int .i64 (wrap64 (t387 + 1)), .slice Ao59 t388.length co59, .slice Ao60 t391.length co60, .slice (some ⟨go49, 0, none⟩) t394.length co61] (0, 0) _ rfl (PX BK386) Try.underlying45 rfl KR) rfl ?_
          exact ⟨_, _, _, RT, Re1 HO390 BK386, Re1 HO393 BK386, Re1 HO396 BK386, PB⟩
         ·rw [if_neg c48] at H
          exact absurd H (by simp)
        ·rw [if_neg c47] at H
         exact absurd H (by simp)
       ·rw [if_neg c46] at H
        exact absurd H (by simp)
      ·rw [if_neg c45] at H
       exact absurd H (by simp)
     ·rw [if_neg c44] at H
      have c44b0 : (((rd_T121 l0 a1_0).f0) == 6) = false := beq_eq_false_iff_ne.mpr c44
      have c44b1 : (((rd_T121 l0 a1_0).f0) != 6) = true := bne_iff_ne.mpr c44
      by_cases c77 : ((rd_T121 l0 a1_0).f0) = 7
      ·rw [if_pos c77] at H
       have c77b0 : (((rd_T121 l0 a1_0).f0) == 7) = true := beq_iff_eq.mpr c77
       have c77b1 : (((rd_T121 l0 a1_0).f0) != 7) = false := bne_eq_false_iff_eq.mpr c77
       clear c77
       by_cases c78 : 0 ≤ ((rd_T121 l0 a1_0).f1)
       ·rw [if_pos c78] at H
        have c78b0 : decide (0 ≤ ((rd_T121 l0 a1_0).f1)) = true := decide_eq_true c78
        clear c78
        by_cases c79 : ((rd_T121 l0 a1_0).f1) < (l1_1.length : Int)
        ·rw [if_pos c79] at H
         have c79b0 : decide (((rd_T121 l0 a1_0).f1) < (l1_1.length : Int)) = true := decide_eq_true c79
         clear c79
         by_cases c80 : (Int.tmod (rd l1_1 ((rd_T121 l0 a1_0).f1)) 2) = 0
         ·rw [if_pos c80] at H
          have c80b0 : ((Int.tmod (rd l1_1 ((rd_T121 l0 a1_0).f1)) 2) == 0) = true := beq_iff_eq.mpr c80
          have c80b1 : ((Int.tmod (rd l1_1 ((rd_T121 l0 a1_0).f1)) 2) != 0) = false := bne_eq_false_iff_eq.mpr c80
          clear c80
          simp only [Option.some.injEq, Prod.mk.injEq] at H
          obtain ⟨rfl, rfl, rfl, rfl⟩ := H
          go_enter Try.func20, Try.ntmps20
          go_upto_region 19 with (first | ((with_reducible refine gate_dst (N := 4) rfl ?_); refine bx_ (N := 4) #[.int .i64 a1_0, .slice A1_1 l1_1.length c1_1, .slice A1_2 l1_2.length c1_2, .slice A1_3 l1_3.length c1_3] 45 ?_; intro gb385 hg w81 hbox hb; have BK385 := ak hbox; have GW385 := gy hg HB; have GE385 := gy hg HB; replace HB := bs HB hb; clear hb hbox hg) | ((with_reducible refine gate_dst (N := 6) rfl ?_); refine bx_ (N := 6) #[.int .i64 0, .slice none 0 0, .slice none 0 0, .slice none 0 0] 45 ?_; intro gb386 hg w82 hbox hb; have BK386 := ak hbox; have GW386 := gy hg HB; have GE386 := gy hg HB; replace HB := bs HB hb; have NB385_386 := gm hg BK385; have NB386_385 := gn hg BK385; replace BK385 := kf BK385 hb; clear hb hbox hg; have hnb83 := NB385_386.out; have hnc83 := NB386_385.out; obtain ⟨_, _, _, _, _, _, _, _⟩ := bc4 BK385) | ((with_reducible refine gate_callee (f := 77) rfl ?_); refine goesL_ (some 10) rfl rfl Try.func77 KR rfl #[.agg #[.int .i64 a1_0, .slice A1_1 l1_1.length c1_1, .slice A1_2 l1_2.length c1_2, .slice A1_3 l1_3.length c1_3]] rfl AR ?_; (with_reducible refine (impl_copyState.calls a1_0 _ _ l1_1 _ _ l1_2 _ _ l1_3 t387 t388 t391 t394 _ ?side1 ?side2 ?side3 ?side4 ?side5 ?side6 A4.out).mono ?_); (case side1 => exact CR (Kd.C_below HR1_1.out HB.out)); (case side2 => exact HC1_1.out); (case side3 => exact CR (Kd.C_below HR1_2.out HB.out)); (case side4 => exact HC1_2.out); (case side5 => exact CR (Kd.C_below HR1_3.out HB.out)); (case side6 => exact HC1_3.out); rintro e w85 ⟨v389, v392, v395, rfl, ho0, ho1, ho2, hb⟩; refine ⟨_, rfl, ?_⟩; have HO390 := Rn0 ho0 HB; have HO393 := Rn0 ho1 HB; have HO396 := Rn0 ho2 HB; replace BK385 := kf BK385 hb; replace BK386 := kf BK386 hb; replace HB := bs HB hb; (try clear hb); (try clear hb2); (try clear hk); (try clear hi); (try clear ho0); (try clear ho1); (try clear ho2)) | ((with_reducible refine gate_dst (N := 7) rfl ?_); refine bx_ (N := 7) #[.int .i64 0, .slice none 0 0, .slice none 0 0, .slice none 0 0] 45 ?_; intro gb397 hg w86 hbox hb; replace HO390 := Rb HO390 hb; replace HO393 := Rb HO393 hb; replace HO396 := Rb HO396 hb; have BK397 := ak hbox; have GW397 := gy hg HB; have GE397 := gy hg HB; replace HB := bs HB hb; have NB385_397 := gm hg BK385; have NB397_385 := gn hg BK385; replace BK385 := kf BK385 hb; have NB386_397 := gm hg BK386; have NB397_386 := gn hg BK386; replace BK386 := kf BK386 hb; clear hb hbox hg; have hnb87 := NB397_385.out; have hnc87 := NB385_397.out; have hnb88 := NB397_386.out; have hnc88 := NB386_397.out; obtain ⟨_, _, _, _, _, _, _, _⟩ := bc4 BK397; obtain ⟨Ao90, co90, eo90⟩ := Kd.R_slice HO390.out; subst eo90; obtain ⟨Ao91, co91, eo91⟩ := Kd.R_slice HO393.out; subst eo91; obtain ⟨Ao92, co92, eo92⟩ := Kd.R_slice HO396.out; subst eo92; obtain ⟨_, _, _, _, _, _, _, _⟩ := bc4 BK385) | ((with_reducible refine gate_callee (f := 78) rfl ?_); refine goesL_ (some 13) rfl rfl Try.func78 KR rfl #[.slice A0 l0.length c0, .agg #[.int .i64 a1_0, .slice A1_1 l1_1.length c1_1, .slice A1_2 l1_2.length c1_2, .slice A1_3 l1_3.length c1_3]] rfl AR ?_; (with_reducible refine (impl_canStep.calls k _ _ l0 a1_0 _ _ l1_1 _ _ l1_2 _ _ l1_3 true _ ?side1 ?side2 ?side3 ?side4 ?side5 ?side6 ?side7 ?side8 A5.out).mono ?_); (case side1 => exact Kd.C_below HR0.out PB); (case side2 => exact HC0.out); (case side3 => exact Kd.C_below HR1_1.out PB); (case side4 => exact HC1_1.out); (case side5 => exact Kd.C_below HR1_2.out PB); (case side6 => exact HC1_2.out); (case side7 => exact Kd.C_below HR1_3.out PB); (case side8 => exact HC1_3.out); rintro e w94 ⟨rfl, hb⟩; refine ⟨_, rfl, ?_⟩; replace HO390 := ak (Kd.R_below (Re1 HO390 BK397) hb); replace HO393 := ak (Kd.R_below (Re1 HO393 BK397) hb); replace HO396 := ak (Kd.R_below (Re1 HO396 BK397) hb); replace BK385 := kf BK385 hb; replace BK386 := kf BK386 hb; replace BK397 := kp (cs' := #[.int .i64 t387, .slice Ao90 t388.length co90, .slice Ao91 t391.length co91, .slice Ao92 t394.length co92]) BK397 hb; replace HB := bs HB hb; (try clear hb); (try clear hb2); (try clear hk); (try clear hi); obtain ⟨_, _, _, _, _, _, _, _⟩ := bc4 BK385; have p399 : 0 ≤ (a1_0 : Int) := of_decide_eq_true (by first | (with_reducible assumption) | assumption); have q399 : a1_0 < (l0.length : Int) := of_decide_eq_true (by first | (with_reducible assumption) | assumption); obtain ⟨ad399, e399, hx399_0, hx399_1, hx399_2, hx399_3⟩ := at_T121 HR0.out a1_0 p399 q399; cases e399; replace hx399_0 := hx_ HB hx399_0; replace hx399_1 := hx_ HB hx399_1; replace hx399_2 := hx_ HB hx399_2; replace hx399_3 := hx_ HB hx399_3; replace p399 := eq_true p399; replace q399 := eq_true q399) | ((with_reducible refine gate_dst (N := 8) rfl ?_); refine bx_ (N := 8) #[.int .i64 0, .int .i64 0, .int .i64 0, .int .i64 0] 121 ?_; intro gb400 hg w96 hbox hb; replace HO390 := Rb HO390 hb; replace HO393 := Rb HO393 hb; replace HO396 := Rb HO396 hb; have BK400 := ak hbox; have GW400 := gy hg HB; have GE400 := gy hg HB; replace HB := bs HB hb; have NB385_400 := gm hg BK385; have NB400_385 := gn hg BK385; replace BK385 := kf BK385 hb; have NB386_400 := gm hg BK386; have NB400_386 := gn hg BK386; replace BK386 := kf BK386 hb; have NB397_400 := gm hg BK397; have NB400_397 := gn hg BK397; replace BK397 := kf BK397 hb; clear hb hbox hg; have hnb97 := NB400_385.out; have hnc97 := NB385_400.out; have hnb98 := NB400_386.out; have hnc98 := NB386_400.out; have hnb99 := NB400_397.out; have hnc99 := NB397_400.out; obtain ⟨_, _, _, _, _, _, _, _⟩ := bc4 BK400; obtain ⟨_, _, _, _, _, _, _, _⟩ := bc4 BK397; obtain ⟨_, _, _, _, _, _, _, _⟩ := bc4 BK385; have p406 : 0 ≤ (((rd_T121 l0 a1_0).f1) : Int) := of_decide_eq_true (by first | (with_reducible assumption) | assumption); have q406 : ((rd_T121 l0 a1_0).f1) < (l1_1.length : Int) := of_decide_eq_true (by first | (with_reducible assumption) | assumption); obtain ⟨ad406, e406, hx406_0⟩ := Kd.at_int HR1_1.out ((rd_T121 l0 a1_0).f1) p406 q406; cases e406; have hn406_0 : ad406.block ≠ gb400 := Nat.ne_of_lt (Nat.lt_of_lt_of_le (by have := World.block_lt_of_cell? _ _ hx406_0; first | rwa [add_block] at this | exact this) GW400.out); have hn406_1 : ad406.block ≠ gb400 := Nat.ne_of_lt (Nat.lt_of_lt_of_le (by have := World.block_lt_of_cell? _ _ hx406_0; first | rwa [add_block] at this | exact this) GW400.out); have hn406_2 : ad406.block ≠ gb400 := Nat.ne_of_lt (Nat.lt_of_lt_of_le (by have := World.block_lt_of_cell? _ _ hx406_0; first | rwa [add_block] at this | exact this) GW400.out); have hn406_3 : ad406.block ≠ gb400 := Nat.ne_of_lt (Nat.lt_of_lt_of_le (by have := World.block_lt_of_cell? _ _ hx406_0; first | rwa [add_block] at this | exact this) GW400.out); have hn406_4 : ad406.block ≠ gb397 := Nat.ne_of_lt (Nat.lt_of_lt_of_le (by have := World.block_lt_of_cell? _ _ hx406_0; first | rwa [add_block] at this | exact this) GW397.out); replace hx406_0 := hx_ HB hx406_0; replace hx406_0 := (cell_far (p := ⟨gb400, 0, none⟩) (by first | (rw [add_block]; exact hn406_0) | (show (Addr.add _ _).block ≠ _; rw [add_block]; exact hn406_0) | exact hn406_0) (.int .i64 ((rd_T121 l0 a1_0).f0))).trans hx406_0; replace hx406_0 := (cell_far (p := ⟨gb400, 1, none⟩) (by first | (rw [add_block]; exact hn406_1) | (show (Addr.add _ _).block ≠ _; rw [add_block]; exact hn406_1) | exact hn406_1) (.int .i64 ((rd_T121 l0 a1_0).f1))).trans hx406_0; replace hx406_0 := (cell_far (p := ⟨gb400, 2, none⟩) (by first | (rw [add_block]; exact hn406_2) | (show (Addr.add _ _).block ≠ _; rw [add_block]; exact hn406_2) | exact hn406_2) (.int .i64 ((rd_T121 l0 a1_0).f2))).trans hx406_0; replace hx406_0 := (cell_far (p := ⟨gb400, 3, none⟩) (by first | (rw [add_block]; exact hn406_3) | (show (Addr.add _ _).block ≠ _; rw [add_block]; exact hn406_3) | exact hn406_3) (.int .i64 ((rd_T121 l0 a1_0).f3))).trans hx406_0; replace hx406_0 := (cell_far (p := ⟨gb397, 0, none⟩) (by first | (rw [add_block]; exact hn406_4) | (show (Addr.add _ _).block ≠ _; rw [add_block]; exact hn406_4) | exact hn406_4) (.int .i64 (wrap64 (t387 + 1)))).trans hx406_0; clear hn406_0 hn406_1 hn406_2 hn406_3; clear hn406_4; replace p406 := eq_true p406; replace q406 := eq_true q406; obtain ⟨_, _, _, _, _, _, _, _⟩ := bc4 BK386))
          generalize hW_ : World.setCell (World.setCell _ ⟨gb397, 0, none⟩ _) ⟨gb397, 0, none⟩ _ = wz_
          replace HO390 := R2 hW_ HO390 BK400 BK397
          replace HO393 := R2 hW_ HO393 BK400 BK397
          replace HO396 := R2 hW_ HO396 BK400 BK397
          replace BK385 := BE hW_ BK385
          replace BK386 := BE hW_ BK386
          replace BK397 : Aside0 (wz_.heap[gb397]? = some (.cells #[.int .i64 (wrap64 ((wrap64 (t387 + 1)) + ((rd_T121 l0 a1_0).f2))), .slice Ao90 t388.length co90, .slice Ao91 t391.length co91, .slice Ao92 t394.length co92] 45 (0, 0))) := BP hW_ BK397
          replace HB := BL hW_ HB
          (try clear hW_)
          obtain ⟨_, _, _, _, _, _, _, _⟩ := bc4 BK397
          obtain ⟨_, _, _, _, _, _, _, _⟩ := bc4 BK386
          go_wp2
          refine bodyPost_ret (results_cell_row rfl _ _ gb386 45 #[.int .i64 (wrap64 ((wrap64 (t387 + 1)) + ((rd_T121 l0 a1_0).f2))), .slice Ao90 t388.length co90, .slice Ao91 t391.length co91, .slice Ao92 t394.length co92] (0, 0) _ rfl (PX BK386) Try.underlying45 rfl KR) rfl ?_
          exact ⟨_, _, _, RT, Re1 HO390 BK386, Re1 HO393 BK386, Re1 HO396 BK386, PB⟩
         ·rw [if_neg c80] at H
          have c80b0 : ((Int.tmod (rd l1_1 ((rd_T121 l0 a1_0).f1)) 2) == 0) = false := beq_eq_false_iff_ne.mpr c80
          have c80b1 : ((Int.tmod (rd l1_1 ((rd_T121 l0 a1_0).f1)) 2) != 0) = true := bne_iff_ne.mpr c80
          simp only [Option.some.injEq, Prod.mk.injEq] at H
          obtain ⟨rfl, rfl, rfl, rfl⟩ := H
          go_enter Try.func20, Try.ntmps20
          go_wp2_with (first | ((with_reducible refine gate_dst (N := 4) rfl ?_); refine bx_ (N := 4) #[.int .i64 a1_0, .slice A1_1 l1_1.length c1_1, .slice A1_2 l1_2.length c1_2, .slice A1_3 l1_3.length c1_3] 45 ?_; intro gb385 hg w104 hbox hb; have BK385 := ak hbox; have GW385 := gy hg HB; have GE385 := gy hg HB; replace HB := bs HB hb; clear hb hbox hg) | ((with_reducible refine gate_dst (N := 6) rfl ?_); refine bx_ (N := 6) #[.int .i64 0, .slice none 0 0, .slice none 0 0, .slice none 0 0] 45 ?_; intro gb386 hg w105 hbox hb; have BK386 := ak hbox; have GW386 := gy hg HB; have GE386 := gy hg HB; replace HB := bs HB hb; have NB385_386 := gm hg BK385; have NB386_385 := gn hg BK385; replace BK385 := kf BK385 hb; clear hb hbox hg; have hnb106 := NB385_386.out; have hnc106 := NB386_385.out; obtain ⟨_, _, _, _, _, _, _, _⟩ := bc4 BK385) | ((with_reducible refine gate_callee (f := 77) rfl ?_); refine goesL_ (some 10) rfl rfl Try.func77 KR rfl #[.agg #[.int .i64 a1_0, .slice A1_1 l1_1.length c1_1, .slice A1_2 l1_2.length c1_2, .slice A1_3 l1_3.length c1_3]] rfl AR ?_; (with_reducible refine (impl_copyState.calls a1_0 _ _ l1_1 _ _ l1_2 _ _ l1_3 t387 t388 t391 t394 _ ?side1 ?side2 ?side3 ?side4 ?side5 ?side6 A4.out).mono ?_); (case side1 => exact CR (Kd.C_below HR1_1.out HB.out)); (case side2 => exact HC1_1.out); (case side3 => exact CR (Kd.C_below HR1_2.out HB.out)); (case side4 => exact HC1_2.out); (case side5 => exact CR (Kd.C_below HR1_3.out HB.out)); (case side6 => exact HC1_3.out); rintro e w108 ⟨v389, v392, v395, rfl, ho0, ho1, ho2, hb⟩; refine ⟨_, rfl, ?_⟩; have HO390 := Rn0 ho0 HB; have HO393 := Rn0 ho1 HB; have HO396 := Rn0 ho2 HB; replace BK385 := kf BK385 hb; replace BK386 := kf BK386 hb; replace HB := bs HB hb; (try clear hb); (try clear hb2); (try clear hk); (try clear hi); (try clear ho0); (try clear ho1); (try clear ho2)) | ((with_reducible refine gate_dst (N := 7) rfl ?_); refine bx_ (N := 7) #[.int .i64 0, .slice none 0 0, .slice none 0 0, .slice none 0 0] 45 ?_; intro gb397 hg w109 hbox hb; replace HO390 := Rb HO390 hb; replace HO393 := Rb HO393 hb; replace HO396 := Rb HO396 hb; have BK397 := ak hbox; have GW397 := gy hg HB; have GE397 := gy hg HB; replace HB := bs HB hb; have NB385_397 := gm hg BK385; have NB397_385 := gn hg BK385; replace BK385 := kf BK385 hb; have NB386_397 := gm hg BK386; have NB397_386 := gn hg BK386; replace BK386 := kf BK386 hb; clear hb hbox hg; have hnb110 := NB397_385.out; have hnc110 := NB385_397.out; have hnb111 := NB397_386.out; have hnc111 := NB386_397.out; obtain ⟨_, _, _, _, _, _, _, _⟩ := bc4 BK397; obtain ⟨Ao113, co113, eo113⟩ := Kd.R_slice HO390.out; subst eo113; obtain ⟨Ao114, co114, eo114⟩ := Kd.R_slice HO393.out; subst eo114; obtain ⟨Ao115, co115, eo115⟩ := Kd.R_slice HO396.out; subst eo115; obtain ⟨_, _, _, _, _, _, _, _⟩ := bc4 BK385) | ((with_reducible refine gate_callee (f := 78) rfl ?_); refine goesL_ (some 13) rfl rfl Try.func78 KR rfl #[.slice A0 l0.length c0, .agg #[.int .i64 a1_0, .slice A1_1 l1_1.length c1_1, .slice A1_2 l1_2.length c1_2, .slice A1_3 l1_3.length c1_3]] rfl AR ?_; (with_reducible refine (impl_canStep.calls k _ _ l0 a1_0 _ _ l1_1 _ _ l1_2 _ _ l1_3 true _ ?side1 ?side2 ?side3 ?side4 ?side5 ?side6 ?side7 ?side8 A5.out).mono ?_); (case side1 => exact Kd.C_below HR0.out PB); (case side2 => exact HC0.out); (case side3 => exact Kd.C_below HR1_1.out PB); (case side4 => exact HC1_1.out); (case side5 => exact Kd.C_below HR1_2.out PB); (case side6 => exact HC1_2.out); (case side7 => exact Kd.C_below HR1_3.out PB); (case side8 => exact HC1_3.out); rintro e w117 ⟨rfl, hb⟩; refine ⟨_, rfl, ?_⟩; replace HO390 := ak (Kd.R_below (Re1 HO390 BK397) hb); replace HO393 := ak (Kd.R_below (Re1 HO393 BK397) hb); replace HO396 := ak (Kd.R_below (Re1 HO396 BK397) hb); replace BK385 := kf BK385 hb; replace BK386 := kf BK386 hb; replace BK397 := kp (cs' := #[.int .i64 t387, .slice Ao113 t388.length co113, .slice Ao114 t391.length co114, .slice Ao115 t394.length co115]) BK397 hb; replace HB := bs HB hb; (try clear hb); (try clear hb2); (try clear hk); (try clear hi); obtain ⟨_, _, _, _, _, _, _, _⟩ := bc4 BK385; have p399 : 0 ≤ (a1_0 : Int) := of_decide_eq_true (by first | (with_reducible assumption) | assumption); have q399 : a1_0 < (l0.length : Int) := of_decide_eq_true (by first | (with_reducible assumption) | assumption); obtain ⟨ad399, e399, hx399_0, hx399_1, hx399_2, hx399_3⟩ := at_T121 HR0.out a1_0 p399 q399; cases e399; replace hx399_0 := hx_ HB hx399_0; replace hx399_1 := hx_ HB hx399_1; replace hx399_2 := hx_ HB hx399_2; replace hx399_3 := hx_ HB hx399_3; replace p399 := eq_true p399; replace q399 := eq_true q399) | ((with_reducible refine gate_dst (N := 8) rfl ?_); refine bx_ (N := 8) #[.int .i64 0, .int .i64 0, .int .i64 0, .int .i64 0] 121 ?_; intro gb400 hg w119 hbox hb; replace HO390 := Rb HO390 hb; replace HO393 := Rb HO393 hb; replace HO396 := Rb HO396 hb; have BK400 := ak hbox; have GW400 := gy hg HB; have GE400 := gy hg HB; replace HB := bs HB hb; have NB385_400 := gm hg BK385; have NB400_385 := gn hg BK385; replace BK385 := kf BK385 hb; have NB386_400 := gm hg BK386; have NB400_386 := gn hg BK386; replace BK386 := kf BK386 hb; have NB397_400 := gm hg BK397; have NB400_397 := gn hg BK397; replace BK397 := kf BK397 hb; clear hb hbox hg; have hnb120 := NB400_385.out; have hnc120 := NB385_400.out; have hnb121 := NB400_386.out; have hnc121 := NB386_400.out; have hnb122 := NB400_397.out; have hnc122 := NB397_400.out; obtain ⟨_, _, _, _, _, _, _, _⟩ := bc4 BK400; obtain ⟨_, _, _, _, _, _, _, _⟩ := bc4 BK397; obtain ⟨_, _, _, _, _, _, _, _⟩ := bc4 BK385; have p406 : 0 ≤ (((rd_T121 l0 a1_0).f1) : Int) := of_decide_eq_true (by first | (with_reducible assumption) | assumption); have q406 : ((rd_T121 l0 a1_0).f1) < (l1_1.length : Int) := of_decide_eq_true (by first | (with_reducible assumption) | assumption); obtain ⟨ad406, e406, hx406_0⟩ := Kd.at_int HR1_1.out ((rd_T121 l0 a1_0).f1) p406 q406; cases e406; have hn406_0 : ad406.block ≠ gb400 := Nat.ne_of_lt (Nat.lt_of_lt_of_le (by have := World.block_lt_of_cell? _ _ hx406_0; first | rwa [add_block] at this | exact this) GW400.out); have hn406_1 : ad406.block ≠ gb400 := Nat.ne_of_lt (Nat.lt_of_lt_of_le (by have := World.block_lt_of_cell? _ _ hx406_0; first | rwa [add_block] at this | exact this) GW400.out); have hn406_2 : ad406.block ≠ gb400 := Nat.ne_of_lt (Nat.lt_of_lt_of_le (by have := World.block_lt_of_cell? _ _ hx406_0; first | rwa [add_block] at this | exact this) GW400.out); have hn406_3 : ad406.block ≠ gb400 := Nat.ne_of_lt (Nat.lt_of_lt_of_le (by have := World.block_lt_of_cell? _ _ hx406_0; first | rwa [add_block] at this | exact this) GW400.out); have hn406_4 : ad406.block ≠ gb397 := Nat.ne_of_lt (Nat.lt_of_lt_of_le (by have := World.block_lt_of_cell? _ _ hx406_0; first | rwa [add_block] at this | exact this) GW397.out); replace hx406_0 := hx_ HB hx406_0; replace hx406_0 := (cell_far (p := ⟨gb400, 0, none⟩) (by first | (rw [add_block]; exact hn406_0) | (show (Addr.add _ _).block ≠ _; rw [add_block]; exact hn406_0) | exact hn406_0) (.int .i64 ((rd_T121 l0 a1_0).f0))).trans hx406_0; replace hx406_0 := (cell_far (p := ⟨gb400, 1, none⟩) (by first | (rw [add_block]; exact hn406_1) | (show (Addr.add _ _).block ≠ _; rw [add_block]; exact hn406_1) | exact hn406_1) (.int .i64 ((rd_T121 l0 a1_0).f1))).trans hx406_0; replace hx406_0 := (cell_far (p := ⟨gb400, 2, none⟩) (by first | (rw [add_block]; exact hn406_2) | (show (Addr.add _ _).block ≠ _; rw [add_block]; exact hn406_2) | exact hn406_2) (.int .i64 ((rd_T121 l0 a1_0).f2))).trans hx406_0; replace hx406_0 := (cell_far (p := ⟨gb400, 3, none⟩) (by first | (rw [add_block]; exact hn406_3) | (show (Addr.add _ _).block ≠ _; rw [add_block]; exact hn406_3) | exact hn406_3) (.int .i64 ((rd_T121 l0 a1_0).f3))).trans hx406_0; replace hx406_0 := (cell_far (p := ⟨gb397, 0, none⟩) (by first | (rw [add_block]; exact hn406_4) | (show (Addr.add _ _).block ≠ _; rw [add_block]; exact hn406_4) | exact hn406_4) (.int .i64 (wrap64 (t387 + 1)))).trans hx406_0; clear hn406_0 hn406_1 hn406_2 hn406_3; clear hn406_4; replace p406 := eq_true p406; replace q406 := eq_true q406; obtain ⟨_, _, _, _, _, _, _, _⟩ := bc4 BK386))
          refine bodyPost_ret (results_cell_row rfl _ _ gb386 45 #[.int .i64 (wrap64 (t387 + 1)), .slice Ao113 t388.length co113, .slice Ao114 t391.length co114, .slice Ao115 t394.length co115] (0, 0) _ rfl (PX BK386) Try.underlying45 rfl KR) rfl ?_
          exact ⟨_, _, _, RT, Re3 HO390 BK400 BK397 BK386, Re3 HO393 BK400 BK397 BK386, Re3 HO396 BK400 BK397 BK386, PB⟩
        ·rw [if_neg c79] at H
         exact absurd H (by simp)
       ·rw [if_neg c78] at H
        exact absurd H (by simp)
      ·rw [if_neg c77] at H
       have c77b0 : (((rd_T121 l0 a1_0).f0) == 7) = false := beq_eq_false_iff_ne.mpr c77
       have c77b1 : (((rd_T121 l0 a1_0).f0) != 7) = true := bne_iff_ne.mpr c77
       by_cases c127 : ((rd_T121 l0 a1_0).f0) = 8
       ·rw [if_pos c127] at H
        have c127b0 : (((rd_T121 l0 a1_0).f0) == 8) = true := beq_iff_eq.mpr c127
        have c127b1 : (((rd_T121 l0 a1_0).f0) != 8) = false := bne_eq_false_iff_eq.mpr c127
        clear c127
        by_cases c128 : 0 ≤ ((rd_T121 l0 a1_0).f2)
        ·rw [if_pos c128] at H
         have c128b0 : decide (0 ≤ ((rd_T121 l0 a1_0).f2)) = true := decide_eq_true c128
         clear c128
         by_cases c129 : ((rd_T121 l0 a1_0).f2) < (l1_2.length : Int)
         ·rw [if_pos c129] at H
          have c129b0 : decide (((rd_T121 l0 a1_0).f2) < (l1_2.length : Int)) = true := decide_eq_true c129
          clear c129
          by_cases c130 : 0 ≤ ((rd_T121 l0 a1_0).f1)
          ·rw [if_pos c130] at H
           have c130b0 : decide (0 ≤ ((rd_T121 l0 a1_0).f1)) = true := decide_eq_true c130
           clear c130
           by_cases c131 : ((rd_T121 l0 a1_0).f1) < (t388.length : Int)
           ·rw [if_pos c131] at H
            have c131b0 : decide (((rd_T121 l0 a1_0).f1) < (t388.length : Int)) = true := decide_eq_true c131
            clear c131
            obtain ⟨y408, hy408⟩ : ∃ y_ : List Int, y_ = (t388.set (((rd_T121 l0 a1_0).f1) : Int).toNat (rd l1_2 ((rd_T121 l0 a1_0).f2))) := ⟨_, rfl⟩
            replace H : (some (wrap64 (t387 + 1), y408, t391, t394)) = some (r1, r2, r3, r4) := by first | (rw [hy408]; with_reducible exact H) | (have H2_ := (Option.bind_some _ _).symm.trans H; rw [hy408]; with_reducible exact H2_) | (have H2_ := (Option.bind_some _ _).symm.trans H; with_reducible exact H2_) | with_reducible exact H | (rw [hy408]; exact H) | exact H
            have Ny408 := Aside0.mk hy408
            clear hy408
            simp only [Option.some.injEq, Prod.mk.injEq] at H
            obtain ⟨rfl, rfl, rfl, rfl⟩ := H
            go_enter Try.func20, Try.ntmps20
            try go_wp2_with (first | ((with_reducible refine gate_dst (N := 4) rfl ?_); refine bx_ (N := 4) #[.int .i64 a1_0, .slice A1_1 l1_1.length c1_1, .slice A1_2 l1_2.length c1_2, .slice A1_3 l1_3.length c1_3] 45 ?_; intro gb385 hg w133 hbox hb; have BK385 := ak hbox; have GW385 := gy hg HB; have GE385 := gy hg HB; replace HB := bs HB hb; clear hb hbox hg) | ((with_reducible refine gate_dst (N := 6) rfl ?_); refine bx_ (N := 6) #[.int .i64 0, .slice none 0 0, .slice none 0 0, .slice none 0 0] 45 ?_; intro gb386 hg w134 hbox hb; have BK386 := ak hbox; have GW386 := gy hg HB; have GE386 := gy hg HB; replace HB := bs HB hb; have NB385_386 := gm hg BK385; have NB386_385 := gn hg BK385; replace BK385 := kf BK385 hb; clear hb hbox hg; have hnb135 := NB385_386.out; have hnc135 := NB386_385.out; obtain ⟨_, _, _, _, _, _, _, _⟩ := bc4 BK385) | ((with_reducible refine gate_callee (f := 77) rfl ?_); refine goesL_ (some 10) rfl rfl Try.func77 KR rfl #[.agg #[.int .i64 a1_0, .slice A1_1 l1_1.length c1_1, .slice A1_2 l1_2.length c1_2, .slice A1_3 l1_3.length c1_3]] rfl AR ?_; (with_reducible refine (impl_copyState.calls a1_0 _ _ l1_1 _ _ l1_2 _ _ l1_3 t387 t388 t391 t394 _ ?side1 ?side2 ?side3 ?side4 ?side5 ?side6 A4.out).mono ?_); (case side1 => exact CR (Kd.C_below HR1_1.out HB.out)); (case side2 => exact HC1_1.out); (case side3 => exact CR (Kd.C_below HR1_2.out HB.out)); (case side4 => exact HC1_2.out); (case side5 => exact CR (Kd.C_below HR1_3.out HB.out)); (case side6 => exact HC1_3.out); rintro e w137 ⟨v389, v392, v395, rfl, ho0, ho1, ho2, hb⟩; refine ⟨_, rfl, ?_⟩; have HO390 := Rn0 ho0 HB; have HO393 := Rn0 ho1 HB; have HO396 := Rn0 ho2 HB; replace BK385 := kf BK385 hb; replace BK386 := kf BK386 hb; replace HB := bs HB hb; (try clear hb); (try clear hb2); (try clear hk); (try clear hi); (try clear ho0); (try clear ho1); (try clear ho2)) | ((with_reducible refine gate_dst (N := 7) rfl ?_); refine bx_ (N := 7) #[.int .i64 0, .slice none 0 0, .slice none 0 0, .slice none 0 0] 45 ?_; intro gb397 hg w138 hbox hb; replace HO390 := Rb HO390 hb; replace HO393 := Rb HO393 hb; replace HO396 := Rb HO396 hb; have BK397 := ak hbox; have GW397 := gy hg HB; have GE397 := gy hg HB; replace HB := bs HB hb; have NB385_397 := gm hg BK385; have NB397_385 := gn hg BK385; replace BK385 := kf BK385 hb; have NB386_397 := gm hg BK386; have NB397_386 := gn hg BK386; replace BK386 := kf BK386 hb; clear hb hbox hg; have hnb139 := NB397_385.out; have hnc139 := NB385_397.out; have hnb140 := NB397_386.out; have hnc140 := NB386_397.out; obtain ⟨_, _, _, _, _, _, _, _⟩ := bc4 BK397; obtain ⟨Ao142, co142, eo142⟩ := Kd.R_slice HO390.out; subst eo142; obtain ⟨Ao143, co143, eo143⟩ := Kd.R_slice HO393.out; subst eo143; obtain ⟨Ao144, co144, eo144⟩ := Kd.R_slice HO396.out; subst eo144; obtain ⟨_, _, _, _, _, _, _, _⟩ := bc4 BK385) | ((with_reducible refine gate_callee (f := 78) rfl ?_); refine goesL_ (some 13) rfl rfl Try.func78 KR rfl #[.slice A0 l0.length c0, .agg #[.int .i64 a1_0, .slice A1_1 l1_1.length c1_1, .slice A1_2 l1_2.length c1_2, .slice A1_3 l1_3.length c1_3]] rfl AR ?_; (with_reducible refine (impl_canStep.calls k _ _ l0 a1_0 _ _ l1_1 _ _ l1_2 _ _ l1_3 true _ ?side1 ?side2 ?side3 ?side4 ?side5 ?side6 ?side7 ?side8 A5.out).mono ?_); (case side1 => exact Kd.C_below HR0.out PB); (case side2 => exact HC0.out); (case side3 => exact Kd.C_below HR1_1.out PB); (case side4 => exact HC1_1.out); (case side5 => exact Kd.C_below HR1_2.out PB); (case side6 => exact HC1_2.out); (case side7 => exact Kd.C_below HR1_3.out PB); (case side8 => exact HC1_3.out); rintro e w146 ⟨rfl, hb⟩; refine ⟨_, rfl, ?_⟩; replace HO390 := ak (Kd.R_below (Re1 HO390 BK397) hb); replace HO393 := ak (Kd.R_below (Re1 HO393 BK397) hb); replace HO396 := ak (Kd.R_below (Re1 HO396 BK397) hb); replace BK385 := kf BK385 hb; replace BK386 := kf BK386 hb; replace BK397 := kp (cs' := #[.int .i64 t387, .slice Ao142 t388.length co142, .slice Ao143 t391.length co143, .slice Ao144 t394.length co144]) BK397 hb; replace HB := bs HB hb; (try clear hb); (try clear hb2); (try clear hk); (try clear hi); obtain ⟨_, _, _, _, _, _, _, _⟩ := bc4 BK385; have p399 : 0 ≤ (a1_0 : Int) := of_decide_eq_true (by first | (with_reducible assumption) | assumption); have q399 : a1_0 < (l0.length : Int) := of_decide_eq_true (by first | (with_reducible assumption) | assumption); obtain ⟨ad399, e399, hx399_0, hx399_1, hx399_2, hx399_3⟩ := at_T121 HR0.out a1_0 p399 q399; cases e399; replace hx399_0 := hx_ HB hx399_0; replace hx399_1 := hx_ HB hx399_1; replace hx399_2 := hx_ HB hx399_2; replace hx399_3 := hx_ HB hx399_3; replace p399 := eq_true p399; replace q399 := eq_true q399) | ((with_reducible refine gate_dst (N := 8) rfl ?_); refine bx_ (N := 8) #[.int .i64 0, .int .i64 0, .int .i64 0, .int .i64 0] 121 ?_; intro gb400 hg w148 hbox hb; replace HO390 := Rb HO390 hb; replace HO393 := Rb HO393 hb; replace HO396 := Rb HO396 hb; have BK400 := ak hbox; have GW400 := gy hg HB; have GE400 := gy hg HB; replace HB := bs HB hb; have NB385_400 := gm hg BK385; have NB400_385 := gn hg BK385; replace BK385 := kf BK385 hb; have NB386_400 := gm hg BK386; have NB400_386 := gn hg BK386; replace BK386 := kf BK386 hb; have NB397_400 := gm hg BK397; have NB400_397 := gn hg BK397; replace BK397 := kf BK397 hb; clear hb hbox hg; have hnb149 := NB400_385.out; have hnc149 := NB385_400.out; have hnb150 := NB400_386.out; have hnc150 := NB386_400.out; have hnb151 := NB400_397.out; have hnc151 := NB397_400.out; obtain ⟨_, _, _, _, _, _, _, _⟩ := bc4 BK400; obtain ⟨_, _, _, _, _, _, _, _⟩ := bc4 BK397))
            generalize hW_ : (((((w148.setCell ⟨gb400, 0, none⟩ (.int .i64 ((rd_T121 l0 a1_0).f0))).setCell ⟨gb400, 1, none⟩ (.int .i64 ((rd_T121 l0 a1_0).f1))).setCell ⟨gb400, 2, none⟩ (.int .i64 ((rd_T121 l0 a1_0).f2))).setCell ⟨gb400, 3, none⟩ (.int .i64 ((rd_T121 l0 a1_0).f3))).setCell ⟨gb397, 0, none⟩ (.int .i64 (wrap64 (t387 + 1)))) = w154
            replace HO390 := R2 hW_ HO390 BK400 BK397
            replace HO393 := R2 hW_ HO393 BK400 BK397
            replace HO396 := R2 hW_ HO396 BK400 BK397
            replace BK385 := BE hW_ BK385
            replace BK386 := BE hW_ BK386
            replace BK397 : Aside0 (w154.heap[gb397]? = some (.cells #[.int .i64 (wrap64 (t387 + 1)), .slice Ao142 t388.length co142, .slice Ao143 t391.length co143, .slice Ao144 t394.length co144] 45 (0, 0))) := BP hW_ BK397
            replace BK400 : Aside0 (w154.heap[gb400]? = some (.cells #[.int .i64 ((rd_T121 l0 a1_0).f0), .int .i64 ((rd_T121 l0 a1_0).f1), .int .i64 ((rd_T121 l0 a1_0).f2), .int .i64 ((rd_T121 l0 a1_0).f3)] 121 (0, 0))) := BP hW_ BK400
            replace HB := BL hW_ HB
            (try clear hW_)
            replace HO390 := ak (Kd.R_drew HO390.out)
            replace HO393 := ak (Kd.R_drew HO393.out)
            replace HO396 := ak (Kd.R_drew HO396.out)
            replace BK385 := ak (blk_drew BK385.out)
            replace BK386 := ak (blk_drew BK386.out)
            replace BK397 := ak (blk_drew BK397.out)
            replace BK400 := ak (blk_drew BK400.out)
            replace HB := ak (below_drew1 HB.out)
            have p407 : 0 ≤ (((rd_T121 l0 a1_0).f2) : Int) := of_decide_eq_true (by first | (with_reducible assumption) | assumption)
            have q407 : ((rd_T121 l0 a1_0).f2) < (l1_2.length : Int) := of_decide_eq_true (by first | (with_reducible assumption) | assumption)
            obtain ⟨ad407, e407, hx407_0⟩ := Kd.at_int HR1_2.out ((rd_T121 l0 a1_0).f2) p407 q407
            have hw407_0 := hx407_0
            cases e407
            replace hx407_0 := hx_ HB hx407_0
            replace p407 := eq_true p407
            replace q407 := eq_true q407
            have p132 : 0 ≤ (((rd_T121 l0 a1_0).f1) : Int) := of_decide_eq_true (by first | (with_reducible assumption) | assumption)
            have q132 : (((rd_T121 l0 a1_0).f1) : Int) < ((t388.length : Int) : Int) := of_decide_eq_true (by first | (with_reducible assumption) | assumption)
            obtain ⟨go132, co132, eo132, gb132, gl132, cl132, HG132⟩ := Kd.R_form HO390.out (by omega)
            (first | cases eo132 | (injection eo132 with ea_ en_ ec_; (first | subst ea_ | (injection ea_ with ea_; subst ea_)); subst ec_; clear en_))
            have GB132 := Aside0.mk gb132
            have GG132 := Aside0.mk HG132
            clear gb132 gl132 HG132
            obtain ⟨hx132_0, hf132_0⟩ := Kd.R_celln 0 HO390.out (((rd_T121 l0 a1_0).f1) : Int) p132 q132
            replace p132 := eq_true p132
            replace q132 := eq_true q132
            have HP156 := Kd.R_putn HO390.out (((rd_T121 l0 a1_0).f1) : Int) (rd l1_2 ((rd_T121 l0 a1_0).f2))
            rw [← Ny408.out] at HP156
            have HQ156 := Aside0.mk HP156
            clear HP156
            refine start_ (n := 12) (S := fun w' => w'.cell? ⟨gb397, 0, none⟩ = some (.int .i64 (wrap64 (t387 + 1))) ∧ w'.cell? ⟨gb397, 1, none⟩ = some (.slice (some ⟨go132, 0, none⟩) t388.length co142) ∧ w'.cell? ⟨gb397, 2, none⟩ = some (.slice Ao143 t391.length co143) ∧ w'.cell? ⟨gb397, 3, none⟩ = some (.slice Ao144 t394.length co144) ∧ w'.cell? ⟨gb400, 0, none⟩ = some (.int .i64 ((rd_T121 l0 a1_0).f0)) ∧ w'.cell? ⟨gb400, 1, none⟩ = some (.int .i64 ((rd_T121 l0 a1_0).f1)) ∧ w'.cell? ⟨gb400, 2, none⟩ = some (.int .i64 ((rd_T121 l0 a1_0).f2)) ∧ w'.cell? ⟨gb400, 3, none⟩ = some (.int .i64 ((rd_T121 l0 a1_0).f3)) ∧ w'.cell? ⟨gb385, 0, none⟩ = some (.int .i64 a1_0) ∧ w'.cell? ⟨gb385, 1, none⟩ = some (.slice A1_1 l1_1.length c1_1) ∧ w'.cell? ⟨gb385, 2, none⟩ = some (.slice (some ad407) l1_2.length c1_2) ∧ w'.cell? ⟨gb385, 3, none⟩ = some (.slice A1_3 l1_3.length c1_3) ∧ w'.cell? (ad407.add (((rd_T121 l0 a1_0).f2)).toNat) = some (.int .i64 (rd l1_2 ((rd_T121 l0 a1_0).f2)))) (ds := [11]) b7_12 KR rfl rfl ⟨(blk_cell BK397.out 0).trans rfl, (blk_cell BK397.out 1).trans rfl, (blk_cell BK397.out 2).trans rfl, (blk_cell BK397.out 3).trans rfl, (blk_cell BK400.out 0).trans rfl, (blk_cell BK400.out 1).trans rfl, (blk_cell BK400.out 2).trans rfl, (blk_cell BK400.out 3).trans rfl, (blk_cell BK385.out 0).trans rfl, (blk_cell BK385.out 1).trans rfl, (blk_cell BK385.out 2).trans rfl, (blk_cell BK385.out 3).trans rfl, ((HB.out.cell (World.block_lt_of_cell? w _ hw407_0)).trans hw407_0)⟩ (fun hHeld => ?_); refine with_tabW impl_StepState.tab16 impl_StepState.bits16 (fun HT_ HW_ => ?_)
            generalize w154.drew = w155 at HO390 HO393 HO396 BK385 BK386 BK397 BK400 HB GG132 HQ156 hf132_0 hx132_0 hx407_0 hHeld ⊢
            refine pu_ (i := 0) (N := some 87) b7_11 HT_ ?_
            refine pu_ (i := 2) (N := some 89) b7_10 HT_ ?_
            refine pu_ (i := 4) (N := some 91) b7_9 HT_ ?_
            refine pu_ (i := 6) (N := some 93) b7_8 HT_ ?_
            refine tk_ (i := 1) (N := some 88) b7_7 rfl rfl HT_ HW_ hHeld ?_
            refine take_ (i := 3) (N := some 90) (v := ?_) (a' := ?_) b7_6 rfl rfl (take_ofW HT_.out HW_.out KR) (fun _ _ _ h => h) (Or.inl ⟨by rfl, ?_⟩) hHeld ?_ ?_
            rotate_left
            ·rintro w' ⟨s0, s1, s2, s3, s4, s5, s6, s7, s8, s9, s10, s11, s12⟩
             go_simp
             with_reducible rfl
            rotate_left
            ·simp only [Act.put, List.setIfInBounds_toArray, List.set_cons_zero, List.set_cons_succ, i64_w, i32_w]
             rfl
            refine tk_ (i := 5) (N := some 92) b7_5 rfl rfl HT_ HW_ hHeld ?_
            refine take_ (i := 7) (N := some 94) (v := ?_) (a' := ?_) b7_4 rfl rfl (take_ofW HT_.out HW_.out KR) (fun _ _ _ h => h) (Or.inl ⟨by rfl, ?_⟩) hHeld ?_ ?_
            rotate_left
            ·rintro w' ⟨s0, s1, s2, s3, s4, s5, s6, s7, s8, s9, s10, s11, s12⟩
             go_simp
             with_reducible rfl
            rotate_left
            ·simp only [Act.put, List.setIfInBounds_toArray, List.set_cons_zero, List.set_cons_succ, i64_w, i32_w]
             rfl
            refine pu_ (i := 8) (N := some 95) b7_3 HT_ ?_
            refine tk_ (i := 9) (N := some 96) b7_2 rfl rfl HT_ HW_ hHeld ?_
            refine pu_ (i := 10) (N := some 97) b7_1 HT_ ?_
            refine last_ (i := 11) (N := none) b7_0 rfl rfl (one_of HT_.out KR) (by decide) (fun K hK => ?_)
            refine skip_ (w1 := ?_) (by rfl) rfl ?_ ?_
            rotate_left
            ·go_simp
             rfl
            refine hK.out _ _ ?_
            clear hK K
            refine done_ (done_of HT_.out KR) ?_
            generalize hW_ : (w155.setCell ⟨go132, (((rd_T121 l0 a1_0).f1) : Int).toNat, none⟩ (.int .i64 (rd l1_2 ((rd_T121 l0 a1_0).f2)))) = w157
            replace HO393 : Aside0 (Kd.R (Kd.int .i64) 3 w157 w.heap.size (fun k_ => some k_ ≠ (.slice (some ⟨go132, 0, none⟩) t388.length co142 : Value).ownBlock ∧ some k_ ≠ (.slice Ao144 t394.length co144 : Value).ownBlock) (.slice Ao143 t391.length co143) t391) := ⟨by rw [← hW_]; exact RX (Kd.R_mono HO393.out (fun k_ hk => (⟨hk, fun e_ => hk.1 (by rw [e_]; rfl)⟩ : _ ∧ k_ ≠ go132))) (fun _ hk => by first | exact ⟨hk.1.1, hk.1.2⟩ | simp_all)⟩
            replace HO396 : Aside0 (Kd.R (Kd.int .i64) 3 w157 w.heap.size (fun k_ => some k_ ≠ (.slice (some ⟨go132, 0, none⟩) t388.length co142 : Value).ownBlock ∧ some k_ ≠ (.slice Ao143 t391.length co143 : Value).ownBlock) (.slice Ao144 t394.length co144) t394) := ⟨by rw [← hW_]; exact RX (Kd.R_mono HO396.out (fun k_ hk => (⟨hk, fun e_ => hk.1 (by rw [e_]; rfl)⟩ : _ ∧ k_ ≠ go132))) (fun _ hk => by first | exact ⟨hk.1.1, hk.1.2⟩ | simp_all)⟩
            replace BK385 := BQ hW_ HO390 BK385
            replace BK386 := BQ hW_ HO390 BK386
            replace BK397 := BQ hW_ HO390 BK397
            replace BK400 := BQ hW_ HO390 BK400
            replace HO390 : Aside0 (Kd.R (Kd.int .i64) 3 w157 w.heap.size (fun k_ => some k_ ≠ (.slice Ao143 t391.length co143 : Value).ownBlock ∧ some k_ ≠ (.slice Ao144 t394.length co144 : Value).ownBlock) (.slice (some ⟨go132, 0, none⟩) t388.length co142) y408) := ⟨by rw [← hW_]; exact PR HQ156⟩
            replace HB := BL hW_ HB
            (try clear hW_)
            obtain ⟨_, _, _, _, _, _, _, _⟩ := bc4 BK397
            obtain ⟨_, _, _, _, _, _, _, _⟩ := bc4 BK386
            try go_wp2
            refine bodyPost_ret (results_cell_row rfl _ _ gb386 45 #[.int .i64 (wrap64 (t387 + 1)), .slice (some ⟨go132, 0, none⟩) t388.length co142, .slice Ao143 t391.length co143, .slice Ao144 t394.length co144] (0, 0) _ rfl (PX BK386) Try.underlying45 rfl KR) rfl ?_
            exact ⟨_, _, _, RT, Re1 HO390 BK386, Re1 HO393 BK386, Re1 HO396 BK386, PB⟩
           ·rw [if_neg c131] at H
            exact absurd H (by simp)
          ·rw [if_neg c130] at H
           exact absurd H (by simp)
         ·rw [if_neg c129] at H
          exact absurd H (by simp)
        ·rw [if_neg c128] at H
         exact absurd H (by simp)
       ·rw [if_neg c127] at H
        have c127b0 : (((rd_T121 l0 a1_0).f0) == 8) = false := beq_eq_false_iff_ne.mpr c127
        have c127b1 : (((rd_T121 l0 a1_0).f0) != 8) = true := bne_iff_ne.mpr c127
        by_cases c160 : ((rd_T121 l0 a1_0).f0) = 9
        ·rw [if_pos c160] at H
         have c160b0 : (((rd_T121 l0 a1_0).f0) == 9) = true := beq_iff_eq.mpr c160
         have c160b1 : (((rd_T121 l0 a1_0).f0) != 9) = false := bne_eq_false_iff_eq.mpr c160
         clear c160
         by_cases c161 : 0 ≤ ((rd_T121 l0 a1_0).f1)
         ·rw [if_pos c161] at H
          have c161b0 : decide (0 ≤ ((rd_T121 l0 a1_0).f1)) = true := decide_eq_true c161
          clear c161
          by_cases c162 : ((rd_T121 l0 a1_0).f1) < (l1_1.length : Int)
          ·rw [if_pos c162] at H
           have c162b0 : decide (((rd_T121 l0 a1_0).f1) < (l1_1.length : Int)) = true := decide_eq_true c162
           clear c162
           by_cases c163 : 0 ≤ ((rd_T121 l0 a1_0).f2)
           ·rw [if_pos c163] at H
            have c163b0 : decide (0 ≤ ((rd_T121 l0 a1_0).f2)) = true := decide_eq_true c163
            clear c163
            by_cases c164 : ((rd_T121 l0 a1_0).f2) < (t391.length : Int)
            ·rw [if_pos c164] at H
             have c164b0 : decide (((rd_T121 l0 a1_0).f2) < (t391.length : Int)) = true := decide_eq_true c164
             clear c164
             obtain ⟨y410, hy410⟩ : ∃ y_ : List Int, y_ = (t391.set (((rd_T121 l0 a1_0).f2) : Int).toNat (rd l1_1 ((rd_T121 l0 a1_0).f1))) := ⟨_, rfl⟩
             replace H : (some (wrap64 (t387 + 1), t388, y410, t394)) = some (r1, r2, r3, r4) := by first | (rw [hy410]; with_reducible exact H) | (have H2_ := (Option.bind_some _ _).symm.trans H; rw [hy410]; with_reducible exact H2_) | (have H2_ := (Option.bind_some _ _).symm.trans H; with_reducible exact H2_) | with_reducible exact H | (rw [hy410]; exact H) | exact H
             have Ny410 := Aside0.mk hy410
             clear hy410
             simp only [Option.some.injEq, Prod.mk.injEq] at H
             obtain ⟨rfl, rfl, rfl, rfl⟩ := H
             go_enter Try.func20, Try.ntmps20
             try go_wp2_with (first | ((with_reducible refine gate_dst (N := 4) rfl ?_); refine bx_ (N := 4) #[.int .i64 a1_0, .slice A1_1 l1_1.length c1_1, .slice A1_2 l1_2.length c1_2, .slice A1_3 l1_3.length c1_3] 45 ?_; intro gb385 hg w166 hbox hb; have BK385 := ak hbox; have GW385 := gy hg HB; have GE385 := gy hg HB; replace HB := bs HB hb; clear hb hbox hg) | ((with_reducible refine gate_dst (N := 6) rfl ?_); refine bx_ (N := 6) #[.int .i64 0, .slice none 0 0, .slice none 0 0, .slice none 0 0] 45 ?_; intro gb386 hg w167 hbox hb; have BK386 := ak hbox; have GW386 := gy hg HB; have GE386 := gy hg HB; replace HB := bs HB hb; have NB385_386 := gm hg BK385; have NB386_385 := gn hg BK385; replace BK385 := kf BK385 hb; clear hb hbox hg; have hnb168 := NB385_386.out; have hnc168 := NB386_385.out; obtain ⟨_, _, _, _, _, _, _, _⟩ := bc4 BK385) | ((with_reducible refine gate_callee (f := 77) rfl ?_); refine goesL_ (some 10) rfl rfl Try.func77 KR rfl #[.agg #[.int .i64 a1_0, .slice A1_1 l1_1.length c1_1, .slice A1_2 l1_2.length c1_2, .slice A1_3 l1_3.length c1_3]] rfl AR ?_; (with_reducible refine (impl_copyState.calls a1_0 _ _ l1_1 _ _ l1_2 _ _ l1_3 t387 t388 t391 t394 _ ?side1 ?side2 ?side3 ?side4 ?side5 ?side6 A4.out).mono ?_); (case side1 => exact CR (Kd.C_below HR1_1.out HB.out)); (case side2 => exact HC1_1.out); (case side3 => exact CR (Kd.C_below HR1_2.out HB.out)); (case side4 => exact HC1_2.out); (case side5 => exact CR (Kd.C_below HR1_3.out HB.out)); (case side6 => exact HC1_3.out); rintro e w170 ⟨v389, v392, v395, rfl, ho0, ho1, ho2, hb⟩; refine ⟨_, rfl, ?_⟩; have HO390 := Rn0 ho0 HB; have HO393 := Rn0 ho1 HB; have HO396 := Rn0 ho2 HB; replace BK385 := kf BK385 hb; replace BK386 := kf BK386 hb; replace HB := bs HB hb; (try clear hb); (try clear hb2); (try clear hk); (try clear hi); (try clear ho0); (try clear ho1); (try clear ho2)) | ((with_reducible refine gate_dst (N := 7) rfl ?_); refine bx_ (N := 7) #[.int .i64 0, .slice none 0 0, .slice none 0 0, .slice none 0 0] 45 ?_; intro gb397 hg w171 hbox hb; replace HO390 := Rb HO390 hb; replace HO393 := Rb HO393 hb; replace HO396 := Rb HO396 hb; have BK397 := ak hbox; have GW397 := gy hg HB; have GE397 := gy hg HB; replace HB := bs HB hb; have NB385_397 := gm hg BK385; have NB397_385 := gn hg BK385; replace BK385 := kf BK385 hb; have NB386_397 := gm hg BK386; have NB397_386 := gn hg BK386; replace BK386 := kf BK386 hb; clear hb hbox hg; have hnb172 := NB397_385.out; have hnc172 := NB385_397.out; have hnb173 := NB397_386.out; have hnc173 := NB386_397.out; obtain ⟨_, _, _, _, _, _, _, _⟩ := bc4 BK397; obtain ⟨Ao175, co175, eo175⟩ := Kd.R_slice HO390.out; subst eo175; obtain ⟨Ao176, co176, eo176⟩ := Kd.R_slice HO393.out; subst eo176; obtain ⟨Ao177, co177, eo177⟩ := Kd.R_slice HO396.out; subst eo177; obtain ⟨_, _, _, _, _, _, _, _⟩ := bc4 BK385) | ((with_reducible refine gate_callee (f := 78) rfl ?_); refine goesL_ (some 13) rfl rfl Try.func78 KR rfl #[.slice A0 l0.length c0, .agg #[.int .i64 a1_0, .slice A1_1 l1_1.length c1_1, .slice A1_2 l1_2.length c1_2, .slice A1_3 l1_3.length c1_3]] rfl AR ?_; (with_reducible refine (impl_canStep.calls k _ _ l0 a1_0 _ _ l1_1 _ _ l1_2 _ _ l1_3 true _ ?side1 ?side2 ?side3 ?side4 ?side5 ?side6 ?side7 ?side8 A5.out).mono ?_); (case side1 => exact Kd.C_below HR0.out PB); (case side2 => exact HC0.out); (case side3 => exact Kd.C_below HR1_1.out PB); (case side4 => exact HC1_1.out); (case side5 => exact Kd.C_below HR1_2.out PB); (case side6 => exact HC1_2.out); (case side7 => exact Kd.C_below HR1_3.out PB); (case side8 => exact HC1_3.out); rintro e w179 ⟨rfl, hb⟩; refine ⟨_, rfl, ?_⟩; replace HO390 := ak (Kd.R_below (Re1 HO390 BK397) hb); replace HO393 := ak (Kd.R_below (Re1 HO393 BK397) hb); replace HO396 := ak (Kd.R_below (Re1 HO396 BK397) hb); replace BK385 := kf BK385 hb; replace BK386 := kf BK386 hb; replace BK397 := kp (cs' := #[.int .i64 t387, .slice Ao175 t388.length co175, .slice Ao176 t391.length co176, .slice Ao177 t394.length co177]) BK397 hb; replace HB := bs HB hb; (try clear hb); (try clear hb2); (try clear hk); (try clear hi); obtain ⟨_, _, _, _, _, _, _, _⟩ := bc4 BK385; have p399 : 0 ≤ (a1_0 : Int) := of_decide_eq_true (by first | (with_reducible assumption) | assumption); have q399 : a1_0 < (l0.length : Int) := of_decide_eq_true (by first | (with_reducible assumption) | assumption); obtain ⟨ad399, e399, hx399_0, hx399_1, hx399_2, hx399_3⟩ := at_T121 HR0.out a1_0 p399 q399; cases e399; replace hx399_0 := hx_ HB hx399_0; replace hx399_1 := hx_ HB hx399_1; replace hx399_2 := hx_ HB hx399_2; replace hx399_3 := hx_ HB hx399_3; replace p399 := eq_true p399; replace q399 := eq_true q399) | ((with_reducible refine gate_dst (N := 8) rfl ?_); refine bx_ (N := 8) #[.int .i64 0, .int .i64 0, .int .i64 0, .int .i64 0] 121 ?_; intro gb400 hg w181 hbox hb; replace HO390 := Rb HO390 hb; replace HO393 := Rb HO393 hb; replace HO396 := Rb HO396 hb; have BK400 := ak hbox; have GW400 := gy hg HB; have GE400 := gy hg HB; replace HB := bs HB hb; have NB385_400 := gm hg BK385; have NB400_385 := gn hg BK385; replace BK385 := kf BK385 hb; have NB386_400 := gm hg BK386; have NB400_386 := gn hg BK386; replace BK386 := kf BK386 hb; have NB397_400 := gm hg BK397; have NB400_397 := gn hg BK397; replace BK397 := kf BK397 hb; clear hb hbox hg; have hnb182 := NB400_385.out; have hnc182 := NB385_400.out; have hnb183 := NB400_386.out; have hnc183 := NB386_400.out; have hnb184 := NB400_397.out; have hnc184 := NB397_400.out; obtain ⟨_, _, _, _, _, _, _, _⟩ := bc4 BK400; obtain ⟨_, _, _, _, _, _, _, _⟩ := bc4 BK397))
             generalize hW_ : (((((w181.setCell ⟨gb400, 0, none⟩ (.int .i64 ((rd_T121 l0 a1_0).f0))).setCell ⟨gb400, 1, none⟩ (.int .i64 ((rd_T121 l0 a1_0).f1))).setCell ⟨gb400, 2, none⟩ (.int .i64 ((rd_T121 l0 a1_0).f2))).setCell ⟨gb400, 3, none⟩ (.int .i64 ((rd_T121 l0 a1_0).f3))).setCell ⟨gb397, 0, none⟩ (.int .i64 (wrap64 (t387 + 1)))) = w187
             replace HO390 := R2 hW_ HO390 BK400 BK397
             replace HO393 := R2 hW_ HO393 BK400 BK397
             replace HO396 := R2 hW_ HO396 BK400 BK397
             replace BK385 := BE hW_ BK385
             replace BK386 := BE hW_ BK386
             replace BK397 : Aside0 (w187.heap[gb397]? = some (.cells #[.int .i64 (wrap64 (t387 + 1)), .slice Ao175 t388.length co175, .slice Ao176 t391.length co176, .slice Ao177 t394.length co177] 45 (0, 0))) := BP hW_ BK397
             replace BK400 : Aside0 (w187.heap[gb400]? = some (.cells #[.int .i64 ((rd_T121 l0 a1_0).f0), .int .i64 ((rd_T121 l0 a1_0).f1), .int .i64 ((rd_T121 l0 a1_0).f2), .int .i64 ((rd_T121 l0 a1_0).f3)] 121 (0, 0))) := BP hW_ BK400
             replace HB := BL hW_ HB
             (try clear hW_)
             replace HO390 := ak (Kd.R_drew HO390.out)
             replace HO393 := ak (Kd.R_drew HO393.out)
             replace HO396 := ak (Kd.R_drew HO396.out)
             replace BK385 := ak (blk_drew BK385.out)
             replace BK386 := ak (blk_drew BK386.out)
             replace BK397 := ak (blk_drew BK397.out)
             replace BK400 := ak (blk_drew BK400.out)
             replace HB := ak (below_drew1 HB.out)
             have p409 : 0 ≤ (((rd_T121 l0 a1_0).f1) : Int) := of_decide_eq_true (by first | (with_reducible assumption) | assumption)
             have q409 : ((rd_T121 l0 a1_0).f1) < (l1_1.length : Int) := of_decide_eq_true (by first | (with_reducible assumption) | assumption)
             obtain ⟨ad409, e409, hx409_0⟩ := Kd.at_int HR1_1.out ((rd_T121 l0 a1_0).f1) p409 q409
             have hw409_0 := hx409_0
             cases e409
             replace hx409_0 := hx_ HB hx409_0
             replace p409 := eq_true p409
             replace q409 := eq_true q409
             have p165 : 0 ≤ (((rd_T121 l0 a1_0).f2) : Int) := of_decide_eq_true (by first | (with_reducible assumption) | assumption)
             have q165 : (((rd_T121 l0 a1_0).f2) : Int) < ((t391.length : Int) : Int) := of_decide_eq_true (by first | (with_reducible assumption) | assumption)
             obtain ⟨go165, co165, eo165, gb165, gl165, cl165, HG165⟩ := Kd.R_form HO393.out (by omega)
             (first | cases eo165 | (injection eo165 with ea_ en_ ec_; (first | subst ea_ | (injection ea_ with ea_; subst ea_)); subst ec_; clear en_))
             have GB165 := Aside0.mk gb165
             have GG165 := Aside0.mk HG165
             clear gb165 gl165 HG165
             obtain ⟨hx165_0, hf165_0⟩ := Kd.R_celln 0 HO393.out (((rd_T121 l0 a1_0).f2) : Int) p165 q165
             replace p165 := eq_true p165
             replace q165 := eq_true q165
             have HP189 := Kd.R_putn HO393.out (((rd_T121 l0 a1_0).f2) : Int) (rd l1_1 ((rd_T121 l0 a1_0).f1))
             rw [← Ny410.out] at HP189
             have HQ189 := Aside0.mk HP189
             clear HP189
             refine start_ (n := 12) (S := fun w' => w'.cell? ⟨gb397, 0, none⟩ = some (.int .i64 (wrap64 (t387 + 1))) ∧ w'.cell? ⟨gb397, 1, none⟩ = some (.slice Ao175 t388.length co175) ∧ w'.cell? ⟨gb397, 2, none⟩ = some (.slice (some ⟨go165, 0, none⟩) t391.length co176) ∧ w'.cell? ⟨gb397, 3, none⟩ = some (.slice Ao177 t394.length co177) ∧ w'.cell? ⟨gb400, 0, none⟩ = some (.int .i64 ((rd_T121 l0 a1_0).f0)) ∧ w'.cell? ⟨gb400, 1, none⟩ = some (.int .i64 ((rd_T121 l0 a1_0).f1)) ∧ w'.cell? ⟨gb400, 2, none⟩ = some (.int .i64 ((rd_T121 l0 a1_0).f2)) ∧ w'.cell? ⟨gb400, 3, none⟩ = some (.int .i64 ((rd_T121 l0 a1_0).f3)) ∧ w'.cell? ⟨gb385, 0, none⟩ = some (.int .i64 a1_0) ∧ w'.cell? ⟨gb385, 1, none⟩ = some (.slice (some ad409) l1_1.length c1_1) ∧ w'.cell? ⟨gb385, 2, none⟩ = some (.slice A1_2 l1_2.length c1_2) ∧ w'.cell? ⟨gb385, 3, none⟩ = some (.slice A1_3 l1_3.length c1_3) ∧ w'.cell? (ad409.add (((rd_T121 l0 a1_0).f1)).toNat) = some (.int .i64 (rd l1_1 ((rd_T121 l0 a1_0).f1)))) (ds := [11]) b7_12 KR rfl rfl ⟨(blk_cell BK397.out 0).trans rfl, (blk_cell BK397.out 1).trans rfl, (blk_cell BK397.out 2).trans rfl, (blk_cell BK397.out 3).trans rfl, (blk_cell BK400.out 0).trans rfl, (blk_cell BK400.out 1).trans rfl, (blk_cell BK400.out 2).trans rfl, (blk_cell BK400.out 3).trans rfl, (blk_cell BK385.out 0).trans rfl, (blk_cell BK385.out 1).trans rfl, (blk_cell BK385.out 2).trans rfl, (blk_cell BK385.out 3).trans rfl, ((HB.out.cell (World.block_lt_of_cell? w _ hw409_0)).trans hw409_0)⟩ (fun hHeld => ?_); refine with_tabW impl_StepState.tab18 impl_StepState.bits18 (fun HT_ HW_ => ?_)
             generalize w187.drew = w188 at HO390 HO393 HO396 BK385 BK386 BK397 BK400 HB GG165 HQ189 hf165_0 hx165_0 hx409_0 hHeld ⊢
             refine pu_ (i := 0) (N := some 100) b7_11 HT_ ?_
             refine pu_ (i := 2) (N := some 102) b7_10 HT_ ?_
             refine pu_ (i := 4) (N := some 104) b7_9 HT_ ?_
             refine pu_ (i := 6) (N := some 106) b7_8 HT_ ?_
             refine tk_ (i := 1) (N := some 101) b7_7 rfl rfl HT_ HW_ hHeld ?_
             refine take_ (i := 3) (N := some 103) (v := ?_) (a' := ?_) b7_6 rfl rfl (take_ofW HT_.out HW_.out KR) (fun _ _ _ h => h) (Or.inl ⟨by rfl, ?_⟩) hHeld ?_ ?_
             rotate_left
             ·rintro w' ⟨s0, s1, s2, s3, s4, s5, s6, s7, s8, s9, s10, s11, s12⟩
              go_simp
              with_reducible rfl
             rotate_left
             ·simp only [Act.put, List.setIfInBounds_toArray, List.set_cons_zero, List.set_cons_succ, i64_w, i32_w]
              rfl
             refine tk_ (i := 5) (N := some 105) b7_5 rfl rfl HT_ HW_ hHeld ?_
             refine take_ (i := 7) (N := some 107) (v := ?_) (a' := ?_) b7_4 rfl rfl (take_ofW HT_.out HW_.out KR) (fun _ _ _ h => h) (Or.inl ⟨by rfl, ?_⟩) hHeld ?_ ?_
             rotate_left
             ·rintro w' ⟨s0, s1, s2, s3, s4, s5, s6, s7, s8, s9, s10, s11, s12⟩
              go_simp
              with_reducible rfl
             rotate_left
             ·simp only [Act.put, List.setIfInBounds_toArray, List.set_cons_zero, List.set_cons_succ, i64_w, i32_w]
              rfl
             refine pu_ (i := 8) (N := some 108) b7_3 HT_ ?_
             refine tk_ (i := 9) (N := some 109) b7_2 rfl rfl HT_ HW_ hHeld ?_
             refine pu_ (i := 10) (N := some 110) b7_1 HT_ ?_
             refine last_ (i := 11) (N := none) b7_0 rfl rfl (one_of HT_.out KR) (by decide) (fun K hK => ?_)
             refine skip_ (w1 := ?_) (by rfl) rfl ?_ ?_
             rotate_left
             ·go_simp
              rfl
             refine hK.out _ _ ?_
             clear hK K
             refine done_ (done_of HT_.out KR) ?_
             generalize hW_ : (w188.setCell ⟨go165, (((rd_T121 l0 a1_0).f2) : Int).toNat, none⟩ (.int .i64 (rd l1_1 ((rd_T121 l0 a1_0).f1)))) = w190
             replace HO390 : Aside0 (Kd.R (Kd.int .i64) 3 w190 w.heap.size (fun k_ => some k_ ≠ (.slice (some ⟨go165, 0, none⟩) t391.length co176 : Value).ownBlock ∧ some k_ ≠ (.slice Ao177 t394.length co177 : Value).ownBlock) (.slice Ao175 t388.length co175) t388) := ⟨by rw [← hW_]; exact RX (Kd.R_mono HO390.out (fun k_ hk => (⟨hk, fun e_ => hk.1 (by rw [e_]; rfl)⟩ : _ ∧ k_ ≠ go165))) (fun _ hk => by first | exact ⟨hk.1.1, hk.1.2⟩ | simp_all)⟩
             replace HO396 : Aside0 (Kd.R (Kd.int .i64) 3 w190 w.heap.size (fun k_ => some k_ ≠ (.slice Ao175 t388.length co175 : Value).ownBlock ∧ some k_ ≠ (.slice (some ⟨go165, 0, none⟩) t391.length co176 : Value).ownBlock) (.slice Ao177 t394.length co177) t394) := ⟨by rw [← hW_]; exact RX (Kd.R_mono HO396.out (fun k_ hk => (⟨hk, fun e_ => hk.2 (by rw [e_]; rfl)⟩ : _ ∧ k_ ≠ go165))) (fun _ hk => by first | exact ⟨hk.1.1, hk.1.2⟩ | simp_all)⟩
             replace BK385 := BQ hW_ HO393 BK385
             replace BK386 := BQ hW_ HO393 BK386
             replace BK397 := BQ hW_ HO393 BK397
             replace BK400 := BQ hW_ HO393 BK400
             replace HO393 : Aside0 (Kd.R (Kd.int .i64) 3 w190 w.heap.size (fun k_ => some k_ ≠ (.slice Ao175 t388.length co175 : Value).ownBlock ∧ some k_ ≠ (.slice Ao177 t394.length co177 : Value).ownBlock) (.slice (some ⟨go165, 0, none⟩) t391.length co176) y410) := ⟨by rw [← hW_]; exact PR HQ189⟩
             replace HB := BL hW_ HB
             (try clear hW_)
             obtain ⟨_, _, _, _, _, _, _, _⟩ := bc4 BK397
             obtain ⟨_, _, _, _, _, _, _, _⟩ := bc4 BK386
             try go_wp2
             refine bodyPost_ret (results_cell_row rfl _ _ gb386 45 #[.int .i64 (wrap64 (t387 + 1)), .slice Ao175 t388.length co175, .slice (some ⟨go165, 0, none⟩) t391.length co176, .slice Ao177 t394.length co177] (0, 0) _ rfl (PX BK386) Try.underlying45 rfl KR) rfl ?_
             exact ⟨_, _, _, RT, Re1 HO390 BK386, Re1 HO393 BK386, Re1 HO396 BK386, PB⟩
            ·rw [if_neg c164] at H
             exact absurd H (by simp)
           ·rw [if_neg c163] at H
            exact absurd H (by simp)
          ·rw [if_neg c162] at H
           exact absurd H (by simp)
         ·rw [if_neg c161] at H
          exact absurd H (by simp)
        ·rw [if_neg c160] at H
         have c160b0 : (((rd_T121 l0 a1_0).f0) == 9) = false := beq_eq_false_iff_ne.mpr c160
         have c160b1 : (((rd_T121 l0 a1_0).f0) != 9) = true := bne_iff_ne.mpr c160
         obtain ⟨ji193, hji193⟩ : ∃ j_ : Int, (mx a2 0) = j_ := ⟨_, rfl⟩
         replace H : (if 0 ≤ ((rd_T121 l0 a1_0).f1) then (if ((rd_T121 l0 a1_0).f1) < (t388.length : Int) then (some (wrap64 (t387 + 1), (t388.set (((rd_T121 l0 a1_0).f1) : Int).toNat (mn (ji193) 999)), t391, t394)) else (none)) else (none)) = some (r1, r2, r3, r4) := by first | (rw [hji193] at H; exact H) | (simp only [hji193] at H ⊢; exact H)
         (try rw [hji193] at A4)
         (try rw [hji193] at A5)
         (try (have hji193l : 0 ≤ ji193 := by (rw [← hji193]; unfold mx; (repeat' split) <;> omega)))
         (try (have hji193m : 0 ≤ ji193 := by omega))
         have hji193_ : (if a2 < 0 then 0 else a2) = ji193 := hji193
         obtain ⟨ji194, hji194⟩ : ∃ j_ : Int, (mn (ji193) 999) = j_ := ⟨_, rfl⟩
         replace H : (if 0 ≤ ((rd_T121 l0 a1_0).f1) then (if ((rd_T121 l0 a1_0).f1) < (t388.length : Int) then (some (wrap64 (t387 + 1), (t388.set (((rd_T121 l0 a1_0).f1) : Int).toNat (ji194)), t391, t394)) else (none)) else (none)) = some (r1, r2, r3, r4) := by first | (rw [hji194] at H; exact H) | (simp only [hji194] at H ⊢; exact H)
         (try rw [hji194] at A4)
         (try rw [hji194] at A5)
         have hji194_ : (if 999 < (ji193) then 999 else (ji193)) = ji194 := hji194
         by_cases c195 : 0 ≤ ((rd_T121 l0 a1_0).f1)
         ·rw [if_pos c195] at H
          have c195b0 : decide (0 ≤ ((rd_T121 l0 a1_0).f1)) = true := decide_eq_true c195
          clear c195
          by_cases c196 : ((rd_T121 l0 a1_0).f1) < (t388.length : Int)
          ·rw [if_pos c196] at H
           have c196b0 : decide (((rd_T121 l0 a1_0).f1) < (t388.length : Int)) = true := decide_eq_true c196
           clear c196
           obtain ⟨y411, hy411⟩ : ∃ y_ : List Int, y_ = (t388.set (((rd_T121 l0 a1_0).f1) : Int).toNat (ji194)) := ⟨_, rfl⟩
           replace H : (some (wrap64 (t387 + 1), y411, t391, t394)) = some (r1, r2, r3, r4) := by first | (rw [hy411]; with_reducible exact H) | (have H2_ := (Option.bind_some _ _).symm.trans H; rw [hy411]; with_reducible exact H2_) | (have H2_ := (Option.bind_some _ _).symm.trans H; with_reducible exact H2_) | with_reducible exact H | (rw [hy411]; exact H) | exact H
           have Ny411 := Aside0.mk hy411
           clear hy411
           simp only [Option.some.injEq, Prod.mk.injEq] at H
           obtain ⟨rfl, rfl, rfl, rfl⟩ := H
           go_enter Try.func20, Try.ntmps20
           go_wp2_with (first | ((with_reducible refine gate_dst (N := 4) rfl ?_); refine bx_ (N := 4) #[.int .i64 a1_0, .slice A1_1 l1_1.length c1_1, .slice A1_2 l1_2.length c1_2, .slice A1_3 l1_3.length c1_3] 45 ?_; intro gb385 hg w198 hbox hb; have BK385 := ak hbox; have GW385 := gy hg HB; have GE385 := gy hg HB; replace HB := bs HB hb; clear hb hbox hg) | ((with_reducible refine gate_dst (N := 6) rfl ?_); refine bx_ (N := 6) #[.int .i64 0, .slice none 0 0, .slice none 0 0, .slice none 0 0] 45 ?_; intro gb386 hg w199 hbox hb; have BK386 := ak hbox; have GW386 := gy hg HB; have GE386 := gy hg HB; replace HB := bs HB hb; have NB385_386 := gm hg BK385; have NB386_385 := gn hg BK385; replace BK385 := kf BK385 hb; clear hb hbox hg; have hnb200 := NB385_386.out; have hnc200 := NB386_385.out; obtain ⟨_, _, _, _, _, _, _, _⟩ := bc4 BK385) | ((with_reducible refine gate_callee (f := 77) rfl ?_); refine goesL_ (some 10) rfl rfl Try.func77 KR rfl #[.agg #[.int .i64 a1_0, .slice A1_1 l1_1.length c1_1, .slice A1_2 l1_2.length c1_2, .slice A1_3 l1_3.length c1_3]] rfl AR ?_; (with_reducible refine (impl_copyState.calls a1_0 _ _ l1_1 _ _ l1_2 _ _ l1_3 t387 t388 t391 t394 _ ?side1 ?side2 ?side3 ?side4 ?side5 ?side6 A4.out).mono ?_); (case side1 => exact CR (Kd.C_below HR1_1.out HB.out)); (case side2 => exact HC1_1.out); (case side3 => exact CR (Kd.C_below HR1_2.out HB.out)); (case side4 => exact HC1_2.out); (case side5 => exact CR (Kd.C_below HR1_3.out HB.out)); (case side6 => exact HC1_3.out); rintro e w202 ⟨v389, v392, v395, rfl, ho0, ho1, ho2, hb⟩; refine ⟨_, rfl, ?_⟩; have HO390 := Rn0 ho0 HB; have HO393 := Rn0 ho1 HB; have HO396 := Rn0 ho2 HB; replace BK385 := kf BK385 hb; replace BK386 := kf BK386 hb; replace HB := bs HB hb; (try clear hb); (try clear hb2); (try clear hk); (try clear hi); (try clear ho0); (try clear ho1); (try clear ho2)) | ((with_reducible refine gate_dst (N := 7) rfl ?_); refine bx_ (N := 7) #[.int .i64 0, .slice none 0 0, .slice none 0 0, .slice none 0 0] 45 ?_; intro gb397 hg w203 hbox hb; replace HO390 := Rb HO390 hb; replace HO393 := Rb HO393 hb; replace HO396 := Rb HO396 hb; have BK397 := ak hbox; have GW397 := gy hg HB; have GE397 := gy hg HB; replace HB := bs HB hb; have NB385_397 := gm hg BK385; have NB397_385 := gn hg BK385; replace BK385 := kf BK385 hb; have NB386_397 := gm hg BK386; have NB397_386 := gn hg BK386; replace BK386 := kf BK386 hb; clear hb hbox hg; have hnb204 := NB397_385.out; have hnc204 := NB385_397.out; have hnb205 := NB397_386.out; have hnc205 := NB386_397.out; obtain ⟨_, _, _, _, _, _, _, _⟩ := bc4 BK397; obtain ⟨Ao207, co207, eo207⟩ := Kd.R_slice HO390.out; subst eo207; obtain ⟨Ao208, co208, eo208⟩ := Kd.R_slice HO393.out; subst eo208; obtain ⟨Ao209, co209, eo209⟩ := Kd.R_slice HO396.out; subst eo209; obtain ⟨_, _, _, _, _, _, _, _⟩ := bc4 BK385) | ((with_reducible refine gate_callee (f := 78) rfl ?_); refine goesL_ (some 13) rfl rfl Try.func78 KR rfl #[.slice A0 l0.length c0, .agg #[.int .i64 a1_0, .slice A1_1 l1_1.length c1_1, .slice A1_2 l1_2.length c1_2, .slice A1_3 l1_3.length c1_3]] rfl AR ?_; (with_reducible refine (impl_canStep.calls k _ _ l0 a1_0 _ _ l1_1 _ _ l1_2 _ _ l1_3 true _ ?side1 ?side2 ?side3 ?side4 ?side5 ?side6 ?side7 ?side8 A5.out).mono ?_); (case side1 => exact Kd.C_below HR0.out PB); (case side2 => exact HC0.out); (case side3 => exact Kd.C_below HR1_1.out PB); (case side4 => exact HC1_1.out); (case side5 => exact Kd.C_below HR1_2.out PB); (case side6 => exact HC1_2.out); (case side7 => exact Kd.C_below HR1_3.out PB); (case side8 => exact HC1_3.out); rintro e w211 ⟨rfl, hb⟩; refine ⟨_, rfl, ?_⟩; replace HO390 := ak (Kd.R_below (Re1 HO390 BK397) hb); replace HO393 := ak (Kd.R_below (Re1 HO393 BK397) hb); replace HO396 := ak (Kd.R_below (Re1 HO396 BK397) hb); replace BK385 := kf BK385 hb; replace BK386 := kf BK386 hb; replace BK397 := kp (cs' := #[.int .i64 t387, .slice Ao207 t388.length co207, .slice Ao208 t391.length co208, .slice Ao209 t394.length co209]) BK397 hb; replace HB := bs HB hb; (try clear hb); (try clear hb2); (try clear hk); (try clear hi); obtain ⟨_, _, _, _, _, _, _, _⟩ := bc4 BK385; have p399 : 0 ≤ (a1_0 : Int) := of_decide_eq_true (by first | (with_reducible assumption) | assumption); have q399 : a1_0 < (l0.length : Int) := of_decide_eq_true (by first | (with_reducible assumption) | assumption); obtain ⟨ad399, e399, hx399_0, hx399_1, hx399_2, hx399_3⟩ := at_T121 HR0.out a1_0 p399 q399; cases e399; replace hx399_0 := hx_ HB hx399_0; replace hx399_1 := hx_ HB hx399_1; replace hx399_2 := hx_ HB hx399_2; replace hx399_3 := hx_ HB hx399_3; replace p399 := eq_true p399; replace q399 := eq_true q399) | ((with_reducible refine gate_dst (N := 8) rfl ?_); refine bx_ (N := 8) #[.int .i64 0, .int .i64 0, .int .i64 0, .int .i64 0] 121 ?_; intro gb400 hg w213 hbox hb; replace HO390 := Rb HO390 hb; replace HO393 := Rb HO393 hb; replace HO396 := Rb HO396 hb; have BK400 := ak hbox; have GW400 := gy hg HB; have GE400 := gy hg HB; replace HB := bs HB hb; have NB385_400 := gm hg BK385; have NB400_385 := gn hg BK385; replace BK385 := kf BK385 hb; have NB386_400 := gm hg BK386; have NB400_386 := gn hg BK386; replace BK386 := kf BK386 hb; have NB397_400 := gm hg BK397; have NB400_397 := gn hg BK397; replace BK397 := kf BK397 hb; clear hb hbox hg; have hnb214 := NB400_385.out; have hnc214 := NB385_400.out; have hnb215 := NB400_386.out; have hnc215 := NB386_400.out; have hnb216 := NB400_397.out; have hnc216 := NB397_400.out; obtain ⟨_, _, _, _, _, _, _, _⟩ := bc4 BK400) | ((with_reducible refine gate_store (t := 121) (p := 8) rfl ?_); refine store_event (t := 121) (p := 8) (v := ?vo_w218) (w1 := ((((w213.setCell ⟨gb400, 0, none⟩ (.int .i64 ((rd_T121 l0 a1_0).f0))).setCell ⟨gb400, 1, none⟩ (.int .i64 ((rd_T121 l0 a1_0).f1))).setCell ⟨gb400, 2, none⟩ (.int .i64 ((rd_T121 l0 a1_0).f2))).setCell ⟨gb400, 3, none⟩ (.int .i64 ((rd_T121 l0 a1_0).f3)))) ?hg ?ho ?hn ?hr ?_; (case ho => rfl); (case hg => rfl); (case hn => rfl); (case hr => first | (go_simp; done) | (go_simp; rfl)); intro w218 hw; replace HO390 : Aside0 (Kd.R (Kd.int .i64) 3 w218 w.heap.size (fun k_ => some k_ ≠ (.slice Ao208 t391.length co208 : Value).ownBlock ∧ some k_ ≠ (.slice Ao209 t394.length co209 : Value).ownBlock) (.slice Ao207 t388.length co207) t388) := ⟨(by rw [hw]; exact (Re1 HO390 BK400))⟩; replace HO393 : Aside0 (Kd.R (Kd.int .i64) 3 w218 w.heap.size (fun k_ => some k_ ≠ (.slice Ao207 t388.length co207 : Value).ownBlock ∧ some k_ ≠ (.slice Ao209 t394.length co209 : Value).ownBlock) (.slice Ao208 t391.length co208) t391) := ⟨(by rw [hw]; exact (Re1 HO393 BK400))⟩; replace HO396 : Aside0 (Kd.R (Kd.int .i64) 3 w218 w.heap.size (fun k_ => some k_ ≠ (.slice Ao207 t388.length co207 : Value).ownBlock ∧ some k_ ≠ (.slice Ao208 t391.length co208 : Value).ownBlock) (.slice Ao209 t394.length co209) t394) := ⟨(by rw [hw]; exact (Re1 HO396 BK400))⟩; replace BK385 : Aside0 (w218.heap[gb385]? = some (.cells #[.int .i64 a1_0, .slice A1_1 l1_1.length c1_1, .slice A1_2 l1_2.length c1_2, .slice A1_3 l1_3.length c1_3] 45 (0, 0))) := ⟨(by rw [hw]; exact (PF BK385))⟩; replace BK386 : Aside0 (w218.heap[gb386]? = some (.cells #[.int .i64 0, .slice none 0 0, .slice none 0 0, .slice none 0 0] 45 (0, 0))) := ⟨(by rw [hw]; exact (PF BK386))⟩; replace BK397 : Aside0 (w218.heap[gb397]? = some (.cells #[.int .i64 t387, .slice Ao207 t388.length co207, .slice Ao208 t391.length co208, .slice Ao209 t394.length co209] 45 (0, 0))) := ⟨(by rw [hw]; exact (PF BK397))⟩; replace BK400 : Aside0 (w218.heap[gb400]? = some (.cells #[.int .i64 ((rd_T121 l0 a1_0).f0), .int .i64 ((rd_T121 l0 a1_0).f1), .int .i64 ((rd_T121 l0 a1_0).f2), .int .i64 ((rd_T121 l0 a1_0).f3)] 121 (0, 0))) := ⟨(by rw [hw]; exact (PX BK400))⟩; replace HB : Aside0 (Below w.heap.size w w218) := ⟨(by rw [hw]; exact PB)⟩; clear hw; obtain ⟨_, _, _, _, _, _, _, _⟩ := bc4 BK397) | ((with_reducible refine gate_store (t := 3) (p := 24) rfl ?_); refine store_event (t := 3) (p := 24) (v := ?vo_w220) (w1 := (w218.setCell ⟨gb397, 0, none⟩ (.int .i64 (wrap64 (t387 + 1))))) ?hg ?ho ?hn ?hr ?_; (case ho => rfl); (case hg => rfl); (case hn => rfl); (case hr => first | (go_simp; done) | (go_simp; rfl)); intro w220 hw; replace HO390 : Aside0 (Kd.R (Kd.int .i64) 3 w220 w.heap.size (fun k_ => some k_ ≠ (.slice Ao208 t391.length co208 : Value).ownBlock ∧ some k_ ≠ (.slice Ao209 t394.length co209 : Value).ownBlock) (.slice Ao207 t388.length co207) t388) := ⟨(by rw [hw]; exact (Re1 HO390 BK397))⟩; replace HO393 : Aside0 (Kd.R (Kd.int .i64) 3 w220 w.heap.size (fun k_ => some k_ ≠ (.slice Ao207 t388.length co207 : Value).ownBlock ∧ some k_ ≠ (.slice Ao209 t394.length co209 : Value).ownBlock) (.slice Ao208 t391.length co208) t391) := ⟨(by rw [hw]; exact (Re1 HO393 BK397))⟩; replace HO396 : Aside0 (Kd.R (Kd.int .i64) 3 w220 w.heap.size (fun k_ => some k_ ≠ (.slice Ao207 t388.length co207 : Value).ownBlock ∧ some k_ ≠ (.slice Ao208 t391.length co208 : Value).ownBlock) (.slice Ao209 t394.length co209) t394) := ⟨(by rw [hw]; exact (Re1 HO396 BK397))⟩; replace BK385 : Aside0 (w220.heap[gb385]? = some (.cells #[.int .i64 a1_0, .slice A1_1 l1_1.length c1_1, .slice A1_2 l1_2.length c1_2, .slice A1_3 l1_3.length c1_3] 45 (0, 0))) := ⟨(by rw [hw]; exact (PF BK385))⟩; replace BK386 : Aside0 (w220.heap[gb386]? = some (.cells #[.int .i64 0, .slice none 0 0, .slice none 0 0, .slice none 0 0] 45 (0, 0))) := ⟨(by rw [hw]; exact (PF BK386))⟩; replace BK397 : Aside0 (w220.heap[gb397]? = some (.cells #[.int .i64 (wrap64 (t387 + 1)), .slice Ao207 t388.length co207, .slice Ao208 t391.length co208, .slice Ao209 t394.length co209] 45 (0, 0))) := ⟨(by rw [hw]; exact (PX BK397))⟩; replace BK400 : Aside0 (w220.heap[gb400]? = some (.cells #[.int .i64 ((rd_T121 l0 a1_0).f0), .int .i64 ((rd_T121 l0 a1_0).f1), .int .i64 ((rd_T121 l0 a1_0).f2), .int .i64 ((rd_T121 l0 a1_0).f3)] 121 (0, 0))) := ⟨(by rw [hw]; exact (PF BK400))⟩; replace HB : Aside0 (Below w.heap.size w w220) := ⟨(by rw [hw]; exact PB)⟩; clear hw; obtain ⟨_, _, _, _, _, _, _, _⟩ := bc4 BK400; obtain ⟨_, _, _, _, _, _, _, _⟩ := bc4 BK397; have p197 : 0 ≤ (((rd_T121 l0 a1_0).f1) : Int) := of_decide_eq_true (by first | (with_reducible assumption) | assumption); have q197 : (((rd_T121 l0 a1_0).f1) : Int) < ((t388.length : Int) : Int) := of_decide_eq_true (by first | (with_reducible assumption) | assumption); obtain ⟨go197, co197, eo197, gb197, gl197, cl197, HG197⟩ := Kd.R_form HO390.out (by omega); (first | cases eo197 | (injection eo197 with ea_ en_ ec_; (first | subst ea_ | (injection ea_ with ea_; subst ea_)); subst ec_; clear en_)); have GB197 := Aside0.mk gb197; have GG197 := Aside0.mk HG197; clear gb197 gl197 HG197; obtain ⟨hx197_0, hf197_0⟩ := Kd.R_celln 0 HO390.out (((rd_T121 l0 a1_0).f1) : Int) p197 q197; replace p197 := eq_true p197; replace q197 := eq_true q197; obtain ⟨hy223_, hz223_⟩ := Kd.R_celln 0 HO390.out (((rd_T121 l0 a1_0).f1) : Int) (of_decide_eq_true (by first | (with_reducible assumption) | assumption)) (of_decide_eq_true (by first | (with_reducible assumption) | assumption)); have HP223 := Kd.R_putg HO390.out (((rd_T121 l0 a1_0).f1) : Int) ji194) | ((with_reducible refine gate_store (t := 3) (p := 34) rfl ?_); refine store_event (t := 3) (p := 34) (v := ?vo_w224) (w1 := (w220.setCell ⟨go197, (((rd_T121 l0 a1_0).f1) : Int).toNat, none⟩ (.int .i64 ji194))) ?hg ?ho ?hn ?hr ?_; (case ho => rfl); (case hg => rfl); (case hn => rfl); (case hr => first | (go_simp; done) | (go_simp; rfl)); intro w224 hw; have hg : w220.grownBy w224 (some go197) := (by rw [hw]; exact HP223.2); have hp_ : Kd.R (Kd.int .i64) 3 w224 w.heap.size (fun k_ => some k_ ≠ (.slice Ao208 t391.length co208 : Value).ownBlock ∧ some k_ ≠ (.slice Ao209 t394.length co209 : Value).ownBlock) (.slice (some ⟨go197, 0, none⟩) t388.length co207) y411 := (by rw [hw, Ny411.out]; exact HP223.1); clear HP223; replace BK385 := ak (blk_grown (g := gb385) (o := .cells #[.int .i64 a1_0, .slice A1_1 l1_1.length c1_1, .slice A1_2 l1_2.length c1_2, .slice A1_3 l1_3.length c1_3] 45 (0, 0)) (PK BK385) hg (Kd.R_ne HO390.out BK385.out (by decide))); replace BK386 := ak (blk_grown (g := gb386) (o := .cells #[.int .i64 0, .slice none 0 0, .slice none 0 0, .slice none 0 0] 45 (0, 0)) (PK BK386) hg (Kd.R_ne HO390.out BK386.out (by decide))); replace HO393 := ak (Kd.R_after (v := (.slice (some ⟨go197, 0, none⟩) t388.length co207)) (v1 := (.slice (some ⟨go197, 0, none⟩) t388.length co207)) (ok := (fun k_ => some k_ ≠ (.slice Ao209 t394.length co209 : Value).ownBlock)) (RX HO393.out (fun _ hk => by first | exact ⟨hk.2, hk.1⟩ | simp_all)) hg (.inl rfl)); replace HO396 := ak (Kd.R_after (v := (.slice (some ⟨go197, 0, none⟩) t388.length co207)) (v1 := (.slice (some ⟨go197, 0, none⟩) t388.length co207)) (ok := (fun k_ => some k_ ≠ (.slice Ao208 t391.length co208 : Value).ownBlock)) (RX HO396.out (fun _ hk => by first | exact ⟨hk.2, hk.1⟩ | simp_all)) hg (.inl rfl)); replace BK397 := ak (blk_grown (g := gb397) (o := .cells #[.int .i64 (wrap64 (t387 + 1)), .slice (some ⟨go197, 0, none⟩) t388.length co207, .slice Ao208 t391.length co208, .slice Ao209 t394.length co209] 45 (0, 0)) (PK BK397) hg (Kd.R_ne HO390.out BK397.out (by decide))); replace BK400 := ak (blk_grown (g := gb400) (o := .cells #[.int .i64 ((rd_T121 l0 a1_0).f0), .int .i64 ((rd_T121 l0 a1_0).f1), .int .i64 ((rd_T121 l0 a1_0).f2), .int .i64 ((rd_T121 l0 a1_0).f3)] 121 (0, 0)) (PK BK400) hg (Kd.R_ne HO390.out BK400.out (by decide))); replace HO390 := ak (hp_); replace HB := ak ((by rw [hw]; exact below_set (HB.out) GB197.out : Below w.heap.size w w224)); clear hg hw hp_; obtain ⟨_, _, _, _, _, _, _, _⟩ := bc4 BK397; obtain ⟨_, _, _, _, _, _, _, _⟩ := bc4 BK386))
           refine bodyPost_ret (results_cell_row rfl _ _ gb386 45 #[.int .i64 (wrap64 (t387 + 1)), .slice (some ⟨go197, 0, none⟩) t388.length co207, .slice Ao208 t391.length co208, .slice Ao209 t394.length co209] (0, 0) _ rfl (PX BK386) Try.underlying45 rfl KR) rfl ?_
           exact ⟨_, _, _, by first | rfl | (simp [errW_none, errW_some] <;> rfl) | (simp only [← hji193, ← hji194]; first | rfl | (simp [errW_none, errW_some] <;> rfl)) | (simp [*, errW_none, errW_some] <;> rfl), Re1 HO390 BK386, RX (Rt HO393.out BK386) (fun _ hk => by first | exact ⟨hk.1.2, hk.1.1⟩ | simp_all), RX (Rt HO396.out BK386) (fun _ hk => by first | exact ⟨hk.1.2, hk.1.1⟩ | simp_all), PB⟩
          ·rw [if_neg c196] at H
           exact absurd H (by simp)
         ·rw [if_neg c195] at H
          exact absurd H (by simp)
   ·rw [if_neg c8] at H
    exact absurd H (by simp)
  ·rw [if_neg c7] at H
   exact absurd H (by simp)
 ·replace c6 := Bool.eq_false_iff.mpr c6
  subst c6
  have H1 : (some (t387, t388, t391, t394)) = some (r1, r2, r3, r4) := by rw [if_neg (show ¬ (false = true) by decide)] at H; exact H
  clear H
  have H := H1
  clear H1
  simp only [Option.some.injEq, Prod.mk.injEq] at H
  obtain ⟨rfl, rfl, rfl, rfl⟩ := H
  go_enter Try.func20, Try.ntmps20
  go_wp2_with (first | ((with_reducible refine gate_dst (N := 4) rfl ?_); refine bx_ (N := 4) #[.int .i64 a1_0, .slice A1_1 l1_1.length c1_1, .slice A1_2 l1_2.length c1_2, .slice A1_3 l1_3.length c1_3] 45 ?_; intro gb385 hg w227 hbox hb; have BK385 := ak hbox; have GW385 := gy hg HB; have GE385 := gy hg HB; replace HB := bs HB hb; clear hb hbox hg) | ((with_reducible refine gate_dst (N := 6) rfl ?_); refine bx_ (N := 6) #[.int .i64 0, .slice none 0 0, .slice none 0 0, .slice none 0 0] 45 ?_; intro gb386 hg w228 hbox hb; have BK386 := ak hbox; have GW386 := gy hg HB; have GE386 := gy hg HB; replace HB := bs HB hb; have NB385_386 := gm hg BK385; have NB386_385 := gn hg BK385; replace BK385 := kf BK385 hb; clear hb hbox hg; have hnb229 := NB385_386.out; have hnc229 := NB386_385.out; obtain ⟨_, _, _, _, _, _, _, _⟩ := bc4 BK385) | ((with_reducible refine gate_callee (f := 77) rfl ?_); refine goesL_ (some 10) rfl rfl Try.func77 KR rfl #[.agg #[.int .i64 a1_0, .slice A1_1 l1_1.length c1_1, .slice A1_2 l1_2.length c1_2, .slice A1_3 l1_3.length c1_3]] rfl AR ?_; (with_reducible refine (impl_copyState.calls a1_0 _ _ l1_1 _ _ l1_2 _ _ l1_3 t387 t388 t391 t394 _ ?side1 ?side2 ?side3 ?side4 ?side5 ?side6 A4.out).mono ?_); (case side1 => exact CR (Kd.C_below HR1_1.out HB.out)); (case side2 => exact HC1_1.out); (case side3 => exact CR (Kd.C_below HR1_2.out HB.out)); (case side4 => exact HC1_2.out); (case side5 => exact CR (Kd.C_below HR1_3.out HB.out)); (case side6 => exact HC1_3.out); rintro e w231 ⟨v389, v392, v395, rfl, ho0, ho1, ho2, hb⟩; refine ⟨_, rfl, ?_⟩; have HO390 := Rn0 ho0 HB; have HO393 := Rn0 ho1 HB; have HO396 := Rn0 ho2 HB; replace BK385 := kf BK385 hb; replace BK386 := kf BK386 hb; replace HB := bs HB hb; (try clear hb); (try clear hb2); (try clear hk); (try clear hi); (try clear ho0); (try clear ho1); (try clear ho2)) | ((with_reducible refine gate_dst (N := 7) rfl ?_); refine bx_ (N := 7) #[.int .i64 0, .slice none 0 0, .slice none 0 0, .slice none 0 0] 45 ?_; intro gb397 hg w232 hbox hb; replace HO390 := Rb HO390 hb; replace HO393 := Rb HO393 hb; replace HO396 := Rb HO396 hb; have BK397 := ak hbox; have GW397 := gy hg HB; have GE397 := gy hg HB; replace HB := bs HB hb; have NB385_397 := gm hg BK385; have NB397_385 := gn hg BK385; replace BK385 := kf BK385 hb; have NB386_397 := gm hg BK386; have NB397_386 := gn hg BK386; replace BK386 := kf BK386 hb; clear hb hbox hg; have hnb233 := NB397_385.out; have hnc233 := NB385_397.out; have hnb234 := NB397_386.out; have hnc234 := NB386_397.out; obtain ⟨_, _, _, _, _, _, _, _⟩ := bc4 BK397; obtain ⟨Ao236, co236, eo236⟩ := Kd.R_slice HO390.out; subst eo236; obtain ⟨Ao237, co237, eo237⟩ := Kd.R_slice HO393.out; subst eo237; obtain ⟨Ao238, co238, eo238⟩ := Kd.R_slice HO396.out; subst eo238; obtain ⟨_, _, _, _, _, _, _, _⟩ := bc4 BK385) | ((with_reducible refine gate_callee (f := 78) rfl ?_); refine goesL_ (some 13) rfl rfl Try.func78 KR rfl #[.slice A0 l0.length c0, .agg #[.int .i64 a1_0, .slice A1_1 l1_1.length c1_1, .slice A1_2 l1_2.length c1_2, .slice A1_3 l1_3.length c1_3]] rfl AR ?_; (with_reducible refine (impl_canStep.calls k _ _ l0 a1_0 _ _ l1_1 _ _ l1_2 _ _ l1_3 false _ ?side1 ?side2 ?side3 ?side4 ?side5 ?side6 ?side7 ?side8 A5.out).mono ?_); (case side1 => exact Kd.C_below HR0.out PB); (case side2 => exact HC0.out); (case side3 => exact Kd.C_below HR1_1.out PB); (case side4 => exact HC1_1.out); (case side5 => exact Kd.C_below HR1_2.out PB); (case side6 => exact HC1_2.out); (case side7 => exact Kd.C_below HR1_3.out PB); (case side8 => exact HC1_3.out); rintro e w240 ⟨rfl, hb⟩; refine ⟨_, rfl, ?_⟩; replace HO390 := ak (Kd.R_below (Re1 HO390 BK397) hb); replace HO393 := ak (Kd.R_below (Re1 HO393 BK397) hb); replace HO396 := ak (Kd.R_below (Re1 HO396 BK397) hb); replace BK385 := kf BK385 hb; replace BK386 := kf BK386 hb; replace BK397 := kp (cs' := #[.int .i64 t387, .slice Ao236 t388.length co236, .slice Ao237 t391.length co237, .slice Ao238 t394.length co238]) BK397 hb; replace HB := bs HB hb; (try clear hb); (try clear hb2); (try clear hk); (try clear hi); obtain ⟨_, _, _, _, _, _, _, _⟩ := bc4 BK397; obtain ⟨_, _, _, _, _, _, _, _⟩ := bc4 BK386))
  refine bodyPost_ret (results_cell_row rfl _ _ gb386 45 #[.int .i64 t387, .slice Ao236 t388.length co236, .slice Ao237 t391.length co237, .slice Ao238 t394.length co238] (0, 0) _ rfl (PX BK386) Try.underlying45 rfl KR) rfl ?_
  exact ⟨_, _, _, RT, Re1 HO390 BK386, Re1 HO393 BK386, Re1 HO396 BK386, PB⟩

end Go.Proofs.Ytgcamebeonodeaa.MFnMachine
