-- Written by a program of this session out of the translation's own print. Not trusted: Lean checks it.
import Derived.Test.YtgcamebeonodeaaShr2
import Derived.Test.YtgcamebeonodeaaMFnExactStepStatex0
import Derived.Test.YtgcamebeonodeaaMFnExactStepStatex5
import Derived.Test.YtgcamebeonodeaaMFnExactStepStatex7
namespace Go.Proofs.Ytgcamebeonodeaa.MFnExactStepState
open Go.RowKit Go.Proofs.YtgcamebeonodeaaW.PrintWords Go.Proofs.YtgcamebeonodeaaW.PrintLast Go.Proofs.YtgcamebeonodeaaW.PrintMore
attribute [local go_sem] max2_int min2_int max_two min_two max_three min_three max_four min_four   -- for this text's walks alone
set_option linter.unusedVariables false
set_option linter.unusedSimpArgs false

abbrev b8_10 : Array Bool := mkB 12 4095
abbrev b8_11 : Array Bool := mkB 12 2047
abbrev b8_12 : Array Bool := mkB 12 1023
abbrev b8_13 : Array Bool := mkB 12 511
abbrev b8_14 : Array Bool := mkB 12 255
abbrev b8_15 : Array Bool := mkB 12 127
abbrev b8_16 : Array Bool := mkB 12 95
abbrev b8_17 : Array Bool := mkB 12 87
abbrev b8_18 : Array Bool := mkB 12 85
abbrev b8_19 : Array Bool := mkB 12 21
abbrev b8_20 : Array Bool := mkB 12 5
abbrev b8_21 : Array Bool := mkB 12 1
abbrev b8_22 : Array Bool := #[false, false, false, false, false, false, false, false, false, false, false, false]
/-! ### spec_StepState: function 39 -/
def spec_StepState.f (k : Nat) (l0 : List (S121)) (a1_0 : Int) (l1_1 : List Int) (l1_2 : List Int) (l1_3 : List Int) (a2 : Int) : Option (Int × List Int × List Int × List Int) := (spec_l11Copy.f a1_0 l1_1 l1_2 l1_3).bind fun bt219 => ((spec_l11Can.f k l0 a1_0 l1_1 l1_2 l1_3).bind fun t230 => (if t230 = true then (if 0 ≤ a1_0 then (if a1_0 < (l0.length : Int) then (if ((rd_T121 l0 a1_0).f0) = 5 then (if 0 ≤ ((rd_T121 l0 a1_0).f2) then (if ((rd_T121 l0 a1_0).f2) < (l1_1.length : Int) then (if 0 ≤ ((rd_T121 l0 a1_0).f3) then (if ((rd_T121 l0 a1_0).f3) < (l1_1.length : Int) then (if 0 ≤ ((rd_T121 l0 a1_0).f1) then (if ((rd_T121 l0 a1_0).f1) < (bt219.2.1.length : Int) then (some (wrap64 (a1_0 + 1), (bt219.2.1.set (((rd_T121 l0 a1_0).f1) : Int).toNat (Int.tmod (wrap64 ((rd l1_1 ((rd_T121 l0 a1_0).f2)) + (rd l1_1 ((rd_T121 l0 a1_0).f3)))) 1000)), bt219.2.2.1, bt219.2.2.2)) else (none)) else (none)) else (none)) else (none)) else (none)) else (none)) else (if ((rd_T121 l0 a1_0).f0) = 6 then (if 0 ≤ ((rd_T121 l0 a1_0).f1) then (if ((rd_T121 l0 a1_0).f1) < (l1_1.length : Int) then (if 0 ≤ ((rd_T121 l0 a1_0).f2) then (if ((rd_T121 l0 a1_0).f2) < (bt219.2.2.2.length : Int) then (some (wrap64 (a1_0 + 1), bt219.2.1, bt219.2.2.1, (bt219.2.2.2.set (((rd_T121 l0 a1_0).f2) : Int).toNat (rd l1_1 ((rd_T121 l0 a1_0).f1))))) else (none)) else (none)) else (none)) else (none)) else (if ((rd_T121 l0 a1_0).f0) = 7 then (if 0 ≤ ((rd_T121 l0 a1_0).f1) then (if ((rd_T121 l0 a1_0).f1) < (l1_1.length : Int) then (if (Int.tmod (rd l1_1 ((rd_T121 l0 a1_0).f1)) 2) = 0 then (some (wrap64 ((wrap64 (a1_0 + 1)) + ((rd_T121 l0 a1_0).f2)), bt219.2.1, bt219.2.2.1, bt219.2.2.2)) else (some (wrap64 (a1_0 + 1), bt219.2.1, bt219.2.2.1, bt219.2.2.2))) else (none)) else (none)) else (if ((rd_T121 l0 a1_0).f0) = 8 then (if 0 ≤ ((rd_T121 l0 a1_0).f2) then (if ((rd_T121 l0 a1_0).f2) < (l1_2.length : Int) then (if 0 ≤ ((rd_T121 l0 a1_0).f1) then (if ((rd_T121 l0 a1_0).f1) < (bt219.2.1.length : Int) then (some (wrap64 (a1_0 + 1), (bt219.2.1.set (((rd_T121 l0 a1_0).f1) : Int).toNat (rd l1_2 ((rd_T121 l0 a1_0).f2))), bt219.2.2.1, bt219.2.2.2)) else (none)) else (none)) else (none)) else (none)) else (if ((rd_T121 l0 a1_0).f0) = 9 then (if 0 ≤ ((rd_T121 l0 a1_0).f1) then (if ((rd_T121 l0 a1_0).f1) < (l1_1.length : Int) then (if 0 ≤ ((rd_T121 l0 a1_0).f2) then (if ((rd_T121 l0 a1_0).f2) < (bt219.2.2.1.length : Int) then (some (wrap64 (a1_0 + 1), bt219.2.1, (bt219.2.2.1.set (((rd_T121 l0 a1_0).f2) : Int).toNat (rd l1_1 ((rd_T121 l0 a1_0).f1))), bt219.2.2.2)) else (none)) else (none)) else (none)) else (none)) else ((spec_Min.f 999 a2).bind fun t243 => ((spec_Max.f 0 t243).bind fun t244 => (if 0 ≤ ((rd_T121 l0 a1_0).f1) then (if ((rd_T121 l0 a1_0).f1) < (bt219.2.1.length : Int) then (some (wrap64 (a1_0 + 1), (bt219.2.1.set (((rd_T121 l0 a1_0).f1) : Int).toNat t244), bt219.2.2.1, bt219.2.2.2)) else (none)) else (none))))))))) else (none)) else (none)) else (some (bt219.1, bt219.2.1, bt219.2.2.1, bt219.2.2.2))))
def spec_StepState.T7 : Bool × List (List Nat × List Nat) := (true, [([], []), ([0], [0]), ([], []), ([2], [2]), ([], []), ([4], [4]), ([5, 5], [5]), ([1, 3, 0, 1, 2, 3, 4, 5, 6], [1, 3]), ([7, 6, 6, 0, 1, 2, 3, 4, 5, 6], [6, 7])])
def spec_StepState.B7 : List Nat := [0, 1, 0, 4, 0, 16, 48, 127, 255]
theorem spec_StepState.tab7 : rtab .any (opsOf Try.f39 7) = spec_StepState.T7 := by kernel_rfl
theorem spec_StepState.bits7 : waitsOk spec_StepState.T7.2 spec_StepState.B7 = true := by kernel_rfl
def spec_StepState.T9 : Bool × List (List Nat × List Nat) := (true, [([], []), ([0], [0]), ([], []), ([2], [2]), ([], []), ([4], [4]), ([], []), ([6], [6]), ([5, 7], [5, 7]), ([8], [8]), ([], []), ([10], [10]), ([], []), ([12], [12]), ([11, 13], [11, 13]), ([14], [14]), ([9, 15], [9, 15]), ([16], [16]), ([1, 3, 0, 1, 2, 3, 4, 5, 6, 7, 8, 9, 10, 11, 12, 13, 14, 15, 16, 17], [1, 3]), ([18, 17, 0, 1, 2, 3, 4, 5, 6, 7, 8, 9, 10, 11, 12, 13, 14, 15, 16, 17], [17, 18])])
def spec_StepState.B9 : List Nat := [0, 1, 0, 4, 0, 16, 0, 64, 240, 496, 0, 1024, 0, 4096, 15360, 31744, 65520, 131056, 262143, 524287]
theorem spec_StepState.tab9 : rtab .any (opsOf Try.f39 9) = spec_StepState.T9 := by kernel_rfl
theorem spec_StepState.bits9 : waitsOk spec_StepState.T9.2 spec_StepState.B9 = true := by kernel_rfl
def spec_StepState.T11 : Bool × List (List Nat × List Nat) := (true, [([], []), ([0], [0]), ([], []), ([2], [2]), ([], []), ([4], [4]), ([], []), ([6], [6]), ([5, 7], [5, 7]), ([8], [8]), ([1, 3, 0, 1, 2, 3, 4, 5, 6, 7, 8, 9], [1, 3]), ([10, 9, 0, 1, 2, 3, 4, 5, 6, 7, 8, 9], [9, 10])])
def spec_StepState.B11 : List Nat := [0, 1, 0, 4, 0, 16, 0, 64, 240, 496, 1023, 2047]
theorem spec_StepState.tab11 : rtab .any (opsOf Try.f39 11) = spec_StepState.T11 := by kernel_rfl
theorem spec_StepState.bits11 : waitsOk spec_StepState.T11.2 spec_StepState.B11 = true := by kernel_rfl
def spec_StepState.T16 : Bool × List (List Nat × List Nat) := (true, [([], []), ([0], [0]), ([], []), ([2], [2]), ([], []), ([4], [4]), ([], []), ([6], [6]), ([5, 7], [5, 7]), ([8], [8]), ([1, 3, 0, 1, 2, 3, 4, 5, 6, 7, 8, 9], [1, 3]), ([10, 9, 0, 1, 2, 3, 4, 5, 6, 7, 8, 9], [9, 10])])
def spec_StepState.B16 : List Nat := [0, 1, 0, 4, 0, 16, 0, 64, 240, 496, 1023, 2047]
theorem spec_StepState.tab16 : rtab .any (opsOf Try.f39 16) = spec_StepState.T16 := by kernel_rfl
theorem spec_StepState.bits16 : waitsOk spec_StepState.T16.2 spec_StepState.B16 = true := by kernel_rfl
def spec_StepState.T18 : Bool × List (List Nat × List Nat) := (true, [([], []), ([0], [0]), ([], []), ([2], [2]), ([], []), ([4], [4]), ([], []), ([6], [6]), ([5, 7], [5, 7]), ([8], [8]), ([1, 3, 0, 1, 2, 3, 4, 5, 6, 7, 8, 9], [1, 3]), ([10, 9, 0, 1, 2, 3, 4, 5, 6, 7, 8, 9], [9, 10])])
def spec_StepState.B18 : List Nat := [0, 1, 0, 4, 0, 16, 0, 64, 240, 496, 1023, 2047]
theorem spec_StepState.tab18 : rtab .any (opsOf Try.f39 18) = spec_StepState.T18 := by kernel_rfl
theorem spec_StepState.bits18 : waitsOk spec_StepState.T18.2 spec_StepState.B18 = true := by kernel_rfl
set_option maxHeartbeats 8000000 in
set_option maxRecDepth 100000 in
theorem spec_StepState.calls (k : Nat) (A0 : Option Addr) (c0 : Nat) (l0 : List (S121)) (a1_0 : Int) (A1_1 : Option Addr) (c1_1 : Nat) (l1_1 : List Int) (A1_2 : Option Addr) (c1_2 : Nat) (l1_2 : List Int) (A1_3 : Option Addr) (c1_3 : Nat) (l1_3 : List Int) (a2 : Int) (r1 : Int) (r2 : List Int) (r3 : List Int) (r4 : List Int) (w : World) (hr0 : Kd.C k121 w A0 l0.length l0) (hc0 : l0.length ≤ c0) (hr1_1 : Kd.C (Kd.int .i64) w A1_1 l1_1.length l1_1) (hc1_1 : l1_1.length ≤ c1_1) (hr1_2 : Kd.C (Kd.int .i64) w A1_2 l1_2.length l1_2) (hc1_2 : l1_2.length ≤ c1_2) (hr1_3 : Kd.C (Kd.int .i64) w A1_3 l1_3.length l1_3) (hc1_3 : l1_3.length ≤ c1_3) (h : spec_StepState.f k l0 a1_0 l1_1 l1_2 l1_3 a2 = some (r1, r2, r3, r4)) :
  Calls Try.prog 39 #[.slice A0 l0.length c0, .agg #[.int .i64 a1_0, .slice A1_1 l1_1.length c1_1, .slice A1_2 l1_2.length c1_2, .slice A1_3 l1_3.length c1_3], .int .i64 a2] w fun e w' => ∃ v1_ v2_ v3_ : Value, e = .returned (.agg #[.int .i64 r1, v1_, v2_, v3_]) ∧ Kd.R (Kd.int .i64) 3 w' w.heap.size (fun k_ => some k_ ≠ (v2_ : Value).ownBlock ∧ some k_ ≠ (v3_ : Value).ownBlock) v1_ r2 ∧ Kd.R (Kd.int .i64) 3 w' w.heap.size (fun k_ => some k_ ≠ (v1_ : Value).ownBlock ∧ some k_ ≠ (v3_ : Value).ownBlock) v2_ r3 ∧ Kd.R (Kd.int .i64) 3 w' w.heap.size (fun k_ => some k_ ≠ (v1_ : Value).ownBlock ∧ some k_ ≠ (v2_ : Value).ownBlock) v3_ r4 ∧ Below w.heap.size w w' := by
 have hu45 := Try.underlying45
 have hu121 := Try.underlying121
 have HR0 := Aside0.mk hr0
 have HC0 := Aside0.mk hc0
 clear hr0 hc0
 have HR1_1 := Aside0.mk hr1_1
 have HC1_1 := Aside0.mk hc1_1
 clear hr1_1 hc1_1
 have HR1_2 := Aside0.mk hr1_2
 have HC1_2 := Aside0.mk hc1_2
 clear hr1_2 hc1_2
 have HR1_3 := Aside0.mk hr1_3
 have HC1_3 := Aside0.mk hc1_3
 clear hr1_3 hc1_3
 have HB := ak (Below.refl w.heap.size w)
 have H : ((spec_l11Copy.f a1_0 l1_1 l1_2 l1_3).bind fun bt219 => ((spec_l11Can.f k l0 a1_0 l1_1 l1_2 l1_3).bind fun t230 => (if t230 = true then (if 0 ≤ a1_0 then (if a1_0 < (l0.length : Int) then (if ((rd_T121 l0 a1_0).f0) = 5 then (if 0 ≤ ((rd_T121 l0 a1_0).f2) then (if ((rd_T121 l0 a1_0).f2) < (l1_1.length : Int) then (if 0 ≤ ((rd_T121 l0 a1_0).f3) then (if ((rd_T121 l0 a1_0).f3) < (l1_1.length : Int) then (if 0 ≤ ((rd_T121 l0 a1_0).f1) then (if ((rd_T121 l0 a1_0).f1) < (bt219.2.1.length : Int) then (some (wrap64 (a1_0 + 1), (bt219.2.1.set (((rd_T121 l0 a1_0).f1) : Int).toNat (Int.tmod (wrap64 ((rd l1_1 ((rd_T121 l0 a1_0).f2)) + (rd l1_1 ((rd_T121 l0 a1_0).f3)))) 1000)), bt219.2.2.1, bt219.2.2.2)) else (none)) else (none)) else (none)) else (none)) else (none)) else (none)) else (if ((rd_T121 l0 a1_0).f0) = 6 then (if 0 ≤ ((rd_T121 l0 a1_0).f1) then (if ((rd_T121 l0 a1_0).f1) < (l1_1.length : Int) then (if 0 ≤ ((rd_T121 l0 a1_0).f2) then (if ((rd_T121 l0 a1_0).f2) < (bt219.2.2.2.length : Int) then (some (wrap64 (a1_0 + 1), bt219.2.1, bt219.2.2.1, (bt219.2.2.2.set (((rd_T121 l0 a1_0).f2) : Int).toNat (rd l1_1 ((rd_T121 l0 a1_0).f1))))) else (none)) else (none)) else (none)) else (none)) else (if ((rd_T121 l0 a1_0).f0) = 7 then (if 0 ≤ ((rd_T121 l0 a1_0).f1) then (if ((rd_T121 l0 a1_0).f1) < (l1_1.length : Int) then (if (Int.tmod (rd l1_1 ((rd_T121 l0 a1_0).f1)) 2) = 0 then (some (wrap64 ((wrap64 (a1_0 + 1)) + ((rd_T121 l0 a1_0).f2)), bt219.2.1, bt219.2.2.1, bt219.2.2.2)) else (some (wrap64 (a1_0 + 1), bt219.2.1, bt219.2.2.1, bt219.2.2.2))) else (none)) else (none)) else (if ((rd_T121 l0 a1_0).f0) = 8 then (if 0 ≤ ((rd_T121 l0 a1_0).f2) then (if ((rd_T121 l0 a1_0).f2) < (l1_2.length : Int) then (if 0 ≤ ((rd_T121 l0 a1_0).f1) then (if ((rd_T121 l0 a1_0).f1) < (bt219.2.1.length : Int) then (some (wrap64 (a1_0 + 1), (bt219.2.1.set (((rd_T121 l0 a1_0).f1) : Int).toNat (rd l1_2 ((rd_T121 l0 a1_0).f2))), bt219.2.2.1, bt219.2.2.2)) else (none)) else (none)) else (none)) else (none)) else (if ((rd_T121 l0 a1_0).f0) = 9 then (if 0 ≤ ((rd_T121 l0 a1_0).f1) then (if ((rd_T121 l0 a1_0).f1) < (l1_1.length : Int) then (if 0 ≤ ((rd_T121 l0 a1_0).f2) then (if ((rd_T121 l0 a1_0).f2) < (bt219.2.2.1.length : Int) then (some (wrap64 (a1_0 + 1), bt219.2.1, (bt219.2.2.1.set (((rd_T121 l0 a1_0).f2) : Int).toNat (rd l1_1 ((rd_T121 l0 a1_0).f1))), bt219.2.2.2)) else (none)) else (none)) else (none)) else (none)) else ((spec_Min.f 999 a2).bind fun t243 => ((spec_Max.f 0 t243).bind fun t244 => (if 0 ≤ ((rd_T121 l0 a1_0).f1) then (if ((rd_T121 l0 a1_0).f1) < (bt219.2.1.length : Int) then (some (wrap64 (a1_0 + 1), (bt219.2.1.set (((rd_T121 l0 a1_0).f1) : Int).toNat t244), bt219.2.2.1, bt219.2.2.2)) else (none)) else (none))))))))) else (none)) else (none)) else (some (bt219.1, bt219.2.1, bt219.2.2.1, bt219.2.2.2))))) = some (r1, r2, r3, r4) := h
 clear h
 replace H := Option.bind_eq_some_iff.mp H
 obtain ⟨⟨t219, t220, t223, t226⟩, A40, H⟩ := H
 replace H : ((spec_l11Can.f k l0 a1_0 l1_1 l1_2 l1_3).bind fun t230 => (if t230 = true then (if 0 ≤ a1_0 then (if a1_0 < (l0.length : Int) then (if ((rd_T121 l0 a1_0).f0) = 5 then (if 0 ≤ ((rd_T121 l0 a1_0).f2) then (if ((rd_T121 l0 a1_0).f2) < (l1_1.length : Int) then (if 0 ≤ ((rd_T121 l0 a1_0).f3) then (if ((rd_T121 l0 a1_0).f3) < (l1_1.length : Int) then (if 0 ≤ ((rd_T121 l0 a1_0).f1) then (if ((rd_T121 l0 a1_0).f1) < (t220.length : Int) then (some (wrap64 (a1_0 + 1), (t220.set (((rd_T121 l0 a1_0).f1) : Int).toNat (Int.tmod (wrap64 ((rd l1_1 ((rd_T121 l0 a1_0).f2)) + (rd l1_1 ((rd_T121 l0 a1_0).f3)))) 1000)), t223, t226)) else (none)) else (none)) else (none)) else (none)) else (none)) else (none)) else (if ((rd_T121 l0 a1_0).f0) = 6 then (if 0 ≤ ((rd_T121 l0 a1_0).f1) then (if ((rd_T121 l0 a1_0).f1) < (l1_1.length : Int) then (if 0 ≤ ((rd_T121 l0 a1_0).f2) then (if ((rd_T121 l0 a1_0).f2) < (t226.length : Int) then (some (wrap64 (a1_0 + 1), t220, t223, (t226.set (((rd_T121 l0 a1_0).f2) : Int).toNat (rd l1_1 ((rd_T121 l0 a1_0).f1))))) else (none)) else (none)) else (none)) else (none)) else (if ((rd_T121 l0 a1_0).f0) = 7 then (if 0 ≤ ((rd_T121 l0 a1_0).f1) then (if ((rd_T121 l0 a1_0).f1) < (l1_1.length : Int) then (if (Int.tmod (rd l1_1 ((rd_T121 l0 a1_0).f1)) 2) = 0 then (some (wrap64 ((wrap64 (a1_0 + 1)) + ((rd_T121 l0 a1_0).f2)), t220, t223, t226)) else (some (wrap64 (a1_0 + 1), t220, t223, t226))) else (none)) else (none)) else (if ((rd_T121 l0 a1_0).f0) = 8 then (if 0 ≤ ((rd_T121 l0 a1_0).f2) then (if ((rd_T121 l0 a1_0).f2) < (l1_2.length : Int) then (if 0 ≤ ((rd_T121 l0 a1_0).f1) then (if ((rd_T121 l0 a1_0).f1) < (t220.length : Int) then (some (wrap64 (a1_0 + 1), (t220.set (((rd_T121 l0 a1_0).f1) : Int).toNat (rd l1_2 ((rd_T121 l0 a1_0).f2))), t223, t226)) else (none)) else (none)) else (none)) else (none)) else (if ((rd_T121 l0 a1_0).f0) = 9 then (if 0 ≤ ((rd_T121 l0 a1_0).f1) then (if ((rd_T121 l0 a1_0).f1) < (l1_1.length : Int) then (if 0 ≤ ((rd_T121 l0 a1_0).f2) then (if ((rd_T121 l0 a1_0).f2) < (t223.length : Int) then (some (wrap64 (a1_0 + 1), t220, (t223.set (((rd_T121 l0 a1_0).f2) : Int).toNat (rd l1_1 ((rd_T121 l0 a1_0).f1))), t226)) else (none)) else (none)) else (none)) else (none)) else ((spec_Min.f 999 a2).bind fun t243 => ((spec_Max.f 0 t243).bind fun t244 => (if 0 ≤ ((rd_T121 l0 a1_0).f1) then (if ((rd_T121 l0 a1_0).f1) < (t220.length : Int) then (some (wrap64 (a1_0 + 1), (t220.set (((rd_T121 l0 a1_0).f1) : Int).toNat t244), t223, t226)) else (none)) else (none))))))))) else (none)) else (none)) else (some (t219, t220, t223, t226)))) = some (r1, r2, r3, r4) := H
 have A4 := Aside0.mk A40
 clear A40
 replace H := Option.bind_eq_some_iff.mp H
 obtain ⟨t230, A50, H⟩ := H
 replace H : (if t230 = true then (if 0 ≤ a1_0 then (if a1_0 < (l0.length : Int) then (if ((rd_T121 l0 a1_0).f0) = 5 then (if 0 ≤ ((rd_T121 l0 a1_0).f2) then (if ((rd_T121 l0 a1_0).f2) < (l1_1.length : Int) then (if 0 ≤ ((rd_T121 l0 a1_0).f3) then (if ((rd_T121 l0 a1_0).f3) < (l1_1.length : Int) then (if 0 ≤ ((rd_T121 l0 a1_0).f1) then (if ((rd_T121 l0 a1_0).f1) < (t220.length : Int) then (some (wrap64 (a1_0 + 1), (t220.set (((rd_T121 l0 a1_0).f1) : Int).toNat (Int.tmod (wrap64 ((rd l1_1 ((rd_T121 l0 a1_0).f2)) + (rd l1_1 ((rd_T121 l0 a1_0).f3)))) 1000)), t223, t226)) else (none)) else (none)) else (none)) else (none)) else (none)) else (none)) else (if ((rd_T121 l0 a1_0).f0) = 6 then (if 0 ≤ ((rd_T121 l0 a1_0).f1) then (if ((rd_T121 l0 a1_0).f1) < (l1_1.length : Int) then (if 0 ≤ ((rd_T121 l0 a1_0).f2) then (if ((rd_T121 l0 a1_0).f2) < (t226.length : Int) then (some (wrap64 (a1_0 + 1), t220, t223, (t226.set (((rd_T121 l0 a1_0).f2) : Int).toNat (rd l1_1 ((rd_T121 l0 a1_0).f1))))) else (none)) else (none)) else (none)) else (none)) else (if ((rd_T121 l0 a1_0).f0) = 7 then (if 0 ≤ ((rd_T121 l0 a1_0).f1) then (if ((rd_T121 l0 a1_0).f1) < (l1_1.length : Int) then (if (Int.tmod (rd l1_1 ((rd_T121 l0 a1_0).f1)) 2) = 0 then (some (wrap64 ((wrap64 (a1_0 + 1)) + ((rd_T121 l0 a1_0).f2)), t220, t223, t226)) else (some (wrap64 (a1_0 + 1), t220, t223, t226))) else (none)) else (none)) else (if ((rd_T121 l0 a1_0).f0) = 8 then (if 0 ≤ ((rd_T121 l0 a1_0).f2) then (if ((rd_T121 l0 a1_0).f2) < (l1_2.length : Int) then (if 0 ≤ ((rd_T121 l0 a1_0).f1) then (if ((rd_T121 l0 a1_0).f1) < (t220.length : Int) then (some (wrap64 (a1_0 + 1), (t220.set (((rd_T121 l0 a1_0).f1) : Int).toNat (rd l1_2 ((rd_T121 l0 a1_0).f2))), t223, t226)) else (none)) else (none)) else (none)) else (none)) else (if ((rd_T121 l0 a1_0).f0) = 9 then (if 0 ≤ ((rd_T121 l0 a1_0).f1) then (if ((rd_T121 l0 a1_0).f1) < (l1_1.length : Int) then (if 0 ≤ ((rd_T121 l0 a1_0).f2) then (if ((rd_T121 l0 a1_0).f2) < (t223.length : Int) then (some (wrap64 (a1_0 + 1), t220, (t223.set (((rd_T121 l0 a1_0).f2) : Int).toNat (rd l1_1 ((rd_T121 l0 a1_0).f1))), t226)) else (none)) else (none)) else (none)) else (none)) else ((spec_Min.f 999 a2).bind fun t243 => ((spec_Max.f 0 t243).bind fun t244 => (if 0 ≤ ((rd_T121 l0 a1_0).f1) then (if ((rd_T121 l0 a1_0).f1) < (t220.length : Int) then (some (wrap64 (a1_0 + 1), (t220.set (((rd_T121 l0 a1_0).f1) : Int).toNat t244), t223, t226)) else (none)) else (none))))))))) else (none)) else (none)) else (some (t219, t220, t223, t226))) = some (r1, r2, r3, r4) := H
 have A5 := Aside0.mk A50
 clear A50
 by_cases c6 : t230 = true
 ·subst c6
  have H1 : (if 0 ≤ a1_0 then (if a1_0 < (l0.length : Int) then (if ((rd_T121 l0 a1_0).f0) = 5 then (if 0 ≤ ((rd_T121 l0 a1_0).f2) then (if ((rd_T121 l0 a1_0).f2) < (l1_1.length : Int) then (if 0 ≤ ((rd_T121 l0 a1_0).f3) then (if ((rd_T121 l0 a1_0).f3) < (l1_1.length : Int) then (if 0 ≤ ((rd_T121 l0 a1_0).f1) then (if ((rd_T121 l0 a1_0).f1) < (t220.length : Int) then (some (wrap64 (a1_0 + 1), (t220.set (((rd_T121 l0 a1_0).f1) : Int).toNat (Int.tmod (wrap64 ((rd l1_1 ((rd_T121 l0 a1_0).f2)) + (rd l1_1 ((rd_T121 l0 a1_0).f3)))) 1000)), t223, t226)) else (none)) else (none)) else (none)) else (none)) else (none)) else (none)) else (if ((rd_T121 l0 a1_0).f0) = 6 then (if 0 ≤ ((rd_T121 l0 a1_0).f1) then (if ((rd_T121 l0 a1_0).f1) < (l1_1.length : Int) then (if 0 ≤ ((rd_T121 l0 a1_0).f2) then (if ((rd_T121 l0 a1_0).f2) < (t226.length : Int) then (some (wrap64 (a1_0 + 1), t220, t223, (t226.set (((rd_T121 l0 a1_0).f2) : Int).toNat (rd l1_1 ((rd_T121 l0 a1_0).f1))))) else (none)) else (none)) else (none)) else (none)) else (if ((rd_T121 l0 a1_0).f0) = 7 then (if 0 ≤ ((rd_T121 l0 a1_0).f1) then (if ((rd_T121 l0 a1_0).f1) < (l1_1.length : Int) then (if (Int.tmod (rd l1_1 ((rd_T121 l0 a1_0).f1)) 2) = 0 then (some (wrap64 ((wrap64 (a1_0 + 1)) + ((rd_T121 l0 a1_0).f2)), t220, t223, t226)) else (some (wrap64 (a1_0 + 1), t220, t223, t226))) else (none)) else (none)) else (if ((rd_T121 l0 a1_0).f0) = 8 then (if 0 ≤ ((rd_T121 l0 a1_0).f2) then (if ((rd_T121 l0 a1_0).f2) < (l1_2.length : Int) then (if 0 ≤ ((rd_T121 l0 a1_0).f1) then (if ((rd_T121 l0 a1_0).f1) < (t220.length : Int) then (some (wrap64 (a1_0 + 1), (t220.set (((rd_T121 l0 a1_0).f1) : Int).toNat (rd l1_2 ((rd_T121 l0 a1_0).f2))), t223, t226)) else (none)) else (none)) else (none)) else (none)) else (if ((rd_T121 l0 a1_0).f0) = 9 then (if 0 ≤ ((rd_T121 l0 a1_0).f1) then (if ((rd_T121 l0 a1_0).f1) < (l1_1.length : Int) then (if 0 ≤ ((rd_T121 l0 a1_0).f2) then (if ((rd_T121 l0 a1_0).f2) < (t223.length : Int) then (some (wrap64 (a1_0 + 1), t220, (t223.set (((rd_T121 l0 a1_0).f2) : Int).toNat (rd l1_1 ((rd_T121 l0 a1_0).f1))), t226)) else (none)) else (none)) else (none)) else (none)) else ((spec_Min.f 999 a2).bind fun t243 => ((spec_Max.f 0 t243).bind fun t244 => (if 0 ≤ ((rd_T121 l0 a1_0).f1) then (if ((rd_T121 l0 a1_0).f1) < (t220.length : Int) then (some (wrap64 (a1_0 + 1), (t220.set (((rd_T121 l0 a1_0).f1) : Int).toNat t244), t223, t226)) else (none)) else (none))))))))) else (none)) else (none)) = some (r1, r2, r3, r4) := by rw [if_pos rfl] at H; exact H
  clear H
  have H := H1
  clear H1
  by_cases c7 : 0 ≤ a1_0
  ·rw [if_pos c7] at H
   have c7b0 : decide (0 ≤ a1_0) = true := decide_eq_true c7
   clear c7
   by_cases c8 : a1_0 < (l0.length : Int)
   ·rw [if_pos c8] at H
    have c8b0 : decide (a1_0 < (l0.length : Int)) = true := decide_eq_true c8
    clear c8
    by_cases c9 : ((rd_T121 l0 a1_0).f0) = 5
    ·rw [if_pos c9] at H
     have c9b0 : (((rd_T121 l0 a1_0).f0) == 5) = true := beq_iff_eq.mpr c9
     have c9b1 : (((rd_T121 l0 a1_0).f0) != 5) = false := bne_eq_false_iff_eq.mpr c9
     clear c9
     by_cases c10 : 0 ≤ ((rd_T121 l0 a1_0).f2)
     ·rw [if_pos c10] at H
      have c10b0 : decide (0 ≤ ((rd_T121 l0 a1_0).f2)) = true := decide_eq_true c10
      clear c10
      by_cases c11 : ((rd_T121 l0 a1_0).f2) < (l1_1.length : Int)
      ·rw [if_pos c11] at H
       have c11b0 : decide (((rd_T121 l0 a1_0).f2) < (l1_1.length : Int)) = true := decide_eq_true c11
       clear c11
       by_cases c12 : 0 ≤ ((rd_T121 l0 a1_0).f3)
       ·rw [if_pos c12] at H
        have c12b0 : decide (0 ≤ ((rd_T121 l0 a1_0).f3)) = true := decide_eq_true c12
        clear c12
        by_cases c13 : ((rd_T121 l0 a1_0).f3) < (l1_1.length : Int)
        ·rw [if_pos c13] at H
         have c13b0 : decide (((rd_T121 l0 a1_0).f3) < (l1_1.length : Int)) = true := decide_eq_true c13
         clear c13
         by_cases c14 : 0 ≤ ((rd_T121 l0 a1_0).f1)
         ·rw [if_pos c14] at H
          have c14b0 : decide (0 ≤ ((rd_T121 l0 a1_0).f1)) = true := decide_eq_true c14
          clear c14
          by_cases c15 : ((rd_T121 l0 a1_0).f1) < (t220.length : Int)
          ·rw [if_pos c15] at H
           have c15b0 : decide (((rd_T121 l0 a1_0).f1) < (t220.length : Int)) = true := decide_eq_true c15
           clear c15
           obtain ⟨y235, hy235⟩ : ∃ y_ : List Int, y_ = (t220.set (((rd_T121 l0 a1_0).f1) : Int).toNat (Int.tmod (wrap64 ((rd l1_1 ((rd_T121 l0 a1_0).f2)) + (rd l1_1 ((rd_T121 l0 a1_0).f3)))) 1000)) := ⟨_, rfl⟩
           replace H : (some (wrap64 (a1_0 + 1), y235, t223, t226)) = some (r1, r2, r3, r4) := by first | (rw [hy235]; with_reducible exact H) | (have H2_ := (Option.bind_some _ _).symm.trans H; rw [hy235]; with_reducible exact H2_) | (have H2_ := (Option.bind_some _ _).symm.trans H; with_reducible exact H2_) | with_reducible exact H | (rw [hy235]; exact H) | exact H
           have Ny235 := Aside0.mk hy235
           clear hy235
           simp only [Option.some.injEq, Prod.mk.injEq] at H
           obtain ⟨rfl, rfl, rfl, rfl⟩ := H
           go_enter Try.func39, Try.ntmps39
           try go_wp2_with (first | ((with_reducible refine gate_dst (N := 4) rfl ?_); refine bx_ (N := 4) #[.int .i64 a1_0, .slice A1_1 l1_1.length c1_1, .slice A1_2 l1_2.length c1_2, .slice A1_3 l1_3.length c1_3] 45 ?_; intro gb217 hg w17 hbox hb; have BK217 := ak hbox; have GW217 := gy hg HB; have GE217 := gy hg HB; replace HB := bs HB hb; clear hb hbox hg) | ((with_reducible refine gate_dst (N := 6) rfl ?_); refine bx_ (N := 6) #[.int .i64 0, .slice none 0 0, .slice none 0 0, .slice none 0 0] 45 ?_; intro gb218 hg w18 hbox hb; have BK218 := ak hbox; have GW218 := gy hg HB; have GE218 := gy hg HB; replace HB := bs HB hb; have NB217_218 := gm hg BK217; have NB218_217 := gn hg BK217; replace BK217 := kf BK217 hb; clear hb hbox hg; have hnb19 := NB217_218.out; have hnc19 := NB218_217.out; obtain ⟨_, _, _, _, _, _, _, _⟩ := bc4 BK217) | ((with_reducible refine gate_callee (f := 97) rfl ?_); refine goesL_ (some 10) rfl rfl Try.func97 KR rfl #[.agg #[.int .i64 a1_0, .slice A1_1 l1_1.length c1_1, .slice A1_2 l1_2.length c1_2, .slice A1_3 l1_3.length c1_3]] rfl AR ?_; (with_reducible refine (spec_l11Copy.calls a1_0 _ _ l1_1 _ _ l1_2 _ _ l1_3 t219 t220 t223 t226 _ ?side1 ?side2 ?side3 ?side4 ?side5 ?side6 A4.out).mono ?_); (case side1 => exact CR (Kd.C_below HR1_1.out HB.out)); (case side2 => exact HC1_1.out); (case side3 => exact CR (Kd.C_below HR1_2.out HB.out)); (case side4 => exact HC1_2.out); (case side5 => exact CR (Kd.C_below HR1_3.out HB.out)); (case side6 => exact HC1_3.out); rintro e w21 ⟨v221, v224, v227, rfl, ho0, ho1, ho2, hb⟩; refine ⟨_, rfl, ?_⟩; have HO222 := Rn0 ho0 HB; have HO225 := Rn0 ho1 HB; have HO228 := Rn0 ho2 HB; replace BK217 := kf BK217 hb; replace BK218 := kf BK218 hb; replace HB := bs HB hb; (try clear hb); (try clear hb2); (try clear hk); (try clear hi); (try clear ho0); (try clear ho1); (try clear ho2)) | ((with_reducible refine gate_dst (N := 7) rfl ?_); refine bx_ (N := 7) #[.int .i64 0, .slice none 0 0, .slice none 0 0, .slice none 0 0] 45 ?_; intro gb229 hg w22 hbox hb; replace HO222 := Rb HO222 hb; replace HO225 := Rb HO225 hb; replace HO228 := Rb HO228 hb; have BK229 := ak hbox; have GW229 := gy hg HB; have GE229 := gy hg HB; replace HB := bs HB hb; have NB217_229 := gm hg BK217; have NB229_217 := gn hg BK217; replace BK217 := kf BK217 hb; have NB218_229 := gm hg BK218; have NB229_218 := gn hg BK218; replace BK218 := kf BK218 hb; clear hb hbox hg; have hnb23 := NB229_217.out; have hnc23 := NB217_229.out; have hnb24 := NB229_218.out; have hnc24 := NB218_229.out; obtain ⟨_, _, _, _, _, _, _, _⟩ := bc4 BK229; obtain ⟨Ao26, co26, eo26⟩ := Kd.R_slice HO222.out; subst eo26; obtain ⟨Ao27, co27, eo27⟩ := Kd.R_slice HO225.out; subst eo27; obtain ⟨Ao28, co28, eo28⟩ := Kd.R_slice HO228.out; subst eo28; obtain ⟨_, _, _, _, _, _, _, _⟩ := bc4 BK217) | ((with_reducible refine gate_callee (f := 98) rfl ?_); refine goesL_ (some 13) rfl rfl Try.func98 KR rfl #[.slice A0 l0.length c0, .agg #[.int .i64 a1_0, .slice A1_1 l1_1.length c1_1, .slice A1_2 l1_2.length c1_2, .slice A1_3 l1_3.length c1_3]] rfl AR ?_; (with_reducible refine (spec_l11Can.calls k _ _ l0 a1_0 _ _ l1_1 _ _ l1_2 _ _ l1_3 true _ ?side1 ?side2 ?side3 ?side4 ?side5 ?side6 ?side7 ?side8 A5.out).mono ?_); (case side1 => exact Kd.C_below HR0.out PB); (case side2 => exact HC0.out); (case side3 => exact Kd.C_below HR1_1.out PB); (case side4 => exact HC1_1.out); (case side5 => exact Kd.C_below HR1_2.out PB); (case side6 => exact HC1_2.out); (case side7 => exact Kd.C_below HR1_3.out PB); (case side8 => exact HC1_3.out); rintro e w30 ⟨rfl, hb⟩; refine ⟨_, rfl, ?_⟩; replace HO222 := ak (Kd.R_below (Re1 HO222 BK229) hb); replace HO225 := ak (Kd.R_below (Re1 HO225 BK229) hb); replace HO228 := ak (Kd.R_below (Re1 HO228 BK229) hb); replace BK217 := kf BK217 hb; replace BK218 := kf BK218 hb; replace BK229 := kp (cs' := #[.int .i64 t219, .slice Ao26 t220.length co26, .slice Ao27 t223.length co27, .slice Ao28 t226.length co28]) BK229 hb; replace HB := bs HB hb; (try clear hb); (try clear hb2); (try clear hk); (try clear hi); obtain ⟨_, _, _, _, _, _, _, _⟩ := bc4 BK217; have p231 : 0 ≤ (a1_0 : Int) := of_decide_eq_true (by first | (with_reducible assumption) | assumption); have q231 : a1_0 < (l0.length : Int) := of_decide_eq_true (by first | (with_reducible assumption) | assumption); obtain ⟨ad231, e231, hx231_0, hx231_1, hx231_2, hx231_3⟩ := at_T121 HR0.out a1_0 p231 q231; cases e231; replace hx231_0 := hx_ HB hx231_0; replace hx231_1 := hx_ HB hx231_1; replace hx231_2 := hx_ HB hx231_2; replace hx231_3 := hx_ HB hx231_3; replace p231 := eq_true p231; replace q231 := eq_true q231) | ((with_reducible refine gate_dst (N := 8) rfl ?_); refine bx_ (N := 8) #[.int .i64 0, .int .i64 0, .int .i64 0, .int .i64 0] 121 ?_; intro gb232 hg w32 hbox hb; replace HO222 := Rb HO222 hb; replace HO225 := Rb HO225 hb; replace HO228 := Rb HO228 hb; have BK232 := ak hbox; have GW232 := gy hg HB; have GE232 := gy hg HB; replace HB := bs HB hb; have NB217_232 := gm hg BK217; have NB232_217 := gn hg BK217; replace BK217 := kf BK217 hb; have NB218_232 := gm hg BK218; have NB232_218 := gn hg BK218; replace BK218 := kf BK218 hb; have NB229_232 := gm hg BK229; have NB232_229 := gn hg BK229; replace BK229 := kf BK229 hb; clear hb hbox hg; have hnb33 := NB232_217.out; have hnc33 := NB217_232.out; have hnb34 := NB232_218.out; have hnc34 := NB218_232.out; have hnb35 := NB232_229.out; have hnc35 := NB229_232.out; obtain ⟨_, _, _, _, _, _, _, _⟩ := bc4 BK232; obtain ⟨_, _, _, _, _, _, _, _⟩ := bc4 BK217; obtain ⟨_, _, _, _, _, _, _, _⟩ := bc4 BK229))
           generalize hW_ : (((((w32.setCell ⟨gb232, 0, none⟩ (.int .i64 ((rd_T121 l0 a1_0).f0))).setCell ⟨gb232, 1, none⟩ (.int .i64 ((rd_T121 l0 a1_0).f1))).setCell ⟨gb232, 2, none⟩ (.int .i64 ((rd_T121 l0 a1_0).f2))).setCell ⟨gb232, 3, none⟩ (.int .i64 ((rd_T121 l0 a1_0).f3))).setCell ⟨gb229, 0, none⟩ (.int .i64 (wrap64 (a1_0 + 1)))) = w39
           replace HO222 := R2 hW_ HO222 BK232 BK229
           replace HO225 := R2 hW_ HO225 BK232 BK229
           replace HO228 := R2 hW_ HO228 BK232 BK229
           replace BK217 := BE hW_ BK217
           replace BK218 := BE hW_ BK218
           replace BK229 : Aside0 (w39.heap[gb229]? = some (.cells #[.int .i64 (wrap64 (a1_0 + 1)), .slice Ao26 t220.length co26, .slice Ao27 t223.length co27, .slice Ao28 t226.length co28] 45 (0, 0))) := BP hW_ BK229
           replace BK232 : Aside0 (w39.heap[gb232]? = some (.cells #[.int .i64 ((rd_T121 l0 a1_0).f0), .int .i64 ((rd_T121 l0 a1_0).f1), .int .i64 ((rd_T121 l0 a1_0).f2), .int .i64 ((rd_T121 l0 a1_0).f3)] 121 (0, 0))) := BP hW_ BK232
           replace HB := BL hW_ HB
           (try clear hW_)
           replace HO222 := ak (Kd.R_drew HO222.out)
           replace HO225 := ak (Kd.R_drew HO225.out)
           replace HO228 := ak (Kd.R_drew HO228.out)
           replace BK217 := ak (blk_drew BK217.out)
           replace BK218 := ak (blk_drew BK218.out)
           replace BK229 := ak (blk_drew BK229.out)
           replace BK232 := ak (blk_drew BK232.out)
           replace HB := ak (below_drew1 HB.out)
           have p233 : 0 ≤ (((rd_T121 l0 a1_0).f2) : Int) := of_decide_eq_true (by first | (with_reducible assumption) | assumption)
           have q233 : ((rd_T121 l0 a1_0).f2) < (l1_1.length : Int) := of_decide_eq_true (by first | (with_reducible assumption) | assumption)
           obtain ⟨ad233, e233, hx233_0⟩ := Kd.at_int HR1_1.out ((rd_T121 l0 a1_0).f2) p233 q233
           have hw233_0 := hx233_0
           cases e233
           replace hx233_0 := hx_ HB hx233_0
           replace p233 := eq_true p233
           replace q233 := eq_true q233
           have p234 : 0 ≤ (((rd_T121 l0 a1_0).f3) : Int) := of_decide_eq_true (by first | (with_reducible assumption) | assumption)
           have q234 : ((rd_T121 l0 a1_0).f3) < (l1_1.length : Int) := of_decide_eq_true (by first | (with_reducible assumption) | assumption)
           obtain ⟨ad234, e234, hx234_0⟩ := Kd.at_int HR1_1.out ((rd_T121 l0 a1_0).f3) p234 q234
           have hw234_0 := hx234_0
           obtain rfl : ad233 = ad234 := (by injection e234)
           replace hx234_0 := hx_ HB hx234_0
           replace p234 := eq_true p234
           replace q234 := eq_true q234
           have p16 : 0 ≤ (((rd_T121 l0 a1_0).f1) : Int) := of_decide_eq_true (by first | (with_reducible assumption) | assumption)
           have q16 : (((rd_T121 l0 a1_0).f1) : Int) < ((t220.length : Int) : Int) := of_decide_eq_true (by first | (with_reducible assumption) | assumption)
           obtain ⟨go16, co16, eo16, gb16, gl16, cl16, HG16⟩ := Kd.R_form HO222.out (by omega)
           (first | cases eo16 | (injection eo16 with ea_ en_ ec_; (first | subst ea_ | (injection ea_ with ea_; subst ea_)); subst ec_; clear en_))
           have GB16 := Aside0.mk gb16
           have GG16 := Aside0.mk HG16
           clear gb16 gl16 HG16
           obtain ⟨hx16_0, hf16_0⟩ := Kd.R_celln 0 HO222.out (((rd_T121 l0 a1_0).f1) : Int) p16 q16
           replace p16 := eq_true p16
           replace q16 := eq_true q16
           have HP41 := Kd.R_putn HO222.out (((rd_T121 l0 a1_0).f1) : Int) (Int.tmod (wrap64 ((rd l1_1 ((rd_T121 l0 a1_0).f2)) + (rd l1_1 ((rd_T121 l0 a1_0).f3)))) 1000)
           rw [← Ny235.out] at HP41
           have HQ41 := Aside0.mk HP41
           clear HP41
           refine start_ (n := 20) (S := fun w' => w'.cell? ⟨gb229, 0, none⟩ = some (.int .i64 (wrap64 (a1_0 + 1))) ∧ w'.cell? ⟨gb229, 1, none⟩ = some (.slice (some ⟨go16, 0, none⟩) t220.length co26) ∧ w'.cell? ⟨gb229, 2, none⟩ = some (.slice Ao27 t223.length co27) ∧ w'.cell? ⟨gb229, 3, none⟩ = some (.slice Ao28 t226.length co28) ∧ w'.cell? ⟨gb232, 0, none⟩ = some (.int .i64 ((rd_T121 l0 a1_0).f0)) ∧ w'.cell? ⟨gb232, 1, none⟩ = some (.int .i64 ((rd_T121 l0 a1_0).f1)) ∧ w'.cell? ⟨gb232, 2, none⟩ = some (.int .i64 ((rd_T121 l0 a1_0).f2)) ∧ w'.cell? ⟨gb232, 3, none⟩ = some (.int .i64 ((rd_T121 l0 a1_0).f3)) ∧ w'.cell? ⟨gb217, 0, none⟩ = some (.int .i64 a1_0) ∧ w'.cell? ⟨gb217, 1, none⟩ = some (.slice (some ad233) l1_1.length c1_1) ∧ w'.cell? ⟨gb217, 2, none⟩ = some (.slice A1_2 l1_2.length c1_2) ∧ w'.cell? ⟨gb217, 3, none⟩ = some (.slice A1_3 l1_3.length c1_3) ∧ w'.cell? (ad233.add (((rd_T121 l0 a1_0).f2)).toNat) = some (.int .i64 (rd l1_1 ((rd_T121 l0 a1_0).f2))) ∧ w'.cell? (ad233.add (((rd_T121 l0 a1_0).f3)).toNat) = some (.int .i64 (rd l1_1 ((rd_T121 l0 a1_0).f3)))) (ds := [19]) #[false, false, false, false, false, false, false, false, false, false, false, false, false, false, false, false, false, false, false, false] KR rfl rfl ⟨(blk_cell BK229.out 0).trans rfl, (blk_cell BK229.out 1).trans rfl, (blk_cell BK229.out 2).trans rfl, (blk_cell BK229.out 3).trans rfl, (blk_cell BK232.out 0).trans rfl, (blk_cell BK232.out 1).trans rfl, (blk_cell BK232.out 2).trans rfl, (blk_cell BK232.out 3).trans rfl, (blk_cell BK217.out 0).trans rfl, (blk_cell BK217.out 1).trans rfl, (blk_cell BK217.out 2).trans rfl, (blk_cell BK217.out 3).trans rfl, ((HB.out.cell (World.block_lt_of_cell? w _ hw233_0)).trans hw233_0), ((HB.out.cell (World.block_lt_of_cell? w _ hw234_0)).trans hw234_0)⟩ (fun hHeld => ?_); refine with_tabW spec_StepState.tab9 spec_StepState.bits9 (fun HT_ HW_ => ?_)
           generalize w39.drew = w40 at HO222 HO225 HO228 BK217 BK218 BK229 BK232 HB GG16 HQ41 hf16_0 hx16_0 hx233_0 hx234_0 hHeld ⊢
           refine pu_ (i := 0) (N := some 37) #[true, false, false, false, false, false, false, false, false, false, false, false, false, false, false, false, false, false, false, false] HT_ ?_
           refine pu_ (i := 2) (N := some 39) #[true, false, true, false, false, false, false, false, false, false, false, false, false, false, false, false, false, false, false, false] HT_ ?_
           refine pu_ (i := 4) (N := some 41) #[true, false, true, false, true, false, false, false, false, false, false, false, false, false, false, false, false, false, false, false] HT_ ?_
           refine pu_ (i := 6) (N := some 43) #[true, false, true, false, true, false, true, false, false, false, false, false, false, false, false, false, false, false, false, false] HT_ ?_
           refine pu_ (i := 10) (N := some 47) #[true, false, true, false, true, false, true, false, false, false, true, false, false, false, false, false, false, false, false, false] HT_ ?_
           refine pu_ (i := 12) (N := some 49) #[true, false, true, false, true, false, true, false, false, false, true, false, true, false, false, false, false, false, false, false] HT_ ?_
           refine tk_ (i := 1) (N := some 38) #[true, true, true, false, true, false, true, false, false, false, true, false, true, false, false, false, false, false, false, false] rfl rfl HT_ HW_ hHeld ?_
           refine take_ (i := 3) (N := some 40) (v := ?_) (a' := ?_) #[true, true, true, true, true, false, true, false, false, false, true, false, true, false, false, false, false, false, false, false] rfl rfl (take_ofW HT_.out HW_.out KR) (fun _ _ _ h => h) (Or.inl ⟨by rfl, ?_⟩) hHeld ?_ ?_
           rotate_left
           ·rintro w' ⟨s0, s1, s2, s3, s4, s5, s6, s7, s8, s9, s10, s11, s12, s13⟩
            go_simp
            with_reducible rfl
           rotate_left
           ·simp only [Act.put, List.setIfInBounds_toArray, List.set_cons_zero, List.set_cons_succ, i64_w, i32_w]
            rfl
           refine tk_ (i := 5) (N := some 42) #[true, true, true, true, true, true, true, false, false, false, true, false, true, false, false, false, false, false, false, false] rfl rfl HT_ HW_ hHeld ?_
           refine take_ (i := 7) (N := some 44) (v := ?_) (a' := ?_) #[true, true, true, true, true, true, true, true, false, false, true, false, true, false, false, false, false, false, false, false] rfl rfl (take_ofW HT_.out HW_.out KR) (fun _ _ _ h => h) (Or.inl ⟨by rfl, ?_⟩) hHeld ?_ ?_
           rotate_left
           ·rintro w' ⟨s0, s1, s2, s3, s4, s5, s6, s7, s8, s9, s10, s11, s12, s13⟩
            go_simp
            with_reducible rfl
           rotate_left
           ·simp only [Act.put, List.setIfInBounds_toArray, List.set_cons_zero, List.set_cons_succ, i64_w, i32_w]
            rfl
           refine pu_ (i := 8) (N := some 45) #[true, true, true, true, true, true, true, true, true, false, true, false, true, false, false, false, false, false, false, false] HT_ ?_
           refine tk_ (i := 9) (N := some 46) #[true, true, true, true, true, true, true, true, true, true, true, false, true, false, false, false, false, false, false, false] rfl rfl HT_ HW_ hHeld ?_
           refine take_ (i := 11) (N := some 48) (v := ?_) (a' := ?_) #[true, true, true, true, true, true, true, true, true, true, true, true, true, false, false, false, false, false, false, false] rfl rfl (take_ofW HT_.out HW_.out KR) (fun _ _ _ h => h) (Or.inl ⟨by rfl, ?_⟩) hHeld ?_ ?_
           rotate_left
           ·rintro w' ⟨s0, s1, s2, s3, s4, s5, s6, s7, s8, s9, s10, s11, s12, s13⟩
            go_simp
            with_reducible rfl
           rotate_left
           ·simp only [Act.put, List.setIfInBounds_toArray, List.set_cons_zero, List.set_cons_succ, i64_w, i32_w]
            rfl
           refine tk_ (i := 13) (N := some 50) #[true, true, true, true, true, true, true, true, true, true, true, true, true, true, false, false, false, false, false, false] rfl rfl HT_ HW_ hHeld ?_
           refine pu_ (i := 14) (N := some 51) #[true, true, true, true, true, true, true, true, true, true, true, true, true, true, true, false, false, false, false, false] HT_ ?_
           refine tk_ (i := 15) (N := some 52) #[true, true, true, true, true, true, true, true, true, true, true, true, true, true, true, true, false, false, false, false] rfl rfl HT_ HW_ hHeld ?_
           refine pu_ (i := 16) (N := some 53) #[true, true, true, true, true, true, true, true, true, true, true, true, true, true, true, true, true, false, false, false] HT_ ?_
           refine pu_ (i := 17) (N := some 54) #[true, true, true, true, true, true, true, true, true, true, true, true, true, true, true, true, true, true, false, false] HT_ ?_
           refine pu_ (i := 18) (N := some 55) #[true, true, true, true, true, true, true, true, true, true, true, true, true, true, true, true, true, true, true, false] HT_ ?_
           refine last_ (i := 19) (N := none) #[true, true, true, true, true, true, true, true, true, true, true, true, true, true, true, true, true, true, true, true] rfl rfl (one_of HT_.out KR) (by decide) (fun K hK => ?_)
           refine skip_ (w1 := ?_) (by rfl) rfl ?_ ?_
           rotate_left
           ·go_simp
            rfl
           refine hK.out _ _ ?_
           clear hK K
           refine done_ (done_of HT_.out KR) ?_
           generalize hW_ : (w40.setCell ⟨go16, (((rd_T121 l0 a1_0).f1) : Int).toNat, none⟩ (.int .i64 (Int.tmod (wrap64 ((rd l1_1 ((rd_T121 l0 a1_0).f2)) + (rd l1_1 ((rd_T121 l0 a1_0).f3)))) 1000))) = w42
           replace HO225 : Aside0 (Kd.R (Kd.int .i64) 3 w42 w.heap.size (fun k_ => some k_ ≠ (.slice (some ⟨go16, 0, none⟩) t220.length co26 : Value).ownBlock ∧ some k_ ≠ (.slice Ao28 t226.length co28 : Value).ownBlock) (.slice Ao27 t223.length co27) t223) := ⟨by rw [← hW_]; exact RX (Kd.R_mono HO225.out (fun k_ hk => (⟨hk, fun e_ => hk.1 (by rw [e_]; rfl)⟩ : _ ∧ k_ ≠ go16))) (fun _ hk => by first | exact ⟨hk.1.1, hk.1.2⟩ | simp_all)⟩
           replace HO228 : Aside0 (Kd.R (Kd.int .i64) 3 w42 w.heap.size (fun k_ => some k_ ≠ (.slice (some ⟨go16, 0, none⟩) t220.length co26 : Value).ownBlock ∧ some k_ ≠ (.slice Ao27 t223.length co27 : Value).ownBlock) (.slice Ao28 t226.length co28) t226) := ⟨by rw [← hW_]; exact RX (Kd.R_mono HO228.out (fun k_ hk => (⟨hk, fun e_ => hk.1 (by rw [e_]; rfl)⟩ : _ ∧ k_ ≠ go16))) (fun _ hk => by first | exact ⟨hk.1.1, hk.1.2⟩ | simp_all)⟩
           replace BK217 := BQ hW_ HO222 BK217
           replace BK218 := BQ hW_ HO222 BK218
           replace BK229 := BQ hW_ HO222 BK229
           replace BK232 := BQ hW_ HO222 BK232
           replace HO222 : Aside0 (Kd.R (Kd.int .i64) 3 w42 w.heap.size (fun k_ => some k_ ≠ (.slice Ao27 t223.length co27 : Value).ownBlock ∧ some k_ ≠ (.slice Ao28 t226.length co28 : Value).ownBlock) (.slice (some ⟨go16, 0, none⟩) t220.length co26) y235) := ⟨by rw [← hW_]; exact PR HQ41⟩
           replace HB := BL hW_ HB
           (try clear hW_)
           obtain ⟨_, _, _, _, _, _, _, _⟩ := bc4 BK229
           obtain ⟨_, _, _, _, _, _, _, _⟩ := bc4 BK218
           try go_wp2
           refine bodyPost_ret (results_cell_row rfl _ _ gb218 45 #[.int .i64 (wrap64 (a1_0 + 1)), .slice (some ⟨go16, 0, none⟩) t220.length co26, .slice Ao27 t223.length co27, .slice Ao28 t226.length co28] (0, 0) _ rfl (PX BK218) Try.underlying45 rfl KR) rfl ?_
           exact ⟨_, _, _, RT, Re1 HO222 BK218, Re1 HO225 BK218, Re1 HO228 BK218, PB⟩
          ·rw [if_neg c15] at H
           exact absurd H (by simp)
         ·rw [if_neg c14] at H
          exact absurd H (by simp)
        ·rw [if_neg c13] at H
         exact absurd H (by simp)
       ·rw [if_neg c12] at H
        exact absurd H (by simp)
      ·rw [if_neg c11] at H
       exact absurd H (by simp)
     ·rw [if_neg c10] at H
      exact absurd H (by simp)
    ·rw [if_neg c9] at H
     have c9b0 : (((rd_T121 l0 a1_0).f0) == 5) = false := beq_eq_false_iff_ne.mpr c9
     have c9b1 : (((rd_T121 l0 a1_0).f0) != 5) = true := bne_iff_ne.mpr c9
     by_cases c45 : ((rd_T121 l0 a1_0).f0) = 6
     ·rw [if_pos c45] at H
      have c45b0 : (((rd_T121 l0 a1_0).f0) == 6) = true := beq_iff_eq.mpr c45
      have c45b1 : (((rd_T121 l0 a1_0).f0) != 6) = false := bne_eq_false_iff_eq.mpr c45
      clear c45
      by_cases c46 : 0 ≤ ((rd_T121 l0 a1_0).f1)
      ·rw [if_pos c46] at H
       have c46b0 : decide (0 ≤ ((rd_T121 l0 a1_0).f1)) = true := decide_eq_true c46
       clear c46
       by_cases c47 : ((rd_T121 l0 a1_0).f1) < (l1_1.length : Int)
       ·rw [if_pos c47] at H
        have c47b0 : decide (((rd_T121 l0 a1_0).f1) < (l1_1.length : Int)) = true := decide_eq_true c47
        clear c47
        by_cases c48 : 0 ≤ ((rd_T121 l0 a1_0).f2)
        ·rw [if_pos c48] at H
         have c48b0 : decide (0 ≤ ((rd_T121 l0 a1_0).f2)) = true := decide_eq_true c48
         clear c48
         by_cases c49 : ((rd_T121 l0 a1_0).f2) < (t226.length : Int)
         ·rw [if_pos c49] at H
          have c49b0 : decide (((rd_T121 l0 a1_0).f2) < (t226.length : Int)) = true := decide_eq_true c49
          clear c49
          obtain ⟨y237, hy237⟩ : ∃ y_ : List Int, y_ = (t226.set (((rd_T121 l0 a1_0).f2) : Int).toNat (rd l1_1 ((rd_T121 l0 a1_0).f1))) := ⟨_, rfl⟩
          replace H : (some (wrap64 (a1_0 + 1), t220, t223, y237)) = some (r1, r2, r3, r4) := by first | (rw [hy237]; with_reducible exact H) | (have H2_ := (Option.bind_some _ _).symm.trans H; rw [hy237]; with_reducible exact H2_) | (have H2_ := (Option.bind_some _ _).symm.trans H; with_reducible exact H2_) | with_reducible exact H | (rw [hy237]; exact H) | exact H
          have Ny237 := Aside0.mk hy237
          clear hy237
          simp only [Option.some.injEq, Prod.mk.injEq] at H
          obtain ⟨rfl, rfl, rfl, rfl⟩ := H
          go_enter Try.func39, Try.ntmps39
          try go_wp2_with (first | ((with_reducible refine gate_dst (N := 4) rfl ?_); refine bx_ (N := 4) #[.int .i64 a1_0, .slice A1_1 l1_1.length c1_1, .slice A1_2 l1_2.length c1_2, .slice A1_3 l1_3.length c1_3] 45 ?_; intro gb217 hg w51 hbox hb; have BK217 := ak hbox; have GW217 := gy hg HB; have GE217 := gy hg HB; replace HB := bs HB hb; clear hb hbox hg) | ((with_reducible refine gate_dst (N := 6) rfl ?_); refine bx_ (N := 6) #[.int .i64 0, .slice none 0 0, .slice none 0 0, .slice none 0 0] 45 ?_; intro gb218 hg w52 hbox hb; have BK218 := ak hbox; have GW218 := gy hg HB; have GE218 := gy hg HB; replace HB := bs HB hb; have NB217_218 := gm hg BK217; have NB218_217 := gn hg BK217; replace BK217 := kf BK217 hb; clear hb hbox hg; have hnb53 := NB217_218.out; have hnc53 := NB218_217.out; obtain ⟨_, _, _, _, _, _, _, _⟩ := bc4 BK217) | ((with_reducible refine gate_callee (f := 97) rfl ?_); refine goesL_ (some 10) rfl rfl Try.func97 KR rfl #[.agg #[.int .i64 a1_0, .slice A1_1 l1_1.length c1_1, .slice A1_2 l1_2.length c1_2, .slice A1_3 l1_3.length c1_3]] rfl AR ?_; (with_reducible refine (spec_l11Copy.calls a1_0 _ _ l1_1 _ _ l1_2 _ _ l1_3 t219 t220 t223 t226 _ ?side1 ?side2 ?side3 ?side4 ?side5 ?side6 A4.out).mono ?_); (case side1 => exact CR (Kd.C_below HR1_1.out HB.out)); (case side2 => exact HC1_1.out); (case side3 => exact CR (Kd.C_below HR1_2.out HB.out)); (case side4 => exact HC1_2.out); (case side5 => exact CR (Kd.C_below HR1_3.out HB.out)); (case side6 => exact HC1_3.out); rintro e w55 ⟨v221, v224, v227, rfl, ho0, ho1, ho2, hb⟩; refine ⟨_, rfl, ?_⟩; have HO222 := Rn0 ho0 HB; have HO225 := Rn0 ho1 HB; have HO228 := Rn0 ho2 HB; replace BK217 := kf BK217 hb; replace BK218 := kf BK218 hb; replace HB := bs HB hb; (try clear hb); (try clear hb2); (try clear hk); (try clear hi); (try clear ho0); (try clear ho1); (try clear ho2)) | ((with_reducible refine gate_dst (N := 7) rfl ?_); refine bx_ (N := 7) #[.int .i64 0, .slice none 0 0, .slice none 0 0, .slice none 0 0] 45 ?_; intro gb229 hg w56 hbox hb; replace HO222 := Rb HO222 hb; replace HO225 := Rb HO225 hb; replace HO228 := Rb HO228 hb; have BK229 := ak hbox; have GW229 := gy hg HB; have GE229 := gy hg HB; replace HB := bs HB hb; have NB217_229 := gm hg BK217; have NB229_217 := gn hg BK217; replace BK217 := kf BK217 hb; have NB218_229 := gm hg BK218; have NB229_218 := gn hg BK218; replace BK218 := kf BK218 hb; clear hb hbox hg; have hnb57 := NB229_217.out; have hnc57 := NB217_229.out; have hnb58 := NB229_218.out; have hnc58 := NB218_229.out; obtain ⟨_, _, _, _, _, _, _, _⟩ := bc4 BK229; obtain ⟨Ao60, co60, eo60⟩ := Kd.R_slice HO222.out; subst eo60; obtain ⟨Ao61, co61, eo61⟩ := Kd.R_slice HO225.out; subst eo61; obtain ⟨Ao62, co62, eo62⟩ := Kd.R_slice HO228.out; subst eo62; obtain ⟨_, _, _, _, _, _, _, _⟩ := bc4 BK217) | ((with_reducible refine gate_callee (f := 98) rfl ?_); refine goesL_ (some 13) rfl rfl Try.func98 KR rfl #[.slice A0 l0.length c0, .agg #[.int .i64 a1_0, .slice A1_1 l1_1.length c1_1, .slice A1_2 l1_2.length c1_2, .slice A1_3 l1_3.length c1_3]] rfl AR ?_; (with_reducible refine (spec_l11Can.calls k _ _ l0 a1_0 _ _ l1_1 _ _ l1_2 _ _ l1_3 true _ ?side1 ?side2 ?side3 ?side4 ?side5 ?side6 ?side7 ?side8 A5.out).mono ?_); (case side1 => exact Kd.C_below HR0.out PB); (case side2 => exact HC0.out); (case side3 => exact Kd.C_below HR1_1.out PB); (case side4 => exact HC1_1.out); (case side5 => exact Kd.C_below HR1_2.out PB); (case side6 => exact HC1_2.out); (case side7 => exact Kd.C_below HR1_3.out PB); (case side8 => exact HC1_3.out); rintro e w64 ⟨rfl, hb⟩; refine ⟨_, rfl, ?_⟩; replace HO222 := ak (Kd.R_below (Re1 HO222 BK229) hb); replace HO225 := ak (Kd.R_below (Re1 HO225 BK229) hb); replace HO228 := ak (Kd.R_below (Re1 HO228 BK229) hb); replace BK217 := kf BK217 hb; replace BK218 := kf BK218 hb; replace BK229 := kp (cs' := #[.int .i64 t219, .slice Ao60 t220.length co60, .slice Ao61 t223.length co61, .slice Ao62 t226.length co62]) BK229 hb; replace HB := bs HB hb; (try clear hb); (try clear hb2); (try clear hk); (try clear hi); obtain ⟨_, _, _, _, _, _, _, _⟩ := bc4 BK217; have p231 : 0 ≤ (a1_0 : Int) := of_decide_eq_true (by first | (with_reducible assumption) | assumption); have q231 : a1_0 < (l0.length : Int) := of_decide_eq_true (by first | (with_reducible assumption) | assumption); obtain ⟨ad231, e231, hx231_0, hx231_1, hx231_2, hx231_3⟩ := at_T121 HR0.out a1_0 p231 q231; cases e231; replace hx231_0 := hx_ HB hx231_0; replace hx231_1 := hx_ HB hx231_1; replace hx231_2 := hx_ HB hx231_2; replace hx231_3 := hx_ HB hx231_3; replace p231 := eq_true p231; replace q231 := eq_true q231) | ((with_reducible refine gate_dst (N := 8) rfl ?_); refine bx_ (N := 8) #[.int .i64 0, .int .i64 0, .int .i64 0, .int .i64 0] 121 ?_; intro gb232 hg w66 hbox hb; replace HO222 := Rb HO222 hb; replace HO225 := Rb HO225 hb; replace HO228 := Rb HO228 hb; have BK232 := ak hbox; have GW232 := gy hg HB; have GE232 := gy hg HB; replace HB := bs HB hb; have NB217_232 := gm hg BK217; have NB232_217 := gn hg BK217; replace BK217 := kf BK217 hb; have NB218_232 := gm hg BK218; have NB232_218 := gn hg BK218; replace BK218 := kf BK218 hb; have NB229_232 := gm hg BK229; have NB232_229 := gn hg BK229; replace BK229 := kf BK229 hb; clear hb hbox hg; have hnb67 := NB232_217.out; have hnc67 := NB217_232.out; have hnb68 := NB232_218.out; have hnc68 := NB218_232.out; have hnb69 := NB232_229.out; have hnc69 := NB229_232.out; obtain ⟨_, _, _, _, _, _, _, _⟩ := bc4 BK232; obtain ⟨_, _, _, _, _, _, _, _⟩ := bc4 BK217; obtain ⟨_, _, _, _, _, _, _, _⟩ := bc4 BK229))
          generalize hW_ : (((((w66.setCell ⟨gb232, 0, none⟩ (.int .i64 ((rd_T121 l0 a1_0).f0))).setCell ⟨gb232, 1, none⟩ (.int .i64 ((rd_T121 l0 a1_0).f1))).setCell ⟨gb232, 2, none⟩ (.int .i64 ((rd_T121 l0 a1_0).f2))).setCell ⟨gb232, 3, none⟩ (.int .i64 ((rd_T121 l0 a1_0).f3))).setCell ⟨gb229, 0, none⟩ (.int .i64 (wrap64 (a1_0 + 1)))) = w73
          replace HO222 := R2 hW_ HO222 BK232 BK229
          replace HO225 := R2 hW_ HO225 BK232 BK229
          replace HO228 := R2 hW_ HO228 BK232 BK229
          replace BK217 := BE hW_ BK217
          replace BK218 := BE hW_ BK218
          replace BK229 : Aside0 (w73.heap[gb229]? = some (.cells #[.int .i64 (wrap64 (a1_0 + 1)), .slice Ao60 t220.length co60, .slice Ao61 t223.length co61, .slice Ao62 t226.length co62] 45 (0, 0))) := BP hW_ BK229
          replace BK232 : Aside0 (w73.heap[gb232]? = some (.cells #[.int .i64 ((rd_T121 l0 a1_0).f0), .int .i64 ((rd_T121 l0 a1_0).f1), .int .i64 ((rd_T121 l0 a1_0).f2), .int .i64 ((rd_T121 l0 a1_0).f3)] 121 (0, 0))) := BP hW_ BK232
          replace HB := BL hW_ HB
          (try clear hW_)
          replace HO222 := ak (Kd.R_drew HO222.out)
          replace HO225 := ak (Kd.R_drew HO225.out)
          replace HO228 := ak (Kd.R_drew HO228.out)
          replace BK217 := ak (blk_drew BK217.out)
          replace BK218 := ak (blk_drew BK218.out)
          replace BK229 := ak (blk_drew BK229.out)
          replace BK232 := ak (blk_drew BK232.out)
          replace HB := ak (below_drew1 HB.out)
          have p236 : 0 ≤ (((rd_T121 l0 a1_0).f1) : Int) := of_decide_eq_true (by first | (with_reducible assumption) | assumption)
          have q236 : ((rd_T121 l0 a1_0).f1) < (l1_1.length : Int) := of_decide_eq_true (by first | (with_reducible assumption) | assumption)
          obtain ⟨ad236, e236, hx236_0⟩ := Kd.at_int HR1_1.out ((rd_T121 l0 a1_0).f1) p236 q236
          have hw236_0 := hx236_0
          cases e236
          replace hx236_0 := hx_ HB hx236_0
          replace p236 := eq_true p236
          replace q236 := eq_true q236
          have p50 : 0 ≤ (((rd_T121 l0 a1_0).f2) : Int) := of_decide_eq_true (by first | (with_reducible assumption) | assumption)
          have q50 : (((rd_T121 l0 a1_0).f2) : Int) < ((t226.length : Int) : Int) := of_decide_eq_true (by first | (with_reducible assumption) | assumption)
          obtain ⟨go50, co50, eo50, gb50, gl50, cl50, HG50⟩ := Kd.R_form HO228.out (by omega)
          (first | cases eo50 | (injection eo50 with ea_ en_ ec_; (first | subst ea_ | (injection ea_ with ea_; subst ea_)); subst ec_; clear en_))
          have GB50 := Aside0.mk gb50
          have GG50 := Aside0.mk HG50
          clear gb50 gl50 HG50
          obtain ⟨hx50_0, hf50_0⟩ := Kd.R_celln 0 HO228.out (((rd_T121 l0 a1_0).f2) : Int) p50 q50
          replace p50 := eq_true p50
          replace q50 := eq_true q50
          have HP75 := Kd.R_putn HO228.out (((rd_T121 l0 a1_0).f2) : Int) (rd l1_1 ((rd_T121 l0 a1_0).f1))
          rw [← Ny237.out] at HP75
          have HQ75 := Aside0.mk HP75
          clear HP75
          refine start_ (n := 12) (S := fun w' => w'.cell? ⟨gb229, 0, none⟩ = some (.int .i64 (wrap64 (a1_0 + 1))) ∧ w'.cell? ⟨gb229, 1, none⟩ = some (.slice Ao60 t220.length co60) ∧ w'.cell? ⟨gb229, 2, none⟩ = some (.slice Ao61 t223.length co61) ∧ w'.cell? ⟨gb229, 3, none⟩ = some (.slice (some ⟨go50, 0, none⟩) t226.length co62) ∧ w'.cell? ⟨gb232, 0, none⟩ = some (.int .i64 ((rd_T121 l0 a1_0).f0)) ∧ w'.cell? ⟨gb232, 1, none⟩ = some (.int .i64 ((rd_T121 l0 a1_0).f1)) ∧ w'.cell? ⟨gb232, 2, none⟩ = some (.int .i64 ((rd_T121 l0 a1_0).f2)) ∧ w'.cell? ⟨gb232, 3, none⟩ = some (.int .i64 ((rd_T121 l0 a1_0).f3)) ∧ w'.cell? ⟨gb217, 0, none⟩ = some (.int .i64 a1_0) ∧ w'.cell? ⟨gb217, 1, none⟩ = some (.slice (some ad236) l1_1.length c1_1) ∧ w'.cell? ⟨gb217, 2, none⟩ = some (.slice A1_2 l1_2.length c1_2) ∧ w'.cell? ⟨gb217, 3, none⟩ = some (.slice A1_3 l1_3.length c1_3) ∧ w'.cell? (ad236.add (((rd_T121 l0 a1_0).f1)).toNat) = some (.int .i64 (rd l1_1 ((rd_T121 l0 a1_0).f1)))) (ds := [11]) b8_22 KR rfl rfl ⟨(blk_cell BK229.out 0).trans rfl, (blk_cell BK229.out 1).trans rfl, (blk_cell BK229.out 2).trans rfl, (blk_cell BK229.out 3).trans rfl, (blk_cell BK232.out 0).trans rfl, (blk_cell BK232.out 1).trans rfl, (blk_cell BK232.out 2).trans rfl, (blk_cell BK232.out 3).trans rfl, (blk_cell BK217.out 0).trans rfl, (blk_cell BK217.out 1).trans rfl, (blk_cell BK217.out 2).trans rfl, (blk_cell BK217.out 3).trans rfl, ((HB.out.cell (World.block_lt_of_cell? w _ hw236_0)).trans hw236_0)⟩ (fun hHeld => ?_); refine with_tabW spec_StepState.tab11 spec_StepState.bits11 (fun HT_ HW_ => ?_)
          generalize w73.drew = w74 at HO222 HO225 HO228 BK217 BK218 BK229 BK232 HB GG50 HQ75 hf50_0 hx236_0 hx50_0 hHeld ⊢
          refine pu_ (i := 0) (N := some 58) b8_21 HT_ ?_
          refine pu_ (i := 2) (N := some 60) b8_20 HT_ ?_
          refine pu_ (i := 4) (N := some 62) b8_19 HT_ ?_
          refine pu_ (i := 6) (N := some 64) b8_18 HT_ ?_
          refine tk_ (i := 1) (N := some 59) b8_17 rfl rfl HT_ HW_ hHeld ?_
          refine take_ (i := 3) (N := some 61) (v := ?_) (a' := ?_) b8_16 rfl rfl (take_ofW HT_.out HW_.out KR) (fun _ _ _ h => h) (Or.inl ⟨by rfl, ?_⟩) hHeld ?_ ?_
          rotate_left
          ·rintro w' ⟨s0, s1, s2, s3, s4, s5, s6, s7, s8, s9, s10, s11, s12⟩
           go_simp
           with_reducible rfl
          rotate_left
          ·simp only [Act.put, List.setIfInBounds_toArray, List.set_cons_zero, List.set_cons_succ, i64_w, i32_w]
           rfl
          refine tk_ (i := 5) (N := some 63) b8_15 rfl rfl HT_ HW_ hHeld ?_
          refine take_ (i := 7) (N := some 65) (v := ?_) (a' := ?_) b8_14 rfl rfl (take_ofW HT_.out HW_.out KR) (fun _ _ _ h => h) (Or.inl ⟨by rfl, ?_⟩) hHeld ?_ ?_
          rotate_left
          ·rintro w' ⟨s0, s1, s2, s3, s4, s5, s6, s7, s8, s9, s10, s11, s12⟩
           go_simp
           with_reducible rfl
          rotate_left
          ·simp only [Act.put, List.setIfInBounds_toArray, List.set_cons_zero, List.set_cons_succ, i64_w, i32_w]
           rfl
          refine pu_ (i := 8) (N := some 66) b8_13 HT_ ?_
          refine tk_ (i := 9) (N := some 67) b8_12 rfl rfl HT_ HW_ hHeld ?_
          refine pu_ (i := 10) (N := some 68) b8_11 HT_ ?_
          refine last_ (i := 11) (N := none) b8_10 rfl rfl (one_of HT_.out KR) (by decide) (fun K hK => ?_)
          refine skip_ (w1 := ?_) (by rfl) rfl ?_ ?_
          rotate_left
          ·go_simp
           rfl
          refine hK.out _ _ ?_
          clear hK K
          refine done_ (done_of HT_.out KR) ?_
          generalize hW_ : (w74.setCell ⟨go50, (((rd_T121 l0 a1_0).f2) : Int).toNat, none⟩ (.int .i64 (rd l1_1 ((rd_T121 l0 a1_0).f1)))) = w76
          replace HO222 : Aside0 (Kd.R (Kd.int .i64) 3 w76 w.heap.size (fun k_ => some k_ ≠ (.slice Ao61 t223.length co61 : Value).ownBlock ∧ some k_ ≠ (.slice (some ⟨go50, 0, none⟩) t226.length co62 : Value).ownBlock) (.slice Ao60 t220.length co60) t220) := ⟨by rw [← hW_]; exact RX (Kd.R_mono HO222.out (fun k_ hk => (⟨hk, fun e_ => hk.2 (by rw [e_]; rfl)⟩ : _ ∧ k_ ≠ go50))) (fun _ hk => by first | exact ⟨hk.1.1, hk.1.2⟩ | simp_all)⟩
          replace HO225 : Aside0 (Kd.R (Kd.int .i64) 3 w76 w.heap.size (fun k_ => some k_ ≠ (.slice Ao60 t220.length co60 : Value).ownBlock ∧ some k_ ≠ (.slice (some ⟨go50, 0, none⟩) t226.length co62 : Value).ownBlock) (.slice Ao61 t223.length co61) t223) := ⟨by rw [← hW_]; exact RX (Kd.R_mono HO225.out (fun k_ hk => (⟨hk, fun e_ => hk.2 (by rw [e_]; rfl)⟩ : _ ∧ k_ ≠ go50))) (fun _ hk => by first | exact ⟨hk.1.1, hk.1.2⟩ | simp_all)⟩
          replace BK217 := BQ hW_ HO228 BK217
          replace BK218 := BQ hW_ HO228 BK218
          replace BK229 := BQ hW_ HO228 BK229
          replace BK232 := BQ hW_ HO228 BK232
          replace HO228 : Aside0 (Kd.R (Kd.int .i64) 3 w76 w.heap.size (fun k_ => some k_ ≠ (.slice Ao60 t220.length co60 : Value).ownBlock ∧ some k_ ≠ (.slice Ao61 t223.length co61 : Value).ownBlock) (.slice (some ⟨go50, 0, none⟩) t226.length co62) y237) := ⟨by rw [← hW_]; exact PR HQ75⟩
          replace HB := BL hW_ HB
          (try clear hW_)
          obtain ⟨_, _, _, _, _, _, _, _⟩ := bc4 BK229
          obtain ⟨_, _, _, _, _, _, _, _⟩ := bc4 BK218
          try go_wp2
          refine bodyPost_ret (results_cell_row rfl _ _ gb218 45 #[.int .i64 (wrap64 (a1_0 + 1)), .slice Ao60 t220.length co60, .slice Ao61 t223.length co61, .slice (some ⟨go50, 0, none⟩) t226.length co62] (0, 0) _ rfl (PX BK218) Try.underlying45 rfl KR) rfl ?_
          exact ⟨_, _, _, RT, Re1 HO222 BK218, Re1 HO225 BK218, Re1 HO228 BK218, PB⟩
         ·rw [if_neg c49] at H
          exact absurd H (by simp)
        ·rw [if_neg c48] at H
         exact absurd H (by simp)
       ·rw [if_neg c47] at H
        exact absurd H (by simp)
      ·rw [if_neg c46] at H
       exact absurd H (by simp)
     ·rw [if_neg c45] at H
      have c45b0 : (((rd_T121 l0 a1_0).f0) == 6) = false := beq_eq_false_iff_ne.mpr c45
      have c45b1 : (((rd_T121 l0 a1_0).f0) != 6) = true := bne_iff_ne.mpr c45
      by_cases c79 : ((rd_T121 l0 a1_0).f0) = 7
      ·rw [if_pos c79] at H
       have c79b0 : (((rd_T121 l0 a1_0).f0) == 7) = true := beq_iff_eq.mpr c79
       have c79b1 : (((rd_T121 l0 a1_0).f0) != 7) = false := bne_eq_false_iff_eq.mpr c79
       clear c79
       by_cases c80 : 0 ≤ ((rd_T121 l0 a1_0).f1)
       ·rw [if_pos c80] at H
        have c80b0 : decide (0 ≤ ((rd_T121 l0 a1_0).f1)) = true := decide_eq_true c80
        clear c80
        by_cases c81 : ((rd_T121 l0 a1_0).f1) < (l1_1.length : Int)
        ·rw [if_pos c81] at H
         have c81b0 : decide (((rd_T121 l0 a1_0).f1) < (l1_1.length : Int)) = true := decide_eq_true c81
         clear c81
         by_cases c82 : (Int.tmod (rd l1_1 ((rd_T121 l0 a1_0).f1)) 2) = 0
         ·rw [if_pos c82] at H
          have c82b0 : ((Int.tmod (rd l1_1 ((rd_T121 l0 a1_0).f1)) 2) == 0) = true := beq_iff_eq.mpr c82
          have c82b1 : ((Int.tmod (rd l1_1 ((rd_T121 l0 a1_0).f1)) 2) != 0) = false := bne_eq_false_iff_eq.mpr c82
          clear c82
          simp only [Option.some.injEq, Prod.mk.injEq] at H
          obtain ⟨rfl, rfl, rfl, rfl⟩ := H
          go_enter Try.func39, Try.ntmps39
          go_upto_region 19 with (first | ((with_reducible refine gate_dst (N := 4) rfl ?_); refine bx_ (N := 4) #[.int .i64 a1_0, .slice A1_1 l1_1.length c1_1, .slice A1_2 l1_2.length c1_2, .slice A1_3 l1_3.length c1_3] 45 ?_; intro gb217 hg w83 hbox hb; have BK217 := ak hbox; have GW217 := gy hg HB; have GE217 := gy hg HB; replace HB := bs HB hb; clear hb hbox hg) | ((with_reducible refine gate_dst (N := 6) rfl ?_); refine bx_ (N := 6) #[.int .i64 0, .slice none 0 0, .slice none 0 0, .slice none 0 0] 45 ?_; intro gb218 hg w84 hbox hb; have BK218 := ak hbox; have GW218 := gy hg HB; have GE218 := gy hg HB; replace HB := bs HB hb; have NB217_218 := gm hg BK217; have NB218_217 := gn hg BK217; replace BK217 := kf BK217 hb; clear hb hbox hg; have hnb85 := NB217_218.out; have hnc85 := NB218_217.out; obtain ⟨_, _, _, _, _, _, _, _⟩ := bc4 BK217) | ((with_reducible refine gate_callee (f := 97) rfl ?_); refine goesL_ (some 10) rfl rfl Try.func97 KR rfl #[.agg #[.int .i64 a1_0, .slice A1_1 l1_1.length c1_1, .slice A1_2 l1_2.length c1_2, .slice A1_3 l1_3.length c1_3]] rfl AR ?_; (with_reducible refine (spec_l11Copy.calls a1_0 _ _ l1_1 _ _ l1_2 _ _ l1_3 t219 t220 t223 t226 _ ?side1 ?side2 ?side3 ?side4 ?side5 ?side6 A4.out).mono ?_); (case side1 => exact CR (Kd.C_below HR1_1.out HB.out)); (case side2 => exact HC1_1.out); (case side3 => exact CR (Kd.C_below HR1_2.out HB.out)); (case side4 => exact HC1_2.out); (case side5 => exact CR (Kd.C_below HR1_3.out HB.out)); (case side6 => exact HC1_3.out); rintro e w87 ⟨v221, v224, v227, rfl, ho0, ho1, ho2, hb⟩; refine ⟨_, rfl, ?_⟩; have HO222 := Rn0 ho0 HB; have HO225 := Rn0 ho1 HB; have HO228 := Rn0 ho2 HB; replace BK217 := kf BK217 hb; replace BK218 := kf BK218 hb; replace HB := bs HB hb; (try clear hb); (try clear hb2); (try clear hk); (try clear hi); (try clear ho0); (try clear ho1); (try clear ho2)) | ((with_reducible refine gate_dst (N := 7) rfl ?_); refine bx_ (N := 7) #[.int .i64 0, .slice none 0 0, .slice none 0 0, .slice none 0 0] 45 ?_; intro gb229 hg w88 hbox hb; replace HO222 := Rb HO222 hb; replace HO225 := Rb HO225 hb; replace HO228 := Rb HO228 hb; have BK229 := ak hbox; have GW229 := gy hg HB; have GE229 := gy hg HB; replace HB := bs HB hb; have NB217_229 := gm hg BK217; have NB229_217 := gn hg BK217; replace BK217 := kf BK217 hb; have NB218_229 := gm hg BK218; have NB229_218 := gn hg BK218; replace BK218 := kf BK218 hb; clear hb hbox hg; have hnb89 := NB229_217.out; have hnc89 := NB217_229.out; have hnb90 := NB229_218.out; have hnc90 := NB218_229.out; obtain ⟨_, _, _, _, _, _, _, _⟩ := bc4 BK229; obtain ⟨Ao92, co92, eo92⟩ := Kd.R_slice HO222.out; subst eo92; obtain ⟨Ao93, co93, eo93⟩ := Kd.R_slice HO225.out; subst eo93; obtain ⟨Ao94, co94, eo94⟩ := Kd.R_slice HO228.out; subst eo94; obtain ⟨_, _, _, _, _, _, _, _⟩ := bc4 BK217) | ((with_reducible refine gate_callee (f := 98) rfl ?_); refine goesL_ (some 13) rfl rfl Try.func98 KR rfl #[.slice A0 l0.length c0, .agg #[.int .i64 a1_0, .slice A1_1 l1_1.length c1_1, .slice A1_2 l1_2.length c1_2, .slice A1_3 l1_3.length c1_3]] rfl AR ?_; (with_reducible refine (spec_l11Can.calls k _ _ l0 a1_0 _ _ l1_1 _ _ l1_2 _ _ l1_3 true _ ?side1 ?side2 ?side3 ?side4 ?side5 ?side6 ?side7 ?side8 A5.out).mono ?_); (case side1 => exact Kd.C_below HR0.out PB); (case side2 => exact HC0.out); (case side3 => exact Kd.C_below HR1_1.out PB); (case side4 => exact HC1_1.out); (case side5 => exact Kd.C_below HR1_2.out PB); (case side6 => exact HC1_2.out); (case side7 => exact Kd.C_below HR1_3.out PB); (case side8 => exact HC1_3.out); rintro e w96 ⟨rfl, hb⟩; refine ⟨_, rfl, ?_⟩; replace HO222 := ak (Kd.R_below (Re1 HO222 BK229) hb); replace HO225 := ak (Kd.R_below (Re1 HO225 BK229) hb); replace HO228 := ak (Kd.R_below (Re1 HO228 BK229) hb); replace BK217 := kf BK217 hb; replace BK218 := kf BK218 hb; replace BK229 := kp (cs' := #[.int .i64 t219, .slice Ao92 t220.length co92, .slice Ao93 t223.length co93, .slice Ao94 t226.length co94]) BK229 hb; replace HB := bs HB hb; (try clear hb); (try clear hb2); (try clear hk); (try clear hi); obtain ⟨_, _, _, _, _, _, _, _⟩ := bc4 BK217; have p231 : 0 ≤ (a1_0 : Int) := of_decide_eq_true (by first | (with_reducible assumption) | assumption); have q231 : a1_0 < (l0.length : Int) := of_decide_eq_true (by first | (with_reducible assumption) | assumption); obtain ⟨ad231, e231, hx231_0, hx231_1, hx231_2, hx231_3⟩ := at_T121 HR0.out a1_0 p231 q231; cases e231; replace hx231_0 := hx_ HB hx231_0; replace hx231_1 := hx_ HB hx231_1; replace hx231_2 := hx_ HB hx231_2; replace hx231_3 := hx_ HB hx231_3; replace p231 := eq_true p231; replace q231 := eq_true q231) | ((with_reducible refine gate_dst (N := 8) rfl ?_); refine bx_ (N := 8) #[.int .i64 0, .int .i64 0, .int .i64 0, .int .i64 0] 121 ?_; intro gb232 hg w98 hbox hb; replace HO222 := Rb HO222 hb; replace HO225 := Rb HO225 hb; replace HO228 := Rb HO228 hb; have BK232 := ak hbox; have GW232 := gy hg HB; have GE232 := gy hg HB; replace HB := bs HB hb; have NB217_232 := gm hg BK217; have NB232_217 := gn hg BK217; replace BK217 := kf BK217 hb; have NB218_232 := gm hg BK218; have NB232_218 := gn hg BK218; replace BK218 := kf BK218 hb; have NB229_232 := gm hg BK229; have NB232_229 := gn hg BK229; replace BK229 := kf BK229 hb; clear hb hbox hg; have hnb99 := NB232_217.out; have hnc99 := NB217_232.out; have hnb100 := NB232_218.out; have hnc100 := NB218_232.out; have hnb101 := NB232_229.out; have hnc101 := NB229_232.out; obtain ⟨_, _, _, _, _, _, _, _⟩ := bc4 BK232; obtain ⟨_, _, _, _, _, _, _, _⟩ := bc4 BK217; obtain ⟨_, _, _, _, _, _, _, _⟩ := bc4 BK229; have p238 : 0 ≤ (((rd_T121 l0 a1_0).f1) : Int) := of_decide_eq_true (by first | (with_reducible assumption) | assumption); have q238 : ((rd_T121 l0 a1_0).f1) < (l1_1.length : Int) := of_decide_eq_true (by first | (with_reducible assumption) | assumption); obtain ⟨ad238, e238, hx238_0⟩ := Kd.at_int HR1_1.out ((rd_T121 l0 a1_0).f1) p238 q238; cases e238; have hn238_0 : ad238.block ≠ gb232 := Nat.ne_of_lt (Nat.lt_of_lt_of_le (by have := World.block_lt_of_cell? _ _ hx238_0; first | rwa [add_block] at this | exact this) GW232.out); have hn238_1 : ad238.block ≠ gb232 := Nat.ne_of_lt (Nat.lt_of_lt_of_le (by have := World.block_lt_of_cell? _ _ hx238_0; first | rwa [add_block] at this | exact this) GW232.out); have hn238_2 : ad238.block ≠ gb232 := Nat.ne_of_lt (Nat.lt_of_lt_of_le (by have := World.block_lt_of_cell? _ _ hx238_0; first | rwa [add_block] at this | exact this) GW232.out); have hn238_3 : ad238.block ≠ gb232 := Nat.ne_of_lt (Nat.lt_of_lt_of_le (by have := World.block_lt_of_cell? _ _ hx238_0; first | rwa [add_block] at this | exact this) GW232.out); have hn238_4 : ad238.block ≠ gb229 := Nat.ne_of_lt (Nat.lt_of_lt_of_le (by have := World.block_lt_of_cell? _ _ hx238_0; first | rwa [add_block] at this | exact this) GW229.out); replace hx238_0 := hx_ HB hx238_0; replace hx238_0 := (cell_far (p := ⟨gb232, 0, none⟩) (by first | (rw [add_block]; exact hn238_0) | (show (Addr.add _ _).block ≠ _; rw [add_block]; exact hn238_0) | exact hn238_0) (.int .i64 ((rd_T121 l0 a1_0).f0))).trans hx238_0; replace hx238_0 := (cell_far (p := ⟨gb232, 1, none⟩) (by first | (rw [add_block]; exact hn238_1) | (show (Addr.add _ _).block ≠ _; rw [add_block]; exact hn238_1) | exact hn238_1) (.int .i64 ((rd_T121 l0 a1_0).f1))).trans hx238_0; replace hx238_0 := (cell_far (p := ⟨gb232, 2, none⟩) (by first | (rw [add_block]; exact hn238_2) | (show (Addr.add _ _).block ≠ _; rw [add_block]; exact hn238_2) | exact hn238_2) (.int .i64 ((rd_T121 l0 a1_0).f2))).trans hx238_0; replace hx238_0 := (cell_far (p := ⟨gb232, 3, none⟩) (by first | (rw [add_block]; exact hn238_3) | (show (Addr.add _ _).block ≠ _; rw [add_block]; exact hn238_3) | exact hn238_3) (.int .i64 ((rd_T121 l0 a1_0).f3))).trans hx238_0; replace hx238_0 := (cell_far (p := ⟨gb229, 0, none⟩) (by first | (rw [add_block]; exact hn238_4) | (show (Addr.add _ _).block ≠ _; rw [add_block]; exact hn238_4) | exact hn238_4) (.int .i64 (wrap64 (a1_0 + 1)))).trans hx238_0; clear hn238_0 hn238_1 hn238_2 hn238_3; clear hn238_4; replace p238 := eq_true p238; replace q238 := eq_true q238; obtain ⟨_, _, _, _, _, _, _, _⟩ := bc4 BK218))
          generalize hW_ : World.setCell (World.setCell _ ⟨gb229, 0, none⟩ _) ⟨gb229, 0, none⟩ _ = wz_
          replace HO222 := R2 hW_ HO222 BK232 BK229
          replace HO225 := R2 hW_ HO225 BK232 BK229
          replace HO228 := R2 hW_ HO228 BK232 BK229
          replace BK217 := BE hW_ BK217
          replace BK218 := BE hW_ BK218
          replace BK229 : Aside0 (wz_.heap[gb229]? = some (.cells #[.int .i64 (wrap64 ((wrap64 (a1_0 + 1)) + ((rd_T121 l0 a1_0).f2))), .slice Ao92 t220.length co92, .slice Ao93 t223.length co93, .slice Ao94 t226.length co94] 45 (0, 0))) := BP hW_ BK229
          replace HB := BL hW_ HB
          (try clear hW_)
          obtain ⟨_, _, _, _, _, _, _, _⟩ := bc4 BK229
          obtain ⟨_, _, _, _, _, _, _, _⟩ := bc4 BK218
          go_wp2
          refine bodyPost_ret (results_cell_row rfl _ _ gb218 45 #[.int .i64 (wrap64 ((wrap64 (a1_0 + 1)) + ((rd_T121 l0 a1_0).f2))), .slice Ao92 t220.length co92, .slice Ao93 t223.length co93, .slice Ao94 t226.length co94] (0, 0) _ rfl (PX BK218) Try.underlying45 rfl KR) rfl ?_
          exact ⟨_, _, _, RT, Re1 HO222 BK218, Re1 HO225 BK218, Re1 HO228 BK218, PB⟩
         ·rw [if_neg c82] at H
          have c82b0 : ((Int.tmod (rd l1_1 ((rd_T121 l0 a1_0).f1)) 2) == 0) = false := beq_eq_false_iff_ne.mpr c82
          have c82b1 : ((Int.tmod (rd l1_1 ((rd_T121 l0 a1_0).f1)) 2) != 0) = true := bne_iff_ne.mpr c82
          simp only [Option.some.injEq, Prod.mk.injEq] at H
          obtain ⟨rfl, rfl, rfl, rfl⟩ := H
          go_enter Try.func39, Try.ntmps39
          go_wp2_with (first | ((with_reducible refine gate_dst (N := 4) rfl ?_); refine bx_ (N := 4) #[.int .i64 a1_0, .slice A1_1 l1_1.length c1_1, .slice A1_2 l1_2.length c1_2, .slice A1_3 l1_3.length c1_3] 45 ?_; intro gb217 hg w106 hbox hb; have BK217 := ak hbox; have GW217 := gy hg HB; have GE217 := gy hg HB; replace HB := bs HB hb; clear hb hbox hg) | ((with_reducible refine gate_dst (N := 6) rfl ?_); refine bx_ (N := 6) #[.int .i64 0, .slice none 0 0, .slice none 0 0, .slice none 0 0] 45 ?_; intro gb218 hg w107 hbox hb; have BK218 := ak hbox; have GW218 := gy hg HB; have GE218 := gy hg HB; replace HB := bs HB hb; have NB217_218 := gm hg BK217; have NB218_217 := gn hg BK217; replace BK217 := kf BK217 hb; clear hb hbox hg; have hnb108 := NB217_218.out; have hnc108 := NB218_217.out; obtain ⟨_, _, _, _, _, _, _, _⟩ := bc4 BK217) | ((with_reducible refine gate_callee (f := 97) rfl ?_); refine goesL_ (some 10) rfl rfl Try.func97 KR rfl #[.agg #[.int .i64 a1_0, .slice A1_1 l1_1.length c1_1, .slice A1_2 l1_2.length c1_2, .slice A1_3 l1_3.length c1_3]] rfl AR ?_; (with_reducible refine (spec_l11Copy.calls a1_0 _ _ l1_1 _ _ l1_2 _ _ l1_3 t219 t220 t223 t226 _ ?side1 ?side2 ?side3 ?side4 ?side5 ?side6 A4.out).mono ?_); (case side1 => exact CR (Kd.C_below HR1_1.out HB.out)); (case side2 => exact HC1_1.out); (case side3 => exact CR (Kd.C_below HR1_2.out HB.out)); (case side4 => exact HC1_2.out); (case side5 => exact CR (Kd.C_below HR1_3.out HB.out)); (case side6 => exact HC1_3.out); rintro e w110 ⟨v221, v224, v227, rfl, ho0, ho1, ho2, hb⟩; refine ⟨_, rfl, ?_⟩; have HO222 := Rn0 ho0 HB; have HO225 := Rn0 ho1 HB; have HO228 := Rn0 ho2 HB; replace BK217 := kf BK217 hb; replace BK218 := kf BK218 hb; replace HB := bs HB hb; (try clear hb); (try clear hb2); (try clear hk); (try clear hi); (try clear ho0); (try clear ho1); (try clear ho2)) | ((with_reducible refine gate_dst (N := 7) rfl ?_); refine bx_ (N := 7) #[.int .i64 0, .slice none 0 0, .slice none 0 0, .slice none 0 0] 45 ?_; intro gb229 hg w111 hbox hb; replace HO222 := Rb HO222 hb; replace HO225 := Rb HO225 hb; replace HO228 := Rb HO228 hb; have BK229 := ak hbox; have GW229 := gy hg HB; have GE229 := gy hg HB; replace HB := bs HB hb; have NB217_229 := gm hg BK217; have NB229_217 := gn hg BK217; replace BK217 := kf BK217 hb; have NB218_229 := gm hg BK218; have NB229_218 := gn hg BK218; replace BK218 := kf BK218 hb; clear hb hbox hg; have hnb112 := NB229_217.out; have hnc112 := NB217_229.out; have hnb113 := NB229_218.out; have hnc113 := NB218_229.out; obtain ⟨_, _, _, _, _, _, _, _⟩ := bc4 BK229; obtain ⟨Ao115, co115, eo115⟩ := Kd.R_slice HO222.out; subst eo115; obtain ⟨Ao116, co116, eo116⟩ := Kd.R_slice HO225.out; subst eo116; obtain ⟨Ao117, co117, eo117⟩ := Kd.R_slice HO228.out; subst eo117; obtain ⟨_, _, _, _, _, _, _, _⟩ := bc4 BK217) | ((with_reducible refine gate_callee (f := 98) rfl ?_); refine goesL_ (some 13) rfl rfl Try.func98 KR rfl #[.slice A0 l0.length c0, .agg #[.int .i64 a1_0, .slice A1_1 l1_1.length c1_1, .slice A1_2 l1_2.length c1_2, .slice A1_3 l1_3.length c1_3]] rfl AR ?_; (with_reducible refine (spec_l11Can.calls k _ _ l0 a1_0 _ _ l1_1 _ _ l1_2 _ _ l1_3 true _ ?side1 ?side2 ?side3 ?side4 ?side5 ?side6 ?side7 ?side8 A5.out).mono ?_); (case side1 => exact Kd.C_below HR0.out PB); (case side2 => exact HC0.out); (case side3 => exact Kd.C_below HR1_1.out PB); (case side4 => exact HC1_1.out); (case side5 => exact Kd.C_below HR1_2.out PB); (case side6 => exact HC1_2.out); (case side7 => exact Kd.C_below HR1_3.out PB); (case side8 => exact HC1_3.out); rintro e w119 ⟨rfl, hb⟩; refine ⟨_, rfl, ?_⟩; replace HO222 := ak (Kd.R_below (Re1 HO222 BK229) hb); replace HO225 := ak (Kd.R_below (Re1 HO225 BK229) hb); replace HO228 := ak (Kd.R_below (Re1 HO228 BK229) hb); replace BK217 := kf BK217 hb; replace BK218 := kf BK218 hb; replace BK229 := kp (cs' := #[.int .i64 t219, .slice Ao115 t220.length co115, .slice Ao116 t223.length co116, .slice Ao117 t226.length co117]) BK229 hb; replace HB := bs HB hb; (try clear hb); (try clear hb2); (try clear hk); (try clear hi); obtain ⟨_, _, _, _, _, _, _, _⟩ := bc4 BK217; have p231 : 0 ≤ (a1_0 : Int) := of_decide_eq_true (by first | (with_reducible assumption) | assumption); have q231 : a1_0 < (l0.length : Int) := of_decide_eq_true (by first | (with_reducible assumption) | assumption); obtain ⟨ad231, e231, hx231_0, hx231_1, hx231_2, hx231_3⟩ := at_T121 HR0.out a1_0 p231 q231; cases e231; replace hx231_0 := hx_ HB hx231_0; replace hx231_1 := hx_ HB hx231_1; replace hx231_2 := hx_ HB hx231_2; replace hx231_3 := hx_ HB hx231_3; replace p231 := eq_true p231; replace q231 := eq_true q231) | ((with_reducible refine gate_dst (N := 8) rfl ?_); refine bx_ (N := 8) #[.int .i64 0, .int .i64 0, .int .i64 0, .int .i64 0] 121 ?_; intro gb232 hg w121 hbox hb; replace HO222 := Rb HO222 hb; replace HO225 := Rb HO225 hb; replace HO228 := Rb HO228 hb; have BK232 := ak hbox; have GW232 := gy hg HB; have GE232 := gy hg HB; replace HB := bs HB hb; have NB217_232 := gm hg BK217; have NB232_217 := gn hg BK217; replace BK217 := kf BK217 hb; have NB218_232 := gm hg BK218; have NB232_218 := gn hg BK218; replace BK218 := kf BK218 hb; have NB229_232 := gm hg BK229; have NB232_229 := gn hg BK229; replace BK229 := kf BK229 hb; clear hb hbox hg; have hnb122 := NB232_217.out; have hnc122 := NB217_232.out; have hnb123 := NB232_218.out; have hnc123 := NB218_232.out; have hnb124 := NB232_229.out; have hnc124 := NB229_232.out; obtain ⟨_, _, _, _, _, _, _, _⟩ := bc4 BK232; obtain ⟨_, _, _, _, _, _, _, _⟩ := bc4 BK217; obtain ⟨_, _, _, _, _, _, _, _⟩ := bc4 BK229; have p238 : 0 ≤ (((rd_T121 l0 a1_0).f1) : Int) := of_decide_eq_true (by first | (with_reducible assumption) | assumption); have q238 : ((rd_T121 l0 a1_0).f1) < (l1_1.length : Int) := of_decide_eq_true (by first | (with_reducible assumption) | assumption); obtain ⟨ad238, e238, hx238_0⟩ := Kd.at_int HR1_1.out ((rd_T121 l0 a1_0).f1) p238 q238; cases e238; have hn238_0 : ad238.block ≠ gb232 := Nat.ne_of_lt (Nat.lt_of_lt_of_le (by have := World.block_lt_of_cell? _ _ hx238_0; first | rwa [add_block] at this | exact this) GW232.out); have hn238_1 : ad238.block ≠ gb232 := Nat.ne_of_lt (Nat.lt_of_lt_of_le (by have := World.block_lt_of_cell? _ _ hx238_0; first | rwa [add_block] at this | exact this) GW232.out); have hn238_2 : ad238.block ≠ gb232 := Nat.ne_of_lt (Nat.lt_of_lt_of_le (by have := World.block_lt_of_cell? _ _ hx238_0; first | rwa [add_block] at this | exact this) GW232.out); have hn238_3 : ad238.block ≠ gb232 := Nat.ne_of_lt (Nat.lt_of_lt_of_le (by have := World.block_lt_of_cell? _ _ hx238_0; first | rwa [add_block] at this | exact this) GW232.out); have hn238_4 : ad238.block ≠ gb229 := Nat.ne_of_lt (Nat.lt_of_lt_of_le (by have := World.block_lt_of_cell? _ _ hx238_0; first | rwa [add_block] at this | exact this) GW229.out); replace hx238_0 := hx_ HB hx238_0; replace hx238_0 := (cell_far (p := ⟨gb232, 0, none⟩) (by first | (rw [add_block]; exact hn238_0) | (show (Addr.add _ _).block ≠ _; rw [add_block]; exact hn238_0) | exact hn238_0) (.int .i64 ((rd_T121 l0 a1_0).f0))).trans hx238_0; replace hx238_0 := (cell_far (p := ⟨gb232, 1, none⟩) (by first | (rw [add_block]; exact hn238_1) | (show (Addr.add _ _).block ≠ _; rw [add_block]; exact hn238_1) | exact hn238_1) (.int .i64 ((rd_T121 l0 a1_0).f1))).trans hx238_0; replace hx238_0 := (cell_far (p := ⟨gb232, 2, none⟩) (by first | (rw [add_block]; exact hn238_2) | (show (Addr.add _ _).block ≠ _; rw [add_block]; exact hn238_2) | exact hn238_2) (.int .i64 ((rd_T121 l0 a1_0).f2))).trans hx238_0; replace hx238_0 := (cell_far (p := ⟨gb232, 3, none⟩) (by first | (rw [add_block]; exact hn238_3) | (show (Addr.add _ _).block ≠ _; rw [add_block]; exact hn238_3) | exact hn238_3) (.int .i64 ((rd_T121 l0 a1_0).f3))).trans hx238_0; replace hx238_0 := (cell_far (p := ⟨gb229, 0, none⟩) (by first | (rw [add_block]; exact hn238_4) | (show (Addr.add _ _).block ≠ _; rw [add_block]; exact hn238_4) | exact hn238_4) (.int .i64 (wrap64 (a1_0 + 1)))).trans hx238_0; clear hn238_0 hn238_1 hn238_2 hn238_3; clear hn238_4; replace p238 := eq_true p238; replace q238 := eq_true q238; obtain ⟨_, _, _, _, _, _, _, _⟩ := bc4 BK218))
          refine bodyPost_ret (results_cell_row rfl _ _ gb218 45 #[.int .i64 (wrap64 (a1_0 + 1)), .slice Ao115 t220.length co115, .slice Ao116 t223.length co116, .slice Ao117 t226.length co117] (0, 0) _ rfl (PX BK218) Try.underlying45 rfl KR) rfl ?_
          exact ⟨_, _, _, RT, Re3 HO222 BK232 BK229 BK218, Re3 HO225 BK232 BK229 BK218, Re3 HO228 BK232 BK229 BK218, PB⟩
        ·rw [if_neg c81] at H
         exact absurd H (by simp)
       ·rw [if_neg c80] at H
        exact absurd H (by simp)
      ·rw [if_neg c79] at H
       have c79b0 : (((rd_T121 l0 a1_0).f0) == 7) = false := beq_eq_false_iff_ne.mpr c79
       have c79b1 : (((rd_T121 l0 a1_0).f0) != 7) = true := bne_iff_ne.mpr c79
       by_cases c129 : ((rd_T121 l0 a1_0).f0) = 8
       ·rw [if_pos c129] at H
        have c129b0 : (((rd_T121 l0 a1_0).f0) == 8) = true := beq_iff_eq.mpr c129
        have c129b1 : (((rd_T121 l0 a1_0).f0) != 8) = false := bne_eq_false_iff_eq.mpr c129
        clear c129
        by_cases c130 : 0 ≤ ((rd_T121 l0 a1_0).f2)
        ·rw [if_pos c130] at H
         have c130b0 : decide (0 ≤ ((rd_T121 l0 a1_0).f2)) = true := decide_eq_true c130
         clear c130
         by_cases c131 : ((rd_T121 l0 a1_0).f2) < (l1_2.length : Int)
         ·rw [if_pos c131] at H
          have c131b0 : decide (((rd_T121 l0 a1_0).f2) < (l1_2.length : Int)) = true := decide_eq_true c131
          clear c131
          by_cases c132 : 0 ≤ ((rd_T121 l0 a1_0).f1)
          ·rw [if_pos c132] at H
           have c132b0 : decide (0 ≤ ((rd_T121 l0 a1_0).f1)) = true := decide_eq_true c132
           clear c132
           by_cases c133 : ((rd_T121 l0 a1_0).f1) < (t220.length : Int)
           ·rw [if_pos c133] at H
            have c133b0 : decide (((rd_T121 l0 a1_0).f1) < (t220.length : Int)) = true := decide_eq_true c133
            clear c133
            obtain ⟨y240, hy240⟩ : ∃ y_ : List Int, y_ = (t220.set (((rd_T121 l0 a1_0).f1) : Int).toNat (rd l1_2 ((rd_T121 l0 a1_0).f2))) := ⟨_, rfl⟩
            replace H : (some (wrap64 (a1_0 + 1), y240, t223, t226)) = some (r1, r2, r3, r4) := by first | (rw [hy240]; with_reducible exact H) | (have H2_ := (Option.bind_some _ _).symm.trans H; rw [hy240]; with_reducible exact H2_) | (have H2_ := (Option.bind_some _ _).symm.trans H; with_reducible exact H2_) | with_reducible exact H | (rw [hy240]; exact H) | exact H
            have Ny240 := Aside0.mk hy240
            clear hy240
            simp only [Option.some.injEq, Prod.mk.injEq] at H
            obtain ⟨rfl, rfl, rfl, rfl⟩ := H
            go_enter Try.func39, Try.ntmps39
            try go_wp2_with (first | ((with_reducible refine gate_dst (N := 4) rfl ?_); refine bx_ (N := 4) #[.int .i64 a1_0, .slice A1_1 l1_1.length c1_1, .slice A1_2 l1_2.length c1_2, .slice A1_3 l1_3.length c1_3] 45 ?_; intro gb217 hg w135 hbox hb; have BK217 := ak hbox; have GW217 := gy hg HB; have GE217 := gy hg HB; replace HB := bs HB hb; clear hb hbox hg) | ((with_reducible refine gate_dst (N := 6) rfl ?_); refine bx_ (N := 6) #[.int .i64 0, .slice none 0 0, .slice none 0 0, .slice none 0 0] 45 ?_; intro gb218 hg w136 hbox hb; have BK218 := ak hbox; have GW218 := gy hg HB; have GE218 := gy hg HB; replace HB := bs HB hb; have NB217_218 := gm hg BK217; have NB218_217 := gn hg BK217; replace BK217 := kf BK217 hb; clear hb hbox hg; have hnb137 := NB217_218.out; have hnc137 := NB218_217.out; obtain ⟨_, _, _, _, _, _, _, _⟩ := bc4 BK217) | ((with_reducible refine gate_callee (f := 97) rfl ?_); refine goesL_ (some 10) rfl rfl Try.func97 KR rfl #[.agg #[.int .i64 a1_0, .slice A1_1 l1_1.length c1_1, .slice A1_2 l1_2.length c1_2, .slice A1_3 l1_3.length c1_3]] rfl AR ?_; (with_reducible refine (spec_l11Copy.calls a1_0 _ _ l1_1 _ _ l1_2 _ _ l1_3 t219 t220 t223 t226 _ ?side1 ?side2 ?side3 ?side4 ?side5 ?side6 A4.out).mono ?_); (case side1 => exact CR (Kd.C_below HR1_1.out HB.out)); (case side2 => exact HC1_1.out); (case side3 => exact CR (Kd.C_below HR1_2.out HB.out)); (case side4 => exact HC1_2.out); (case side5 => exact CR (Kd.C_below HR1_3.out HB.out)); (case side6 => exact HC1_3.out); rintro e w139 ⟨v221, v224, v227, rfl, ho0, ho1, ho2, hb⟩; refine ⟨_, rfl, ?_⟩; have HO222 := Rn0 ho0 HB; have HO225 := Rn0 ho1 HB; have HO228 := Rn0 ho2 HB; replace BK217 := kf BK217 hb; replace BK218 := kf BK218 hb; replace HB := bs HB hb; (try clear hb); (try clear hb2); (try clear hk); (try clear hi); (try clear ho0); (try clear ho1); (try clear ho2)) | ((with_reducible refine gate_dst (N := 7) rfl ?_); refine bx_ (N := 7) #[.int .i64 0, .slice none 0 0, .slice none 0 0, .slice none 0 0] 45 ?_; intro gb229 hg w140 hbox hb; replace HO222 := Rb HO222 hb; replace HO225 := Rb HO225 hb; replace HO228 := Rb HO228 hb; have BK229 := ak hbox; have GW229 := gy hg HB; have GE229 := gy hg HB; replace HB := bs HB hb; have NB217_229 := gm hg BK217; have NB229_217 := gn hg BK217; replace BK217 := kf BK217 hb; have NB218_229 := gm hg BK218; have NB229_218 := gn hg BK218; replace BK218 := kf BK218 hb; clear hb hbox hg; have hnb141 := NB229_217.out; have hnc141 := NB217_229.out; have hnb142 := NB229_218.out; have hnc142 := NB218_229.out; obtain ⟨_, _, _, _, _, _, _, _⟩ := bc4 BK229; obtain ⟨Ao144, co144, eo144⟩ := Kd.R_slice HO222.out; subst eo144; obtain ⟨Ao145, co145, eo145⟩ := Kd.R_slice HO225.out; subst eo145; obtain ⟨Ao146, co146, eo146⟩ := Kd.R_slice HO228.out; subst eo146; obtain ⟨_, _, _, _, _, _, _, _⟩ := bc4 BK217) | ((with_reducible refine gate_callee (f := 98) rfl ?_); refine goesL_ (some 13) rfl rfl Try.func98 KR rfl #[.slice A0 l0.length c0, .agg #[.int .i64 a1_0, .slice A1_1 l1_1.length c1_1, .slice A1_2 l1_2.length c1_2, .slice A1_3 l1_3.length c1_3]] rfl AR ?_; (with_reducible refine (spec_l11Can.calls k _ _ l0 a1_0 _ _ l1_1 _ _ l1_2 _ _ l1_3 true _ ?side1 ?side2 ?side3 ?side4 ?side5 ?side6 ?side7 ?side8 A5.out).mono ?_); (case side1 => exact Kd.C_below HR0.out PB); (case side2 => exact HC0.out); (case side3 => exact Kd.C_below HR1_1.out PB); (case side4 => exact HC1_1.out); (case side5 => exact Kd.C_below HR1_2.out PB); (case side6 => exact HC1_2.out); (case side7 => exact Kd.C_below HR1_3.out PB); (case side8 => exact HC1_3.out); rintro e w148 ⟨rfl, hb⟩; refine ⟨_, rfl, ?_⟩; replace HO222 := ak (Kd.R_below (Re1 HO222 BK229) hb); replace HO225 := ak (Kd.R_below (Re1 HO225 BK229) hb); replace HO228 := ak (Kd.R_below (Re1 HO228 BK229) hb); replace BK217 := kf BK217 hb; replace BK218 := kf BK218 hb; replace BK229 := kp (cs' := #[.int .i64 t219, .slice Ao144 t220.length co144, .slice Ao145 t223.length co145, .slice Ao146 t226.length co146]) BK229 hb; replace HB := bs HB hb; (try clear hb); (try clear hb2); (try clear hk); (try clear hi); obtain ⟨_, _, _, _, _, _, _, _⟩ := bc4 BK217; have p231 : 0 ≤ (a1_0 : Int) := of_decide_eq_true (by first | (with_reducible assumption) | assumption); have q231 : a1_0 < (l0.length : Int) := of_decide_eq_true (by first | (with_reducible assumption) | assumption); obtain ⟨ad231, e231, hx231_0, hx231_1, hx231_2, hx231_3⟩ := at_T121 HR0.out a1_0 p231 q231; cases e231; replace hx231_0 := hx_ HB hx231_0; replace hx231_1 := hx_ HB hx231_1; replace hx231_2 := hx_ HB hx231_2; replace hx231_3 := hx_ HB hx231_3; replace p231 := eq_true p231; replace q231 := eq_true q231) | ((with_reducible refine gate_dst (N := 8) rfl ?_); refine bx_ (N := 8) #[.int .i64 0, .int .i64 0, .int .i64 0, .int .i64 0] 121 ?_; intro gb232 hg w150 hbox hb; replace HO222 := Rb HO222 hb; replace HO225 := Rb HO225 hb; replace HO228 := Rb HO228 hb; have BK232 := ak hbox; have GW232 := gy hg HB; have GE232 := gy hg HB; replace HB := bs HB hb; have NB217_232 := gm hg BK217; have NB232_217 := gn hg BK217; replace BK217 := kf BK217 hb; have NB218_232 := gm hg BK218; have NB232_218 := gn hg BK218; replace BK218 := kf BK218 hb; have NB229_232 := gm hg BK229; have NB232_229 := gn hg BK229; replace BK229 := kf BK229 hb; clear hb hbox hg; have hnb151 := NB232_217.out; have hnc151 := NB217_232.out; have hnb152 := NB232_218.out; have hnc152 := NB218_232.out; have hnb153 := NB232_229.out; have hnc153 := NB229_232.out; obtain ⟨_, _, _, _, _, _, _, _⟩ := bc4 BK232; obtain ⟨_, _, _, _, _, _, _, _⟩ := bc4 BK217; obtain ⟨_, _, _, _, _, _, _, _⟩ := bc4 BK229))
            generalize hW_ : (((((w150.setCell ⟨gb232, 0, none⟩ (.int .i64 ((rd_T121 l0 a1_0).f0))).setCell ⟨gb232, 1, none⟩ (.int .i64 ((rd_T121 l0 a1_0).f1))).setCell ⟨gb232, 2, none⟩ (.int .i64 ((rd_T121 l0 a1_0).f2))).setCell ⟨gb232, 3, none⟩ (.int .i64 ((rd_T121 l0 a1_0).f3))).setCell ⟨gb229, 0, none⟩ (.int .i64 (wrap64 (a1_0 + 1)))) = w157
            replace HO222 := R2 hW_ HO222 BK232 BK229
            replace HO225 := R2 hW_ HO225 BK232 BK229
            replace HO228 := R2 hW_ HO228 BK232 BK229
            replace BK217 := BE hW_ BK217
            replace BK218 := BE hW_ BK218
            replace BK229 : Aside0 (w157.heap[gb229]? = some (.cells #[.int .i64 (wrap64 (a1_0 + 1)), .slice Ao144 t220.length co144, .slice Ao145 t223.length co145, .slice Ao146 t226.length co146] 45 (0, 0))) := BP hW_ BK229
            replace BK232 : Aside0 (w157.heap[gb232]? = some (.cells #[.int .i64 ((rd_T121 l0 a1_0).f0), .int .i64 ((rd_T121 l0 a1_0).f1), .int .i64 ((rd_T121 l0 a1_0).f2), .int .i64 ((rd_T121 l0 a1_0).f3)] 121 (0, 0))) := BP hW_ BK232
            replace HB := BL hW_ HB
            (try clear hW_)
            replace HO222 := ak (Kd.R_drew HO222.out)
            replace HO225 := ak (Kd.R_drew HO225.out)
            replace HO228 := ak (Kd.R_drew HO228.out)
            replace BK217 := ak (blk_drew BK217.out)
            replace BK218 := ak (blk_drew BK218.out)
            replace BK229 := ak (blk_drew BK229.out)
            replace BK232 := ak (blk_drew BK232.out)
            replace HB := ak (below_drew1 HB.out)
            have p239 : 0 ≤ (((rd_T121 l0 a1_0).f2) : Int) := of_decide_eq_true (by first | (with_reducible assumption) | assumption)
            have q239 : ((rd_T121 l0 a1_0).f2) < (l1_2.length : Int) := of_decide_eq_true (by first | (with_reducible assumption) | assumption)
            obtain ⟨ad239, e239, hx239_0⟩ := Kd.at_int HR1_2.out ((rd_T121 l0 a1_0).f2) p239 q239
            have hw239_0 := hx239_0
            cases e239
            replace hx239_0 := hx_ HB hx239_0
            replace p239 := eq_true p239
            replace q239 := eq_true q239
            have p134 : 0 ≤ (((rd_T121 l0 a1_0).f1) : Int) := of_decide_eq_true (by first | (with_reducible assumption) | assumption)
            have q134 : (((rd_T121 l0 a1_0).f1) : Int) < ((t220.length : Int) : Int) := of_decide_eq_true (by first | (with_reducible assumption) | assumption)
            obtain ⟨go134, co134, eo134, gb134, gl134, cl134, HG134⟩ := Kd.R_form HO222.out (by omega)
            (first | cases eo134 | (injection eo134 with ea_ en_ ec_; (first | subst ea_ | (injection ea_ with ea_; subst ea_)); subst ec_; clear en_))
            have GB134 := Aside0.mk gb134
            have GG134 := Aside0.mk HG134
            clear gb134 gl134 HG134
            obtain ⟨hx134_0, hf134_0⟩ := Kd.R_celln 0 HO222.out (((rd_T121 l0 a1_0).f1) : Int) p134 q134
            replace p134 := eq_true p134
            replace q134 := eq_true q134
            have HP159 := Kd.R_putn HO222.out (((rd_T121 l0 a1_0).f1) : Int) (rd l1_2 ((rd_T121 l0 a1_0).f2))
            rw [← Ny240.out] at HP159
            have HQ159 := Aside0.mk HP159
            clear HP159
            refine start_ (n := 12) (S := fun w' => w'.cell? ⟨gb229, 0, none⟩ = some (.int .i64 (wrap64 (a1_0 + 1))) ∧ w'.cell? ⟨gb229, 1, none⟩ = some (.slice (some ⟨go134, 0, none⟩) t220.length co144) ∧ w'.cell? ⟨gb229, 2, none⟩ = some (.slice Ao145 t223.length co145) ∧ w'.cell? ⟨gb229, 3, none⟩ = some (.slice Ao146 t226.length co146) ∧ w'.cell? ⟨gb232, 0, none⟩ = some (.int .i64 ((rd_T121 l0 a1_0).f0)) ∧ w'.cell? ⟨gb232, 1, none⟩ = some (.int .i64 ((rd_T121 l0 a1_0).f1)) ∧ w'.cell? ⟨gb232, 2, none⟩ = some (.int .i64 ((rd_T121 l0 a1_0).f2)) ∧ w'.cell? ⟨gb232, 3, none⟩ = some (.int .i64 ((rd_T121 l0 a1_0).f3)) ∧ w'.cell? ⟨gb217, 0, none⟩ = some (.int .i64 a1_0) ∧ w'.cell? ⟨gb217, 1, none⟩ = some (.slice A1_1 l1_1.length c1_1) ∧ w'.cell? ⟨gb217, 2, none⟩ = some (.slice (some ad239) l1_2.length c1_2) ∧ w'.cell? ⟨gb217, 3, none⟩ = some (.slice A1_3 l1_3.length c1_3) ∧ w'.cell? (ad239.add (((rd_T121 l0 a1_0).f2)).toNat) = some (.int .i64 (rd l1_2 ((rd_T121 l0 a1_0).f2)))) (ds := [11]) b8_22 KR rfl rfl ⟨(blk_cell BK229.out 0).trans rfl, (blk_cell BK229.out 1).trans rfl, (blk_cell BK229.out 2).trans rfl, (blk_cell BK229.out 3).trans rfl, (blk_cell BK232.out 0).trans rfl, (blk_cell BK232.out 1).trans rfl, (blk_cell BK232.out 2).trans rfl, (blk_cell BK232.out 3).trans rfl, (blk_cell BK217.out 0).trans rfl, (blk_cell BK217.out 1).trans rfl, (blk_cell BK217.out 2).trans rfl, (blk_cell BK217.out 3).trans rfl, ((HB.out.cell (World.block_lt_of_cell? w _ hw239_0)).trans hw239_0)⟩ (fun hHeld => ?_); refine with_tabW spec_StepState.tab16 spec_StepState.bits16 (fun HT_ HW_ => ?_)
            generalize w157.drew = w158 at HO222 HO225 HO228 BK217 BK218 BK229 BK232 HB GG134 HQ159 hf134_0 hx134_0 hx239_0 hHeld ⊢
            refine pu_ (i := 0) (N := some 88) b8_21 HT_ ?_
            refine pu_ (i := 2) (N := some 90) b8_20 HT_ ?_
            refine pu_ (i := 4) (N := some 92) b8_19 HT_ ?_
            refine pu_ (i := 6) (N := some 94) b8_18 HT_ ?_
            refine tk_ (i := 1) (N := some 89) b8_17 rfl rfl HT_ HW_ hHeld ?_
            refine take_ (i := 3) (N := some 91) (v := ?_) (a' := ?_) b8_16 rfl rfl (take_ofW HT_.out HW_.out KR) (fun _ _ _ h => h) (Or.inl ⟨by rfl, ?_⟩) hHeld ?_ ?_
            rotate_left
            ·rintro w' ⟨s0, s1, s2, s3, s4, s5, s6, s7, s8, s9, s10, s11, s12⟩
             go_simp
             with_reducible rfl
            rotate_left
            ·simp only [Act.put, List.setIfInBounds_toArray, List.set_cons_zero, List.set_cons_succ, i64_w, i32_w]
             rfl
            refine tk_ (i := 5) (N := some 93) b8_15 rfl rfl HT_ HW_ hHeld ?_
            refine take_ (i := 7) (N := some 95) (v := ?_) (a' := ?_) b8_14 rfl rfl (take_ofW HT_.out HW_.out KR) (fun _ _ _ h => h) (Or.inl ⟨by rfl, ?_⟩) hHeld ?_ ?_
            rotate_left
            ·rintro w' ⟨s0, s1, s2, s3, s4, s5, s6, s7, s8, s9, s10, s11, s12⟩
             go_simp
             with_reducible rfl
            rotate_left
            ·simp only [Act.put, List.setIfInBounds_toArray, List.set_cons_zero, List.set_cons_succ, i64_w, i32_w]
             rfl
            refine pu_ (i := 8) (N := some 96) b8_13 HT_ ?_
            refine tk_ (i := 9) (N := some 97) b8_12 rfl rfl HT_ HW_ hHeld ?_
            refine pu_ (i := 10) (N := some 98) b8_11 HT_ ?_
            refine last_ (i := 11) (N := none) b8_10 rfl rfl (one_of HT_.out KR) (by decide) (fun K hK => ?_)
            refine skip_ (w1 := ?_) (by rfl) rfl ?_ ?_
            rotate_left
            ·go_simp
             rfl
            refine hK.out _ _ ?_
            clear hK K
            refine done_ (done_of HT_.out KR) ?_
            generalize hW_ : (w158.setCell ⟨go134, (((rd_T121 l0 a1_0).f1) : Int).toNat, none⟩ (.int .i64 (rd l1_2 ((rd_T121 l0 a1_0).f2)))) = w160
            replace HO225 : Aside0 (Kd.R (Kd.int .i64) 3 w160 w.heap.size (fun k_ => some k_ ≠ (.slice (some ⟨go134, 0, none⟩) t220.length co144 : Value).ownBlock ∧ some k_ ≠ (.slice Ao146 t226.length co146 : Value).ownBlock) (.slice Ao145 t223.length co145) t223) := ⟨by rw [← hW_]; exact RX (Kd.R_mono HO225.out (fun k_ hk => (⟨hk, fun e_ => hk.1 (by rw [e_]; rfl)⟩ : _ ∧ k_ ≠ go134))) (fun _ hk => by first | exact ⟨hk.1.1, hk.1.2⟩ | simp_all)⟩
            replace HO228 : Aside0 (Kd.R (Kd.int .i64) 3 w160 w.heap.size (fun k_ => some k_ ≠ (.slice (some ⟨go134, 0, none⟩) t220.length co144 : Value).ownBlock ∧ some k_ ≠ (.slice Ao145 t223.length co145 : Value).ownBlock) (.slice Ao146 t226.length co146) t226) := ⟨by rw [← hW_]; exact RX (Kd.R_mono HO228.out (fun k_ hk => (⟨hk, fun e_ => hk.1 (by rw [e_]; rfl)⟩ : _ ∧ k_ ≠ go134))) (fun _ hk => by first | exact ⟨hk.1.1, hk.1.2⟩ | simp_all)⟩
            replace BK217 := BQ hW_ HO222 BK217
            replace BK218 := BQ hW_ HO222 BK218
            replace BK229 := BQ hW_ HO222 BK229
            replace BK232 := BQ hW_ HO222 BK232
            replace HO222 : Aside0 (Kd.R (Kd.int .i64) 3 w160 w.heap.size (fun k_ => some k_ ≠ (.slice Ao145 t223.length co145 : Value).ownBlock ∧ some k_ ≠ (.slice Ao146 t226.length co146 : Value).ownBlock) (.slice (some ⟨go134, 0, none⟩) t220.length co144) y240) := ⟨by rw [← hW_]; exact PR HQ159⟩
            replace HB := BL hW_ HB
            (try clear hW_)
            obtain ⟨_, _, _, _, _, _, _, _⟩ := bc4 BK229
            obtain ⟨_, _, _, _, _, _, _, _⟩ := bc4 BK218
            try go_wp2
            refine bodyPost_ret (results_cell_row rfl _ _ gb218 45 #[.int .i64 (wrap64 (a1_0 + 1)), .slice (some ⟨go134, 0, none⟩) t220.length co144, .slice Ao145 t223.length co145, .slice Ao146 t226.length co146] (0, 0) _ rfl (PX BK218) Try.underlying45 rfl KR) rfl ?_
            exact ⟨_, _, _, RT, Re1 HO222 BK218, Re1 HO225 BK218, Re1 HO228 BK218, PB⟩
           ·rw [if_neg c133] at H
            exact absurd H (by simp)
          ·rw [if_neg c132] at H
           exact absurd H (by simp)
         ·rw [if_neg c131] at H
          exact absurd H (by simp)
        ·rw [if_neg c130] at H
         exact absurd H (by simp)
       ·rw [if_neg c129] at H
        have c129b0 : (((rd_T121 l0 a1_0).f0) == 8) = false := beq_eq_false_iff_ne.mpr c129
        have c129b1 : (((rd_T121 l0 a1_0).f0) != 8) = true := bne_iff_ne.mpr c129
        by_cases c163 : ((rd_T121 l0 a1_0).f0) = 9
        ·rw [if_pos c163] at H
         have c163b0 : (((rd_T121 l0 a1_0).f0) == 9) = true := beq_iff_eq.mpr c163
         have c163b1 : (((rd_T121 l0 a1_0).f0) != 9) = false := bne_eq_false_iff_eq.mpr c163
         clear c163
         by_cases c164 : 0 ≤ ((rd_T121 l0 a1_0).f1)
         ·rw [if_pos c164] at H
          have c164b0 : decide (0 ≤ ((rd_T121 l0 a1_0).f1)) = true := decide_eq_true c164
          clear c164
          by_cases c165 : ((rd_T121 l0 a1_0).f1) < (l1_1.length : Int)
          ·rw [if_pos c165] at H
           have c165b0 : decide (((rd_T121 l0 a1_0).f1) < (l1_1.length : Int)) = true := decide_eq_true c165
           clear c165
           by_cases c166 : 0 ≤ ((rd_T121 l0 a1_0).f2)
           ·rw [if_pos c166] at H
            have c166b0 : decide (0 ≤ ((rd_T121 l0 a1_0).f2)) = true := decide_eq_true c166
            clear c166
            by_cases c167 : ((rd_T121 l0 a1_0).f2) < (t223.length : Int)
            ·rw [if_pos c167] at H
             have c167b0 : decide (((rd_T121 l0 a1_0).f2) < (t223.length : Int)) = true := decide_eq_true c167
             clear c167
             obtain ⟨y242, hy242⟩ : ∃ y_ : List Int, y_ = (t223.set (((rd_T121 l0 a1_0).f2) : Int).toNat (rd l1_1 ((rd_T121 l0 a1_0).f1))) := ⟨_, rfl⟩
             replace H : (some (wrap64 (a1_0 + 1), t220, y242, t226)) = some (r1, r2, r3, r4) := by first | (rw [hy242]; with_reducible exact H) | (have H2_ := (Option.bind_some _ _).symm.trans H; rw [hy242]; with_reducible exact H2_) | (have H2_ := (Option.bind_some _ _).symm.trans H; with_reducible exact H2_) | with_reducible exact H | (rw [hy242]; exact H) | exact H
             have Ny242 := Aside0.mk hy242
             clear hy242
             simp only [Option.some.injEq, Prod.mk.injEq] at H
             obtain ⟨rfl, rfl, rfl, rfl⟩ := H
             go_enter Try.func39, Try.ntmps39
             try go_wp2_with (first | ((with_reducible refine gate_dst (N := 4) rfl ?_); refine bx_ (N := 4) #[.int .i64 a1_0, .slice A1_1 l1_1.length c1_1, .slice A1_2 l1_2.length c1_2, .slice A1_3 l1_3.length c1_3] 45 ?_; intro gb217 hg w169 hbox hb; have BK217 := ak hbox; have GW217 := gy hg HB; have GE217 := gy hg HB; replace HB := bs HB hb; clear hb hbox hg) | ((with_reducible refine gate_dst (N := 6) rfl ?_); refine bx_ (N := 6) #[.int .i64 0, .slice none 0 0, .slice none 0 0, .slice none 0 0] 45 ?_; intro gb218 hg w170 hbox hb; have BK218 := ak hbox; have GW218 := gy hg HB; have GE218 := gy hg HB; replace HB := bs HB hb; have NB217_218 := gm hg BK217; have NB218_217 := gn hg BK217; replace BK217 := kf BK217 hb; clear hb hbox hg; have hnb171 := NB217_218.out; have hnc171 := NB218_217.out; obtain ⟨_, _, _, _, _, _, _, _⟩ := bc4 BK217) | ((with_reducible refine gate_callee (f := 97) rfl ?_); refine goesL_ (some 10) rfl rfl Try.func97 KR rfl #[.agg #[.int .i64 a1_0, .slice A1_1 l1_1.length c1_1, .slice A1_2 l1_2.length c1_2, .slice A1_3 l1_3.length c1_3]] rfl AR ?_; (with_reducible refine (spec_l11Copy.calls a1_0 _ _ l1_1 _ _ l1_2 _ _ l1_3 t219 t220 t223 t226 _ ?side1 ?side2 ?side3 ?side4 ?side5 ?side6 A4.out).mono ?_); (case side1 => exact CR (Kd.C_below HR1_1.out HB.out)); (case side2 => exact HC1_1.out); (case side3 => exact CR (Kd.C_below HR1_2.out HB.out)); (case side4 => exact HC1_2.out); (case side5 => exact CR (Kd.C_below HR1_3.out HB.out)); (case side6 => exact HC1_3.out); rintro e w173 ⟨v221, v224, v227, rfl, ho0, ho1, ho2, hb⟩; refine ⟨_, rfl, ?_⟩; have HO222 := Rn0 ho0 HB; have HO225 := Rn0 ho1 HB; have HO228 := Rn0 ho2 HB; replace BK217 := kf BK217 hb; replace BK218 := kf BK218 hb; replace HB := bs HB hb; (try clear hb); (try clear hb2); (try clear hk); (try clear hi); (try clear ho0); (try clear ho1); (try clear ho2)) | ((with_reducible refine gate_dst (N := 7) rfl ?_); refine bx_ (N := 7) #[.int .i64 0, .slice none 0 0, .slice none 0 0, .slice none 0 0] 45 ?_; intro gb229 hg w174 hbox hb; replace HO222 := Rb HO222 hb; replace HO225 := Rb HO225 hb; replace HO228 := Rb HO228 hb; have BK229 := ak hbox; have GW229 := gy hg HB; have GE229 := gy hg HB; replace HB := bs HB hb; have NB217_229 := gm hg BK217; have NB229_217 := gn hg BK217; replace BK217 := kf BK217 hb; have NB218_229 := gm hg BK218; have NB229_218 := gn hg BK218; replace BK218 := kf BK218 hb; clear hb hbox hg; have hnb175 := NB229_217.out; have hnc175 := NB217_229.out; have hnb176 := NB229_218.out; have hnc176 := NB218_229.out; obtain ⟨_, _, _, _, _, _, _, _⟩ := bc4 BK229; obtain ⟨Ao178, co178, eo178⟩ := Kd.R_slice HO222.out; subst eo178; obtain ⟨Ao179, co179, eo179⟩ := Kd.R_slice HO225.out; subst eo179; obtain ⟨Ao180, co180, eo180⟩ := Kd.R_slice HO228.out; subst eo180; obtain ⟨_, _, _, _, _, _, _, _⟩ := bc4 BK217) | ((with_reducible refine gate_callee (f := 98) rfl ?_); refine goesL_ (some 13) rfl rfl Try.func98 KR rfl #[.slice A0 l0.length c0, .agg #[.int .i64 a1_0, .slice A1_1 l1_1.length c1_1, .slice A1_2 l1_2.length c1_2, .slice A1_3 l1_3.length c1_3]] rfl AR ?_; (with_reducible refine (spec_l11Can.calls k _ _ l0 a1_0 _ _ l1_1 _ _ l1_2 _ _ l1_3 true _ ?side1 ?side2 ?side3 ?side4 ?side5 ?side6 ?side7 ?side8 A5.out).mono ?_); (case side1 => exact Kd.C_below HR0.out PB); (case side2 => exact HC0.out); (case side3 => exact Kd.C_below HR1_1.out PB); (case side4 => exact HC1_1.out); (case side5 => exact Kd.C_below HR1_2.out PB); (case side6 => exact HC1_2.out); (case side7 => exact Kd.C_below HR1_3.out PB); (case side8 => exact HC1_3.out); rintro e w182 ⟨rfl, hb⟩; refine ⟨_, rfl, ?_⟩; replace HO222 := ak (Kd.R_below (Re1 HO222 BK229) hb); replace HO225 := ak (Kd.R_below (Re1 HO225 BK229) hb); replace HO228 := ak (Kd.R_below (Re1 HO228 BK229) hb); replace BK217 := kf BK217 hb; replace BK218 := kf BK218 hb; replace BK229 := kp (cs' := #[.int .i64 t219, .slice Ao178 t220.length co178, .slice Ao179 t223.length co179, .slice Ao180 t226.length co180]) BK229 hb; replace HB := bs HB hb; (try clear hb); (try clear hb2); (try clear hk); (try clear hi); obtain ⟨_, _, _, _, _, _, _, _⟩ := bc4 BK217; have p231 : 0 ≤ (a1_0 : Int) := of_decide_eq_true (by first | (with_reducible assumption) | assumption); have q231 : a1_0 < (l0.length : Int) := of_decide_eq_true (by first | (with_reducible assumption) | assumption); obtain ⟨ad231, e231, hx231_0, hx231_1, hx231_2, hx231_3⟩ := at_T121 HR0.out a1_0 p231 q231; cases e231; replace hx231_0 := hx_ HB hx231_0; replace hx231_1 := hx_ HB hx231_1; replace hx231_2 := hx_ HB hx231_2; replace hx231_3 := hx_ HB hx231_3; replace p231 := eq_true p231; replace q231 := eq_true q231) | ((with_reducible refine gate_dst (N := 8) rfl ?_); refine bx_ (N := 8) #[.int .i64 0, .int .i64 0, .int .i64 0, .int .i64 0] 121 ?_; intro gb232 hg w184 hbox hb; replace HO222 := Rb HO222 hb; replace HO225 := Rb HO225 hb; replace HO228 := Rb HO228 hb; have BK232 := ak hbox; have GW232 := gy hg HB; have GE232 := gy hg HB; replace HB := bs HB hb; have NB217_232 := gm hg BK217; have NB232_217 := gn hg BK217; replace BK217 := kf BK217 hb; have NB218_232 := gm hg BK218; have NB232_218 := gn hg BK218; replace BK218 := kf BK218 hb; have NB229_232 := gm hg BK229; have NB232_229 := gn hg BK229; replace BK229 := kf BK229 hb; clear hb hbox hg; have hnb185 := NB232_217.out; have hnc185 := NB217_232.out; have hnb186 := NB232_218.out; have hnc186 := NB218_232.out; have hnb187 := NB232_229.out; have hnc187 := NB229_232.out; obtain ⟨_, _, _, _, _, _, _, _⟩ := bc4 BK232; obtain ⟨_, _, _, _, _, _, _, _⟩ := bc4 BK217; obtain ⟨_, _, _, _, _, _, _, _⟩ := bc4 BK229))
             generalize hW_ : (((((w184.setCell ⟨gb232, 0, none⟩ (.int .i64 ((rd_T121 l0 a1_0).f0))).setCell ⟨gb232, 1, none⟩ (.int .i64 ((rd_T121 l0 a1_0).f1))).setCell ⟨gb232, 2, none⟩ (.int .i64 ((rd_T121 l0 a1_0).f2))).setCell ⟨gb232, 3, none⟩ (.int .i64 ((rd_T121 l0 a1_0).f3))).setCell ⟨gb229, 0, none⟩ (.int .i64 (wrap64 (a1_0 + 1)))) = w191
             replace HO222 := R2 hW_ HO222 BK232 BK229
             replace HO225 := R2 hW_ HO225 BK232 BK229
             replace HO228 := R2 hW_ HO228 BK232 BK229
             replace BK217 := BE hW_ BK217
             replace BK218 := BE hW_ BK218
             replace BK229 : Aside0 (w191.heap[gb229]? = some (.cells #[.int .i64 (wrap64 (a1_0 + 1)), .slice Ao178 t220.length co178, .slice Ao179 t223.length co179, .slice Ao180 t226.length co180] 45 (0, 0))) := BP hW_ BK229
             replace BK232 : Aside0 (w191.heap[gb232]? = some (.cells #[.int .i64 ((rd_T121 l0 a1_0).f0), .int .i64 ((rd_T121 l0 a1_0).f1), .int .i64 ((rd_T121 l0 a1_0).f2), .int .i64 ((rd_T121 l0 a1_0).f3)] 121 (0, 0))) := BP hW_ BK232
             replace HB := BL hW_ HB
             (try clear hW_)
             replace HO222 := ak (Kd.R_drew HO222.out)
             replace HO225 := ak (Kd.R_drew HO225.out)
             replace HO228 := ak (Kd.R_drew HO228.out)
             replace BK217 := ak (blk_drew BK217.out)
             replace BK218 := ak (blk_drew BK218.out)
             replace BK229 := ak (blk_drew BK229.out)
             replace BK232 := ak (blk_drew BK232.out)
             replace HB := ak (below_drew1 HB.out)
             have p241 : 0 ≤ (((rd_T121 l0 a1_0).f1) : Int) := of_decide_eq_true (by first | (with_reducible assumption) | assumption)
             have q241 : ((rd_T121 l0 a1_0).f1) < (l1_1.length : Int) := of_decide_eq_true (by first | (with_reducible assumption) | assumption)
             obtain ⟨ad241, e241, hx241_0⟩ := Kd.at_int HR1_1.out ((rd_T121 l0 a1_0).f1) p241 q241
             have hw241_0 := hx241_0
             cases e241
             replace hx241_0 := hx_ HB hx241_0
             replace p241 := eq_true p241
             replace q241 := eq_true q241
             have p168 : 0 ≤ (((rd_T121 l0 a1_0).f2) : Int) := of_decide_eq_true (by first | (with_reducible assumption) | assumption)
             have q168 : (((rd_T121 l0 a1_0).f2) : Int) < ((t223.length : Int) : Int) := of_decide_eq_true (by first | (with_reducible assumption) | assumption)
             obtain ⟨go168, co168, eo168, gb168, gl168, cl168, HG168⟩ := Kd.R_form HO225.out (by omega)
             (first | cases eo168 | (injection eo168 with ea_ en_ ec_; (first | subst ea_ | (injection ea_ with ea_; subst ea_)); subst ec_; clear en_))
             have GB168 := Aside0.mk gb168
             have GG168 := Aside0.mk HG168
             clear gb168 gl168 HG168
             obtain ⟨hx168_0, hf168_0⟩ := Kd.R_celln 0 HO225.out (((rd_T121 l0 a1_0).f2) : Int) p168 q168
             replace p168 := eq_true p168
             replace q168 := eq_true q168
             have HP193 := Kd.R_putn HO225.out (((rd_T121 l0 a1_0).f2) : Int) (rd l1_1 ((rd_T121 l0 a1_0).f1))
             rw [← Ny242.out] at HP193
             have HQ193 := Aside0.mk HP193
             clear HP193
             refine start_ (n := 12) (S := fun w' => w'.cell? ⟨gb229, 0, none⟩ = some (.int .i64 (wrap64 (a1_0 + 1))) ∧ w'.cell? ⟨gb229, 1, none⟩ = some (.slice Ao178 t220.length co178) ∧ w'.cell? ⟨gb229, 2, none⟩ = some (.slice (some ⟨go168, 0, none⟩) t223.length co179) ∧ w'.cell? ⟨gb229, 3, none⟩ = some (.slice Ao180 t226.length co180) ∧ w'.cell? ⟨gb232, 0, none⟩ = some (.int .i64 ((rd_T121 l0 a1_0).f0)) ∧ w'.cell? ⟨gb232, 1, none⟩ = some (.int .i64 ((rd_T121 l0 a1_0).f1)) ∧ w'.cell? ⟨gb232, 2, none⟩ = some (.int .i64 ((rd_T121 l0 a1_0).f2)) ∧ w'.cell? ⟨gb232, 3, none⟩ = some (.int .i64 ((rd_T121 l0 a1_0).f3)) ∧ w'.cell? ⟨gb217, 0, none⟩ = some (.int .i64 a1_0) ∧ w'.cell? ⟨gb217, 1, none⟩ = some (.slice (some ad241) l1_1.length c1_1) ∧ w'.cell? ⟨gb217, 2, none⟩ = some (.slice A1_2 l1_2.length c1_2) ∧ w'.cell? ⟨gb217, 3, none⟩ = some (.slice A1_3 l1_3.length c1_3) ∧ w'.cell? (ad241.add (((rd_T121 l0 a1_0).f1)).toNat) = some (.int .i64 (rd l1_1 ((rd_T121 l0 a1_0).f1)))) (ds := [11]) b8_22 KR rfl rfl ⟨(blk_cell BK229.out 0).trans rfl, (blk_cell BK229.out 1).trans rfl, (blk_cell BK229.out 2).trans rfl, (blk_cell BK229.out 3).trans rfl, (blk_cell BK232.out 0).trans rfl, (blk_cell BK232.out 1).trans rfl, (blk_cell BK232.out 2).trans rfl, (blk_cell BK232.out 3).trans rfl, (blk_cell BK217.out 0).trans rfl, (blk_cell BK217.out 1).trans rfl, (blk_cell BK217.out 2).trans rfl, (blk_cell BK217.out 3).trans rfl, ((HB.out.cell (World.block_lt_of_cell? w _ hw241_0)).trans hw241_0)⟩ (fun hHeld => ?_); refine with_tabW spec_StepState.tab18 spec_StepState.bits18 (fun HT_ HW_ => ?_)
             generalize w191.drew = w192 at HO222 HO225 HO228 BK217 BK218 BK229 BK232 HB GG168 HQ193 hf168_0 hx168_0 hx241_0 hHeld ⊢
             refine pu_ (i := 0) (N := some 101) b8_21 HT_ ?_
             refine pu_ (i := 2) (N := some 103) b8_20 HT_ ?_
             refine pu_ (i := 4) (N := some 105) b8_19 HT_ ?_
             refine pu_ (i := 6) (N := some 107) b8_18 HT_ ?_
             refine tk_ (i := 1) (N := some 102) b8_17 rfl rfl HT_ HW_ hHeld ?_
             refine take_ (i := 3) (N := some 104) (v := ?_) (a' := ?_) b8_16 rfl rfl (take_ofW HT_.out HW_.out KR) (fun _ _ _ h => h) (Or.inl ⟨by rfl, ?_⟩) hHeld ?_ ?_
             rotate_left
             ·rintro w' ⟨s0, s1, s2, s3, s4, s5, s6, s7, s8, s9, s10, s11, s12⟩
              go_simp
              with_reducible rfl
             rotate_left
             ·simp only [Act.put, List.setIfInBounds_toArray, List.set_cons_zero, List.set_cons_succ, i64_w, i32_w]
              rfl
             refine tk_ (i := 5) (N := some 106) b8_15 rfl rfl HT_ HW_ hHeld ?_
             refine take_ (i := 7) (N := some 108) (v := ?_) (a' := ?_) b8_14 rfl rfl (take_ofW HT_.out HW_.out KR) (fun _ _ _ h => h) (Or.inl ⟨by rfl, ?_⟩) hHeld ?_ ?_
             rotate_left
             ·rintro w' ⟨s0, s1, s2, s3, s4, s5, s6, s7, s8, s9, s10, s11, s12⟩
              go_simp
              with_reducible rfl
             rotate_left
             ·simp only [Act.put, List.setIfInBounds_toArray, List.set_cons_zero, List.set_cons_succ, i64_w, i32_w]
              rfl
             refine pu_ (i := 8) (N := some 109) b8_13 HT_ ?_
             refine tk_ (i := 9) (N := some 110) b8_12 rfl rfl HT_ HW_ hHeld ?_
             refine pu_ (i := 10) (N := some 111) b8_11 HT_ ?_
             refine last_ (i := 11) (N := none) b8_10 rfl rfl (one_of HT_.out KR) (by decide) (fun K hK => ?_)
             refine skip_ (w1 := ?_) (by rfl) rfl ?_ ?_
             rotate_left
             ·go_simp
              rfl
             refine hK.out _ _ ?_
             clear hK K
             refine done_ (done_of HT_.out KR) ?_
             generalize hW_ : (w192.setCell ⟨go168, (((rd_T121 l0 a1_0).f2) : Int).toNat, none⟩ (.int .i64 (rd l1_1 ((rd_T121 l0 a1_0).f1)))) = w194
             replace HO222 : Aside0 (Kd.R (Kd.int .i64) 3 w194 w.heap.size (fun k_ => some k_ ≠ (.slice (some ⟨go168, 0, none⟩) t223.length co179 : Value).ownBlock ∧ some k_ ≠ (.slice Ao180 t226.length co180 : Value).ownBlock) (.slice Ao178 t220.length co178) t220) := ⟨by rw [← hW_]; exact RX (Kd.R_mono HO222.out (fun k_ hk => (⟨hk, fun e_ => hk.1 (by rw [e_]; rfl)⟩ : _ ∧ k_ ≠ go168))) (fun _ hk => by first | exact ⟨hk.1.1, hk.1.2⟩ | simp_all)⟩
             replace HO228 : Aside0 (Kd.R (Kd.int .i64) 3 w194 w.heap.size (fun k_ => some k_ ≠ (.slice Ao178 t220.length co178 : Value).ownBlock ∧ some k_ ≠ (.slice (some ⟨go168, 0, none⟩) t223.length co179 : Value).ownBlock) (.slice Ao180 t226.length co180) t226) := ⟨by rw [← hW_]; exact RX (Kd.R_mono HO228.out (fun k_ hk => (⟨hk, fun e_ => hk.2 (by rw [e_]; rfl)⟩ : _ ∧ k_ ≠ go168))) (fun _ hk => by first | exact ⟨hk.1.1, hk.1.2⟩ | simp_all)⟩
             replace BK217 := BQ hW_ HO225 BK217
             replace BK218 := BQ hW_ HO225 BK218
             replace BK229 := BQ hW_ HO225 BK229
             replace BK232 := BQ hW_ HO225 BK232
             replace HO225 : Aside0 (Kd.R (Kd.int .i64) 3 w194 w.heap.size (fun k_ => some k_ ≠ (.slice Ao178 t220.length co178 : Value).ownBlock ∧ some k_ ≠ (.slice Ao180 t226.length co180 : Value).ownBlock) (.slice (some ⟨go168, 0, none⟩) t223.length co179) y242) := ⟨by rw [← hW_]; exact PR HQ193⟩
             replace HB := BL hW_ HB
             (try clear hW_)
             obtain ⟨_, _, _, _, _, _, _, _⟩ := bc4 BK229
             obtain ⟨_, _, _, _, _, _, _, _⟩ := bc4 BK218
             try go_wp2
             refine bodyPost_ret (results_cell_row rfl _ _ gb218 45 #[.int .i64 (wrap64 (a1_0 + 1)), .slice Ao178 t220.length co178, .slice (some ⟨go168, 0, none⟩) t223.length co179, .slice Ao180 t226.length co180] (0, 0) _ rfl (PX BK218) Try.underlying45 rfl KR) rfl ?_
             exact ⟨_, _, _, RT, Re1 HO222 BK218, Re1 HO225 BK218, Re1 HO228 BK218, PB⟩
            ·rw [if_neg c167] at H
             exact absurd H (by simp)
           ·rw [if_neg c166] at H
            exact absurd H (by simp)
          ·rw [if_neg c165] at H
           exact absurd H (by simp)
         ·rw [if_neg c164] at H
          exact absurd H (by simp)
        ·rw [if_neg c163] at H
         have c163b0 : (((rd_T121 l0 a1_0).f0) == 9) = false := beq_eq_false_iff_ne.mpr c163
         have c163b1 : (((rd_T121 l0 a1_0).f0) != 9) = true := bne_iff_ne.mpr c163
         replace H := Option.bind_eq_some_iff.mp H
         obtain ⟨t243, A1970, H⟩ := H
         replace H : ((spec_Max.f 0 t243).bind fun t244 => (if 0 ≤ ((rd_T121 l0 a1_0).f1) then (if ((rd_T121 l0 a1_0).f1) < (t220.length : Int) then (some (wrap64 (a1_0 + 1), (t220.set (((rd_T121 l0 a1_0).f1) : Int).toNat t244), t223, t226)) else (none)) else (none))) = some (r1, r2, r3, r4) := H
         have A197 := Aside0.mk A1970
         clear A1970
         replace H := Option.bind_eq_some_iff.mp H
         obtain ⟨t244, A1980, H⟩ := H
         replace H : (if 0 ≤ ((rd_T121 l0 a1_0).f1) then (if ((rd_T121 l0 a1_0).f1) < (t220.length : Int) then (some (wrap64 (a1_0 + 1), (t220.set (((rd_T121 l0 a1_0).f1) : Int).toNat t244), t223, t226)) else (none)) else (none)) = some (r1, r2, r3, r4) := H
         have A198 := Aside0.mk A1980
         clear A1980
         by_cases c199 : 0 ≤ ((rd_T121 l0 a1_0).f1)
         ·rw [if_pos c199] at H
          have c199b0 : decide (0 ≤ ((rd_T121 l0 a1_0).f1)) = true := decide_eq_true c199
          clear c199
          by_cases c200 : ((rd_T121 l0 a1_0).f1) < (t220.length : Int)
          ·rw [if_pos c200] at H
           have c200b0 : decide (((rd_T121 l0 a1_0).f1) < (t220.length : Int)) = true := decide_eq_true c200
           clear c200
           obtain ⟨y245, hy245⟩ : ∃ y_ : List Int, y_ = (t220.set (((rd_T121 l0 a1_0).f1) : Int).toNat t244) := ⟨_, rfl⟩
           replace H : (some (wrap64 (a1_0 + 1), y245, t223, t226)) = some (r1, r2, r3, r4) := by first | (rw [hy245]; with_reducible exact H) | (have H2_ := (Option.bind_some _ _).symm.trans H; rw [hy245]; with_reducible exact H2_) | (have H2_ := (Option.bind_some _ _).symm.trans H; with_reducible exact H2_) | with_reducible exact H | (rw [hy245]; exact H) | exact H
           have Ny245 := Aside0.mk hy245
           clear hy245
           simp only [Option.some.injEq, Prod.mk.injEq] at H
           obtain ⟨rfl, rfl, rfl, rfl⟩ := H
           go_enter Try.func39, Try.ntmps39
           try go_wp2_with (first | ((with_reducible refine gate_dst (N := 4) rfl ?_); refine bx_ (N := 4) #[.int .i64 a1_0, .slice A1_1 l1_1.length c1_1, .slice A1_2 l1_2.length c1_2, .slice A1_3 l1_3.length c1_3] 45 ?_; intro gb217 hg w202 hbox hb; have BK217 := ak hbox; have GW217 := gy hg HB; have GE217 := gy hg HB; replace HB := bs HB hb; clear hb hbox hg) | ((with_reducible refine gate_dst (N := 6) rfl ?_); refine bx_ (N := 6) #[.int .i64 0, .slice none 0 0, .slice none 0 0, .slice none 0 0] 45 ?_; intro gb218 hg w203 hbox hb; have BK218 := ak hbox; have GW218 := gy hg HB; have GE218 := gy hg HB; replace HB := bs HB hb; have NB217_218 := gm hg BK217; have NB218_217 := gn hg BK217; replace BK217 := kf BK217 hb; clear hb hbox hg; have hnb204 := NB217_218.out; have hnc204 := NB218_217.out; obtain ⟨_, _, _, _, _, _, _, _⟩ := bc4 BK217) | ((with_reducible refine gate_callee (f := 97) rfl ?_); refine goesL_ (some 10) rfl rfl Try.func97 KR rfl #[.agg #[.int .i64 a1_0, .slice A1_1 l1_1.length c1_1, .slice A1_2 l1_2.length c1_2, .slice A1_3 l1_3.length c1_3]] rfl AR ?_; (with_reducible refine (spec_l11Copy.calls a1_0 _ _ l1_1 _ _ l1_2 _ _ l1_3 t219 t220 t223 t226 _ ?side1 ?side2 ?side3 ?side4 ?side5 ?side6 A4.out).mono ?_); (case side1 => exact CR (Kd.C_below HR1_1.out HB.out)); (case side2 => exact HC1_1.out); (case side3 => exact CR (Kd.C_below HR1_2.out HB.out)); (case side4 => exact HC1_2.out); (case side5 => exact CR (Kd.C_below HR1_3.out HB.out)); (case side6 => exact HC1_3.out); rintro e w206 ⟨v221, v224, v227, rfl, ho0, ho1, ho2, hb⟩; refine ⟨_, rfl, ?_⟩; have HO222 := Rn0 ho0 HB; have HO225 := Rn0 ho1 HB; have HO228 := Rn0 ho2 HB; replace BK217 := kf BK217 hb; replace BK218 := kf BK218 hb; replace HB := bs HB hb; (try clear hb); (try clear hb2); (try clear hk); (try clear hi); (try clear ho0); (try clear ho1); (try clear ho2)) | ((with_reducible refine gate_dst (N := 7) rfl ?_); refine bx_ (N := 7) #[.int .i64 0, .slice none 0 0, .slice none 0 0, .slice none 0 0] 45 ?_; intro gb229 hg w207 hbox hb; replace HO222 := Rb HO222 hb; replace HO225 := Rb HO225 hb; replace HO228 := Rb HO228 hb; have BK229 := ak hbox; have GW229 := gy hg HB; have GE229 := gy hg HB; replace HB := bs HB hb; have NB217_229 := gm hg BK217; have NB229_217 := gn hg BK217; replace BK217 := kf BK217 hb; have NB218_229 := gm hg BK218; have NB229_218 := gn hg BK218; replace BK218 := kf BK218 hb; clear hb hbox hg; have hnb208 := NB229_217.out; have hnc208 := NB217_229.out; have hnb209 := NB229_218.out; have hnc209 := NB218_229.out; obtain ⟨_, _, _, _, _, _, _, _⟩ := bc4 BK229; obtain ⟨Ao211, co211, eo211⟩ := Kd.R_slice HO222.out; subst eo211; obtain ⟨Ao212, co212, eo212⟩ := Kd.R_slice HO225.out; subst eo212; obtain ⟨Ao213, co213, eo213⟩ := Kd.R_slice HO228.out; subst eo213; obtain ⟨_, _, _, _, _, _, _, _⟩ := bc4 BK217) | ((with_reducible refine gate_callee (f := 98) rfl ?_); refine goesL_ (some 13) rfl rfl Try.func98 KR rfl #[.slice A0 l0.length c0, .agg #[.int .i64 a1_0, .slice A1_1 l1_1.length c1_1, .slice A1_2 l1_2.length c1_2, .slice A1_3 l1_3.length c1_3]] rfl AR ?_; (with_reducible refine (spec_l11Can.calls k _ _ l0 a1_0 _ _ l1_1 _ _ l1_2 _ _ l1_3 true _ ?side1 ?side2 ?side3 ?side4 ?side5 ?side6 ?side7 ?side8 A5.out).mono ?_); (case side1 => exact Kd.C_below HR0.out PB); (case side2 => exact HC0.out); (case side3 => exact Kd.C_below HR1_1.out PB); (case side4 => exact HC1_1.out); (case side5 => exact Kd.C_below HR1_2.out PB); (case side6 => exact HC1_2.out); (case side7 => exact Kd.C_below HR1_3.out PB); (case side8 => exact HC1_3.out); rintro e w215 ⟨rfl, hb⟩; refine ⟨_, rfl, ?_⟩; replace HO222 := ak (Kd.R_below (Re1 HO222 BK229) hb); replace HO225 := ak (Kd.R_below (Re1 HO225 BK229) hb); replace HO228 := ak (Kd.R_below (Re1 HO228 BK229) hb); replace BK217 := kf BK217 hb; replace BK218 := kf BK218 hb; replace BK229 := kp (cs' := #[.int .i64 t219, .slice Ao211 t220.length co211, .slice Ao212 t223.length co212, .slice Ao213 t226.length co213]) BK229 hb; replace HB := bs HB hb; (try clear hb); (try clear hb2); (try clear hk); (try clear hi); obtain ⟨_, _, _, _, _, _, _, _⟩ := bc4 BK217; have p231 : 0 ≤ (a1_0 : Int) := of_decide_eq_true (by first | (with_reducible assumption) | assumption); have q231 : a1_0 < (l0.length : Int) := of_decide_eq_true (by first | (with_reducible assumption) | assumption); obtain ⟨ad231, e231, hx231_0, hx231_1, hx231_2, hx231_3⟩ := at_T121 HR0.out a1_0 p231 q231; cases e231; replace hx231_0 := hx_ HB hx231_0; replace hx231_1 := hx_ HB hx231_1; replace hx231_2 := hx_ HB hx231_2; replace hx231_3 := hx_ HB hx231_3; replace p231 := eq_true p231; replace q231 := eq_true q231) | ((with_reducible refine gate_dst (N := 8) rfl ?_); refine bx_ (N := 8) #[.int .i64 0, .int .i64 0, .int .i64 0, .int .i64 0] 121 ?_; intro gb232 hg w217 hbox hb; replace HO222 := Rb HO222 hb; replace HO225 := Rb HO225 hb; replace HO228 := Rb HO228 hb; have BK232 := ak hbox; have GW232 := gy hg HB; have GE232 := gy hg HB; replace HB := bs HB hb; have NB217_232 := gm hg BK217; have NB232_217 := gn hg BK217; replace BK217 := kf BK217 hb; have NB218_232 := gm hg BK218; have NB232_218 := gn hg BK218; replace BK218 := kf BK218 hb; have NB229_232 := gm hg BK229; have NB232_229 := gn hg BK229; replace BK229 := kf BK229 hb; clear hb hbox hg; have hnb218 := NB232_217.out; have hnc218 := NB217_232.out; have hnb219 := NB232_218.out; have hnc219 := NB218_232.out; have hnb220 := NB232_229.out; have hnc220 := NB229_232.out; obtain ⟨_, _, _, _, _, _, _, _⟩ := bc4 BK232; obtain ⟨_, _, _, _, _, _, _, _⟩ := bc4 BK217; obtain ⟨_, _, _, _, _, _, _, _⟩ := bc4 BK229))
           generalize hW_ : (((((w217.setCell ⟨gb232, 0, none⟩ (.int .i64 ((rd_T121 l0 a1_0).f0))).setCell ⟨gb232, 1, none⟩ (.int .i64 ((rd_T121 l0 a1_0).f1))).setCell ⟨gb232, 2, none⟩ (.int .i64 ((rd_T121 l0 a1_0).f2))).setCell ⟨gb232, 3, none⟩ (.int .i64 ((rd_T121 l0 a1_0).f3))).setCell ⟨gb229, 0, none⟩ (.int .i64 (wrap64 (a1_0 + 1)))) = w224
           replace HO222 := R2 hW_ HO222 BK232 BK229
           replace HO225 := R2 hW_ HO225 BK232 BK229
           replace HO228 := R2 hW_ HO228 BK232 BK229
           replace BK217 := BE hW_ BK217
           replace BK218 := BE hW_ BK218
           replace BK229 : Aside0 (w224.heap[gb229]? = some (.cells #[.int .i64 (wrap64 (a1_0 + 1)), .slice Ao211 t220.length co211, .slice Ao212 t223.length co212, .slice Ao213 t226.length co213] 45 (0, 0))) := BP hW_ BK229
           replace BK232 : Aside0 (w224.heap[gb232]? = some (.cells #[.int .i64 ((rd_T121 l0 a1_0).f0), .int .i64 ((rd_T121 l0 a1_0).f1), .int .i64 ((rd_T121 l0 a1_0).f2), .int .i64 ((rd_T121 l0 a1_0).f3)] 121 (0, 0))) := BP hW_ BK232
           replace HB := BL hW_ HB
           (try clear hW_)
           replace HO222 := ak (Kd.R_drew HO222.out)
           replace HO225 := ak (Kd.R_drew HO225.out)
           replace HO228 := ak (Kd.R_drew HO228.out)
           replace BK217 := ak (blk_drew BK217.out)
           replace BK218 := ak (blk_drew BK218.out)
           replace BK229 := ak (blk_drew BK229.out)
           replace BK232 := ak (blk_drew BK232.out)
           replace HB := ak (below_drew1 HB.out)
           refine start_ (n := 9) (S := fun w' => w'.cell? ⟨gb229, 0, none⟩ = some (.int .i64 (wrap64 (a1_0 + 1))) ∧ w'.cell? ⟨gb229, 1, none⟩ = some (.slice Ao211 t220.length co211) ∧ w'.cell? ⟨gb229, 2, none⟩ = some (.slice Ao212 t223.length co212) ∧ w'.cell? ⟨gb229, 3, none⟩ = some (.slice Ao213 t226.length co213) ∧ w'.cell? ⟨gb232, 0, none⟩ = some (.int .i64 ((rd_T121 l0 a1_0).f0)) ∧ w'.cell? ⟨gb232, 1, none⟩ = some (.int .i64 ((rd_T121 l0 a1_0).f1)) ∧ w'.cell? ⟨gb232, 2, none⟩ = some (.int .i64 ((rd_T121 l0 a1_0).f2)) ∧ w'.cell? ⟨gb232, 3, none⟩ = some (.int .i64 ((rd_T121 l0 a1_0).f3))) (ds := [8]) #[false, false, false, false, false, false, false, false, false] KR rfl rfl ⟨(blk_cell BK229.out 0).trans rfl, (blk_cell BK229.out 1).trans rfl, (blk_cell BK229.out 2).trans rfl, (blk_cell BK229.out 3).trans rfl, (blk_cell BK232.out 0).trans rfl, (blk_cell BK232.out 1).trans rfl, (blk_cell BK232.out 2).trans rfl, (blk_cell BK232.out 3).trans rfl⟩ (fun hHeld => ?_); refine with_tabW spec_StepState.tab7 spec_StepState.bits7 (fun HT_ HW_ => ?_)
           generalize w224.drew = w225 at HO222 HO225 HO228 BK217 BK218 BK229 BK232 HB hHeld ⊢
           refine pu_ (i := 0) (N := some 27) #[true, false, false, false, false, false, false, false, false] HT_ ?_
           refine pu_ (i := 2) (N := some 29) #[true, false, true, false, false, false, false, false, false] HT_ ?_
           refine pu_ (i := 4) (N := some 31) #[true, false, true, false, true, false, false, false, false] HT_ ?_
           refine tk_ (i := 1) (N := some 28) #[true, true, true, false, true, false, false, false, false] rfl rfl HT_ HW_ hHeld ?_
           refine take_ (i := 3) (N := some 30) (v := ?_) (a' := ?_) #[true, true, true, true, true, false, false, false, false] rfl rfl (take_ofW HT_.out HW_.out KR) (fun _ _ _ h => h) (Or.inl ⟨by rfl, ?_⟩) hHeld ?_ ?_
           rotate_left
           ·rintro w' ⟨s0, s1, s2, s3, s4, s5, s6, s7⟩
            go_simp
            with_reducible rfl
           rotate_left
           ·simp only [Act.put, List.setIfInBounds_toArray, List.set_cons_zero, List.set_cons_succ, i64_w, i32_w]
            rfl
           refine one_ (i := 5) (N := some 32) #[true, true, true, true, true, true, false, false, false] rfl rfl (one_of HT_.out KR) (by decide) (fun K hK => ?_)
           refine goes_ Try.func100 KR rfl #[.int .i64 999, .int .i64 a2] (by rfl) rfl rfl AR ?_
           with_reducible refine (spec_Min.calls 999 a2 t243 _ A197.out).mono ?_
           rintro e w' ⟨rfl, ⟨nd, rfl⟩⟩
           refine ⟨_, rfl, ?_⟩
           refine hK.out _ _ ⟨(blk_cell BK229.out 0).trans rfl, (blk_cell BK229.out 1).trans rfl, (blk_cell BK229.out 2).trans rfl, (blk_cell BK229.out 3).trans rfl, (blk_cell BK232.out 0).trans rfl, (blk_cell BK232.out 1).trans rfl, (blk_cell BK232.out 2).trans rfl, (blk_cell BK232.out 3).trans rfl⟩ (fun hHeld => ?_)
           clear hK K
           refine norm_ (a' := ?_) ?_ ?_
           rotate_left
           ·show Act.put _ (some 32) _ = _
            simp only [Act.put, List.setIfInBounds_toArray, List.set_cons_zero, List.set_cons_succ, i64_w, i32_w]
            rfl
           refine one_ (i := 6) (N := some 33) #[true, true, true, true, true, true, true, false, false] rfl rfl (one_of HT_.out KR) (by decide) (fun K hK => ?_)
           refine goes_ Try.func99 KR rfl #[.int .i64 0, .int .i64 t243] (by rfl) rfl rfl AR ?_
           with_reducible refine (spec_Max.calls 0 t243 t244 _ A198.out).mono ?_
           rintro e w' ⟨rfl, ⟨nd, rfl⟩⟩
           refine ⟨_, rfl, ?_⟩
           have p201 : 0 ≤ (((rd_T121 l0 a1_0).f1) : Int) := of_decide_eq_true (by first | (with_reducible assumption) | assumption)
           have q201 : (((rd_T121 l0 a1_0).f1) : Int) < ((t220.length : Int) : Int) := of_decide_eq_true (by first | (with_reducible assumption) | assumption)
           obtain ⟨go201, co201, eo201, gb201, gl201, cl201, HG201⟩ := Kd.R_form HO222.out (by omega)
           (first | cases eo201 | (injection eo201 with ea_ en_ ec_; (first | subst ea_ | (injection ea_ with ea_; subst ea_)); subst ec_; clear en_))
           have GB201 := Aside0.mk gb201
           have GG201 := Aside0.mk HG201
           clear gb201 gl201 HG201
           obtain ⟨hx201_0, hf201_0⟩ := Kd.R_celln 0 HO222.out (((rd_T121 l0 a1_0).f1) : Int) p201 q201
           replace p201 := eq_true p201
           replace q201 := eq_true q201
           have HP226 := Kd.R_putn HO222.out (((rd_T121 l0 a1_0).f1) : Int) t244
           rw [← Ny245.out] at HP226
           have HQ226 := Aside0.mk HP226
           clear HP226
           refine hK.out _ _ ⟨(blk_cell BK229.out 0).trans rfl, (blk_cell BK229.out 1).trans rfl, (blk_cell BK229.out 2).trans rfl, (blk_cell BK229.out 3).trans rfl, (blk_cell BK232.out 0).trans rfl, (blk_cell BK232.out 1).trans rfl, (blk_cell BK232.out 2).trans rfl, (blk_cell BK232.out 3).trans rfl⟩ (fun hHeld => ?_)
           clear hK K
           refine norm_ (a' := ?_) ?_ ?_
           rotate_left
           ·show Act.put _ (some 33) _ = _
            simp only [Act.put, List.setIfInBounds_toArray, List.set_cons_zero, List.set_cons_succ, i64_w, i32_w]
            rfl
           refine pu_ (i := 7) (N := some 34) #[true, true, true, true, true, true, true, true, false] HT_ ?_
           refine last_ (i := 8) (N := none) #[true, true, true, true, true, true, true, true, true] rfl rfl (one_of HT_.out KR) (by decide) (fun K hK => ?_)
           refine skip_ (w1 := ?_) (by rfl) rfl ?_ ?_
           rotate_left
           ·go_simp
            rfl
           refine hK.out _ _ ?_
           clear hK K
           refine done_ (done_of HT_.out KR) ?_
           first | (rw [sdN]; generalize hW_ : World.drewN (w225.setCell ⟨go201, (((rd_T121 l0 a1_0).f1) : Int).toNat, none⟩ (.int .i64 t244)) _ = w227) | generalize hW_ : (w225.setCell ⟨go201, (((rd_T121 l0 a1_0).f1) : Int).toNat, none⟩ (.int .i64 t244)) = w227
           replace HO225 : Aside0 (Kd.R (Kd.int .i64) 3 w227 w.heap.size (fun k_ => some k_ ≠ (.slice (some ⟨go201, 0, none⟩) t220.length co211 : Value).ownBlock ∧ some k_ ≠ (.slice Ao213 t226.length co213 : Value).ownBlock) (.slice Ao212 t223.length co212) t223) := ⟨by rw [← hW_]; exact RX (Kd.R_mono HO225.out (fun k_ hk => (⟨hk, fun e_ => hk.1 (by rw [e_]; rfl)⟩ : _ ∧ k_ ≠ go201))) (fun _ hk => by first | exact ⟨hk.1.1, hk.1.2⟩ | simp_all)⟩
           replace HO228 : Aside0 (Kd.R (Kd.int .i64) 3 w227 w.heap.size (fun k_ => some k_ ≠ (.slice (some ⟨go201, 0, none⟩) t220.length co211 : Value).ownBlock ∧ some k_ ≠ (.slice Ao212 t223.length co212 : Value).ownBlock) (.slice Ao213 t226.length co213) t226) := ⟨by rw [← hW_]; exact RX (Kd.R_mono HO228.out (fun k_ hk => (⟨hk, fun e_ => hk.1 (by rw [e_]; rfl)⟩ : _ ∧ k_ ≠ go201))) (fun _ hk => by first | exact ⟨hk.1.1, hk.1.2⟩ | simp_all)⟩
           replace BK217 := BQ hW_ HO222 BK217
           replace BK218 := BQ hW_ HO222 BK218
           replace BK229 := BQ hW_ HO222 BK229
           replace BK232 := BQ hW_ HO222 BK232
           replace HO222 : Aside0 (Kd.R (Kd.int .i64) 3 w227 w.heap.size (fun k_ => some k_ ≠ (.slice Ao212 t223.length co212 : Value).ownBlock ∧ some k_ ≠ (.slice Ao213 t226.length co213 : Value).ownBlock) (.slice (some ⟨go201, 0, none⟩) t220.length co211) y245) := ⟨by rw [← hW_]; exact PR HQ226⟩
           replace HB := BL hW_ HB
           (try clear hW_)
           obtain ⟨_, _, _, _, _, _, _, _⟩ := bc4 BK229
           obtain ⟨_, _, _, _, _, _, _, _⟩ := bc4 BK218
           try go_wp2
           refine bodyPost_ret (results_cell_row rfl _ _ gb218 45 #[.int .i64 (wrap64 (a1_0 + 1)), .slice (some ⟨go201, 0, none⟩) t220.length co211, .slice Ao212 t223.length co212, .slice Ao213 t226.length co213] (0, 0) _ rfl (PX BK218) Try.underlying45 rfl KR) rfl ?_
           exact ⟨_, _, _, RT, Re1 HO222 BK218, Re1 HO225 BK218, Re1 HO228 BK218, PB⟩
          ·rw [if_neg c200] at H
           exact absurd H (by simp)
         ·rw [if_neg c199] at H
          exact absurd H (by simp)
   ·rw [if_neg c8] at H
    exact absurd H (by simp)
  ·rw [if_neg c7] at H
   exact absurd H (by simp)
 ·replace c6 := Bool.eq_false_iff.mpr c6
  subst c6
  have H1 : (some (t219, t220, t223, t226)) = some (r1, r2, r3, r4) := by rw [if_neg (show ¬ (false = true) by decide)] at H; exact H
  clear H
  have H := H1
  clear H1
  simp only [Option.some.injEq, Prod.mk.injEq] at H
  obtain ⟨rfl, rfl, rfl, rfl⟩ := H
  go_enter Try.func39, Try.ntmps39
  go_wp2_with (first | ((with_reducible refine gate_dst (N := 4) rfl ?_); refine bx_ (N := 4) #[.int .i64 a1_0, .slice A1_1 l1_1.length c1_1, .slice A1_2 l1_2.length c1_2, .slice A1_3 l1_3.length c1_3] 45 ?_; intro gb217 hg w230 hbox hb; have BK217 := ak hbox; have GW217 := gy hg HB; have GE217 := gy hg HB; replace HB := bs HB hb; clear hb hbox hg) | ((with_reducible refine gate_dst (N := 6) rfl ?_); refine bx_ (N := 6) #[.int .i64 0, .slice none 0 0, .slice none 0 0, .slice none 0 0] 45 ?_; intro gb218 hg w231 hbox hb; have BK218 := ak hbox; have GW218 := gy hg HB; have GE218 := gy hg HB; replace HB := bs HB hb; have NB217_218 := gm hg BK217; have NB218_217 := gn hg BK217; replace BK217 := kf BK217 hb; clear hb hbox hg; have hnb232 := NB217_218.out; have hnc232 := NB218_217.out; obtain ⟨_, _, _, _, _, _, _, _⟩ := bc4 BK217) | ((with_reducible refine gate_callee (f := 97) rfl ?_); refine goesL_ (some 10) rfl rfl Try.func97 KR rfl #[.agg #[.int .i64 a1_0, .slice A1_1 l1_1.length c1_1, .slice A1_2 l1_2.length c1_2, .slice A1_3 l1_3.length c1_3]] rfl AR ?_; (with_reducible refine (spec_l11Copy.calls a1_0 _ _ l1_1 _ _ l1_2 _ _ l1_3 t219 t220 t223 t226 _ ?side1 ?side2 ?side3 ?side4 ?side5 ?side6 A4.out).mono ?_); (case side1 => exact CR (Kd.C_below HR1_1.out HB.out)); (case side2 => exact HC1_1.out); (case side3 => exact CR (Kd.C_below HR1_2.out HB.out)); (case side4 => exact HC1_2.out); (case side5 => exact CR (Kd.C_below HR1_3.out HB.out)); (case side6 => exact HC1_3.out); rintro e w234 ⟨v221, v224, v227, rfl, ho0, ho1, ho2, hb⟩; refine ⟨_, rfl, ?_⟩; have HO222 := Rn0 ho0 HB; have HO225 := Rn0 ho1 HB; have HO228 := Rn0 ho2 HB; replace BK217 := kf BK217 hb; replace BK218 := kf BK218 hb; replace HB := bs HB hb; (try clear hb); (try clear hb2); (try clear hk); (try clear hi); (try clear ho0); (try clear ho1); (try clear ho2)) | ((with_reducible refine gate_dst (N := 7) rfl ?_); refine bx_ (N := 7) #[.int .i64 0, .slice none 0 0, .slice none 0 0, .slice none 0 0] 45 ?_; intro gb229 hg w235 hbox hb; replace HO222 := Rb HO222 hb; replace HO225 := Rb HO225 hb; replace HO228 := Rb HO228 hb; have BK229 := ak hbox; have GW229 := gy hg HB; have GE229 := gy hg HB; replace HB := bs HB hb; have NB217_229 := gm hg BK217; have NB229_217 := gn hg BK217; replace BK217 := kf BK217 hb; have NB218_229 := gm hg BK218; have NB229_218 := gn hg BK218; replace BK218 := kf BK218 hb; clear hb hbox hg; have hnb236 := NB229_217.out; have hnc236 := NB217_229.out; have hnb237 := NB229_218.out; have hnc237 := NB218_229.out; obtain ⟨_, _, _, _, _, _, _, _⟩ := bc4 BK229; obtain ⟨Ao239, co239, eo239⟩ := Kd.R_slice HO222.out; subst eo239; obtain ⟨Ao240, co240, eo240⟩ := Kd.R_slice HO225.out; subst eo240; obtain ⟨Ao241, co241, eo241⟩ := Kd.R_slice HO228.out; subst eo241; obtain ⟨_, _, _, _, _, _, _, _⟩ := bc4 BK217) | ((with_reducible refine gate_callee (f := 98) rfl ?_); refine goesL_ (some 13) rfl rfl Try.func98 KR rfl #[.slice A0 l0.length c0, .agg #[.int .i64 a1_0, .slice A1_1 l1_1.length c1_1, .slice A1_2 l1_2.length c1_2, .slice A1_3 l1_3.length c1_3]] rfl AR ?_; (with_reducible refine (spec_l11Can.calls k _ _ l0 a1_0 _ _ l1_1 _ _ l1_2 _ _ l1_3 false _ ?side1 ?side2 ?side3 ?side4 ?side5 ?side6 ?side7 ?side8 A5.out).mono ?_); (case side1 => exact Kd.C_below HR0.out PB); (case side2 => exact HC0.out); (case side3 => exact Kd.C_below HR1_1.out PB); (case side4 => exact HC1_1.out); (case side5 => exact Kd.C_below HR1_2.out PB); (case side6 => exact HC1_2.out); (case side7 => exact Kd.C_below HR1_3.out PB); (case side8 => exact HC1_3.out); rintro e w243 ⟨rfl, hb⟩; refine ⟨_, rfl, ?_⟩; replace HO222 := ak (Kd.R_below (Re1 HO222 BK229) hb); replace HO225 := ak (Kd.R_below (Re1 HO225 BK229) hb); replace HO228 := ak (Kd.R_below (Re1 HO228 BK229) hb); replace BK217 := kf BK217 hb; replace BK218 := kf BK218 hb; replace BK229 := kp (cs' := #[.int .i64 t219, .slice Ao239 t220.length co239, .slice Ao240 t223.length co240, .slice Ao241 t226.length co241]) BK229 hb; replace HB := bs HB hb; (try clear hb); (try clear hb2); (try clear hk); (try clear hi); obtain ⟨_, _, _, _, _, _, _, _⟩ := bc4 BK229; obtain ⟨_, _, _, _, _, _, _, _⟩ := bc4 BK218))
  refine bodyPost_ret (results_cell_row rfl _ _ gb218 45 #[.int .i64 t219, .slice Ao239 t220.length co239, .slice Ao240 t223.length co240, .slice Ao241 t226.length co241] (0, 0) _ rfl (PX BK218) Try.underlying45 rfl KR) rfl ?_
  exact ⟨_, _, _, RT, Re1 HO222 BK218, Re1 HO225 BK218, Re1 HO228 BK218, PB⟩

end Go.Proofs.Ytgcamebeonodeaa.MFnExactStepState
