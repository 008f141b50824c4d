-- Written by a program of this session out of the translation's own print. Not trusted: Lean checks it.
import Derived.Test.YtgcamebeonodeaaShr2
import Derived.Test.YtgcamebeonodeaaMFnNearestx0
import Derived.Test.YtgcamebeonodeaaMFnNearestx2
import Derived.Test.YtgcamebeonodeaaMFnNearestx4
import Derived.Test.YtgcamebeonodeaaMFnNearestx5
import Derived.Test.YtgcamebeonodeaaMFnNearestx7
namespace Go.Proofs.Ytgcamebeonodeaa.MFnNearest
open Go.RowKit Go.Proofs.YtgcamebeonodeaaW.PrintWords Go.Proofs.YtgcamebeonodeaaW.PrintLast Go.Proofs.YtgcamebeonodeaaW.PrintMore
attribute [local go_sem] Instr.field asAgg max2_int min2_int max_two min_two max_three min_three max_four min_four   -- for this text's walks alone
set_option linter.unusedVariables false
set_option linter.unusedSimpArgs false

abbrev b8_9 : Array Bool := mkB 24 16777215
abbrev b8_10 : Array Bool := mkB 24 8388607
abbrev b8_11 : Array Bool := mkB 24 4194303
abbrev b8_12 : Array Bool := mkB 24 2097151
abbrev b8_13 : Array Bool := mkB 24 1966079
abbrev b8_14 : Array Bool := mkB 24 917503
abbrev b8_15 : Array Bool := mkB 24 393215
abbrev b8_16 : Array Bool := mkB 24 327679
abbrev b8_17 : Array Bool := mkB 24 294911
abbrev b8_18 : Array Bool := mkB 24 32767
abbrev b8_19 : Array Bool := mkB 24 16383
abbrev b8_20 : Array Bool := mkB 24 8191
abbrev b8_21 : Array Bool := mkB 24 4095
abbrev b8_22 : Array Bool := mkB 24 2047
abbrev b8_23 : Array Bool := mkB 24 1023
abbrev b8_24 : Array Bool := mkB 24 511
abbrev b8_25 : Array Bool := mkB 24 255
abbrev b8_26 : Array Bool := mkB 24 127
abbrev b8_27 : Array Bool := mkB 24 63
abbrev b8_28 : Array Bool := mkB 24 31
abbrev b8_29 : Array Bool := mkB 24 15
abbrev b8_30 : Array Bool := mkB 24 11
abbrev b8_31 : Array Bool := mkB 24 9
abbrev b8_32 : Array Bool := mkB 24 1
abbrev b8_33 : Array Bool := #[false, false, false, false, false, false, false, false, false, false, false, false, false, false, false, false, false, false, false, false, false, false, false, false]
abbrev b8_34 : Array Bool := mkB 59 576460752303423487
abbrev b8_35 : Array Bool := mkB 59 288230376151711743
abbrev b8_36 : Array Bool := mkB 59 144115188075855871
abbrev b8_37 : Array Bool := mkB 59 72057594037927935
abbrev b8_38 : Array Bool := mkB 59 36028797018963967
abbrev b8_39 : Array Bool := mkB 59 27021597764222975
abbrev b8_40 : Array Bool := mkB 59 18014398509481983
abbrev b8_41 : Array Bool := mkB 59 22517998136852479
abbrev b8_42 : Array Bool := mkB 59 9007199254740991
abbrev b8_43 : Array Bool := mkB 59 20266198323167231
abbrev b8_44 : Array Bool := mkB 59 4503599627370495
abbrev b8_45 : Array Bool := mkB 59 19140298416324607
abbrev b8_46 : Array Bool := mkB 59 2251799813685247
abbrev b8_47 : Array Bool := mkB 59 1125899906842623
abbrev b8_48 : Array Bool := mkB 59 562949953421311
abbrev b8_49 : Array Bool := mkB 59 281474976710655
abbrev b8_50 : Array Bool := mkB 59 140737488355327
abbrev b8_51 : Array Bool := mkB 59 70368744177663
abbrev b8_52 : Array Bool := mkB 59 35184372088831
abbrev b8_53 : Array Bool := mkB 59 17592186044415
abbrev b8_54 : Array Bool := mkB 59 8796093022207
abbrev b8_55 : Array Bool := mkB 59 4398046511103
abbrev b8_56 : Array Bool := mkB 59 2199023255551
abbrev b8_57 : Array Bool := mkB 59 1099511627775
abbrev b8_58 : Array Bool := mkB 59 824633720831
abbrev b8_59 : Array Bool := mkB 59 549755813887
abbrev b8_60 : Array Bool := mkB 59 687194767359
abbrev b8_61 : Array Bool := mkB 59 274877906943
abbrev b8_62 : Array Bool := mkB 59 618475290623
abbrev b8_63 : Array Bool := mkB 59 137438953471
abbrev b8_64 : Array Bool := mkB 59 584115552255
abbrev b8_65 : Array Bool := mkB 59 68719476735
abbrev b8_66 : Array Bool := mkB 59 34359738367
abbrev b8_67 : Array Bool := mkB 59 17179869183
abbrev b8_68 : Array Bool := mkB 59 8589934591
abbrev b8_69 : Array Bool := mkB 59 4294967295
abbrev b8_70 : Array Bool := mkB 59 2147483647
abbrev b8_71 : Array Bool := mkB 59 1073741823
abbrev b8_72 : Array Bool := mkB 59 536870911
abbrev b8_73 : Array Bool := mkB 59 268435455
abbrev b8_74 : Array Bool := mkB 59 134217727
abbrev b8_75 : Array Bool := mkB 59 67108863
abbrev b8_76 : Array Bool := mkB 59 33554431
abbrev b8_77 : Array Bool := mkB 59 16777215
abbrev b8_78 : Array Bool := mkB 59 8388607
abbrev b8_79 : Array Bool := mkB 59 4194303
abbrev b8_80 : Array Bool := mkB 59 2097151
abbrev b8_81 : Array Bool := mkB 59 1048575
abbrev b8_82 : Array Bool := mkB 59 524287
abbrev b8_83 : Array Bool := mkB 59 458751
abbrev b8_84 : Array Bool := mkB 59 262143
abbrev b8_85 : Array Bool := mkB 59 425983
abbrev b8_86 : Array Bool := mkB 59 131071
abbrev b8_87 : Array Bool := mkB 59 163839
abbrev b8_88 : Array Bool := mkB 59 65535
abbrev b8_89 : Array Bool := mkB 59 32767
abbrev b8_90 : Array Bool := mkB 59 16383
abbrev b8_91 : Array Bool := mkB 59 8191
abbrev b8_92 : Array Bool := mkB 59 4095
abbrev b8_93 : Array Bool := mkB 59 2047
abbrev b8_94 : Array Bool := mkB 59 1023
abbrev b8_95 : Array Bool := mkB 59 511
abbrev b8_96 : Array Bool := mkB 59 255
abbrev b8_97 : Array Bool := mkB 59 127
abbrev b8_98 : Array Bool := mkB 59 63
abbrev b8_99 : Array Bool := mkB 59 31
abbrev b8_100 : Array Bool := mkB 59 15
abbrev b8_101 : Array Bool := mkB 59 7
abbrev b8_102 : Array Bool := mkB 59 3
abbrev b8_103 : Array Bool := mkB 59 1
abbrev b8_104 : Array Bool := #[false, false, false, false, false, false, false, false, false, false, false, false, false, false, false, false, false, false, false, false, false, false, false, false, false, false, false, false, false, false, false, false, false, false, false, false, false, false, false, false, false, false, false, false, false, false, false, false, false, false, false, false, false, false, false, false, false, false, false]
/-! ### laws_FnNearest: function 3 -/
mutual
def laws_FnNearest.j0 : Nat → List (S40) → Int → Bool → Int → Int → Int → Int → Int → Option (Bool)
  | 0, _, _, _, _, _, _, _, _ => none
  | k + 1, x3, x5, x36, x409000, x409001, x409002, x412000, x412001 => if x36 = true then (some false) else ((impl_AreCaptures.f k x3).bind fun t413 => (if t413 = true then (if x5 < 0 then (laws_FnNearest.j1 k x3 x5 true x409000 x409001 x409002 x412000 x412001) else (laws_FnNearest.j1 k x3 x5 (decide (x5 > 2000)) x409000 x409001 x409002 x412000 x412001)) else (laws_FnNearest.j1 k x3 x5 true x409000 x409001 x409002 x412000 x412001)))
def laws_FnNearest.j1 : Nat → List (S40) → Int → Bool → Int → Int → Int → Int → Int → Option (Bool)
  | 0, _, _, _, _, _, _, _, _ => none
  | k + 1, x3, x5, x47, x409000, x409001, x409002, x412000, x412001 => if x47 = true then (some (x412001 == (-1))) else ((impl_TimeOff.f x3 x412000 x412001 x5).bind fun t414 => (laws_FnNearest.l0 k x3 x5 t414 0 x409000 x409001 x409002 x412000 x412001))
def laws_FnNearest.l0 : Nat → List (S40) → Int → Int → Int → Int → Int → Int → Int → Int → Option (Bool)
  | 0, _, _, _, _, _, _, _, _, _ => none
  | k + 1, x3, x5, x7, x8, x409000, x409001, x409002, x412000, x412001 => if x8 < (x3.length : Int) then (if 0 ≤ x8 then ((impl_DistanceOf.f ((rd_T40 x3 x8).f0.f0) ((rd_T40 x3 x8).f0.f1) ((rd_T40 x3 x8).f0.f2) x409000 x409001 x409002).bind fun t416 => (if t416 = 0 then (if x412000 > 1 then (laws_FnNearest.j3 k x3 x5 x7 x8 t416 true x409000 x409001 x409002 x412000 x412001 0 x8) else ((impl_TimeOff.f x3 0 x8 x5).bind fun t418 => (laws_FnNearest.j3 k x3 x5 x7 x8 t416 (decide (t418 < x7)) x409000 x409001 x409002 x412000 x412001 0 x8))) else (laws_FnNearest.j3 k x3 x5 x7 x8 t416 false x409000 x409001 x409002 x412000 x412001 0 x8))) else (none)) else (if x412001 ≥ 0 then (if 0 ≤ x412001 then (if x412001 < (x3.length : Int) then ((impl_DistanceOf.f ((rd_T40 x3 x412001).f0.f0) ((rd_T40 x3 x412001).f0.f1) ((rd_T40 x3 x412001).f0.f2) x409000 x409001 x409002).bind fun t421 => (if t421 > 1 then (laws_FnNearest.j4 k x3 true x412000 x412001) else ((impl_DistanceOf.f ((rd_T40 x3 x412001).f0.f0) ((rd_T40 x3 x412001).f0.f1) ((rd_T40 x3 x412001).f0.f2) x409000 x409001 x409002).bind fun t423 => (if ((x412000 == 2) != (t423 == 1)) = true then (laws_FnNearest.j4 k x3 true x412000 x412001) else (if x412000 = 0 then (if ((rd_T40 x3 x412001).f1) = x5 then (if x412000 = 1 then (laws_FnNearest.j4 k x3 (((rd_T40 x3 x412001).f1) == x5) x412000 x412001) else (laws_FnNearest.j4 k x3 false x412000 x412001)) else (laws_FnNearest.j4 k x3 true x412000 x412001)) else (if x412000 = 1 then (laws_FnNearest.j4 k x3 (((rd_T40 x3 x412001).f1) == x5) x412000 x412001) else (laws_FnNearest.j4 k x3 false x412000 x412001))))))) else (none)) else (none)) else (laws_FnNearest.j4 k x3 false x412000 x412001))
def laws_FnNearest.j3 : Nat → List (S40) → Int → Int → Int → Int → Bool → Int → Int → Int → Int → Int → Int → Int → Option (Bool)
  | 0, _, _, _, _, _, _, _, _, _, _, _, _, _ => none
  | k + 1, x3, x5, x7, x8, x9, x84, x409000, x409001, x409002, x412000, x412001, x418000, x418001 => if x84 = true then (some false) else (if x9 = 1 then (if x412000 = 3 then (some false) else (if x412000 = 2 then ((impl_TimeOff.f x3 x418000 x418001 x5).bind fun t419 => (if t419 < x7 then (some false) else (laws_FnNearest.l0 k x3 x5 x7 (wrap64 (x8 + 1)) x409000 x409001 x409002 x412000 x412001))) else (laws_FnNearest.l0 k x3 x5 x7 (wrap64 (x8 + 1)) x409000 x409001 x409002 x412000 x412001))) else (laws_FnNearest.l0 k x3 x5 x7 (wrap64 (x8 + 1)) x409000 x409001 x409002 x412000 x412001))
def laws_FnNearest.j4 : Nat → List (S40) → Bool → Int → Int → Option (Bool)
  | 0, _, _, _, _ => none
  | k + 1, x3, x163, x412000, x412001 => if x163 = true then (some false) else ((impl_ResourceBy.f x3 x412000 x412001).bind fun bt428 => (if bt428.1 = 4 then (if ((decide (x412001 ≥ 0)) != (decide (x412001 < 0))) = true then ((impl_IsBetter.f x412000 x412001 3 (-1)).bind fun t435 => (some (t435 == (decide (x412001 ≥ 0))))) else (some false)) else (if ((decide (x412001 ≥ 0)) != false) = true then ((impl_IsBetter.f x412000 x412001 3 (-1)).bind fun t436 => (some (t436 == (decide (x412001 ≥ 0))))) else (some false))))
end
def laws_FnNearest.f (k : Nat) (l0 : List Int) : Option (Bool) := (laws_big.f l0).bind fun t400 => (if t400 = true then (some true) else ((spec_DrawNearestAt.f k l0).bind fun bt401 => ((impl_NearestAt.f k bt401.1 bt401.2.1 bt401.2.2.1 bt401.2.2.2.1 bt401.2.2.2.2).bind fun bt409 => ((impl_RuleName.f bt409.1).bind fun t412 => (if t412.toList = ([] : List UInt8) then (laws_FnNearest.j0 k bt401.1 bt401.2.2.2.2 true bt401.2.1 bt401.2.2.1 bt401.2.2.2.1 bt409.1 bt409.2) else (laws_FnNearest.j0 k bt401.1 bt401.2.2.2.2 ((bt409.1 == 3) != (bt409.2 == (-1))) bt401.2.1 bt401.2.2.1 bt401.2.2.2.1 bt409.1 bt409.2))))))
def laws_FnNearest.T13 : Bool × List (List Nat × List Nat) := (true, [([], []), ([], []), ([0, 1], [0, 1]), ([2], [2]), ([3], [3]), ([], []), ([4, 5], [4, 5]), ([6, 6, 0, 1, 2, 3, 4, 5, 6], [6])])
def laws_FnNearest.B13 : List Nat := [0, 0, 3, 7, 15, 0, 63, 127]
theorem laws_FnNearest.tab13 : rtab .any (opsOf Try.f3 13) = laws_FnNearest.T13 := by kernel_rfl
theorem laws_FnNearest.bits13 : waitsOk laws_FnNearest.T13.2 laws_FnNearest.B13 = true := by kernel_rfl
def laws_FnNearest.T19 : Bool × List (List Nat × List Nat) := (true, [([], []), ([0], [0]), ([1], [1]), ([2], [2]), ([3], [3]), ([3], [3]), ([5, 3], [3, 5]), ([4, 6, 3], [3, 4, 6]), ([7, 3], [3, 7]), ([8, 3], [3, 8]), ([3], [3]), ([9, 10, 3, 3], [3, 9, 10]), ([11, 3], [3, 11]), ([12, 11, 3], [3, 12]), ([13], [13]), ([14, 13], [13, 14]), ([15, 13], [13, 15]), ([13], [13]), ([13], [13]), ([18, 13], [13, 18]), ([17, 19, 13], [13, 17, 19]), ([20, 13], [13, 20]), ([21, 13], [13, 21]), ([13], [13]), ([22, 23, 13, 13], [13, 22, 23]), ([24, 13], [13, 24]), ([16, 25, 13], [13, 16, 25]), ([13, 26, 3], [3, 13, 26]), ([27, 24, 3], [3, 27]), ([28], [28]), ([29, 28], [28, 29]), ([30, 28], [28, 30]), ([31, 28, 28], [28, 31]), ([32], [32]), ([32], [32]), ([34, 32], [32, 34]), ([33, 35, 32], [32, 33, 35]), ([36, 32], [32, 36]), ([37, 32], [32, 37]), ([32], [32]), ([38, 39, 32], [32, 38, 39]), ([32, 40, 28], [28, 32, 40]), ([28, 41, 3], [3, 28, 41]), ([42, 32, 3], [3, 42]), ([43], [43]), ([44, 43], [43, 44]), ([45, 43], [43, 45]), ([46, 43, 43], [43, 46]), ([47], [47]), ([47], [47]), ([49, 47], [47, 49]), ([48, 50, 47], [47, 48, 50]), ([51, 47], [47, 51]), ([52, 47], [47, 52]), ([47], [47]), ([53, 54, 47], [47, 53, 54]), ([47, 55, 43], [43, 47, 55]), ([43, 56, 3], [3, 43, 56]), ([3, 57], [3, 57])])
def laws_FnNearest.B19 : List Nat := [0, 1, 3, 7, 15, 15, 47, 127, 255, 511, 15, 2047, 4095, 8191, 16383, 32767, 65535, 16383, 16383, 278527, 933887, 1982463, 4079615, 16383, 16662527, 33439743, 67108863, 134217727, 268435455, 536870911, 1073741823, 2147483647, 4294967295, 8589934591, 8589934591, 25769803775, 68719476735, 137438953471, 274877906943, 8589934591, 1099511627775, 2199023255551, 4398046511103, 8796093022207, 17592186044415, 35184372088831, 70368744177663, 140737488355327, 281474976710655, 281474976710655, 844424930131967, 2251799813685247, 4503599627370495, 9007199254740991, 281474976710655, 36028797018963967, 72057594037927935, 144115188075855871, 288230376151711743]
theorem laws_FnNearest.tab19 : rtab .any (opsOf Try.f3 19) = laws_FnNearest.T19 := by kernel_rfl
theorem laws_FnNearest.bits19 : waitsOk laws_FnNearest.T19.2 laws_FnNearest.B19 = true := by kernel_rfl
def laws_FnNearest.T22 : Bool × List (List Nat × List Nat) := (true, [([], []), ([0], [0]), ([1], [1]), ([], []), ([], []), ([3, 4], [3, 4]), ([5], [5]), ([6], [6]), ([7, 5], [7]), ([8], [8]), ([9, 8], [8, 9]), ([10, 8], [8, 10]), ([8, 11], [8, 11]), ([2, 12], [2, 12]), ([13, 8], [13]), ([14], [14]), ([14], [14]), ([15, 16, 14, 14], [14, 15, 16]), ([14], [14]), ([18, 14], [14, 18]), ([19, 14], [14, 19]), ([17, 20, 14], [14, 17, 20]), ([14, 21], [14, 21]), ([22, 17, 0, 1, 2, 3, 4, 5, 6, 7, 8, 9, 10, 11, 12, 13, 14, 15, 16, 17, 18, 19, 20, 21, 22], [22])])
def laws_FnNearest.B22 : List Nat := [0, 1, 3, 0, 0, 24, 56, 120, 248, 504, 1016, 2040, 4088, 8191, 16383, 32767, 32767, 131071, 32767, 294911, 819199, 2097151, 4194303, 8388607]
theorem laws_FnNearest.tab22 : rtab .any (opsOf Try.f3 22) = laws_FnNearest.T22 := by kernel_rfl
theorem laws_FnNearest.bits22 : waitsOk laws_FnNearest.T22.2 laws_FnNearest.B22 = true := by kernel_rfl
set_option maxHeartbeats 8000000 in
set_option maxRecDepth 100000 in
theorem laws_FnNearest.calls (k : Nat) (A0 : Option Addr) (c0 : Nat) (l0 : List Int) (r : Bool) (w : World) (hr0 : Kd.C (Kd.int .u8) w A0 l0.length l0) (hc0 : l0.length ≤ c0) (hT_ : r = true) (h : laws_FnNearest.f k l0 = some r) :
  Calls Try.prog 3 #[.slice A0 l0.length c0] w fun e w' => e = .returned (.bool r) ∧ Below w.heap.size w w' := by
 have hu26 := Try.underlying26
 have hu30 := Try.underlying30
 have hu53 := Try.underlying53
 have HR0 := Aside0.mk hr0
 have HC0 := Aside0.mk hc0
 clear hr0 hc0
 have HB := ak (Below.refl w.heap.size w)
 have H : ((laws_big.f l0).bind fun t400 => (if t400 = true then (some true) else ((spec_DrawNearestAt.f k l0).bind fun bt401 => ((impl_NearestAt.f k bt401.1 bt401.2.1 bt401.2.2.1 bt401.2.2.2.1 bt401.2.2.2.2).bind fun bt409 => ((impl_RuleName.f bt409.1).bind fun t412 => (if t412.toList = ([] : List UInt8) then (laws_FnNearest.j0 k bt401.1 bt401.2.2.2.2 true bt401.2.1 bt401.2.2.1 bt401.2.2.2.1 bt409.1 bt409.2) else (laws_FnNearest.j0 k bt401.1 bt401.2.2.2.2 ((bt409.1 == 3) != (bt409.2 == (-1))) bt401.2.1 bt401.2.2.1 bt401.2.2.2.1 bt409.1 bt409.2))))))) = some r := h
 clear h
 replace H := Option.bind_eq_some_iff.mp H
 obtain ⟨t400, A20, H⟩ := H
 replace H : (if t400 = true then (some true) else ((spec_DrawNearestAt.f k l0).bind fun bt401 => ((impl_NearestAt.f k bt401.1 bt401.2.1 bt401.2.2.1 bt401.2.2.2.1 bt401.2.2.2.2).bind fun bt409 => ((impl_RuleName.f bt409.1).bind fun t412 => (if t412.toList = ([] : List UInt8) then (laws_FnNearest.j0 k bt401.1 bt401.2.2.2.2 true bt401.2.1 bt401.2.2.1 bt401.2.2.2.1 bt409.1 bt409.2) else (laws_FnNearest.j0 k bt401.1 bt401.2.2.2.2 ((bt409.1 == 3) != (bt409.2 == (-1))) bt401.2.1 bt401.2.2.1 bt401.2.2.2.1 bt409.1 bt409.2)))))) = some r := H
 have A2 := Aside0.mk A20
 clear A20
 by_cases c3 : t400 = true
 ·subst c3
  have H1 : (some true) = some r := by rw [if_pos rfl] at H; exact H
  clear H
  have H := H1
  clear H1
  obtain rfl := Option.some.inj H
  go_enter Try.func3, Try.ntmps3
  go_wp2_with (first | ((with_reducible refine gate_callee (f := 10) rfl ?_); refine goesL_ (some 13) rfl rfl Try.func10 KR rfl #[.slice A0 l0.length c0] rfl AR ?_; (with_reducible refine (laws_big.calls _ _ l0 true _ ?side1 ?side2 A2.out).mono ?_); (case side1 => exact CR (HR0.out)); (case side2 => exact HC0.out); rintro e w' ⟨rfl, ⟨nd, rfl⟩⟩; refine ⟨_, rfl, ?_⟩))
  go_ret
  exact ⟨RT, PB⟩
 ·replace c3 := Bool.eq_false_iff.mpr c3
  subst c3
  have H1 : ((spec_DrawNearestAt.f k l0).bind fun bt401 => ((impl_NearestAt.f k bt401.1 bt401.2.1 bt401.2.2.1 bt401.2.2.2.1 bt401.2.2.2.2).bind fun bt409 => ((impl_RuleName.f bt409.1).bind fun t412 => (if t412.toList = ([] : List UInt8) then (laws_FnNearest.j0 k bt401.1 bt401.2.2.2.2 true bt401.2.1 bt401.2.2.1 bt401.2.2.2.1 bt409.1 bt409.2) else (laws_FnNearest.j0 k bt401.1 bt401.2.2.2.2 ((bt409.1 == 3) != (bt409.2 == (-1))) bt401.2.1 bt401.2.2.1 bt401.2.2.2.1 bt409.1 bt409.2))))) = some r := by rw [if_neg (show ¬ (false = true) by decide)] at H; exact H
  clear H
  have H := H1
  clear H1
  replace H := Option.bind_eq_some_iff.mp H
  obtain ⟨⟨t401, t404, t405, t406, t407⟩, A40, H⟩ := H
  replace H : ((impl_NearestAt.f k t401 t404 t405 t406 t407).bind fun bt409 => ((impl_RuleName.f bt409.1).bind fun t412 => (if t412.toList = ([] : List UInt8) then (laws_FnNearest.j0 k t401 t407 true t404 t405 t406 bt409.1 bt409.2) else (laws_FnNearest.j0 k t401 t407 ((bt409.1 == 3) != (bt409.2 == (-1))) t404 t405 t406 bt409.1 bt409.2)))) = some r := H
  have A4 := Aside0.mk A40
  clear A40
  replace H := Option.bind_eq_some_iff.mp H
  obtain ⟨⟨t409, t410⟩, A50, H⟩ := H
  replace H : ((impl_RuleName.f t409).bind fun t412 => (if t412.toList = ([] : List UInt8) then (laws_FnNearest.j0 k t401 t407 true t404 t405 t406 t409 t410) else (laws_FnNearest.j0 k t401 t407 ((t409 == 3) != (t410 == (-1))) t404 t405 t406 t409 t410))) = some r := H
  have A5 := Aside0.mk A50
  clear A50
  have HC6 := Aside0.mk H
  clear H
  go_enter Try.func3, Try.ntmps3
  go_upto_region 5 with (first | ((with_reducible refine gate_callee (f := 10) rfl ?_); refine goesL_ (some 13) rfl rfl Try.func10 KR rfl #[.slice A0 l0.length c0] rfl AR ?_; (with_reducible refine (laws_big.calls _ _ l0 false _ ?side1 ?side2 A2.out).mono ?_); (case side1 => exact CR (HR0.out)); (case side2 => exact HC0.out); rintro e w' ⟨rfl, ⟨nd, rfl⟩⟩; refine ⟨_, rfl, ?_⟩) | ((with_reducible refine gate_callee (f := 11) rfl ?_); refine goesL_ (some 16) rfl rfl Try.func11 KR rfl #[.slice A0 l0.length c0] rfl AR ?_; (with_reducible refine (spec_DrawNearestAt.calls k _ _ l0 t401 t404 t405 t406 t407 _ ?side1 ?side2 A4.out).mono ?_); (case side1 => exact CR (HR0.out)); (case side2 => exact HC0.out); rintro e w7 ⟨v402, rfl, ho0, hb⟩; refine ⟨_, rfl, ?_⟩; have HO403 := ak (Kd.S_lower ho0 (below_size PB)); replace HB := bs HB hb; (try clear hb); (try clear hb2); (try clear hk); (try clear hi); (try clear ho0)) | ((with_reducible refine gate_dst (N := 4) rfl ?_); refine bx_ (N := 4) #[.int .i64 0, .int .i64 0, .int .i64 0] 26 ?_; intro gb408 hg w8 hbox hb; replace HO403 := Sb HO403 hb; have BK408 := ak hbox; have GW408 := gy hg HB; have GE408 := gy hg HB; replace HB := bs HB hb; clear hb hbox hg; obtain ⟨hcz9_0, hcz9_1, hcz9_2, hfz9_0, hfz9_1, hfz9_2⟩ := bc3 BK408; obtain ⟨Ao10, co10, eo10⟩ := Kd.S_slice HO403.out; subst eo10) | ((with_reducible refine gate_callee (f := 12) rfl ?_); refine goesL_ (some 23) rfl rfl Try.func12 KR rfl #[.slice Ao10 t401.length co10, .agg #[.int .i64 t404, .int .i64 t405, .int .i64 t406], .int .i64 t407] rfl AR ?_; (with_reducible refine (impl_NearestAt.calls k _ _ t401 t404 t405 t406 t407 t409 t410 _ ?side1 ?side2 A5.out).mono ?_); (case side1 => exact (Kd.S_reads' (Se1 HO403 BK408)).2.2); (case side2 => exact (Kd.S_reads' HO403.out).2.1); rintro e w11 ⟨rfl, hb⟩; refine ⟨_, rfl, ?_⟩; replace HO403 := ak (Kd.S_below (Se1 HO403 BK408) hb); replace BK408 := kp (cs' := #[.int .i64 t404, .int .i64 t405, .int .i64 t406]) BK408 hb; replace HB := bs HB hb; (try clear hb); (try clear hb2); (try clear hk); (try clear hi)) | ((with_reducible refine gate_dst (N := 6) rfl ?_); refine bx_ (N := 6) #[.int .i64 0, .int .i64 0] 30 ?_; intro gb411 hg w12 hbox hb; replace HO403 := Sb HO403 hb; have BK411 := ak hbox; have GW411 := gy hg HB; have GE411 := gy hg HB; replace HB := bs HB hb; have NB408_411 := gm hg BK408; have NB411_408 := gn hg BK408; replace BK408 := kf BK408 hb; clear hb hbox hg; have hnb13 := NB411_408.out; have hnc13 := NB408_411.out; obtain ⟨hcz14_0, hcz14_1, hfz14_0, hfz14_1⟩ := bc2 BK411))
  (try simp only [Act.put, List.setIfInBounds_toArray, List.set_cons_zero, List.set_cons_succ])
  go_cut [36] (fun v36 wc => ∃ (kq : Nat) (x36_5 : Bool), v36 = .bool x36_5 ∧ Aside0 (laws_FnNearest.j0 kq t401 t407 x36_5 t404 t405 t406 t409 t410 = some r) ∧ Aside0 (kq ≤ k) ∧ Aside0 (Kd.S k40 40 wc w.heap.size (fun _ => True) (.slice Ao10 t401.length co10) t401) ∧ Aside0 (wc.heap[gb408]? = some (.cells #[.int .i64 t404, .int .i64 t405, .int .i64 t406] 26 (0, 0))) ∧ Aside0 (wc.heap[gb411]? = some (.cells #[.int .i64 t409, .int .i64 t410] 30 (0, 0))) ∧ Aside0 (Below w.heap.size w wc))
  case first =>
   have H := HC6.out
   clear HC6
   replace H := Option.bind_eq_some_iff.mp H
   obtain ⟨t412, A150, H⟩ := H
   replace H : (if t412.toList = ([] : List UInt8) then (laws_FnNearest.j0 k t401 t407 true t404 t405 t406 t409 t410) else (laws_FnNearest.j0 k t401 t407 ((t409 == 3) != (t410 == (-1))) t404 t405 t406 t409 t410)) = some r := H
   have A15 := Aside0.mk A150
   clear A150
   by_cases c16 : t412.toList = ([] : List UInt8)
   ·rw [if_pos c16] at H
    have c16b0 : (t412.toList == ([] : List UInt8)) = true := beq_iff_eq.mpr c16
    have c16b1 : (t412.toList != ([] : List UInt8)) = false := bne_eq_false_iff_eq.mpr c16
    clear c16
    (first | rw [c16b0] | (simp only [i64_w, i32_w]; rw [c16b0]) | skip)
    have H' := Aside0.mk H
    clear H
    have hnb17 := NB411_408.out
    have hnc17 := NB408_411.out
    obtain ⟨hcz18_0, hcz18_1, hfz18_0, hfz18_1⟩ := bc2 BK411
    go_wp2_with (first | ((with_reducible refine gate_callee (f := 13) rfl ?_); refine goesL_ (some 26) rfl rfl Try.func13 KR rfl #[.int .i64 t409] rfl AR ?_; (with_reducible refine (impl_RuleName.calls t409 t412 _ A15.out).mono ?_); rintro e w19 ⟨rfl, hb⟩; refine ⟨_, rfl, ?_⟩; replace HO403 := ak (Kd.S_below (Se1 HO403 BK411) hb); replace BK408 := kf BK408 hb; replace BK411 := kp (cs' := #[.int .i64 t409, .int .i64 t410]) BK411 hb; replace HB := bs HB hb; (try clear hb); (try clear hb2); (try clear hk); (try clear hi)))
    go_meet
    case rel => exact ⟨_, (true), (by first | rfl | (simp; done) | (simp [*]; done)), H', ⟨by first | omega | exact Nat.le_refl _⟩, ⟨PS HO403⟩, ⟨PK BK408⟩, ⟨PK BK411⟩, ⟨PB⟩⟩
   ·rw [if_neg c16] at H
    have c16b0 : (t412.toList == ([] : List UInt8)) = false := beq_eq_false_iff_ne.mpr c16
    have c16b1 : (t412.toList != ([] : List UInt8)) = true := bne_iff_ne.mpr c16
    (first | rw [c16b0] | (simp only [i64_w, i32_w]; rw [c16b0]) | skip)
    have H' := Aside0.mk H
    clear H
    have hnb20 := NB411_408.out
    have hnc20 := NB408_411.out
    obtain ⟨hcz21_0, hcz21_1, hfz21_0, hfz21_1⟩ := bc2 BK411
    go_wp2_with (first | ((with_reducible refine gate_callee (f := 13) rfl ?_); refine goesL_ (some 26) rfl rfl Try.func13 KR rfl #[.int .i64 t409] rfl AR ?_; (with_reducible refine (impl_RuleName.calls t409 t412 _ A15.out).mono ?_); rintro e w22 ⟨rfl, hb⟩; refine ⟨_, rfl, ?_⟩; replace HO403 := ak (Kd.S_below (Se1 HO403 BK411) hb); replace BK408 := kf BK408 hb; replace BK411 := kp (cs' := #[.int .i64 t409, .int .i64 t410]) BK411 hb; replace HB := bs HB hb; (try clear hb); (try clear hb2); (try clear hk); (try clear hi); obtain ⟨hcz23_0, hcz23_1, hfz23_0, hfz23_1⟩ := bc2 BK411))
    go_meet
    case rel => exact ⟨_, (((t409 == 3) != (t410 == (-1)))), (by first | rfl | (simp; done) | (simp [*]; done)), H', ⟨by first | omega | exact Nat.le_refl _⟩, ⟨PS HO403⟩, ⟨PK BK408⟩, ⟨PK BK411⟩, ⟨PB⟩⟩
  case rest =>
   clear HC6
   (try clear c1); (try clear c2); (try clear p2); (try clear c3); (try clear c10); (try clear c11); (try clear c12); (try clear c13); (try clear c16); (try clear c16b0); (try clear c16b1); (try clear c17); (try clear c20); (try clear hcz14_0); (try clear hcz14_1); (try clear hcz18_0); (try clear hcz18_1); (try clear hcz21_0); (try clear hcz21_1); (try clear hcz23_0); (try clear hcz23_1); (try clear hcz9_0); (try clear hcz9_1); (try clear hcz9_2); (try clear hfz14_0); (try clear hfz14_1); (try clear hfz18_0); (try clear hfz18_1); (try clear hfz21_0); (try clear hfz21_1); (try clear hfz23_0); (try clear hfz23_1); (try clear hfz9_0); (try clear hfz9_1); (try clear hfz9_2)
   obtain ⟨kq, x36_5, rfl, HA, HJ5, HO_3, BK408, BK411, HB⟩ := hcut
   cases kq with
   | zero => exact absurd HA.out (by simp [laws_FnNearest.j0])
   | succ kj5 =>
    have H := HA.out
    clear HA
    simp only [laws_FnNearest.j0] at H
    by_cases c24 : x36_5 = true
    ·subst c24
     have H1 : (some false) = some r := by rw [if_pos rfl] at H; exact H
     clear H
     have H := H1
     clear H1
     cases (Option.some.inj H).trans hT_
    ·replace c24 := Bool.eq_false_iff.mpr c24
     subst c24
     have H1 : ((impl_AreCaptures.f kj5 t401).bind fun t413 => (if t413 = true then (if t407 < 0 then (laws_FnNearest.j1 kj5 t401 t407 true t404 t405 t406 t409 t410) else (laws_FnNearest.j1 kj5 t401 t407 (decide (t407 > 2000)) t404 t405 t406 t409 t410)) else (laws_FnNearest.j1 kj5 t401 t407 true t404 t405 t406 t409 t410))) = some r := by rw [if_neg (show ¬ (false = true) by decide)] at H; exact H
     clear H
     have H := H1
     clear H1
     have HC25 := Aside0.mk H
     clear H
     go_upto_region 7 with (fail)
     go_cut [47] (fun v47 wc => ∃ (kq : Nat) (x47_24 : Bool), v47 = .bool x47_24 ∧ Aside0 (laws_FnNearest.j1 kq t401 t407 x47_24 t404 t405 t406 t409 t410 = some r) ∧ Aside0 (kq ≤ kj5) ∧ Aside0 (Kd.S k40 40 wc w.heap.size (fun _ => True) (.slice Ao10 t401.length co10) t401) ∧ Aside0 (wc.heap[gb408]? = some (.cells #[.int .i64 t404, .int .i64 t405, .int .i64 t406] 26 (0, 0))) ∧ Aside0 (wc.heap[gb411]? = some (.cells #[.int .i64 t409, .int .i64 t410] 30 (0, 0))) ∧ Aside0 (Below w.heap.size w wc))
     case first =>
      have H := HC25.out
      clear HC25
      replace H := Option.bind_eq_some_iff.mp H
      obtain ⟨t413, A260, H⟩ := H
      replace H : (if t413 = true then (if t407 < 0 then (laws_FnNearest.j1 kj5 t401 t407 true t404 t405 t406 t409 t410) else (laws_FnNearest.j1 kj5 t401 t407 (decide (t407 > 2000)) t404 t405 t406 t409 t410)) else (laws_FnNearest.j1 kj5 t401 t407 true t404 t405 t406 t409 t410)) = some r := H
      have A26 := Aside0.mk A260
      clear A260
      by_cases c27 : t413 = true
      ·subst c27
       have H1 : (if t407 < 0 then (laws_FnNearest.j1 kj5 t401 t407 true t404 t405 t406 t409 t410) else (laws_FnNearest.j1 kj5 t401 t407 (decide (t407 > 2000)) t404 t405 t406 t409 t410)) = some r := by rw [if_pos rfl] at H; exact H
       clear H
       have H := H1
       clear H1
       by_cases c28 : t407 < 0
       ·rw [if_pos c28] at H
        have c28b0 : decide (t407 < 0) = true := decide_eq_true c28
        clear c28
        (first | rw [c28b0] | (simp only [i64_w, i32_w]; rw [c28b0]) | skip)
        have H' := Aside0.mk H
        clear H
        go_wp2_with (first | ((with_reducible refine gate_callee (f := 14) rfl ?_); refine goesL_ (some 38) rfl rfl Try.func14 KR rfl #[.slice Ao10 t401.length co10] rfl AR ?_; (with_reducible refine (impl_AreCaptures.calls kj5 _ _ t401 true _ ?side1 ?side2 A26.out).mono ?_); (case side1 => exact CR ((Kd.S_reads' HO_3.out).2.2)); (case side2 => exact (Kd.S_reads' HO_3.out).2.1); rintro e w29 ⟨rfl, hb⟩; refine ⟨_, rfl, ?_⟩; replace HO_3 := Sb HO_3 hb; replace BK408 := kf BK408 hb; replace BK411 := kf BK411 hb; replace HB := bs HB hb; (try clear hb); (try clear hb2); (try clear hk); (try clear hi)))
        go_meet
        case rel => exact ⟨_, (true), (by first | rfl | (simp; done) | (simp [*]; done)), H', ⟨by have := HJ5.out; first | omega | exact Nat.le_refl _⟩, ⟨PS HO_3⟩, ⟨PK BK408⟩, ⟨PK BK411⟩, ⟨PB⟩⟩
       ·rw [if_neg c28] at H
        have c28b0 : decide (t407 < 0) = false := decide_eq_false c28
        clear c28
        (first | rw [c28b0] | (simp only [i64_w, i32_w]; rw [c28b0]) | skip)
        have H' := Aside0.mk H
        clear H
        go_wp2_with (first | ((with_reducible refine gate_callee (f := 14) rfl ?_); refine goesL_ (some 38) rfl rfl Try.func14 KR rfl #[.slice Ao10 t401.length co10] rfl AR ?_; (with_reducible refine (impl_AreCaptures.calls kj5 _ _ t401 true _ ?side1 ?side2 A26.out).mono ?_); (case side1 => exact CR ((Kd.S_reads' HO_3.out).2.2)); (case side2 => exact (Kd.S_reads' HO_3.out).2.1); rintro e w30 ⟨rfl, hb⟩; refine ⟨_, rfl, ?_⟩; replace HO_3 := Sb HO_3 hb; replace BK408 := kf BK408 hb; replace BK411 := kf BK411 hb; replace HB := bs HB hb; (try clear hb); (try clear hb2); (try clear hk); (try clear hi)))
        go_meet
        case rel => exact ⟨_, (decide (t407 > 2000)), (by first | rfl | (simp; done) | (simp [*]; done)), H', ⟨by have := HJ5.out; first | omega | exact Nat.le_refl _⟩, ⟨PS HO_3⟩, ⟨PK BK408⟩, ⟨PK BK411⟩, ⟨PB⟩⟩
      ·replace c27 := Bool.eq_false_iff.mpr c27
       subst c27
       have H1 : (laws_FnNearest.j1 kj5 t401 t407 true t404 t405 t406 t409 t410) = some r := by rw [if_neg (show ¬ (false = true) by decide)] at H; exact H
       clear H
       have H := H1
       clear H1
       have H' := Aside0.mk H
       clear H
       go_wp2_with (first | ((with_reducible refine gate_callee (f := 14) rfl ?_); refine goesL_ (some 38) rfl rfl Try.func14 KR rfl #[.slice Ao10 t401.length co10] rfl AR ?_; (with_reducible refine (impl_AreCaptures.calls kj5 _ _ t401 false _ ?side1 ?side2 A26.out).mono ?_); (case side1 => exact CR ((Kd.S_reads' HO_3.out).2.2)); (case side2 => exact (Kd.S_reads' HO_3.out).2.1); rintro e w31 ⟨rfl, hb⟩; refine ⟨_, rfl, ?_⟩; replace HO_3 := Sb HO_3 hb; replace BK408 := kf BK408 hb; replace BK411 := kf BK411 hb; replace HB := bs HB hb; (try clear hb); (try clear hb2); (try clear hk); (try clear hi)))
       go_meet
       case rel => exact ⟨_, (true), (by first | rfl | (simp; done) | (simp [*]; done)), H', ⟨by have := HJ5.out; first | omega | exact Nat.le_refl _⟩, ⟨PS HO_3⟩, ⟨PK BK408⟩, ⟨PK BK411⟩, ⟨PB⟩⟩
     case rest =>
      clear HC25
      (try clear c1); (try clear c2); (try clear p2); (try clear c3); (try clear c10); (try clear c11); (try clear c12); (try clear c13); (try clear c14); (try clear c16); (try clear c16b0); (try clear c16b1); (try clear c17); (try clear c20); (try clear c24); (try clear c27); (try clear c28); (try clear c28b0); (try clear hcz14_0); (try clear hcz14_1); (try clear hcz18_0); (try clear hcz18_1); (try clear hcz21_0); (try clear hcz21_1); (try clear hcz23_0); (try clear hcz23_1); (try clear hcz9_0); (try clear hcz9_1); (try clear hcz9_2); (try clear hfz14_0); (try clear hfz14_1); (try clear hfz18_0); (try clear hfz18_1); (try clear hfz21_0); (try clear hfz21_1); (try clear hfz23_0); (try clear hfz23_1); (try clear hfz9_0); (try clear hfz9_1); (try clear hfz9_2); (try clear p2)
      obtain ⟨kq, x47_24, rfl, HA, HJ24, HO_3, BK408, BK411, HB⟩ := hcut
      cases kq with
      | zero => exact absurd HA.out (by simp [laws_FnNearest.j1])
      | succ kj24 =>
       have H := HA.out
       clear HA
       simp only [laws_FnNearest.j1] at H
       by_cases c32 : x47_24 = true
       ·subst c32
        have H1 : (some (t410 == (-1))) = some r := by rw [if_pos rfl] at H; exact H
        clear H
        have H := H1
        clear H1
        obtain rfl := Option.some.inj H
        have hnb33 := NB411_408.out
        have hnc33 := NB408_411.out
        obtain ⟨hcz34_0, hcz34_1, hfz34_0, hfz34_1⟩ := bc2 BK411
        go_wp2
        go_ret
        exact ⟨RT, PB⟩
       ·replace c32 := Bool.eq_false_iff.mpr c32
        subst c32
        have H1 : ((impl_TimeOff.f t401 t409 t410 t407).bind fun t414 => (laws_FnNearest.l0 kj24 t401 t407 t414 0 t404 t405 t406 t409 t410)) = some r := by rw [if_neg (show ¬ (false = true) by decide)] at H; exact H
        clear H
        have H := H1
        clear H1
        replace H := Option.bind_eq_some_iff.mp H
        obtain ⟨t414, A350, H⟩ := H
        replace H : (laws_FnNearest.l0 kj24 t401 t407 t414 0 t404 t405 t406 t409 t410) = some r := H
        have A35 := Aside0.mk A350
        clear A350
        have H' := Aside0.mk H
        clear H
        have hnb36 := NB411_408.out
        have hnc36 := NB408_411.out
        obtain ⟨hcz37_0, hcz37_1, hfz37_0, hfz37_1⟩ := bc2 BK411
        go_wp2_with (first | ((with_reducible refine gate_callee (f := 15) rfl ?_); refine goesL_ (some 54) rfl rfl Try.func15 KR rfl #[.slice Ao10 t401.length co10, .agg #[.int .i64 t409, .int .i64 t410], .int .i64 t407] rfl AR ?_; (with_reducible refine (impl_TimeOff.calls _ _ t401 t409 t410 t407 t414 _ ?side1 ?side2 A35.out).mono ?_); (case side1 => exact CR ((Kd.S_reads' HO_3.out).2.2)); (case side2 => exact (Kd.S_reads' HO_3.out).2.1); rintro e w38 ⟨rfl, hb⟩; refine ⟨_, rfl, ?_⟩; replace HO_3 := Sb HO_3 hb; replace BK408 := kf BK408 hb; replace BK411 := kf BK411 hb; replace HB := bs HB hb; (try clear hb); (try clear hb2); (try clear hk); (try clear hi)))
        go_loopg [8] kj24 (fun kq v8 w' => ∃ (x8_3 : Int), v8 = .int .i64 x8_3 ∧ Aside0 (laws_FnNearest.l0 kq t401 t407 t414 x8_3 t404 t405 t406 t409 t410 = some r) ∧ Aside0 (kq ≤ kj24) ∧ Aside0 (Kd.S k40 40 w' w.heap.size (fun _ => True) (.slice Ao10 t401.length co10) t401) ∧ Aside0 (w'.heap[gb408]? = some (.cells #[.int .i64 t404, .int .i64 t405, .int .i64 t406] 26 (0, 0))) ∧ Aside0 (w'.heap[gb411]? = some (.cells #[.int .i64 t409, .int .i64 t410] 30 (0, 0))) ∧ Aside0 (Below w.heap.size w w'))
        case atStart => exact ⟨(0), (by first | rfl | (simp; done) | (simp [*]; done)), H', ⟨Nat.le_refl _⟩, ⟨PS HO_3⟩, ⟨PK BK408⟩, ⟨PK BK411⟩, ⟨PB⟩⟩
        case round =>
         clear H'
         (try clear c1); (try clear c2); (try clear p2); (try clear c3); (try clear c10); (try clear c11); (try clear c12); (try clear c13); (try clear c14); (try clear c15); (try clear c16); (try clear c16b0); (try clear c16b1); (try clear c17); (try clear c20); (try clear c24); (try clear c27); (try clear c28); (try clear c28b0); (try clear c32); (try clear c33); (try clear c36); (try clear hcz14_0); (try clear hcz14_1); (try clear hcz18_0); (try clear hcz18_1); (try clear hcz21_0); (try clear hcz21_1); (try clear hcz23_0); (try clear hcz23_1); (try clear hcz34_0); (try clear hcz34_1); (try clear hcz37_0); (try clear hcz37_1); (try clear hcz9_0); (try clear hcz9_1); (try clear hcz9_2); (try clear hfz14_0); (try clear hfz14_1); (try clear hfz18_0); (try clear hfz18_1); (try clear hfz21_0); (try clear hfz21_1); (try clear hfz23_0); (try clear hfz23_1); (try clear hfz34_0); (try clear hfz34_1); (try clear hfz37_0); (try clear hfz37_1); (try clear hfz9_0); (try clear hfz9_1); (try clear hfz9_2); (try clear p2)
         obtain ⟨x8_3, rfl, HA, HK3, HO_3, BK408, BK411, HB⟩ := hrel
         cases gk with
         | zero => exact absurd HA.out (by simp [laws_FnNearest.l0])
         | succ k3 =>
          have H := HA.out
          clear HA
          simp only [laws_FnNearest.l0] at H
          by_cases c39 : x8_3 < (t401.length : Int)
          ·rw [if_pos c39] at H
           have c39b0 : decide (x8_3 < (t401.length : Int)) = true := decide_eq_true c39
           clear c39
           by_cases c40 : 0 ≤ x8_3
           ·rw [if_pos c40] at H
            have c40b0 : decide (0 ≤ x8_3) = true := decide_eq_true c40
            clear c40
            replace H := Option.bind_eq_some_iff.mp H
            obtain ⟨t416, A410, H⟩ := H
            replace H : (if t416 = 0 then (if t409 > 1 then (laws_FnNearest.j3 k3 t401 t407 t414 x8_3 t416 true t404 t405 t406 t409 t410 0 x8_3) else ((impl_TimeOff.f t401 0 x8_3 t407).bind fun t418 => (laws_FnNearest.j3 k3 t401 t407 t414 x8_3 t416 (decide (t418 < t414)) t404 t405 t406 t409 t410 0 x8_3))) else (laws_FnNearest.j3 k3 t401 t407 t414 x8_3 t416 false t404 t405 t406 t409 t410 0 x8_3)) = some r := H
            have A41 := Aside0.mk A410
            clear A410
            have HC42 := Aside0.mk H
            clear H
            try go_wp2
            replace HO_3 := ak (Kd.S_drew HO_3.out)
            replace BK408 := ak (blk_drew BK408.out)
            replace BK411 := ak (blk_drew BK411.out)
            replace HB := ak (below_drew1 HB.out)
            have p415 : 0 ≤ (x8_3 : Int) := of_decide_eq_true (by first | (with_reducible assumption) | assumption)
            have q415 : x8_3 < (t401.length : Int) := of_decide_eq_true (by first | (with_reducible assumption) | assumption)
            obtain ⟨ad415, A415_5, c415_5, e415, hx415_0, hx415_1, hx415_2, hx415_3, hx415_4, hx415_5, hx415_6, hx415_7, hx415_8, hl415_5, hi415_5⟩ := at_T40 (Kd.S_reads' HO_3.out).2.2 x8_3 p415 q415
            cases e415
            obtain ⟨ce415, hce415, hMe415, hcc415⟩ := Kd.S_get HO_3.out z40 x8_3 p415 (by first | exact q415 | exact of_decide_eq_true (by first | (with_reducible assumption) | assumption) | (have e_ := (Kd.S_reads' HO_3.out).1; omega))
            obtain ⟨ve415_5, rfl, ge415_5⟩ := k40_openM hMe415
            have hv415_5 := hcc415 5 _ rfl
            rw [add_field _ _ 5 (by omega)] at hv415_5
            replace hv415_5 := Option.some.inj (hv415_5.symm.trans hx415_5)
            rw [hv415_5] at ge415_5
            have HL415_5 := ak (show Kd.R (Kd.int .i64) 3 _ _ _ _ ((rd_T40 t401 x8_3).f2.f1) from ge415_5)
            clear hv415_5 ge415_5
            clear hcc415 hce415
            have HR415_5 := Aside0.mk hi415_5
            have HC415_5 := Aside0.mk hl415_5
            clear hi415_5 hl415_5
            replace p415 := eq_true p415
            replace q415 := eq_true q415
            refine start_ (n := 8) (S := fun w' => w'.cell? ⟨gb408, 0, none⟩ = some (.int .i64 t404) ∧ w'.cell? ⟨gb408, 1, none⟩ = some (.int .i64 t405) ∧ w'.cell? ⟨gb408, 2, none⟩ = some (.int .i64 t406) ∧ w'.cell? (ad415.add ((x8_3).toNat * 9)) = some (.int .i64 ((rd_T40 t401 x8_3).f0.f0)) ∧ w'.cell? ⟨(ad415.add ((x8_3).toNat * 9)).block, (ad415.add ((x8_3).toNat * 9)).off + 1, none⟩ = some (.int .i64 ((rd_T40 t401 x8_3).f0.f1)) ∧ w'.cell? ⟨(ad415.add ((x8_3).toNat * 9)).block, (ad415.add ((x8_3).toNat * 9)).off + 2, none⟩ = some (.int .i64 ((rd_T40 t401 x8_3).f0.f2)) ∧ w'.cell? ⟨(ad415.add ((x8_3).toNat * 9)).block, (ad415.add ((x8_3).toNat * 9)).off + 3, none⟩ = some (.int .i64 ((rd_T40 t401 x8_3).f1)) ∧ w'.cell? ⟨(ad415.add ((x8_3).toNat * 9)).block, (ad415.add ((x8_3).toNat * 9)).off + 4, none⟩ = some (.int .i64 ((rd_T40 t401 x8_3).f2.f0)) ∧ w'.cell? ⟨(ad415.add ((x8_3).toNat * 9)).block, (ad415.add ((x8_3).toNat * 9)).off + 5, none⟩ = some (.slice A415_5 ((rd_T40 t401 x8_3).f2.f1).length c415_5) ∧ w'.cell? ⟨(ad415.add ((x8_3).toNat * 9)).block, (ad415.add ((x8_3).toNat * 9)).off + 6, none⟩ = some (.int .i64 ((rd_T40 t401 x8_3).f2.f2.f0)) ∧ w'.cell? ⟨(ad415.add ((x8_3).toNat * 9)).block, (ad415.add ((x8_3).toNat * 9)).off + 7, none⟩ = some (.int .i64 ((rd_T40 t401 x8_3).f2.f2.f1)) ∧ w'.cell? ⟨(ad415.add ((x8_3).toNat * 9)).block, (ad415.add ((x8_3).toNat * 9)).off + 8, none⟩ = some (.int .i64 ((rd_T40 t401 x8_3).f2.f2.f2))) (ds := []) #[false, false, false, false, false, false, false, false] KR rfl rfl ⟨(blk_cell BK408.out 0).trans rfl, (blk_cell BK408.out 1).trans rfl, (blk_cell BK408.out 2).trans rfl, hx415_0, hx415_1, hx415_2, hx415_3, hx415_4, hx415_5, hx415_6, hx415_7, hx415_8⟩ (fun hHeld => ?_); refine with_tabW laws_FnNearest.tab13 laws_FnNearest.bits13 (fun HT_ HW_ => ?_)
            generalize wr.drew = w43 at HO_3 BK408 BK411 HB HL415_5 HR415_5 hx415_0 hx415_1 hx415_2 hx415_3 hx415_4 hx415_5 hx415_6 hx415_7 hx415_8 hHeld ⊢
            refine pu_ (i := 0) (N := some 61) #[true, false, false, false, false, false, false, false] HT_ ?_
            refine pu_ (i := 1) (N := some 62) #[true, true, false, false, false, false, false, false] HT_ ?_
            refine pu_ (i := 2) (N := some 63) #[true, true, true, false, false, false, false, false] HT_ ?_
            refine pu_ (i := 3) (N := some 64) #[true, true, true, true, false, false, false, false] HT_ ?_
            refine tk_ (i := 4) (N := some 65) #[true, true, true, true, true, false, false, false] rfl rfl HT_ HW_ hHeld ?_
            refine take_ (i := 5) (N := some 66) (v := ?_) (a' := ?_) #[true, true, true, true, true, true, false, false] rfl rfl (take_ofW HT_.out HW_.out KR) (fun _ _ _ h => h) (Or.inl ⟨by rfl, ?_⟩) hHeld ?_ ?_
            rotate_left
            ·rintro w' ⟨s0, s1, s2, s3, s4, s5, s6, s7, s8, s9, s10, s11⟩
             go_simp
             with_reducible rfl
            rotate_left
            ·simp only [Act.put, List.setIfInBounds_toArray, List.set_cons_zero, List.set_cons_succ, i64_w, i32_w]
             rfl
            refine one_ (i := 6) (N := some 67) #[true, true, true, true, true, true, true, false] rfl rfl (one_of HT_.out KR) (by decide) (fun K hK => ?_)
            refine goes_ Try.func16 KR rfl #[.agg #[.int .i64 ((rd_T40 t401 x8_3).f0.f0), .int .i64 ((rd_T40 t401 x8_3).f0.f1), .int .i64 ((rd_T40 t401 x8_3).f0.f2)], .agg #[.int .i64 t404, .int .i64 t405, .int .i64 t406]] (by rfl) rfl rfl AR ?_
            with_reducible refine (impl_DistanceOf.calls ((rd_T40 t401 x8_3).f0.f0) ((rd_T40 t401 x8_3).f0.f1) ((rd_T40 t401 x8_3).f0.f2) t404 t405 t406 t416 _ A41.out).mono ?_
            rintro e w44 ⟨rfl, hb⟩
            have HS3_ := hs_ hb hHeld.2.2.2.1; have HS4_ := hs_ hb hHeld.2.2.2.2.1; have HS5_ := hs_ hb hHeld.2.2.2.2.2.1; have HS6_ := hs_ hb hHeld.2.2.2.2.2.2.1; have HS7_ := hs_ hb hHeld.2.2.2.2.2.2.2.1; have HS8_ := hs_ hb hHeld.2.2.2.2.2.2.2.2.1; have HS9_ := hs_ hb hHeld.2.2.2.2.2.2.2.2.2.1; have HS10_ := hs_ hb hHeld.2.2.2.2.2.2.2.2.2.2.1; have HS11_ := hs_ hb hHeld.2.2.2.2.2.2.2.2.2.2.2
            refine ⟨_, rfl, ?_⟩
            replace HO_3 := Sb HO_3 hb
            replace HL415_5 := Rb HL415_5 hb
            replace BK408 := kf BK408 hb
            replace BK411 := kf BK411 hb
            replace HR415_5 := Cb HR415_5 hb
            replace HB := bs HB hb
            (try clear hb)
            (try clear hb2)
            (try clear hk)
            (try clear hi)
            refine hK.out _ _ ⟨(blk_cell BK408.out 0).trans rfl, (blk_cell BK408.out 1).trans rfl, (blk_cell BK408.out 2).trans rfl, HS3_, HS4_, HS5_, HS6_, HS7_, HS8_, HS9_, HS10_, HS11_⟩ (fun hHeld => ?_)
            clear hK K
            refine norm_ (a' := ?_) ?_ ?_
            rotate_left
            ·show Act.put _ (some 67) _ = _
             simp only [Act.put, List.setIfInBounds_toArray, List.set_cons_zero, List.set_cons_succ, i64_w, i32_w]
             rfl
            refine pu_ (i := 7) (N := some 9) #[true, true, true, true, true, true, true, true] HT_ ?_
            refine done_ (done_of HT_.out KR) ?_
            go_upto_region 15 with (first | ((with_reducible refine gate_dst (N := 10) rfl ?_); refine bx_ (N := 10) #[.int .i64 0, .int .i64 0] 30 ?_; intro gb417 hg w45 hbox hb; replace HO_3 := Sb HO_3 hb; replace HL415_5 := Rb HL415_5 hb; replace HR415_5 := Cb HR415_5 hb; have BK417 := ak hbox; have GW417 := gy hg HB; have GE417 := gy hg HB; replace HB := bs HB hb; have NB408_417 := gm hg BK408; have NB417_408 := gn hg BK408; replace BK408 := kf BK408 hb; have NB411_417 := gm hg BK411; have NB417_411 := gn hg BK411; replace BK411 := kf BK411 hb; clear hb hbox hg; have hnb46 := NB417_408.out; have hnc46 := NB408_417.out; have hnb47 := NB417_411.out; have hnc47 := NB411_417.out; obtain ⟨hcz48_0, hcz48_1, hfz48_0, hfz48_1⟩ := bc2 BK417))
            (try simp only [Act.put, List.setIfInBounds_toArray, List.set_cons_zero, List.set_cons_succ])
            go_cut [84] (fun v84 wc => ∃ (kq : Nat) (x84_41 : Bool), v84 = .bool x84_41 ∧ Aside0 (laws_FnNearest.j3 kq t401 t407 t414 x8_3 t416 x84_41 t404 t405 t406 t409 t410 0 x8_3 = some r) ∧ Aside0 (kq ≤ k3) ∧ Aside0 (Kd.S k40 40 wc w.heap.size (fun _ => True) (.slice (some ad415) t401.length co10) t401) ∧ Aside0 (wc.heap[gb408]? = some (.cells #[.int .i64 t404, .int .i64 t405, .int .i64 t406] 26 (0, 0))) ∧ Aside0 (wc.heap[gb411]? = some (.cells #[.int .i64 t409, .int .i64 t410] 30 (0, 0))) ∧ Aside0 (wc.heap[gb417]? = some (.cells #[.int .i64 0, .int .i64 x8_3] 30 (0, 0))) ∧ Aside0 (Kd.C (Kd.int .i64) wc A415_5 ((rd_T40 t401 x8_3).f2.f1).length ((rd_T40 t401 x8_3).f2.f1)) ∧ Aside0 (Below w.heap.size w wc))
            case first =>
             have H := HC42.out
             clear HC42
             by_cases c49 : t416 = 0
             ·rw [if_pos c49] at H
              have c49b0 : (t416 == 0) = true := beq_iff_eq.mpr c49
              have c49b1 : (t416 != 0) = false := bne_eq_false_iff_eq.mpr c49
              clear c49
              (first | rw [c49b0] | (simp only [i64_w, i32_w]; rw [c49b0]) | skip)
              by_cases c50 : t409 > 1
              ·rw [if_pos c50] at H
               have c50b0 : decide (1 < t409) = true := decide_eq_true c50
               clear c50
               have H' := Aside0.mk H
               clear H
               have hnb51 := NB411_408.out
               have hnc51 := NB408_411.out
               have hnb52 := NB411_417.out
               have hnc52 := NB417_411.out
               obtain ⟨hcz53_0, hcz53_1, hfz53_0, hfz53_1⟩ := bc2 BK411
               go_wp2
               go_meet
               case rel => exact ⟨_, (true), (by first | rfl | (simp; done) | (simp [*]; done)), H', ⟨by have := HJ5.out; have := HJ24.out; have := HK3.out; first | omega | exact Nat.le_refl _⟩, ⟨SX (St HO_3.out BK417) (fun _ hk => trivial)⟩, ⟨PF BK408⟩, ⟨PF BK411⟩, ⟨PX BK417⟩, ⟨(Kd.R_reads' (RX (Rt HL415_5.out BK417) (fun _ h_ => h_.1))).2.2⟩, ⟨PB⟩⟩
              ·rw [if_neg c50] at H
               have c50b0 : decide (1 < t409) = false := decide_eq_false c50
               clear c50
               replace H := Option.bind_eq_some_iff.mp H
               obtain ⟨t418, A540, H⟩ := H
               replace H : (laws_FnNearest.j3 k3 t401 t407 t414 x8_3 t416 (decide (t418 < t414)) t404 t405 t406 t409 t410 0 x8_3) = some r := H
               have A54 := Aside0.mk A540
               clear A540
               have H' := Aside0.mk H
               clear H
               have hnb55 := NB411_408.out
               have hnc55 := NB408_411.out
               have hnb56 := NB411_417.out
               have hnc56 := NB417_411.out
               obtain ⟨hcz57_0, hcz57_1, hfz57_0, hfz57_1⟩ := bc2 BK411
               have hnb58 := NB417_408.out
               have hnc58 := NB408_417.out
               obtain ⟨hcz59_0, hcz59_1, hfz59_0, hfz59_1⟩ := bc2 BK417
               go_wp2_with (first | (go_at_call 15; (with_reducible refine (impl_TimeOff.calls _ _ t401 0 x8_3 t407 t418 _ ?side1 ?side2 A54.out).mono ?_); (case side1 => exact (Kd.S_reads' (Se1 HO_3 BK417)).2.2); (case side2 => exact (Kd.S_reads' HO_3.out).2.1); rintro e w60 ⟨rfl, hb⟩; replace HO_3 := ak (Kd.S_below (Se1 HO_3 BK417) hb); replace BK408 := kf BK408 hb; replace BK411 := kf BK411 hb; replace HR415_5 := ak (Kd.C_below ((Kd.R_reads' (RX (Rt HL415_5.out BK417) (fun _ h_ => h_.1))).2.2) hb); replace HL415_5 := ak (Kd.R_below (RX (Rt HL415_5.out BK417) (fun _ h_ => h_.1)) hb); replace BK417 := kp (cs' := #[.int .i64 0, .int .i64 x8_3]) BK417 hb; replace HB := bs HB hb; (try clear hb); (try clear hb2); (try clear hk); (try clear hi)))
               go_meet
               case rel => exact ⟨_, (decide (t418 < t414)), (by first | rfl | (simp; done) | (simp [*]; done)), H', ⟨by have := HJ5.out; have := HJ24.out; have := HK3.out; first | omega | exact Nat.le_refl _⟩, ⟨PS HO_3⟩, ⟨PK BK408⟩, ⟨PK BK411⟩, ⟨PK BK417⟩, ⟨by repeat (first | (with_reducible exact HR415_5.out) | (with_reducible refine Kd.C_alloc ?_ _) | (with_reducible refine Kd.C_drewN ?_ _) | (with_reducible refine Kd.C_drew ?_) | exact HR415_5.out)⟩, ⟨PB⟩⟩
             ·rw [if_neg c49] at H
              have c49b0 : (t416 == 0) = false := beq_eq_false_iff_ne.mpr c49
              have c49b1 : (t416 != 0) = true := bne_iff_ne.mpr c49
              (first | rw [c49b0] | (simp only [i64_w, i32_w]; rw [c49b0]) | skip)
              have H' := Aside0.mk H
              clear H
              go_wp2
              go_meet
              case rel => exact ⟨_, (false), (by first | rfl | (simp; done) | (simp [*]; done)), H', ⟨by have := HJ5.out; have := HJ24.out; have := HK3.out; first | omega | exact Nat.le_refl _⟩, ⟨SX (St HO_3.out BK417) (fun _ hk => trivial)⟩, ⟨PF BK408⟩, ⟨PF BK411⟩, ⟨PX BK417⟩, ⟨(Kd.R_reads' (RX (Rt HL415_5.out BK417) (fun _ h_ => h_.1))).2.2⟩, ⟨PB⟩⟩
            case rest =>
             clear HC42
             (try clear c1); (try clear c2); (try clear p2); (try clear c3); (try clear c4); (try clear p4); (try clear q4); (try clear hx4); (try clear c5); (try clear c10); (try clear c11); (try clear c12); (try clear c13); (try clear c14); (try clear c15); (try clear c16); (try clear c16b0); (try clear c16b1); (try clear c17); (try clear c20); (try clear c24); (try clear c27); (try clear c28); (try clear c28b0); (try clear c32); (try clear c33); (try clear c36); (try clear c39); (try clear c39b0); (try clear c40); (try clear c40b0); (try clear c41); (try clear p41); (try clear q41); (try clear hx41); (try clear c46); (try clear c47); (try clear c49); (try clear c49b0); (try clear c49b1); (try clear c50); (try clear c50b0); (try clear c51); (try clear c52); (try clear c55); (try clear c56); (try clear c58); (try clear hcz14_0); (try clear hcz14_1); (try clear hcz18_0); (try clear hcz18_1); (try clear hcz21_0); (try clear hcz21_1); (try clear hcz23_0); (try clear hcz23_1); (try clear hcz34_0); (try clear hcz34_1); (try clear hcz37_0); (try clear hcz37_1); (try clear hcz48_0); (try clear hcz48_1); (try clear hcz53_0); (try clear hcz53_1); (try clear hcz57_0); (try clear hcz57_1); (try clear hcz59_0); (try clear hcz59_1); (try clear hcz9_0); (try clear hcz9_1); (try clear hcz9_2); (try clear hfz14_0); (try clear hfz14_1); (try clear hfz18_0); (try clear hfz18_1); (try clear hfz21_0); (try clear hfz21_1); (try clear hfz23_0); (try clear hfz23_1); (try clear hfz34_0); (try clear hfz34_1); (try clear hfz37_0); (try clear hfz37_1); (try clear hfz48_0); (try clear hfz48_1); (try clear hfz53_0); (try clear hfz53_1); (try clear hfz57_0); (try clear hfz57_1); (try clear hfz59_0); (try clear hfz59_1); (try clear hfz9_0); (try clear hfz9_1); (try clear hfz9_2); (try clear hx415_0); (try clear hx415_1); (try clear hx415_2); (try clear hx415_3); (try clear hx415_4); (try clear hx415_5); (try clear hx415_6); (try clear hx415_7); (try clear hx415_8); (try clear p2); (try clear p415); (try clear q415)
             obtain ⟨kq, x84_41, rfl, HA, HJ41, HO_3, BK408, BK411, BK417, HR415_5, HB⟩ := hcut
             cases kq with
             | zero => exact absurd HA.out (by simp [laws_FnNearest.j3])
             | succ kj41 =>
              have H := HA.out
              clear HA
              simp only [laws_FnNearest.j3] at H
              by_cases c61 : x84_41 = true
              ·subst c61
               have H1 : (some false) = some r := by rw [if_pos rfl] at H; exact H
               clear H
               have H := H1
               clear H1
               cases (Option.some.inj H).trans hT_
              ·replace c61 := Bool.eq_false_iff.mpr c61
               subst c61
               have H1 : (if t416 = 1 then (if t409 = 3 then (some false) else (if t409 = 2 then ((impl_TimeOff.f t401 0 x8_3 t407).bind fun t419 => (if t419 < t414 then (some false) else (laws_FnNearest.l0 kj41 t401 t407 t414 (wrap64 (x8_3 + 1)) t404 t405 t406 t409 t410))) else (laws_FnNearest.l0 kj41 t401 t407 t414 (wrap64 (x8_3 + 1)) t404 t405 t406 t409 t410))) else (laws_FnNearest.l0 kj41 t401 t407 t414 (wrap64 (x8_3 + 1)) t404 t405 t406 t409 t410)) = some r := by rw [if_neg (show ¬ (false = true) by decide)] at H; exact H
               clear H
               have H := H1
               clear H1
               by_cases c62 : t416 = 1
               ·rw [if_pos c62] at H
                have c62b0 : (t416 == 1) = true := beq_iff_eq.mpr c62
                have c62b1 : (t416 != 1) = false := bne_eq_false_iff_eq.mpr c62
                clear c62
                by_cases c63 : t409 = 3
                ·rw [if_pos c63] at H
                 have c63b0 : (t409 == 3) = true := beq_iff_eq.mpr c63
                 have c63b1 : (t409 != 3) = false := bne_eq_false_iff_eq.mpr c63
                 clear c63
                 cases (Option.some.inj H).trans hT_
                ·rw [if_neg c63] at H
                 have c63b0 : (t409 == 3) = false := beq_eq_false_iff_ne.mpr c63
                 have c63b1 : (t409 != 3) = true := bne_iff_ne.mpr c63
                 by_cases c67 : t409 = 2
                 ·rw [if_pos c67] at H
                  have c67b0 : (t409 == 2) = true := beq_iff_eq.mpr c67
                  have c67b1 : (t409 != 2) = false := bne_eq_false_iff_eq.mpr c67
                  clear c67
                  replace H := Option.bind_eq_some_iff.mp H
                  obtain ⟨t419, A680, H⟩ := H
                  replace H : (if t419 < t414 then (some false) else (laws_FnNearest.l0 kj41 t401 t407 t414 (wrap64 (x8_3 + 1)) t404 t405 t406 t409 t410)) = some r := H
                  have A68 := Aside0.mk A680
                  clear A680
                  by_cases c69 : t419 < t414
                  ·rw [if_pos c69] at H
                   have c69b0 : decide (t419 < t414) = true := decide_eq_true c69
                   clear c69
                   cases (Option.some.inj H).trans hT_
                  ·rw [if_neg c69] at H
                   have c69b0 : decide (t419 < t414) = false := decide_eq_false c69
                   clear c69
                   have H' := Aside0.mk H
                   clear H
                   have hnb76 := NB411_408.out
                   have hnc76 := NB408_411.out
                   have hnb77 := NB411_417.out
                   have hnc77 := NB417_411.out
                   obtain ⟨_, _, _, _⟩ := bc2 BK411
                   have hnb79 := NB417_408.out
                   have hnc79 := NB408_417.out
                   obtain ⟨_, _, _, _⟩ := bc2 BK417
                   go_wp2_with (first | (go_at_call 15; (with_reducible refine (impl_TimeOff.calls _ _ t401 0 x8_3 t407 t419 _ ?side1 ?side2 A68.out).mono ?_); (case side1 => exact CR ((Kd.S_reads' HO_3.out).2.2)); (case side2 => exact (Kd.S_reads' HO_3.out).2.1); rintro e w81 ⟨rfl, hb⟩; replace HO_3 := Sb HO_3 hb; replace BK408 := kf BK408 hb; replace BK411 := kf BK411 hb; replace BK417 := kf BK417 hb; replace HR415_5 := Cb HR415_5 hb; replace HB := bs HB hb; (try clear hb); (try clear hb2); (try clear hk); (try clear hi)))
                   go_roundg kj41
                   case measure => have := HJ5.out; have := HJ24.out; have := HK3.out; have := HJ41.out; omega
                   case rel => exact ⟨(wrap64 (x8_3 + 1)), (by first | rfl | (simp; done) | (simp [*]; done)), H', ⟨by have := HJ5.out; have := HJ24.out; have := HK3.out; have := HJ41.out; omega⟩, ⟨PS HO_3⟩, ⟨PK BK408⟩, ⟨PK BK411⟩, ⟨PB⟩⟩
                 ·rw [if_neg c67] at H
                  have c67b0 : (t409 == 2) = false := beq_eq_false_iff_ne.mpr c67
                  have c67b1 : (t409 != 2) = true := bne_iff_ne.mpr c67
                  have H' := Aside0.mk H
                  clear H
                  have hnb82 := NB411_408.out
                  have hnc82 := NB408_411.out
                  have hnb83 := NB411_417.out
                  have hnc83 := NB417_411.out
                  obtain ⟨_, _, _, _⟩ := bc2 BK411
                  go_wp2
                  go_roundg kj41
                  case measure => have := HJ5.out; have := HJ24.out; have := HK3.out; have := HJ41.out; omega
                  case rel => exact ⟨(wrap64 (x8_3 + 1)), (by first | rfl | (simp; done) | (simp [*]; done)), H', ⟨by have := HJ5.out; have := HJ24.out; have := HK3.out; have := HJ41.out; omega⟩, ⟨PS HO_3⟩, ⟨PK BK408⟩, ⟨PK BK411⟩, ⟨PB⟩⟩
               ·rw [if_neg c62] at H
                have c62b0 : (t416 == 1) = false := beq_eq_false_iff_ne.mpr c62
                have c62b1 : (t416 != 1) = true := bne_iff_ne.mpr c62
                have H' := Aside0.mk H
                clear H
                go_wp2
                go_roundg kj41
                case measure => have := HJ5.out; have := HJ24.out; have := HK3.out; have := HJ41.out; omega
                case rel => exact ⟨(wrap64 (x8_3 + 1)), (by first | rfl | (simp; done) | (simp [*]; done)), H', ⟨by have := HJ5.out; have := HJ24.out; have := HK3.out; have := HJ41.out; omega⟩, ⟨PS HO_3⟩, ⟨PK BK408⟩, ⟨PK BK411⟩, ⟨PB⟩⟩
           ·rw [if_neg c40] at H
            exact absurd H (by simp)
          ·rw [if_neg c39] at H
           have c39b0 : decide (x8_3 < (t401.length : Int)) = false := decide_eq_false c39
           clear c39
           have HC85 := Aside0.mk H
           clear H
           go_upto_region 19 with (fail)
           go_cut [163] (fun v163 wc => ∃ (kq : Nat) (x163_84 : Bool), v163 = .bool x163_84 ∧ Aside0 (laws_FnNearest.j4 kq t401 x163_84 t409 t410 = some r) ∧ Aside0 (kq ≤ k3) ∧ Aside0 (Kd.S k40 40 wc w.heap.size (fun _ => True) (.slice Ao10 t401.length co10) t401) ∧ Aside0 (wc.heap[gb408]? = some (.cells #[.int .i64 t404, .int .i64 t405, .int .i64 t406] 26 (0, 0))) ∧ Aside0 (wc.heap[gb411]? = some (.cells #[.int .i64 t409, .int .i64 t410] 30 (0, 0))) ∧ Aside0 (Below w.heap.size w wc))
           case first =>
            have H := HC85.out
            clear HC85
            by_cases c86 : t410 ≥ 0
            ·rw [if_pos c86] at H
             have c86b0 : decide (0 ≤ t410) = true := decide_eq_true c86
             clear c86
             (first | rw [c86b0] | (simp only [i64_w, i32_w]; rw [c86b0]) | skip)
             by_cases c87 : 0 ≤ t410
             ·rw [if_pos c87] at H
              have c87b0 : decide (0 ≤ t410) = true := decide_eq_true c87
              clear c87
              by_cases c88 : t410 < (t401.length : Int)
              ·rw [if_pos c88] at H
               have c88b0 : decide (t410 < (t401.length : Int)) = true := decide_eq_true c88
               clear c88
               replace H := Option.bind_eq_some_iff.mp H
               obtain ⟨t421, A890, H⟩ := H
               replace H : (if t421 > 1 then (laws_FnNearest.j4 k3 t401 true t409 t410) else ((impl_DistanceOf.f ((rd_T40 t401 t410).f0.f0) ((rd_T40 t401 t410).f0.f1) ((rd_T40 t401 t410).f0.f2) t404 t405 t406).bind fun t423 => (if ((t409 == 2) != (t423 == 1)) = true then (laws_FnNearest.j4 k3 t401 true t409 t410) else (if t409 = 0 then (if ((rd_T40 t401 t410).f1) = t407 then (if t409 = 1 then (laws_FnNearest.j4 k3 t401 (((rd_T40 t401 t410).f1) == t407) t409 t410) else (laws_FnNearest.j4 k3 t401 false t409 t410)) else (laws_FnNearest.j4 k3 t401 true t409 t410)) else (if t409 = 1 then (laws_FnNearest.j4 k3 t401 (((rd_T40 t401 t410).f1) == t407) t409 t410) else (laws_FnNearest.j4 k3 t401 false t409 t410)))))) = some r := H
               have A89 := Aside0.mk A890
               clear A890
               by_cases c90 : t421 > 1
               ·rw [if_pos c90] at H
                have c90b0 : decide (1 < t421) = true := decide_eq_true c90
                clear c90
                have H' := Aside0.mk H
                clear H
                try go_wp2
                replace HO_3 := ak (Kd.S_drew HO_3.out)
                replace BK408 := ak (blk_drew BK408.out)
                replace BK411 := ak (blk_drew BK411.out)
                replace HB := ak (below_drew1 HB.out)
                have p420 : 0 ≤ (t410 : Int) := of_decide_eq_true (by first | (with_reducible assumption) | assumption)
                have q420 : t410 < (t401.length : Int) := of_decide_eq_true (by first | (with_reducible assumption) | assumption)
                obtain ⟨ad420, A420_5, c420_5, e420, hx420_0, hx420_1, hx420_2, hx420_3, hx420_4, hx420_5, hx420_6, hx420_7, hx420_8, hl420_5, hi420_5⟩ := at_T40 (Kd.S_reads' HO_3.out).2.2 t410 p420 q420
                cases e420
                obtain ⟨ce420, hce420, hMe420, hcc420⟩ := Kd.S_get HO_3.out z40 t410 p420 (by first | exact q420 | exact of_decide_eq_true (by first | (with_reducible assumption) | assumption) | (have e_ := (Kd.S_reads' HO_3.out).1; omega))
                obtain ⟨ve420_5, rfl, ge420_5⟩ := k40_openM hMe420
                have hv420_5 := hcc420 5 _ rfl
                rw [add_field _ _ 5 (by omega)] at hv420_5
                replace hv420_5 := Option.some.inj (hv420_5.symm.trans hx420_5)
                rw [hv420_5] at ge420_5
                have HL420_5 := ak (show Kd.R (Kd.int .i64) 3 _ _ _ _ ((rd_T40 t401 t410).f2.f1) from ge420_5)
                clear hv420_5 ge420_5
                clear hcc420 hce420
                have HR420_5 := Aside0.mk hi420_5
                have HC420_5 := Aside0.mk hl420_5
                clear hi420_5 hl420_5
                replace p420 := eq_true p420
                replace q420 := eq_true q420
                as_aux_lemma =>
                 refine start_ (n := 59) (S := fun w' => w'.cell? ⟨gb411, 0, none⟩ = some (.int .i64 t409) ∧ w'.cell? ⟨gb411, 1, none⟩ = some (.int .i64 t410) ∧ w'.cell? ⟨gb408, 0, none⟩ = some (.int .i64 t404) ∧ w'.cell? ⟨gb408, 1, none⟩ = some (.int .i64 t405) ∧ w'.cell? ⟨gb408, 2, none⟩ = some (.int .i64 t406) ∧ w'.cell? (ad420.add ((t410).toNat * 9)) = some (.int .i64 ((rd_T40 t401 t410).f0.f0)) ∧ w'.cell? ⟨(ad420.add ((t410).toNat * 9)).block, (ad420.add ((t410).toNat * 9)).off + 1, none⟩ = some (.int .i64 ((rd_T40 t401 t410).f0.f1)) ∧ w'.cell? ⟨(ad420.add ((t410).toNat * 9)).block, (ad420.add ((t410).toNat * 9)).off + 2, none⟩ = some (.int .i64 ((rd_T40 t401 t410).f0.f2)) ∧ w'.cell? ⟨(ad420.add ((t410).toNat * 9)).block, (ad420.add ((t410).toNat * 9)).off + 3, none⟩ = some (.int .i64 ((rd_T40 t401 t410).f1)) ∧ w'.cell? ⟨(ad420.add ((t410).toNat * 9)).block, (ad420.add ((t410).toNat * 9)).off + 4, none⟩ = some (.int .i64 ((rd_T40 t401 t410).f2.f0)) ∧ w'.cell? ⟨(ad420.add ((t410).toNat * 9)).block, (ad420.add ((t410).toNat * 9)).off + 5, none⟩ = some (.slice A420_5 ((rd_T40 t401 t410).f2.f1).length c420_5) ∧ w'.cell? ⟨(ad420.add ((t410).toNat * 9)).block, (ad420.add ((t410).toNat * 9)).off + 6, none⟩ = some (.int .i64 ((rd_T40 t401 t410).f2.f2.f0)) ∧ w'.cell? ⟨(ad420.add ((t410).toNat * 9)).block, (ad420.add ((t410).toNat * 9)).off + 7, none⟩ = some (.int .i64 ((rd_T40 t401 t410).f2.f2.f1)) ∧ w'.cell? ⟨(ad420.add ((t410).toNat * 9)).block, (ad420.add ((t410).toNat * 9)).off + 8, none⟩ = some (.int .i64 ((rd_T40 t401 t410).f2.f2.f2))) (ds := []) b8_104 KR rfl rfl ⟨(blk_cell BK411.out 0).trans rfl, (blk_cell BK411.out 1).trans rfl, (blk_cell BK408.out 0).trans rfl, (blk_cell BK408.out 1).trans rfl, (blk_cell BK408.out 2).trans rfl, hx420_0, hx420_1, hx420_2, hx420_3, hx420_4, hx420_5, hx420_6, hx420_7, hx420_8⟩ (fun hHeld => ?_); refine with_tabW laws_FnNearest.tab19 laws_FnNearest.bits19 (fun HT_ HW_ => ?_)
                 generalize wr.drew = w91 at HO_3 BK408 BK411 HB HL420_5 HR420_5 hx420_0 hx420_1 hx420_2 hx420_3 hx420_4 hx420_5 hx420_6 hx420_7 hx420_8 hHeld ⊢
                 refine pu_ (i := 0) (N := some 105) b8_103 HT_ ?_
                 refine tk_ (i := 1) (N := some 106) b8_102 rfl rfl HT_ HW_ hHeld ?_
                 refine pu_ (i := 2) (N := some 107) b8_101 HT_ ?_
                 refine pu_ (i := 3) (N := some 108) b8_100 HT_ ?_
                 refine pu_ (i := 4) (N := some 109) b8_99 HT_ ?_
                 refine pu_ (i := 5) (N := some 110) b8_98 HT_ ?_
                 refine tk_ (i := 6) (N := some 111) b8_97 rfl rfl HT_ HW_ hHeld ?_
                 refine pu_ (i := 7) (N := some 112) b8_96 HT_ ?_
                 refine pu_ (i := 8) (N := some 113) b8_95 HT_ ?_
                 refine tk_ (i := 9) (N := some 114) b8_94 rfl rfl HT_ HW_ hHeld ?_
                 refine take_ (i := 10) (N := some 115) (v := ?_) (a' := ?_) b8_93 rfl rfl (take_ofW HT_.out HW_.out KR) (fun _ _ _ h => h) (Or.inl ⟨by rfl, ?_⟩) hHeld ?_ ?_
                 rotate_left
                 ·rintro w' ⟨s0, s1, s2, s3, s4, s5, s6, s7, s8, s9, s10, s11, s12, s13⟩
                  go_simp
                  with_reducible rfl
                 rotate_left
                 ·simp only [Act.put, List.setIfInBounds_toArray, List.set_cons_zero, List.set_cons_succ, i64_w, i32_w]
                  rfl
                 refine one_ (i := 11) (N := some 116) b8_92 rfl rfl (one_of HT_.out KR) (by decide) (fun K hK => ?_)
                 refine goes_ Try.func16 KR rfl #[.agg #[.int .i64 ((rd_T40 t401 t410).f0.f0), .int .i64 ((rd_T40 t401 t410).f0.f1), .int .i64 ((rd_T40 t401 t410).f0.f2)], .agg #[.int .i64 t404, .int .i64 t405, .int .i64 t406]] (by rfl) rfl rfl AR ?_
                 with_reducible refine (impl_DistanceOf.calls ((rd_T40 t401 t410).f0.f0) ((rd_T40 t401 t410).f0.f1) ((rd_T40 t401 t410).f0.f2) t404 t405 t406 t421 _ A89.out).mono ?_
                 rintro e w92 ⟨rfl, hb⟩
                 have HS5_ := hs_ hb hHeld.2.2.2.2.2.1; have HS6_ := hs_ hb hHeld.2.2.2.2.2.2.1; have HS7_ := hs_ hb hHeld.2.2.2.2.2.2.2.1; have HS8_ := hs_ hb hHeld.2.2.2.2.2.2.2.2.1; have HS9_ := hs_ hb hHeld.2.2.2.2.2.2.2.2.2.1; have HS10_ := hs_ hb hHeld.2.2.2.2.2.2.2.2.2.2.1; have HS11_ := hs_ hb hHeld.2.2.2.2.2.2.2.2.2.2.2.1; have HS12_ := hs_ hb hHeld.2.2.2.2.2.2.2.2.2.2.2.2.1; have HS13_ := hs_ hb hHeld.2.2.2.2.2.2.2.2.2.2.2.2.2
                 refine ⟨_, rfl, ?_⟩
                 replace HO_3 := Sb HO_3 hb
                 replace HL420_5 := Rb HL420_5 hb
                 replace BK408 := kf BK408 hb
                 replace BK411 := kf BK411 hb
                 replace HR420_5 := Cb HR420_5 hb
                 replace HB := bs HB hb
                 (try clear hb)
                 (try clear hb2)
                 (try clear hk)
                 (try clear hi)
                 refine hK.out _ _ ⟨(blk_cell BK411.out 0).trans rfl, (blk_cell BK411.out 1).trans rfl, (blk_cell BK408.out 0).trans rfl, (blk_cell BK408.out 1).trans rfl, (blk_cell BK408.out 2).trans rfl, HS5_, HS6_, HS7_, HS8_, HS9_, HS10_, HS11_, HS12_, HS13_⟩ (fun hHeld => ?_)
                 clear hK K
                 refine norm_ (a' := ?_) ?_ ?_
                 rotate_left
                 ·show Act.put _ (some 116) _ = _
                  simp only [Act.put, List.setIfInBounds_toArray, List.set_cons_zero, List.set_cons_succ, i64_w, i32_w]
                  rfl
                 refine pu_ (i := 12) (N := some 117) b8_91 HT_ ?_
                 refine pu_ (i := 13) (N := some 118) b8_90 HT_ ?_
                 refine un_ (i := 14) (N := some 119) b8_89 HT_ ?_
                 refine un_ (i := 15) (N := some 120) b8_88 HT_ ?_
                 refine un_ (i := 16) (N := some 121) b8_86 HT_ ?_
                 refine un_ (i := 17) (N := some 122) b8_84 HT_ ?_
                 refine un_ (i := 18) (N := some 123) b8_82 HT_ ?_
                 refine un_ (i := 19) (N := some 124) b8_81 HT_ ?_
                 refine un_ (i := 20) (N := some 125) b8_80 HT_ ?_
                 refine un_ (i := 21) (N := some 126) b8_79 HT_ ?_
                 refine un_ (i := 22) (N := some 127) b8_78 HT_ ?_
                 refine un_ (i := 23) (N := some 128) b8_77 HT_ ?_
                 refine un_ (i := 24) (N := some 129) b8_76 HT_ ?_
                 refine un_ (i := 25) (N := some 130) b8_75 HT_ ?_
                 refine un_ (i := 26) (N := some 131) b8_74 HT_ ?_
                 refine pu_ (i := 27) (N := some 132) b8_73 HT_ ?_
                 refine pu_ (i := 28) (N := some 133) b8_72 HT_ ?_
                 refine un_ (i := 29) (N := some 134) b8_71 HT_ ?_
                 refine un_ (i := 30) (N := some 135) b8_70 HT_ ?_
                 refine un_ (i := 31) (N := some 136) b8_69 HT_ ?_
                 refine un_ (i := 32) (N := some 137) b8_68 HT_ ?_
                 refine un_ (i := 33) (N := some 138) b8_67 HT_ ?_
                 refine un_ (i := 34) (N := some 139) b8_66 HT_ ?_
                 refine un_ (i := 35) (N := some 140) b8_65 HT_ ?_
                 refine un_ (i := 36) (N := some 141) b8_63 HT_ ?_
                 refine un_ (i := 37) (N := some 142) b8_61 HT_ ?_
                 refine un_ (i := 38) (N := some 143) b8_59 HT_ ?_
                 refine un_ (i := 39) (N := some 144) b8_57 HT_ ?_
                 refine un_ (i := 40) (N := some 145) b8_56 HT_ ?_
                 refine un_ (i := 41) (N := some 146) b8_55 HT_ ?_
                 refine pu_ (i := 42) (N := some 147) b8_54 HT_ ?_
                 refine pu_ (i := 43) (N := some 148) b8_53 HT_ ?_
                 refine un_ (i := 44) (N := some 149) b8_52 HT_ ?_
                 refine un_ (i := 45) (N := some 150) b8_51 HT_ ?_
                 refine un_ (i := 46) (N := some 151) b8_50 HT_ ?_
                 refine un_ (i := 47) (N := some 152) b8_49 HT_ ?_
                 refine un_ (i := 48) (N := some 153) b8_48 HT_ ?_
                 refine un_ (i := 49) (N := some 154) b8_47 HT_ ?_
                 refine un_ (i := 50) (N := some 155) b8_46 HT_ ?_
                 refine un_ (i := 51) (N := some 156) b8_44 HT_ ?_
                 refine un_ (i := 52) (N := some 157) b8_42 HT_ ?_
                 refine un_ (i := 53) (N := some 158) b8_40 HT_ ?_
                 refine un_ (i := 54) (N := some 159) b8_38 HT_ ?_
                 refine un_ (i := 55) (N := some 160) b8_37 HT_ ?_
                 refine un_ (i := 56) (N := some 161) b8_36 HT_ ?_
                 refine pu_ (i := 57) (N := some 162) b8_35 HT_ ?_
                 refine pu_ (i := 58) (N := some 163) b8_34 HT_ ?_
                 refine done_ (done_of HT_.out KR) ?_
                 try go_wp2
                 go_meet
                 case rel => exact ⟨_, (true), (by first | rfl | (simp; done) | (simp [*]; done)), H', ⟨by have := HJ5.out; have := HJ24.out; have := HK3.out; first | omega | exact Nat.le_refl _⟩, ⟨PS HO_3⟩, ⟨PK BK408⟩, ⟨PK BK411⟩, ⟨PB⟩⟩
               ·rw [if_neg c90] at H
                have c90b0 : decide (1 < t421) = false := decide_eq_false c90
                clear c90
                replace H := Option.bind_eq_some_iff.mp H
                obtain ⟨t423, A930, H⟩ := H
                replace H : (if ((t409 == 2) != (t423 == 1)) = true then (laws_FnNearest.j4 k3 t401 true t409 t410) else (if t409 = 0 then (if ((rd_T40 t401 t410).f1) = t407 then (if t409 = 1 then (laws_FnNearest.j4 k3 t401 (((rd_T40 t401 t410).f1) == t407) t409 t410) else (laws_FnNearest.j4 k3 t401 false t409 t410)) else (laws_FnNearest.j4 k3 t401 true t409 t410)) else (if t409 = 1 then (laws_FnNearest.j4 k3 t401 (((rd_T40 t401 t410).f1) == t407) t409 t410) else (laws_FnNearest.j4 k3 t401 false t409 t410)))) = some r := H
                have A93 := Aside0.mk A930
                clear A930
                by_cases c94 : ((t409 == 2) != (t423 == 1)) = true
                ·rw [if_pos c94] at H
                 have c94b0 : ((t409 == 2) != (t423 == 1)) = true := c94
                 (try (have c94b1 : decide ((t409 == 2) = (t423 == 1)) = false := by simpa using c94))
                 (try (have c94b2 : ((t409 == 2) == (t423 == 1)) = false := by simpa using c94))
                 (try (have c94b3 : ¬ ((t409 == 2) = (t423 == 1)) := by simpa using c94))
                 clear c94
                 have H' := Aside0.mk H
                 clear H
                 try go_wp2
                 replace HO_3 := ak (Kd.S_drew HO_3.out)
                 replace BK408 := ak (blk_drew BK408.out)
                 replace BK411 := ak (blk_drew BK411.out)
                 replace HB := ak (below_drew1 HB.out)
                 have p420 : 0 ≤ (t410 : Int) := of_decide_eq_true (by first | (with_reducible assumption) | assumption)
                 have q420 : t410 < (t401.length : Int) := of_decide_eq_true (by first | (with_reducible assumption) | assumption)
                 obtain ⟨ad420, A420_5, c420_5, e420, hx420_0, hx420_1, hx420_2, hx420_3, hx420_4, hx420_5, hx420_6, hx420_7, hx420_8, hl420_5, hi420_5⟩ := at_T40 (Kd.S_reads' HO_3.out).2.2 t410 p420 q420
                 cases e420
                 obtain ⟨ce420, hce420, hMe420, hcc420⟩ := Kd.S_get HO_3.out z40 t410 p420 (by first | exact q420 | exact of_decide_eq_true (by first | (with_reducible assumption) | assumption) | (have e_ := (Kd.S_reads' HO_3.out).1; omega))
                 obtain ⟨ve420_5, rfl, ge420_5⟩ := k40_openM hMe420
                 have hv420_5 := hcc420 5 _ rfl
                 rw [add_field _ _ 5 (by omega)] at hv420_5
                 replace hv420_5 := Option.some.inj (hv420_5.symm.trans hx420_5)
                 rw [hv420_5] at ge420_5
                 have HL420_5 := ak (show Kd.R (Kd.int .i64) 3 _ _ _ _ ((rd_T40 t401 t410).f2.f1) from ge420_5)
                 clear hv420_5 ge420_5
                 clear hcc420 hce420
                 have HR420_5 := Aside0.mk hi420_5
                 have HC420_5 := Aside0.mk hl420_5
                 clear hi420_5 hl420_5
                 replace p420 := eq_true p420
                 replace q420 := eq_true q420
                 have p422 : 0 ≤ (t410 : Int) := of_decide_eq_true (by first | (with_reducible assumption) | assumption)
                 have q422 : t410 < (t401.length : Int) := of_decide_eq_true (by first | (with_reducible assumption) | assumption)
                 obtain ⟨ad422, A422_5, c422_5, e422, hx422_0, hx422_1, hx422_2, hx422_3, hx422_4, hx422_5, hx422_6, hx422_7, hx422_8, hl422_5, hi422_5⟩ := at_T40 (Kd.S_reads' HO_3.out).2.2 t410 p422 q422
                 obtain rfl : ad420 = ad422 := (by injection e422)
                 obtain ⟨rfl, rfl⟩ : A422_5 = A420_5 ∧ c422_5 = c420_5 := by have e_ := Option.some.inj (hx422_5.symm.trans hx420_5); first | (injection e_ with a_ b_ c_; exact ⟨a_, c_⟩) | (injection e_ with a_ c_; exact ⟨a_, c_⟩)
                 obtain ⟨ce422, hce422, hMe422, hcc422⟩ := Kd.S_get HO_3.out z40 t410 p422 (by first | exact q422 | exact of_decide_eq_true (by first | (with_reducible assumption) | assumption) | (have e_ := (Kd.S_reads' HO_3.out).1; omega))
                 obtain ⟨ve422_5, rfl, ge422_5⟩ := k40_openM hMe422
                 have hv422_5 := hcc422 5 _ rfl
                 rw [add_field _ _ 5 (by omega)] at hv422_5
                 replace hv422_5 := Option.some.inj (hv422_5.symm.trans hx422_5)
                 rw [hv422_5] at ge422_5
                 have HL422_5 := ak (show Kd.R (Kd.int .i64) 3 _ _ _ _ ((rd_T40 t401 t410).f2.f1) from ge422_5)
                 clear hv422_5 ge422_5
                 clear hcc422 hce422
                 have HR422_5 := Aside0.mk hi422_5
                 have HC422_5 := Aside0.mk hl422_5
                 clear hi422_5 hl422_5
                 replace p422 := eq_true p422
                 replace q422 := eq_true q422
                 as_aux_lemma =>
                  refine start_ (n := 59) (S := fun w' => w'.cell? ⟨gb411, 0, none⟩ = some (.int .i64 t409) ∧ w'.cell? ⟨gb411, 1, none⟩ = some (.int .i64 t410) ∧ w'.cell? ⟨gb408, 0, none⟩ = some (.int .i64 t404) ∧ w'.cell? ⟨gb408, 1, none⟩ = some (.int .i64 t405) ∧ w'.cell? ⟨gb408, 2, none⟩ = some (.int .i64 t406) ∧ w'.cell? (ad420.add ((t410).toNat * 9)) = some (.int .i64 ((rd_T40 t401 t410).f0.f0)) ∧ w'.cell? ⟨(ad420.add ((t410).toNat * 9)).block, (ad420.add ((t410).toNat * 9)).off + 1, none⟩ = some (.int .i64 ((rd_T40 t401 t410).f0.f1)) ∧ w'.cell? ⟨(ad420.add ((t410).toNat * 9)).block, (ad420.add ((t410).toNat * 9)).off + 2, none⟩ = some (.int .i64 ((rd_T40 t401 t410).f0.f2)) ∧ w'.cell? ⟨(ad420.add ((t410).toNat * 9)).block, (ad420.add ((t410).toNat * 9)).off + 3, none⟩ = some (.int .i64 ((rd_T40 t401 t410).f1)) ∧ w'.cell? ⟨(ad420.add ((t410).toNat * 9)).block, (ad420.add ((t410).toNat * 9)).off + 4, none⟩ = some (.int .i64 ((rd_T40 t401 t410).f2.f0)) ∧ w'.cell? ⟨(ad420.add ((t410).toNat * 9)).block, (ad420.add ((t410).toNat * 9)).off + 5, none⟩ = some (.slice A422_5 ((rd_T40 t401 t410).f2.f1).length c422_5) ∧ w'.cell? ⟨(ad420.add ((t410).toNat * 9)).block, (ad420.add ((t410).toNat * 9)).off + 6, none⟩ = some (.int .i64 ((rd_T40 t401 t410).f2.f2.f0)) ∧ w'.cell? ⟨(ad420.add ((t410).toNat * 9)).block, (ad420.add ((t410).toNat * 9)).off + 7, none⟩ = some (.int .i64 ((rd_T40 t401 t410).f2.f2.f1)) ∧ w'.cell? ⟨(ad420.add ((t410).toNat * 9)).block, (ad420.add ((t410).toNat * 9)).off + 8, none⟩ = some (.int .i64 ((rd_T40 t401 t410).f2.f2.f2)) ∧ w'.cell? (ad420.add ((t410).toNat * 9)) = some (.int .i64 ((rd_T40 t401 t410).f0.f0)) ∧ w'.cell? ⟨(ad420.add ((t410).toNat * 9)).block, (ad420.add ((t410).toNat * 9)).off + 1, none⟩ = some (.int .i64 ((rd_T40 t401 t410).f0.f1)) ∧ w'.cell? ⟨(ad420.add ((t410).toNat * 9)).block, (ad420.add ((t410).toNat * 9)).off + 2, none⟩ = some (.int .i64 ((rd_T40 t401 t410).f0.f2)) ∧ w'.cell? ⟨(ad420.add ((t410).toNat * 9)).block, (ad420.add ((t410).toNat * 9)).off + 3, none⟩ = some (.int .i64 ((rd_T40 t401 t410).f1)) ∧ w'.cell? ⟨(ad420.add ((t410).toNat * 9)).block, (ad420.add ((t410).toNat * 9)).off + 4, none⟩ = some (.int .i64 ((rd_T40 t401 t410).f2.f0)) ∧ w'.cell? ⟨(ad420.add ((t410).toNat * 9)).block, (ad420.add ((t410).toNat * 9)).off + 5, none⟩ = some (.slice A422_5 ((rd_T40 t401 t410).f2.f1).length c422_5) ∧ w'.cell? ⟨(ad420.add ((t410).toNat * 9)).block, (ad420.add ((t410).toNat * 9)).off + 6, none⟩ = some (.int .i64 ((rd_T40 t401 t410).f2.f2.f0)) ∧ w'.cell? ⟨(ad420.add ((t410).toNat * 9)).block, (ad420.add ((t410).toNat * 9)).off + 7, none⟩ = some (.int .i64 ((rd_T40 t401 t410).f2.f2.f1)) ∧ w'.cell? ⟨(ad420.add ((t410).toNat * 9)).block, (ad420.add ((t410).toNat * 9)).off + 8, none⟩ = some (.int .i64 ((rd_T40 t401 t410).f2.f2.f2))) (ds := []) b8_104 KR rfl rfl ⟨(blk_cell BK411.out 0).trans rfl, (blk_cell BK411.out 1).trans rfl, (blk_cell BK408.out 0).trans rfl, (blk_cell BK408.out 1).trans rfl, (blk_cell BK408.out 2).trans rfl, hx420_0, hx420_1, hx420_2, hx420_3, hx420_4, hx420_5, hx420_6, hx420_7, hx420_8, hx422_0, hx422_1, hx422_2, hx422_3, hx422_4, hx422_5, hx422_6, hx422_7, hx422_8⟩ (fun hHeld => ?_); refine with_tabW laws_FnNearest.tab19 laws_FnNearest.bits19 (fun HT_ HW_ => ?_)
                  generalize wr.drew = w95 at HO_3 BK408 BK411 HB HL420_5 HL422_5 HR420_5 HR422_5 hx420_0 hx420_1 hx420_2 hx420_3 hx420_4 hx420_5 hx420_6 hx420_7 hx420_8 hx422_0 hx422_1 hx422_2 hx422_3 hx422_4 hx422_5 hx422_6 hx422_7 hx422_8 hHeld ⊢
                  refine pu_ (i := 0) (N := some 105) b8_103 HT_ ?_
                  refine tk_ (i := 1) (N := some 106) b8_102 rfl rfl HT_ HW_ hHeld ?_
                  refine pu_ (i := 2) (N := some 107) b8_101 HT_ ?_
                  refine pu_ (i := 3) (N := some 108) b8_100 HT_ ?_
                  refine pu_ (i := 4) (N := some 109) b8_99 HT_ ?_
                  refine pu_ (i := 5) (N := some 110) b8_98 HT_ ?_
                  refine tk_ (i := 6) (N := some 111) b8_97 rfl rfl HT_ HW_ hHeld ?_
                  refine pu_ (i := 7) (N := some 112) b8_96 HT_ ?_
                  refine pu_ (i := 8) (N := some 113) b8_95 HT_ ?_
                  refine tk_ (i := 9) (N := some 114) b8_94 rfl rfl HT_ HW_ hHeld ?_
                  refine take_ (i := 10) (N := some 115) (v := ?_) (a' := ?_) b8_93 rfl rfl (take_ofW HT_.out HW_.out KR) (fun _ _ _ h => h) (Or.inl ⟨by rfl, ?_⟩) hHeld ?_ ?_
                  rotate_left
                  ·rintro w' ⟨s0, s1, s2, s3, s4, s5, s6, s7, s8, s9, s10, s11, s12, s13, s14, s15, s16, s17, s18, s19, s20, s21, s22⟩
                   go_simp
                   with_reducible rfl
                  rotate_left
                  ·simp only [Act.put, List.setIfInBounds_toArray, List.set_cons_zero, List.set_cons_succ, i64_w, i32_w]
                   rfl
                  refine one_ (i := 11) (N := some 116) b8_92 rfl rfl (one_of HT_.out KR) (by decide) (fun K hK => ?_)
                  refine goes_ Try.func16 KR rfl #[.agg #[.int .i64 ((rd_T40 t401 t410).f0.f0), .int .i64 ((rd_T40 t401 t410).f0.f1), .int .i64 ((rd_T40 t401 t410).f0.f2)], .agg #[.int .i64 t404, .int .i64 t405, .int .i64 t406]] (by rfl) rfl rfl AR ?_
                  with_reducible refine (impl_DistanceOf.calls ((rd_T40 t401 t410).f0.f0) ((rd_T40 t401 t410).f0.f1) ((rd_T40 t401 t410).f0.f2) t404 t405 t406 t421 _ A89.out).mono ?_
                  rintro e w96 ⟨rfl, hb⟩
                  have HS5_ := hs_ hb hHeld.2.2.2.2.2.1; have HS6_ := hs_ hb hHeld.2.2.2.2.2.2.1; have HS7_ := hs_ hb hHeld.2.2.2.2.2.2.2.1; have HS8_ := hs_ hb hHeld.2.2.2.2.2.2.2.2.1; have HS9_ := hs_ hb hHeld.2.2.2.2.2.2.2.2.2.1; have HS10_ := hs_ hb hHeld.2.2.2.2.2.2.2.2.2.2.1; have HS11_ := hs_ hb hHeld.2.2.2.2.2.2.2.2.2.2.2.1; have HS12_ := hs_ hb hHeld.2.2.2.2.2.2.2.2.2.2.2.2.1; have HS13_ := hs_ hb hHeld.2.2.2.2.2.2.2.2.2.2.2.2.2.1; have HS14_ := hs_ hb hHeld.2.2.2.2.2.2.2.2.2.2.2.2.2.2.1; have HS15_ := hs_ hb hHeld.2.2.2.2.2.2.2.2.2.2.2.2.2.2.2.1; have HS16_ := hs_ hb hHeld.2.2.2.2.2.2.2.2.2.2.2.2.2.2.2.2.1; have HS17_ := hs_ hb hHeld.2.2.2.2.2.2.2.2.2.2.2.2.2.2.2.2.2.1; have HS18_ := hs_ hb hHeld.2.2.2.2.2.2.2.2.2.2.2.2.2.2.2.2.2.2.1; have HS19_ := hs_ hb hHeld.2.2.2.2.2.2.2.2.2.2.2.2.2.2.2.2.2.2.2.1; have HS20_ := hs_ hb hHeld.2.2.2.2.2.2.2.2.2.2.2.2.2.2.2.2.2.2.2.2.1; have HS21_ := hs_ hb hHeld.2.2.2.2.2.2.2.2.2.2.2.2.2.2.2.2.2.2.2.2.2.1; have HS22_ := hs_ hb hHeld.2.2.2.2.2.2.2.2.2.2.2.2.2.2.2.2.2.2.2.2.2.2
                  refine ⟨_, rfl, ?_⟩
                  have n0_ := Sb HO_3 hb
                  have n1_ := Rb HL420_5 hb
                  have n2_ := kf BK408 hb
                  have n3_ := kf BK411 hb
                  have n4_ := Cb HR420_5 hb
                  have n5_ := bs HB hb
                  have HL422_5 := Rb HL422_5 hb
                  have HR422_5 := Cb HR422_5 hb
                  clear HO_3
                  clear HL420_5
                  clear BK408
                  clear BK411
                  clear HR420_5
                  clear HB
                  have HO_3 := n0_
                  have HL420_5 := n1_
                  have BK408 := n2_
                  have BK411 := n3_
                  have HR420_5 := n4_
                  have HB := n5_
                  clear n0_ n1_ n2_ n3_ n4_ n5_
                  (try clear hb)
                  (try clear hb2)
                  (try clear hk)
                  (try clear hi)
                  refine hK.out _ _ ⟨(blk_cell BK411.out 0).trans rfl, (blk_cell BK411.out 1).trans rfl, (blk_cell BK408.out 0).trans rfl, (blk_cell BK408.out 1).trans rfl, (blk_cell BK408.out 2).trans rfl, HS5_, HS6_, HS7_, HS8_, HS9_, HS10_, HS11_, HS12_, HS13_, HS14_, HS15_, HS16_, HS17_, HS18_, HS19_, HS20_, HS21_, HS22_⟩ (fun hHeld => ?_)
                  clear hK K
                  refine norm_ (a' := ?_) ?_ ?_
                  rotate_left
                  ·show Act.put _ (some 116) _ = _
                   simp only [Act.put, List.setIfInBounds_toArray, List.set_cons_zero, List.set_cons_succ, i64_w, i32_w]
                   rfl
                  refine pu_ (i := 12) (N := some 117) b8_91 HT_ ?_
                  refine pu_ (i := 13) (N := some 118) b8_90 HT_ ?_
                  refine pu_ (i := 14) (N := some 119) b8_89 HT_ ?_
                  refine pu_ (i := 17) (N := some 122) b8_87 HT_ ?_
                  refine pu_ (i := 18) (N := some 123) b8_85 HT_ ?_
                  refine tk_ (i := 15) (N := some 120) b8_83 rfl rfl HT_ HW_ hHeld ?_
                  refine pu_ (i := 16) (N := some 121) b8_82 HT_ ?_
                  refine tk_ (i := 19) (N := some 124) b8_81 rfl rfl HT_ HW_ hHeld ?_
                  refine pu_ (i := 20) (N := some 125) b8_80 HT_ ?_
                  refine pu_ (i := 21) (N := some 126) b8_79 HT_ ?_
                  refine tk_ (i := 22) (N := some 127) b8_78 rfl rfl HT_ HW_ hHeld ?_
                  refine take_ (i := 23) (N := some 128) (v := ?_) (a' := ?_) b8_77 rfl rfl (take_ofW HT_.out HW_.out KR) (fun _ _ _ h => h) (Or.inl ⟨by rfl, ?_⟩) hHeld ?_ ?_
                  rotate_left
                  ·rintro w' ⟨s0, s1, s2, s3, s4, s5, s6, s7, s8, s9, s10, s11, s12, s13, s14, s15, s16, s17, s18, s19, s20, s21, s22⟩
                   go_simp
                   with_reducible rfl
                  rotate_left
                  ·simp only [Act.put, List.setIfInBounds_toArray, List.set_cons_zero, List.set_cons_succ, i64_w, i32_w]
                   rfl
                  refine one_ (i := 24) (N := some 129) b8_76 rfl rfl (one_of HT_.out KR) (by decide) (fun K hK => ?_)
                  refine goes_ Try.func16 KR rfl #[.agg #[.int .i64 ((rd_T40 t401 t410).f0.f0), .int .i64 ((rd_T40 t401 t410).f0.f1), .int .i64 ((rd_T40 t401 t410).f0.f2)], .agg #[.int .i64 t404, .int .i64 t405, .int .i64 t406]] (by rfl) rfl rfl AR ?_
                  with_reducible refine (impl_DistanceOf.calls ((rd_T40 t401 t410).f0.f0) ((rd_T40 t401 t410).f0.f1) ((rd_T40 t401 t410).f0.f2) t404 t405 t406 t423 _ A93.out).mono ?_
                  rintro e w97 ⟨rfl, hb⟩
                  have HS5_ := hs_ hb hHeld.2.2.2.2.2.1; have HS6_ := hs_ hb hHeld.2.2.2.2.2.2.1; have HS7_ := hs_ hb hHeld.2.2.2.2.2.2.2.1; have HS8_ := hs_ hb hHeld.2.2.2.2.2.2.2.2.1; have HS9_ := hs_ hb hHeld.2.2.2.2.2.2.2.2.2.1; have HS10_ := hs_ hb hHeld.2.2.2.2.2.2.2.2.2.2.1; have HS11_ := hs_ hb hHeld.2.2.2.2.2.2.2.2.2.2.2.1; have HS12_ := hs_ hb hHeld.2.2.2.2.2.2.2.2.2.2.2.2.1; have HS13_ := hs_ hb hHeld.2.2.2.2.2.2.2.2.2.2.2.2.2.1; have HS14_ := hs_ hb hHeld.2.2.2.2.2.2.2.2.2.2.2.2.2.2.1; have HS15_ := hs_ hb hHeld.2.2.2.2.2.2.2.2.2.2.2.2.2.2.2.1; have HS16_ := hs_ hb hHeld.2.2.2.2.2.2.2.2.2.2.2.2.2.2.2.2.1; have HS17_ := hs_ hb hHeld.2.2.2.2.2.2.2.2.2.2.2.2.2.2.2.2.2.1; have HS18_ := hs_ hb hHeld.2.2.2.2.2.2.2.2.2.2.2.2.2.2.2.2.2.2.1; have HS19_ := hs_ hb hHeld.2.2.2.2.2.2.2.2.2.2.2.2.2.2.2.2.2.2.2.1; have HS20_ := hs_ hb hHeld.2.2.2.2.2.2.2.2.2.2.2.2.2.2.2.2.2.2.2.2.1; have HS21_ := hs_ hb hHeld.2.2.2.2.2.2.2.2.2.2.2.2.2.2.2.2.2.2.2.2.2.1; have HS22_ := hs_ hb hHeld.2.2.2.2.2.2.2.2.2.2.2.2.2.2.2.2.2.2.2.2.2.2
                  refine ⟨_, rfl, ?_⟩
                  replace HO_3 := Sb HO_3 hb
                  replace HL420_5 := Rb HL420_5 hb
                  replace HL422_5 := Rb HL422_5 hb
                  replace BK408 := kf BK408 hb
                  replace BK411 := kf BK411 hb
                  replace HR420_5 := Cb HR420_5 hb
                  replace HR422_5 := Cb HR422_5 hb
                  replace HB := bs HB hb
                  (try clear hb)
                  (try clear hb2)
                  (try clear hk)
                  (try clear hi)
                  refine hK.out _ _ ⟨(blk_cell BK411.out 0).trans rfl, (blk_cell BK411.out 1).trans rfl, (blk_cell BK408.out 0).trans rfl, (blk_cell BK408.out 1).trans rfl, (blk_cell BK408.out 2).trans rfl, HS5_, HS6_, HS7_, HS8_, HS9_, HS10_, HS11_, HS12_, HS13_, HS14_, HS15_, HS16_, HS17_, HS18_, HS19_, HS20_, HS21_, HS22_⟩ (fun hHeld => ?_)
                  clear hK K
                  refine norm_ (a' := ?_) ?_ ?_
                  rotate_left
                  ·show Act.put _ (some 129) _ = _
                   simp only [Act.put, List.setIfInBounds_toArray, List.set_cons_zero, List.set_cons_succ, i64_w, i32_w]
                   rfl
                  refine pu_ (i := 25) (N := some 130) b8_75 HT_ ?_
                  refine pu_ (i := 26) (N := some 131) b8_74 HT_ ?_
                  refine pu_ (i := 27) (N := some 132) b8_73 HT_ ?_
                  refine pu_ (i := 28) (N := some 133) b8_72 HT_ ?_
                  refine un_ (i := 29) (N := some 134) b8_71 HT_ ?_
                  refine un_ (i := 30) (N := some 135) b8_70 HT_ ?_
                  refine un_ (i := 31) (N := some 136) b8_69 HT_ ?_
                  refine un_ (i := 32) (N := some 137) b8_68 HT_ ?_
                  refine un_ (i := 33) (N := some 138) b8_67 HT_ ?_
                  refine un_ (i := 34) (N := some 139) b8_66 HT_ ?_
                  refine un_ (i := 35) (N := some 140) b8_65 HT_ ?_
                  refine un_ (i := 36) (N := some 141) b8_63 HT_ ?_
                  refine un_ (i := 37) (N := some 142) b8_61 HT_ ?_
                  refine un_ (i := 38) (N := some 143) b8_59 HT_ ?_
                  refine un_ (i := 39) (N := some 144) b8_57 HT_ ?_
                  refine un_ (i := 40) (N := some 145) b8_56 HT_ ?_
                  refine un_ (i := 41) (N := some 146) b8_55 HT_ ?_
                  refine pu_ (i := 42) (N := some 147) b8_54 HT_ ?_
                  refine pu_ (i := 43) (N := some 148) b8_53 HT_ ?_
                  refine un_ (i := 44) (N := some 149) b8_52 HT_ ?_
                  refine un_ (i := 45) (N := some 150) b8_51 HT_ ?_
                  refine un_ (i := 46) (N := some 151) b8_50 HT_ ?_
                  refine un_ (i := 47) (N := some 152) b8_49 HT_ ?_
                  refine un_ (i := 48) (N := some 153) b8_48 HT_ ?_
                  refine un_ (i := 49) (N := some 154) b8_47 HT_ ?_
                  refine un_ (i := 50) (N := some 155) b8_46 HT_ ?_
                  refine un_ (i := 51) (N := some 156) b8_44 HT_ ?_
                  refine un_ (i := 52) (N := some 157) b8_42 HT_ ?_
                  refine un_ (i := 53) (N := some 158) b8_40 HT_ ?_
                  refine un_ (i := 54) (N := some 159) b8_38 HT_ ?_
                  refine un_ (i := 55) (N := some 160) b8_37 HT_ ?_
                  refine un_ (i := 56) (N := some 161) b8_36 HT_ ?_
                  refine pu_ (i := 57) (N := some 162) b8_35 HT_ ?_
                  refine pu_ (i := 58) (N := some 163) b8_34 HT_ ?_
                  refine done_ (done_of HT_.out KR) ?_
                  try go_wp2
                  go_meet
                  case rel => exact ⟨_, (true), (by first | rfl | (simp; done) | (simp [*]; done)), H', ⟨by have := HJ5.out; have := HJ24.out; have := HK3.out; first | omega | exact Nat.le_refl _⟩, ⟨PS HO_3⟩, ⟨PK BK408⟩, ⟨PK BK411⟩, ⟨PB⟩⟩
                ·rw [if_neg c94] at H
                 have c94b0 : ((t409 == 2) != (t423 == 1)) = false := by simpa using c94
                 (try (have c94b1 : decide ((t409 == 2) = (t423 == 1)) = true := by simpa using c94))
                 (try (have c94b2 : ((t409 == 2) == (t423 == 1)) = true := by simpa using c94))
                 clear c94
                 by_cases c98 : t409 = 0
                 ·rw [if_pos c98] at H
                  have c98b0 : (t409 == 0) = true := beq_iff_eq.mpr c98
                  have c98b1 : (t409 != 0) = false := bne_eq_false_iff_eq.mpr c98
                  clear c98
                  by_cases c99 : ((rd_T40 t401 t410).f1) = t407
                  ·rw [if_pos c99] at H
                   have c99b0 : (((rd_T40 t401 t410).f1) == t407) = true := beq_iff_eq.mpr c99
                   have c99b1 : (((rd_T40 t401 t410).f1) != t407) = false := bne_eq_false_iff_eq.mpr c99
                   clear c99
                   by_cases c100 : t409 = 1
                   ·rw [if_pos c100] at H
                    have c100b0 : (t409 == 1) = true := beq_iff_eq.mpr c100
                    have c100b1 : (t409 != 1) = false := bne_eq_false_iff_eq.mpr c100
                    clear c100
                    have H' := Aside0.mk H
                    clear H
                    try go_wp2
                    replace HO_3 := ak (Kd.S_drew HO_3.out)
                    replace BK408 := ak (blk_drew BK408.out)
                    replace BK411 := ak (blk_drew BK411.out)
                    replace HB := ak (below_drew1 HB.out)
                    have p420 : 0 ≤ (t410 : Int) := of_decide_eq_true (by first | (with_reducible assumption) | assumption)
                    have q420 : t410 < (t401.length : Int) := of_decide_eq_true (by first | (with_reducible assumption) | assumption)
                    obtain ⟨ad420, A420_5, c420_5, e420, hx420_0, hx420_1, hx420_2, hx420_3, hx420_4, hx420_5, hx420_6, hx420_7, hx420_8, hl420_5, hi420_5⟩ := at_T40 (Kd.S_reads' HO_3.out).2.2 t410 p420 q420
                    cases e420
                    obtain ⟨ce420, hce420, hMe420, hcc420⟩ := Kd.S_get HO_3.out z40 t410 p420 (by first | exact q420 | exact of_decide_eq_true (by first | (with_reducible assumption) | assumption) | (have e_ := (Kd.S_reads' HO_3.out).1; omega))
                    obtain ⟨ve420_5, rfl, ge420_5⟩ := k40_openM hMe420
                    have hv420_5 := hcc420 5 _ rfl
                    rw [add_field _ _ 5 (by omega)] at hv420_5
                    replace hv420_5 := Option.some.inj (hv420_5.symm.trans hx420_5)
                    rw [hv420_5] at ge420_5
                    have HL420_5 := ak (show Kd.R (Kd.int .i64) 3 _ _ _ _ ((rd_T40 t401 t410).f2.f1) from ge420_5)
                    clear hv420_5 ge420_5
                    clear hcc420 hce420
                    have HR420_5 := Aside0.mk hi420_5
                    have HC420_5 := Aside0.mk hl420_5
                    clear hi420_5 hl420_5
                    replace p420 := eq_true p420
                    replace q420 := eq_true q420
                    have p422 : 0 ≤ (t410 : Int) := of_decide_eq_true (by first | (with_reducible assumption) | assumption)
                    have q422 : t410 < (t401.length : Int) := of_decide_eq_true (by first | (with_reducible assumption) | assumption)
                    obtain ⟨ad422, A422_5, c422_5, e422, hx422_0, hx422_1, hx422_2, hx422_3, hx422_4, hx422_5, hx422_6, hx422_7, hx422_8, hl422_5, hi422_5⟩ := at_T40 (Kd.S_reads' HO_3.out).2.2 t410 p422 q422
                    obtain rfl : ad420 = ad422 := (by injection e422)
                    obtain ⟨ce422, hce422, hMe422, hcc422⟩ := Kd.S_get HO_3.out z40 t410 p422 (by first | exact q422 | exact of_decide_eq_true (by first | (with_reducible assumption) | assumption) | (have e_ := (Kd.S_reads' HO_3.out).1; omega))
                    obtain ⟨ve422_5, rfl, ge422_5⟩ := k40_openM hMe422
                    have hv422_5 := hcc422 5 _ rfl
                    rw [add_field _ _ 5 (by omega)] at hv422_5
                    replace hv422_5 := Option.some.inj (hv422_5.symm.trans hx422_5)
                    rw [hv422_5] at ge422_5
                    have HL422_5 := ak (show Kd.R (Kd.int .i64) 3 _ _ _ _ ((rd_T40 t401 t410).f2.f1) from ge422_5)
                    clear hv422_5 ge422_5
                    clear hcc422 hce422
                    have HR422_5 := Aside0.mk hi422_5
                    have HC422_5 := Aside0.mk hl422_5
                    clear hi422_5 hl422_5
                    replace p422 := eq_true p422
                    replace q422 := eq_true q422
                    have p424 : 0 ≤ (t410 : Int) := of_decide_eq_true (by first | (with_reducible assumption) | assumption)
                    have q424 : t410 < (t401.length : Int) := of_decide_eq_true (by first | (with_reducible assumption) | assumption)
                    obtain ⟨ad424, A424_5, c424_5, e424, hx424_0, hx424_1, hx424_2, hx424_3, hx424_4, hx424_5, hx424_6, hx424_7, hx424_8, hl424_5, hi424_5⟩ := at_T40 (Kd.S_reads' HO_3.out).2.2 t410 p424 q424
                    obtain rfl : ad420 = ad424 := (by injection e424)
                    obtain ⟨rfl, rfl⟩ : A424_5 = A420_5 ∧ c424_5 = c420_5 := by have e_ := Option.some.inj (hx424_5.symm.trans hx420_5); first | (injection e_ with a_ b_ c_; exact ⟨a_, c_⟩) | (injection e_ with a_ c_; exact ⟨a_, c_⟩)
                    obtain ⟨ce424, hce424, hMe424, hcc424⟩ := Kd.S_get HO_3.out z40 t410 p424 (by first | exact q424 | exact of_decide_eq_true (by first | (with_reducible assumption) | assumption) | (have e_ := (Kd.S_reads' HO_3.out).1; omega))
                    obtain ⟨ve424_5, rfl, ge424_5⟩ := k40_openM hMe424
                    have hv424_5 := hcc424 5 _ rfl
                    rw [add_field _ _ 5 (by omega)] at hv424_5
                    replace hv424_5 := Option.some.inj (hv424_5.symm.trans hx424_5)
                    rw [hv424_5] at ge424_5
                    have HL424_5 := ak (show Kd.R (Kd.int .i64) 3 _ _ _ _ ((rd_T40 t401 t410).f2.f1) from ge424_5)
                    clear hv424_5 ge424_5
                    clear hcc424 hce424
                    have HR424_5 := Aside0.mk hi424_5
                    have HC424_5 := Aside0.mk hl424_5
                    clear hi424_5 hl424_5
                    replace p424 := eq_true p424
                    replace q424 := eq_true q424
                    have p425 : 0 ≤ (t410 : Int) := of_decide_eq_true (by first | (with_reducible assumption) | assumption)
                    have q425 : t410 < (t401.length : Int) := of_decide_eq_true (by first | (with_reducible assumption) | assumption)
                    obtain ⟨ad425, A425_5, c425_5, e425, hx425_0, hx425_1, hx425_2, hx425_3, hx425_4, hx425_5, hx425_6, hx425_7, hx425_8, hl425_5, hi425_5⟩ := at_T40 (Kd.S_reads' HO_3.out).2.2 t410 p425 q425
                    obtain rfl : ad420 = ad425 := (by injection e425)
                    obtain ⟨ce425, hce425, hMe425, hcc425⟩ := Kd.S_get HO_3.out z40 t410 p425 (by first | exact q425 | exact of_decide_eq_true (by first | (with_reducible assumption) | assumption) | (have e_ := (Kd.S_reads' HO_3.out).1; omega))
                    obtain ⟨ve425_5, rfl, ge425_5⟩ := k40_openM hMe425
                    have hv425_5 := hcc425 5 _ rfl
                    rw [add_field _ _ 5 (by omega)] at hv425_5
                    replace hv425_5 := Option.some.inj (hv425_5.symm.trans hx425_5)
                    rw [hv425_5] at ge425_5
                    have HL425_5 := ak (show Kd.R (Kd.int .i64) 3 _ _ _ _ ((rd_T40 t401 t410).f2.f1) from ge425_5)
                    clear hv425_5 ge425_5
                    clear hcc425 hce425
                    have HR425_5 := Aside0.mk hi425_5
                    have HC425_5 := Aside0.mk hl425_5
                    clear hi425_5 hl425_5
                    replace p425 := eq_true p425
                    replace q425 := eq_true q425
                    have ea_ := Option.some.inj (hx424_5.symm.trans hx425_5)
                    injection ea_ with ea_ en_ ec_
                    subst ea_
                    subst ec_
                    clear en_
                    as_aux_lemma =>
                     refine start_ (n := 59) (S := fun w' => w'.cell? ⟨gb411, 0, none⟩ = some (.int .i64 t409) ∧ w'.cell? ⟨gb411, 1, none⟩ = some (.int .i64 t410) ∧ w'.cell? ⟨gb408, 0, none⟩ = some (.int .i64 t404) ∧ w'.cell? ⟨gb408, 1, none⟩ = some (.int .i64 t405) ∧ w'.cell? ⟨gb408, 2, none⟩ = some (.int .i64 t406) ∧ w'.cell? (ad420.add ((t410).toNat * 9)) = some (.int .i64 ((rd_T40 t401 t410).f0.f0)) ∧ w'.cell? ⟨(ad420.add ((t410).toNat * 9)).block, (ad420.add ((t410).toNat * 9)).off + 1, none⟩ = some (.int .i64 ((rd_T40 t401 t410).f0.f1)) ∧ w'.cell? ⟨(ad420.add ((t410).toNat * 9)).block, (ad420.add ((t410).toNat * 9)).off + 2, none⟩ = some (.int .i64 ((rd_T40 t401 t410).f0.f2)) ∧ w'.cell? ⟨(ad420.add ((t410).toNat * 9)).block, (ad420.add ((t410).toNat * 9)).off + 3, none⟩ = some (.int .i64 ((rd_T40 t401 t410).f1)) ∧ w'.cell? ⟨(ad420.add ((t410).toNat * 9)).block, (ad420.add ((t410).toNat * 9)).off + 4, none⟩ = some (.int .i64 ((rd_T40 t401 t410).f2.f0)) ∧ w'.cell? ⟨(ad420.add ((t410).toNat * 9)).block, (ad420.add ((t410).toNat * 9)).off + 5, none⟩ = some (.slice A424_5 ((rd_T40 t401 t410).f2.f1).length c424_5) ∧ w'.cell? ⟨(ad420.add ((t410).toNat * 9)).block, (ad420.add ((t410).toNat * 9)).off + 6, none⟩ = some (.int .i64 ((rd_T40 t401 t410).f2.f2.f0)) ∧ w'.cell? ⟨(ad420.add ((t410).toNat * 9)).block, (ad420.add ((t410).toNat * 9)).off + 7, none⟩ = some (.int .i64 ((rd_T40 t401 t410).f2.f2.f1)) ∧ w'.cell? ⟨(ad420.add ((t410).toNat * 9)).block, (ad420.add ((t410).toNat * 9)).off + 8, none⟩ = some (.int .i64 ((rd_T40 t401 t410).f2.f2.f2)) ∧ w'.cell? (ad420.add ((t410).toNat * 9)) = some (.int .i64 ((rd_T40 t401 t410).f0.f0)) ∧ w'.cell? ⟨(ad420.add ((t410).toNat * 9)).block, (ad420.add ((t410).toNat * 9)).off + 1, none⟩ = some (.int .i64 ((rd_T40 t401 t410).f0.f1)) ∧ w'.cell? ⟨(ad420.add ((t410).toNat * 9)).block, (ad420.add ((t410).toNat * 9)).off + 2, none⟩ = some (.int .i64 ((rd_T40 t401 t410).f0.f2)) ∧ w'.cell? ⟨(ad420.add ((t410).toNat * 9)).block, (ad420.add ((t410).toNat * 9)).off + 3, none⟩ = some (.int .i64 ((rd_T40 t401 t410).f1)) ∧ w'.cell? ⟨(ad420.add ((t410).toNat * 9)).block, (ad420.add ((t410).toNat * 9)).off + 4, none⟩ = some (.int .i64 ((rd_T40 t401 t410).f2.f0)) ∧ w'.cell? ⟨(ad420.add ((t410).toNat * 9)).block, (ad420.add ((t410).toNat * 9)).off + 5, none⟩ = some (.slice A422_5 ((rd_T40 t401 t410).f2.f1).length c422_5) ∧ w'.cell? ⟨(ad420.add ((t410).toNat * 9)).block, (ad420.add ((t410).toNat * 9)).off + 6, none⟩ = some (.int .i64 ((rd_T40 t401 t410).f2.f2.f0)) ∧ w'.cell? ⟨(ad420.add ((t410).toNat * 9)).block, (ad420.add ((t410).toNat * 9)).off + 7, none⟩ = some (.int .i64 ((rd_T40 t401 t410).f2.f2.f1)) ∧ w'.cell? ⟨(ad420.add ((t410).toNat * 9)).block, (ad420.add ((t410).toNat * 9)).off + 8, none⟩ = some (.int .i64 ((rd_T40 t401 t410).f2.f2.f2)) ∧ w'.cell? (ad420.add ((t410).toNat * 9)) = some (.int .i64 ((rd_T40 t401 t410).f0.f0)) ∧ w'.cell? ⟨(ad420.add ((t410).toNat * 9)).block, (ad420.add ((t410).toNat * 9)).off + 1, none⟩ = some (.int .i64 ((rd_T40 t401 t410).f0.f1)) ∧ w'.cell? ⟨(ad420.add ((t410).toNat * 9)).block, (ad420.add ((t410).toNat * 9)).off + 2, none⟩ = some (.int .i64 ((rd_T40 t401 t410).f0.f2)) ∧ w'.cell? ⟨(ad420.add ((t410).toNat * 9)).block, (ad420.add ((t410).toNat * 9)).off + 3, none⟩ = some (.int .i64 ((rd_T40 t401 t410).f1)) ∧ w'.cell? ⟨(ad420.add ((t410).toNat * 9)).block, (ad420.add ((t410).toNat * 9)).off + 4, none⟩ = some (.int .i64 ((rd_T40 t401 t410).f2.f0)) ∧ w'.cell? ⟨(ad420.add ((t410).toNat * 9)).block, (ad420.add ((t410).toNat * 9)).off + 5, none⟩ = some (.slice A424_5 ((rd_T40 t401 t410).f2.f1).length c424_5) ∧ w'.cell? ⟨(ad420.add ((t410).toNat * 9)).block, (ad420.add ((t410).toNat * 9)).off + 6, none⟩ = some (.int .i64 ((rd_T40 t401 t410).f2.f2.f0)) ∧ w'.cell? ⟨(ad420.add ((t410).toNat * 9)).block, (ad420.add ((t410).toNat * 9)).off + 7, none⟩ = some (.int .i64 ((rd_T40 t401 t410).f2.f2.f1)) ∧ w'.cell? ⟨(ad420.add ((t410).toNat * 9)).block, (ad420.add ((t410).toNat * 9)).off + 8, none⟩ = some (.int .i64 ((rd_T40 t401 t410).f2.f2.f2)) ∧ w'.cell? (ad420.add ((t410).toNat * 9)) = some (.int .i64 ((rd_T40 t401 t410).f0.f0)) ∧ w'.cell? ⟨(ad420.add ((t410).toNat * 9)).block, (ad420.add ((t410).toNat * 9)).off + 1, none⟩ = some (.int .i64 ((rd_T40 t401 t410).f0.f1)) ∧ w'.cell? ⟨(ad420.add ((t410).toNat * 9)).block, (ad420.add ((t410).toNat * 9)).off + 2, none⟩ = some (.int .i64 ((rd_T40 t401 t410).f0.f2)) ∧ w'.cell? ⟨(ad420.add ((t410).toNat * 9)).block, (ad420.add ((t410).toNat * 9)).off + 3, none⟩ = some (.int .i64 ((rd_T40 t401 t410).f1)) ∧ w'.cell? ⟨(ad420.add ((t410).toNat * 9)).block, (ad420.add ((t410).toNat * 9)).off + 4, none⟩ = some (.int .i64 ((rd_T40 t401 t410).f2.f0)) ∧ w'.cell? ⟨(ad420.add ((t410).toNat * 9)).block, (ad420.add ((t410).toNat * 9)).off + 5, none⟩ = some (.slice A424_5 ((rd_T40 t401 t410).f2.f1).length c424_5) ∧ w'.cell? ⟨(ad420.add ((t410).toNat * 9)).block, (ad420.add ((t410).toNat * 9)).off + 6, none⟩ = some (.int .i64 ((rd_T40 t401 t410).f2.f2.f0)) ∧ w'.cell? ⟨(ad420.add ((t410).toNat * 9)).block, (ad420.add ((t410).toNat * 9)).off + 7, none⟩ = some (.int .i64 ((rd_T40 t401 t410).f2.f2.f1)) ∧ w'.cell? ⟨(ad420.add ((t410).toNat * 9)).block, (ad420.add ((t410).toNat * 9)).off + 8, none⟩ = some (.int .i64 ((rd_T40 t401 t410).f2.f2.f2))) (ds := []) b8_104 KR rfl rfl ⟨(blk_cell BK411.out 0).trans rfl, (blk_cell BK411.out 1).trans rfl, (blk_cell BK408.out 0).trans rfl, (blk_cell BK408.out 1).trans rfl, (blk_cell BK408.out 2).trans rfl, hx420_0, hx420_1, hx420_2, hx420_3, hx420_4, hx420_5, hx420_6, hx420_7, hx420_8, hx422_0, hx422_1, hx422_2, hx422_3, hx422_4, hx422_5, hx422_6, hx422_7, hx422_8, hx424_0, hx424_1, hx424_2, hx424_3, hx424_4, hx424_5, hx424_6, hx424_7, hx424_8, hx425_0, hx425_1, hx425_2, hx425_3, hx425_4, hx425_5, hx425_6, hx425_7, hx425_8⟩ (fun hHeld => ?_); refine with_tabW laws_FnNearest.tab19 laws_FnNearest.bits19 (fun HT_ HW_ => ?_)
                     generalize wr.drew = w101 at HO_3 BK408 BK411 HB HL420_5 HL422_5 HL424_5 HL425_5 HR420_5 HR422_5 HR424_5 HR425_5 hx420_0 hx420_1 hx420_2 hx420_3 hx420_4 hx420_5 hx420_6 hx420_7 hx420_8 hx422_0 hx422_1 hx422_2 hx422_3 hx422_4 hx422_5 hx422_6 hx422_7 hx422_8 hx424_0 hx424_1 hx424_2 hx424_3 hx424_4 hx424_5 hx424_6 hx424_7 hx424_8 hx425_0 hx425_1 hx425_2 hx425_3 hx425_4 hx425_5 hx425_6 hx425_7 hx425_8 hHeld ⊢
                     refine pu_ (i := 0) (N := some 105) b8_103 HT_ ?_
                     refine tk_ (i := 1) (N := some 106) b8_102 rfl rfl HT_ HW_ hHeld ?_
                     refine pu_ (i := 2) (N := some 107) b8_101 HT_ ?_
                     refine pu_ (i := 3) (N := some 108) b8_100 HT_ ?_
                     refine pu_ (i := 4) (N := some 109) b8_99 HT_ ?_
                     refine pu_ (i := 5) (N := some 110) b8_98 HT_ ?_
                     refine tk_ (i := 6) (N := some 111) b8_97 rfl rfl HT_ HW_ hHeld ?_
                     refine pu_ (i := 7) (N := some 112) b8_96 HT_ ?_
                     refine pu_ (i := 8) (N := some 113) b8_95 HT_ ?_
                     refine tk_ (i := 9) (N := some 114) b8_94 rfl rfl HT_ HW_ hHeld ?_
                     refine take_ (i := 10) (N := some 115) (v := ?_) (a' := ?_) b8_93 rfl rfl (take_ofW HT_.out HW_.out KR) (fun _ _ _ h => h) (Or.inl ⟨by rfl, ?_⟩) hHeld ?_ ?_
                     rotate_left
                     ·rintro w' ⟨s0, s1, s2, s3, s4, s5, s6, s7, s8, s9, s10, s11, s12, s13, s14, s15, s16, s17, s18, s19, s20, s21, s22, s23, s24, s25, s26, s27, s28, s29, s30, s31, s32, s33, s34, s35, s36, s37, s38, s39, s40⟩
                      go_simp
                      with_reducible rfl
                     rotate_left
                     ·simp only [Act.put, List.setIfInBounds_toArray, List.set_cons_zero, List.set_cons_succ, i64_w, i32_w]
                      rfl
                     refine one_ (i := 11) (N := some 116) b8_92 rfl rfl (one_of HT_.out KR) (by decide) (fun K hK => ?_)
                     refine goes_ Try.func16 KR rfl #[.agg #[.int .i64 ((rd_T40 t401 t410).f0.f0), .int .i64 ((rd_T40 t401 t410).f0.f1), .int .i64 ((rd_T40 t401 t410).f0.f2)], .agg #[.int .i64 t404, .int .i64 t405, .int .i64 t406]] (by rfl) rfl rfl AR ?_
                     with_reducible refine (impl_DistanceOf.calls ((rd_T40 t401 t410).f0.f0) ((rd_T40 t401 t410).f0.f1) ((rd_T40 t401 t410).f0.f2) t404 t405 t406 t421 _ A89.out).mono ?_
                     rintro e w102 ⟨rfl, hb⟩
                     have HS5_ := hs_ hb hHeld.2.2.2.2.2.1; have HS6_ := hs_ hb hHeld.2.2.2.2.2.2.1; have HS7_ := hs_ hb hHeld.2.2.2.2.2.2.2.1; have HS8_ := hs_ hb hHeld.2.2.2.2.2.2.2.2.1; have HS9_ := hs_ hb hHeld.2.2.2.2.2.2.2.2.2.1; have HS10_ := hs_ hb hHeld.2.2.2.2.2.2.2.2.2.2.1; have HS11_ := hs_ hb hHeld.2.2.2.2.2.2.2.2.2.2.2.1; have HS12_ := hs_ hb hHeld.2.2.2.2.2.2.2.2.2.2.2.2.1; have HS13_ := hs_ hb hHeld.2.2.2.2.2.2.2.2.2.2.2.2.2.1; have HS14_ := hs_ hb hHeld.2.2.2.2.2.2.2.2.2.2.2.2.2.2.1; have HS15_ := hs_ hb hHeld.2.2.2.2.2.2.2.2.2.2.2.2.2.2.2.1; have HS16_ := hs_ hb hHeld.2.2.2.2.2.2.2.2.2.2.2.2.2.2.2.2.1; have HS17_ := hs_ hb hHeld.2.2.2.2.2.2.2.2.2.2.2.2.2.2.2.2.2.1; have HS18_ := hs_ hb hHeld.2.2.2.2.2.2.2.2.2.2.2.2.2.2.2.2.2.2.1; have HS19_ := hs_ hb hHeld.2.2.2.2.2.2.2.2.2.2.2.2.2.2.2.2.2.2.2.1; have HS20_ := hs_ hb hHeld.2.2.2.2.2.2.2.2.2.2.2.2.2.2.2.2.2.2.2.2.1; have HS21_ := hs_ hb hHeld.2.2.2.2.2.2.2.2.2.2.2.2.2.2.2.2.2.2.2.2.2.1; have HS22_ := hs_ hb hHeld.2.2.2.2.2.2.2.2.2.2.2.2.2.2.2.2.2.2.2.2.2.2.1; have HS23_ := hs_ hb hHeld.2.2.2.2.2.2.2.2.2.2.2.2.2.2.2.2.2.2.2.2.2.2.2.1; have HS24_ := hs_ hb hHeld.2.2.2.2.2.2.2.2.2.2.2.2.2.2.2.2.2.2.2.2.2.2.2.2.1; have HS25_ := hs_ hb hHeld.2.2.2.2.2.2.2.2.2.2.2.2.2.2.2.2.2.2.2.2.2.2.2.2.2.1; have HS26_ := hs_ hb hHeld.2.2.2.2.2.2.2.2.2.2.2.2.2.2.2.2.2.2.2.2.2.2.2.2.2.2.1; have HS27_ := hs_ hb hHeld.2.2.2.2.2.2.2.2.2.2.2.2.2.2.2.2.2.2.2.2.2.2.2.2.2.2.2.1; have HS28_ := hs_ hb hHeld.2.2.2.2.2.2.2.2.2.2.2.2.2.2.2.2.2.2.2.2.2.2.2.2.2.2.2.2.1; have HS29_ := hs_ hb hHeld.2.2.2.2.2.2.2.2.2.2.2.2.2.2.2.2.2.2.2.2.2.2.2.2.2.2.2.2.2.1; have HS30_ := hs_ hb hHeld.2.2.2.2.2.2.2.2.2.2.2.2.2.2.2.2.2.2.2.2.2.2.2.2.2.2.2.2.2.2.1; have HS31_ := hs_ hb hHeld.2.2.2.2.2.2.2.2.2.2.2.2.2.2.2.2.2.2.2.2.2.2.2.2.2.2.2.2.2.2.2.1; have HS32_ := hs_ hb hHeld.2.2.2.2.2.2.2.2.2.2.2.2.2.2.2.2.2.2.2.2.2.2.2.2.2.2.2.2.2.2.2.2.1; have HS33_ := hs_ hb hHeld.2.2.2.2.2.2.2.2.2.2.2.2.2.2.2.2.2.2.2.2.2.2.2.2.2.2.2.2.2.2.2.2.2.1; have HS34_ := hs_ hb hHeld.2.2.2.2.2.2.2.2.2.2.2.2.2.2.2.2.2.2.2.2.2.2.2.2.2.2.2.2.2.2.2.2.2.2.1; have HS35_ := hs_ hb hHeld.2.2.2.2.2.2.2.2.2.2.2.2.2.2.2.2.2.2.2.2.2.2.2.2.2.2.2.2.2.2.2.2.2.2.2.1; have HS36_ := hs_ hb hHeld.2.2.2.2.2.2.2.2.2.2.2.2.2.2.2.2.2.2.2.2.2.2.2.2.2.2.2.2.2.2.2.2.2.2.2.2.1; have HS37_ := hs_ hb hHeld.2.2.2.2.2.2.2.2.2.2.2.2.2.2.2.2.2.2.2.2.2.2.2.2.2.2.2.2.2.2.2.2.2.2.2.2.2.1; have HS38_ := hs_ hb hHeld.2.2.2.2.2.2.2.2.2.2.2.2.2.2.2.2.2.2.2.2.2.2.2.2.2.2.2.2.2.2.2.2.2.2.2.2.2.2.1; have HS39_ := hs_ hb hHeld.2.2.2.2.2.2.2.2.2.2.2.2.2.2.2.2.2.2.2.2.2.2.2.2.2.2.2.2.2.2.2.2.2.2.2.2.2.2.2.1; have HS40_ := hs_ hb hHeld.2.2.2.2.2.2.2.2.2.2.2.2.2.2.2.2.2.2.2.2.2.2.2.2.2.2.2.2.2.2.2.2.2.2.2.2.2.2.2.2
                     refine ⟨_, rfl, ?_⟩
                     have n0_ := Sb HO_3 hb
                     have n1_ := Rb HL420_5 hb
                     have n2_ := kf BK408 hb
                     have n3_ := kf BK411 hb
                     have n4_ := Cb HR420_5 hb
                     have n5_ := bs HB hb
                     have HL422_5 := Rb HL422_5 hb
                     have HR422_5 := Cb HR422_5 hb
                     clear HO_3
                     clear HL420_5
                     clear BK408
                     clear BK411
                     clear HR420_5
                     clear HB
                     have HO_3 := n0_
                     have HL420_5 := n1_
                     have BK408 := n2_
                     have BK411 := n3_
                     have HR420_5 := n4_
                     have HB := n5_
                     clear n0_ n1_ n2_ n3_ n4_ n5_
                     (try clear hb)
                     (try clear hb2)
                     (try clear hk)
                     (try clear hi)
                     refine hK.out _ _ ⟨(blk_cell BK411.out 0).trans rfl, (blk_cell BK411.out 1).trans rfl, (blk_cell BK408.out 0).trans rfl, (blk_cell BK408.out 1).trans rfl, (blk_cell BK408.out 2).trans rfl, HS5_, HS6_, HS7_, HS8_, HS9_, HS10_, HS11_, HS12_, HS13_, HS14_, HS15_, HS16_, HS17_, HS18_, HS19_, HS20_, HS21_, HS22_, HS23_, HS24_, HS25_, HS26_, HS27_, HS28_, HS29_, HS30_, HS31_, HS32_, HS33_, HS34_, HS35_, HS36_, HS37_, HS38_, HS39_, HS40_⟩ (fun hHeld => ?_)
                     clear hK K
                     refine norm_ (a' := ?_) ?_ ?_
                     rotate_left
                     ·show Act.put _ (some 116) _ = _
                      simp only [Act.put, List.setIfInBounds_toArray, List.set_cons_zero, List.set_cons_succ, i64_w, i32_w]
                      rfl
                     refine pu_ (i := 12) (N := some 117) b8_91 HT_ ?_
                     refine pu_ (i := 13) (N := some 118) b8_90 HT_ ?_
                     refine pu_ (i := 14) (N := some 119) b8_89 HT_ ?_
                     refine pu_ (i := 17) (N := some 122) b8_87 HT_ ?_
                     refine pu_ (i := 18) (N := some 123) b8_85 HT_ ?_
                     refine tk_ (i := 15) (N := some 120) b8_83 rfl rfl HT_ HW_ hHeld ?_
                     refine pu_ (i := 16) (N := some 121) b8_82 HT_ ?_
                     refine tk_ (i := 19) (N := some 124) b8_81 rfl rfl HT_ HW_ hHeld ?_
                     refine pu_ (i := 20) (N := some 125) b8_80 HT_ ?_
                     refine pu_ (i := 21) (N := some 126) b8_79 HT_ ?_
                     refine tk_ (i := 22) (N := some 127) b8_78 rfl rfl HT_ HW_ hHeld ?_
                     refine take_ (i := 23) (N := some 128) (v := ?_) (a' := ?_) b8_77 rfl rfl (take_ofW HT_.out HW_.out KR) (fun _ _ _ h => h) (Or.inl ⟨by rfl, ?_⟩) hHeld ?_ ?_
                     rotate_left
                     ·rintro w' ⟨s0, s1, s2, s3, s4, s5, s6, s7, s8, s9, s10, s11, s12, s13, s14, s15, s16, s17, s18, s19, s20, s21, s22, s23, s24, s25, s26, s27, s28, s29, s30, s31, s32, s33, s34, s35, s36, s37, s38, s39, s40⟩
                      go_simp
                      with_reducible rfl
                     rotate_left
                     ·simp only [Act.put, List.setIfInBounds_toArray, List.set_cons_zero, List.set_cons_succ, i64_w, i32_w]
                      rfl
                     refine one_ (i := 24) (N := some 129) b8_76 rfl rfl (one_of HT_.out KR) (by decide) (fun K hK => ?_)
                     refine goes_ Try.func16 KR rfl #[.agg #[.int .i64 ((rd_T40 t401 t410).f0.f0), .int .i64 ((rd_T40 t401 t410).f0.f1), .int .i64 ((rd_T40 t401 t410).f0.f2)], .agg #[.int .i64 t404, .int .i64 t405, .int .i64 t406]] (by rfl) rfl rfl AR ?_
                     with_reducible refine (impl_DistanceOf.calls ((rd_T40 t401 t410).f0.f0) ((rd_T40 t401 t410).f0.f1) ((rd_T40 t401 t410).f0.f2) t404 t405 t406 t423 _ A93.out).mono ?_
                     rintro e w103 ⟨rfl, hb⟩
                     have HS5_ := hs_ hb hHeld.2.2.2.2.2.1; have HS6_ := hs_ hb hHeld.2.2.2.2.2.2.1; have HS7_ := hs_ hb hHeld.2.2.2.2.2.2.2.1; have HS8_ := hs_ hb hHeld.2.2.2.2.2.2.2.2.1; have HS9_ := hs_ hb hHeld.2.2.2.2.2.2.2.2.2.1; have HS10_ := hs_ hb hHeld.2.2.2.2.2.2.2.2.2.2.1; have HS11_ := hs_ hb hHeld.2.2.2.2.2.2.2.2.2.2.2.1; have HS12_ := hs_ hb hHeld.2.2.2.2.2.2.2.2.2.2.2.2.1; have HS13_ := hs_ hb hHeld.2.2.2.2.2.2.2.2.2.2.2.2.2.1; have HS14_ := hs_ hb hHeld.2.2.2.2.2.2.2.2.2.2.2.2.2.2.1; have HS15_ := hs_ hb hHeld.2.2.2.2.2.2.2.2.2.2.2.2.2.2.2.1; have HS16_ := hs_ hb hHeld.2.2.2.2.2.2.2.2.2.2.2.2.2.2.2.2.1; have HS17_ := hs_ hb hHeld.2.2.2.2.2.2.2.2.2.2.2.2.2.2.2.2.2.1; have HS18_ := hs_ hb hHeld.2.2.2.2.2.2.2.2.2.2.2.2.2.2.2.2.2.2.1; have HS19_ := hs_ hb hHeld.2.2.2.2.2.2.2.2.2.2.2.2.2.2.2.2.2.2.2.1; have HS20_ := hs_ hb hHeld.2.2.2.2.2.2.2.2.2.2.2.2.2.2.2.2.2.2.2.2.1; have HS21_ := hs_ hb hHeld.2.2.2.2.2.2.2.2.2.2.2.2.2.2.2.2.2.2.2.2.2.1; have HS22_ := hs_ hb hHeld.2.2.2.2.2.2.2.2.2.2.2.2.2.2.2.2.2.2.2.2.2.2.1; have HS23_ := hs_ hb hHeld.2.2.2.2.2.2.2.2.2.2.2.2.2.2.2.2.2.2.2.2.2.2.2.1; have HS24_ := hs_ hb hHeld.2.2.2.2.2.2.2.2.2.2.2.2.2.2.2.2.2.2.2.2.2.2.2.2.1; have HS25_ := hs_ hb hHeld.2.2.2.2.2.2.2.2.2.2.2.2.2.2.2.2.2.2.2.2.2.2.2.2.2.1; have HS26_ := hs_ hb hHeld.2.2.2.2.2.2.2.2.2.2.2.2.2.2.2.2.2.2.2.2.2.2.2.2.2.2.1; have HS27_ := hs_ hb hHeld.2.2.2.2.2.2.2.2.2.2.2.2.2.2.2.2.2.2.2.2.2.2.2.2.2.2.2.1; have HS28_ := hs_ hb hHeld.2.2.2.2.2.2.2.2.2.2.2.2.2.2.2.2.2.2.2.2.2.2.2.2.2.2.2.2.1; have HS29_ := hs_ hb hHeld.2.2.2.2.2.2.2.2.2.2.2.2.2.2.2.2.2.2.2.2.2.2.2.2.2.2.2.2.2.1; have HS30_ := hs_ hb hHeld.2.2.2.2.2.2.2.2.2.2.2.2.2.2.2.2.2.2.2.2.2.2.2.2.2.2.2.2.2.2.1; have HS31_ := hs_ hb hHeld.2.2.2.2.2.2.2.2.2.2.2.2.2.2.2.2.2.2.2.2.2.2.2.2.2.2.2.2.2.2.2.1; have HS32_ := hs_ hb hHeld.2.2.2.2.2.2.2.2.2.2.2.2.2.2.2.2.2.2.2.2.2.2.2.2.2.2.2.2.2.2.2.2.1; have HS33_ := hs_ hb hHeld.2.2.2.2.2.2.2.2.2.2.2.2.2.2.2.2.2.2.2.2.2.2.2.2.2.2.2.2.2.2.2.2.2.1; have HS34_ := hs_ hb hHeld.2.2.2.2.2.2.2.2.2.2.2.2.2.2.2.2.2.2.2.2.2.2.2.2.2.2.2.2.2.2.2.2.2.2.1; have HS35_ := hs_ hb hHeld.2.2.2.2.2.2.2.2.2.2.2.2.2.2.2.2.2.2.2.2.2.2.2.2.2.2.2.2.2.2.2.2.2.2.2.1; have HS36_ := hs_ hb hHeld.2.2.2.2.2.2.2.2.2.2.2.2.2.2.2.2.2.2.2.2.2.2.2.2.2.2.2.2.2.2.2.2.2.2.2.2.1; have HS37_ := hs_ hb hHeld.2.2.2.2.2.2.2.2.2.2.2.2.2.2.2.2.2.2.2.2.2.2.2.2.2.2.2.2.2.2.2.2.2.2.2.2.2.1; have HS38_ := hs_ hb hHeld.2.2.2.2.2.2.2.2.2.2.2.2.2.2.2.2.2.2.2.2.2.2.2.2.2.2.2.2.2.2.2.2.2.2.2.2.2.2.1; have HS39_ := hs_ hb hHeld.2.2.2.2.2.2.2.2.2.2.2.2.2.2.2.2.2.2.2.2.2.2.2.2.2.2.2.2.2.2.2.2.2.2.2.2.2.2.2.1; have HS40_ := hs_ hb hHeld.2.2.2.2.2.2.2.2.2.2.2.2.2.2.2.2.2.2.2.2.2.2.2.2.2.2.2.2.2.2.2.2.2.2.2.2.2.2.2.2
                     refine ⟨_, rfl, ?_⟩
                     replace HO_3 := Sb HO_3 hb
                     replace HL420_5 := Rb HL420_5 hb
                     replace HL422_5 := Rb HL422_5 hb
                     replace BK408 := kf BK408 hb
                     replace BK411 := kf BK411 hb
                     replace HR420_5 := Cb HR420_5 hb
                     replace HR422_5 := Cb HR422_5 hb
                     replace HB := bs HB hb
                     (try clear hb)
                     (try clear hb2)
                     (try clear hk)
                     (try clear hi)
                     refine hK.out _ _ ⟨(blk_cell BK411.out 0).trans rfl, (blk_cell BK411.out 1).trans rfl, (blk_cell BK408.out 0).trans rfl, (blk_cell BK408.out 1).trans rfl, (blk_cell BK408.out 2).trans rfl, HS5_, HS6_, HS7_, HS8_, HS9_, HS10_, HS11_, HS12_, HS13_, HS14_, HS15_, HS16_, HS17_, HS18_, HS19_, HS20_, HS21_, HS22_, HS23_, HS24_, HS25_, HS26_, HS27_, HS28_, HS29_, HS30_, HS31_, HS32_, HS33_, HS34_, HS35_, HS36_, HS37_, HS38_, HS39_, HS40_⟩ (fun hHeld => ?_)
                     clear hK K
                     refine norm_ (a' := ?_) ?_ ?_
                     rotate_left
                     ·show Act.put _ (some 129) _ = _
                      simp only [Act.put, List.setIfInBounds_toArray, List.set_cons_zero, List.set_cons_succ, i64_w, i32_w]
                      rfl
                     refine pu_ (i := 25) (N := some 130) b8_75 HT_ ?_
                     refine pu_ (i := 26) (N := some 131) b8_74 HT_ ?_
                     refine pu_ (i := 27) (N := some 132) b8_73 HT_ ?_
                     refine pu_ (i := 28) (N := some 133) b8_72 HT_ ?_
                     refine pu_ (i := 29) (N := some 134) b8_71 HT_ ?_
                     refine tk_ (i := 30) (N := some 135) b8_70 rfl rfl HT_ HW_ hHeld ?_
                     refine pu_ (i := 31) (N := some 136) b8_69 HT_ ?_
                     refine pu_ (i := 32) (N := some 137) b8_68 HT_ ?_
                     refine pu_ (i := 33) (N := some 138) b8_67 HT_ ?_
                     refine pu_ (i := 34) (N := some 139) b8_66 HT_ ?_
                     refine pu_ (i := 39) (N := some 144) b8_64 HT_ ?_
                     refine tk_ (i := 35) (N := some 140) b8_62 rfl rfl HT_ HW_ hHeld ?_
                     refine pu_ (i := 36) (N := some 141) b8_60 HT_ ?_
                     refine pu_ (i := 37) (N := some 142) b8_58 HT_ ?_
                     refine tk_ (i := 38) (N := some 143) b8_57 rfl rfl HT_ HW_ hHeld ?_
                     refine pu_ (i := 40) (N := some 145) b8_56 HT_ ?_
                     refine pu_ (i := 41) (N := some 146) b8_55 HT_ ?_
                     refine pu_ (i := 42) (N := some 147) b8_54 HT_ ?_
                     refine pu_ (i := 43) (N := some 148) b8_53 HT_ ?_
                     refine pu_ (i := 44) (N := some 149) b8_52 HT_ ?_
                     refine tk_ (i := 45) (N := some 150) b8_51 rfl rfl HT_ HW_ hHeld ?_
                     refine pu_ (i := 46) (N := some 151) b8_50 HT_ ?_
                     refine pu_ (i := 47) (N := some 152) b8_49 HT_ ?_
                     refine pu_ (i := 48) (N := some 153) b8_48 HT_ ?_
                     refine pu_ (i := 49) (N := some 154) b8_47 HT_ ?_
                     refine pu_ (i := 54) (N := some 159) b8_45 HT_ ?_
                     refine tk_ (i := 50) (N := some 155) b8_43 rfl rfl HT_ HW_ hHeld ?_
                     refine pu_ (i := 51) (N := some 156) b8_41 HT_ ?_
                     refine pu_ (i := 52) (N := some 157) b8_39 HT_ ?_
                     refine tk_ (i := 53) (N := some 158) b8_38 rfl rfl HT_ HW_ hHeld ?_
                     refine pu_ (i := 55) (N := some 160) b8_37 HT_ ?_
                     refine pu_ (i := 56) (N := some 161) b8_36 HT_ ?_
                     refine pu_ (i := 57) (N := some 162) b8_35 HT_ ?_
                     refine pu_ (i := 58) (N := some 163) b8_34 HT_ ?_
                     refine done_ (done_of HT_.out KR) ?_
                     try go_wp2
                     go_meet
                     case rel => exact ⟨_, ((((rd_T40 t401 t410).f1) == t407)), (by first | rfl | (simp; done) | (simp [*]; done)), H', ⟨by have := HJ5.out; have := HJ24.out; have := HK3.out; first | omega | exact Nat.le_refl _⟩, ⟨PS HO_3⟩, ⟨PK BK408⟩, ⟨PK BK411⟩, ⟨PB⟩⟩
                   ·rw [if_neg c100] at H
                    have c100b0 : (t409 == 1) = false := beq_eq_false_iff_ne.mpr c100
                    have c100b1 : (t409 != 1) = true := bne_iff_ne.mpr c100
                    have H' := Aside0.mk H
                    clear H
                    try go_wp2
                    replace HO_3 := ak (Kd.S_drew HO_3.out)
                    replace BK408 := ak (blk_drew BK408.out)
                    replace BK411 := ak (blk_drew BK411.out)
                    replace HB := ak (below_drew1 HB.out)
                    have p420 : 0 ≤ (t410 : Int) := of_decide_eq_true (by first | (with_reducible assumption) | assumption)
                    have q420 : t410 < (t401.length : Int) := of_decide_eq_true (by first | (with_reducible assumption) | assumption)
                    obtain ⟨ad420, A420_5, c420_5, e420, hx420_0, hx420_1, hx420_2, hx420_3, hx420_4, hx420_5, hx420_6, hx420_7, hx420_8, hl420_5, hi420_5⟩ := at_T40 (Kd.S_reads' HO_3.out).2.2 t410 p420 q420
                    cases e420
                    obtain ⟨ce420, hce420, hMe420, hcc420⟩ := Kd.S_get HO_3.out z40 t410 p420 (by first | exact q420 | exact of_decide_eq_true (by first | (with_reducible assumption) | assumption) | (have e_ := (Kd.S_reads' HO_3.out).1; omega))
                    obtain ⟨ve420_5, rfl, ge420_5⟩ := k40_openM hMe420
                    have hv420_5 := hcc420 5 _ rfl
                    rw [add_field _ _ 5 (by omega)] at hv420_5
                    replace hv420_5 := Option.some.inj (hv420_5.symm.trans hx420_5)
                    rw [hv420_5] at ge420_5
                    have HL420_5 := ak (show Kd.R (Kd.int .i64) 3 _ _ _ _ ((rd_T40 t401 t410).f2.f1) from ge420_5)
                    clear hv420_5 ge420_5
                    clear hcc420 hce420
                    have HR420_5 := Aside0.mk hi420_5
                    have HC420_5 := Aside0.mk hl420_5
                    clear hi420_5 hl420_5
                    replace p420 := eq_true p420
                    replace q420 := eq_true q420
                    have p422 : 0 ≤ (t410 : Int) := of_decide_eq_true (by first | (with_reducible assumption) | assumption)
                    have q422 : t410 < (t401.length : Int) := of_decide_eq_true (by first | (with_reducible assumption) | assumption)
                    obtain ⟨ad422, A422_5, c422_5, e422, hx422_0, hx422_1, hx422_2, hx422_3, hx422_4, hx422_5, hx422_6, hx422_7, hx422_8, hl422_5, hi422_5⟩ := at_T40 (Kd.S_reads' HO_3.out).2.2 t410 p422 q422
                    obtain rfl : ad420 = ad422 := (by injection e422)
                    obtain ⟨rfl, rfl⟩ : A422_5 = A420_5 ∧ c422_5 = c420_5 := by have e_ := Option.some.inj (hx422_5.symm.trans hx420_5); first | (injection e_ with a_ b_ c_; exact ⟨a_, c_⟩) | (injection e_ with a_ c_; exact ⟨a_, c_⟩)
                    obtain ⟨ce422, hce422, hMe422, hcc422⟩ := Kd.S_get HO_3.out z40 t410 p422 (by first | exact q422 | exact of_decide_eq_true (by first | (with_reducible assumption) | assumption) | (have e_ := (Kd.S_reads' HO_3.out).1; omega))
                    obtain ⟨ve422_5, rfl, ge422_5⟩ := k40_openM hMe422
                    have hv422_5 := hcc422 5 _ rfl
                    rw [add_field _ _ 5 (by omega)] at hv422_5
                    replace hv422_5 := Option.some.inj (hv422_5.symm.trans hx422_5)
                    rw [hv422_5] at ge422_5
                    have HL422_5 := ak (show Kd.R (Kd.int .i64) 3 _ _ _ _ ((rd_T40 t401 t410).f2.f1) from ge422_5)
                    clear hv422_5 ge422_5
                    clear hcc422 hce422
                    have HR422_5 := Aside0.mk hi422_5
                    have HC422_5 := Aside0.mk hl422_5
                    clear hi422_5 hl422_5
                    replace p422 := eq_true p422
                    replace q422 := eq_true q422
                    have p424 : 0 ≤ (t410 : Int) := of_decide_eq_true (by first | (with_reducible assumption) | assumption)
                    have q424 : t410 < (t401.length : Int) := of_decide_eq_true (by first | (with_reducible assumption) | assumption)
                    obtain ⟨ad424, A424_5, c424_5, e424, hx424_0, hx424_1, hx424_2, hx424_3, hx424_4, hx424_5, hx424_6, hx424_7, hx424_8, hl424_5, hi424_5⟩ := at_T40 (Kd.S_reads' HO_3.out).2.2 t410 p424 q424
                    obtain rfl : ad420 = ad424 := (by injection e424)
                    obtain ⟨rfl, rfl⟩ : A424_5 = A422_5 ∧ c424_5 = c422_5 := by have e_ := Option.some.inj (hx424_5.symm.trans hx420_5); first | (injection e_ with a_ b_ c_; exact ⟨a_, c_⟩) | (injection e_ with a_ c_; exact ⟨a_, c_⟩)
                    obtain ⟨ce424, hce424, hMe424, hcc424⟩ := Kd.S_get HO_3.out z40 t410 p424 (by first | exact q424 | exact of_decide_eq_true (by first | (with_reducible assumption) | assumption) | (have e_ := (Kd.S_reads' HO_3.out).1; omega))
                    obtain ⟨ve424_5, rfl, ge424_5⟩ := k40_openM hMe424
                    have hv424_5 := hcc424 5 _ rfl
                    rw [add_field _ _ 5 (by omega)] at hv424_5
                    replace hv424_5 := Option.some.inj (hv424_5.symm.trans hx424_5)
                    rw [hv424_5] at ge424_5
                    have HL424_5 := ak (show Kd.R (Kd.int .i64) 3 _ _ _ _ ((rd_T40 t401 t410).f2.f1) from ge424_5)
                    clear hv424_5 ge424_5
                    clear hcc424 hce424
                    have HR424_5 := Aside0.mk hi424_5
                    have HC424_5 := Aside0.mk hl424_5
                    clear hi424_5 hl424_5
                    replace p424 := eq_true p424
                    replace q424 := eq_true q424
                    as_aux_lemma =>
                     refine start_ (n := 59) (S := fun w' => w'.cell? ⟨gb411, 0, none⟩ = some (.int .i64 t409) ∧ w'.cell? ⟨gb411, 1, none⟩ = some (.int .i64 t410) ∧ w'.cell? ⟨gb408, 0, none⟩ = some (.int .i64 t404) ∧ w'.cell? ⟨gb408, 1, none⟩ = some (.int .i64 t405) ∧ w'.cell? ⟨gb408, 2, none⟩ = some (.int .i64 t406) ∧ w'.cell? (ad420.add ((t410).toNat * 9)) = some (.int .i64 ((rd_T40 t401 t410).f0.f0)) ∧ w'.cell? ⟨(ad420.add ((t410).toNat * 9)).block, (ad420.add ((t410).toNat * 9)).off + 1, none⟩ = some (.int .i64 ((rd_T40 t401 t410).f0.f1)) ∧ w'.cell? ⟨(ad420.add ((t410).toNat * 9)).block, (ad420.add ((t410).toNat * 9)).off + 2, none⟩ = some (.int .i64 ((rd_T40 t401 t410).f0.f2)) ∧ w'.cell? ⟨(ad420.add ((t410).toNat * 9)).block, (ad420.add ((t410).toNat * 9)).off + 3, none⟩ = some (.int .i64 ((rd_T40 t401 t410).f1)) ∧ w'.cell? ⟨(ad420.add ((t410).toNat * 9)).block, (ad420.add ((t410).toNat * 9)).off + 4, none⟩ = some (.int .i64 ((rd_T40 t401 t410).f2.f0)) ∧ w'.cell? ⟨(ad420.add ((t410).toNat * 9)).block, (ad420.add ((t410).toNat * 9)).off + 5, none⟩ = some (.slice A424_5 ((rd_T40 t401 t410).f2.f1).length c424_5) ∧ w'.cell? ⟨(ad420.add ((t410).toNat * 9)).block, (ad420.add ((t410).toNat * 9)).off + 6, none⟩ = some (.int .i64 ((rd_T40 t401 t410).f2.f2.f0)) ∧ w'.cell? ⟨(ad420.add ((t410).toNat * 9)).block, (ad420.add ((t410).toNat * 9)).off + 7, none⟩ = some (.int .i64 ((rd_T40 t401 t410).f2.f2.f1)) ∧ w'.cell? ⟨(ad420.add ((t410).toNat * 9)).block, (ad420.add ((t410).toNat * 9)).off + 8, none⟩ = some (.int .i64 ((rd_T40 t401 t410).f2.f2.f2)) ∧ w'.cell? (ad420.add ((t410).toNat * 9)) = some (.int .i64 ((rd_T40 t401 t410).f0.f0)) ∧ w'.cell? ⟨(ad420.add ((t410).toNat * 9)).block, (ad420.add ((t410).toNat * 9)).off + 1, none⟩ = some (.int .i64 ((rd_T40 t401 t410).f0.f1)) ∧ w'.cell? ⟨(ad420.add ((t410).toNat * 9)).block, (ad420.add ((t410).toNat * 9)).off + 2, none⟩ = some (.int .i64 ((rd_T40 t401 t410).f0.f2)) ∧ w'.cell? ⟨(ad420.add ((t410).toNat * 9)).block, (ad420.add ((t410).toNat * 9)).off + 3, none⟩ = some (.int .i64 ((rd_T40 t401 t410).f1)) ∧ w'.cell? ⟨(ad420.add ((t410).toNat * 9)).block, (ad420.add ((t410).toNat * 9)).off + 4, none⟩ = some (.int .i64 ((rd_T40 t401 t410).f2.f0)) ∧ w'.cell? ⟨(ad420.add ((t410).toNat * 9)).block, (ad420.add ((t410).toNat * 9)).off + 5, none⟩ = some (.slice A424_5 ((rd_T40 t401 t410).f2.f1).length c424_5) ∧ w'.cell? ⟨(ad420.add ((t410).toNat * 9)).block, (ad420.add ((t410).toNat * 9)).off + 6, none⟩ = some (.int .i64 ((rd_T40 t401 t410).f2.f2.f0)) ∧ w'.cell? ⟨(ad420.add ((t410).toNat * 9)).block, (ad420.add ((t410).toNat * 9)).off + 7, none⟩ = some (.int .i64 ((rd_T40 t401 t410).f2.f2.f1)) ∧ w'.cell? ⟨(ad420.add ((t410).toNat * 9)).block, (ad420.add ((t410).toNat * 9)).off + 8, none⟩ = some (.int .i64 ((rd_T40 t401 t410).f2.f2.f2)) ∧ w'.cell? (ad420.add ((t410).toNat * 9)) = some (.int .i64 ((rd_T40 t401 t410).f0.f0)) ∧ w'.cell? ⟨(ad420.add ((t410).toNat * 9)).block, (ad420.add ((t410).toNat * 9)).off + 1, none⟩ = some (.int .i64 ((rd_T40 t401 t410).f0.f1)) ∧ w'.cell? ⟨(ad420.add ((t410).toNat * 9)).block, (ad420.add ((t410).toNat * 9)).off + 2, none⟩ = some (.int .i64 ((rd_T40 t401 t410).f0.f2)) ∧ w'.cell? ⟨(ad420.add ((t410).toNat * 9)).block, (ad420.add ((t410).toNat * 9)).off + 3, none⟩ = some (.int .i64 ((rd_T40 t401 t410).f1)) ∧ w'.cell? ⟨(ad420.add ((t410).toNat * 9)).block, (ad420.add ((t410).toNat * 9)).off + 4, none⟩ = some (.int .i64 ((rd_T40 t401 t410).f2.f0)) ∧ w'.cell? ⟨(ad420.add ((t410).toNat * 9)).block, (ad420.add ((t410).toNat * 9)).off + 5, none⟩ = some (.slice A424_5 ((rd_T40 t401 t410).f2.f1).length c424_5) ∧ w'.cell? ⟨(ad420.add ((t410).toNat * 9)).block, (ad420.add ((t410).toNat * 9)).off + 6, none⟩ = some (.int .i64 ((rd_T40 t401 t410).f2.f2.f0)) ∧ w'.cell? ⟨(ad420.add ((t410).toNat * 9)).block, (ad420.add ((t410).toNat * 9)).off + 7, none⟩ = some (.int .i64 ((rd_T40 t401 t410).f2.f2.f1)) ∧ w'.cell? ⟨(ad420.add ((t410).toNat * 9)).block, (ad420.add ((t410).toNat * 9)).off + 8, none⟩ = some (.int .i64 ((rd_T40 t401 t410).f2.f2.f2))) (ds := []) b8_104 KR rfl rfl ⟨(blk_cell BK411.out 0).trans rfl, (blk_cell BK411.out 1).trans rfl, (blk_cell BK408.out 0).trans rfl, (blk_cell BK408.out 1).trans rfl, (blk_cell BK408.out 2).trans rfl, hx420_0, hx420_1, hx420_2, hx420_3, hx420_4, hx420_5, hx420_6, hx420_7, hx420_8, hx422_0, hx422_1, hx422_2, hx422_3, hx422_4, hx422_5, hx422_6, hx422_7, hx422_8, hx424_0, hx424_1, hx424_2, hx424_3, hx424_4, hx424_5, hx424_6, hx424_7, hx424_8⟩ (fun hHeld => ?_); refine with_tabW laws_FnNearest.tab19 laws_FnNearest.bits19 (fun HT_ HW_ => ?_)
                     generalize wr.drew = w104 at HO_3 BK408 BK411 HB HL420_5 HL422_5 HL424_5 HR420_5 HR422_5 HR424_5 hx420_0 hx420_1 hx420_2 hx420_3 hx420_4 hx420_5 hx420_6 hx420_7 hx420_8 hx422_0 hx422_1 hx422_2 hx422_3 hx422_4 hx422_5 hx422_6 hx422_7 hx422_8 hx424_0 hx424_1 hx424_2 hx424_3 hx424_4 hx424_5 hx424_6 hx424_7 hx424_8 hHeld ⊢
                     refine pu_ (i := 0) (N := some 105) b8_103 HT_ ?_
                     refine tk_ (i := 1) (N := some 106) b8_102 rfl rfl HT_ HW_ hHeld ?_
                     refine pu_ (i := 2) (N := some 107) b8_101 HT_ ?_
                     refine pu_ (i := 3) (N := some 108) b8_100 HT_ ?_
                     refine pu_ (i := 4) (N := some 109) b8_99 HT_ ?_
                     refine pu_ (i := 5) (N := some 110) b8_98 HT_ ?_
                     refine tk_ (i := 6) (N := some 111) b8_97 rfl rfl HT_ HW_ hHeld ?_
                     refine pu_ (i := 7) (N := some 112) b8_96 HT_ ?_
                     refine pu_ (i := 8) (N := some 113) b8_95 HT_ ?_
                     refine tk_ (i := 9) (N := some 114) b8_94 rfl rfl HT_ HW_ hHeld ?_
                     refine take_ (i := 10) (N := some 115) (v := ?_) (a' := ?_) b8_93 rfl rfl (take_ofW HT_.out HW_.out KR) (fun _ _ _ h => h) (Or.inl ⟨by rfl, ?_⟩) hHeld ?_ ?_
                     rotate_left
                     ·rintro w' ⟨s0, s1, s2, s3, s4, s5, s6, s7, s8, s9, s10, s11, s12, s13, s14, s15, s16, s17, s18, s19, s20, s21, s22, s23, s24, s25, s26, s27, s28, s29, s30, s31⟩
                      go_simp
                      with_reducible rfl
                     rotate_left
                     ·simp only [Act.put, List.setIfInBounds_toArray, List.set_cons_zero, List.set_cons_succ, i64_w, i32_w]
                      rfl
                     refine one_ (i := 11) (N := some 116) b8_92 rfl rfl (one_of HT_.out KR) (by decide) (fun K hK => ?_)
                     refine goes_ Try.func16 KR rfl #[.agg #[.int .i64 ((rd_T40 t401 t410).f0.f0), .int .i64 ((rd_T40 t401 t410).f0.f1), .int .i64 ((rd_T40 t401 t410).f0.f2)], .agg #[.int .i64 t404, .int .i64 t405, .int .i64 t406]] (by rfl) rfl rfl AR ?_
                     with_reducible refine (impl_DistanceOf.calls ((rd_T40 t401 t410).f0.f0) ((rd_T40 t401 t410).f0.f1) ((rd_T40 t401 t410).f0.f2) t404 t405 t406 t421 _ A89.out).mono ?_
                     rintro e w105 ⟨rfl, hb⟩
                     have HS5_ := hs_ hb hHeld.2.2.2.2.2.1; have HS6_ := hs_ hb hHeld.2.2.2.2.2.2.1; have HS7_ := hs_ hb hHeld.2.2.2.2.2.2.2.1; have HS8_ := hs_ hb hHeld.2.2.2.2.2.2.2.2.1; have HS9_ := hs_ hb hHeld.2.2.2.2.2.2.2.2.2.1; have HS10_ := hs_ hb hHeld.2.2.2.2.2.2.2.2.2.2.1; have HS11_ := hs_ hb hHeld.2.2.2.2.2.2.2.2.2.2.2.1; have HS12_ := hs_ hb hHeld.2.2.2.2.2.2.2.2.2.2.2.2.1; have HS13_ := hs_ hb hHeld.2.2.2.2.2.2.2.2.2.2.2.2.2.1; have HS14_ := hs_ hb hHeld.2.2.2.2.2.2.2.2.2.2.2.2.2.2.1; have HS15_ := hs_ hb hHeld.2.2.2.2.2.2.2.2.2.2.2.2.2.2.2.1; have HS16_ := hs_ hb hHeld.2.2.2.2.2.2.2.2.2.2.2.2.2.2.2.2.1; have HS17_ := hs_ hb hHeld.2.2.2.2.2.2.2.2.2.2.2.2.2.2.2.2.2.1; have HS18_ := hs_ hb hHeld.2.2.2.2.2.2.2.2.2.2.2.2.2.2.2.2.2.2.1; have HS19_ := hs_ hb hHeld.2.2.2.2.2.2.2.2.2.2.2.2.2.2.2.2.2.2.2.1; have HS20_ := hs_ hb hHeld.2.2.2.2.2.2.2.2.2.2.2.2.2.2.2.2.2.2.2.2.1; have HS21_ := hs_ hb hHeld.2.2.2.2.2.2.2.2.2.2.2.2.2.2.2.2.2.2.2.2.2.1; have HS22_ := hs_ hb hHeld.2.2.2.2.2.2.2.2.2.2.2.2.2.2.2.2.2.2.2.2.2.2.1; have HS23_ := hs_ hb hHeld.2.2.2.2.2.2.2.2.2.2.2.2.2.2.2.2.2.2.2.2.2.2.2.1; have HS24_ := hs_ hb hHeld.2.2.2.2.2.2.2.2.2.2.2.2.2.2.2.2.2.2.2.2.2.2.2.2.1; have HS25_ := hs_ hb hHeld.2.2.2.2.2.2.2.2.2.2.2.2.2.2.2.2.2.2.2.2.2.2.2.2.2.1; have HS26_ := hs_ hb hHeld.2.2.2.2.2.2.2.2.2.2.2.2.2.2.2.2.2.2.2.2.2.2.2.2.2.2.1; have HS27_ := hs_ hb hHeld.2.2.2.2.2.2.2.2.2.2.2.2.2.2.2.2.2.2.2.2.2.2.2.2.2.2.2.1; have HS28_ := hs_ hb hHeld.2.2.2.2.2.2.2.2.2.2.2.2.2.2.2.2.2.2.2.2.2.2.2.2.2.2.2.2.1; have HS29_ := hs_ hb hHeld.2.2.2.2.2.2.2.2.2.2.2.2.2.2.2.2.2.2.2.2.2.2.2.2.2.2.2.2.2.1; have HS30_ := hs_ hb hHeld.2.2.2.2.2.2.2.2.2.2.2.2.2.2.2.2.2.2.2.2.2.2.2.2.2.2.2.2.2.2.1; have HS31_ := hs_ hb hHeld.2.2.2.2.2.2.2.2.2.2.2.2.2.2.2.2.2.2.2.2.2.2.2.2.2.2.2.2.2.2.2
                     refine ⟨_, rfl, ?_⟩
                     have n0_ := Sb HO_3 hb
                     have n1_ := Rb HL420_5 hb
                     have n2_ := kf BK408 hb
                     have n3_ := kf BK411 hb
                     have n4_ := Cb HR420_5 hb
                     have n5_ := bs HB hb
                     have HL422_5 := Rb HL422_5 hb
                     have HR422_5 := Cb HR422_5 hb
                     clear HO_3
                     clear HL420_5
                     clear BK408
                     clear BK411
                     clear HR420_5
                     clear HB
                     have HO_3 := n0_
                     have HL420_5 := n1_
                     have BK408 := n2_
                     have BK411 := n3_
                     have HR420_5 := n4_
                     have HB := n5_
                     clear n0_ n1_ n2_ n3_ n4_ n5_
                     (try clear hb)
                     (try clear hb2)
                     (try clear hk)
                     (try clear hi)
                     refine hK.out _ _ ⟨(blk_cell BK411.out 0).trans rfl, (blk_cell BK411.out 1).trans rfl, (blk_cell BK408.out 0).trans rfl, (blk_cell BK408.out 1).trans rfl, (blk_cell BK408.out 2).trans rfl, HS5_, HS6_, HS7_, HS8_, HS9_, HS10_, HS11_, HS12_, HS13_, HS14_, HS15_, HS16_, HS17_, HS18_, HS19_, HS20_, HS21_, HS22_, HS23_, HS24_, HS25_, HS26_, HS27_, HS28_, HS29_, HS30_, HS31_⟩ (fun hHeld => ?_)
                     clear hK K
                     refine norm_ (a' := ?_) ?_ ?_
                     rotate_left
                     ·show Act.put _ (some 116) _ = _
                      simp only [Act.put, List.setIfInBounds_toArray, List.set_cons_zero, List.set_cons_succ, i64_w, i32_w]
                      rfl
                     refine pu_ (i := 12) (N := some 117) b8_91 HT_ ?_
                     refine pu_ (i := 13) (N := some 118) b8_90 HT_ ?_
                     refine pu_ (i := 14) (N := some 119) b8_89 HT_ ?_
                     refine pu_ (i := 17) (N := some 122) b8_87 HT_ ?_
                     refine pu_ (i := 18) (N := some 123) b8_85 HT_ ?_
                     refine tk_ (i := 15) (N := some 120) b8_83 rfl rfl HT_ HW_ hHeld ?_
                     refine pu_ (i := 16) (N := some 121) b8_82 HT_ ?_
                     refine tk_ (i := 19) (N := some 124) b8_81 rfl rfl HT_ HW_ hHeld ?_
                     refine pu_ (i := 20) (N := some 125) b8_80 HT_ ?_
                     refine pu_ (i := 21) (N := some 126) b8_79 HT_ ?_
                     refine tk_ (i := 22) (N := some 127) b8_78 rfl rfl HT_ HW_ hHeld ?_
                     refine take_ (i := 23) (N := some 128) (v := ?_) (a' := ?_) b8_77 rfl rfl (take_ofW HT_.out HW_.out KR) (fun _ _ _ h => h) (Or.inl ⟨by rfl, ?_⟩) hHeld ?_ ?_
                     rotate_left
                     ·rintro w' ⟨s0, s1, s2, s3, s4, s5, s6, s7, s8, s9, s10, s11, s12, s13, s14, s15, s16, s17, s18, s19, s20, s21, s22, s23, s24, s25, s26, s27, s28, s29, s30, s31⟩
                      go_simp
                      with_reducible rfl
                     rotate_left
                     ·simp only [Act.put, List.setIfInBounds_toArray, List.set_cons_zero, List.set_cons_succ, i64_w, i32_w]
                      rfl
                     refine one_ (i := 24) (N := some 129) b8_76 rfl rfl (one_of HT_.out KR) (by decide) (fun K hK => ?_)
                     refine goes_ Try.func16 KR rfl #[.agg #[.int .i64 ((rd_T40 t401 t410).f0.f0), .int .i64 ((rd_T40 t401 t410).f0.f1), .int .i64 ((rd_T40 t401 t410).f0.f2)], .agg #[.int .i64 t404, .int .i64 t405, .int .i64 t406]] (by rfl) rfl rfl AR ?_
                     with_reducible refine (impl_DistanceOf.calls ((rd_T40 t401 t410).f0.f0) ((rd_T40 t401 t410).f0.f1) ((rd_T40 t401 t410).f0.f2) t404 t405 t406 t423 _ A93.out).mono ?_
                     rintro e w106 ⟨rfl, hb⟩
                     have HS5_ := hs_ hb hHeld.2.2.2.2.2.1; have HS6_ := hs_ hb hHeld.2.2.2.2.2.2.1; have HS7_ := hs_ hb hHeld.2.2.2.2.2.2.2.1; have HS8_ := hs_ hb hHeld.2.2.2.2.2.2.2.2.1; have HS9_ := hs_ hb hHeld.2.2.2.2.2.2.2.2.2.1; have HS10_ := hs_ hb hHeld.2.2.2.2.2.2.2.2.2.2.1; have HS11_ := hs_ hb hHeld.2.2.2.2.2.2.2.2.2.2.2.1; have HS12_ := hs_ hb hHeld.2.2.2.2.2.2.2.2.2.2.2.2.1; have HS13_ := hs_ hb hHeld.2.2.2.2.2.2.2.2.2.2.2.2.2.1; have HS14_ := hs_ hb hHeld.2.2.2.2.2.2.2.2.2.2.2.2.2.2.1; have HS15_ := hs_ hb hHeld.2.2.2.2.2.2.2.2.2.2.2.2.2.2.2.1; have HS16_ := hs_ hb hHeld.2.2.2.2.2.2.2.2.2.2.2.2.2.2.2.2.1; have HS17_ := hs_ hb hHeld.2.2.2.2.2.2.2.2.2.2.2.2.2.2.2.2.2.1; have HS18_ := hs_ hb hHeld.2.2.2.2.2.2.2.2.2.2.2.2.2.2.2.2.2.2.1; have HS19_ := hs_ hb hHeld.2.2.2.2.2.2.2.2.2.2.2.2.2.2.2.2.2.2.2.1; have HS20_ := hs_ hb hHeld.2.2.2.2.2.2.2.2.2.2.2.2.2.2.2.2.2.2.2.2.1; have HS21_ := hs_ hb hHeld.2.2.2.2.2.2.2.2.2.2.2.2.2.2.2.2.2.2.2.2.2.1; have HS22_ := hs_ hb hHeld.2.2.2.2.2.2.2.2.2.2.2.2.2.2.2.2.2.2.2.2.2.2.1; have HS23_ := hs_ hb hHeld.2.2.2.2.2.2.2.2.2.2.2.2.2.2.2.2.2.2.2.2.2.2.2.1; have HS24_ := hs_ hb hHeld.2.2.2.2.2.2.2.2.2.2.2.2.2.2.2.2.2.2.2.2.2.2.2.2.1; have HS25_ := hs_ hb hHeld.2.2.2.2.2.2.2.2.2.2.2.2.2.2.2.2.2.2.2.2.2.2.2.2.2.1; have HS26_ := hs_ hb hHeld.2.2.2.2.2.2.2.2.2.2.2.2.2.2.2.2.2.2.2.2.2.2.2.2.2.2.1; have HS27_ := hs_ hb hHeld.2.2.2.2.2.2.2.2.2.2.2.2.2.2.2.2.2.2.2.2.2.2.2.2.2.2.2.1; have HS28_ := hs_ hb hHeld.2.2.2.2.2.2.2.2.2.2.2.2.2.2.2.2.2.2.2.2.2.2.2.2.2.2.2.2.1; have HS29_ := hs_ hb hHeld.2.2.2.2.2.2.2.2.2.2.2.2.2.2.2.2.2.2.2.2.2.2.2.2.2.2.2.2.2.1; have HS30_ := hs_ hb hHeld.2.2.2.2.2.2.2.2.2.2.2.2.2.2.2.2.2.2.2.2.2.2.2.2.2.2.2.2.2.2.1; have HS31_ := hs_ hb hHeld.2.2.2.2.2.2.2.2.2.2.2.2.2.2.2.2.2.2.2.2.2.2.2.2.2.2.2.2.2.2.2
                     refine ⟨_, rfl, ?_⟩
                     replace HO_3 := Sb HO_3 hb
                     replace HL420_5 := Rb HL420_5 hb
                     replace HL422_5 := Rb HL422_5 hb
                     replace BK408 := kf BK408 hb
                     replace BK411 := kf BK411 hb
                     replace HR420_5 := Cb HR420_5 hb
                     replace HR422_5 := Cb HR422_5 hb
                     replace HB := bs HB hb
                     (try clear hb)
                     (try clear hb2)
                     (try clear hk)
                     (try clear hi)
                     refine hK.out _ _ ⟨(blk_cell BK411.out 0).trans rfl, (blk_cell BK411.out 1).trans rfl, (blk_cell BK408.out 0).trans rfl, (blk_cell BK408.out 1).trans rfl, (blk_cell BK408.out 2).trans rfl, HS5_, HS6_, HS7_, HS8_, HS9_, HS10_, HS11_, HS12_, HS13_, HS14_, HS15_, HS16_, HS17_, HS18_, HS19_, HS20_, HS21_, HS22_, HS23_, HS24_, HS25_, HS26_, HS27_, HS28_, HS29_, HS30_, HS31_⟩ (fun hHeld => ?_)
                     clear hK K
                     refine norm_ (a' := ?_) ?_ ?_
                     rotate_left
                     ·show Act.put _ (some 129) _ = _
                      simp only [Act.put, List.setIfInBounds_toArray, List.set_cons_zero, List.set_cons_succ, i64_w, i32_w]
                      rfl
                     refine pu_ (i := 25) (N := some 130) b8_75 HT_ ?_
                     refine pu_ (i := 26) (N := some 131) b8_74 HT_ ?_
                     refine pu_ (i := 27) (N := some 132) b8_73 HT_ ?_
                     refine pu_ (i := 28) (N := some 133) b8_72 HT_ ?_
                     refine pu_ (i := 29) (N := some 134) b8_71 HT_ ?_
                     refine tk_ (i := 30) (N := some 135) b8_70 rfl rfl HT_ HW_ hHeld ?_
                     refine pu_ (i := 31) (N := some 136) b8_69 HT_ ?_
                     refine pu_ (i := 32) (N := some 137) b8_68 HT_ ?_
                     refine pu_ (i := 33) (N := some 138) b8_67 HT_ ?_
                     refine pu_ (i := 34) (N := some 139) b8_66 HT_ ?_
                     refine pu_ (i := 39) (N := some 144) b8_64 HT_ ?_
                     refine tk_ (i := 35) (N := some 140) b8_62 rfl rfl HT_ HW_ hHeld ?_
                     refine pu_ (i := 36) (N := some 141) b8_60 HT_ ?_
                     refine pu_ (i := 37) (N := some 142) b8_58 HT_ ?_
                     refine tk_ (i := 38) (N := some 143) b8_57 rfl rfl HT_ HW_ hHeld ?_
                     refine pu_ (i := 40) (N := some 145) b8_56 HT_ ?_
                     refine pu_ (i := 41) (N := some 146) b8_55 HT_ ?_
                     refine pu_ (i := 42) (N := some 147) b8_54 HT_ ?_
                     refine pu_ (i := 43) (N := some 148) b8_53 HT_ ?_
                     refine pu_ (i := 44) (N := some 149) b8_52 HT_ ?_
                     refine tk_ (i := 45) (N := some 150) b8_51 rfl rfl HT_ HW_ hHeld ?_
                     refine pu_ (i := 46) (N := some 151) b8_50 HT_ ?_
                     refine pu_ (i := 47) (N := some 152) b8_49 HT_ ?_
                     refine un_ (i := 48) (N := some 153) b8_48 HT_ ?_
                     refine un_ (i := 49) (N := some 154) b8_47 HT_ ?_
                     refine un_ (i := 50) (N := some 155) b8_46 HT_ ?_
                     refine un_ (i := 51) (N := some 156) b8_44 HT_ ?_
                     refine un_ (i := 52) (N := some 157) b8_42 HT_ ?_
                     refine un_ (i := 53) (N := some 158) b8_40 HT_ ?_
                     refine un_ (i := 54) (N := some 159) b8_38 HT_ ?_
                     refine un_ (i := 55) (N := some 160) b8_37 HT_ ?_
                     refine pu_ (i := 56) (N := some 161) b8_36 HT_ ?_
                     refine pu_ (i := 57) (N := some 162) b8_35 HT_ ?_
                     refine pu_ (i := 58) (N := some 163) b8_34 HT_ ?_
                     refine done_ (done_of HT_.out KR) ?_
                     try go_wp2
                     go_meet
                     case rel => exact ⟨_, (false), (by first | rfl | (simp; done) | (simp [*]; done)), H', ⟨by have := HJ5.out; have := HJ24.out; have := HK3.out; first | omega | exact Nat.le_refl _⟩, ⟨PS HO_3⟩, ⟨PK BK408⟩, ⟨PK BK411⟩, ⟨PB⟩⟩
                  ·rw [if_neg c99] at H
                   have c99b0 : (((rd_T40 t401 t410).f1) == t407) = false := beq_eq_false_iff_ne.mpr c99
                   have c99b1 : (((rd_T40 t401 t410).f1) != t407) = true := bne_iff_ne.mpr c99
                   have H' := Aside0.mk H
                   clear H
                   try go_wp2
                   replace HO_3 := ak (Kd.S_drew HO_3.out)
                   replace BK408 := ak (blk_drew BK408.out)
                   replace BK411 := ak (blk_drew BK411.out)
                   replace HB := ak (below_drew1 HB.out)
                   have p420 : 0 ≤ (t410 : Int) := of_decide_eq_true (by first | (with_reducible assumption) | assumption)
                   have q420 : t410 < (t401.length : Int) := of_decide_eq_true (by first | (with_reducible assumption) | assumption)
                   obtain ⟨ad420, A420_5, c420_5, e420, hx420_0, hx420_1, hx420_2, hx420_3, hx420_4, hx420_5, hx420_6, hx420_7, hx420_8, hl420_5, hi420_5⟩ := at_T40 (Kd.S_reads' HO_3.out).2.2 t410 p420 q420
                   cases e420
                   obtain ⟨ce420, hce420, hMe420, hcc420⟩ := Kd.S_get HO_3.out z40 t410 p420 (by first | exact q420 | exact of_decide_eq_true (by first | (with_reducible assumption) | assumption) | (have e_ := (Kd.S_reads' HO_3.out).1; omega))
                   obtain ⟨ve420_5, rfl, ge420_5⟩ := k40_openM hMe420
                   have hv420_5 := hcc420 5 _ rfl
                   rw [add_field _ _ 5 (by omega)] at hv420_5
                   replace hv420_5 := Option.some.inj (hv420_5.symm.trans hx420_5)
                   rw [hv420_5] at ge420_5
                   have HL420_5 := ak (show Kd.R (Kd.int .i64) 3 _ _ _ _ ((rd_T40 t401 t410).f2.f1) from ge420_5)
                   clear hv420_5 ge420_5
                   clear hcc420 hce420
                   have HR420_5 := Aside0.mk hi420_5
                   have HC420_5 := Aside0.mk hl420_5
                   clear hi420_5 hl420_5
                   replace p420 := eq_true p420
                   replace q420 := eq_true q420
                   have p422 : 0 ≤ (t410 : Int) := of_decide_eq_true (by first | (with_reducible assumption) | assumption)
                   have q422 : t410 < (t401.length : Int) := of_decide_eq_true (by first | (with_reducible assumption) | assumption)
                   obtain ⟨ad422, A422_5, c422_5, e422, hx422_0, hx422_1, hx422_2, hx422_3, hx422_4, hx422_5, hx422_6, hx422_7, hx422_8, hl422_5, hi422_5⟩ := at_T40 (Kd.S_reads' HO_3.out).2.2 t410 p422 q422
                   obtain rfl : ad420 = ad422 := (by injection e422)
                   obtain ⟨rfl, rfl⟩ : A422_5 = A420_5 ∧ c422_5 = c420_5 := by have e_ := Option.some.inj (hx422_5.symm.trans hx420_5); first | (injection e_ with a_ b_ c_; exact ⟨a_, c_⟩) | (injection e_ with a_ c_; exact ⟨a_, c_⟩)
                   obtain ⟨ce422, hce422, hMe422, hcc422⟩ := Kd.S_get HO_3.out z40 t410 p422 (by first | exact q422 | exact of_decide_eq_true (by first | (with_reducible assumption) | assumption) | (have e_ := (Kd.S_reads' HO_3.out).1; omega))
                   obtain ⟨ve422_5, rfl, ge422_5⟩ := k40_openM hMe422
                   have hv422_5 := hcc422 5 _ rfl
                   rw [add_field _ _ 5 (by omega)] at hv422_5
                   replace hv422_5 := Option.some.inj (hv422_5.symm.trans hx422_5)
                   rw [hv422_5] at ge422_5
                   have HL422_5 := ak (show Kd.R (Kd.int .i64) 3 _ _ _ _ ((rd_T40 t401 t410).f2.f1) from ge422_5)
                   clear hv422_5 ge422_5
                   clear hcc422 hce422
                   have HR422_5 := Aside0.mk hi422_5
                   have HC422_5 := Aside0.mk hl422_5
                   clear hi422_5 hl422_5
                   replace p422 := eq_true p422
                   replace q422 := eq_true q422
                   have p424 : 0 ≤ (t410 : Int) := of_decide_eq_true (by first | (with_reducible assumption) | assumption)
                   have q424 : t410 < (t401.length : Int) := of_decide_eq_true (by first | (with_reducible assumption) | assumption)
                   obtain ⟨ad424, A424_5, c424_5, e424, hx424_0, hx424_1, hx424_2, hx424_3, hx424_4, hx424_5, hx424_6, hx424_7, hx424_8, hl424_5, hi424_5⟩ := at_T40 (Kd.S_reads' HO_3.out).2.2 t410 p424 q424
                   obtain rfl : ad420 = ad424 := (by injection e424)
                   obtain ⟨rfl, rfl⟩ : A424_5 = A422_5 ∧ c424_5 = c422_5 := by have e_ := Option.some.inj (hx424_5.symm.trans hx420_5); first | (injection e_ with a_ b_ c_; exact ⟨a_, c_⟩) | (injection e_ with a_ c_; exact ⟨a_, c_⟩)
                   obtain ⟨ce424, hce424, hMe424, hcc424⟩ := Kd.S_get HO_3.out z40 t410 p424 (by first | exact q424 | exact of_decide_eq_true (by first | (with_reducible assumption) | assumption) | (have e_ := (Kd.S_reads' HO_3.out).1; omega))
                   obtain ⟨ve424_5, rfl, ge424_5⟩ := k40_openM hMe424
                   have hv424_5 := hcc424 5 _ rfl
                   rw [add_field _ _ 5 (by omega)] at hv424_5
                   replace hv424_5 := Option.some.inj (hv424_5.symm.trans hx424_5)
                   rw [hv424_5] at ge424_5
                   have HL424_5 := ak (show Kd.R (Kd.int .i64) 3 _ _ _ _ ((rd_T40 t401 t410).f2.f1) from ge424_5)
                   clear hv424_5 ge424_5
                   clear hcc424 hce424
                   have HR424_5 := Aside0.mk hi424_5
                   have HC424_5 := Aside0.mk hl424_5
                   clear hi424_5 hl424_5
                   replace p424 := eq_true p424
                   replace q424 := eq_true q424
                   as_aux_lemma =>
                    refine start_ (n := 59) (S := fun w' => w'.cell? ⟨gb411, 0, none⟩ = some (.int .i64 t409) ∧ w'.cell? ⟨gb411, 1, none⟩ = some (.int .i64 t410) ∧ w'.cell? ⟨gb408, 0, none⟩ = some (.int .i64 t404) ∧ w'.cell? ⟨gb408, 1, none⟩ = some (.int .i64 t405) ∧ w'.cell? ⟨gb408, 2, none⟩ = some (.int .i64 t406) ∧ w'.cell? (ad420.add ((t410).toNat * 9)) = some (.int .i64 ((rd_T40 t401 t410).f0.f0)) ∧ w'.cell? ⟨(ad420.add ((t410).toNat * 9)).block, (ad420.add ((t410).toNat * 9)).off + 1, none⟩ = some (.int .i64 ((rd_T40 t401 t410).f0.f1)) ∧ w'.cell? ⟨(ad420.add ((t410).toNat * 9)).block, (ad420.add ((t410).toNat * 9)).off + 2, none⟩ = some (.int .i64 ((rd_T40 t401 t410).f0.f2)) ∧ w'.cell? ⟨(ad420.add ((t410).toNat * 9)).block, (ad420.add ((t410).toNat * 9)).off + 3, none⟩ = some (.int .i64 ((rd_T40 t401 t410).f1)) ∧ w'.cell? ⟨(ad420.add ((t410).toNat * 9)).block, (ad420.add ((t410).toNat * 9)).off + 4, none⟩ = some (.int .i64 ((rd_T40 t401 t410).f2.f0)) ∧ w'.cell? ⟨(ad420.add ((t410).toNat * 9)).block, (ad420.add ((t410).toNat * 9)).off + 5, none⟩ = some (.slice A424_5 ((rd_T40 t401 t410).f2.f1).length c424_5) ∧ w'.cell? ⟨(ad420.add ((t410).toNat * 9)).block, (ad420.add ((t410).toNat * 9)).off + 6, none⟩ = some (.int .i64 ((rd_T40 t401 t410).f2.f2.f0)) ∧ w'.cell? ⟨(ad420.add ((t410).toNat * 9)).block, (ad420.add ((t410).toNat * 9)).off + 7, none⟩ = some (.int .i64 ((rd_T40 t401 t410).f2.f2.f1)) ∧ w'.cell? ⟨(ad420.add ((t410).toNat * 9)).block, (ad420.add ((t410).toNat * 9)).off + 8, none⟩ = some (.int .i64 ((rd_T40 t401 t410).f2.f2.f2)) ∧ w'.cell? (ad420.add ((t410).toNat * 9)) = some (.int .i64 ((rd_T40 t401 t410).f0.f0)) ∧ w'.cell? ⟨(ad420.add ((t410).toNat * 9)).block, (ad420.add ((t410).toNat * 9)).off + 1, none⟩ = some (.int .i64 ((rd_T40 t401 t410).f0.f1)) ∧ w'.cell? ⟨(ad420.add ((t410).toNat * 9)).block, (ad420.add ((t410).toNat * 9)).off + 2, none⟩ = some (.int .i64 ((rd_T40 t401 t410).f0.f2)) ∧ w'.cell? ⟨(ad420.add ((t410).toNat * 9)).block, (ad420.add ((t410).toNat * 9)).off + 3, none⟩ = some (.int .i64 ((rd_T40 t401 t410).f1)) ∧ w'.cell? ⟨(ad420.add ((t410).toNat * 9)).block, (ad420.add ((t410).toNat * 9)).off + 4, none⟩ = some (.int .i64 ((rd_T40 t401 t410).f2.f0)) ∧ w'.cell? ⟨(ad420.add ((t410).toNat * 9)).block, (ad420.add ((t410).toNat * 9)).off + 5, none⟩ = some (.slice A424_5 ((rd_T40 t401 t410).f2.f1).length c424_5) ∧ w'.cell? ⟨(ad420.add ((t410).toNat * 9)).block, (ad420.add ((t410).toNat * 9)).off + 6, none⟩ = some (.int .i64 ((rd_T40 t401 t410).f2.f2.f0)) ∧ w'.cell? ⟨(ad420.add ((t410).toNat * 9)).block, (ad420.add ((t410).toNat * 9)).off + 7, none⟩ = some (.int .i64 ((rd_T40 t401 t410).f2.f2.f1)) ∧ w'.cell? ⟨(ad420.add ((t410).toNat * 9)).block, (ad420.add ((t410).toNat * 9)).off + 8, none⟩ = some (.int .i64 ((rd_T40 t401 t410).f2.f2.f2)) ∧ w'.cell? (ad420.add ((t410).toNat * 9)) = some (.int .i64 ((rd_T40 t401 t410).f0.f0)) ∧ w'.cell? ⟨(ad420.add ((t410).toNat * 9)).block, (ad420.add ((t410).toNat * 9)).off + 1, none⟩ = some (.int .i64 ((rd_T40 t401 t410).f0.f1)) ∧ w'.cell? ⟨(ad420.add ((t410).toNat * 9)).block, (ad420.add ((t410).toNat * 9)).off + 2, none⟩ = some (.int .i64 ((rd_T40 t401 t410).f0.f2)) ∧ w'.cell? ⟨(ad420.add ((t410).toNat * 9)).block, (ad420.add ((t410).toNat * 9)).off + 3, none⟩ = some (.int .i64 ((rd_T40 t401 t410).f1)) ∧ w'.cell? ⟨(ad420.add ((t410).toNat * 9)).block, (ad420.add ((t410).toNat * 9)).off + 4, none⟩ = some (.int .i64 ((rd_T40 t401 t410).f2.f0)) ∧ w'.cell? ⟨(ad420.add ((t410).toNat * 9)).block, (ad420.add ((t410).toNat * 9)).off + 5, none⟩ = some (.slice A424_5 ((rd_T40 t401 t410).f2.f1).length c424_5) ∧ w'.cell? ⟨(ad420.add ((t410).toNat * 9)).block, (ad420.add ((t410).toNat * 9)).off + 6, none⟩ = some (.int .i64 ((rd_T40 t401 t410).f2.f2.f0)) ∧ w'.cell? ⟨(ad420.add ((t410).toNat * 9)).block, (ad420.add ((t410).toNat * 9)).off + 7, none⟩ = some (.int .i64 ((rd_T40 t401 t410).f2.f2.f1)) ∧ w'.cell? ⟨(ad420.add ((t410).toNat * 9)).block, (ad420.add ((t410).toNat * 9)).off + 8, none⟩ = some (.int .i64 ((rd_T40 t401 t410).f2.f2.f2))) (ds := []) b8_104 KR rfl rfl ⟨(blk_cell BK411.out 0).trans rfl, (blk_cell BK411.out 1).trans rfl, (blk_cell BK408.out 0).trans rfl, (blk_cell BK408.out 1).trans rfl, (blk_cell BK408.out 2).trans rfl, hx420_0, hx420_1, hx420_2, hx420_3, hx420_4, hx420_5, hx420_6, hx420_7, hx420_8, hx422_0, hx422_1, hx422_2, hx422_3, hx422_4, hx422_5, hx422_6, hx422_7, hx422_8, hx424_0, hx424_1, hx424_2, hx424_3, hx424_4, hx424_5, hx424_6, hx424_7, hx424_8⟩ (fun hHeld => ?_); refine with_tabW laws_FnNearest.tab19 laws_FnNearest.bits19 (fun HT_ HW_ => ?_)
                    generalize wr.drew = w107 at HO_3 BK408 BK411 HB HL420_5 HL422_5 HL424_5 HR420_5 HR422_5 HR424_5 hx420_0 hx420_1 hx420_2 hx420_3 hx420_4 hx420_5 hx420_6 hx420_7 hx420_8 hx422_0 hx422_1 hx422_2 hx422_3 hx422_4 hx422_5 hx422_6 hx422_7 hx422_8 hx424_0 hx424_1 hx424_2 hx424_3 hx424_4 hx424_5 hx424_6 hx424_7 hx424_8 hHeld ⊢
                    refine pu_ (i := 0) (N := some 105) b8_103 HT_ ?_
                    refine tk_ (i := 1) (N := some 106) b8_102 rfl rfl HT_ HW_ hHeld ?_
                    refine pu_ (i := 2) (N := some 107) b8_101 HT_ ?_
                    refine pu_ (i := 3) (N := some 108) b8_100 HT_ ?_
                    refine pu_ (i := 4) (N := some 109) b8_99 HT_ ?_
                    refine pu_ (i := 5) (N := some 110) b8_98 HT_ ?_
                    refine tk_ (i := 6) (N := some 111) b8_97 rfl rfl HT_ HW_ hHeld ?_
                    refine pu_ (i := 7) (N := some 112) b8_96 HT_ ?_
                    refine pu_ (i := 8) (N := some 113) b8_95 HT_ ?_
                    refine tk_ (i := 9) (N := some 114) b8_94 rfl rfl HT_ HW_ hHeld ?_
                    refine take_ (i := 10) (N := some 115) (v := ?_) (a' := ?_) b8_93 rfl rfl (take_ofW HT_.out HW_.out KR) (fun _ _ _ h => h) (Or.inl ⟨by rfl, ?_⟩) hHeld ?_ ?_
                    rotate_left
                    ·rintro w' ⟨s0, s1, s2, s3, s4, s5, s6, s7, s8, s9, s10, s11, s12, s13, s14, s15, s16, s17, s18, s19, s20, s21, s22, s23, s24, s25, s26, s27, s28, s29, s30, s31⟩
                     go_simp
                     with_reducible rfl
                    rotate_left
                    ·simp only [Act.put, List.setIfInBounds_toArray, List.set_cons_zero, List.set_cons_succ, i64_w, i32_w]
                     rfl
                    refine one_ (i := 11) (N := some 116) b8_92 rfl rfl (one_of HT_.out KR) (by decide) (fun K hK => ?_)
                    refine goes_ Try.func16 KR rfl #[.agg #[.int .i64 ((rd_T40 t401 t410).f0.f0), .int .i64 ((rd_T40 t401 t410).f0.f1), .int .i64 ((rd_T40 t401 t410).f0.f2)], .agg #[.int .i64 t404, .int .i64 t405, .int .i64 t406]] (by rfl) rfl rfl AR ?_
                    with_reducible refine (impl_DistanceOf.calls ((rd_T40 t401 t410).f0.f0) ((rd_T40 t401 t410).f0.f1) ((rd_T40 t401 t410).f0.f2) t404 t405 t406 t421 _ A89.out).mono ?_
                    rintro e w108 ⟨rfl, hb⟩
                    have HS5_ := hs_ hb hHeld.2.2.2.2.2.1; have HS6_ := hs_ hb hHeld.2.2.2.2.2.2.1; have HS7_ := hs_ hb hHeld.2.2.2.2.2.2.2.1; have HS8_ := hs_ hb hHeld.2.2.2.2.2.2.2.2.1; have HS9_ := hs_ hb hHeld.2.2.2.2.2.2.2.2.2.1; have HS10_ := hs_ hb hHeld.2.2.2.2.2.2.2.2.2.2.1; have HS11_ := hs_ hb hHeld.2.2.2.2.2.2.2.2.2.2.2.1; have HS12_ := hs_ hb hHeld.2.2.2.2.2.2.2.2.2.2.2.2.1; have HS13_ := hs_ hb hHeld.2.2.2.2.2.2.2.2.2.2.2.2.2.1; have HS14_ := hs_ hb hHeld.2.2.2.2.2.2.2.2.2.2.2.2.2.2.1; have HS15_ := hs_ hb hHeld.2.2.2.2.2.2.2.2.2.2.2.2.2.2.2.1; have HS16_ := hs_ hb hHeld.2.2.2.2.2.2.2.2.2.2.2.2.2.2.2.2.1; have HS17_ := hs_ hb hHeld.2.2.2.2.2.2.2.2.2.2.2.2.2.2.2.2.2.1; have HS18_ := hs_ hb hHeld.2.2.2.2.2.2.2.2.2.2.2.2.2.2.2.2.2.2.1; have HS19_ := hs_ hb hHeld.2.2.2.2.2.2.2.2.2.2.2.2.2.2.2.2.2.2.2.1; have HS20_ := hs_ hb hHeld.2.2.2.2.2.2.2.2.2.2.2.2.2.2.2.2.2.2.2.2.1; have HS21_ := hs_ hb hHeld.2.2.2.2.2.2.2.2.2.2.2.2.2.2.2.2.2.2.2.2.2.1; have HS22_ := hs_ hb hHeld.2.2.2.2.2.2.2.2.2.2.2.2.2.2.2.2.2.2.2.2.2.2.1; have HS23_ := hs_ hb hHeld.2.2.2.2.2.2.2.2.2.2.2.2.2.2.2.2.2.2.2.2.2.2.2.1; have HS24_ := hs_ hb hHeld.2.2.2.2.2.2.2.2.2.2.2.2.2.2.2.2.2.2.2.2.2.2.2.2.1; have HS25_ := hs_ hb hHeld.2.2.2.2.2.2.2.2.2.2.2.2.2.2.2.2.2.2.2.2.2.2.2.2.2.1; have HS26_ := hs_ hb hHeld.2.2.2.2.2.2.2.2.2.2.2.2.2.2.2.2.2.2.2.2.2.2.2.2.2.2.1; have HS27_ := hs_ hb hHeld.2.2.2.2.2.2.2.2.2.2.2.2.2.2.2.2.2.2.2.2.2.2.2.2.2.2.2.1; have HS28_ := hs_ hb hHeld.2.2.2.2.2.2.2.2.2.2.2.2.2.2.2.2.2.2.2.2.2.2.2.2.2.2.2.2.1; have HS29_ := hs_ hb hHeld.2.2.2.2.2.2.2.2.2.2.2.2.2.2.2.2.2.2.2.2.2.2.2.2.2.2.2.2.2.1; have HS30_ := hs_ hb hHeld.2.2.2.2.2.2.2.2.2.2.2.2.2.2.2.2.2.2.2.2.2.2.2.2.2.2.2.2.2.2.1; have HS31_ := hs_ hb hHeld.2.2.2.2.2.2.2.2.2.2.2.2.2.2.2.2.2.2.2.2.2.2.2.2.2.2.2.2.2.2.2
                    refine ⟨_, rfl, ?_⟩
                    have n0_ := Sb HO_3 hb
                    have n1_ := Rb HL420_5 hb
                    have n2_ := kf BK408 hb
                    have n3_ := kf BK411 hb
                    have n4_ := Cb HR420_5 hb
                    have n5_ := bs HB hb
                    have HL422_5 := Rb HL422_5 hb
                    have HR422_5 := Cb HR422_5 hb
                    clear HO_3
                    clear HL420_5
                    clear BK408
                    clear BK411
                    clear HR420_5
                    clear HB
                    have HO_3 := n0_
                    have HL420_5 := n1_
                    have BK408 := n2_
                    have BK411 := n3_
                    have HR420_5 := n4_
                    have HB := n5_
                    clear n0_ n1_ n2_ n3_ n4_ n5_
                    (try clear hb)
                    (try clear hb2)
                    (try clear hk)
                    (try clear hi)
                    refine hK.out _ _ ⟨(blk_cell BK411.out 0).trans rfl, (blk_cell BK411.out 1).trans rfl, (blk_cell BK408.out 0).trans rfl, (blk_cell BK408.out 1).trans rfl, (blk_cell BK408.out 2).trans rfl, HS5_, HS6_, HS7_, HS8_, HS9_, HS10_, HS11_, HS12_, HS13_, HS14_, HS15_, HS16_, HS17_, HS18_, HS19_, HS20_, HS21_, HS22_, HS23_, HS24_, HS25_, HS26_, HS27_, HS28_, HS29_, HS30_, HS31_⟩ (fun hHeld => ?_)
                    clear hK K
                    refine norm_ (a' := ?_) ?_ ?_
                    rotate_left
                    ·show Act.put _ (some 116) _ = _
                     simp only [Act.put, List.setIfInBounds_toArray, List.set_cons_zero, List.set_cons_succ, i64_w, i32_w]
                     rfl
                    refine pu_ (i := 12) (N := some 117) b8_91 HT_ ?_
                    refine pu_ (i := 13) (N := some 118) b8_90 HT_ ?_
                    refine pu_ (i := 14) (N := some 119) b8_89 HT_ ?_
                    refine pu_ (i := 17) (N := some 122) b8_87 HT_ ?_
                    refine pu_ (i := 18) (N := some 123) b8_85 HT_ ?_
                    refine tk_ (i := 15) (N := some 120) b8_83 rfl rfl HT_ HW_ hHeld ?_
                    refine pu_ (i := 16) (N := some 121) b8_82 HT_ ?_
                    refine tk_ (i := 19) (N := some 124) b8_81 rfl rfl HT_ HW_ hHeld ?_
                    refine pu_ (i := 20) (N := some 125) b8_80 HT_ ?_
                    refine pu_ (i := 21) (N := some 126) b8_79 HT_ ?_
                    refine tk_ (i := 22) (N := some 127) b8_78 rfl rfl HT_ HW_ hHeld ?_
                    refine take_ (i := 23) (N := some 128) (v := ?_) (a' := ?_) b8_77 rfl rfl (take_ofW HT_.out HW_.out KR) (fun _ _ _ h => h) (Or.inl ⟨by rfl, ?_⟩) hHeld ?_ ?_
                    rotate_left
                    ·rintro w' ⟨s0, s1, s2, s3, s4, s5, s6, s7, s8, s9, s10, s11, s12, s13, s14, s15, s16, s17, s18, s19, s20, s21, s22, s23, s24, s25, s26, s27, s28, s29, s30, s31⟩
                     go_simp
                     with_reducible rfl
                    rotate_left
                    ·simp only [Act.put, List.setIfInBounds_toArray, List.set_cons_zero, List.set_cons_succ, i64_w, i32_w]
                     rfl
                    refine one_ (i := 24) (N := some 129) b8_76 rfl rfl (one_of HT_.out KR) (by decide) (fun K hK => ?_)
                    refine goes_ Try.func16 KR rfl #[.agg #[.int .i64 ((rd_T40 t401 t410).f0.f0), .int .i64 ((rd_T40 t401 t410).f0.f1), .int .i64 ((rd_T40 t401 t410).f0.f2)], .agg #[.int .i64 t404, .int .i64 t405, .int .i64 t406]] (by rfl) rfl rfl AR ?_
                    with_reducible refine (impl_DistanceOf.calls ((rd_T40 t401 t410).f0.f0) ((rd_T40 t401 t410).f0.f1) ((rd_T40 t401 t410).f0.f2) t404 t405 t406 t423 _ A93.out).mono ?_
                    rintro e w109 ⟨rfl, hb⟩
                    have HS5_ := hs_ hb hHeld.2.2.2.2.2.1; have HS6_ := hs_ hb hHeld.2.2.2.2.2.2.1; have HS7_ := hs_ hb hHeld.2.2.2.2.2.2.2.1; have HS8_ := hs_ hb hHeld.2.2.2.2.2.2.2.2.1; have HS9_ := hs_ hb hHeld.2.2.2.2.2.2.2.2.2.1; have HS10_ := hs_ hb hHeld.2.2.2.2.2.2.2.2.2.2.1; have HS11_ := hs_ hb hHeld.2.2.2.2.2.2.2.2.2.2.2.1; have HS12_ := hs_ hb hHeld.2.2.2.2.2.2.2.2.2.2.2.2.1; have HS13_ := hs_ hb hHeld.2.2.2.2.2.2.2.2.2.2.2.2.2.1; have HS14_ := hs_ hb hHeld.2.2.2.2.2.2.2.2.2.2.2.2.2.2.1; have HS15_ := hs_ hb hHeld.2.2.2.2.2.2.2.2.2.2.2.2.2.2.2.1; have HS16_ := hs_ hb hHeld.2.2.2.2.2.2.2.2.2.2.2.2.2.2.2.2.1; have HS17_ := hs_ hb hHeld.2.2.2.2.2.2.2.2.2.2.2.2.2.2.2.2.2.1; have HS18_ := hs_ hb hHeld.2.2.2.2.2.2.2.2.2.2.2.2.2.2.2.2.2.2.1; have HS19_ := hs_ hb hHeld.2.2.2.2.2.2.2.2.2.2.2.2.2.2.2.2.2.2.2.1; have HS20_ := hs_ hb hHeld.2.2.2.2.2.2.2.2.2.2.2.2.2.2.2.2.2.2.2.2.1; have HS21_ := hs_ hb hHeld.2.2.2.2.2.2.2.2.2.2.2.2.2.2.2.2.2.2.2.2.2.1; have HS22_ := hs_ hb hHeld.2.2.2.2.2.2.2.2.2.2.2.2.2.2.2.2.2.2.2.2.2.2.1; have HS23_ := hs_ hb hHeld.2.2.2.2.2.2.2.2.2.2.2.2.2.2.2.2.2.2.2.2.2.2.2.1; have HS24_ := hs_ hb hHeld.2.2.2.2.2.2.2.2.2.2.2.2.2.2.2.2.2.2.2.2.2.2.2.2.1; have HS25_ := hs_ hb hHeld.2.2.2.2.2.2.2.2.2.2.2.2.2.2.2.2.2.2.2.2.2.2.2.2.2.1; have HS26_ := hs_ hb hHeld.2.2.2.2.2.2.2.2.2.2.2.2.2.2.2.2.2.2.2.2.2.2.2.2.2.2.1; have HS27_ := hs_ hb hHeld.2.2.2.2.2.2.2.2.2.2.2.2.2.2.2.2.2.2.2.2.2.2.2.2.2.2.2.1; have HS28_ := hs_ hb hHeld.2.2.2.2.2.2.2.2.2.2.2.2.2.2.2.2.2.2.2.2.2.2.2.2.2.2.2.2.1; have HS29_ := hs_ hb hHeld.2.2.2.2.2.2.2.2.2.2.2.2.2.2.2.2.2.2.2.2.2.2.2.2.2.2.2.2.2.1; have HS30_ := hs_ hb hHeld.2.2.2.2.2.2.2.2.2.2.2.2.2.2.2.2.2.2.2.2.2.2.2.2.2.2.2.2.2.2.1; have HS31_ := hs_ hb hHeld.2.2.2.2.2.2.2.2.2.2.2.2.2.2.2.2.2.2.2.2.2.2.2.2.2.2.2.2.2.2.2
                    refine ⟨_, rfl, ?_⟩
                    replace HO_3 := Sb HO_3 hb
                    replace HL420_5 := Rb HL420_5 hb
                    replace HL422_5 := Rb HL422_5 hb
                    replace BK408 := kf BK408 hb
                    replace BK411 := kf BK411 hb
                    replace HR420_5 := Cb HR420_5 hb
                    replace HR422_5 := Cb HR422_5 hb
                    replace HB := bs HB hb
                    (try clear hb)
                    (try clear hb2)
                    (try clear hk)
                    (try clear hi)
                    refine hK.out _ _ ⟨(blk_cell BK411.out 0).trans rfl, (blk_cell BK411.out 1).trans rfl, (blk_cell BK408.out 0).trans rfl, (blk_cell BK408.out 1).trans rfl, (blk_cell BK408.out 2).trans rfl, HS5_, HS6_, HS7_, HS8_, HS9_, HS10_, HS11_, HS12_, HS13_, HS14_, HS15_, HS16_, HS17_, HS18_, HS19_, HS20_, HS21_, HS22_, HS23_, HS24_, HS25_, HS26_, HS27_, HS28_, HS29_, HS30_, HS31_⟩ (fun hHeld => ?_)
                    clear hK K
                    refine norm_ (a' := ?_) ?_ ?_
                    rotate_left
                    ·show Act.put _ (some 129) _ = _
                     simp only [Act.put, List.setIfInBounds_toArray, List.set_cons_zero, List.set_cons_succ, i64_w, i32_w]
                     rfl
                    refine pu_ (i := 25) (N := some 130) b8_75 HT_ ?_
                    refine pu_ (i := 26) (N := some 131) b8_74 HT_ ?_
                    refine pu_ (i := 27) (N := some 132) b8_73 HT_ ?_
                    refine pu_ (i := 28) (N := some 133) b8_72 HT_ ?_
                    refine pu_ (i := 29) (N := some 134) b8_71 HT_ ?_
                    refine tk_ (i := 30) (N := some 135) b8_70 rfl rfl HT_ HW_ hHeld ?_
                    refine pu_ (i := 31) (N := some 136) b8_69 HT_ ?_
                    refine pu_ (i := 32) (N := some 137) b8_68 HT_ ?_
                    refine pu_ (i := 33) (N := some 138) b8_67 HT_ ?_
                    refine pu_ (i := 34) (N := some 139) b8_66 HT_ ?_
                    refine pu_ (i := 39) (N := some 144) b8_64 HT_ ?_
                    refine tk_ (i := 35) (N := some 140) b8_62 rfl rfl HT_ HW_ hHeld ?_
                    refine pu_ (i := 36) (N := some 141) b8_60 HT_ ?_
                    refine pu_ (i := 37) (N := some 142) b8_58 HT_ ?_
                    refine tk_ (i := 38) (N := some 143) b8_57 rfl rfl HT_ HW_ hHeld ?_
                    refine pu_ (i := 40) (N := some 145) b8_56 HT_ ?_
                    refine pu_ (i := 41) (N := some 146) b8_55 HT_ ?_
                    refine pu_ (i := 42) (N := some 147) b8_54 HT_ ?_
                    refine pu_ (i := 43) (N := some 148) b8_53 HT_ ?_
                    refine un_ (i := 44) (N := some 149) b8_52 HT_ ?_
                    refine un_ (i := 45) (N := some 150) b8_51 HT_ ?_
                    refine un_ (i := 46) (N := some 151) b8_50 HT_ ?_
                    refine un_ (i := 47) (N := some 152) b8_49 HT_ ?_
                    refine un_ (i := 48) (N := some 153) b8_48 HT_ ?_
                    refine un_ (i := 49) (N := some 154) b8_47 HT_ ?_
                    refine un_ (i := 50) (N := some 155) b8_46 HT_ ?_
                    refine un_ (i := 51) (N := some 156) b8_44 HT_ ?_
                    refine un_ (i := 52) (N := some 157) b8_42 HT_ ?_
                    refine un_ (i := 53) (N := some 158) b8_40 HT_ ?_
                    refine un_ (i := 54) (N := some 159) b8_38 HT_ ?_
                    refine un_ (i := 55) (N := some 160) b8_37 HT_ ?_
                    refine un_ (i := 56) (N := some 161) b8_36 HT_ ?_
                    refine pu_ (i := 57) (N := some 162) b8_35 HT_ ?_
                    refine pu_ (i := 58) (N := some 163) b8_34 HT_ ?_
                    refine done_ (done_of HT_.out KR) ?_
                    try go_wp2
                    go_meet
                    case rel => exact ⟨_, (true), (by first | rfl | (simp; done) | (simp [*]; done)), H', ⟨by have := HJ5.out; have := HJ24.out; have := HK3.out; first | omega | exact Nat.le_refl _⟩, ⟨PS HO_3⟩, ⟨PK BK408⟩, ⟨PK BK411⟩, ⟨PB⟩⟩
                 ·rw [if_neg c98] at H
                  have c98b0 : (t409 == 0) = false := beq_eq_false_iff_ne.mpr c98
                  have c98b1 : (t409 != 0) = true := bne_iff_ne.mpr c98
                  by_cases c110 : t409 = 1
                  ·rw [if_pos c110] at H
                   have c110b0 : (t409 == 1) = true := beq_iff_eq.mpr c110
                   have c110b1 : (t409 != 1) = false := bne_eq_false_iff_eq.mpr c110
                   clear c110
                   have H' := Aside0.mk H
                   clear H
                   try go_wp2
                   replace HO_3 := ak (Kd.S_drew HO_3.out)
                   replace BK408 := ak (blk_drew BK408.out)
                   replace BK411 := ak (blk_drew BK411.out)
                   replace HB := ak (below_drew1 HB.out)
                   have p420 : 0 ≤ (t410 : Int) := of_decide_eq_true (by first | (with_reducible assumption) | assumption)
                   have q420 : t410 < (t401.length : Int) := of_decide_eq_true (by first | (with_reducible assumption) | assumption)
                   obtain ⟨ad420, A420_5, c420_5, e420, hx420_0, hx420_1, hx420_2, hx420_3, hx420_4, hx420_5, hx420_6, hx420_7, hx420_8, hl420_5, hi420_5⟩ := at_T40 (Kd.S_reads' HO_3.out).2.2 t410 p420 q420
                   cases e420
                   obtain ⟨ce420, hce420, hMe420, hcc420⟩ := Kd.S_get HO_3.out z40 t410 p420 (by first | exact q420 | exact of_decide_eq_true (by first | (with_reducible assumption) | assumption) | (have e_ := (Kd.S_reads' HO_3.out).1; omega))
                   obtain ⟨ve420_5, rfl, ge420_5⟩ := k40_openM hMe420
                   have hv420_5 := hcc420 5 _ rfl
                   rw [add_field _ _ 5 (by omega)] at hv420_5
                   replace hv420_5 := Option.some.inj (hv420_5.symm.trans hx420_5)
                   rw [hv420_5] at ge420_5
                   have HL420_5 := ak (show Kd.R (Kd.int .i64) 3 _ _ _ _ ((rd_T40 t401 t410).f2.f1) from ge420_5)
                   clear hv420_5 ge420_5
                   clear hcc420 hce420
                   have HR420_5 := Aside0.mk hi420_5
                   have HC420_5 := Aside0.mk hl420_5
                   clear hi420_5 hl420_5
                   replace p420 := eq_true p420
                   replace q420 := eq_true q420
                   have p422 : 0 ≤ (t410 : Int) := of_decide_eq_true (by first | (with_reducible assumption) | assumption)
                   have q422 : t410 < (t401.length : Int) := of_decide_eq_true (by first | (with_reducible assumption) | assumption)
                   obtain ⟨ad422, A422_5, c422_5, e422, hx422_0, hx422_1, hx422_2, hx422_3, hx422_4, hx422_5, hx422_6, hx422_7, hx422_8, hl422_5, hi422_5⟩ := at_T40 (Kd.S_reads' HO_3.out).2.2 t410 p422 q422
                   obtain rfl : ad420 = ad422 := (by injection e422)
                   obtain ⟨rfl, rfl⟩ : A422_5 = A420_5 ∧ c422_5 = c420_5 := by have e_ := Option.some.inj (hx422_5.symm.trans hx420_5); first | (injection e_ with a_ b_ c_; exact ⟨a_, c_⟩) | (injection e_ with a_ c_; exact ⟨a_, c_⟩)
                   obtain ⟨ce422, hce422, hMe422, hcc422⟩ := Kd.S_get HO_3.out z40 t410 p422 (by first | exact q422 | exact of_decide_eq_true (by first | (with_reducible assumption) | assumption) | (have e_ := (Kd.S_reads' HO_3.out).1; omega))
                   obtain ⟨ve422_5, rfl, ge422_5⟩ := k40_openM hMe422
                   have hv422_5 := hcc422 5 _ rfl
                   rw [add_field _ _ 5 (by omega)] at hv422_5
                   replace hv422_5 := Option.some.inj (hv422_5.symm.trans hx422_5)
                   rw [hv422_5] at ge422_5
                   have HL422_5 := ak (show Kd.R (Kd.int .i64) 3 _ _ _ _ ((rd_T40 t401 t410).f2.f1) from ge422_5)
                   clear hv422_5 ge422_5
                   clear hcc422 hce422
                   have HR422_5 := Aside0.mk hi422_5
                   have HC422_5 := Aside0.mk hl422_5
                   clear hi422_5 hl422_5
                   replace p422 := eq_true p422
                   replace q422 := eq_true q422
                   have p426 : 0 ≤ (t410 : Int) := of_decide_eq_true (by first | (with_reducible assumption) | assumption)
                   have q426 : t410 < (t401.length : Int) := of_decide_eq_true (by first | (with_reducible assumption) | assumption)
                   obtain ⟨ad426, A426_5, c426_5, e426, hx426_0, hx426_1, hx426_2, hx426_3, hx426_4, hx426_5, hx426_6, hx426_7, hx426_8, hl426_5, hi426_5⟩ := at_T40 (Kd.S_reads' HO_3.out).2.2 t410 p426 q426
                   obtain rfl : ad420 = ad426 := (by injection e426)
                   obtain ⟨rfl, rfl⟩ : A426_5 = A422_5 ∧ c426_5 = c422_5 := by have e_ := Option.some.inj (hx426_5.symm.trans hx420_5); first | (injection e_ with a_ b_ c_; exact ⟨a_, c_⟩) | (injection e_ with a_ c_; exact ⟨a_, c_⟩)
                   obtain ⟨ce426, hce426, hMe426, hcc426⟩ := Kd.S_get HO_3.out z40 t410 p426 (by first | exact q426 | exact of_decide_eq_true (by first | (with_reducible assumption) | assumption) | (have e_ := (Kd.S_reads' HO_3.out).1; omega))
                   obtain ⟨ve426_5, rfl, ge426_5⟩ := k40_openM hMe426
                   have hv426_5 := hcc426 5 _ rfl
                   rw [add_field _ _ 5 (by omega)] at hv426_5
                   replace hv426_5 := Option.some.inj (hv426_5.symm.trans hx426_5)
                   rw [hv426_5] at ge426_5
                   have HL426_5 := ak (show Kd.R (Kd.int .i64) 3 _ _ _ _ ((rd_T40 t401 t410).f2.f1) from ge426_5)
                   clear hv426_5 ge426_5
                   clear hcc426 hce426
                   have HR426_5 := Aside0.mk hi426_5
                   have HC426_5 := Aside0.mk hl426_5
                   clear hi426_5 hl426_5
                   replace p426 := eq_true p426
                   replace q426 := eq_true q426
                   as_aux_lemma =>
                    refine start_ (n := 59) (S := fun w' => w'.cell? ⟨gb411, 0, none⟩ = some (.int .i64 t409) ∧ w'.cell? ⟨gb411, 1, none⟩ = some (.int .i64 t410) ∧ w'.cell? ⟨gb408, 0, none⟩ = some (.int .i64 t404) ∧ w'.cell? ⟨gb408, 1, none⟩ = some (.int .i64 t405) ∧ w'.cell? ⟨gb408, 2, none⟩ = some (.int .i64 t406) ∧ w'.cell? (ad420.add ((t410).toNat * 9)) = some (.int .i64 ((rd_T40 t401 t410).f0.f0)) ∧ w'.cell? ⟨(ad420.add ((t410).toNat * 9)).block, (ad420.add ((t410).toNat * 9)).off + 1, none⟩ = some (.int .i64 ((rd_T40 t401 t410).f0.f1)) ∧ w'.cell? ⟨(ad420.add ((t410).toNat * 9)).block, (ad420.add ((t410).toNat * 9)).off + 2, none⟩ = some (.int .i64 ((rd_T40 t401 t410).f0.f2)) ∧ w'.cell? ⟨(ad420.add ((t410).toNat * 9)).block, (ad420.add ((t410).toNat * 9)).off + 3, none⟩ = some (.int .i64 ((rd_T40 t401 t410).f1)) ∧ w'.cell? ⟨(ad420.add ((t410).toNat * 9)).block, (ad420.add ((t410).toNat * 9)).off + 4, none⟩ = some (.int .i64 ((rd_T40 t401 t410).f2.f0)) ∧ w'.cell? ⟨(ad420.add ((t410).toNat * 9)).block, (ad420.add ((t410).toNat * 9)).off + 5, none⟩ = some (.slice A426_5 ((rd_T40 t401 t410).f2.f1).length c426_5) ∧ w'.cell? ⟨(ad420.add ((t410).toNat * 9)).block, (ad420.add ((t410).toNat * 9)).off + 6, none⟩ = some (.int .i64 ((rd_T40 t401 t410).f2.f2.f0)) ∧ w'.cell? ⟨(ad420.add ((t410).toNat * 9)).block, (ad420.add ((t410).toNat * 9)).off + 7, none⟩ = some (.int .i64 ((rd_T40 t401 t410).f2.f2.f1)) ∧ w'.cell? ⟨(ad420.add ((t410).toNat * 9)).block, (ad420.add ((t410).toNat * 9)).off + 8, none⟩ = some (.int .i64 ((rd_T40 t401 t410).f2.f2.f2)) ∧ w'.cell? (ad420.add ((t410).toNat * 9)) = some (.int .i64 ((rd_T40 t401 t410).f0.f0)) ∧ w'.cell? ⟨(ad420.add ((t410).toNat * 9)).block, (ad420.add ((t410).toNat * 9)).off + 1, none⟩ = some (.int .i64 ((rd_T40 t401 t410).f0.f1)) ∧ w'.cell? ⟨(ad420.add ((t410).toNat * 9)).block, (ad420.add ((t410).toNat * 9)).off + 2, none⟩ = some (.int .i64 ((rd_T40 t401 t410).f0.f2)) ∧ w'.cell? ⟨(ad420.add ((t410).toNat * 9)).block, (ad420.add ((t410).toNat * 9)).off + 3, none⟩ = some (.int .i64 ((rd_T40 t401 t410).f1)) ∧ w'.cell? ⟨(ad420.add ((t410).toNat * 9)).block, (ad420.add ((t410).toNat * 9)).off + 4, none⟩ = some (.int .i64 ((rd_T40 t401 t410).f2.f0)) ∧ w'.cell? ⟨(ad420.add ((t410).toNat * 9)).block, (ad420.add ((t410).toNat * 9)).off + 5, none⟩ = some (.slice A426_5 ((rd_T40 t401 t410).f2.f1).length c426_5) ∧ w'.cell? ⟨(ad420.add ((t410).toNat * 9)).block, (ad420.add ((t410).toNat * 9)).off + 6, none⟩ = some (.int .i64 ((rd_T40 t401 t410).f2.f2.f0)) ∧ w'.cell? ⟨(ad420.add ((t410).toNat * 9)).block, (ad420.add ((t410).toNat * 9)).off + 7, none⟩ = some (.int .i64 ((rd_T40 t401 t410).f2.f2.f1)) ∧ w'.cell? ⟨(ad420.add ((t410).toNat * 9)).block, (ad420.add ((t410).toNat * 9)).off + 8, none⟩ = some (.int .i64 ((rd_T40 t401 t410).f2.f2.f2)) ∧ w'.cell? (ad420.add ((t410).toNat * 9)) = some (.int .i64 ((rd_T40 t401 t410).f0.f0)) ∧ w'.cell? ⟨(ad420.add ((t410).toNat * 9)).block, (ad420.add ((t410).toNat * 9)).off + 1, none⟩ = some (.int .i64 ((rd_T40 t401 t410).f0.f1)) ∧ w'.cell? ⟨(ad420.add ((t410).toNat * 9)).block, (ad420.add ((t410).toNat * 9)).off + 2, none⟩ = some (.int .i64 ((rd_T40 t401 t410).f0.f2)) ∧ w'.cell? ⟨(ad420.add ((t410).toNat * 9)).block, (ad420.add ((t410).toNat * 9)).off + 3, none⟩ = some (.int .i64 ((rd_T40 t401 t410).f1)) ∧ w'.cell? ⟨(ad420.add ((t410).toNat * 9)).block, (ad420.add ((t410).toNat * 9)).off + 4, none⟩ = some (.int .i64 ((rd_T40 t401 t410).f2.f0)) ∧ w'.cell? ⟨(ad420.add ((t410).toNat * 9)).block, (ad420.add ((t410).toNat * 9)).off + 5, none⟩ = some (.slice A426_5 ((rd_T40 t401 t410).f2.f1).length c426_5) ∧ w'.cell? ⟨(ad420.add ((t410).toNat * 9)).block, (ad420.add ((t410).toNat * 9)).off + 6, none⟩ = some (.int .i64 ((rd_T40 t401 t410).f2.f2.f0)) ∧ w'.cell? ⟨(ad420.add ((t410).toNat * 9)).block, (ad420.add ((t410).toNat * 9)).off + 7, none⟩ = some (.int .i64 ((rd_T40 t401 t410).f2.f2.f1)) ∧ w'.cell? ⟨(ad420.add ((t410).toNat * 9)).block, (ad420.add ((t410).toNat * 9)).off + 8, none⟩ = some (.int .i64 ((rd_T40 t401 t410).f2.f2.f2))) (ds := []) b8_104 KR rfl rfl ⟨(blk_cell BK411.out 0).trans rfl, (blk_cell BK411.out 1).trans rfl, (blk_cell BK408.out 0).trans rfl, (blk_cell BK408.out 1).trans rfl, (blk_cell BK408.out 2).trans rfl, hx420_0, hx420_1, hx420_2, hx420_3, hx420_4, hx420_5, hx420_6, hx420_7, hx420_8, hx422_0, hx422_1, hx422_2, hx422_3, hx422_4, hx422_5, hx422_6, hx422_7, hx422_8, hx426_0, hx426_1, hx426_2, hx426_3, hx426_4, hx426_5, hx426_6, hx426_7, hx426_8⟩ (fun hHeld => ?_); refine with_tabW laws_FnNearest.tab19 laws_FnNearest.bits19 (fun HT_ HW_ => ?_)
                    generalize wr.drew = w111 at HO_3 BK408 BK411 HB HL420_5 HL422_5 HL426_5 HR420_5 HR422_5 HR426_5 hx420_0 hx420_1 hx420_2 hx420_3 hx420_4 hx420_5 hx420_6 hx420_7 hx420_8 hx422_0 hx422_1 hx422_2 hx422_3 hx422_4 hx422_5 hx422_6 hx422_7 hx422_8 hx426_0 hx426_1 hx426_2 hx426_3 hx426_4 hx426_5 hx426_6 hx426_7 hx426_8 hHeld ⊢
                    refine pu_ (i := 0) (N := some 105) b8_103 HT_ ?_
                    refine tk_ (i := 1) (N := some 106) b8_102 rfl rfl HT_ HW_ hHeld ?_
                    refine pu_ (i := 2) (N := some 107) b8_101 HT_ ?_
                    refine pu_ (i := 3) (N := some 108) b8_100 HT_ ?_
                    refine pu_ (i := 4) (N := some 109) b8_99 HT_ ?_
                    refine pu_ (i := 5) (N := some 110) b8_98 HT_ ?_
                    refine tk_ (i := 6) (N := some 111) b8_97 rfl rfl HT_ HW_ hHeld ?_
                    refine pu_ (i := 7) (N := some 112) b8_96 HT_ ?_
                    refine pu_ (i := 8) (N := some 113) b8_95 HT_ ?_
                    refine tk_ (i := 9) (N := some 114) b8_94 rfl rfl HT_ HW_ hHeld ?_
                    refine take_ (i := 10) (N := some 115) (v := ?_) (a' := ?_) b8_93 rfl rfl (take_ofW HT_.out HW_.out KR) (fun _ _ _ h => h) (Or.inl ⟨by rfl, ?_⟩) hHeld ?_ ?_
                    rotate_left
                    ·rintro w' ⟨s0, s1, s2, s3, s4, s5, s6, s7, s8, s9, s10, s11, s12, s13, s14, s15, s16, s17, s18, s19, s20, s21, s22, s23, s24, s25, s26, s27, s28, s29, s30, s31⟩
                     go_simp
                     with_reducible rfl
                    rotate_left
                    ·simp only [Act.put, List.setIfInBounds_toArray, List.set_cons_zero, List.set_cons_succ, i64_w, i32_w]
                     rfl
                    refine one_ (i := 11) (N := some 116) b8_92 rfl rfl (one_of HT_.out KR) (by decide) (fun K hK => ?_)
                    refine goes_ Try.func16 KR rfl #[.agg #[.int .i64 ((rd_T40 t401 t410).f0.f0), .int .i64 ((rd_T40 t401 t410).f0.f1), .int .i64 ((rd_T40 t401 t410).f0.f2)], .agg #[.int .i64 t404, .int .i64 t405, .int .i64 t406]] (by rfl) rfl rfl AR ?_
                    with_reducible refine (impl_DistanceOf.calls ((rd_T40 t401 t410).f0.f0) ((rd_T40 t401 t410).f0.f1) ((rd_T40 t401 t410).f0.f2) t404 t405 t406 t421 _ A89.out).mono ?_
                    rintro e w112 ⟨rfl, hb⟩
                    have HS5_ := hs_ hb hHeld.2.2.2.2.2.1; have HS6_ := hs_ hb hHeld.2.2.2.2.2.2.1; have HS7_ := hs_ hb hHeld.2.2.2.2.2.2.2.1; have HS8_ := hs_ hb hHeld.2.2.2.2.2.2.2.2.1; have HS9_ := hs_ hb hHeld.2.2.2.2.2.2.2.2.2.1; have HS10_ := hs_ hb hHeld.2.2.2.2.2.2.2.2.2.2.1; have HS11_ := hs_ hb hHeld.2.2.2.2.2.2.2.2.2.2.2.1; have HS12_ := hs_ hb hHeld.2.2.2.2.2.2.2.2.2.2.2.2.1; have HS13_ := hs_ hb hHeld.2.2.2.2.2.2.2.2.2.2.2.2.2.1; have HS14_ := hs_ hb hHeld.2.2.2.2.2.2.2.2.2.2.2.2.2.2.1; have HS15_ := hs_ hb hHeld.2.2.2.2.2.2.2.2.2.2.2.2.2.2.2.1; have HS16_ := hs_ hb hHeld.2.2.2.2.2.2.2.2.2.2.2.2.2.2.2.2.1; have HS17_ := hs_ hb hHeld.2.2.2.2.2.2.2.2.2.2.2.2.2.2.2.2.2.1; have HS18_ := hs_ hb hHeld.2.2.2.2.2.2.2.2.2.2.2.2.2.2.2.2.2.2.1; have HS19_ := hs_ hb hHeld.2.2.2.2.2.2.2.2.2.2.2.2.2.2.2.2.2.2.2.1; have HS20_ := hs_ hb hHeld.2.2.2.2.2.2.2.2.2.2.2.2.2.2.2.2.2.2.2.2.1; have HS21_ := hs_ hb hHeld.2.2.2.2.2.2.2.2.2.2.2.2.2.2.2.2.2.2.2.2.2.1; have HS22_ := hs_ hb hHeld.2.2.2.2.2.2.2.2.2.2.2.2.2.2.2.2.2.2.2.2.2.2.1; have HS23_ := hs_ hb hHeld.2.2.2.2.2.2.2.2.2.2.2.2.2.2.2.2.2.2.2.2.2.2.2.1; have HS24_ := hs_ hb hHeld.2.2.2.2.2.2.2.2.2.2.2.2.2.2.2.2.2.2.2.2.2.2.2.2.1; have HS25_ := hs_ hb hHeld.2.2.2.2.2.2.2.2.2.2.2.2.2.2.2.2.2.2.2.2.2.2.2.2.2.1; have HS26_ := hs_ hb hHeld.2.2.2.2.2.2.2.2.2.2.2.2.2.2.2.2.2.2.2.2.2.2.2.2.2.2.1; have HS27_ := hs_ hb hHeld.2.2.2.2.2.2.2.2.2.2.2.2.2.2.2.2.2.2.2.2.2.2.2.2.2.2.2.1; have HS28_ := hs_ hb hHeld.2.2.2.2.2.2.2.2.2.2.2.2.2.2.2.2.2.2.2.2.2.2.2.2.2.2.2.2.1; have HS29_ := hs_ hb hHeld.2.2.2.2.2.2.2.2.2.2.2.2.2.2.2.2.2.2.2.2.2.2.2.2.2.2.2.2.2.1; have HS30_ := hs_ hb hHeld.2.2.2.2.2.2.2.2.2.2.2.2.2.2.2.2.2.2.2.2.2.2.2.2.2.2.2.2.2.2.1; have HS31_ := hs_ hb hHeld.2.2.2.2.2.2.2.2.2.2.2.2.2.2.2.2.2.2.2.2.2.2.2.2.2.2.2.2.2.2.2
                    refine ⟨_, rfl, ?_⟩
                    have n0_ := Sb HO_3 hb
                    have n1_ := Rb HL420_5 hb
                    have n2_ := kf BK408 hb
                    have n3_ := kf BK411 hb
                    have n4_ := Cb HR420_5 hb
                    have n5_ := bs HB hb
                    have HL422_5 := Rb HL422_5 hb
                    have HR422_5 := Cb HR422_5 hb
                    clear HO_3
                    clear HL420_5
                    clear BK408
                    clear BK411
                    clear HR420_5
                    clear HB
                    have HO_3 := n0_
                    have HL420_5 := n1_
                    have BK408 := n2_
                    have BK411 := n3_
                    have HR420_5 := n4_
                    have HB := n5_
                    clear n0_ n1_ n2_ n3_ n4_ n5_
                    (try clear hb)
                    (try clear hb2)
                    (try clear hk)
                    (try clear hi)
                    refine hK.out _ _ ⟨(blk_cell BK411.out 0).trans rfl, (blk_cell BK411.out 1).trans rfl, (blk_cell BK408.out 0).trans rfl, (blk_cell BK408.out 1).trans rfl, (blk_cell BK408.out 2).trans rfl, HS5_, HS6_, HS7_, HS8_, HS9_, HS10_, HS11_, HS12_, HS13_, HS14_, HS15_, HS16_, HS17_, HS18_, HS19_, HS20_, HS21_, HS22_, HS23_, HS24_, HS25_, HS26_, HS27_, HS28_, HS29_, HS30_, HS31_⟩ (fun hHeld => ?_)
                    clear hK K
                    refine norm_ (a' := ?_) ?_ ?_
                    rotate_left
                    ·show Act.put _ (some 116) _ = _
                     simp only [Act.put, List.setIfInBounds_toArray, List.set_cons_zero, List.set_cons_succ, i64_w, i32_w]
                     rfl
                    refine pu_ (i := 12) (N := some 117) b8_91 HT_ ?_
                    refine pu_ (i := 13) (N := some 118) b8_90 HT_ ?_
                    refine pu_ (i := 14) (N := some 119) b8_89 HT_ ?_
                    refine pu_ (i := 17) (N := some 122) b8_87 HT_ ?_
                    refine pu_ (i := 18) (N := some 123) b8_85 HT_ ?_
                    refine tk_ (i := 15) (N := some 120) b8_83 rfl rfl HT_ HW_ hHeld ?_
                    refine pu_ (i := 16) (N := some 121) b8_82 HT_ ?_
                    refine tk_ (i := 19) (N := some 124) b8_81 rfl rfl HT_ HW_ hHeld ?_
                    refine pu_ (i := 20) (N := some 125) b8_80 HT_ ?_
                    refine pu_ (i := 21) (N := some 126) b8_79 HT_ ?_
                    refine tk_ (i := 22) (N := some 127) b8_78 rfl rfl HT_ HW_ hHeld ?_
                    refine take_ (i := 23) (N := some 128) (v := ?_) (a' := ?_) b8_77 rfl rfl (take_ofW HT_.out HW_.out KR) (fun _ _ _ h => h) (Or.inl ⟨by rfl, ?_⟩) hHeld ?_ ?_
                    rotate_left
                    ·rintro w' ⟨s0, s1, s2, s3, s4, s5, s6, s7, s8, s9, s10, s11, s12, s13, s14, s15, s16, s17, s18, s19, s20, s21, s22, s23, s24, s25, s26, s27, s28, s29, s30, s31⟩
                     go_simp
                     with_reducible rfl
                    rotate_left
                    ·simp only [Act.put, List.setIfInBounds_toArray, List.set_cons_zero, List.set_cons_succ, i64_w, i32_w]
                     rfl
                    refine one_ (i := 24) (N := some 129) b8_76 rfl rfl (one_of HT_.out KR) (by decide) (fun K hK => ?_)
                    refine goes_ Try.func16 KR rfl #[.agg #[.int .i64 ((rd_T40 t401 t410).f0.f0), .int .i64 ((rd_T40 t401 t410).f0.f1), .int .i64 ((rd_T40 t401 t410).f0.f2)], .agg #[.int .i64 t404, .int .i64 t405, .int .i64 t406]] (by rfl) rfl rfl AR ?_
                    with_reducible refine (impl_DistanceOf.calls ((rd_T40 t401 t410).f0.f0) ((rd_T40 t401 t410).f0.f1) ((rd_T40 t401 t410).f0.f2) t404 t405 t406 t423 _ A93.out).mono ?_
                    rintro e w113 ⟨rfl, hb⟩
                    have HS5_ := hs_ hb hHeld.2.2.2.2.2.1; have HS6_ := hs_ hb hHeld.2.2.2.2.2.2.1; have HS7_ := hs_ hb hHeld.2.2.2.2.2.2.2.1; have HS8_ := hs_ hb hHeld.2.2.2.2.2.2.2.2.1; have HS9_ := hs_ hb hHeld.2.2.2.2.2.2.2.2.2.1; have HS10_ := hs_ hb hHeld.2.2.2.2.2.2.2.2.2.2.1; have HS11_ := hs_ hb hHeld.2.2.2.2.2.2.2.2.2.2.2.1; have HS12_ := hs_ hb hHeld.2.2.2.2.2.2.2.2.2.2.2.2.1; have HS13_ := hs_ hb hHeld.2.2.2.2.2.2.2.2.2.2.2.2.2.1; have HS14_ := hs_ hb hHeld.2.2.2.2.2.2.2.2.2.2.2.2.2.2.1; have HS15_ := hs_ hb hHeld.2.2.2.2.2.2.2.2.2.2.2.2.2.2.2.1; have HS16_ := hs_ hb hHeld.2.2.2.2.2.2.2.2.2.2.2.2.2.2.2.2.1; have HS17_ := hs_ hb hHeld.2.2.2.2.2.2.2.2.2.2.2.2.2.2.2.2.2.1; have HS18_ := hs_ hb hHeld.2.2.2.2.2.2.2.2.2.2.2.2.2.2.2.2.2.2.1; have HS19_ := hs_ hb hHeld.2.2.2.2.2.2.2.2.2.2.2.2.2.2.2.2.2.2.2.1; have HS20_ := hs_ hb hHeld.2.2.2.2.2.2.2.2.2.2.2.2.2.2.2.2.2.2.2.2.1; have HS21_ := hs_ hb hHeld.2.2.2.2.2.2.2.2.2.2.2.2.2.2.2.2.2.2.2.2.2.1; have HS22_ := hs_ hb hHeld.2.2.2.2.2.2.2.2.2.2.2.2.2.2.2.2.2.2.2.2.2.2.1; have HS23_ := hs_ hb hHeld.2.2.2.2.2.2.2.2.2.2.2.2.2.2.2.2.2.2.2.2.2.2.2.1; have HS24_ := hs_ hb hHeld.2.2.2.2.2.2.2.2.2.2.2.2.2.2.2.2.2.2.2.2.2.2.2.2.1; have HS25_ := hs_ hb hHeld.2.2.2.2.2.2.2.2.2.2.2.2.2.2.2.2.2.2.2.2.2.2.2.2.2.1; have HS26_ := hs_ hb hHeld.2.2.2.2.2.2.2.2.2.2.2.2.2.2.2.2.2.2.2.2.2.2.2.2.2.2.1; have HS27_ := hs_ hb hHeld.2.2.2.2.2.2.2.2.2.2.2.2.2.2.2.2.2.2.2.2.2.2.2.2.2.2.2.1; have HS28_ := hs_ hb hHeld.2.2.2.2.2.2.2.2.2.2.2.2.2.2.2.2.2.2.2.2.2.2.2.2.2.2.2.2.1; have HS29_ := hs_ hb hHeld.2.2.2.2.2.2.2.2.2.2.2.2.2.2.2.2.2.2.2.2.2.2.2.2.2.2.2.2.2.1; have HS30_ := hs_ hb hHeld.2.2.2.2.2.2.2.2.2.2.2.2.2.2.2.2.2.2.2.2.2.2.2.2.2.2.2.2.2.2.1; have HS31_ := hs_ hb hHeld.2.2.2.2.2.2.2.2.2.2.2.2.2.2.2.2.2.2.2.2.2.2.2.2.2.2.2.2.2.2.2
                    refine ⟨_, rfl, ?_⟩
                    replace HO_3 := Sb HO_3 hb
                    replace HL420_5 := Rb HL420_5 hb
                    replace HL422_5 := Rb HL422_5 hb
                    replace BK408 := kf BK408 hb
                    replace BK411 := kf BK411 hb
                    replace HR420_5 := Cb HR420_5 hb
                    replace HR422_5 := Cb HR422_5 hb
                    replace HB := bs HB hb
                    (try clear hb)
                    (try clear hb2)
                    (try clear hk)
                    (try clear hi)
                    refine hK.out _ _ ⟨(blk_cell BK411.out 0).trans rfl, (blk_cell BK411.out 1).trans rfl, (blk_cell BK408.out 0).trans rfl, (blk_cell BK408.out 1).trans rfl, (blk_cell BK408.out 2).trans rfl, HS5_, HS6_, HS7_, HS8_, HS9_, HS10_, HS11_, HS12_, HS13_, HS14_, HS15_, HS16_, HS17_, HS18_, HS19_, HS20_, HS21_, HS22_, HS23_, HS24_, HS25_, HS26_, HS27_, HS28_, HS29_, HS30_, HS31_⟩ (fun hHeld => ?_)
                    clear hK K
                    refine norm_ (a' := ?_) ?_ ?_
                    rotate_left
                    ·show Act.put _ (some 129) _ = _
                     simp only [Act.put, List.setIfInBounds_toArray, List.set_cons_zero, List.set_cons_succ, i64_w, i32_w]
                     rfl
                    refine pu_ (i := 25) (N := some 130) b8_75 HT_ ?_
                    refine pu_ (i := 26) (N := some 131) b8_74 HT_ ?_
                    refine pu_ (i := 27) (N := some 132) b8_73 HT_ ?_
                    refine pu_ (i := 28) (N := some 133) b8_72 HT_ ?_
                    refine pu_ (i := 29) (N := some 134) b8_71 HT_ ?_
                    refine tk_ (i := 30) (N := some 135) b8_70 rfl rfl HT_ HW_ hHeld ?_
                    refine pu_ (i := 31) (N := some 136) b8_69 HT_ ?_
                    refine pu_ (i := 32) (N := some 137) b8_68 HT_ ?_
                    refine un_ (i := 33) (N := some 138) b8_67 HT_ ?_
                    refine un_ (i := 34) (N := some 139) b8_66 HT_ ?_
                    refine un_ (i := 35) (N := some 140) b8_65 HT_ ?_
                    refine un_ (i := 36) (N := some 141) b8_63 HT_ ?_
                    refine un_ (i := 37) (N := some 142) b8_61 HT_ ?_
                    refine un_ (i := 38) (N := some 143) b8_59 HT_ ?_
                    refine un_ (i := 39) (N := some 144) b8_57 HT_ ?_
                    refine un_ (i := 40) (N := some 145) b8_56 HT_ ?_
                    refine pu_ (i := 41) (N := some 146) b8_55 HT_ ?_
                    refine pu_ (i := 42) (N := some 147) b8_54 HT_ ?_
                    refine pu_ (i := 43) (N := some 148) b8_53 HT_ ?_
                    refine pu_ (i := 44) (N := some 149) b8_52 HT_ ?_
                    refine tk_ (i := 45) (N := some 150) b8_51 rfl rfl HT_ HW_ hHeld ?_
                    refine pu_ (i := 46) (N := some 151) b8_50 HT_ ?_
                    refine pu_ (i := 47) (N := some 152) b8_49 HT_ ?_
                    refine pu_ (i := 48) (N := some 153) b8_48 HT_ ?_
                    refine pu_ (i := 49) (N := some 154) b8_47 HT_ ?_
                    refine pu_ (i := 54) (N := some 159) b8_45 HT_ ?_
                    refine tk_ (i := 50) (N := some 155) b8_43 rfl rfl HT_ HW_ hHeld ?_
                    refine pu_ (i := 51) (N := some 156) b8_41 HT_ ?_
                    refine pu_ (i := 52) (N := some 157) b8_39 HT_ ?_
                    refine tk_ (i := 53) (N := some 158) b8_38 rfl rfl HT_ HW_ hHeld ?_
                    refine pu_ (i := 55) (N := some 160) b8_37 HT_ ?_
                    refine pu_ (i := 56) (N := some 161) b8_36 HT_ ?_
                    refine pu_ (i := 57) (N := some 162) b8_35 HT_ ?_
                    refine pu_ (i := 58) (N := some 163) b8_34 HT_ ?_
                    refine done_ (done_of HT_.out KR) ?_
                    try go_wp2
                    go_meet
                    case rel => exact ⟨_, ((((rd_T40 t401 t410).f1) == t407)), (by first | rfl | (simp; done) | (simp [*]; done)), H', ⟨by have := HJ5.out; have := HJ24.out; have := HK3.out; first | omega | exact Nat.le_refl _⟩, ⟨PS HO_3⟩, ⟨PK BK408⟩, ⟨PK BK411⟩, ⟨PB⟩⟩
                  ·rw [if_neg c110] at H
                   have c110b0 : (t409 == 1) = false := beq_eq_false_iff_ne.mpr c110
                   have c110b1 : (t409 != 1) = true := bne_iff_ne.mpr c110
                   have H' := Aside0.mk H
                   clear H
                   try go_wp2
                   replace HO_3 := ak (Kd.S_drew HO_3.out)
                   replace BK408 := ak (blk_drew BK408.out)
                   replace BK411 := ak (blk_drew BK411.out)
                   replace HB := ak (below_drew1 HB.out)
                   have p420 : 0 ≤ (t410 : Int) := of_decide_eq_true (by first | (with_reducible assumption) | assumption)
                   have q420 : t410 < (t401.length : Int) := of_decide_eq_true (by first | (with_reducible assumption) | assumption)
                   obtain ⟨ad420, A420_5, c420_5, e420, hx420_0, hx420_1, hx420_2, hx420_3, hx420_4, hx420_5, hx420_6, hx420_7, hx420_8, hl420_5, hi420_5⟩ := at_T40 (Kd.S_reads' HO_3.out).2.2 t410 p420 q420
                   cases e420
                   obtain ⟨ce420, hce420, hMe420, hcc420⟩ := Kd.S_get HO_3.out z40 t410 p420 (by first | exact q420 | exact of_decide_eq_true (by first | (with_reducible assumption) | assumption) | (have e_ := (Kd.S_reads' HO_3.out).1; omega))
                   obtain ⟨ve420_5, rfl, ge420_5⟩ := k40_openM hMe420
                   have hv420_5 := hcc420 5 _ rfl
                   rw [add_field _ _ 5 (by omega)] at hv420_5
                   replace hv420_5 := Option.some.inj (hv420_5.symm.trans hx420_5)
                   rw [hv420_5] at ge420_5
                   have HL420_5 := ak (show Kd.R (Kd.int .i64) 3 _ _ _ _ ((rd_T40 t401 t410).f2.f1) from ge420_5)
                   clear hv420_5 ge420_5
                   clear hcc420 hce420
                   have HR420_5 := Aside0.mk hi420_5
                   have HC420_5 := Aside0.mk hl420_5
                   clear hi420_5 hl420_5
                   replace p420 := eq_true p420
                   replace q420 := eq_true q420
                   have p422 : 0 ≤ (t410 : Int) := of_decide_eq_true (by first | (with_reducible assumption) | assumption)
                   have q422 : t410 < (t401.length : Int) := of_decide_eq_true (by first | (with_reducible assumption) | assumption)
                   obtain ⟨ad422, A422_5, c422_5, e422, hx422_0, hx422_1, hx422_2, hx422_3, hx422_4, hx422_5, hx422_6, hx422_7, hx422_8, hl422_5, hi422_5⟩ := at_T40 (Kd.S_reads' HO_3.out).2.2 t410 p422 q422
                   obtain rfl : ad420 = ad422 := (by injection e422)
                   obtain ⟨rfl, rfl⟩ : A422_5 = A420_5 ∧ c422_5 = c420_5 := by have e_ := Option.some.inj (hx422_5.symm.trans hx420_5); first | (injection e_ with a_ b_ c_; exact ⟨a_, c_⟩) | (injection e_ with a_ c_; exact ⟨a_, c_⟩)
                   obtain ⟨ce422, hce422, hMe422, hcc422⟩ := Kd.S_get HO_3.out z40 t410 p422 (by first | exact q422 | exact of_decide_eq_true (by first | (with_reducible assumption) | assumption) | (have e_ := (Kd.S_reads' HO_3.out).1; omega))
                   obtain ⟨ve422_5, rfl, ge422_5⟩ := k40_openM hMe422
                   have hv422_5 := hcc422 5 _ rfl
                   rw [add_field _ _ 5 (by omega)] at hv422_5
                   replace hv422_5 := Option.some.inj (hv422_5.symm.trans hx422_5)
                   rw [hv422_5] at ge422_5
                   have HL422_5 := ak (show Kd.R (Kd.int .i64) 3 _ _ _ _ ((rd_T40 t401 t410).f2.f1) from ge422_5)
                   clear hv422_5 ge422_5
                   clear hcc422 hce422
                   have HR422_5 := Aside0.mk hi422_5
                   have HC422_5 := Aside0.mk hl422_5
                   clear hi422_5 hl422_5
                   replace p422 := eq_true p422
                   replace q422 := eq_true q422
                   as_aux_lemma =>
                    refine start_ (n := 59) (S := fun w' => w'.cell? ⟨gb411, 0, none⟩ = some (.int .i64 t409) ∧ w'.cell? ⟨gb411, 1, none⟩ = some (.int .i64 t410) ∧ w'.cell? ⟨gb408, 0, none⟩ = some (.int .i64 t404) ∧ w'.cell? ⟨gb408, 1, none⟩ = some (.int .i64 t405) ∧ w'.cell? ⟨gb408, 2, none⟩ = some (.int .i64 t406) ∧ w'.cell? (ad420.add ((t410).toNat * 9)) = some (.int .i64 ((rd_T40 t401 t410).f0.f0)) ∧ w'.cell? ⟨(ad420.add ((t410).toNat * 9)).block, (ad420.add ((t410).toNat * 9)).off + 1, none⟩ = some (.int .i64 ((rd_T40 t401 t410).f0.f1)) ∧ w'.cell? ⟨(ad420.add ((t410).toNat * 9)).block, (ad420.add ((t410).toNat * 9)).off + 2, none⟩ = some (.int .i64 ((rd_T40 t401 t410).f0.f2)) ∧ w'.cell? ⟨(ad420.add ((t410).toNat * 9)).block, (ad420.add ((t410).toNat * 9)).off + 3, none⟩ = some (.int .i64 ((rd_T40 t401 t410).f1)) ∧ w'.cell? ⟨(ad420.add ((t410).toNat * 9)).block, (ad420.add ((t410).toNat * 9)).off + 4, none⟩ = some (.int .i64 ((rd_T40 t401 t410).f2.f0)) ∧ w'.cell? ⟨(ad420.add ((t410).toNat * 9)).block, (ad420.add ((t410).toNat * 9)).off + 5, none⟩ = some (.slice A422_5 ((rd_T40 t401 t410).f2.f1).length c422_5) ∧ w'.cell? ⟨(ad420.add ((t410).toNat * 9)).block, (ad420.add ((t410).toNat * 9)).off + 6, none⟩ = some (.int .i64 ((rd_T40 t401 t410).f2.f2.f0)) ∧ w'.cell? ⟨(ad420.add ((t410).toNat * 9)).block, (ad420.add ((t410).toNat * 9)).off + 7, none⟩ = some (.int .i64 ((rd_T40 t401 t410).f2.f2.f1)) ∧ w'.cell? ⟨(ad420.add ((t410).toNat * 9)).block, (ad420.add ((t410).toNat * 9)).off + 8, none⟩ = some (.int .i64 ((rd_T40 t401 t410).f2.f2.f2)) ∧ w'.cell? (ad420.add ((t410).toNat * 9)) = some (.int .i64 ((rd_T40 t401 t410).f0.f0)) ∧ w'.cell? ⟨(ad420.add ((t410).toNat * 9)).block, (ad420.add ((t410).toNat * 9)).off + 1, none⟩ = some (.int .i64 ((rd_T40 t401 t410).f0.f1)) ∧ w'.cell? ⟨(ad420.add ((t410).toNat * 9)).block, (ad420.add ((t410).toNat * 9)).off + 2, none⟩ = some (.int .i64 ((rd_T40 t401 t410).f0.f2)) ∧ w'.cell? ⟨(ad420.add ((t410).toNat * 9)).block, (ad420.add ((t410).toNat * 9)).off + 3, none⟩ = some (.int .i64 ((rd_T40 t401 t410).f1)) ∧ w'.cell? ⟨(ad420.add ((t410).toNat * 9)).block, (ad420.add ((t410).toNat * 9)).off + 4, none⟩ = some (.int .i64 ((rd_T40 t401 t410).f2.f0)) ∧ w'.cell? ⟨(ad420.add ((t410).toNat * 9)).block, (ad420.add ((t410).toNat * 9)).off + 5, none⟩ = some (.slice A422_5 ((rd_T40 t401 t410).f2.f1).length c422_5) ∧ w'.cell? ⟨(ad420.add ((t410).toNat * 9)).block, (ad420.add ((t410).toNat * 9)).off + 6, none⟩ = some (.int .i64 ((rd_T40 t401 t410).f2.f2.f0)) ∧ w'.cell? ⟨(ad420.add ((t410).toNat * 9)).block, (ad420.add ((t410).toNat * 9)).off + 7, none⟩ = some (.int .i64 ((rd_T40 t401 t410).f2.f2.f1)) ∧ w'.cell? ⟨(ad420.add ((t410).toNat * 9)).block, (ad420.add ((t410).toNat * 9)).off + 8, none⟩ = some (.int .i64 ((rd_T40 t401 t410).f2.f2.f2))) (ds := []) b8_104 KR rfl rfl ⟨(blk_cell BK411.out 0).trans rfl, (blk_cell BK411.out 1).trans rfl, (blk_cell BK408.out 0).trans rfl, (blk_cell BK408.out 1).trans rfl, (blk_cell BK408.out 2).trans rfl, hx420_0, hx420_1, hx420_2, hx420_3, hx420_4, hx420_5, hx420_6, hx420_7, hx420_8, hx422_0, hx422_1, hx422_2, hx422_3, hx422_4, hx422_5, hx422_6, hx422_7, hx422_8⟩ (fun hHeld => ?_); refine with_tabW laws_FnNearest.tab19 laws_FnNearest.bits19 (fun HT_ HW_ => ?_)
                    generalize wr.drew = w114 at HO_3 BK408 BK411 HB HL420_5 HL422_5 HR420_5 HR422_5 hx420_0 hx420_1 hx420_2 hx420_3 hx420_4 hx420_5 hx420_6 hx420_7 hx420_8 hx422_0 hx422_1 hx422_2 hx422_3 hx422_4 hx422_5 hx422_6 hx422_7 hx422_8 hHeld ⊢
                    refine pu_ (i := 0) (N := some 105) b8_103 HT_ ?_
                    refine tk_ (i := 1) (N := some 106) b8_102 rfl rfl HT_ HW_ hHeld ?_
                    refine pu_ (i := 2) (N := some 107) b8_101 HT_ ?_
                    refine pu_ (i := 3) (N := some 108) b8_100 HT_ ?_
                    refine pu_ (i := 4) (N := some 109) b8_99 HT_ ?_
                    refine pu_ (i := 5) (N := some 110) b8_98 HT_ ?_
                    refine tk_ (i := 6) (N := some 111) b8_97 rfl rfl HT_ HW_ hHeld ?_
                    refine pu_ (i := 7) (N := some 112) b8_96 HT_ ?_
                    refine pu_ (i := 8) (N := some 113) b8_95 HT_ ?_
                    refine tk_ (i := 9) (N := some 114) b8_94 rfl rfl HT_ HW_ hHeld ?_
                    refine take_ (i := 10) (N := some 115) (v := ?_) (a' := ?_) b8_93 rfl rfl (take_ofW HT_.out HW_.out KR) (fun _ _ _ h => h) (Or.inl ⟨by rfl, ?_⟩) hHeld ?_ ?_
                    rotate_left
                    ·rintro w' ⟨s0, s1, s2, s3, s4, s5, s6, s7, s8, s9, s10, s11, s12, s13, s14, s15, s16, s17, s18, s19, s20, s21, s22⟩
                     go_simp
                     with_reducible rfl
                    rotate_left
                    ·simp only [Act.put, List.setIfInBounds_toArray, List.set_cons_zero, List.set_cons_succ, i64_w, i32_w]
                     rfl
                    refine one_ (i := 11) (N := some 116) b8_92 rfl rfl (one_of HT_.out KR) (by decide) (fun K hK => ?_)
                    refine goes_ Try.func16 KR rfl #[.agg #[.int .i64 ((rd_T40 t401 t410).f0.f0), .int .i64 ((rd_T40 t401 t410).f0.f1), .int .i64 ((rd_T40 t401 t410).f0.f2)], .agg #[.int .i64 t404, .int .i64 t405, .int .i64 t406]] (by rfl) rfl rfl AR ?_
                    with_reducible refine (impl_DistanceOf.calls ((rd_T40 t401 t410).f0.f0) ((rd_T40 t401 t410).f0.f1) ((rd_T40 t401 t410).f0.f2) t404 t405 t406 t421 _ A89.out).mono ?_
                    rintro e w115 ⟨rfl, hb⟩
                    have HS5_ := hs_ hb hHeld.2.2.2.2.2.1; have HS6_ := hs_ hb hHeld.2.2.2.2.2.2.1; have HS7_ := hs_ hb hHeld.2.2.2.2.2.2.2.1; have HS8_ := hs_ hb hHeld.2.2.2.2.2.2.2.2.1; have HS9_ := hs_ hb hHeld.2.2.2.2.2.2.2.2.2.1; have HS10_ := hs_ hb hHeld.2.2.2.2.2.2.2.2.2.2.1; have HS11_ := hs_ hb hHeld.2.2.2.2.2.2.2.2.2.2.2.1; have HS12_ := hs_ hb hHeld.2.2.2.2.2.2.2.2.2.2.2.2.1; have HS13_ := hs_ hb hHeld.2.2.2.2.2.2.2.2.2.2.2.2.2.1; have HS14_ := hs_ hb hHeld.2.2.2.2.2.2.2.2.2.2.2.2.2.2.1; have HS15_ := hs_ hb hHeld.2.2.2.2.2.2.2.2.2.2.2.2.2.2.2.1; have HS16_ := hs_ hb hHeld.2.2.2.2.2.2.2.2.2.2.2.2.2.2.2.2.1; have HS17_ := hs_ hb hHeld.2.2.2.2.2.2.2.2.2.2.2.2.2.2.2.2.2.1; have HS18_ := hs_ hb hHeld.2.2.2.2.2.2.2.2.2.2.2.2.2.2.2.2.2.2.1; have HS19_ := hs_ hb hHeld.2.2.2.2.2.2.2.2.2.2.2.2.2.2.2.2.2.2.2.1; have HS20_ := hs_ hb hHeld.2.2.2.2.2.2.2.2.2.2.2.2.2.2.2.2.2.2.2.2.1; have HS21_ := hs_ hb hHeld.2.2.2.2.2.2.2.2.2.2.2.2.2.2.2.2.2.2.2.2.2.1; have HS22_ := hs_ hb hHeld.2.2.2.2.2.2.2.2.2.2.2.2.2.2.2.2.2.2.2.2.2.2
                    refine ⟨_, rfl, ?_⟩
                    have n0_ := Sb HO_3 hb
                    have n1_ := Rb HL420_5 hb
                    have n2_ := kf BK408 hb
                    have n3_ := kf BK411 hb
                    have n4_ := Cb HR420_5 hb
                    have n5_ := bs HB hb
                    have HL422_5 := Rb HL422_5 hb
                    have HR422_5 := Cb HR422_5 hb
                    clear HO_3
                    clear HL420_5
                    clear BK408
                    clear BK411
                    clear HR420_5
                    clear HB
                    have HO_3 := n0_
                    have HL420_5 := n1_
                    have BK408 := n2_
                    have BK411 := n3_
                    have HR420_5 := n4_
                    have HB := n5_
                    clear n0_ n1_ n2_ n3_ n4_ n5_
                    (try clear hb)
                    (try clear hb2)
                    (try clear hk)
                    (try clear hi)
                    refine hK.out _ _ ⟨(blk_cell BK411.out 0).trans rfl, (blk_cell BK411.out 1).trans rfl, (blk_cell BK408.out 0).trans rfl, (blk_cell BK408.out 1).trans rfl, (blk_cell BK408.out 2).trans rfl, HS5_, HS6_, HS7_, HS8_, HS9_, HS10_, HS11_, HS12_, HS13_, HS14_, HS15_, HS16_, HS17_, HS18_, HS19_, HS20_, HS21_, HS22_⟩ (fun hHeld => ?_)
                    clear hK K
                    refine norm_ (a' := ?_) ?_ ?_
                    rotate_left
                    ·show Act.put _ (some 116) _ = _
                     simp only [Act.put, List.setIfInBounds_toArray, List.set_cons_zero, List.set_cons_succ, i64_w, i32_w]
                     rfl
                    refine pu_ (i := 12) (N := some 117) b8_91 HT_ ?_
                    refine pu_ (i := 13) (N := some 118) b8_90 HT_ ?_
                    refine pu_ (i := 14) (N := some 119) b8_89 HT_ ?_
                    refine pu_ (i := 17) (N := some 122) b8_87 HT_ ?_
                    refine pu_ (i := 18) (N := some 123) b8_85 HT_ ?_
                    refine tk_ (i := 15) (N := some 120) b8_83 rfl rfl HT_ HW_ hHeld ?_
                    refine pu_ (i := 16) (N := some 121) b8_82 HT_ ?_
                    refine tk_ (i := 19) (N := some 124) b8_81 rfl rfl HT_ HW_ hHeld ?_
                    refine pu_ (i := 20) (N := some 125) b8_80 HT_ ?_
                    refine pu_ (i := 21) (N := some 126) b8_79 HT_ ?_
                    refine tk_ (i := 22) (N := some 127) b8_78 rfl rfl HT_ HW_ hHeld ?_
                    refine take_ (i := 23) (N := some 128) (v := ?_) (a' := ?_) b8_77 rfl rfl (take_ofW HT_.out HW_.out KR) (fun _ _ _ h => h) (Or.inl ⟨by rfl, ?_⟩) hHeld ?_ ?_
                    rotate_left
                    ·rintro w' ⟨s0, s1, s2, s3, s4, s5, s6, s7, s8, s9, s10, s11, s12, s13, s14, s15, s16, s17, s18, s19, s20, s21, s22⟩
                     go_simp
                     with_reducible rfl
                    rotate_left
                    ·simp only [Act.put, List.setIfInBounds_toArray, List.set_cons_zero, List.set_cons_succ, i64_w, i32_w]
                     rfl
                    refine one_ (i := 24) (N := some 129) b8_76 rfl rfl (one_of HT_.out KR) (by decide) (fun K hK => ?_)
                    refine goes_ Try.func16 KR rfl #[.agg #[.int .i64 ((rd_T40 t401 t410).f0.f0), .int .i64 ((rd_T40 t401 t410).f0.f1), .int .i64 ((rd_T40 t401 t410).f0.f2)], .agg #[.int .i64 t404, .int .i64 t405, .int .i64 t406]] (by rfl) rfl rfl AR ?_
                    with_reducible refine (impl_DistanceOf.calls ((rd_T40 t401 t410).f0.f0) ((rd_T40 t401 t410).f0.f1) ((rd_T40 t401 t410).f0.f2) t404 t405 t406 t423 _ A93.out).mono ?_
                    rintro e w116 ⟨rfl, hb⟩
                    have HS5_ := hs_ hb hHeld.2.2.2.2.2.1; have HS6_ := hs_ hb hHeld.2.2.2.2.2.2.1; have HS7_ := hs_ hb hHeld.2.2.2.2.2.2.2.1; have HS8_ := hs_ hb hHeld.2.2.2.2.2.2.2.2.1; have HS9_ := hs_ hb hHeld.2.2.2.2.2.2.2.2.2.1; have HS10_ := hs_ hb hHeld.2.2.2.2.2.2.2.2.2.2.1; have HS11_ := hs_ hb hHeld.2.2.2.2.2.2.2.2.2.2.2.1; have HS12_ := hs_ hb hHeld.2.2.2.2.2.2.2.2.2.2.2.2.1; have HS13_ := hs_ hb hHeld.2.2.2.2.2.2.2.2.2.2.2.2.2.1; have HS14_ := hs_ hb hHeld.2.2.2.2.2.2.2.2.2.2.2.2.2.2.1; have HS15_ := hs_ hb hHeld.2.2.2.2.2.2.2.2.2.2.2.2.2.2.2.1; have HS16_ := hs_ hb hHeld.2.2.2.2.2.2.2.2.2.2.2.2.2.2.2.2.1; have HS17_ := hs_ hb hHeld.2.2.2.2.2.2.2.2.2.2.2.2.2.2.2.2.2.1; have HS18_ := hs_ hb hHeld.2.2.2.2.2.2.2.2.2.2.2.2.2.2.2.2.2.2.1; have HS19_ := hs_ hb hHeld.2.2.2.2.2.2.2.2.2.2.2.2.2.2.2.2.2.2.2.1; have HS20_ := hs_ hb hHeld.2.2.2.2.2.2.2.2.2.2.2.2.2.2.2.2.2.2.2.2.1; have HS21_ := hs_ hb hHeld.2.2.2.2.2.2.2.2.2.2.2.2.2.2.2.2.2.2.2.2.2.1; have HS22_ := hs_ hb hHeld.2.2.2.2.2.2.2.2.2.2.2.2.2.2.2.2.2.2.2.2.2.2
                    refine ⟨_, rfl, ?_⟩
                    replace HO_3 := Sb HO_3 hb
                    replace HL420_5 := Rb HL420_5 hb
                    replace HL422_5 := Rb HL422_5 hb
                    replace BK408 := kf BK408 hb
                    replace BK411 := kf BK411 hb
                    replace HR420_5 := Cb HR420_5 hb
                    replace HR422_5 := Cb HR422_5 hb
                    replace HB := bs HB hb
                    (try clear hb)
                    (try clear hb2)
                    (try clear hk)
                    (try clear hi)
                    refine hK.out _ _ ⟨(blk_cell BK411.out 0).trans rfl, (blk_cell BK411.out 1).trans rfl, (blk_cell BK408.out 0).trans rfl, (blk_cell BK408.out 1).trans rfl, (blk_cell BK408.out 2).trans rfl, HS5_, HS6_, HS7_, HS8_, HS9_, HS10_, HS11_, HS12_, HS13_, HS14_, HS15_, HS16_, HS17_, HS18_, HS19_, HS20_, HS21_, HS22_⟩ (fun hHeld => ?_)
                    clear hK K
                    refine norm_ (a' := ?_) ?_ ?_
                    rotate_left
                    ·show Act.put _ (some 129) _ = _
                     simp only [Act.put, List.setIfInBounds_toArray, List.set_cons_zero, List.set_cons_succ, i64_w, i32_w]
                     rfl
                    refine pu_ (i := 25) (N := some 130) b8_75 HT_ ?_
                    refine pu_ (i := 26) (N := some 131) b8_74 HT_ ?_
                    refine pu_ (i := 27) (N := some 132) b8_73 HT_ ?_
                    refine pu_ (i := 28) (N := some 133) b8_72 HT_ ?_
                    refine pu_ (i := 29) (N := some 134) b8_71 HT_ ?_
                    refine tk_ (i := 30) (N := some 135) b8_70 rfl rfl HT_ HW_ hHeld ?_
                    refine pu_ (i := 31) (N := some 136) b8_69 HT_ ?_
                    refine pu_ (i := 32) (N := some 137) b8_68 HT_ ?_
                    refine un_ (i := 33) (N := some 138) b8_67 HT_ ?_
                    refine un_ (i := 34) (N := some 139) b8_66 HT_ ?_
                    refine un_ (i := 35) (N := some 140) b8_65 HT_ ?_
                    refine un_ (i := 36) (N := some 141) b8_63 HT_ ?_
                    refine un_ (i := 37) (N := some 142) b8_61 HT_ ?_
                    refine un_ (i := 38) (N := some 143) b8_59 HT_ ?_
                    refine un_ (i := 39) (N := some 144) b8_57 HT_ ?_
                    refine un_ (i := 40) (N := some 145) b8_56 HT_ ?_
                    refine pu_ (i := 41) (N := some 146) b8_55 HT_ ?_
                    refine pu_ (i := 42) (N := some 147) b8_54 HT_ ?_
                    refine pu_ (i := 43) (N := some 148) b8_53 HT_ ?_
                    refine pu_ (i := 44) (N := some 149) b8_52 HT_ ?_
                    refine tk_ (i := 45) (N := some 150) b8_51 rfl rfl HT_ HW_ hHeld ?_
                    refine pu_ (i := 46) (N := some 151) b8_50 HT_ ?_
                    refine pu_ (i := 47) (N := some 152) b8_49 HT_ ?_
                    refine un_ (i := 48) (N := some 153) b8_48 HT_ ?_
                    refine un_ (i := 49) (N := some 154) b8_47 HT_ ?_
                    refine un_ (i := 50) (N := some 155) b8_46 HT_ ?_
                    refine un_ (i := 51) (N := some 156) b8_44 HT_ ?_
                    refine un_ (i := 52) (N := some 157) b8_42 HT_ ?_
                    refine un_ (i := 53) (N := some 158) b8_40 HT_ ?_
                    refine un_ (i := 54) (N := some 159) b8_38 HT_ ?_
                    refine un_ (i := 55) (N := some 160) b8_37 HT_ ?_
                    refine pu_ (i := 56) (N := some 161) b8_36 HT_ ?_
                    refine pu_ (i := 57) (N := some 162) b8_35 HT_ ?_
                    refine pu_ (i := 58) (N := some 163) b8_34 HT_ ?_
                    refine done_ (done_of HT_.out KR) ?_
                    try go_wp2
                    go_meet
                    case rel => exact ⟨_, (false), (by first | rfl | (simp; done) | (simp [*]; done)), H', ⟨by have := HJ5.out; have := HJ24.out; have := HK3.out; first | omega | exact Nat.le_refl _⟩, ⟨PS HO_3⟩, ⟨PK BK408⟩, ⟨PK BK411⟩, ⟨PB⟩⟩
              ·rw [if_neg c88] at H
               exact absurd H (by simp)
             ·rw [if_neg c87] at H
              exact absurd H (by simp)
            ·rw [if_neg c86] at H
             have c86b0 : decide (0 ≤ t410) = false := decide_eq_false c86
             clear c86
             (first | rw [c86b0] | (simp only [i64_w, i32_w]; rw [c86b0]) | skip)
             have H' := Aside0.mk H
             clear H
             try go_wp2
             replace HO_3 := ak (Kd.S_drew HO_3.out)
             replace BK408 := ak (blk_drew BK408.out)
             replace BK411 := ak (blk_drew BK411.out)
             replace HB := ak (below_drew1 HB.out)
             as_aux_lemma =>
              refine start_ (n := 59) (S := fun w' => w'.cell? ⟨gb411, 0, none⟩ = some (.int .i64 t409) ∧ w'.cell? ⟨gb411, 1, none⟩ = some (.int .i64 t410)) (ds := []) b8_104 KR rfl rfl ⟨(blk_cell BK411.out 0).trans rfl, (blk_cell BK411.out 1).trans rfl⟩ (fun hHeld => ?_); refine with_tabW laws_FnNearest.tab19 laws_FnNearest.bits19 (fun HT_ HW_ => ?_)
              generalize wr.drew = w117 at HO_3 BK408 BK411 HB hHeld ⊢
              refine pu_ (i := 0) (N := some 105) b8_103 HT_ ?_
              refine tk_ (i := 1) (N := some 106) b8_102 rfl rfl HT_ HW_ hHeld ?_
              refine pu_ (i := 2) (N := some 107) b8_101 HT_ ?_
              refine pu_ (i := 3) (N := some 108) b8_100 HT_ ?_
              refine un_ (i := 4) (N := some 109) b8_99 HT_ ?_
              refine un_ (i := 5) (N := some 110) b8_98 HT_ ?_
              refine un_ (i := 6) (N := some 111) b8_97 HT_ ?_
              refine un_ (i := 7) (N := some 112) b8_96 HT_ ?_
              refine un_ (i := 8) (N := some 113) b8_95 HT_ ?_
              refine un_ (i := 9) (N := some 114) b8_94 HT_ ?_
              refine un_ (i := 10) (N := some 115) b8_93 HT_ ?_
              refine un_ (i := 11) (N := some 116) b8_92 HT_ ?_
              refine un_ (i := 12) (N := some 117) b8_91 HT_ ?_
              refine un_ (i := 13) (N := some 118) b8_90 HT_ ?_
              refine un_ (i := 14) (N := some 119) b8_89 HT_ ?_
              refine un_ (i := 15) (N := some 120) b8_88 HT_ ?_
              refine un_ (i := 16) (N := some 121) b8_86 HT_ ?_
              refine un_ (i := 17) (N := some 122) b8_84 HT_ ?_
              refine un_ (i := 18) (N := some 123) b8_82 HT_ ?_
              refine un_ (i := 19) (N := some 124) b8_81 HT_ ?_
              refine un_ (i := 20) (N := some 125) b8_80 HT_ ?_
              refine un_ (i := 21) (N := some 126) b8_79 HT_ ?_
              refine un_ (i := 22) (N := some 127) b8_78 HT_ ?_
              refine un_ (i := 23) (N := some 128) b8_77 HT_ ?_
              refine un_ (i := 24) (N := some 129) b8_76 HT_ ?_
              refine un_ (i := 25) (N := some 130) b8_75 HT_ ?_
              refine un_ (i := 26) (N := some 131) b8_74 HT_ ?_
              refine un_ (i := 27) (N := some 132) b8_73 HT_ ?_
              refine un_ (i := 28) (N := some 133) b8_72 HT_ ?_
              refine un_ (i := 29) (N := some 134) b8_71 HT_ ?_
              refine un_ (i := 30) (N := some 135) b8_70 HT_ ?_
              refine un_ (i := 31) (N := some 136) b8_69 HT_ ?_
              refine un_ (i := 32) (N := some 137) b8_68 HT_ ?_
              refine un_ (i := 33) (N := some 138) b8_67 HT_ ?_
              refine un_ (i := 34) (N := some 139) b8_66 HT_ ?_
              refine un_ (i := 35) (N := some 140) b8_65 HT_ ?_
              refine un_ (i := 36) (N := some 141) b8_63 HT_ ?_
              refine un_ (i := 37) (N := some 142) b8_61 HT_ ?_
              refine un_ (i := 38) (N := some 143) b8_59 HT_ ?_
              refine un_ (i := 39) (N := some 144) b8_57 HT_ ?_
              refine un_ (i := 40) (N := some 145) b8_56 HT_ ?_
              refine un_ (i := 41) (N := some 146) b8_55 HT_ ?_
              refine un_ (i := 42) (N := some 147) b8_54 HT_ ?_
              refine un_ (i := 43) (N := some 148) b8_53 HT_ ?_
              refine un_ (i := 44) (N := some 149) b8_52 HT_ ?_
              refine un_ (i := 45) (N := some 150) b8_51 HT_ ?_
              refine un_ (i := 46) (N := some 151) b8_50 HT_ ?_
              refine un_ (i := 47) (N := some 152) b8_49 HT_ ?_
              refine un_ (i := 48) (N := some 153) b8_48 HT_ ?_
              refine un_ (i := 49) (N := some 154) b8_47 HT_ ?_
              refine un_ (i := 50) (N := some 155) b8_46 HT_ ?_
              refine un_ (i := 51) (N := some 156) b8_44 HT_ ?_
              refine un_ (i := 52) (N := some 157) b8_42 HT_ ?_
              refine un_ (i := 53) (N := some 158) b8_40 HT_ ?_
              refine un_ (i := 54) (N := some 159) b8_38 HT_ ?_
              refine un_ (i := 55) (N := some 160) b8_37 HT_ ?_
              refine un_ (i := 56) (N := some 161) b8_36 HT_ ?_
              refine un_ (i := 57) (N := some 162) b8_35 HT_ ?_
              refine pu_ (i := 58) (N := some 163) b8_34 HT_ ?_
              refine done_ (done_of HT_.out KR) ?_
              try go_wp2
              go_meet
              case rel => exact ⟨_, (false), (by first | rfl | (simp; done) | (simp [*]; done)), H', ⟨by have := HJ5.out; have := HJ24.out; have := HK3.out; first | omega | exact Nat.le_refl _⟩, ⟨PS HO_3⟩, ⟨PK BK408⟩, ⟨PK BK411⟩, ⟨PB⟩⟩
           case rest =>
            clear HC85
            (try clear c1); (try clear p2); (try clear c8); (try clear c16); (try clear c86); (try clear c86b0); (try clear c87); (try clear c88)
            obtain ⟨kq, x163_84, rfl, HA, HJ84, HO_3, BK408, BK411, HB⟩ := hcut
            cases kq with
            | zero => exact absurd HA.out (by simp [laws_FnNearest.j4])
            | succ kj84 =>
             have H := HA.out
             clear HA
             simp only [laws_FnNearest.j4] at H
             by_cases c118 : x163_84 = true
             ·subst c118
              have H1 : (some false) = some r := by rw [if_pos rfl] at H; exact H
              clear H
              have H := H1
              clear H1
              cases (Option.some.inj H).trans hT_
             ·replace c118 := Bool.eq_false_iff.mpr c118
              subst c118
              have H1 : ((impl_ResourceBy.f t401 t409 t410).bind fun bt428 => (if bt428.1 = 4 then (if ((decide (t410 ≥ 0)) != (decide (t410 < 0))) = true then ((impl_IsBetter.f t409 t410 3 (-1)).bind fun t435 => (some (t435 == (decide (t410 ≥ 0))))) else (some false)) else (if ((decide (t410 ≥ 0)) != false) = true then ((impl_IsBetter.f t409 t410 3 (-1)).bind fun t436 => (some (t436 == (decide (t410 ≥ 0))))) else (some false)))) = some r := by rw [if_neg (show ¬ (false = true) by decide)] at H; exact H
              clear H
              have H := H1
              clear H1
              replace H := Option.bind_eq_some_iff.mp H
              obtain ⟨⟨t428, t429, t432, t433, t434⟩, A1190, H⟩ := H
              replace H : (if t428 = 4 then (if ((decide (t410 ≥ 0)) != (decide (t410 < 0))) = true then ((impl_IsBetter.f t409 t410 3 (-1)).bind fun t435 => (some (t435 == (decide (t410 ≥ 0))))) else (some false)) else (if ((decide (t410 ≥ 0)) != false) = true then ((impl_IsBetter.f t409 t410 3 (-1)).bind fun t436 => (some (t436 == (decide (t410 ≥ 0))))) else (some false))) = some r := H
              have A119 := Aside0.mk A1190
              clear A1190
              by_cases c120 : t428 = 4
              ·rw [if_pos c120] at H
               have c120b0 : (t428 == 4) = true := beq_iff_eq.mpr c120
               have c120b1 : (t428 != 4) = false := bne_eq_false_iff_eq.mpr c120
               clear c120
               by_cases c121 : ((decide (t410 ≥ 0)) != (decide (t410 < 0))) = true
               ·rw [if_pos c121] at H
                have c121b0 : ((decide (t410 ≥ 0)) != (decide (t410 < 0))) = true := c121
                (try (have c121b1 : decide ((decide (t410 ≥ 0)) = (decide (t410 < 0))) = false := by simpa using c121))
                (try (have c121b2 : ((decide (t410 ≥ 0)) == (decide (t410 < 0))) = false := by simpa using c121))
                (try (have c121b3 : ¬ ((decide (t410 ≥ 0)) = (decide (t410 < 0))) := by simpa using c121))
                clear c121
                replace H := Option.bind_eq_some_iff.mp H
                obtain ⟨t435, A1220, H⟩ := H
                replace H : (some (t435 == (decide (t410 ≥ 0)))) = some r := H
                have A122 := Aside0.mk A1220
                clear A1220
                obtain rfl := Option.some.inj H
                try go_wp2_with (first | ((with_reducible refine gate_dst (N := 11) rfl ?_); refine bx_ (N := 11) #[.int .i64 0, .int .i64 0] 30 ?_; intro gb427 hg w123 hbox hb; replace HO_3 := Sb HO_3 hb; have BK427 := ak hbox; have GW427 := gy hg HB; have GE427 := gy hg HB; replace HB := bs HB hb; have NB408_427 := gm hg BK408; have NB427_408 := gn hg BK408; replace BK408 := kf BK408 hb; have NB411_427 := gm hg BK411; have NB427_411 := gn hg BK411; replace BK411 := kf BK411 hb; clear hb hbox hg; have hnb124 := NB427_408.out; have hnc124 := NB408_427.out; have hnb125 := NB427_411.out; have hnc125 := NB411_427.out; obtain ⟨_, _, _, _⟩ := bc2 BK427))
                generalize hW_ : ((w123.setCell ⟨gb427, 0, none⟩ (.int .i64 3)).setCell ⟨gb427, 1, none⟩ (.int .i64 (-1))) = w127
                replace HO_3 : Aside0 (Kd.S k40 40 w127 w.heap.size (fun _ => True) (.slice Ao10 t401.length co10) t401) := ⟨by rw [← hW_]; exact SX (St HO_3.out BK427) (fun _ hk => trivial)⟩
                replace BK408 := BE hW_ BK408
                replace BK411 := BE hW_ BK411
                replace BK427 : Aside0 (w127.heap[gb427]? = some (.cells #[.int .i64 3, .int .i64 (-1)] 30 (0, 0))) := BP hW_ BK427
                replace HB := BL hW_ HB
                (try clear hW_)
                replace HO_3 := ak (Kd.S_drew HO_3.out)
                replace BK408 := ak (blk_drew BK408.out)
                replace BK411 := ak (blk_drew BK411.out)
                replace BK427 := ak (blk_drew BK427.out)
                replace HB := ak (below_drew1 HB.out)
                as_aux_lemma =>
                 refine start_ (n := 24) (S := fun w' => w'.cell? ⟨gb411, 0, none⟩ = some (.int .i64 t409) ∧ w'.cell? ⟨gb411, 1, none⟩ = some (.int .i64 t410) ∧ w'.cell? ⟨gb427, 0, none⟩ = some (.int .i64 3) ∧ w'.cell? ⟨gb427, 1, none⟩ = some (.int .i64 (-1))) (ds := []) b8_33 KR rfl rfl ⟨(blk_cell BK411.out 0).trans rfl, (blk_cell BK411.out 1).trans rfl, (blk_cell BK427.out 0).trans rfl, (blk_cell BK427.out 1).trans rfl⟩ (fun hHeld => ?_); refine with_tabW laws_FnNearest.tab22 laws_FnNearest.bits22 (fun HT_ HW_ => ?_)
                 generalize w127.drew = w128 at HO_3 BK408 BK411 BK427 HB hHeld ⊢
                 refine pu_ (i := 0) (N := some 165) b8_32 HT_ ?_
                 refine pu_ (i := 3) (N := some 168) b8_31 HT_ ?_
                 refine tk_ (i := 1) (N := some 166) b8_30 rfl rfl HT_ HW_ hHeld ?_
                 refine pu_ (i := 2) (N := some 167) b8_29 HT_ ?_
                 refine tk_ (i := 4) (N := some 169) b8_28 rfl rfl HT_ HW_ hHeld ?_
                 refine one_ (i := 5) (N := some 170) b8_27 rfl rfl (one_of HT_.out KR) (by decide) (fun K hK => ?_)
                 refine goes_ Try.func17 KR rfl #[.slice Ao10 t401.length co10, .agg #[.int .i64 t409, .int .i64 t410]] (by rfl) rfl rfl AR ?_
                 with_reducible refine (impl_ResourceBy.calls _ _ t401 t409 t410 t428 t429 t432 t433 t434 _ ?side1 ?side2 A119.out).mono ?_
                 (case side1 => exact CR ((Kd.S_reads' HO_3.out).2.2))
                 (case side2 => exact (Kd.S_reads' HO_3.out).2.1)
                 rintro e w129 ⟨v430, rfl, ho0, hb⟩
                 refine ⟨_, rfl, ?_⟩
                 replace HO_3 := ak (Kd.S_elder' (PS HO_3) (Kd.R_base ho0) hb)
                 have HO431 := Rn0 ho0 HB
                 replace BK408 := kf BK408 hb
                 replace BK411 := kf BK411 hb
                 replace BK427 := kf BK427 hb
                 replace HB := bs HB hb
                 (try clear hb)
                 (try clear hb2)
                 (try clear hk)
                 (try clear hi)
                 (try clear ho0)
                 obtain ⟨Ao430_, co430_, eo430_⟩ := Kd.R_slice HO431.out
                 subst eo430_
                 refine hK.out _ _ ⟨(blk_cell BK411.out 0).trans rfl, (blk_cell BK411.out 1).trans rfl, (blk_cell BK427.out 0).trans rfl, (blk_cell BK427.out 1).trans rfl⟩ (fun hHeld => ?_)
                 clear hK K
                 refine norm_ (a' := ?_) ?_ ?_
                 rotate_left
                 ·show Act.put _ (some 170) _ = _
                  simp only [Act.put, List.setIfInBounds_toArray, List.set_cons_zero, List.set_cons_succ, i64_w, i32_w]
                  rfl
                 refine pu_ (i := 6) (N := some 171) b8_26 HT_ ?_
                 refine pu_ (i := 7) (N := some 172) b8_25 HT_ ?_
                 refine pu_ (i := 8) (N := some 173) b8_24 HT_ ?_
                 refine pu_ (i := 9) (N := some 174) b8_23 HT_ ?_
                 refine tk_ (i := 10) (N := some 175) b8_22 rfl rfl HT_ HW_ hHeld ?_
                 refine pu_ (i := 11) (N := some 176) b8_21 HT_ ?_
                 refine pu_ (i := 12) (N := some 177) b8_20 HT_ ?_
                 refine pu_ (i := 13) (N := some 178) b8_19 HT_ ?_
                 refine pu_ (i := 14) (N := some 179) b8_18 HT_ ?_
                 refine pu_ (i := 18) (N := some 183) b8_17 HT_ ?_
                 refine tk_ (i := 15) (N := some 180) b8_16 rfl rfl HT_ HW_ hHeld ?_
                 refine take_ (i := 16) (N := some 181) (v := ?_) (a' := ?_) b8_15 rfl rfl (take_ofW HT_.out HW_.out KR) (fun _ _ _ h => h) (Or.inl ⟨by rfl, ?_⟩) hHeld ?_ ?_
                 rotate_left
                 ·rintro w' ⟨s0, s1, s2, s3⟩
                  go_simp
                  with_reducible rfl
                 rotate_left
                 ·simp only [Act.put, List.setIfInBounds_toArray, List.set_cons_zero, List.set_cons_succ, i64_w, i32_w]
                  rfl
                 refine tk_ (i := 19) (N := some 184) b8_14 rfl rfl HT_ HW_ hHeld ?_
                 refine pu_ (i := 20) (N := some 185) b8_13 HT_ ?_
                 refine one_ (i := 17) (N := some 182) b8_12 rfl rfl (one_of HT_.out KR) (by decide) (fun K hK => ?_)
                 refine goes_ Try.func18 KR rfl #[.agg #[.int .i64 t409, .int .i64 t410], .agg #[.int .i64 3, .int .i64 (-1)]] (by rfl) rfl rfl AR ?_
                 with_reducible refine (impl_IsBetter.calls t409 t410 3 (-1) t435 _ A122.out).mono ?_
                 rintro e w130 ⟨rfl, hb⟩
                 refine ⟨_, rfl, ?_⟩
                 replace HO_3 := Sb HO_3 hb
                 replace HO431 := Rb HO431 hb
                 replace BK408 := kf BK408 hb
                 replace BK411 := kf BK411 hb
                 replace BK427 := kf BK427 hb
                 replace HB := bs HB hb
                 (try clear hb)
                 (try clear hb2)
                 (try clear hk)
                 (try clear hi)
                 refine hK.out _ _ ⟨(blk_cell BK411.out 0).trans rfl, (blk_cell BK411.out 1).trans rfl, (blk_cell BK427.out 0).trans rfl, (blk_cell BK427.out 1).trans rfl⟩ (fun hHeld => ?_)
                 clear hK K
                 refine norm_ (a' := ?_) ?_ ?_
                 rotate_left
                 ·show Act.put _ (some 182) _ = _
                  simp only [Act.put, List.setIfInBounds_toArray, List.set_cons_zero, List.set_cons_succ, i64_w, i32_w]
                  rfl
                 refine pu_ (i := 21) (N := some 186) b8_11 HT_ ?_
                 refine pu_ (i := 22) (N := some 187) b8_10 HT_ ?_
                 refine pu_ (i := 23) (N := some 2) b8_9 HT_ ?_
                 refine done_ (done_of HT_.out KR) ?_
                 try go_wp2
                 go_ret
                 exact ⟨RT, PB⟩
               ·rw [if_neg c121] at H
                have c121b0 : ((decide (t410 ≥ 0)) != (decide (t410 < 0))) = false := by simpa using c121
                (try (have c121b1 : decide ((decide (t410 ≥ 0)) = (decide (t410 < 0))) = true := by simpa using c121))
                (try (have c121b2 : ((decide (t410 ≥ 0)) == (decide (t410 < 0))) = true := by simpa using c121))
                clear c121
                cases (Option.some.inj H).trans hT_
              ·rw [if_neg c120] at H
               have c120b0 : (t428 == 4) = false := beq_eq_false_iff_ne.mpr c120
               have c120b1 : (t428 != 4) = true := bne_iff_ne.mpr c120
               by_cases c138 : ((decide (t410 ≥ 0)) != false) = true
               ·rw [if_pos c138] at H
                have c138b0 : ((decide (t410 ≥ 0)) != false) = true := c138
                (try (have c138b1 : decide ((decide (t410 ≥ 0)) = false) = false := by simpa using c138))
                (try (have c138b2 : ((decide (t410 ≥ 0)) == false) = false := by simpa using c138))
                (try (have c138b3 : ¬ ((decide (t410 ≥ 0)) = false) := by simpa using c138))
                clear c138
                replace H := Option.bind_eq_some_iff.mp H
                obtain ⟨t436, A1390, H⟩ := H
                replace H : (some (t436 == (decide (t410 ≥ 0)))) = some r := H
                have A139 := Aside0.mk A1390
                clear A1390
                obtain rfl := Option.some.inj H
                try go_wp2_with (first | ((with_reducible refine gate_dst (N := 11) rfl ?_); refine bx_ (N := 11) #[.int .i64 0, .int .i64 0] 30 ?_; intro gb427 hg w140 hbox hb; replace HO_3 := Sb HO_3 hb; have BK427 := ak hbox; have GW427 := gy hg HB; have GE427 := gy hg HB; replace HB := bs HB hb; have NB408_427 := gm hg BK408; have NB427_408 := gn hg BK408; replace BK408 := kf BK408 hb; have NB411_427 := gm hg BK411; have NB427_411 := gn hg BK411; replace BK411 := kf BK411 hb; clear hb hbox hg; have hnb141 := NB427_408.out; have hnc141 := NB408_427.out; have hnb142 := NB427_411.out; have hnc142 := NB411_427.out; obtain ⟨_, _, _, _⟩ := bc2 BK427))
                generalize hW_ : ((w140.setCell ⟨gb427, 0, none⟩ (.int .i64 3)).setCell ⟨gb427, 1, none⟩ (.int .i64 (-1))) = w144
                replace HO_3 : Aside0 (Kd.S k40 40 w144 w.heap.size (fun _ => True) (.slice Ao10 t401.length co10) t401) := ⟨by rw [← hW_]; exact SX (St HO_3.out BK427) (fun _ hk => trivial)⟩
                replace BK408 := BE hW_ BK408
                replace BK411 := BE hW_ BK411
                replace BK427 : Aside0 (w144.heap[gb427]? = some (.cells #[.int .i64 3, .int .i64 (-1)] 30 (0, 0))) := BP hW_ BK427
                replace HB := BL hW_ HB
                (try clear hW_)
                replace HO_3 := ak (Kd.S_drew HO_3.out)
                replace BK408 := ak (blk_drew BK408.out)
                replace BK411 := ak (blk_drew BK411.out)
                replace BK427 := ak (blk_drew BK427.out)
                replace HB := ak (below_drew1 HB.out)
                as_aux_lemma =>
                 refine start_ (n := 24) (S := fun w' => w'.cell? ⟨gb411, 0, none⟩ = some (.int .i64 t409) ∧ w'.cell? ⟨gb411, 1, none⟩ = some (.int .i64 t410) ∧ w'.cell? ⟨gb427, 0, none⟩ = some (.int .i64 3) ∧ w'.cell? ⟨gb427, 1, none⟩ = some (.int .i64 (-1))) (ds := []) b8_33 KR rfl rfl ⟨(blk_cell BK411.out 0).trans rfl, (blk_cell BK411.out 1).trans rfl, (blk_cell BK427.out 0).trans rfl, (blk_cell BK427.out 1).trans rfl⟩ (fun hHeld => ?_); refine with_tabW laws_FnNearest.tab22 laws_FnNearest.bits22 (fun HT_ HW_ => ?_)
                 generalize w144.drew = w145 at HO_3 BK408 BK411 BK427 HB hHeld ⊢
                 refine pu_ (i := 0) (N := some 165) b8_32 HT_ ?_
                 refine pu_ (i := 3) (N := some 168) b8_31 HT_ ?_
                 refine tk_ (i := 1) (N := some 166) b8_30 rfl rfl HT_ HW_ hHeld ?_
                 refine pu_ (i := 2) (N := some 167) b8_29 HT_ ?_
                 refine tk_ (i := 4) (N := some 169) b8_28 rfl rfl HT_ HW_ hHeld ?_
                 refine one_ (i := 5) (N := some 170) b8_27 rfl rfl (one_of HT_.out KR) (by decide) (fun K hK => ?_)
                 refine goes_ Try.func17 KR rfl #[.slice Ao10 t401.length co10, .agg #[.int .i64 t409, .int .i64 t410]] (by rfl) rfl rfl AR ?_
                 with_reducible refine (impl_ResourceBy.calls _ _ t401 t409 t410 t428 t429 t432 t433 t434 _ ?side1 ?side2 A119.out).mono ?_
                 (case side1 => exact CR ((Kd.S_reads' HO_3.out).2.2))
                 (case side2 => exact (Kd.S_reads' HO_3.out).2.1)
                 rintro e w146 ⟨v430, rfl, ho0, hb⟩
                 refine ⟨_, rfl, ?_⟩
                 replace HO_3 := ak (Kd.S_elder' (PS HO_3) (Kd.R_base ho0) hb)
                 have HO431 := Rn0 ho0 HB
                 replace BK408 := kf BK408 hb
                 replace BK411 := kf BK411 hb
                 replace BK427 := kf BK427 hb
                 replace HB := bs HB hb
                 (try clear hb)
                 (try clear hb2)
                 (try clear hk)
                 (try clear hi)
                 (try clear ho0)
                 obtain ⟨Ao430_, co430_, eo430_⟩ := Kd.R_slice HO431.out
                 subst eo430_
                 refine hK.out _ _ ⟨(blk_cell BK411.out 0).trans rfl, (blk_cell BK411.out 1).trans rfl, (blk_cell BK427.out 0).trans rfl, (blk_cell BK427.out 1).trans rfl⟩ (fun hHeld => ?_)
                 clear hK K
                 refine norm_ (a' := ?_) ?_ ?_
                 rotate_left
                 ·show Act.put _ (some 170) _ = _
                  simp only [Act.put, List.setIfInBounds_toArray, List.set_cons_zero, List.set_cons_succ, i64_w, i32_w]
                  rfl
                 refine pu_ (i := 6) (N := some 171) b8_26 HT_ ?_
                 refine pu_ (i := 7) (N := some 172) b8_25 HT_ ?_
                 refine pu_ (i := 8) (N := some 173) b8_24 HT_ ?_
                 refine un_ (i := 9) (N := some 174) b8_23 HT_ ?_
                 refine un_ (i := 10) (N := some 175) b8_22 HT_ ?_
                 refine un_ (i := 11) (N := some 176) b8_21 HT_ ?_
                 refine pu_ (i := 12) (N := some 177) b8_20 HT_ ?_
                 refine pu_ (i := 13) (N := some 178) b8_19 HT_ ?_
                 refine pu_ (i := 14) (N := some 179) b8_18 HT_ ?_
                 refine pu_ (i := 18) (N := some 183) b8_17 HT_ ?_
                 refine tk_ (i := 15) (N := some 180) b8_16 rfl rfl HT_ HW_ hHeld ?_
                 refine take_ (i := 16) (N := some 181) (v := ?_) (a' := ?_) b8_15 rfl rfl (take_ofW HT_.out HW_.out KR) (fun _ _ _ h => h) (Or.inl ⟨by rfl, ?_⟩) hHeld ?_ ?_
                 rotate_left
                 ·rintro w' ⟨s0, s1, s2, s3⟩
                  go_simp
                  with_reducible rfl
                 rotate_left
                 ·simp only [Act.put, List.setIfInBounds_toArray, List.set_cons_zero, List.set_cons_succ, i64_w, i32_w]
                  rfl
                 refine tk_ (i := 19) (N := some 184) b8_14 rfl rfl HT_ HW_ hHeld ?_
                 refine pu_ (i := 20) (N := some 185) b8_13 HT_ ?_
                 refine one_ (i := 17) (N := some 182) b8_12 rfl rfl (one_of HT_.out KR) (by decide) (fun K hK => ?_)
                 refine goes_ Try.func18 KR rfl #[.agg #[.int .i64 t409, .int .i64 t410], .agg #[.int .i64 3, .int .i64 (-1)]] (by rfl) rfl rfl AR ?_
                 with_reducible refine (impl_IsBetter.calls t409 t410 3 (-1) t436 _ A139.out).mono ?_
                 rintro e w147 ⟨rfl, hb⟩
                 refine ⟨_, rfl, ?_⟩
                 replace HO_3 := Sb HO_3 hb
                 replace HO431 := Rb HO431 hb
                 replace BK408 := kf BK408 hb
                 replace BK411 := kf BK411 hb
                 replace BK427 := kf BK427 hb
                 replace HB := bs HB hb
                 (try clear hb)
                 (try clear hb2)
                 (try clear hk)
                 (try clear hi)
                 refine hK.out _ _ ⟨(blk_cell BK411.out 0).trans rfl, (blk_cell BK411.out 1).trans rfl, (blk_cell BK427.out 0).trans rfl, (blk_cell BK427.out 1).trans rfl⟩ (fun hHeld => ?_)
                 clear hK K
                 refine norm_ (a' := ?_) ?_ ?_
                 rotate_left
                 ·show Act.put _ (some 182) _ = _
                  simp only [Act.put, List.setIfInBounds_toArray, List.set_cons_zero, List.set_cons_succ, i64_w, i32_w]
                  rfl
                 refine pu_ (i := 21) (N := some 186) b8_11 HT_ ?_
                 refine pu_ (i := 22) (N := some 187) b8_10 HT_ ?_
                 refine pu_ (i := 23) (N := some 2) b8_9 HT_ ?_
                 refine done_ (done_of HT_.out KR) ?_
                 try go_wp2
                 go_ret
                 exact ⟨RT, PB⟩
               ·rw [if_neg c138] at H
                have c138b0 : ((decide (t410 ≥ 0)) != false) = false := by simpa using c138
                (try (have c138b1 : decide ((decide (t410 ≥ 0)) = false) = true := by simpa using c138))
                (try (have c138b2 : ((decide (t410 ≥ 0)) == false) = true := by simpa using c138))
                clear c138
                cases (Option.some.inj H).trans hT_
/-- THE ONE PURE STATEMENT of laws_FnNearest: yours. -/
def laws_FnNearest.Pure : Prop := ∀ (l0 : List Int), l0.length ≤ maxLen → l0.length * 1 ≤ 140737488351232 → (∀ x ∈ l0, (Lit.int .u8 x).wf = true) → ∃ k, laws_FnNearest.f k l0 = some true
theorem laws_FnNearest.walk (P : laws_FnNearest.Pure) (a0 : Option Addr) (len0 cap0 : Nat) (z0 : List Int) (w : World) (w0 : (a0 = none ∧ len0 = 0 ∧ cap0 = 0 ∧ z0 = []) ∨ ∃ x, a0 = some x ∧ len0 ≤ cap0 ∧ cap0 ≤ maxLen ∧ z0.length = cap0 ∧ (∀ i, i < z0.length → w.cell? (x.add i) = some (.int .u8 (z0.getD i 0))) ∧ ∀ n ∈ z0, (Lit.int .u8 n).wf = true) (y0 : len0 * 1 ≤ 140737488351232) :
    Calls Try.prog 3 #[.slice a0 len0 cap0] w fun e w' => e = .returned (.bool true) ∧ Below w.heap.size w w' := by
  obtain ⟨l0, rfl, hr0, hm0, hw0, hc0⟩ := ReadsInt.ofRowC w0
  obtain ⟨k, h⟩ := P l0 hm0 y0 hw0
  refine (laws_FnNearest.calls k _ _ l0 true w (Kd.C_of_reads (d := (0 : Int)) (h1 := fun _ => rfl) hr0) hc0 rfl h).mono ?_
  rintro e w' ⟨rfl, hd⟩
  exact ⟨rfl, hd⟩

end Go.Proofs.Ytgcamebeonodeaa.MFnNearest
