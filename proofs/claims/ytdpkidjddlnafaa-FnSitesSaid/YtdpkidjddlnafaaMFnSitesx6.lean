-- Written by a program of this session out of the translation's own print. Not trusted: Lean checks it.
import Derived.Test.YtdpkidjddlnafaaShr
import Derived.Test.YtdpkidjddlnafaaMFnSitesx0
import Derived.Test.YtdpkidjddlnafaaMFnSitesx1
import Derived.Test.YtdpkidjddlnafaaMFnSitesx2
import Derived.Test.YtdpkidjddlnafaaMFnSitesx3
import Derived.Test.YtdpkidjddlnafaaMFnSitesx4
import Derived.Test.YtdpkidjddlnafaaMFnSitesx5
namespace Go.Proofs.Ytdpkidjddlnafaa.MFnSites
open Go.RowKit Go.Proofs.YtdpkidjddlnafaaW.PrintWords Go.Proofs.YtdpkidjddlnafaaW.PrintLast Go.Proofs.YtdpkidjddlnafaaW.PrintMore
attribute [local go_sem] max2_int min2_int max_two min_two max_three min_three max_four min_four   -- for this text's walks alone
set_option linter.unusedVariables false
set_option linter.unusedSimpArgs false

attribute [local go_sem high] eqA26
abbrev b6_27 : Array Bool := mkB 28 268435455
abbrev b6_28 : Array Bool := mkB 28 134217727
abbrev b6_29 : Array Bool := mkB 28 67108863
abbrev b6_30 : Array Bool := mkB 28 33554431
abbrev b6_31 : Array Bool := mkB 28 16777215
abbrev b6_32 : Array Bool := mkB 28 8388607
abbrev b6_33 : Array Bool := mkB 28 4194303
abbrev b6_34 : Array Bool := mkB 28 2097151
abbrev b6_35 : Array Bool := mkB 28 1048575
abbrev b6_36 : Array Bool := mkB 28 524287
abbrev b6_37 : Array Bool := mkB 28 262143
abbrev b6_38 : Array Bool := mkB 28 131071
abbrev b6_39 : Array Bool := mkB 28 65535
abbrev b6_40 : Array Bool := mkB 28 32767
abbrev b6_41 : Array Bool := mkB 28 28671
abbrev b6_42 : Array Bool := mkB 28 16383
abbrev b6_43 : Array Bool := mkB 28 12287
abbrev b6_44 : Array Bool := mkB 28 8191
abbrev b6_45 : Array Bool := mkB 28 4095
abbrev b6_46 : Array Bool := mkB 28 2047
abbrev b6_47 : Array Bool := mkB 28 1023
abbrev b6_48 : Array Bool := mkB 28 511
abbrev b6_49 : Array Bool := mkB 28 255
abbrev b6_50 : Array Bool := mkB 28 127
abbrev b6_51 : Array Bool := mkB 28 95
abbrev b6_52 : Array Bool := mkB 28 63
abbrev b6_53 : Array Bool := mkB 28 87
abbrev b6_54 : Array Bool := mkB 28 31
abbrev b6_55 : Array Bool := mkB 28 23
abbrev b6_56 : Array Bool := mkB 28 15
abbrev b6_57 : Array Bool := mkB 28 7
abbrev b6_58 : Array Bool := mkB 28 3
abbrev b6_59 : Array Bool := mkB 28 1
abbrev b6_60 : Array Bool := #[false, false, false, false, false, false, false, false, false, false, false, false, false, false, false, false, false, false, false, false, false, false, false, false, false, false, false, false]
abbrev b6_61 : Array Bool := mkB 33 8589934591
abbrev b6_62 : Array Bool := mkB 33 4294967295
abbrev b6_63 : Array Bool := mkB 33 2147483647
abbrev b6_64 : Array Bool := mkB 33 1073741823
abbrev b6_65 : Array Bool := mkB 33 536870911
abbrev b6_66 : Array Bool := mkB 33 268435455
abbrev b6_67 : Array Bool := mkB 33 134217727
abbrev b6_68 : Array Bool := mkB 33 67108863
abbrev b6_69 : Array Bool := mkB 33 33554431
abbrev b6_70 : Array Bool := mkB 33 16777215
abbrev b6_71 : Array Bool := mkB 33 8388607
abbrev b6_72 : Array Bool := mkB 33 4194303
abbrev b6_73 : Array Bool := mkB 33 2097151
abbrev b6_74 : Array Bool := mkB 33 1048575
abbrev b6_75 : Array Bool := mkB 33 524287
abbrev b6_76 : Array Bool := mkB 33 262143
abbrev b6_77 : Array Bool := mkB 33 131071
abbrev b6_78 : Array Bool := mkB 33 65535
abbrev b6_79 : Array Bool := mkB 33 63487
abbrev b6_80 : Array Bool := mkB 33 32767
abbrev b6_81 : Array Bool := mkB 33 30719
abbrev b6_82 : Array Bool := mkB 33 16383
abbrev b6_83 : Array Bool := mkB 33 14335
abbrev b6_84 : Array Bool := mkB 33 8191
abbrev b6_85 : Array Bool := mkB 33 6143
abbrev b6_86 : Array Bool := mkB 33 4095
abbrev b6_87 : Array Bool := mkB 33 2047
abbrev b6_88 : Array Bool := mkB 33 1023
abbrev b6_89 : Array Bool := mkB 33 511
abbrev b6_90 : Array Bool := mkB 33 255
abbrev b6_91 : Array Bool := mkB 33 127
abbrev b6_92 : Array Bool := mkB 33 63
abbrev b6_93 : Array Bool := mkB 33 31
abbrev b6_94 : Array Bool := mkB 33 15
abbrev b6_95 : Array Bool := mkB 33 7
abbrev b6_96 : Array Bool := mkB 33 3
abbrev b6_97 : Array Bool := mkB 33 1
abbrev b6_98 : Array Bool := #[false, false, false, false, false, false, false, false, false, false, false, false, false, false, false, false, false, false, false, false, false, false, false, false, false, false, false, false, false, false, false, false, false]
/-! ### laws_FnSites: function 3 -/
mutual
def laws_FnSites.l0 : Nat → List Int → List (S98) → Int → List Int → Int → Int → Int → Int → Int → Int → List Int → Int → Int → Int → Option (Bool)
  | 0, _, _, _, _, _, _, _, _, _, _, _, _, _, _ => none
  | k + 1, x0, x3, x5, x7, x8, x9, x342000, x342001, x342002, x350000, x350001, x350002, x350003, x350004 => if x9 < (x7.length : Int) then (if 0 ≤ x9 then (if (rd x7 x9) ≤ x5 then (laws_FnSites.l0 k x0 x3 x5 x7 (rd x7 x9) (wrap64 (x9 + 1)) x342000 x342001 x342002 x350000 x350001 x350002 x350003 x350004) else (laws_FnSites.l0 k x0 x3 x5 x7 x8 (wrap64 (x9 + 1)) x342000 x342001 x342002 x350000 x350001 x350002 x350003 x350004)) else (none)) else (if x8 ≥ 0 then ((impl_AnswerAt.f k x3 x342000 x342001 x342002 x8).bind fun bt355 => ((impl_EqualResources.f k x350000 x350001 x350002 x350003 x350004 bt355.1 bt355.2.1 bt355.2.2.1 bt355.2.2.2.1 bt355.2.2.2.2).bind fun t362 => (if t362 = true then ((impl_IsSteady.f k x3 x342000 x342001 x342002 x8 x5).bind fun t363 => (if t363 = true then (if x8 < 0 then (laws_FnSites.j1 k x0 (x350000 != 4)) else (laws_FnSites.j1 k x0 false)) else (laws_FnSites.j1 k x0 true))) else (laws_FnSites.j1 k x0 true)))) else (if x8 < 0 then (laws_FnSites.j1 k x0 (x350000 != 4)) else (laws_FnSites.j1 k x0 false)))
def laws_FnSites.j1 : Nat → List Int → Bool → Option (Bool)
  | 0, _, _ => none
  | k + 1, x0, x76 => if x76 = true then (some false) else ((spec_DrawFollowAt.f k x0).bind fun bt364 => ((impl_FollowAt.f k bt364.1 bt364.2.1 bt364.2.2.1 bt364.2.2.2.1 bt364.2.2.2.2).bind fun bt372 => (laws_FnSites.l1 k bt364.1 bt364.2.2.2.2 bt372.2.2.2.2.2 0 bt364.2.1 bt364.2.2.1 bt364.2.2.2.1 bt372.1 bt372.2.1 bt372.2.2.1 bt372.2.2.2.1 bt372.2.2.2.2.1)))
def laws_FnSites.l1 : Nat → List (S98) → Int → List (S26) → Int → Int → Int → Int → Int → List Int → Int → Int → Int → Option (Bool)
  | 0, _, _, _, _, _, _, _, _, _, _, _, _ => none
  | k + 1, x10, x12, x14, x15, x372000, x372001, x372002, x383000, x383001, x383002, x383003, x383004 => if x15 < (x14.length : Int) then (laws_FnSites.l2 k x10 x12 x14 x15 0 x372000 x372001 x372002 x383000 x383001 x383002 x383003 x383004) else (if (x14.length : Int) ≥ 1 then (if (x14.length : Int) ≤ 5 then (if 0 < (x14.length : Int) then (some (((rd_T26 x14 0).f0) == x372000 && (((rd_T26 x14 0).f1) == x372001 && (((rd_T26 x14 0).f2) == x372002)))) else (none)) else (some false)) else (some false))
def laws_FnSites.l2 : Nat → List (S98) → Int → List (S26) → Int → Int → Int → Int → Int → Int → List Int → Int → Int → Int → Option (Bool)
  | 0, _, _, _, _, _, _, _, _, _, _, _, _, _ => none
  | k + 1, x10, x12, x14, x15, x16, x372000, x372001, x372002, x383000, x383001, x383002, x383003, x383004 => if x16 < x15 then (if 0 ≤ x15 then (if x15 < (x14.length : Int) then (if 0 ≤ x16 then (if x16 < (x14.length : Int) then (if (((rd_T26 x14 x15).f0) == ((rd_T26 x14 x16).f0) && (((rd_T26 x14 x15).f1) == ((rd_T26 x14 x16).f1) && (((rd_T26 x14 x15).f2) == ((rd_T26 x14 x16).f2)))) = true then (some false) else (laws_FnSites.l2 k x10 x12 x14 x15 (wrap64 (x16 + 1)) x372000 x372001 x372002 x383000 x383001 x383002 x383003 x383004)) else (none)) else (none)) else (none)) else (none)) else (if 0 ≤ x15 then (if x15 < (x14.length : Int) then ((impl_AnswerAt.f k x10 ((rd_T26 x14 x15).f0) ((rd_T26 x14 x15).f1) ((rd_T26 x14 x15).f2) x12).bind fun bt387 => (if (wrap64 (x15 + 1)) < (x14.length : Int) then (if bt387.1 = 3 then (if 0 ≤ (wrap64 (x15 + 1)) then (if (!(bt387.2.2.1 == ((rd_T26 x14 (wrap64 (x15 + 1))).f0)) || (!(bt387.2.2.2.1 == ((rd_T26 x14 (wrap64 (x15 + 1))).f1)) || (!(bt387.2.2.2.2 == ((rd_T26 x14 (wrap64 (x15 + 1))).f2))))) = true then (some false) else (if (wrap64 (x15 + 1)) = (x14.length : Int) then ((impl_EqualResources.f k bt387.1 bt387.2.1 bt387.2.2.1 bt387.2.2.2.1 bt387.2.2.2.2 x383000 x383001 x383002 x383003 x383004).bind fun t396 => (if t396 = true then (laws_FnSites.l1 k x10 x12 x14 (wrap64 (x15 + 1)) x372000 x372001 x372002 x383000 x383001 x383002 x383003 x383004) else (some false))) else (laws_FnSites.l1 k x10 x12 x14 (wrap64 (x15 + 1)) x372000 x372001 x372002 x383000 x383001 x383002 x383003 x383004))) else (none)) else (some false)) else (if (wrap64 (x15 + 1)) = (x14.length : Int) then ((impl_EqualResources.f k bt387.1 bt387.2.1 bt387.2.2.1 bt387.2.2.2.1 bt387.2.2.2.2 x383000 x383001 x383002 x383003 x383004).bind fun t397 => (if t397 = true then (laws_FnSites.l1 k x10 x12 x14 (wrap64 (x15 + 1)) x372000 x372001 x372002 x383000 x383001 x383002 x383003 x383004) else (some false))) else (laws_FnSites.l1 k x10 x12 x14 (wrap64 (x15 + 1)) x372000 x372001 x372002 x383000 x383001 x383002 x383003 x383004)))) else (none)) else (none))
end
def laws_FnSites.f (k : Nat) (l0 : List Int) : Option (Bool) := (laws_big.f l0).bind fun t333 => (if t333 = true then (some true) else ((spec_DrawAnswerAt.f k l0).bind fun bt334 => ((impl_AnswerAt.f k bt334.1 bt334.2.1 bt334.2.2.1 bt334.2.2.2.1 bt334.2.2.2.2).bind fun bt342 => ((impl_ChangesOf.f k bt334.1 bt334.2.1 bt334.2.2.1 bt334.2.2.2.1).bind fun t350 => (laws_FnSites.l0 k l0 bt334.1 bt334.2.2.2.2 t350 (-1) 0 bt334.2.1 bt334.2.2.1 bt334.2.2.2.1 bt342.1 bt342.2.1 bt342.2.2.1 bt342.2.2.2.1 bt342.2.2.2.2)))))
def laws_FnSites.T12 : Bool × List (List Nat × List Nat) := (true, [([], []), ([0], [0]), ([1], [1]), ([2], [2]), ([2], [2]), ([2], [2]), ([2], [2]), ([4, 5, 6, 2, 2], [2, 4, 5, 6]), ([3, 7, 7, 2], [2, 3, 7]), ([8, 2], [2, 8]), ([9, 8, 2], [2, 9]), ([10], [10]), ([10], [10]), ([10], [10]), ([10], [10]), ([11, 12, 13, 14, 10, 10], [10, 11, 12, 13, 14]), ([15, 10], [10, 15]), ([10, 16, 2], [2, 10, 16]), ([2, 17], [2, 17]), ([18, 15], [18]), ([19], [19]), ([20, 19], [19, 20]), ([21, 19, 19], [19, 21]), ([22], [22]), ([23, 22], [22, 23]), ([24, 22], [22, 24]), ([22, 25, 19], [19, 22, 25]), ([19, 26], [19, 26])])
def laws_FnSites.B12 : List Nat := [0, 1, 3, 7, 7, 7, 7, 119, 255, 511, 1023, 2047, 2047, 2047, 2047, 32767, 65535, 131071, 262143, 524287, 1048575, 2097151, 4194303, 8388607, 16777215, 33554431, 67108863, 134217727]
theorem laws_FnSites.tab12 : rtab .any (opsOf Try.f3 12) = laws_FnSites.T12 := by kernel_rfl
theorem laws_FnSites.bits12 : waitsOk laws_FnSites.T12.2 laws_FnSites.B12 = true := by kernel_rfl
def laws_FnSites.T22 : Bool × List (List Nat × List Nat) := (true, [([], []), ([], []), ([0, 1], [0, 1]), ([2], [2]), ([], []), ([], []), ([4, 5], [4, 5]), ([6], [6]), ([3, 7], [3, 7])])
def laws_FnSites.B22 : List Nat := [0, 0, 3, 7, 0, 0, 48, 112, 255]
theorem laws_FnSites.tab22 : rtab .any (opsOf Try.f3 22) = laws_FnSites.T22 := by kernel_rfl
theorem laws_FnSites.bits22 : waitsOk laws_FnSites.T22.2 laws_FnSites.B22 = true := by kernel_rfl
def laws_FnSites.T25 : Bool × List (List Nat × List Nat) := (true, [([], []), ([0], [0]), ([], []), ([2], [2]), ([1, 3], [1, 3]), ([4], [4]), ([5], [5]), ([6, 5], [5, 6]), ([7, 5], [5, 7]), ([8, 5, 5], [5, 8]), ([9], [9]), ([10, 9], [9, 10]), ([9], [9]), ([9], [9]), ([13, 9], [9, 13]), ([12, 14, 9], [9, 12, 14]), ([15, 9], [9, 15]), ([11, 16, 9], [9, 11, 16]), ([9, 17, 5], [5, 9, 17]), ([5, 18], [5, 18]), ([19, 9], [19]), ([20], [20]), ([21, 20], [20, 21]), ([20], [20]), ([23, 20], [20, 23]), ([22, 24, 20], [20, 22, 24]), ([25, 20, 20], [20, 25]), ([26], [26]), ([26], [26]), ([27, 28, 26, 26], [26, 27, 28]), ([29, 26], [26, 29]), ([26, 30, 20], [20, 26, 30]), ([20, 31], [20, 31])])
def laws_FnSites.B25 : List Nat := [0, 1, 0, 4, 15, 31, 63, 127, 255, 511, 1023, 2047, 1023, 1023, 9215, 29695, 62463, 131071, 262143, 524287, 1048575, 2097151, 4194303, 2097151, 10485759, 33554431, 67108863, 134217727, 134217727, 536870911, 1073741823, 2147483647, 4294967295]
theorem laws_FnSites.tab25 : rtab .any (opsOf Try.f3 25) = laws_FnSites.T25 := by kernel_rfl
theorem laws_FnSites.bits25 : waitsOk laws_FnSites.T25.2 laws_FnSites.B25 = true := by kernel_rfl
def laws_FnSites.T27 : Bool × List (List Nat × List Nat) := (true, [([], []), ([0], [0]), ([1], [1]), ([2], [2]), ([3], [3]), ([4, 3], [3, 4]), ([5, 3], [3, 5]), ([3, 6], [3, 6]), ([7, 3], [7]), ([8], [8]), ([9, 8], [8, 9]), ([10, 8], [8, 10]), ([8], [8]), ([11, 12, 8], [8, 11, 12]), ([8, 13], [8, 13]), ([14, 8, 0, 1, 2, 3, 4, 5, 6, 7, 8, 9, 10, 11, 12, 13, 14], [14])])
def laws_FnSites.B27 : List Nat := [0, 1, 3, 7, 15, 31, 63, 127, 255, 511, 1023, 2047, 511, 8191, 16383, 32767]
theorem laws_FnSites.tab27 : rtab .any (opsOf Try.f3 27) = laws_FnSites.T27 := by kernel_rfl
theorem laws_FnSites.bits27 : waitsOk laws_FnSites.T27.2 laws_FnSites.B27 = true := by kernel_rfl
set_option maxHeartbeats 8000000 in
set_option maxRecDepth 100000 in
theorem laws_FnSites.calls (k : Nat) (A0 : Option Addr) (c0 : Nat) (l0 : List Int) (r : Bool) (w : World) (hr0 : Kd.C (Kd.int .u8) w A0 l0.length l0) (hc0 : l0.length ≤ c0) (hT_ : r = true) (h : laws_FnSites.f k l0 = some r) :
  Calls Try.prog 3 #[.slice A0 l0.length c0] w fun e w' => e = .returned (.bool r) ∧ Below w.heap.size w w' := by
 have hu26 := Try.underlying26
 have hu31 := Try.underlying31
 have HR0 := Aside0.mk hr0
 have HC0 := Aside0.mk hc0
 clear hr0 hc0
 have HB := ak (Below.refl w.heap.size w)
 have H : ((laws_big.f l0).bind fun t333 => (if t333 = true then (some true) else ((spec_DrawAnswerAt.f k l0).bind fun bt334 => ((impl_AnswerAt.f k bt334.1 bt334.2.1 bt334.2.2.1 bt334.2.2.2.1 bt334.2.2.2.2).bind fun bt342 => ((impl_ChangesOf.f k bt334.1 bt334.2.1 bt334.2.2.1 bt334.2.2.2.1).bind fun t350 => (laws_FnSites.l0 k l0 bt334.1 bt334.2.2.2.2 t350 (-1) 0 bt334.2.1 bt334.2.2.1 bt334.2.2.2.1 bt342.1 bt342.2.1 bt342.2.2.1 bt342.2.2.2.1 bt342.2.2.2.2)))))) = some r := h
 clear h
 replace H := Option.bind_eq_some_iff.mp H
 obtain ⟨t333, A20, H⟩ := H
 replace H : (if t333 = true then (some true) else ((spec_DrawAnswerAt.f k l0).bind fun bt334 => ((impl_AnswerAt.f k bt334.1 bt334.2.1 bt334.2.2.1 bt334.2.2.2.1 bt334.2.2.2.2).bind fun bt342 => ((impl_ChangesOf.f k bt334.1 bt334.2.1 bt334.2.2.1 bt334.2.2.2.1).bind fun t350 => (laws_FnSites.l0 k l0 bt334.1 bt334.2.2.2.2 t350 (-1) 0 bt334.2.1 bt334.2.2.1 bt334.2.2.2.1 bt342.1 bt342.2.1 bt342.2.2.1 bt342.2.2.2.1 bt342.2.2.2.2))))) = some r := H
 have A2 := Aside0.mk A20
 clear A20
 by_cases c3 : t333 = true
 ·subst c3
  have H1 : (some true) = some r := by rw [if_pos rfl] at H; exact H
  clear H
  have H := H1
  clear H1
  obtain rfl := Option.some.inj H
  go_enter Try.func3, Try.ntmps3
  go_wp2_with (first | ((with_reducible refine gate_callee (f := 10) rfl ?_); refine goesL_ (some 19) rfl rfl Try.func10 KR rfl #[.slice A0 l0.length c0] rfl AR ?_; (with_reducible refine (laws_big.calls _ _ l0 true _ ?side1 ?side2 A2.out).mono ?_); (case side1 => exact CR (HR0.out)); (case side2 => exact HC0.out); rintro e w' ⟨rfl, ⟨nd, rfl⟩⟩; refine ⟨_, rfl, ?_⟩))
  go_ret
  exact ⟨RT, PB⟩
 ·replace c3 := Bool.eq_false_iff.mpr c3
  subst c3
  have H1 : ((spec_DrawAnswerAt.f k l0).bind fun bt334 => ((impl_AnswerAt.f k bt334.1 bt334.2.1 bt334.2.2.1 bt334.2.2.2.1 bt334.2.2.2.2).bind fun bt342 => ((impl_ChangesOf.f k bt334.1 bt334.2.1 bt334.2.2.1 bt334.2.2.2.1).bind fun t350 => (laws_FnSites.l0 k l0 bt334.1 bt334.2.2.2.2 t350 (-1) 0 bt334.2.1 bt334.2.2.1 bt334.2.2.2.1 bt342.1 bt342.2.1 bt342.2.2.1 bt342.2.2.2.1 bt342.2.2.2.2)))) = some r := by rw [if_neg (show ¬ (false = true) by decide)] at H; exact H
  clear H
  have H := H1
  clear H1
  replace H := Option.bind_eq_some_iff.mp H
  obtain ⟨⟨t334, t337, t338, t339, t340⟩, A40, H⟩ := H
  replace H : ((impl_AnswerAt.f k t334 t337 t338 t339 t340).bind fun bt342 => ((impl_ChangesOf.f k t334 t337 t338 t339).bind fun t350 => (laws_FnSites.l0 k l0 t334 t340 t350 (-1) 0 t337 t338 t339 bt342.1 bt342.2.1 bt342.2.2.1 bt342.2.2.2.1 bt342.2.2.2.2))) = some r := H
  have A4 := Aside0.mk A40
  clear A40
  replace H := Option.bind_eq_some_iff.mp H
  obtain ⟨⟨t342, t343, t346, t347, t348⟩, A50, H⟩ := H
  replace H : ((impl_ChangesOf.f k t334 t337 t338 t339).bind fun t350 => (laws_FnSites.l0 k l0 t334 t340 t350 (-1) 0 t337 t338 t339 t342 t343 t346 t347 t348)) = some r := H
  have A5 := Aside0.mk A50
  clear A50
  replace H := Option.bind_eq_some_iff.mp H
  obtain ⟨t350, A60, H⟩ := H
  replace H : (laws_FnSites.l0 k l0 t334 t340 t350 (-1) 0 t337 t338 t339 t342 t343 t346 t347 t348) = some r := H
  have A6 := Aside0.mk A60
  clear A60
  have H' := Aside0.mk H
  clear H
  go_enter Try.func3, Try.ntmps3
  go_wp2_with (first | ((with_reducible refine gate_callee (f := 10) rfl ?_); refine goesL_ (some 19) rfl rfl Try.func10 KR rfl #[.slice A0 l0.length c0] rfl AR ?_; (with_reducible refine (laws_big.calls _ _ l0 false _ ?side1 ?side2 A2.out).mono ?_); (case side1 => exact CR (HR0.out)); (case side2 => exact HC0.out); rintro e w' ⟨rfl, ⟨nd, rfl⟩⟩; refine ⟨_, rfl, ?_⟩) | ((with_reducible refine gate_callee (f := 11) rfl ?_); refine goesL_ (some 22) rfl rfl Try.func11 KR rfl #[.slice A0 l0.length c0] rfl AR ?_; (with_reducible refine (spec_DrawAnswerAt.calls k _ _ l0 t334 t337 t338 t339 t340 _ ?side1 ?side2 A4.out).mono ?_); (case side1 => exact CR (HR0.out)); (case side2 => exact HC0.out); rintro e w7 ⟨v335, rfl, ho0, hb⟩; refine ⟨_, rfl, ?_⟩; have n0_ := ak (Kd.S_lower ho0 (below_size PB)); have n1_ := ak (below_step PB hb); clear HB; have HO336 := n0_; have HB := n1_; clear n0_ n1_; (try clear hb); (try clear hb2); (try clear hk); (try clear hi); (try clear ho0)) | ((with_reducible refine gate_dst (N := 4) rfl ?_); (try (refine gate_guard (by rfl) ?_; dsimp only)); refine bx_ (N := 4) #[.int .i64 0, .int .i64 0, .int .i64 0] 26 ?_; intro gb341 hg w8 hbox hb; have n0_ := ak (Kd.S_below (PS HO336) hb); have n1_ := ak (below_step PB hb); have n2_ := ak (hbox); have n3_ := ak ((gz hg PB : w.heap.size ≤ gb341)); have n4_ := ak ((gz hg PB : w.heap.size ≤ gb341)); clear HO336 HB; have HO336 := n0_; have HB := n1_; have BK341 := n2_; have GW341 := n3_; have GE341 := n4_; clear n0_ n1_ n2_ n3_ n4_; clear hb hbox hg; have hcz9_0 : w8.cell? ⟨gb341, 0, none⟩ = some (.int .i64 0) := (blk_cell BK341.out 0).trans rfl; have hcz9_1 : w8.cell? ⟨gb341, 1, none⟩ = some (.int .i64 0) := (blk_cell BK341.out 1).trans rfl; have hcz9_2 : w8.cell? ⟨gb341, 2, none⟩ = some (.int .i64 0) := (blk_cell BK341.out 2).trans rfl; have hfz9_0 := blk_frozen BK341.out 0; have hfz9_1 := blk_frozen BK341.out 1; have hfz9_2 := blk_frozen BK341.out 2; obtain ⟨Ao10, co10, eo10⟩ := Kd.S_slice HO336.out; subst eo10) | ((with_reducible refine gate_callee (f := 12) rfl ?_); refine goesL_ (some 29) rfl rfl Try.func12 KR rfl #[.slice Ao10 t334.length co10, .agg #[.int .i64 t337, .int .i64 t338, .int .i64 t339], .int .i64 t340] rfl AR ?_; (with_reducible refine (impl_AnswerAt.calls k _ _ t334 t337 t338 t339 t340 t342 t343 t346 t347 t348 _ ?side1 ?side2 A5.out).mono ?_); (case side1 => refine (Kd.S_reads' (e := 98) (base := w.heap.size) (ok := fun k_ => True) (n := t334.length) (c := co10) ?_).2.2; exact (by (with_reducible repeat (first | apply Kd.S_alloc | apply Kd.S_drewN | apply Kd.S_drew)); exact (Kd.S_mono (Kd.S_far (p := ⟨gb341, 2, none⟩) (Kd.S_far (p := ⟨gb341, 1, none⟩) (Kd.S_far (p := ⟨gb341, 0, none⟩) (Kd.S_types HO336.out BK341.out (by decide)) FK (.int .i64 t337)) FK (.int .i64 t338)) FK (.int .i64 t339)) (fun _ h_ => h_.1)))); (case side2 => exact (Kd.S_reads' HO336.out).2.1); rintro e w11 ⟨v344, rfl, ho0, hb⟩; refine ⟨_, rfl, ?_⟩; have n0_ := ak (Kd.S_elder' (by (with_reducible repeat (first | apply Kd.S_alloc | apply Kd.S_drewN | apply Kd.S_drew)); exact (Kd.S_mono (Kd.S_far (p := ⟨gb341, 2, none⟩) (Kd.S_far (p := ⟨gb341, 1, none⟩) (Kd.S_far (p := ⟨gb341, 0, none⟩) (Kd.S_types HO336.out BK341.out (by decide)) FK (.int .i64 t337)) FK (.int .i64 t338)) FK (.int .i64 t339)) (fun _ h_ => h_.1))) (Kd.R_base ho0) hb); have n1_ := ak (Kd.R_lower ho0 (below_size PB)); have n2_ := ak (blk_below (g := gb341) (o := .cells #[.int .i64 t337, .int .i64 t338, .int .i64 t339] 26 (0, 0)) (by (with_reducible repeat (first | refine blk_drewN ?_ _ | refine blk_drew ?_ | refine blk_alloc ?_ _)); refine blk_put (cs := #[.int .i64 t337, .int .i64 t338, .int .i64 0]) ?_ 2 _ rfl; (with_reducible repeat (first | refine blk_drewN ?_ _ | refine blk_drew ?_ | refine blk_alloc ?_ _)); refine blk_put (cs := #[.int .i64 t337, .int .i64 0, .int .i64 0]) ?_ 1 _ rfl; (with_reducible repeat (first | refine blk_drewN ?_ _ | refine blk_drew ?_ | refine blk_alloc ?_ _)); refine blk_put (cs := #[.int .i64 0, .int .i64 0, .int .i64 0]) ?_ 0 _ rfl; (with_reducible repeat (first | refine blk_drewN ?_ _ | refine blk_drew ?_ | refine blk_alloc ?_ _)); exact BK341.out) hb); have n3_ := ak (below_step PB hb); clear HO336 BK341 HB; have HO336 := n0_; have HO345 := n1_; have BK341 := n2_; have HB := n3_; clear n0_ n1_ n2_ n3_; (try clear hb); (try clear hb2); (try clear hk); (try clear hi); (try clear ho0)) | ((with_reducible refine gate_dst (N := 6) rfl ?_); (try (refine gate_guard (by rfl) ?_; dsimp only)); refine bx_ (N := 6) #[.int .i64 0, .slice none 0 0, .int .i64 0, .int .i64 0, .int .i64 0] 31 ?_; intro gb349 hg w12 hbox hb; have n0_ := ak (Kd.S_below (PS HO336) hb); have n1_ := ak (Kd.R_below (PR HO345) hb); have n2_ := ak (kb BK341 hb); have n3_ := ak (below_step PB hb); have n4_ := ak (hbox); have n5_ := ak ((gz hg PB : w.heap.size ≤ gb349)); have n6_ := ak ((gz hg PB : w.heap.size ≤ gb349)); have n7_ := ak ((gl hg BK341 : gb341 ≠ gb349)); have n8_ := ak (((gl hg BK341).symm : gb349 ≠ gb341)); clear HO336 HO345 BK341 HB; have HO336 := n0_; have HO345 := n1_; have BK341 := n2_; have HB := n3_; have BK349 := n4_; have GW349 := n5_; have GE349 := n6_; have NB341_349 := n7_; have NB349_341 := n8_; clear n0_ n1_ n2_ n3_ n4_ n5_ n6_ n7_ n8_; clear hb hbox hg; have hnb13 := NB349_341.out; have hnc13 := NB341_349.out; have hcz14_0 : w12.cell? ⟨gb349, 0, none⟩ = some (.int .i64 0) := (blk_cell BK349.out 0).trans rfl; have hcz14_1 : w12.cell? ⟨gb349, 1, none⟩ = some (.slice none 0 0) := (blk_cell BK349.out 1).trans rfl; have hcz14_2 : w12.cell? ⟨gb349, 2, none⟩ = some (.int .i64 0) := (blk_cell BK349.out 2).trans rfl; have hcz14_3 : w12.cell? ⟨gb349, 3, none⟩ = some (.int .i64 0) := (blk_cell BK349.out 3).trans rfl; have hcz14_4 : w12.cell? ⟨gb349, 4, none⟩ = some (.int .i64 0) := (blk_cell BK349.out 4).trans rfl; have hfz14_0 := blk_frozen BK349.out 0; have hfz14_1 := blk_frozen BK349.out 1; have hfz14_2 := blk_frozen BK349.out 2; have hfz14_3 := blk_frozen BK349.out 3; have hfz14_4 := blk_frozen BK349.out 4; obtain ⟨Ao15, co15, eo15⟩ := Kd.R_slice HO345.out; subst eo15; have hcz16_0 : w12.cell? ⟨gb341, 0, none⟩ = some (.int .i64 t337) := (blk_cell BK341.out 0).trans rfl; have hcz16_1 : w12.cell? ⟨gb341, 1, none⟩ = some (.int .i64 t338) := (blk_cell BK341.out 1).trans rfl; have hcz16_2 : w12.cell? ⟨gb341, 2, none⟩ = some (.int .i64 t339) := (blk_cell BK341.out 2).trans rfl; have hfz16_0 := blk_frozen BK341.out 0; have hfz16_1 := blk_frozen BK341.out 1; have hfz16_2 := blk_frozen BK341.out 2) | ((with_reducible refine gate_callee (f := 13) rfl ?_); refine goesL_ (some 32) rfl rfl Try.func13 KR rfl #[.slice Ao10 t334.length co10, .agg #[.int .i64 t337, .int .i64 t338, .int .i64 t339]] rfl AR ?_; (with_reducible refine (impl_ChangesOf.calls k _ _ t334 t337 t338 t339 t350 _ ?side1 ?side2 A6.out).mono ?_); (case side1 => refine (Kd.S_reads' (e := 98) (base := w.heap.size) (ok := fun k_ => (True ∧ some k_ ≠ (.slice Ao15 t343.length co15 : Value).ownBlock)) (n := t334.length) (c := co10) ?_).2.2; exact (by (with_reducible repeat (first | apply Kd.S_alloc | apply Kd.S_drewN | apply Kd.S_drew)); exact (Kd.S_mono (Kd.S_far (p := ⟨gb349, 4, none⟩) (Kd.S_far (p := ⟨gb349, 3, none⟩) (Kd.S_far (p := ⟨gb349, 2, none⟩) (Kd.S_far (p := ⟨gb349, 1, none⟩) (Kd.S_far (p := ⟨gb349, 0, none⟩) (Kd.S_types HO336.out BK349.out (by decide)) FK (.int .i64 t342)) FK (.slice Ao15 t343.length co15)) FK (.int .i64 t346)) FK (.int .i64 t347)) FK (.int .i64 t348)) (fun _ h_ => h_.1)))); (case side2 => exact (Kd.S_reads' HO336.out).2.1); rintro e w17 ⟨v351, rfl, ho0, hb⟩; refine ⟨_, rfl, ?_⟩; have n0_ := ak (Kd.S_elder' (by (with_reducible repeat (first | apply Kd.S_alloc | apply Kd.S_drewN | apply Kd.S_drew)); exact (Kd.S_mono (Kd.S_far (p := ⟨gb349, 4, none⟩) (Kd.S_far (p := ⟨gb349, 3, none⟩) (Kd.S_far (p := ⟨gb349, 2, none⟩) (Kd.S_far (p := ⟨gb349, 1, none⟩) (Kd.S_far (p := ⟨gb349, 0, none⟩) (Kd.S_types HO336.out BK349.out (by decide)) FK (.int .i64 t342)) FK (.slice Ao15 t343.length co15)) FK (.int .i64 t346)) FK (.int .i64 t347)) FK (.int .i64 t348)) (fun _ h_ => h_.1))) (Kd.R_base ho0) hb); have n1_ := ak (Kd.R_elder' (by (with_reducible repeat (first | apply Kd.R_alloc | apply Kd.R_drewN | apply Kd.R_drew)); exact (Kd.R_mono (Kd.R_far (p := ⟨gb349, 4, none⟩) (Kd.R_far (p := ⟨gb349, 3, none⟩) (Kd.R_far (p := ⟨gb349, 2, none⟩) (Kd.R_far (p := ⟨gb349, 1, none⟩) (Kd.R_far (p := ⟨gb349, 0, none⟩) (Kd.R_types HO345.out BK349.out (by decide)) FK (.int .i64 t342)) FK (.slice Ao15 t343.length co15)) FK (.int .i64 t346)) FK (.int .i64 t347)) FK (.int .i64 t348)) (fun _ h_ => h_.1))) (Kd.R_base ho0) hb); have n2_ := ak (Kd.R_lower (Kd.R_new' ho0 (Kd.R_lt (by (with_reducible repeat (first | apply Kd.R_alloc | apply Kd.R_drewN | apply Kd.R_drew)); exact (Kd.R_mono (Kd.R_far (p := ⟨gb349, 4, none⟩) (Kd.R_far (p := ⟨gb349, 3, none⟩) (Kd.R_far (p := ⟨gb349, 2, none⟩) (Kd.R_far (p := ⟨gb349, 1, none⟩) (Kd.R_far (p := ⟨gb349, 0, none⟩) (Kd.R_types HO345.out BK349.out (by decide)) FK (.int .i64 t342)) FK (.slice Ao15 t343.length co15)) FK (.int .i64 t346)) FK (.int .i64 t347)) FK (.int .i64 t348)) (fun _ h_ => h_.1))))) (below_size PB)); have n3_ := ak (blk_below (g := gb341) (o := .cells #[.int .i64 t337, .int .i64 t338, .int .i64 t339] 26 (0, 0)) (PF BK341) hb); have n4_ := ak (blk_below (g := gb349) (o := .cells #[.int .i64 t342, .slice Ao15 t343.length co15, .int .i64 t346, .int .i64 t347, .int .i64 t348] 31 (0, 0)) (by (with_reducible repeat (first | refine blk_drewN ?_ _ | refine blk_drew ?_ | refine blk_alloc ?_ _)); refine blk_put (cs := #[.int .i64 t342, .slice Ao15 t343.length co15, .int .i64 t346, .int .i64 t347, .int .i64 0]) ?_ 4 _ rfl; (with_reducible repeat (first | refine blk_drewN ?_ _ | refine blk_drew ?_ | refine blk_alloc ?_ _)); refine blk_put (cs := #[.int .i64 t342, .slice Ao15 t343.length co15, .int .i64 t346, .int .i64 0, .int .i64 0]) ?_ 3 _ rfl; (with_reducible repeat (first | refine blk_drewN ?_ _ | refine blk_drew ?_ | refine blk_alloc ?_ _)); refine blk_put (cs := #[.int .i64 t342, .slice Ao15 t343.length co15, .int .i64 0, .int .i64 0, .int .i64 0]) ?_ 2 _ rfl; (with_reducible repeat (first | refine blk_drewN ?_ _ | refine blk_drew ?_ | refine blk_alloc ?_ _)); refine blk_put (cs := #[.int .i64 t342, .slice none 0 0, .int .i64 0, .int .i64 0, .int .i64 0]) ?_ 1 _ rfl; (with_reducible repeat (first | refine blk_drewN ?_ _ | refine blk_drew ?_ | refine blk_alloc ?_ _)); refine blk_put (cs := #[.int .i64 0, .slice none 0 0, .int .i64 0, .int .i64 0, .int .i64 0]) ?_ 0 _ rfl; (with_reducible repeat (first | refine blk_drewN ?_ _ | refine blk_drew ?_ | refine blk_alloc ?_ _)); exact BK349.out) hb); have n5_ := ak (below_step PB hb); clear HO336 HO345 BK341 BK349 HB; have HO336 := n0_; have HO345 := n1_; have HO352 := n2_; have BK341 := n3_; have BK349 := n4_; have HB := n5_; clear n0_ n1_ n2_ n3_ n4_ n5_; (try clear hb); (try clear hb2); (try clear hk); (try clear hi); (try clear ho0)))
  go_loopg [8, 9] k (fun kq v8 v9 w' => ∃ (x8_1 : Int) (x9_1 : Int), v8 = .int .i64 x8_1 ∧ v9 = .int .i64 x9_1 ∧ Aside0 (laws_FnSites.l0 kq l0 t334 t340 t350 x8_1 x9_1 t337 t338 t339 t342 t343 t346 t347 t348 = some r) ∧ Aside0 (kq ≤ k) ∧ Aside0 (Kd.S k98 98 w' w.heap.size (fun k_ => some k_ ≠ (v351 : Value).ownBlock ∧ some k_ ≠ ((.slice Ao15 t343.length co15) : Value).ownBlock) (.slice Ao10 t334.length co10) t334) ∧ Aside0 (Kd.R (Kd.int .i64) 3 w' w.heap.size (fun k_ => some k_ ≠ ((.slice Ao15 t343.length co15) : Value).ownBlock) v351 t350) ∧ Aside0 (Kd.R (Kd.int .i64) 3 w' w.heap.size (fun k_ => some k_ ≠ (v351 : Value).ownBlock) (.slice Ao15 t343.length co15) t343) ∧ Aside0 (w'.heap[gb341]? = some (.cells #[.int .i64 t337, .int .i64 t338, .int .i64 t339] 26 (0, 0))) ∧ Aside0 (w'.heap[gb349]? = some (.cells #[.int .i64 t342, (.slice Ao15 t343.length co15), .int .i64 t346, .int .i64 t347, .int .i64 t348] 31 (0, 0))) ∧ Aside0 (Below w.heap.size w w'))
  case atStart => exact ⟨((-1)), (0), (by first | rfl | (simp; done) | (simp [*]; done)), (by first | rfl | (simp; done) | (simp [*]; done)), H', ⟨Nat.le_refl _⟩, ⟨by (with_reducible repeat (first | apply Kd.S_alloc | apply Kd.S_drewN | apply Kd.S_drew)); exact Kd.S_mono HO336.out (fun _ hk => by first | exact ⟨hk.2, hk.1.2⟩ | simp_all)⟩, ⟨by (with_reducible repeat (first | apply Kd.R_alloc | apply Kd.R_drewN | apply Kd.R_drew)); exact Kd.R_mono HO352.out FK⟩, ⟨by (with_reducible repeat (first | apply Kd.R_alloc | apply Kd.R_drewN | apply Kd.R_drew)); exact Kd.R_mono HO345.out FK⟩, ⟨PK BK341⟩, ⟨PK BK349⟩, ⟨PB⟩⟩
  case round =>
   clear H'
   (try clear c1); (try clear p2); (try clear c3); (try clear c10); (try clear c11); (try clear c12); (try clear c13); (try clear hcz14_0); (try clear hcz14_1); (try clear hcz14_2); (try clear hcz14_3); (try clear hcz14_4); (try clear hcz16_0); (try clear hcz16_1); (try clear hcz16_2); (try clear hcz9_0); (try clear hcz9_1); (try clear hcz9_2); (try clear hfz14_0); (try clear hfz14_1); (try clear hfz14_2); (try clear hfz14_3); (try clear hfz14_4); (try clear hfz16_0); (try clear hfz16_1); (try clear hfz16_2); (try clear hfz9_0); (try clear hfz9_1); (try clear hfz9_2)
   obtain ⟨x8_1, x9_1, rfl, rfl, HA, HK1, HO_3, HO_7, HO_350001, BK341, BK349, HB⟩ := hrel
   cases gk with
   | zero => exact absurd HA.out (by simp [laws_FnSites.l0])
   | succ k1 =>
    have H := HA.out
    clear HA
    simp only [laws_FnSites.l0] at H
    by_cases c18 : x9_1 < (t350.length : Int)
    ·rw [if_pos c18] at H
     have c18b0 : decide (x9_1 < (t350.length : Int)) = true := decide_eq_true c18
     clear c18
     by_cases c19 : 0 ≤ x9_1
     ·rw [if_pos c19] at H
      have c19b0 : decide (0 ≤ x9_1) = true := decide_eq_true c19
      clear c19
      by_cases c20 : (rd t350 x9_1) ≤ t340
      ·rw [if_pos c20] at H
       have c20b0 : decide ((rd t350 x9_1) ≤ t340) = true := decide_eq_true c20
       clear c20
       have H' := Aside0.mk H
       clear H
       obtain ⟨Ao21, co21, eo21⟩ := Kd.R_slice HO_7.out
       subst eo21
       have p353 : 0 ≤ (x9_1 : Int) := of_decide_eq_true (by first | (with_reducible assumption) | assumption)
       have q353 : x9_1 < (t350.length : Int) := of_decide_eq_true (by first | (with_reducible assumption) | assumption)
       obtain ⟨ad353, e353, hx353_0⟩ := Kd.at_int (Kd.R_reads' HO_7.out).2.2 x9_1 p353 q353
       cases e353
       replace p353 := eq_true p353
       replace q353 := eq_true q353
       have p354 : 0 ≤ (x9_1 : Int) := of_decide_eq_true (by first | (with_reducible assumption) | assumption)
       have q354 : x9_1 < (t350.length : Int) := of_decide_eq_true (by first | (with_reducible assumption) | assumption)
       obtain ⟨ad354, e354, hx354_0⟩ := Kd.at_int (Kd.R_reads' HO_7.out).2.2 x9_1 p354 q354
       obtain rfl : ad353 = ad354 := (by injection e354)
       replace p354 := eq_true p354
       replace q354 := eq_true q354
       go_wp2
       go_roundg k1
       case measure => have := HK1.out; omega
       case rel => exact ⟨(rd t350 x9_1), (wrap64 (x9_1 + 1)), (by first | rfl | (simp; done) | (simp [*]; done)), (by first | rfl | (simp; done) | (simp [*]; done)), H', ⟨by have := HK1.out; omega⟩, ⟨PS HO_3⟩, ⟨PR HO_7⟩, ⟨PR HO_350001⟩, ⟨PK BK341⟩, ⟨PK BK349⟩, ⟨PB⟩⟩
      ·rw [if_neg c20] at H
       have c20b0 : decide ((rd t350 x9_1) ≤ t340) = false := decide_eq_false c20
       clear c20
       have H' := Aside0.mk H
       clear H
       obtain ⟨Ao22, co22, eo22⟩ := Kd.R_slice HO_7.out
       subst eo22
       have p353 : 0 ≤ (x9_1 : Int) := of_decide_eq_true (by first | (with_reducible assumption) | assumption)
       have q353 : x9_1 < (t350.length : Int) := of_decide_eq_true (by first | (with_reducible assumption) | assumption)
       obtain ⟨ad353, e353, hx353_0⟩ := Kd.at_int (Kd.R_reads' HO_7.out).2.2 x9_1 p353 q353
       cases e353
       replace p353 := eq_true p353
       replace q353 := eq_true q353
       go_wp2
       go_roundg k1
       case measure => have := HK1.out; omega
       case rel => exact ⟨(x8_1), (wrap64 (x9_1 + 1)), (by first | rfl | (simp; done) | (simp [*]; done)), (by first | rfl | (simp; done) | (simp [*]; done)), H', ⟨by have := HK1.out; omega⟩, ⟨PS HO_3⟩, ⟨PR HO_7⟩, ⟨PR HO_350001⟩, ⟨PK BK341⟩, ⟨PK BK349⟩, ⟨PB⟩⟩
     ·rw [if_neg c19] at H
      exact absurd H (by simp)
    ·rw [if_neg c18] at H
     have c18b0 : decide (x9_1 < (t350.length : Int)) = false := decide_eq_false c18
     clear c18
     have HC23 := Aside0.mk H
     clear H
     obtain ⟨Ao24, co24, eo24⟩ := Kd.R_slice HO_7.out
     subst eo24
     go_upto_region 12 with (fail)
     go_cut [76] (fun v76 wc => ∃ (kq : Nat) (x76_22 : Bool), v76 = .bool x76_22 ∧ Aside0 (laws_FnSites.j1 kq l0 x76_22 = some r) ∧ Aside0 (kq ≤ k1) ∧ Aside0 (Kd.R (Kd.int .i64) 3 wc w.heap.size (fun _ => True) (.slice Ao15 t343.length co15) t343) ∧ Aside0 (wc.heap[gb341]? = some (.cells #[.int .i64 t337, .int .i64 t338, .int .i64 t339] 26 (0, 0))) ∧ Aside0 (wc.heap[gb349]? = some (.cells #[.int .i64 t342, (.slice Ao15 t343.length co15), .int .i64 t346, .int .i64 t347, .int .i64 t348] 31 (0, 0))) ∧ Aside0 (Below w.heap.size w wc))
     case first =>
      have H := HC23.out
      clear HC23
      by_cases c25 : x8_1 ≥ 0
      ·rw [if_pos c25] at H
       have c25b0 : decide (0 ≤ x8_1) = true := decide_eq_true c25
       clear c25
       (first | rw [c25b0] | (simp only [i64_w, i32_w]; rw [c25b0]) | skip)
       replace H := Option.bind_eq_some_iff.mp H
       obtain ⟨⟨t355, t356, t359, t360, t361⟩, A260, H⟩ := H
       replace H : ((impl_EqualResources.f k1 t342 t343 t346 t347 t348 t355 t356 t359 t360 t361).bind fun t362 => (if t362 = true then ((impl_IsSteady.f k1 t334 t337 t338 t339 x8_1 t340).bind fun t363 => (if t363 = true then (if x8_1 < 0 then (laws_FnSites.j1 k1 l0 (t342 != 4)) else (laws_FnSites.j1 k1 l0 false)) else (laws_FnSites.j1 k1 l0 true))) else (laws_FnSites.j1 k1 l0 true))) = some r := H
       have A26 := Aside0.mk A260
       clear A260
       replace H := Option.bind_eq_some_iff.mp H
       obtain ⟨t362, A270, H⟩ := H
       replace H : (if t362 = true then ((impl_IsSteady.f k1 t334 t337 t338 t339 x8_1 t340).bind fun t363 => (if t363 = true then (if x8_1 < 0 then (laws_FnSites.j1 k1 l0 (t342 != 4)) else (laws_FnSites.j1 k1 l0 false)) else (laws_FnSites.j1 k1 l0 true))) else (laws_FnSites.j1 k1 l0 true)) = some r := H
       have A27 := Aside0.mk A270
       clear A270
       by_cases c28 : t362 = true
       ·subst c28
        have H1 : ((impl_IsSteady.f k1 t334 t337 t338 t339 x8_1 t340).bind fun t363 => (if t363 = true then (if x8_1 < 0 then (laws_FnSites.j1 k1 l0 (t342 != 4)) else (laws_FnSites.j1 k1 l0 false)) else (laws_FnSites.j1 k1 l0 true))) = some r := by rw [if_pos rfl] at H; exact H
        clear H
        have H := H1
        clear H1
        replace H := Option.bind_eq_some_iff.mp H
        obtain ⟨t363, A290, H⟩ := H
        replace H : (if t363 = true then (if x8_1 < 0 then (laws_FnSites.j1 k1 l0 (t342 != 4)) else (laws_FnSites.j1 k1 l0 false)) else (laws_FnSites.j1 k1 l0 true)) = some r := H
        have A29 := Aside0.mk A290
        clear A290
        by_cases c30 : t363 = true
        ·subst c30
         have H1 : (if x8_1 < 0 then (laws_FnSites.j1 k1 l0 (t342 != 4)) else (laws_FnSites.j1 k1 l0 false)) = some r := by rw [if_pos rfl] at H; exact H
         clear H
         have H := H1
         clear H1
         by_cases c31 : x8_1 < 0
         ·rw [if_pos c31] at H
          have c31b0 : decide (x8_1 < 0) = true := decide_eq_true c31
          clear c31
          have H' := Aside0.mk H
          clear H
          try go_wp2
          have n0_ := ak (Kd.S_drew HO_3.out)
          have n1_ := ak (Kd.R_drew HO_7.out)
          have n2_ := ak (Kd.R_drew HO_350001.out)
          have n3_ := ak (blk_drew BK341.out)
          have n4_ := ak (blk_drew BK349.out)
          have n5_ := ak (below_drew1 HB.out)
          clear HO_3
          clear HO_7
          clear HO_350001
          clear BK341
          clear BK349
          clear HB
          have HO_3 := n0_
          have HO_7 := n1_
          have HO_350001 := n2_
          have BK341 := n3_
          have BK349 := n4_
          have HB := n5_
          clear n0_ n1_ n2_ n3_ n4_ n5_
          refine start_ (n := 28) (S := fun w' => w'.cell? ⟨gb349, 0, none⟩ = some (.int .i64 t342) ∧ w'.cell? ⟨gb349, 1, none⟩ = some (.slice Ao15 t343.length co15) ∧ w'.cell? ⟨gb349, 2, none⟩ = some (.int .i64 t346) ∧ w'.cell? ⟨gb349, 3, none⟩ = some (.int .i64 t347) ∧ w'.cell? ⟨gb349, 4, none⟩ = some (.int .i64 t348) ∧ w'.cell? ⟨gb341, 0, none⟩ = some (.int .i64 t337) ∧ w'.cell? ⟨gb341, 1, none⟩ = some (.int .i64 t338) ∧ w'.cell? ⟨gb341, 2, none⟩ = some (.int .i64 t339)) (ds := []) b6_60 KR rfl rfl ⟨(blk_cell BK349.out 0).trans rfl, (blk_cell BK349.out 1).trans rfl, (blk_cell BK349.out 2).trans rfl, (blk_cell BK349.out 3).trans rfl, (blk_cell BK349.out 4).trans rfl, (blk_cell BK341.out 0).trans rfl, (blk_cell BK341.out 1).trans rfl, (blk_cell BK341.out 2).trans rfl⟩ (fun hHeld => ?_); refine with_tabW laws_FnSites.tab12 laws_FnSites.bits12 (fun HT_ HW_ => ?_)
          generalize wr.drew = w32 at HO_3 HO_7 HO_350001 BK341 BK349 HB hHeld ⊢
          refine pu_ (i := 0) (N := some 49) b6_59 HT_ ?_
          refine pu_ (i := 1) (N := some 50) b6_58 HT_ ?_
          refine pu_ (i := 2) (N := some 51) b6_57 HT_ ?_
          refine pu_ (i := 4) (N := some 53) b6_55 HT_ ?_
          refine pu_ (i := 6) (N := some 55) b6_53 HT_ ?_
          refine tk_ (i := 3) (N := some 52) b6_51 rfl rfl HT_ HW_ hHeld ?_
          refine take_ (i := 5) (N := some 54) (v := ?_) (a' := ?_) b6_50 rfl rfl (take_ofW HT_.out HW_.out KR) (fun _ _ _ h => h) (Or.inl ⟨by rfl, ?_⟩) hHeld ?_ ?_
          rotate_left
          ·rintro w' ⟨s0, s1, s2, s3, s4, s5, s6, s7⟩
           go_simp
           with_reducible rfl
          rotate_left
          ·simp only [Act.put, List.setIfInBounds_toArray, List.set_cons_zero, List.set_cons_succ, i64_w, i32_w]
           rfl
          refine one_ (i := 7) (N := some 56) b6_49 rfl rfl (one_of HT_.out KR) (by decide) (fun K hK => ?_)
          refine goes_ Try.func12 KR rfl #[.slice Ao10 t334.length co10, .agg #[.int .i64 t337, .int .i64 t338, .int .i64 t339], .int .i64 x8_1] (by rfl) rfl rfl AR ?_
          with_reducible refine (impl_AnswerAt.calls k1 _ _ t334 t337 t338 t339 x8_1 t355 t356 t359 t360 t361 _ ?side1 ?side2 A26.out).mono ?_
          (case side1 => exact CR ((Kd.S_reads' HO_3.out).2.2))
          (case side2 => exact (Kd.S_reads' HO_3.out).2.1)
          rintro e w33 ⟨v357, rfl, ho0, hb⟩
          refine ⟨_, rfl, ?_⟩
          have n0_ := ak (Kd.S_elder' (PS HO_3) (Kd.R_base ho0) hb)
          have n1_ := ak (Kd.R_elder' (PR HO_7) (Kd.R_base ho0) hb)
          have n2_ := ak (Kd.R_elder' (PR HO_350001) (Kd.R_base ho0) hb)
          have n3_ := ak (Kd.R_lower (Kd.R_new' (Kd.R_new' ho0 (Kd.R_lt (PR HO_7))) (Kd.R_lt (PR HO_350001))) (below_size PB))
          have n4_ := ak (kb BK341 hb)
          have n5_ := ak (kb BK349 hb)
          have n6_ := ak (below_step PB hb)
          clear HO_3
          clear HO_7
          clear HO_350001
          clear BK341
          clear BK349
          clear HB
          have HO_3 := n0_
          have HO_7 := n1_
          have HO_350001 := n2_
          have HO358 := n3_
          have BK341 := n4_
          have BK349 := n5_
          have HB := n6_
          clear n0_ n1_ n2_ n3_ n4_ n5_ n6_
          (try clear hb)
          (try clear hb2)
          (try clear hk)
          (try clear hi)
          (try clear ho0)
          obtain ⟨Ao34, co34, eo34⟩ := Kd.R_slice HO358.out
          (first | subst eo34 | (injection eo34 with f1_ f2_ f3_; have f4_ := f1_.symm; have f5_ := f3_.symm; clear f1_ f2_ f3_; subst f4_; subst f5_))
          refine hK.out _ _ ⟨(blk_cell BK349.out 0).trans rfl, (blk_cell BK349.out 1).trans rfl, (blk_cell BK349.out 2).trans rfl, (blk_cell BK349.out 3).trans rfl, (blk_cell BK349.out 4).trans rfl, (blk_cell BK341.out 0).trans rfl, (blk_cell BK341.out 1).trans rfl, (blk_cell BK341.out 2).trans rfl⟩ (fun hHeld => ?_)
          clear hK K
          refine norm_ (a' := ?_) ?_ ?_
          rotate_left
          ·show Act.put _ (some 56) _ = _
           simp only [Act.put, List.setIfInBounds_toArray, List.set_cons_zero, List.set_cons_succ, i64_w, i32_w]
           rfl
          refine one_ (i := 8) (N := some 57) b6_48 rfl rfl (one_of HT_.out KR) (by decide) (fun K hK => ?_)
          refine goes_ Try.func14 KR rfl #[.agg #[.int .i64 t342, .slice Ao15 t343.length co15, .int .i64 t346, .int .i64 t347, .int .i64 t348], .agg #[.int .i64 t355, .slice Ao34 t356.length co34, .int .i64 t359, .int .i64 t360, .int .i64 t361]] (by rfl) rfl rfl AR ?_
          with_reducible refine (impl_EqualResources.calls k1 t342 _ _ t343 t346 t347 t348 t355 _ _ t356 t359 t360 t361 true _ ?side1 ?side2 ?side3 ?side4 A27.out).mono ?_
          (case side1 => exact CR ((Kd.R_reads' HO_350001.out).2.2))
          (case side2 => exact (Kd.R_reads' HO_350001.out).2.1)
          (case side3 => exact CR ((Kd.R_reads' HO358.out).2.2))
          (case side4 => exact (Kd.R_reads' HO358.out).2.1)
          rintro e w35 ⟨rfl, hb⟩
          refine ⟨_, rfl, ?_⟩
          have n0_ := ak (Kd.S_below (PS HO_3) hb)
          have n1_ := ak (Kd.R_below (PR HO_7) hb)
          have n2_ := ak (Kd.R_below (PR HO_350001) hb)
          have n3_ := ak (Kd.R_below (PR HO358) hb)
          have n4_ := ak (kb BK341 hb)
          have n5_ := ak (kb BK349 hb)
          have n6_ := ak (below_step PB hb)
          clear HO_3
          clear HO_7
          clear HO_350001
          clear HO358
          clear BK341
          clear BK349
          clear HB
          have HO_3 := n0_
          have HO_7 := n1_
          have HO_350001 := n2_
          have HO358 := n3_
          have BK341 := n4_
          have BK349 := n5_
          have HB := n6_
          clear n0_ n1_ n2_ n3_ n4_ n5_ n6_
          (try clear hb)
          (try clear hb2)
          (try clear hk)
          (try clear hi)
          refine hK.out _ _ ⟨(blk_cell BK349.out 0).trans rfl, (blk_cell BK349.out 1).trans rfl, (blk_cell BK349.out 2).trans rfl, (blk_cell BK349.out 3).trans rfl, (blk_cell BK349.out 4).trans rfl, (blk_cell BK341.out 0).trans rfl, (blk_cell BK341.out 1).trans rfl, (blk_cell BK341.out 2).trans rfl⟩ (fun hHeld => ?_)
          clear hK K
          refine norm_ (a' := ?_) ?_ ?_
          rotate_left
          ·show Act.put _ (some 57) _ = _
           simp only [Act.put, List.setIfInBounds_toArray, List.set_cons_zero, List.set_cons_succ, i64_w, i32_w]
           rfl
          refine pu_ (i := 9) (N := some 58) b6_47 HT_ ?_
          refine pu_ (i := 10) (N := some 59) b6_46 HT_ ?_
          refine pu_ (i := 11) (N := some 60) b6_45 HT_ ?_
          refine pu_ (i := 13) (N := some 62) b6_43 HT_ ?_
          refine pu_ (i := 14) (N := some 63) b6_41 HT_ ?_
          refine tk_ (i := 12) (N := some 61) b6_40 rfl rfl HT_ HW_ hHeld ?_
          refine one_ (i := 15) (N := some 64) b6_39 rfl rfl (one_of HT_.out KR) (by decide) (fun K hK => ?_)
          refine goes_ Try.func15 KR rfl #[.slice Ao10 t334.length co10, .agg #[.int .i64 t337, .int .i64 t338, .int .i64 t339], .int .i64 x8_1, .int .i64 t340] (by rfl) rfl rfl AR ?_
          with_reducible refine (impl_IsSteady.calls k1 _ _ t334 t337 t338 t339 x8_1 t340 true _ ?side1 ?side2 A29.out).mono ?_
          (case side1 => exact CR ((Kd.S_reads' HO_3.out).2.2))
          (case side2 => exact (Kd.S_reads' HO_3.out).2.1)
          rintro e w36 ⟨rfl, hb⟩
          refine ⟨_, rfl, ?_⟩
          have n0_ := ak (Kd.S_below (PS HO_3) hb)
          have n1_ := ak (Kd.R_below (PR HO_7) hb)
          have n2_ := ak (Kd.R_below (PR HO_350001) hb)
          have n3_ := ak (Kd.R_below (PR HO358) hb)
          have n4_ := ak (kb BK341 hb)
          have n5_ := ak (kb BK349 hb)
          have n6_ := ak (below_step PB hb)
          clear HO_3
          clear HO_7
          clear HO_350001
          clear HO358
          clear BK341
          clear BK349
          clear HB
          have HO_3 := n0_
          have HO_7 := n1_
          have HO_350001 := n2_
          have HO358 := n3_
          have BK341 := n4_
          have BK349 := n5_
          have HB := n6_
          clear n0_ n1_ n2_ n3_ n4_ n5_ n6_
          (try clear hb)
          (try clear hb2)
          (try clear hk)
          (try clear hi)
          refine hK.out _ _ ⟨(blk_cell BK349.out 0).trans rfl, (blk_cell BK349.out 1).trans rfl, (blk_cell BK349.out 2).trans rfl, (blk_cell BK349.out 3).trans rfl, (blk_cell BK349.out 4).trans rfl, (blk_cell BK341.out 0).trans rfl, (blk_cell BK341.out 1).trans rfl, (blk_cell BK341.out 2).trans rfl⟩ (fun hHeld => ?_)
          clear hK K
          refine norm_ (a' := ?_) ?_ ?_
          rotate_left
          ·show Act.put _ (some 64) _ = _
           simp only [Act.put, List.setIfInBounds_toArray, List.set_cons_zero, List.set_cons_succ, i64_w, i32_w]
           rfl
          refine pu_ (i := 16) (N := some 65) b6_38 HT_ ?_
          refine pu_ (i := 17) (N := some 66) b6_37 HT_ ?_
          refine pu_ (i := 18) (N := some 67) b6_36 HT_ ?_
          refine pu_ (i := 19) (N := some 68) b6_35 HT_ ?_
          refine pu_ (i := 20) (N := some 69) b6_34 HT_ ?_
          refine pu_ (i := 21) (N := some 70) b6_33 HT_ ?_
          refine pu_ (i := 22) (N := some 71) b6_32 HT_ ?_
          refine pu_ (i := 23) (N := some 72) b6_31 HT_ ?_
          refine tk_ (i := 24) (N := some 73) b6_30 rfl rfl HT_ HW_ hHeld ?_
          refine pu_ (i := 25) (N := some 74) b6_29 HT_ ?_
          refine pu_ (i := 26) (N := some 75) b6_28 HT_ ?_
          refine pu_ (i := 27) (N := some 76) b6_27 HT_ ?_
          refine done_ (done_of HT_.out KR) ?_
          try go_wp2
          go_meet
          case rel => exact ⟨_, ((t342 != 4)), (by first | rfl | (simp; done) | (simp [*]; done)), H', ⟨by have := HK1.out; first | omega | exact Nat.le_refl _⟩, ⟨by (with_reducible repeat (first | apply Kd.R_alloc | apply Kd.R_drewN | apply Kd.R_drew)); exact Kd.R_mono HO_350001.out (fun _ hk => trivial)⟩, ⟨PK BK341⟩, ⟨PK BK349⟩, ⟨PB⟩⟩
         ·rw [if_neg c31] at H
          have c31b0 : decide (x8_1 < 0) = false := decide_eq_false c31
          clear c31
          have H' := Aside0.mk H
          clear H
          try go_wp2
          have n0_ := ak (Kd.S_drew HO_3.out)
          have n1_ := ak (Kd.R_drew HO_7.out)
          have n2_ := ak (Kd.R_drew HO_350001.out)
          have n3_ := ak (blk_drew BK341.out)
          have n4_ := ak (blk_drew BK349.out)
          have n5_ := ak (below_drew1 HB.out)
          clear HO_3
          clear HO_7
          clear HO_350001
          clear BK341
          clear BK349
          clear HB
          have HO_3 := n0_
          have HO_7 := n1_
          have HO_350001 := n2_
          have BK341 := n3_
          have BK349 := n4_
          have HB := n5_
          clear n0_ n1_ n2_ n3_ n4_ n5_
          refine start_ (n := 28) (S := fun w' => w'.cell? ⟨gb349, 0, none⟩ = some (.int .i64 t342) ∧ w'.cell? ⟨gb349, 1, none⟩ = some (.slice Ao15 t343.length co15) ∧ w'.cell? ⟨gb349, 2, none⟩ = some (.int .i64 t346) ∧ w'.cell? ⟨gb349, 3, none⟩ = some (.int .i64 t347) ∧ w'.cell? ⟨gb349, 4, none⟩ = some (.int .i64 t348) ∧ w'.cell? ⟨gb341, 0, none⟩ = some (.int .i64 t337) ∧ w'.cell? ⟨gb341, 1, none⟩ = some (.int .i64 t338) ∧ w'.cell? ⟨gb341, 2, none⟩ = some (.int .i64 t339)) (ds := []) b6_60 KR rfl rfl ⟨(blk_cell BK349.out 0).trans rfl, (blk_cell BK349.out 1).trans rfl, (blk_cell BK349.out 2).trans rfl, (blk_cell BK349.out 3).trans rfl, (blk_cell BK349.out 4).trans rfl, (blk_cell BK341.out 0).trans rfl, (blk_cell BK341.out 1).trans rfl, (blk_cell BK341.out 2).trans rfl⟩ (fun hHeld => ?_); refine with_tabW laws_FnSites.tab12 laws_FnSites.bits12 (fun HT_ HW_ => ?_)
          generalize wr.drew = w37 at HO_3 HO_7 HO_350001 BK341 BK349 HB hHeld ⊢
          refine pu_ (i := 0) (N := some 49) b6_59 HT_ ?_
          refine pu_ (i := 1) (N := some 50) b6_58 HT_ ?_
          refine pu_ (i := 2) (N := some 51) b6_57 HT_ ?_
          refine pu_ (i := 4) (N := some 53) b6_55 HT_ ?_
          refine pu_ (i := 6) (N := some 55) b6_53 HT_ ?_
          refine tk_ (i := 3) (N := some 52) b6_51 rfl rfl HT_ HW_ hHeld ?_
          refine take_ (i := 5) (N := some 54) (v := ?_) (a' := ?_) b6_50 rfl rfl (take_ofW HT_.out HW_.out KR) (fun _ _ _ h => h) (Or.inl ⟨by rfl, ?_⟩) hHeld ?_ ?_
          rotate_left
          ·rintro w' ⟨s0, s1, s2, s3, s4, s5, s6, s7⟩
           go_simp
           with_reducible rfl
          rotate_left
          ·simp only [Act.put, List.setIfInBounds_toArray, List.set_cons_zero, List.set_cons_succ, i64_w, i32_w]
           rfl
          refine one_ (i := 7) (N := some 56) b6_49 rfl rfl (one_of HT_.out KR) (by decide) (fun K hK => ?_)
          refine goes_ Try.func12 KR rfl #[.slice Ao10 t334.length co10, .agg #[.int .i64 t337, .int .i64 t338, .int .i64 t339], .int .i64 x8_1] (by rfl) rfl rfl AR ?_
          with_reducible refine (impl_AnswerAt.calls k1 _ _ t334 t337 t338 t339 x8_1 t355 t356 t359 t360 t361 _ ?side1 ?side2 A26.out).mono ?_
          (case side1 => exact CR ((Kd.S_reads' HO_3.out).2.2))
          (case side2 => exact (Kd.S_reads' HO_3.out).2.1)
          rintro e w38 ⟨v357, rfl, ho0, hb⟩
          refine ⟨_, rfl, ?_⟩
          have n0_ := ak (Kd.S_elder' (PS HO_3) (Kd.R_base ho0) hb)
          have n1_ := ak (Kd.R_elder' (PR HO_7) (Kd.R_base ho0) hb)
          have n2_ := ak (Kd.R_elder' (PR HO_350001) (Kd.R_base ho0) hb)
          have n3_ := ak (Kd.R_lower (Kd.R_new' (Kd.R_new' ho0 (Kd.R_lt (PR HO_7))) (Kd.R_lt (PR HO_350001))) (below_size PB))
          have n4_ := ak (kb BK341 hb)
          have n5_ := ak (kb BK349 hb)
          have n6_ := ak (below_step PB hb)
          clear HO_3
          clear HO_7
          clear HO_350001
          clear BK341
          clear BK349
          clear HB
          have HO_3 := n0_
          have HO_7 := n1_
          have HO_350001 := n2_
          have HO358 := n3_
          have BK341 := n4_
          have BK349 := n5_
          have HB := n6_
          clear n0_ n1_ n2_ n3_ n4_ n5_ n6_
          (try clear hb)
          (try clear hb2)
          (try clear hk)
          (try clear hi)
          (try clear ho0)
          obtain ⟨Ao39, co39, eo39⟩ := Kd.R_slice HO358.out
          (first | subst eo39 | (injection eo39 with f1_ f2_ f3_; have f4_ := f1_.symm; have f5_ := f3_.symm; clear f1_ f2_ f3_; subst f4_; subst f5_))
          refine hK.out _ _ ⟨(blk_cell BK349.out 0).trans rfl, (blk_cell BK349.out 1).trans rfl, (blk_cell BK349.out 2).trans rfl, (blk_cell BK349.out 3).trans rfl, (blk_cell BK349.out 4).trans rfl, (blk_cell BK341.out 0).trans rfl, (blk_cell BK341.out 1).trans rfl, (blk_cell BK341.out 2).trans rfl⟩ (fun hHeld => ?_)
          clear hK K
          refine norm_ (a' := ?_) ?_ ?_
          rotate_left
          ·show Act.put _ (some 56) _ = _
           simp only [Act.put, List.setIfInBounds_toArray, List.set_cons_zero, List.set_cons_succ, i64_w, i32_w]
           rfl
          refine one_ (i := 8) (N := some 57) b6_48 rfl rfl (one_of HT_.out KR) (by decide) (fun K hK => ?_)
          refine goes_ Try.func14 KR rfl #[.agg #[.int .i64 t342, .slice Ao15 t343.length co15, .int .i64 t346, .int .i64 t347, .int .i64 t348], .agg #[.int .i64 t355, .slice Ao39 t356.length co39, .int .i64 t359, .int .i64 t360, .int .i64 t361]] (by rfl) rfl rfl AR ?_
          with_reducible refine (impl_EqualResources.calls k1 t342 _ _ t343 t346 t347 t348 t355 _ _ t356 t359 t360 t361 true _ ?side1 ?side2 ?side3 ?side4 A27.out).mono ?_
          (case side1 => exact CR ((Kd.R_reads' HO_350001.out).2.2))
          (case side2 => exact (Kd.R_reads' HO_350001.out).2.1)
          (case side3 => exact CR ((Kd.R_reads' HO358.out).2.2))
          (case side4 => exact (Kd.R_reads' HO358.out).2.1)
          rintro e w40 ⟨rfl, hb⟩
          refine ⟨_, rfl, ?_⟩
          have n0_ := ak (Kd.S_below (PS HO_3) hb)
          have n1_ := ak (Kd.R_below (PR HO_7) hb)
          have n2_ := ak (Kd.R_below (PR HO_350001) hb)
          have n3_ := ak (Kd.R_below (PR HO358) hb)
          have n4_ := ak (kb BK341 hb)
          have n5_ := ak (kb BK349 hb)
          have n6_ := ak (below_step PB hb)
          clear HO_3
          clear HO_7
          clear HO_350001
          clear HO358
          clear BK341
          clear BK349
          clear HB
          have HO_3 := n0_
          have HO_7 := n1_
          have HO_350001 := n2_
          have HO358 := n3_
          have BK341 := n4_
          have BK349 := n5_
          have HB := n6_
          clear n0_ n1_ n2_ n3_ n4_ n5_ n6_
          (try clear hb)
          (try clear hb2)
          (try clear hk)
          (try clear hi)
          refine hK.out _ _ ⟨(blk_cell BK349.out 0).trans rfl, (blk_cell BK349.out 1).trans rfl, (blk_cell BK349.out 2).trans rfl, (blk_cell BK349.out 3).trans rfl, (blk_cell BK349.out 4).trans rfl, (blk_cell BK341.out 0).trans rfl, (blk_cell BK341.out 1).trans rfl, (blk_cell BK341.out 2).trans rfl⟩ (fun hHeld => ?_)
          clear hK K
          refine norm_ (a' := ?_) ?_ ?_
          rotate_left
          ·show Act.put _ (some 57) _ = _
           simp only [Act.put, List.setIfInBounds_toArray, List.set_cons_zero, List.set_cons_succ, i64_w, i32_w]
           rfl
          refine pu_ (i := 9) (N := some 58) b6_47 HT_ ?_
          refine pu_ (i := 10) (N := some 59) b6_46 HT_ ?_
          refine pu_ (i := 11) (N := some 60) b6_45 HT_ ?_
          refine pu_ (i := 13) (N := some 62) b6_43 HT_ ?_
          refine pu_ (i := 14) (N := some 63) b6_41 HT_ ?_
          refine tk_ (i := 12) (N := some 61) b6_40 rfl rfl HT_ HW_ hHeld ?_
          refine one_ (i := 15) (N := some 64) b6_39 rfl rfl (one_of HT_.out KR) (by decide) (fun K hK => ?_)
          refine goes_ Try.func15 KR rfl #[.slice Ao10 t334.length co10, .agg #[.int .i64 t337, .int .i64 t338, .int .i64 t339], .int .i64 x8_1, .int .i64 t340] (by rfl) rfl rfl AR ?_
          with_reducible refine (impl_IsSteady.calls k1 _ _ t334 t337 t338 t339 x8_1 t340 true _ ?side1 ?side2 A29.out).mono ?_
          (case side1 => exact CR ((Kd.S_reads' HO_3.out).2.2))
          (case side2 => exact (Kd.S_reads' HO_3.out).2.1)
          rintro e w41 ⟨rfl, hb⟩
          refine ⟨_, rfl, ?_⟩
          have n0_ := ak (Kd.S_below (PS HO_3) hb)
          have n1_ := ak (Kd.R_below (PR HO_7) hb)
          have n2_ := ak (Kd.R_below (PR HO_350001) hb)
          have n3_ := ak (Kd.R_below (PR HO358) hb)
          have n4_ := ak (kb BK341 hb)
          have n5_ := ak (kb BK349 hb)
          have n6_ := ak (below_step PB hb)
          clear HO_3
          clear HO_7
          clear HO_350001
          clear HO358
          clear BK341
          clear BK349
          clear HB
          have HO_3 := n0_
          have HO_7 := n1_
          have HO_350001 := n2_
          have HO358 := n3_
          have BK341 := n4_
          have BK349 := n5_
          have HB := n6_
          clear n0_ n1_ n2_ n3_ n4_ n5_ n6_
          (try clear hb)
          (try clear hb2)
          (try clear hk)
          (try clear hi)
          refine hK.out _ _ ⟨(blk_cell BK349.out 0).trans rfl, (blk_cell BK349.out 1).trans rfl, (blk_cell BK349.out 2).trans rfl, (blk_cell BK349.out 3).trans rfl, (blk_cell BK349.out 4).trans rfl, (blk_cell BK341.out 0).trans rfl, (blk_cell BK341.out 1).trans rfl, (blk_cell BK341.out 2).trans rfl⟩ (fun hHeld => ?_)
          clear hK K
          refine norm_ (a' := ?_) ?_ ?_
          rotate_left
          ·show Act.put _ (some 64) _ = _
           simp only [Act.put, List.setIfInBounds_toArray, List.set_cons_zero, List.set_cons_succ, i64_w, i32_w]
           rfl
          refine pu_ (i := 16) (N := some 65) b6_38 HT_ ?_
          refine pu_ (i := 17) (N := some 66) b6_37 HT_ ?_
          refine pu_ (i := 18) (N := some 67) b6_36 HT_ ?_
          refine pu_ (i := 19) (N := some 68) b6_35 HT_ ?_
          refine pu_ (i := 20) (N := some 69) b6_34 HT_ ?_
          refine pu_ (i := 21) (N := some 70) b6_33 HT_ ?_
          refine pu_ (i := 22) (N := some 71) b6_32 HT_ ?_
          refine un_ (i := 23) (N := some 72) b6_31 HT_ ?_
          refine un_ (i := 24) (N := some 73) b6_30 HT_ ?_
          refine un_ (i := 25) (N := some 74) b6_29 HT_ ?_
          refine pu_ (i := 26) (N := some 75) b6_28 HT_ ?_
          refine pu_ (i := 27) (N := some 76) b6_27 HT_ ?_
          refine done_ (done_of HT_.out KR) ?_
          try go_wp2
          go_meet
          case rel => exact ⟨_, (false), (by first | rfl | (simp; done) | (simp [*]; done)), H', ⟨by have := HK1.out; first | omega | exact Nat.le_refl _⟩, ⟨by (with_reducible repeat (first | apply Kd.R_alloc | apply Kd.R_drewN | apply Kd.R_drew)); exact Kd.R_mono HO_350001.out (fun _ hk => trivial)⟩, ⟨PK BK341⟩, ⟨PK BK349⟩, ⟨PB⟩⟩
        ·replace c30 := Bool.eq_false_iff.mpr c30
         subst c30
         have H1 : (laws_FnSites.j1 k1 l0 true) = some r := by rw [if_neg (show ¬ (false = true) by decide)] at H; exact H
         clear H
         have H := H1
         clear H1
         have H' := Aside0.mk H
         clear H
         try go_wp2
         have n0_ := ak (Kd.S_drew HO_3.out)
         have n1_ := ak (Kd.R_drew HO_7.out)
         have n2_ := ak (Kd.R_drew HO_350001.out)
         have n3_ := ak (blk_drew BK341.out)
         have n4_ := ak (blk_drew BK349.out)
         have n5_ := ak (below_drew1 HB.out)
         clear HO_3
         clear HO_7
         clear HO_350001
         clear BK341
         clear BK349
         clear HB
         have HO_3 := n0_
         have HO_7 := n1_
         have HO_350001 := n2_
         have BK341 := n3_
         have BK349 := n4_
         have HB := n5_
         clear n0_ n1_ n2_ n3_ n4_ n5_
         refine start_ (n := 28) (S := fun w' => w'.cell? ⟨gb349, 0, none⟩ = some (.int .i64 t342) ∧ w'.cell? ⟨gb349, 1, none⟩ = some (.slice Ao15 t343.length co15) ∧ w'.cell? ⟨gb349, 2, none⟩ = some (.int .i64 t346) ∧ w'.cell? ⟨gb349, 3, none⟩ = some (.int .i64 t347) ∧ w'.cell? ⟨gb349, 4, none⟩ = some (.int .i64 t348) ∧ w'.cell? ⟨gb341, 0, none⟩ = some (.int .i64 t337) ∧ w'.cell? ⟨gb341, 1, none⟩ = some (.int .i64 t338) ∧ w'.cell? ⟨gb341, 2, none⟩ = some (.int .i64 t339)) (ds := []) b6_60 KR rfl rfl ⟨(blk_cell BK349.out 0).trans rfl, (blk_cell BK349.out 1).trans rfl, (blk_cell BK349.out 2).trans rfl, (blk_cell BK349.out 3).trans rfl, (blk_cell BK349.out 4).trans rfl, (blk_cell BK341.out 0).trans rfl, (blk_cell BK341.out 1).trans rfl, (blk_cell BK341.out 2).trans rfl⟩ (fun hHeld => ?_); refine with_tabW laws_FnSites.tab12 laws_FnSites.bits12 (fun HT_ HW_ => ?_)
         generalize wr.drew = w42 at HO_3 HO_7 HO_350001 BK341 BK349 HB hHeld ⊢
         refine pu_ (i := 0) (N := some 49) b6_59 HT_ ?_
         refine pu_ (i := 1) (N := some 50) b6_58 HT_ ?_
         refine pu_ (i := 2) (N := some 51) b6_57 HT_ ?_
         refine pu_ (i := 4) (N := some 53) b6_55 HT_ ?_
         refine pu_ (i := 6) (N := some 55) b6_53 HT_ ?_
         refine tk_ (i := 3) (N := some 52) b6_51 rfl rfl HT_ HW_ hHeld ?_
         refine take_ (i := 5) (N := some 54) (v := ?_) (a' := ?_) b6_50 rfl rfl (take_ofW HT_.out HW_.out KR) (fun _ _ _ h => h) (Or.inl ⟨by rfl, ?_⟩) hHeld ?_ ?_
         rotate_left
         ·rintro w' ⟨s0, s1, s2, s3, s4, s5, s6, s7⟩
          go_simp
          with_reducible rfl
         rotate_left
         ·simp only [Act.put, List.setIfInBounds_toArray, List.set_cons_zero, List.set_cons_succ, i64_w, i32_w]
          rfl
         refine one_ (i := 7) (N := some 56) b6_49 rfl rfl (one_of HT_.out KR) (by decide) (fun K hK => ?_)
         refine goes_ Try.func12 KR rfl #[.slice Ao10 t334.length co10, .agg #[.int .i64 t337, .int .i64 t338, .int .i64 t339], .int .i64 x8_1] (by rfl) rfl rfl AR ?_
         with_reducible refine (impl_AnswerAt.calls k1 _ _ t334 t337 t338 t339 x8_1 t355 t356 t359 t360 t361 _ ?side1 ?side2 A26.out).mono ?_
         (case side1 => exact CR ((Kd.S_reads' HO_3.out).2.2))
         (case side2 => exact (Kd.S_reads' HO_3.out).2.1)
         rintro e w43 ⟨v357, rfl, ho0, hb⟩
         refine ⟨_, rfl, ?_⟩
         have n0_ := ak (Kd.S_elder' (PS HO_3) (Kd.R_base ho0) hb)
         have n1_ := ak (Kd.R_elder' (PR HO_7) (Kd.R_base ho0) hb)
         have n2_ := ak (Kd.R_elder' (PR HO_350001) (Kd.R_base ho0) hb)
         have n3_ := ak (Kd.R_lower (Kd.R_new' (Kd.R_new' ho0 (Kd.R_lt (PR HO_7))) (Kd.R_lt (PR HO_350001))) (below_size PB))
         have n4_ := ak (kb BK341 hb)
         have n5_ := ak (kb BK349 hb)
         have n6_ := ak (below_step PB hb)
         clear HO_3
         clear HO_7
         clear HO_350001
         clear BK341
         clear BK349
         clear HB
         have HO_3 := n0_
         have HO_7 := n1_
         have HO_350001 := n2_
         have HO358 := n3_
         have BK341 := n4_
         have BK349 := n5_
         have HB := n6_
         clear n0_ n1_ n2_ n3_ n4_ n5_ n6_
         (try clear hb)
         (try clear hb2)
         (try clear hk)
         (try clear hi)
         (try clear ho0)
         obtain ⟨Ao44, co44, eo44⟩ := Kd.R_slice HO358.out
         (first | subst eo44 | (injection eo44 with f1_ f2_ f3_; have f4_ := f1_.symm; have f5_ := f3_.symm; clear f1_ f2_ f3_; subst f4_; subst f5_))
         refine hK.out _ _ ⟨(blk_cell BK349.out 0).trans rfl, (blk_cell BK349.out 1).trans rfl, (blk_cell BK349.out 2).trans rfl, (blk_cell BK349.out 3).trans rfl, (blk_cell BK349.out 4).trans rfl, (blk_cell BK341.out 0).trans rfl, (blk_cell BK341.out 1).trans rfl, (blk_cell BK341.out 2).trans rfl⟩ (fun hHeld => ?_)
         clear hK K
         refine norm_ (a' := ?_) ?_ ?_
         rotate_left
         ·show Act.put _ (some 56) _ = _
          simp only [Act.put, List.setIfInBounds_toArray, List.set_cons_zero, List.set_cons_succ, i64_w, i32_w]
          rfl
         refine one_ (i := 8) (N := some 57) b6_48 rfl rfl (one_of HT_.out KR) (by decide) (fun K hK => ?_)
         refine goes_ Try.func14 KR rfl #[.agg #[.int .i64 t342, .slice Ao15 t343.length co15, .int .i64 t346, .int .i64 t347, .int .i64 t348], .agg #[.int .i64 t355, .slice Ao44 t356.length co44, .int .i64 t359, .int .i64 t360, .int .i64 t361]] (by rfl) rfl rfl AR ?_
         with_reducible refine (impl_EqualResources.calls k1 t342 _ _ t343 t346 t347 t348 t355 _ _ t356 t359 t360 t361 true _ ?side1 ?side2 ?side3 ?side4 A27.out).mono ?_
         (case side1 => exact CR ((Kd.R_reads' HO_350001.out).2.2))
         (case side2 => exact (Kd.R_reads' HO_350001.out).2.1)
         (case side3 => exact CR ((Kd.R_reads' HO358.out).2.2))
         (case side4 => exact (Kd.R_reads' HO358.out).2.1)
         rintro e w45 ⟨rfl, hb⟩
         refine ⟨_, rfl, ?_⟩
         have n0_ := ak (Kd.S_below (PS HO_3) hb)
         have n1_ := ak (Kd.R_below (PR HO_7) hb)
         have n2_ := ak (Kd.R_below (PR HO_350001) hb)
         have n3_ := ak (Kd.R_below (PR HO358) hb)
         have n4_ := ak (kb BK341 hb)
         have n5_ := ak (kb BK349 hb)
         have n6_ := ak (below_step PB hb)
         clear HO_3
         clear HO_7
         clear HO_350001
         clear HO358
         clear BK341
         clear BK349
         clear HB
         have HO_3 := n0_
         have HO_7 := n1_
         have HO_350001 := n2_
         have HO358 := n3_
         have BK341 := n4_
         have BK349 := n5_
         have HB := n6_
         clear n0_ n1_ n2_ n3_ n4_ n5_ n6_
         (try clear hb)
         (try clear hb2)
         (try clear hk)
         (try clear hi)
         refine hK.out _ _ ⟨(blk_cell BK349.out 0).trans rfl, (blk_cell BK349.out 1).trans rfl, (blk_cell BK349.out 2).trans rfl, (blk_cell BK349.out 3).trans rfl, (blk_cell BK349.out 4).trans rfl, (blk_cell BK341.out 0).trans rfl, (blk_cell BK341.out 1).trans rfl, (blk_cell BK341.out 2).trans rfl⟩ (fun hHeld => ?_)
         clear hK K
         refine norm_ (a' := ?_) ?_ ?_
         rotate_left
         ·show Act.put _ (some 57) _ = _
          simp only [Act.put, List.setIfInBounds_toArray, List.set_cons_zero, List.set_cons_succ, i64_w, i32_w]
          rfl
         refine pu_ (i := 9) (N := some 58) b6_47 HT_ ?_
         refine pu_ (i := 10) (N := some 59) b6_46 HT_ ?_
         refine pu_ (i := 11) (N := some 60) b6_45 HT_ ?_
         refine pu_ (i := 13) (N := some 62) b6_43 HT_ ?_
         refine pu_ (i := 14) (N := some 63) b6_41 HT_ ?_
         refine tk_ (i := 12) (N := some 61) b6_40 rfl rfl HT_ HW_ hHeld ?_
         refine one_ (i := 15) (N := some 64) b6_39 rfl rfl (one_of HT_.out KR) (by decide) (fun K hK => ?_)
         refine goes_ Try.func15 KR rfl #[.slice Ao10 t334.length co10, .agg #[.int .i64 t337, .int .i64 t338, .int .i64 t339], .int .i64 x8_1, .int .i64 t340] (by rfl) rfl rfl AR ?_
         with_reducible refine (impl_IsSteady.calls k1 _ _ t334 t337 t338 t339 x8_1 t340 false _ ?side1 ?side2 A29.out).mono ?_
         (case side1 => exact CR ((Kd.S_reads' HO_3.out).2.2))
         (case side2 => exact (Kd.S_reads' HO_3.out).2.1)
         rintro e w46 ⟨rfl, hb⟩
         refine ⟨_, rfl, ?_⟩
         have n0_ := ak (Kd.S_below (PS HO_3) hb)
         have n1_ := ak (Kd.R_below (PR HO_7) hb)
         have n2_ := ak (Kd.R_below (PR HO_350001) hb)
         have n3_ := ak (Kd.R_below (PR HO358) hb)
         have n4_ := ak (kb BK341 hb)
         have n5_ := ak (kb BK349 hb)
         have n6_ := ak (below_step PB hb)
         clear HO_3
         clear HO_7
         clear HO_350001
         clear HO358
         clear BK341
         clear BK349
         clear HB
         have HO_3 := n0_
         have HO_7 := n1_
         have HO_350001 := n2_
         have HO358 := n3_
         have BK341 := n4_
         have BK349 := n5_
         have HB := n6_
         clear n0_ n1_ n2_ n3_ n4_ n5_ n6_
         (try clear hb)
         (try clear hb2)
         (try clear hk)
         (try clear hi)
         refine hK.out _ _ ⟨(blk_cell BK349.out 0).trans rfl, (blk_cell BK349.out 1).trans rfl, (blk_cell BK349.out 2).trans rfl, (blk_cell BK349.out 3).trans rfl, (blk_cell BK349.out 4).trans rfl, (blk_cell BK341.out 0).trans rfl, (blk_cell BK341.out 1).trans rfl, (blk_cell BK341.out 2).trans rfl⟩ (fun hHeld => ?_)
         clear hK K
         refine norm_ (a' := ?_) ?_ ?_
         rotate_left
         ·show Act.put _ (some 64) _ = _
          simp only [Act.put, List.setIfInBounds_toArray, List.set_cons_zero, List.set_cons_succ, i64_w, i32_w]
          rfl
         refine pu_ (i := 16) (N := some 65) b6_38 HT_ ?_
         refine pu_ (i := 17) (N := some 66) b6_37 HT_ ?_
         refine pu_ (i := 18) (N := some 67) b6_36 HT_ ?_
         refine pu_ (i := 19) (N := some 68) b6_35 HT_ ?_
         refine un_ (i := 20) (N := some 69) b6_34 HT_ ?_
         refine un_ (i := 21) (N := some 70) b6_33 HT_ ?_
         refine un_ (i := 22) (N := some 71) b6_32 HT_ ?_
         refine un_ (i := 23) (N := some 72) b6_31 HT_ ?_
         refine un_ (i := 24) (N := some 73) b6_30 HT_ ?_
         refine un_ (i := 25) (N := some 74) b6_29 HT_ ?_
         refine un_ (i := 26) (N := some 75) b6_28 HT_ ?_
         refine pu_ (i := 27) (N := some 76) b6_27 HT_ ?_
         refine done_ (done_of HT_.out KR) ?_
         try go_wp2
         go_meet
         case rel => exact ⟨_, (true), (by first | rfl | (simp; done) | (simp [*]; done)), H', ⟨by have := HK1.out; first | omega | exact Nat.le_refl _⟩, ⟨by (with_reducible repeat (first | apply Kd.R_alloc | apply Kd.R_drewN | apply Kd.R_drew)); exact Kd.R_mono HO_350001.out (fun _ hk => trivial)⟩, ⟨PK BK341⟩, ⟨PK BK349⟩, ⟨PB⟩⟩
       ·replace c28 := Bool.eq_false_iff.mpr c28
        subst c28
        have H1 : (laws_FnSites.j1 k1 l0 true) = some r := by rw [if_neg (show ¬ (false = true) by decide)] at H; exact H
        clear H
        have H := H1
        clear H1
        have H' := Aside0.mk H
        clear H
        try go_wp2
        have n0_ := ak (Kd.S_drew HO_3.out)
        have n1_ := ak (Kd.R_drew HO_7.out)
        have n2_ := ak (Kd.R_drew HO_350001.out)
        have n3_ := ak (blk_drew BK341.out)
        have n4_ := ak (blk_drew BK349.out)
        have n5_ := ak (below_drew1 HB.out)
        clear HO_3
        clear HO_7
        clear HO_350001
        clear BK341
        clear BK349
        clear HB
        have HO_3 := n0_
        have HO_7 := n1_
        have HO_350001 := n2_
        have BK341 := n3_
        have BK349 := n4_
        have HB := n5_
        clear n0_ n1_ n2_ n3_ n4_ n5_
        refine start_ (n := 28) (S := fun w' => w'.cell? ⟨gb349, 0, none⟩ = some (.int .i64 t342) ∧ w'.cell? ⟨gb349, 1, none⟩ = some (.slice Ao15 t343.length co15) ∧ w'.cell? ⟨gb349, 2, none⟩ = some (.int .i64 t346) ∧ w'.cell? ⟨gb349, 3, none⟩ = some (.int .i64 t347) ∧ w'.cell? ⟨gb349, 4, none⟩ = some (.int .i64 t348) ∧ w'.cell? ⟨gb341, 0, none⟩ = some (.int .i64 t337) ∧ w'.cell? ⟨gb341, 1, none⟩ = some (.int .i64 t338) ∧ w'.cell? ⟨gb341, 2, none⟩ = some (.int .i64 t339)) (ds := []) b6_60 KR rfl rfl ⟨(blk_cell BK349.out 0).trans rfl, (blk_cell BK349.out 1).trans rfl, (blk_cell BK349.out 2).trans rfl, (blk_cell BK349.out 3).trans rfl, (blk_cell BK349.out 4).trans rfl, (blk_cell BK341.out 0).trans rfl, (blk_cell BK341.out 1).trans rfl, (blk_cell BK341.out 2).trans rfl⟩ (fun hHeld => ?_); refine with_tabW laws_FnSites.tab12 laws_FnSites.bits12 (fun HT_ HW_ => ?_)
        generalize wr.drew = w47 at HO_3 HO_7 HO_350001 BK341 BK349 HB hHeld ⊢
        refine pu_ (i := 0) (N := some 49) b6_59 HT_ ?_
        refine pu_ (i := 1) (N := some 50) b6_58 HT_ ?_
        refine pu_ (i := 2) (N := some 51) b6_57 HT_ ?_
        refine pu_ (i := 4) (N := some 53) b6_55 HT_ ?_
        refine pu_ (i := 6) (N := some 55) b6_53 HT_ ?_
        refine tk_ (i := 3) (N := some 52) b6_51 rfl rfl HT_ HW_ hHeld ?_
        refine take_ (i := 5) (N := some 54) (v := ?_) (a' := ?_) b6_50 rfl rfl (take_ofW HT_.out HW_.out KR) (fun _ _ _ h => h) (Or.inl ⟨by rfl, ?_⟩) hHeld ?_ ?_
        rotate_left
        ·rintro w' ⟨s0, s1, s2, s3, s4, s5, s6, s7⟩
         go_simp
         with_reducible rfl
        rotate_left
        ·simp only [Act.put, List.setIfInBounds_toArray, List.set_cons_zero, List.set_cons_succ, i64_w, i32_w]
         rfl
        refine one_ (i := 7) (N := some 56) b6_49 rfl rfl (one_of HT_.out KR) (by decide) (fun K hK => ?_)
        refine goes_ Try.func12 KR rfl #[.slice Ao10 t334.length co10, .agg #[.int .i64 t337, .int .i64 t338, .int .i64 t339], .int .i64 x8_1] (by rfl) rfl rfl AR ?_
        with_reducible refine (impl_AnswerAt.calls k1 _ _ t334 t337 t338 t339 x8_1 t355 t356 t359 t360 t361 _ ?side1 ?side2 A26.out).mono ?_
        (case side1 => exact CR ((Kd.S_reads' HO_3.out).2.2))
        (case side2 => exact (Kd.S_reads' HO_3.out).2.1)
        rintro e w48 ⟨v357, rfl, ho0, hb⟩
        refine ⟨_, rfl, ?_⟩
        have n0_ := ak (Kd.S_elder' (PS HO_3) (Kd.R_base ho0) hb)
        have n1_ := ak (Kd.R_elder' (PR HO_7) (Kd.R_base ho0) hb)
        have n2_ := ak (Kd.R_elder' (PR HO_350001) (Kd.R_base ho0) hb)
        have n3_ := ak (Kd.R_lower (Kd.R_new' (Kd.R_new' ho0 (Kd.R_lt (PR HO_7))) (Kd.R_lt (PR HO_350001))) (below_size PB))
        have n4_ := ak (kb BK341 hb)
        have n5_ := ak (kb BK349 hb)
        have n6_ := ak (below_step PB hb)
        clear HO_3
        clear HO_7
        clear HO_350001
        clear BK341
        clear BK349
        clear HB
        have HO_3 := n0_
        have HO_7 := n1_
        have HO_350001 := n2_
        have HO358 := n3_
        have BK341 := n4_
        have BK349 := n5_
        have HB := n6_
        clear n0_ n1_ n2_ n3_ n4_ n5_ n6_
        (try clear hb)
        (try clear hb2)
        (try clear hk)
        (try clear hi)
        (try clear ho0)
        obtain ⟨Ao49, co49, eo49⟩ := Kd.R_slice HO358.out
        (first | subst eo49 | (injection eo49 with f1_ f2_ f3_; have f4_ := f1_.symm; have f5_ := f3_.symm; clear f1_ f2_ f3_; subst f4_; subst f5_))
        refine hK.out _ _ ⟨(blk_cell BK349.out 0).trans rfl, (blk_cell BK349.out 1).trans rfl, (blk_cell BK349.out 2).trans rfl, (blk_cell BK349.out 3).trans rfl, (blk_cell BK349.out 4).trans rfl, (blk_cell BK341.out 0).trans rfl, (blk_cell BK341.out 1).trans rfl, (blk_cell BK341.out 2).trans rfl⟩ (fun hHeld => ?_)
        clear hK K
        refine norm_ (a' := ?_) ?_ ?_
        rotate_left
        ·show Act.put _ (some 56) _ = _
         simp only [Act.put, List.setIfInBounds_toArray, List.set_cons_zero, List.set_cons_succ, i64_w, i32_w]
         rfl
        refine one_ (i := 8) (N := some 57) b6_48 rfl rfl (one_of HT_.out KR) (by decide) (fun K hK => ?_)
        refine goes_ Try.func14 KR rfl #[.agg #[.int .i64 t342, .slice Ao15 t343.length co15, .int .i64 t346, .int .i64 t347, .int .i64 t348], .agg #[.int .i64 t355, .slice Ao49 t356.length co49, .int .i64 t359, .int .i64 t360, .int .i64 t361]] (by rfl) rfl rfl AR ?_
        with_reducible refine (impl_EqualResources.calls k1 t342 _ _ t343 t346 t347 t348 t355 _ _ t356 t359 t360 t361 false _ ?side1 ?side2 ?side3 ?side4 A27.out).mono ?_
        (case side1 => exact CR ((Kd.R_reads' HO_350001.out).2.2))
        (case side2 => exact (Kd.R_reads' HO_350001.out).2.1)
        (case side3 => exact CR ((Kd.R_reads' HO358.out).2.2))
        (case side4 => exact (Kd.R_reads' HO358.out).2.1)
        rintro e w50 ⟨rfl, hb⟩
        refine ⟨_, rfl, ?_⟩
        have n0_ := ak (Kd.S_below (PS HO_3) hb)
        have n1_ := ak (Kd.R_below (PR HO_7) hb)
        have n2_ := ak (Kd.R_below (PR HO_350001) hb)
        have n3_ := ak (Kd.R_below (PR HO358) hb)
        have n4_ := ak (kb BK341 hb)
        have n5_ := ak (kb BK349 hb)
        have n6_ := ak (below_step PB hb)
        clear HO_3
        clear HO_7
        clear HO_350001
        clear HO358
        clear BK341
        clear BK349
        clear HB
        have HO_3 := n0_
        have HO_7 := n1_
        have HO_350001 := n2_
        have HO358 := n3_
        have BK341 := n4_
        have BK349 := n5_
        have HB := n6_
        clear n0_ n1_ n2_ n3_ n4_ n5_ n6_
        (try clear hb)
        (try clear hb2)
        (try clear hk)
        (try clear hi)
        refine hK.out _ _ ⟨(blk_cell BK349.out 0).trans rfl, (blk_cell BK349.out 1).trans rfl, (blk_cell BK349.out 2).trans rfl, (blk_cell BK349.out 3).trans rfl, (blk_cell BK349.out 4).trans rfl, (blk_cell BK341.out 0).trans rfl, (blk_cell BK341.out 1).trans rfl, (blk_cell BK341.out 2).trans rfl⟩ (fun hHeld => ?_)
        clear hK K
        refine norm_ (a' := ?_) ?_ ?_
        rotate_left
        ·show Act.put _ (some 57) _ = _
         simp only [Act.put, List.setIfInBounds_toArray, List.set_cons_zero, List.set_cons_succ, i64_w, i32_w]
         rfl
        refine pu_ (i := 9) (N := some 58) b6_47 HT_ ?_
        refine pu_ (i := 10) (N := some 59) b6_46 HT_ ?_
        refine un_ (i := 11) (N := some 60) b6_45 HT_ ?_
        refine un_ (i := 12) (N := some 61) b6_44 HT_ ?_
        refine un_ (i := 13) (N := some 62) b6_42 HT_ ?_
        refine un_ (i := 14) (N := some 63) b6_40 HT_ ?_
        refine un_ (i := 15) (N := some 64) b6_39 HT_ ?_
        refine un_ (i := 16) (N := some 65) b6_38 HT_ ?_
        refine pu_ (i := 17) (N := some 66) b6_37 HT_ ?_
        refine pu_ (i := 18) (N := some 67) b6_36 HT_ ?_
        refine pu_ (i := 19) (N := some 68) b6_35 HT_ ?_
        refine un_ (i := 20) (N := some 69) b6_34 HT_ ?_
        refine un_ (i := 21) (N := some 70) b6_33 HT_ ?_
        refine un_ (i := 22) (N := some 71) b6_32 HT_ ?_
        refine un_ (i := 23) (N := some 72) b6_31 HT_ ?_
        refine un_ (i := 24) (N := some 73) b6_30 HT_ ?_
        refine un_ (i := 25) (N := some 74) b6_29 HT_ ?_
        refine un_ (i := 26) (N := some 75) b6_28 HT_ ?_
        refine pu_ (i := 27) (N := some 76) b6_27 HT_ ?_
        refine done_ (done_of HT_.out KR) ?_
        try go_wp2
        go_meet
        case rel => exact ⟨_, (true), (by first | rfl | (simp; done) | (simp [*]; done)), H', ⟨by have := HK1.out; first | omega | exact Nat.le_refl _⟩, ⟨by (with_reducible repeat (first | apply Kd.R_alloc | apply Kd.R_drewN | apply Kd.R_drew)); exact Kd.R_mono HO_350001.out (fun _ hk => trivial)⟩, ⟨PK BK341⟩, ⟨PK BK349⟩, ⟨PB⟩⟩
      ·rw [if_neg c25] at H
       have c25b0 : decide (0 ≤ x8_1) = false := decide_eq_false c25
       clear c25
       (first | rw [c25b0] | (simp only [i64_w, i32_w]; rw [c25b0]) | skip)
       by_cases c51 : x8_1 < 0
       ·rw [if_pos c51] at H
        have c51b0 : decide (x8_1 < 0) = true := decide_eq_true c51
        clear c51
        have H' := Aside0.mk H
        clear H
        try go_wp2
        have n0_ := ak (Kd.S_drew HO_3.out)
        have n1_ := ak (Kd.R_drew HO_7.out)
        have n2_ := ak (Kd.R_drew HO_350001.out)
        have n3_ := ak (blk_drew BK341.out)
        have n4_ := ak (blk_drew BK349.out)
        have n5_ := ak (below_drew1 HB.out)
        clear HO_3
        clear HO_7
        clear HO_350001
        clear BK341
        clear BK349
        clear HB
        have HO_3 := n0_
        have HO_7 := n1_
        have HO_350001 := n2_
        have BK341 := n3_
        have BK349 := n4_
        have HB := n5_
        clear n0_ n1_ n2_ n3_ n4_ n5_
        refine start_ (n := 28) (S := fun w' => w'.cell? ⟨gb349, 0, none⟩ = some (.int .i64 t342) ∧ w'.cell? ⟨gb349, 1, none⟩ = some (.slice Ao15 t343.length co15) ∧ w'.cell? ⟨gb349, 2, none⟩ = some (.int .i64 t346) ∧ w'.cell? ⟨gb349, 3, none⟩ = some (.int .i64 t347) ∧ w'.cell? ⟨gb349, 4, none⟩ = some (.int .i64 t348)) (ds := []) b6_60 KR rfl rfl ⟨(blk_cell BK349.out 0).trans rfl, (blk_cell BK349.out 1).trans rfl, (blk_cell BK349.out 2).trans rfl, (blk_cell BK349.out 3).trans rfl, (blk_cell BK349.out 4).trans rfl⟩ (fun hHeld => ?_); refine with_tabW laws_FnSites.tab12 laws_FnSites.bits12 (fun HT_ HW_ => ?_)
        generalize wr.drew = w52 at HO_3 HO_7 HO_350001 BK341 BK349 HB hHeld ⊢
        refine pu_ (i := 0) (N := some 49) b6_59 HT_ ?_
        refine pu_ (i := 1) (N := some 50) b6_58 HT_ ?_
        refine pu_ (i := 2) (N := some 51) b6_57 HT_ ?_
        refine un_ (i := 3) (N := some 52) b6_56 HT_ ?_
        refine un_ (i := 4) (N := some 53) b6_54 HT_ ?_
        refine un_ (i := 5) (N := some 54) b6_52 HT_ ?_
        refine un_ (i := 6) (N := some 55) b6_50 HT_ ?_
        refine un_ (i := 7) (N := some 56) b6_49 HT_ ?_
        refine un_ (i := 8) (N := some 57) b6_48 HT_ ?_
        refine un_ (i := 9) (N := some 58) b6_47 HT_ ?_
        refine un_ (i := 10) (N := some 59) b6_46 HT_ ?_
        refine un_ (i := 11) (N := some 60) b6_45 HT_ ?_
        refine un_ (i := 12) (N := some 61) b6_44 HT_ ?_
        refine un_ (i := 13) (N := some 62) b6_42 HT_ ?_
        refine un_ (i := 14) (N := some 63) b6_40 HT_ ?_
        refine un_ (i := 15) (N := some 64) b6_39 HT_ ?_
        refine un_ (i := 16) (N := some 65) b6_38 HT_ ?_
        refine un_ (i := 17) (N := some 66) b6_37 HT_ ?_
        refine pu_ (i := 18) (N := some 67) b6_36 HT_ ?_
        refine pu_ (i := 19) (N := some 68) b6_35 HT_ ?_
        refine pu_ (i := 20) (N := some 69) b6_34 HT_ ?_
        refine pu_ (i := 21) (N := some 70) b6_33 HT_ ?_
        refine pu_ (i := 22) (N := some 71) b6_32 HT_ ?_
        refine pu_ (i := 23) (N := some 72) b6_31 HT_ ?_
        refine tk_ (i := 24) (N := some 73) b6_30 rfl rfl HT_ HW_ hHeld ?_
        refine pu_ (i := 25) (N := some 74) b6_29 HT_ ?_
        refine pu_ (i := 26) (N := some 75) b6_28 HT_ ?_
        refine pu_ (i := 27) (N := some 76) b6_27 HT_ ?_
        refine done_ (done_of HT_.out KR) ?_
        try go_wp2
        go_meet
        case rel => exact ⟨_, ((t342 != 4)), (by first | rfl | (simp; done) | (simp [*]; done)), H', ⟨by have := HK1.out; first | omega | exact Nat.le_refl _⟩, ⟨by (with_reducible repeat (first | apply Kd.R_alloc | apply Kd.R_drewN | apply Kd.R_drew)); exact Kd.R_mono HO_350001.out (fun _ hk => trivial)⟩, ⟨PK BK341⟩, ⟨PK BK349⟩, ⟨PB⟩⟩
       ·rw [if_neg c51] at H
        have c51b0 : decide (x8_1 < 0) = false := decide_eq_false c51
        clear c51
        have H' := Aside0.mk H
        clear H
        try go_wp2
        have n0_ := ak (Kd.S_drew HO_3.out)
        have n1_ := ak (Kd.R_drew HO_7.out)
        have n2_ := ak (Kd.R_drew HO_350001.out)
        have n3_ := ak (blk_drew BK341.out)
        have n4_ := ak (blk_drew BK349.out)
        have n5_ := ak (below_drew1 HB.out)
        clear HO_3
        clear HO_7
        clear HO_350001
        clear BK341
        clear BK349
        clear HB
        have HO_3 := n0_
        have HO_7 := n1_
        have HO_350001 := n2_
        have BK341 := n3_
        have BK349 := n4_
        have HB := n5_
        clear n0_ n1_ n2_ n3_ n4_ n5_
        refine start_ (n := 28) (S := fun w' => True) (ds := []) b6_60 KR rfl rfl trivial (fun hHeld => ?_); refine with_tabW laws_FnSites.tab12 laws_FnSites.bits12 (fun HT_ HW_ => ?_)
        generalize wr.drew = w53 at HO_3 HO_7 HO_350001 BK341 BK349 HB hHeld ⊢
        refine pu_ (i := 0) (N := some 49) b6_59 HT_ ?_
        refine pu_ (i := 1) (N := some 50) b6_58 HT_ ?_
        refine pu_ (i := 2) (N := some 51) b6_57 HT_ ?_
        refine un_ (i := 3) (N := some 52) b6_56 HT_ ?_
        refine un_ (i := 4) (N := some 53) b6_54 HT_ ?_
        refine un_ (i := 5) (N := some 54) b6_52 HT_ ?_
        refine un_ (i := 6) (N := some 55) b6_50 HT_ ?_
        refine un_ (i := 7) (N := some 56) b6_49 HT_ ?_
        refine un_ (i := 8) (N := some 57) b6_48 HT_ ?_
        refine un_ (i := 9) (N := some 58) b6_47 HT_ ?_
        refine un_ (i := 10) (N := some 59) b6_46 HT_ ?_
        refine un_ (i := 11) (N := some 60) b6_45 HT_ ?_
        refine un_ (i := 12) (N := some 61) b6_44 HT_ ?_
        refine un_ (i := 13) (N := some 62) b6_42 HT_ ?_
        refine un_ (i := 14) (N := some 63) b6_40 HT_ ?_
        refine un_ (i := 15) (N := some 64) b6_39 HT_ ?_
        refine un_ (i := 16) (N := some 65) b6_38 HT_ ?_
        refine un_ (i := 17) (N := some 66) b6_37 HT_ ?_
        refine pu_ (i := 18) (N := some 67) b6_36 HT_ ?_
        refine pu_ (i := 19) (N := some 68) b6_35 HT_ ?_
        refine pu_ (i := 20) (N := some 69) b6_34 HT_ ?_
        refine pu_ (i := 21) (N := some 70) b6_33 HT_ ?_
        refine pu_ (i := 22) (N := some 71) b6_32 HT_ ?_
        refine un_ (i := 23) (N := some 72) b6_31 HT_ ?_
        refine un_ (i := 24) (N := some 73) b6_30 HT_ ?_
        refine un_ (i := 25) (N := some 74) b6_29 HT_ ?_
        refine pu_ (i := 26) (N := some 75) b6_28 HT_ ?_
        refine pu_ (i := 27) (N := some 76) b6_27 HT_ ?_
        refine done_ (done_of HT_.out KR) ?_
        try go_wp2
        go_meet
        case rel => exact ⟨_, (false), (by first | rfl | (simp; done) | (simp [*]; done)), H', ⟨by have := HK1.out; first | omega | exact Nat.le_refl _⟩, ⟨by (with_reducible repeat (first | apply Kd.R_alloc | apply Kd.R_drewN | apply Kd.R_drew)); exact Kd.R_mono HO_350001.out (fun _ hk => trivial)⟩, ⟨PK BK341⟩, ⟨PK BK349⟩, ⟨PB⟩⟩
     case rest =>
      clear HC23
      (try clear c1); (try clear c2); (try clear p2); (try clear c5); (try clear c12); (try clear c14); (try clear c25); (try clear c25b0); (try clear c51); (try clear c51b0)
      obtain ⟨kq, x76_22, rfl, HA, HJ22, HO_350001, BK341, BK349, HB⟩ := hcut
      cases kq with
      | zero => exact absurd HA.out (by simp [laws_FnSites.j1])
      | succ kj22 =>
       have H := HA.out
       clear HA
       simp only [laws_FnSites.j1] at H
       by_cases c54 : x76_22 = true
       ·subst c54
        have H1 : (some false) = some r := by rw [if_pos rfl] at H; exact H
        clear H
        have H := H1
        clear H1
        cases (Option.some.inj H).trans hT_
       ·replace c54 := Bool.eq_false_iff.mpr c54
        subst c54
        have H1 : ((spec_DrawFollowAt.f kj22 l0).bind fun bt364 => ((impl_FollowAt.f kj22 bt364.1 bt364.2.1 bt364.2.2.1 bt364.2.2.2.1 bt364.2.2.2.2).bind fun bt372 => (laws_FnSites.l1 kj22 bt364.1 bt364.2.2.2.2 bt372.2.2.2.2.2 0 bt364.2.1 bt364.2.2.1 bt364.2.2.2.1 bt372.1 bt372.2.1 bt372.2.2.1 bt372.2.2.2.1 bt372.2.2.2.2.1))) = some r := by rw [if_neg (show ¬ (false = true) by decide)] at H; exact H
        clear H
        have H := H1
        clear H1
        replace H := Option.bind_eq_some_iff.mp H
        obtain ⟨⟨t364, t367, t368, t369, t370⟩, A550, H⟩ := H
        replace H : ((impl_FollowAt.f kj22 t364 t367 t368 t369 t370).bind fun bt372 => (laws_FnSites.l1 kj22 t364 t370 bt372.2.2.2.2.2 0 t367 t368 t369 bt372.1 bt372.2.1 bt372.2.2.1 bt372.2.2.2.1 bt372.2.2.2.2.1)) = some r := H
        have A55 := Aside0.mk A550
        clear A550
        replace H := Option.bind_eq_some_iff.mp H
        obtain ⟨⟨t372, t373, t376, t377, t378, t379⟩, A560, H⟩ := H
        replace H : (laws_FnSites.l1 kj22 t364 t370 t379 0 t367 t368 t369 t372 t373 t376 t377 t378) = some r := H
        have A56 := Aside0.mk A560
        clear A560
        have H' := Aside0.mk H
        clear H
        go_wp2_with (first | ((with_reducible refine gate_callee (f := 16) rfl ?_); refine goesL_ (some 79) rfl rfl Try.func16 KR rfl #[.slice A0 l0.length c0] rfl AR ?_; (with_reducible refine (spec_DrawFollowAt.calls kj22 _ _ l0 t364 t367 t368 t369 t370 _ ?side1 ?side2 A55.out).mono ?_); (case side1 => repeat (first | exact (Kd.C_below HR0.out HB.out) | (with_reducible refine Kd.C_alloc ?_ _) | (with_reducible refine Kd.C_drewN ?_ _) | (with_reducible refine Kd.C_drew ?_))); (case side2 => exact HC0.out); rintro e w57 ⟨v365, rfl, ho0, hb⟩; refine ⟨_, rfl, ?_⟩; have n0_ := ak (Kd.R_below (PR HO_350001) hb); have n1_ := ak (Kd.S_lower (Kd.S_new' ho0 (Kd.R_lt (PR HO_350001))) (below_size PB)); have n2_ := ak (kb BK341 hb); have n3_ := ak (kb BK349 hb); have n4_ := ak (below_step PB hb); clear HO_350001 BK341 BK349 HB; have HO_350001 := n0_; have HO366 := n1_; have BK341 := n2_; have BK349 := n3_; have HB := n4_; clear n0_ n1_ n2_ n3_ n4_; (try clear hb); (try clear hb2); (try clear hk); (try clear hi); (try clear ho0)) | ((with_reducible refine gate_dst (N := 11) rfl ?_); (try (refine gate_guard (by rfl) ?_; dsimp only)); refine bx_ (N := 11) #[.int .i64 0, .int .i64 0, .int .i64 0] 26 ?_; intro gb371 hg w58 hbox hb; have n0_ := ak (Kd.R_below (PR HO_350001) hb); have n1_ := ak (Kd.S_below (PS HO366) hb); have n2_ := ak (kb BK341 hb); have n3_ := ak (kb BK349 hb); have n4_ := ak (below_step PB hb); have n5_ := ak (hbox); have n6_ := ak ((gz hg PB : w.heap.size ≤ gb371)); have n7_ := ak ((gz hg PB : w.heap.size ≤ gb371)); have n8_ := ak ((gl hg BK341 : gb341 ≠ gb371)); have n9_ := ak (((gl hg BK341).symm : gb371 ≠ gb341)); have n10_ := ak ((gl hg BK349 : gb349 ≠ gb371)); have n11_ := ak (((gl hg BK349).symm : gb371 ≠ gb349)); clear HO_350001 HO366 BK341 BK349 HB; have HO_350001 := n0_; have HO366 := n1_; have BK341 := n2_; have BK349 := n3_; have HB := n4_; have BK371 := n5_; have GW371 := n6_; have GE371 := n7_; have NB341_371 := n8_; have NB371_341 := n9_; have NB349_371 := n10_; have NB371_349 := n11_; clear n0_ n1_ n2_ n3_ n4_ n5_ n6_ n7_ n8_ n9_ n10_ n11_; clear hb hbox hg; have hnb59 := NB371_341.out; have hnc59 := NB341_371.out; have hnb60 := NB371_349.out; have hnc60 := NB349_371.out; have hcz61_0 : w58.cell? ⟨gb371, 0, none⟩ = some (.int .i64 0) := (blk_cell BK371.out 0).trans rfl; have hcz61_1 : w58.cell? ⟨gb371, 1, none⟩ = some (.int .i64 0) := (blk_cell BK371.out 1).trans rfl; have hcz61_2 : w58.cell? ⟨gb371, 2, none⟩ = some (.int .i64 0) := (blk_cell BK371.out 2).trans rfl; have hfz61_0 := blk_frozen BK371.out 0; have hfz61_1 := blk_frozen BK371.out 1; have hfz61_2 := blk_frozen BK371.out 2; obtain ⟨Ao62, co62, eo62⟩ := Kd.S_slice HO366.out; subst eo62) | ((with_reducible refine gate_callee (f := 17) rfl ?_); refine goesL_ (some 87) rfl rfl Try.func17 KR rfl #[.slice Ao62 t364.length co62, .agg #[.int .i64 t367, .int .i64 t368, .int .i64 t369], .int .i64 t370] rfl AR ?_; (with_reducible refine (impl_FollowAt.calls kj22 _ _ t364 t367 t368 t369 t370 t372 t373 t376 t377 t378 t379 _ ?side1 ?side2 A56.out).mono ?_); (case side1 => refine (Kd.S_reads' (e := 98) (base := w.heap.size) (ok := fun k_ => (True ∧ some k_ ≠ (.slice Ao15 t343.length co15 : Value).ownBlock)) (n := t364.length) (c := co62) ?_).2.2; exact (by (with_reducible repeat (first | apply Kd.S_alloc | apply Kd.S_drewN | apply Kd.S_drew)); exact (Kd.S_mono (Kd.S_far (p := ⟨gb371, 2, none⟩) (Kd.S_far (p := ⟨gb371, 1, none⟩) (Kd.S_far (p := ⟨gb371, 0, none⟩) (Kd.S_types HO366.out BK371.out (by decide)) FK (.int .i64 t367)) FK (.int .i64 t368)) FK (.int .i64 t369)) (fun _ h_ => h_.1)))); (case side2 => exact (Kd.S_reads' HO366.out).2.1); rintro e w63 ⟨v374, v380, rfl, ho0, ho1, hb⟩; refine ⟨_, rfl, ?_⟩; have n0_ := ak (Kd.R_elder' (by (with_reducible repeat (first | apply Kd.R_alloc | apply Kd.R_drewN | apply Kd.R_drew)); exact (Kd.R_mono (Kd.R_far (p := ⟨gb371, 2, none⟩) (Kd.R_far (p := ⟨gb371, 1, none⟩) (Kd.R_far (p := ⟨gb371, 0, none⟩) (Kd.R_types HO_350001.out BK371.out (by decide)) FK (.int .i64 t367)) FK (.int .i64 t368)) FK (.int .i64 t369)) (fun _ h_ => h_.1))) (Kd.R_base ho0) hb); have n1_ := ak (Kd.S_elder' (by (with_reducible repeat (first | apply Kd.S_alloc | apply Kd.S_drewN | apply Kd.S_drew)); exact (Kd.S_mono (Kd.S_far (p := ⟨gb371, 2, none⟩) (Kd.S_far (p := ⟨gb371, 1, none⟩) (Kd.S_far (p := ⟨gb371, 0, none⟩) (Kd.S_types HO366.out BK371.out (by decide)) FK (.int .i64 t367)) FK (.int .i64 t368)) FK (.int .i64 t369)) (fun _ h_ => h_.1))) (Kd.R_base ho0) hb); have n2_ := ak (Kd.R_lower (Kd.R_new' ho0 (Kd.R_lt (by (with_reducible repeat (first | apply Kd.R_alloc | apply Kd.R_drewN | apply Kd.R_drew)); exact (Kd.R_mono (Kd.R_far (p := ⟨gb371, 2, none⟩) (Kd.R_far (p := ⟨gb371, 1, none⟩) (Kd.R_far (p := ⟨gb371, 0, none⟩) (Kd.R_types HO_350001.out BK371.out (by decide)) FK (.int .i64 t367)) FK (.int .i64 t368)) FK (.int .i64 t369)) (fun _ h_ => h_.1))))) (below_size PB)); have n3_ := ak (Kd.R_lower (Kd.R_newB (Kd.R_newB ho1 (g := gb341) (o := .cells #[.int .i64 t337, .int .i64 t338, .int .i64 t339] 26 (0, 0)) (PF BK341)) (g := gb371) (o := .cells #[.int .i64 t367, .int .i64 t368, .int .i64 t369] 26 (0, 0)) (by (with_reducible repeat (first | refine blk_drewN ?_ _ | refine blk_drew ?_ | refine blk_alloc ?_ _)); refine blk_put (cs := #[.int .i64 t367, .int .i64 t368, .int .i64 0]) ?_ 2 _ rfl; (with_reducible repeat (first | refine blk_drewN ?_ _ | refine blk_drew ?_ | refine blk_alloc ?_ _)); refine blk_put (cs := #[.int .i64 t367, .int .i64 0, .int .i64 0]) ?_ 1 _ rfl; (with_reducible repeat (first | refine blk_drewN ?_ _ | refine blk_drew ?_ | refine blk_alloc ?_ _)); refine blk_put (cs := #[.int .i64 0, .int .i64 0, .int .i64 0]) ?_ 0 _ rfl; (with_reducible repeat (first | refine blk_drewN ?_ _ | refine blk_drew ?_ | refine blk_alloc ?_ _)); exact BK371.out)) (below_size PB)); have n4_ := ak (blk_below (g := gb341) (o := .cells #[.int .i64 t337, .int .i64 t338, .int .i64 t339] 26 (0, 0)) (PF BK341) hb); have n5_ := ak (blk_below (g := gb349) (o := .cells #[.int .i64 t342, .slice Ao15 t343.length co15, .int .i64 t346, .int .i64 t347, .int .i64 t348] 31 (0, 0)) (PF BK349) hb); have n6_ := ak (blk_below (g := gb371) (o := .cells #[.int .i64 t367, .int .i64 t368, .int .i64 t369] 26 (0, 0)) (by (with_reducible repeat (first | refine blk_drewN ?_ _ | refine blk_drew ?_ | refine blk_alloc ?_ _)); refine blk_put (cs := #[.int .i64 t367, .int .i64 t368, .int .i64 0]) ?_ 2 _ rfl; (with_reducible repeat (first | refine blk_drewN ?_ _ | refine blk_drew ?_ | refine blk_alloc ?_ _)); refine blk_put (cs := #[.int .i64 t367, .int .i64 0, .int .i64 0]) ?_ 1 _ rfl; (with_reducible repeat (first | refine blk_drewN ?_ _ | refine blk_drew ?_ | refine blk_alloc ?_ _)); refine blk_put (cs := #[.int .i64 0, .int .i64 0, .int .i64 0]) ?_ 0 _ rfl; (with_reducible repeat (first | refine blk_drewN ?_ _ | refine blk_drew ?_ | refine blk_alloc ?_ _)); exact BK371.out) hb); have n7_ := ak (below_step PB hb); clear HO_350001 HO366 BK341 BK349 BK371 HB; have HO_350001 := n0_; have HO366 := n1_; have HO375 := n2_; have HO381 := n3_; have BK341 := n4_; have BK349 := n5_; have BK371 := n6_; have HB := n7_; clear n0_ n1_ n2_ n3_ n4_ n5_ n6_ n7_; (try clear hb); (try clear hb2); (try clear hk); (try clear hi); (try clear ho0); (try clear ho1)) | ((with_reducible refine gate_dst (N := 13) rfl ?_); (try (refine gate_guard (by rfl) ?_; dsimp only)); refine bx_ (N := 13) #[.int .i64 0, .slice none 0 0, .int .i64 0, .int .i64 0, .int .i64 0] 31 ?_; intro gb382 hg w64 hbox hb; have n0_ := ak (Kd.R_below (PR HO_350001) hb); have n1_ := ak (Kd.S_below (PS HO366) hb); have n2_ := ak (Kd.R_below (PR HO375) hb); have n3_ := ak (Kd.R_below (PR HO381) hb); have n4_ := ak (kb BK341 hb); have n5_ := ak (kb BK349 hb); have n6_ := ak (kb BK371 hb); have n7_ := ak (below_step PB hb); have n8_ := ak (hbox); have n9_ := ak ((gz hg PB : w.heap.size ≤ gb382)); have n10_ := ak ((gz hg PB : w.heap.size ≤ gb382)); have n11_ := ak ((gl hg BK341 : gb341 ≠ gb382)); have n12_ := ak (((gl hg BK341).symm : gb382 ≠ gb341)); have n13_ := ak ((gl hg BK349 : gb349 ≠ gb382)); have n14_ := ak (((gl hg BK349).symm : gb382 ≠ gb349)); have n15_ := ak ((gl hg BK371 : gb371 ≠ gb382)); have n16_ := ak (((gl hg BK371).symm : gb382 ≠ gb371)); clear HO_350001 HO366 HO375 HO381 BK341 BK349 BK371 HB; have HO_350001 := n0_; have HO366 := n1_; have HO375 := n2_; have HO381 := n3_; have BK341 := n4_; have BK349 := n5_; have BK371 := n6_; have HB := n7_; have BK382 := n8_; have GW382 := n9_; have GE382 := n10_; have NB341_382 := n11_; have NB382_341 := n12_; have NB349_382 := n13_; have NB382_349 := n14_; have NB371_382 := n15_; have NB382_371 := n16_; clear n0_ n1_ n2_ n3_ n4_ n5_ n6_ n7_ n8_ n9_ n10_ n11_ n12_ n13_ n14_ n15_ n16_; clear hb hbox hg; have hnb65 := NB382_341.out; have hnc65 := NB341_382.out; have hnb66 := NB382_349.out; have hnc66 := NB349_382.out; have hnb67 := NB382_371.out; have hnc67 := NB371_382.out; have hcz68_0 : w64.cell? ⟨gb382, 0, none⟩ = some (.int .i64 0) := (blk_cell BK382.out 0).trans rfl; have hcz68_1 : w64.cell? ⟨gb382, 1, none⟩ = some (.slice none 0 0) := (blk_cell BK382.out 1).trans rfl; have hcz68_2 : w64.cell? ⟨gb382, 2, none⟩ = some (.int .i64 0) := (blk_cell BK382.out 2).trans rfl; have hcz68_3 : w64.cell? ⟨gb382, 3, none⟩ = some (.int .i64 0) := (blk_cell BK382.out 3).trans rfl; have hcz68_4 : w64.cell? ⟨gb382, 4, none⟩ = some (.int .i64 0) := (blk_cell BK382.out 4).trans rfl; have hfz68_0 := blk_frozen BK382.out 0; have hfz68_1 := blk_frozen BK382.out 1; have hfz68_2 := blk_frozen BK382.out 2; have hfz68_3 := blk_frozen BK382.out 3; have hfz68_4 := blk_frozen BK382.out 4; obtain ⟨Ao69, co69, eo69⟩ := Kd.R_slice HO375.out; subst eo69))
        go_loopg [15] kj22 (fun kq v15 w' => ∃ (x15_3 : Int), v15 = .int .i64 x15_3 ∧ Aside0 (laws_FnSites.l1 kq t364 t370 t379 x15_3 t367 t368 t369 t372 t373 t376 t377 t378 = some r) ∧ Aside0 (kq ≤ kj22) ∧ Aside0 (Kd.S k98 98 w' w.heap.size (fun k_ => some k_ ≠ ((.slice Ao15 t343.length co15) : Value).ownBlock ∧ some k_ ≠ ((.slice Ao69 t373.length co69) : Value).ownBlock) (.slice Ao62 t364.length co62) t364) ∧ Aside0 (Kd.R k26 26 w' w.heap.size (fun k_ => k_ ≠ gb341 ∧ k_ ≠ gb371) v380 t379) ∧ Aside0 (Kd.R (Kd.int .i64) 3 w' w.heap.size (fun k_ => some k_ ≠ ((.slice Ao69 t373.length co69) : Value).ownBlock) (.slice Ao15 t343.length co15) t343) ∧ Aside0 (Kd.R (Kd.int .i64) 3 w' w.heap.size (fun k_ => some k_ ≠ ((.slice Ao15 t343.length co15) : Value).ownBlock) (.slice Ao69 t373.length co69) t373) ∧ Aside0 (w'.heap[gb341]? = some (.cells #[.int .i64 t337, .int .i64 t338, .int .i64 t339] 26 (0, 0))) ∧ Aside0 (w'.heap[gb349]? = some (.cells #[.int .i64 t342, (.slice Ao15 t343.length co15), .int .i64 t346, .int .i64 t347, .int .i64 t348] 31 (0, 0))) ∧ Aside0 (w'.heap[gb371]? = some (.cells #[.int .i64 t367, .int .i64 t368, .int .i64 t369] 26 (0, 0))) ∧ Aside0 (w'.heap[gb382]? = some (.cells #[.int .i64 t372, (.slice Ao69 t373.length co69), .int .i64 t376, .int .i64 t377, .int .i64 t378] 31 (0, 0))) ∧ Aside0 (Below w.heap.size w w'))
        case atStart => exact ⟨(0), (by first | rfl | (simp; done) | (simp [*]; done)), H', ⟨Nat.le_refl _⟩, ⟨by (with_reducible repeat (first | apply Kd.S_alloc | apply Kd.S_drewN | apply Kd.S_drew)); exact Kd.S_mono (Kd.S_far (p := ⟨gb382, 4, none⟩) (Kd.S_far (p := ⟨gb382, 3, none⟩) (Kd.S_far (p := ⟨gb382, 2, none⟩) (Kd.S_far (p := ⟨gb382, 1, none⟩) (Kd.S_far (p := ⟨gb382, 0, none⟩) (Kd.S_types HO366.out BK382.out (by decide)) FK (.int .i64 t372)) FK (.slice Ao69 t373.length co69)) FK (.int .i64 t376)) FK (.int .i64 t377)) FK (.int .i64 t378)) (fun _ hk => by first | exact ⟨hk.1.1.2, hk.1.2⟩ | simp_all)⟩, ⟨by (with_reducible repeat (first | apply Kd.R_alloc | apply Kd.R_drewN | apply Kd.R_drew)); exact Kd.R_mono (Kd.R_far (p := ⟨gb382, 4, none⟩) (Kd.R_far (p := ⟨gb382, 3, none⟩) (Kd.R_far (p := ⟨gb382, 2, none⟩) (Kd.R_far (p := ⟨gb382, 1, none⟩) (Kd.R_far (p := ⟨gb382, 0, none⟩) (Kd.R_types HO381.out BK382.out (by decide)) FK (.int .i64 t372)) FK (.slice Ao69 t373.length co69)) FK (.int .i64 t376)) FK (.int .i64 t377)) FK (.int .i64 t378)) (fun _ hk => by first | exact ⟨hk.1.1.2, hk.1.2⟩ | simp_all)⟩, ⟨by (with_reducible repeat (first | apply Kd.R_alloc | apply Kd.R_drewN | apply Kd.R_drew)); exact Kd.R_mono (Kd.R_far (p := ⟨gb382, 4, none⟩) (Kd.R_far (p := ⟨gb382, 3, none⟩) (Kd.R_far (p := ⟨gb382, 2, none⟩) (Kd.R_far (p := ⟨gb382, 1, none⟩) (Kd.R_far (p := ⟨gb382, 0, none⟩) (Kd.R_types HO_350001.out BK382.out (by decide)) FK (.int .i64 t372)) FK (.slice Ao69 t373.length co69)) FK (.int .i64 t376)) FK (.int .i64 t377)) FK (.int .i64 t378)) (fun _ hk => by first | exact hk.1.2 | simp_all)⟩, ⟨by (with_reducible repeat (first | apply Kd.R_alloc | apply Kd.R_drewN | apply Kd.R_drew)); exact Kd.R_mono (Kd.R_far (p := ⟨gb382, 4, none⟩) (Kd.R_far (p := ⟨gb382, 3, none⟩) (Kd.R_far (p := ⟨gb382, 2, none⟩) (Kd.R_far (p := ⟨gb382, 1, none⟩) (Kd.R_far (p := ⟨gb382, 0, none⟩) (Kd.R_types HO375.out BK382.out (by decide)) FK (.int .i64 t372)) FK (.slice Ao69 t373.length co69)) FK (.int .i64 t376)) FK (.int .i64 t377)) FK (.int .i64 t378)) (fun _ hk => by first | exact hk.1.2 | simp_all)⟩, ⟨PF BK341⟩, ⟨PF BK349⟩, ⟨PF BK371⟩, ⟨by (with_reducible repeat (first | refine blk_drewN ?_ _ | refine blk_drew ?_ | refine blk_alloc ?_ _)); refine blk_put (cs := #[.int .i64 t372, .slice Ao69 t373.length co69, .int .i64 t376, .int .i64 t377, .int .i64 0]) ?_ 4 _ rfl; (with_reducible repeat (first | refine blk_drewN ?_ _ | refine blk_drew ?_ | refine blk_alloc ?_ _)); refine blk_put (cs := #[.int .i64 t372, .slice Ao69 t373.length co69, .int .i64 t376, .int .i64 0, .int .i64 0]) ?_ 3 _ rfl; (with_reducible repeat (first | refine blk_drewN ?_ _ | refine blk_drew ?_ | refine blk_alloc ?_ _)); refine blk_put (cs := #[.int .i64 t372, .slice Ao69 t373.length co69, .int .i64 0, .int .i64 0, .int .i64 0]) ?_ 2 _ rfl; (with_reducible repeat (first | refine blk_drewN ?_ _ | refine blk_drew ?_ | refine blk_alloc ?_ _)); refine blk_put (cs := #[.int .i64 t372, .slice none 0 0, .int .i64 0, .int .i64 0, .int .i64 0]) ?_ 1 _ rfl; (with_reducible repeat (first | refine blk_drewN ?_ _ | refine blk_drew ?_ | refine blk_alloc ?_ _)); refine blk_put (cs := #[.int .i64 0, .slice none 0 0, .int .i64 0, .int .i64 0, .int .i64 0]) ?_ 0 _ rfl; (with_reducible repeat (first | refine blk_drewN ?_ _ | refine blk_drew ?_ | refine blk_alloc ?_ _)); exact BK382.out⟩, ⟨PB⟩⟩
        case round =>
         clear H'
         (try clear c1); (try clear c2); (try clear p2); (try clear c5); (try clear c6); (try clear c12); (try clear c14); (try clear c16); (try clear c17); (try clear c25); (try clear c25b0); (try clear c51); (try clear c51b0); (try clear c54); (try clear c59); (try clear c60); (try clear c65); (try clear c66); (try clear c67); (try clear hcz61_0); (try clear hcz61_1); (try clear hcz61_2); (try clear hcz68_0); (try clear hcz68_1); (try clear hcz68_2); (try clear hcz68_3); (try clear hcz68_4); (try clear hfz61_0); (try clear hfz61_1); (try clear hfz61_2); (try clear hfz68_0); (try clear hfz68_1); (try clear hfz68_2); (try clear hfz68_3); (try clear hfz68_4); (try clear p2)
         obtain ⟨x15_3, rfl, HA, HK3, HO_10, HO_14, HO_350001, HO_383001, BK341, BK349, BK371, BK382, HB⟩ := hrel
         cases gk with
         | zero => exact absurd HA.out (by simp [laws_FnSites.l1])
         | succ k3 =>
          have H := HA.out
          clear HA
          simp only [laws_FnSites.l1] at H
          by_cases c70 : x15_3 < (t379.length : Int)
          ·rw [if_pos c70] at H
           have c70b0 : decide (x15_3 < (t379.length : Int)) = true := decide_eq_true c70
           clear c70
           have H' := Aside0.mk H
           clear H
           obtain ⟨Ao71, co71, eo71⟩ := Kd.R_slice HO_14.out
           subst eo71
           go_wp2
           go_loopg [16] k3 (fun kq v16 w' => ∃ (x16_4 : Int), v16 = .int .i64 x16_4 ∧ Aside0 (laws_FnSites.l2 kq t364 t370 t379 x15_3 x16_4 t367 t368 t369 t372 t373 t376 t377 t378 = some r) ∧ Aside0 (kq ≤ k3) ∧ Aside0 (Kd.S k98 98 w' w.heap.size (fun k_ => some k_ ≠ ((.slice Ao15 t343.length co15) : Value).ownBlock ∧ some k_ ≠ ((.slice Ao69 t373.length co69) : Value).ownBlock) (.slice Ao62 t364.length co62) t364) ∧ Aside0 (Kd.R k26 26 w' w.heap.size (fun k_ => k_ ≠ gb341 ∧ k_ ≠ gb371) (.slice Ao71 t379.length co71) t379) ∧ Aside0 (Kd.R (Kd.int .i64) 3 w' w.heap.size (fun k_ => some k_ ≠ ((.slice Ao69 t373.length co69) : Value).ownBlock) (.slice Ao15 t343.length co15) t343) ∧ Aside0 (Kd.R (Kd.int .i64) 3 w' w.heap.size (fun k_ => some k_ ≠ ((.slice Ao15 t343.length co15) : Value).ownBlock) (.slice Ao69 t373.length co69) t373) ∧ Aside0 (w'.heap[gb341]? = some (.cells #[.int .i64 t337, .int .i64 t338, .int .i64 t339] 26 (0, 0))) ∧ Aside0 (w'.heap[gb349]? = some (.cells #[.int .i64 t342, (.slice Ao15 t343.length co15), .int .i64 t346, .int .i64 t347, .int .i64 t348] 31 (0, 0))) ∧ Aside0 (w'.heap[gb371]? = some (.cells #[.int .i64 t367, .int .i64 t368, .int .i64 t369] 26 (0, 0))) ∧ Aside0 (w'.heap[gb382]? = some (.cells #[.int .i64 t372, (.slice Ao69 t373.length co69), .int .i64 t376, .int .i64 t377, .int .i64 t378] 31 (0, 0))) ∧ Aside0 (Below w.heap.size w w'))
           case atStart => exact ⟨(0), (by first | rfl | (simp; done) | (simp [*]; done)), H', ⟨Nat.le_refl _⟩, ⟨PS HO_10⟩, ⟨PR HO_14⟩, ⟨PR HO_350001⟩, ⟨PR HO_383001⟩, ⟨PK BK341⟩, ⟨PK BK349⟩, ⟨PK BK371⟩, ⟨PK BK382⟩, ⟨PB⟩⟩
           case round =>
            clear H'
            (try clear c1); (try clear c2); (try clear p2); (try clear c5); (try clear c6); (try clear c7); (try clear c12); (try clear c14); (try clear c16); (try clear c17); (try clear c25); (try clear c25b0); (try clear c51); (try clear c51b0); (try clear c54); (try clear c59); (try clear c60); (try clear c65); (try clear c66); (try clear c67); (try clear c70); (try clear c70b0); (try clear hcz61_0); (try clear hcz61_1); (try clear hcz61_2); (try clear hcz68_0); (try clear hcz68_1); (try clear hcz68_2); (try clear hcz68_3); (try clear hcz68_4); (try clear hfz61_0); (try clear hfz61_1); (try clear hfz61_2); (try clear hfz68_0); (try clear hfz68_1); (try clear hfz68_2); (try clear hfz68_3); (try clear hfz68_4); (try clear p2)
            obtain ⟨x16_4, rfl, HA, HK4, HO_10, HO_14, HO_350001, HO_383001, BK341, BK349, BK371, BK382, HB⟩ := hrel
            cases gk with
            | zero => exact absurd HA.out (by simp [laws_FnSites.l2])
            | succ k4 =>
             have H := HA.out
             clear HA
             simp only [laws_FnSites.l2] at H
             by_cases c72 : x16_4 < x15_3
             ·rw [if_pos c72] at H
              have c72b0 : decide (x16_4 < x15_3) = true := decide_eq_true c72
              clear c72
              by_cases c73 : 0 ≤ x15_3
              ·rw [if_pos c73] at H
               have c73b0 : decide (0 ≤ x15_3) = true := decide_eq_true c73
               clear c73
               by_cases c74 : x15_3 < (t379.length : Int)
               ·rw [if_pos c74] at H
                have c74b0 : decide (x15_3 < (t379.length : Int)) = true := decide_eq_true c74
                clear c74
                by_cases c75 : 0 ≤ x16_4
                ·rw [if_pos c75] at H
                 have c75b0 : decide (0 ≤ x16_4) = true := decide_eq_true c75
                 clear c75
                 by_cases c76 : x16_4 < (t379.length : Int)
                 ·rw [if_pos c76] at H
                  have c76b0 : decide (x16_4 < (t379.length : Int)) = true := decide_eq_true c76
                  clear c76
                  by_cases c77 : (((rd_T26 t379 x15_3).f0) == ((rd_T26 t379 x16_4).f0) && (((rd_T26 t379 x15_3).f1) == ((rd_T26 t379 x16_4).f1) && (((rd_T26 t379 x15_3).f2) == ((rd_T26 t379 x16_4).f2)))) = true
                  ·rw [if_pos c77] at H
                   have c77b0 : (((rd_T26 t379 x15_3).f0) == ((rd_T26 t379 x16_4).f0) && (((rd_T26 t379 x15_3).f1) == ((rd_T26 t379 x16_4).f1) && (((rd_T26 t379 x15_3).f2) == ((rd_T26 t379 x16_4).f2)))) = true := c77
                   (try (have c77b1 : decide (((rd_T26 t379 x15_3).f0) = ((rd_T26 t379 x16_4).f0) && (((rd_T26 t379 x15_3).f1) == ((rd_T26 t379 x16_4).f1) && (((rd_T26 t379 x15_3).f2) == ((rd_T26 t379 x16_4).f2)))) = true := by simpa using c77))
                   (try (have c77b2 : (((rd_T26 t379 x15_3).f0) == ((rd_T26 t379 x16_4).f0) && (((rd_T26 t379 x15_3).f1) == ((rd_T26 t379 x16_4).f1) && (((rd_T26 t379 x15_3).f2) == ((rd_T26 t379 x16_4).f2)))) = true := by simpa using c77))
                   clear c77
                   cases (Option.some.inj H).trans hT_
                  ·rw [if_neg c77] at H
                   have c77b0 : (((rd_T26 t379 x15_3).f0) == ((rd_T26 t379 x16_4).f0) && (((rd_T26 t379 x15_3).f1) == ((rd_T26 t379 x16_4).f1) && (((rd_T26 t379 x15_3).f2) == ((rd_T26 t379 x16_4).f2)))) = false := by simpa using c77
                   (try (have c77b1 : decide (((rd_T26 t379 x15_3).f0) = ((rd_T26 t379 x16_4).f0) && (((rd_T26 t379 x15_3).f1) == ((rd_T26 t379 x16_4).f1) && (((rd_T26 t379 x15_3).f2) == ((rd_T26 t379 x16_4).f2)))) = false := by simpa using c77))
                   (try (have c77b2 : (((rd_T26 t379 x15_3).f0) == ((rd_T26 t379 x16_4).f0) && (((rd_T26 t379 x15_3).f1) == ((rd_T26 t379 x16_4).f1) && (((rd_T26 t379 x15_3).f2) == ((rd_T26 t379 x16_4).f2)))) = false := by simpa using c77))
                   (try (have c77b3 : ¬ (((rd_T26 t379 x15_3).f0) = ((rd_T26 t379 x16_4).f0) && (((rd_T26 t379 x15_3).f1) == ((rd_T26 t379 x16_4).f1) && (((rd_T26 t379 x15_3).f2) == ((rd_T26 t379 x16_4).f2)))) := by simpa using c77))
                   clear c77
                   have H' := Aside0.mk H
                   clear H
                   try go_wp2
                   have n0_ := ak (Kd.S_drew HO_10.out)
                   have n1_ := ak (Kd.R_drew HO_14.out)
                   have n2_ := ak (Kd.R_drew HO_350001.out)
                   have n3_ := ak (Kd.R_drew HO_383001.out)
                   have n4_ := ak (blk_drew BK341.out)
                   have n5_ := ak (blk_drew BK349.out)
                   have n6_ := ak (blk_drew BK371.out)
                   have n7_ := ak (blk_drew BK382.out)
                   have n8_ := ak (below_drew1 HB.out)
                   clear HO_10
                   clear HO_14
                   clear HO_350001
                   clear HO_383001
                   clear BK341
                   clear BK349
                   clear BK371
                   clear BK382
                   clear HB
                   have HO_10 := n0_
                   have HO_14 := n1_
                   have HO_350001 := n2_
                   have HO_383001 := n3_
                   have BK341 := n4_
                   have BK349 := n5_
                   have BK371 := n6_
                   have BK382 := n7_
                   have HB := n8_
                   clear n0_ n1_ n2_ n3_ n4_ n5_ n6_ n7_ n8_
                   have p384 : 0 ≤ (x15_3 : Int) := of_decide_eq_true (by first | (with_reducible assumption) | assumption)
                   have q384 : x15_3 < (t379.length : Int) := of_decide_eq_true (by first | (with_reducible assumption) | assumption)
                   obtain ⟨ad384, e384, hx384_0, hx384_1, hx384_2⟩ := at_T26 (Kd.R_reads' HO_14.out).2.2 x15_3 p384 q384
                   cases e384
                   replace p384 := eq_true p384
                   replace q384 := eq_true q384
                   have p385 : 0 ≤ (x16_4 : Int) := of_decide_eq_true (by first | (with_reducible assumption) | assumption)
                   have q385 : x16_4 < (t379.length : Int) := of_decide_eq_true (by first | (with_reducible assumption) | assumption)
                   obtain ⟨ad385, e385, hx385_0, hx385_1, hx385_2⟩ := at_T26 (Kd.R_reads' HO_14.out).2.2 x16_4 p385 q385
                   obtain rfl : ad384 = ad385 := (by injection e385)
                   replace p385 := eq_true p385
                   replace q385 := eq_true q385
                   refine start_ (n := 9) (S := fun w' => w'.cell? (ad384.add ((x15_3).toNat * 3)) = some (.int .i64 ((rd_T26 t379 x15_3).f0)) ∧ w'.cell? ⟨(ad384.add ((x15_3).toNat * 3)).block, (ad384.add ((x15_3).toNat * 3)).off + 1, none⟩ = some (.int .i64 ((rd_T26 t379 x15_3).f1)) ∧ w'.cell? ⟨(ad384.add ((x15_3).toNat * 3)).block, (ad384.add ((x15_3).toNat * 3)).off + 2, none⟩ = some (.int .i64 ((rd_T26 t379 x15_3).f2)) ∧ w'.cell? (ad384.add ((x16_4).toNat * 3)) = some (.int .i64 ((rd_T26 t379 x16_4).f0)) ∧ w'.cell? ⟨(ad384.add ((x16_4).toNat * 3)).block, (ad384.add ((x16_4).toNat * 3)).off + 1, none⟩ = some (.int .i64 ((rd_T26 t379 x16_4).f1)) ∧ w'.cell? ⟨(ad384.add ((x16_4).toNat * 3)).block, (ad384.add ((x16_4).toNat * 3)).off + 2, none⟩ = some (.int .i64 ((rd_T26 t379 x16_4).f2))) (ds := []) #[false, false, false, false, false, false, false, false, false] KR rfl rfl ⟨hx384_0, hx384_1, hx384_2, hx385_0, hx385_1, hx385_2⟩ (fun hHeld => ?_); refine with_tabW laws_FnSites.tab22 laws_FnSites.bits22 (fun HT_ HW_ => ?_)
                   generalize wr.drew = w79 at HO_10 HO_14 HO_350001 HO_383001 BK341 BK349 BK371 BK382 HB hx384_0 hx384_1 hx384_2 hx385_0 hx385_1 hx385_2 hHeld ⊢
                   refine pu_ (i := 0) (N := some 101) #[true, false, false, false, false, false, false, false, false] HT_ ?_
                   refine pu_ (i := 1) (N := some 102) #[true, true, false, false, false, false, false, false, false] HT_ ?_
                   refine pu_ (i := 2) (N := some 103) #[true, true, true, false, false, false, false, false, false] HT_ ?_
                   refine pu_ (i := 4) (N := some 105) #[true, true, true, false, true, false, false, false, false] HT_ ?_
                   refine pu_ (i := 5) (N := some 106) #[true, true, true, false, true, true, false, false, false] HT_ ?_
                   refine pu_ (i := 6) (N := some 107) #[true, true, true, false, true, true, true, false, false] HT_ ?_
                   refine tk_ (i := 3) (N := some 104) #[true, true, true, true, true, true, true, false, false] rfl rfl HT_ HW_ hHeld ?_
                   refine take_ (i := 7) (N := some 108) (v := ?_) (a' := ?_) #[true, true, true, true, true, true, true, true, false] rfl rfl (take_ofW HT_.out HW_.out KR) (fun _ _ _ h => h) (Or.inl ⟨by rfl, ?_⟩) hHeld ?_ ?_
                   rotate_left
                   ·rintro w' ⟨s0, s1, s2, s3, s4, s5⟩
                    go_simp
                    with_reducible rfl
                   rotate_left
                   ·simp only [Act.put, List.setIfInBounds_toArray, List.set_cons_zero, List.set_cons_succ, i64_w, i32_w]
                    rfl
                   refine pu_ (i := 8) (N := some 109) #[true, true, true, true, true, true, true, true, true] HT_ ?_
                   refine done_ (done_of HT_.out KR) ?_
                   try go_wp2
                   go_roundg k4
                   case measure => have := HK1.out; have := HJ22.out; have := HK3.out; have := HK4.out; omega
                   case rel => exact ⟨(wrap64 (x16_4 + 1)), (by first | rfl | (simp; done) | (simp [*]; done)), H', ⟨by have := HK1.out; have := HJ22.out; have := HK3.out; have := HK4.out; omega⟩, ⟨PS HO_10⟩, ⟨PR HO_14⟩, ⟨PR HO_350001⟩, ⟨PR HO_383001⟩, ⟨PK BK341⟩, ⟨PK BK349⟩, ⟨PK BK371⟩, ⟨PK BK382⟩, ⟨PB⟩⟩
                 ·rw [if_neg c76] at H
                  exact absurd H (by simp)
                ·rw [if_neg c75] at H
                 exact absurd H (by simp)
               ·rw [if_neg c74] at H
                exact absurd H (by simp)
              ·rw [if_neg c73] at H
               exact absurd H (by simp)
             ·rw [if_neg c72] at H
              have c72b0 : decide (x16_4 < x15_3) = false := decide_eq_false c72
              clear c72
              by_cases c80 : 0 ≤ x15_3
              ·rw [if_pos c80] at H
               have c80b0 : decide (0 ≤ x15_3) = true := decide_eq_true c80
               clear c80
               by_cases c81 : x15_3 < (t379.length : Int)
               ·rw [if_pos c81] at H
                have c81b0 : decide (x15_3 < (t379.length : Int)) = true := decide_eq_true c81
                clear c81
                replace H := Option.bind_eq_some_iff.mp H
                obtain ⟨⟨t387, t388, t391, t392, t393⟩, A820, H⟩ := H
                replace H : (if (wrap64 (x15_3 + 1)) < (t379.length : Int) then (if t387 = 3 then (if 0 ≤ (wrap64 (x15_3 + 1)) then (if (!(t391 == ((rd_T26 t379 (wrap64 (x15_3 + 1))).f0)) || (!(t392 == ((rd_T26 t379 (wrap64 (x15_3 + 1))).f1)) || (!(t393 == ((rd_T26 t379 (wrap64 (x15_3 + 1))).f2))))) = true then (some false) else (if (wrap64 (x15_3 + 1)) = (t379.length : Int) then ((impl_EqualResources.f k4 t387 t388 t391 t392 t393 t372 t373 t376 t377 t378).bind fun t396 => (if t396 = true then (laws_FnSites.l1 k4 t364 t370 t379 (wrap64 (x15_3 + 1)) t367 t368 t369 t372 t373 t376 t377 t378) else (some false))) else (laws_FnSites.l1 k4 t364 t370 t379 (wrap64 (x15_3 + 1)) t367 t368 t369 t372 t373 t376 t377 t378))) else (none)) else (some false)) else (if (wrap64 (x15_3 + 1)) = (t379.length : Int) then ((impl_EqualResources.f k4 t387 t388 t391 t392 t393 t372 t373 t376 t377 t378).bind fun t397 => (if t397 = true then (laws_FnSites.l1 k4 t364 t370 t379 (wrap64 (x15_3 + 1)) t367 t368 t369 t372 t373 t376 t377 t378) else (some false))) else (laws_FnSites.l1 k4 t364 t370 t379 (wrap64 (x15_3 + 1)) t367 t368 t369 t372 t373 t376 t377 t378))) = some r := H
                have A82 := Aside0.mk A820
                clear A820
                by_cases c83 : (wrap64 (x15_3 + 1)) < (t379.length : Int)
                ·rw [if_pos c83] at H
                 have c83b0 : decide ((wrap64 (x15_3 + 1)) < (t379.length : Int)) = true := decide_eq_true c83
                 clear c83
                 by_cases c84 : t387 = 3
                 ·rw [if_pos c84] at H
                  have c84b0 : (t387 == 3) = true := beq_iff_eq.mpr c84
                  have c84b1 : (t387 != 3) = false := bne_eq_false_iff_eq.mpr c84
                  clear c84
                  obtain ⟨ji85, hji85⟩ : ∃ j_ : Int, (wrap64 (x15_3 + 1)) = j_ := ⟨_, rfl⟩
                  replace H : (if 0 ≤ (ji85) then (if (!(t391 == ((rd_T26 t379 (ji85)).f0)) || (!(t392 == ((rd_T26 t379 (ji85)).f1)) || (!(t393 == ((rd_T26 t379 (ji85)).f2))))) = true then (some false) else (if (ji85) = (t379.length : Int) then ((impl_EqualResources.f k4 t387 t388 t391 t392 t393 t372 t373 t376 t377 t378).bind fun t396 => (if t396 = true then (laws_FnSites.l1 k4 t364 t370 t379 ji85 t367 t368 t369 t372 t373 t376 t377 t378) else (some false))) else (laws_FnSites.l1 k4 t364 t370 t379 ji85 t367 t368 t369 t372 t373 t376 t377 t378))) else (none)) = some r := by first | (rw [hji85] at H; exact H) | (simp only [hji85] at H ⊢; exact H)
                  (try rw [hji85] at c83b0)
                  (try rw [hji85] at A82)
                  have hji85w : (IntKind.i64.wrap (x15_3 + 1)) = ji85 := (i64_w _).trans hji85
                  by_cases c86 : 0 ≤ (ji85)
                  ·rw [if_pos c86] at H
                   have c86b0 : decide (0 ≤ (ji85)) = true := decide_eq_true c86
                   clear c86
                   by_cases c87 : (!(t391 == ((rd_T26 t379 (ji85)).f0)) || (!(t392 == ((rd_T26 t379 (ji85)).f1)) || (!(t393 == ((rd_T26 t379 (ji85)).f2))))) = true
                   ·rw [if_pos c87] at H
                    have c87b0 : (!(t391 == ((rd_T26 t379 (ji85)).f0)) || (!(t392 == ((rd_T26 t379 (ji85)).f1)) || (!(t393 == ((rd_T26 t379 (ji85)).f2))))) = true := c87
                    clear c87
                    cases (Option.some.inj H).trans hT_
                   ·rw [if_neg c87] at H
                    have c87b0 : (!(t391 == ((rd_T26 t379 (ji85)).f0)) || (!(t392 == ((rd_T26 t379 (ji85)).f1)) || (!(t393 == ((rd_T26 t379 (ji85)).f2))))) = false := by simpa using c87
                    clear c87
                    by_cases c98 : (ji85) = (t379.length : Int)
                    ·rw [if_pos c98] at H
                     have c98b0 : ((ji85) == (t379.length : Int)) = true := beq_iff_eq.mpr c98
                     have c98b1 : ((ji85) != (t379.length : Int)) = false := bne_eq_false_iff_eq.mpr c98
                     clear c98
                     replace H := Option.bind_eq_some_iff.mp H
                     obtain ⟨t396, A990, H⟩ := H
                     replace H : (if t396 = true then (laws_FnSites.l1 k4 t364 t370 t379 ji85 t367 t368 t369 t372 t373 t376 t377 t378) else (some false)) = some r := H
                     have A99 := Aside0.mk A990
                     clear A990
                     by_cases c100 : t396 = true
                     ·subst c100
                      have H1 : (laws_FnSites.l1 k4 t364 t370 t379 ji85 t367 t368 t369 t372 t373 t376 t377 t378) = some r := by rw [if_pos rfl] at H; exact H
                      clear H
                      have H := H1
                      clear H1
                      have H' := Aside0.mk H
                      clear H
                      have p386 : 0 ≤ (x15_3 : Int) := of_decide_eq_true (by first | (with_reducible assumption) | assumption)
                      have q386 : x15_3 < (t379.length : Int) := of_decide_eq_true (by first | (with_reducible assumption) | assumption)
                      obtain ⟨ad386, e386, hx386_0, hx386_1, hx386_2⟩ := at_T26 (Kd.R_reads' HO_14.out).2.2 x15_3 p386 q386
                      cases e386
                      replace p386 := eq_true p386
                      replace q386 := eq_true q386
                      try go_wp2_with (first | ((with_reducible refine gate_callee (f := 12) rfl ?_); refine goesL_ (some 116) rfl rfl Try.func12 KR rfl #[.slice Ao62 t364.length co62, .agg #[.int .i64 ((rd_T26 t379 x15_3).f0), .int .i64 ((rd_T26 t379 x15_3).f1), .int .i64 ((rd_T26 t379 x15_3).f2)], .int .i64 t370] rfl AR ?_; (with_reducible refine (impl_AnswerAt.calls k4 _ _ t364 ((rd_T26 t379 x15_3).f0) ((rd_T26 t379 x15_3).f1) ((rd_T26 t379 x15_3).f2) t370 t387 t388 t391 t392 t393 _ ?side1 ?side2 A82.out).mono ?_); (case side1 => exact CR ((Kd.S_reads' HO_10.out).2.2)); (case side2 => exact (Kd.S_reads' HO_10.out).2.1); rintro e w101 ⟨v389, rfl, ho0, hb⟩; refine ⟨_, rfl, ?_⟩; have n0_ := ak (Kd.S_elder' (PS HO_10) (Kd.R_base ho0) hb); have n1_ := ak (Kd.R_below (PR HO_14) hb); have n2_ := ak (Kd.R_elder' (PR HO_350001) (Kd.R_base ho0) hb); have n3_ := ak (Kd.R_elder' (PR HO_383001) (Kd.R_base ho0) hb); have n4_ := ak (Kd.R_lower (Kd.R_new' (Kd.R_new' ho0 (Kd.R_lt (PR HO_350001))) (Kd.R_lt (PR HO_383001))) (below_size PB)); have n5_ := ak (kb BK341 hb); have n6_ := ak (kb BK349 hb); have n7_ := ak (kb BK371 hb); have n8_ := ak (kb BK382 hb); have n9_ := ak (below_step PB hb); clear HO_10 HO_14 HO_350001 HO_383001 BK341 BK349 BK371 BK382 HB; have HO_10 := n0_; have HO_14 := n1_; have HO_350001 := n2_; have HO_383001 := n3_; have HO390 := n4_; have BK341 := n5_; have BK349 := n6_; have BK371 := n7_; have BK382 := n8_; have HB := n9_; clear n0_ n1_ n2_ n3_ n4_ n5_ n6_ n7_ n8_ n9_; (try clear hb); (try clear hb2); (try clear hk); (try clear hi); (try clear ho0)) | ((with_reducible refine gate_dst (N := 17) rfl ?_); (try (refine gate_guard (by rfl) ?_; dsimp only)); refine bx_ (N := 17) #[.int .i64 0, .slice none 0 0, .int .i64 0, .int .i64 0, .int .i64 0] 31 ?_; intro gb394 hg w102 hbox hb; have n0_ := ak (Kd.S_below (PS HO_10) hb); have n1_ := ak (Kd.R_below (PR HO_14) hb); have n2_ := ak (Kd.R_below (PR HO_350001) hb); have n3_ := ak (Kd.R_below (PR HO_383001) hb); have n4_ := ak (Kd.R_below (PR HO390) hb); have n5_ := ak (kb BK341 hb); have n6_ := ak (kb BK349 hb); have n7_ := ak (kb BK371 hb); have n8_ := ak (kb BK382 hb); have n9_ := ak (below_step PB hb); have n10_ := ak (hbox); have n11_ := ak ((gz hg PB : w.heap.size ≤ gb394)); have n12_ := ak ((gz hg PB : w.heap.size ≤ gb394)); have n13_ := ak ((gl hg BK341 : gb341 ≠ gb394)); have n14_ := ak (((gl hg BK341).symm : gb394 ≠ gb341)); have n15_ := ak ((gl hg BK349 : gb349 ≠ gb394)); have n16_ := ak (((gl hg BK349).symm : gb394 ≠ gb349)); have n17_ := ak ((gl hg BK371 : gb371 ≠ gb394)); have n18_ := ak (((gl hg BK371).symm : gb394 ≠ gb371)); have n19_ := ak ((gl hg BK382 : gb382 ≠ gb394)); have n20_ := ak (((gl hg BK382).symm : gb394 ≠ gb382)); clear HO_10 HO_14 HO_350001 HO_383001 HO390 BK341 BK349 BK371 BK382 HB; have HO_10 := n0_; have HO_14 := n1_; have HO_350001 := n2_; have HO_383001 := n3_; have HO390 := n4_; have BK341 := n5_; have BK349 := n6_; have BK371 := n7_; have BK382 := n8_; have HB := n9_; have BK394 := n10_; have GW394 := n11_; have GE394 := n12_; have NB341_394 := n13_; have NB394_341 := n14_; have NB349_394 := n15_; have NB394_349 := n16_; have NB371_394 := n17_; have NB394_371 := n18_; have NB382_394 := n19_; have NB394_382 := n20_; clear n0_ n1_ n2_ n3_ n4_ n5_ n6_ n7_ n8_ n9_ n10_ n11_ n12_ n13_ n14_ n15_ n16_ n17_ n18_ n19_ n20_; clear hb hbox hg; have hnb103 := NB394_341.out; have hnc103 := NB341_394.out; have hnb104 := NB394_349.out; have hnc104 := NB349_394.out; have hnb105 := NB394_371.out; have hnc105 := NB371_394.out; have hnb106 := NB394_382.out; have hnc106 := NB382_394.out; have hcz107_0 : w102.cell? ⟨gb394, 0, none⟩ = some (.int .i64 0) := (blk_cell BK394.out 0).trans rfl; have hcz107_1 : w102.cell? ⟨gb394, 1, none⟩ = some (.slice none 0 0) := (blk_cell BK394.out 1).trans rfl; have hcz107_2 : w102.cell? ⟨gb394, 2, none⟩ = some (.int .i64 0) := (blk_cell BK394.out 2).trans rfl; have hcz107_3 : w102.cell? ⟨gb394, 3, none⟩ = some (.int .i64 0) := (blk_cell BK394.out 3).trans rfl; have hcz107_4 : w102.cell? ⟨gb394, 4, none⟩ = some (.int .i64 0) := (blk_cell BK394.out 4).trans rfl; have hfz107_0 := blk_frozen BK394.out 0; have hfz107_1 := blk_frozen BK394.out 1; have hfz107_2 := blk_frozen BK394.out 2; have hfz107_3 := blk_frozen BK394.out 3; have hfz107_4 := blk_frozen BK394.out 4; obtain ⟨Ao108, co108, eo108⟩ := Kd.R_slice HO390.out; subst eo108))
                      have n0_ : Aside0 (Kd.S k98 98 (((((w102.setCell ⟨gb394, 0, none⟩ (.int .i64 t387)).setCell ⟨gb394, 1, none⟩ (.slice Ao108 t388.length co108)).setCell ⟨gb394, 2, none⟩ (.int .i64 t391)).setCell ⟨gb394, 3, none⟩ (.int .i64 t392)).setCell ⟨gb394, 4, none⟩ (.int .i64 t393)) w.heap.size (fun k_ => some k_ ≠ (.slice Ao15 t343.length co15 : Value).ownBlock ∧ some k_ ≠ (.slice Ao69 t373.length co69 : Value).ownBlock ∧ some k_ ≠ (.slice Ao108 t388.length co108 : Value).ownBlock) (.slice Ao62 t364.length co62) t364) := ⟨by (with_reducible repeat (first | apply Kd.S_alloc | apply Kd.S_drewN | apply Kd.S_drew)); exact Kd.S_mono (Kd.S_far (p := ⟨gb394, 4, none⟩) (Kd.S_far (p := ⟨gb394, 3, none⟩) (Kd.S_far (p := ⟨gb394, 2, none⟩) (Kd.S_far (p := ⟨gb394, 1, none⟩) (Kd.S_far (p := ⟨gb394, 0, none⟩) (Kd.S_types HO_10.out BK394.out (by decide)) FK (.int .i64 t387)) FK (.slice Ao108 t388.length co108)) FK (.int .i64 t391)) FK (.int .i64 t392)) FK (.int .i64 t393)) (fun _ hk => ⟨hk.1.1.1, ⟨hk.1.1.2, hk.1.2⟩⟩)⟩
                      have n1_ : Aside0 (Kd.R k26 26 (((((w102.setCell ⟨gb394, 0, none⟩ (.int .i64 t387)).setCell ⟨gb394, 1, none⟩ (.slice Ao108 t388.length co108)).setCell ⟨gb394, 2, none⟩ (.int .i64 t391)).setCell ⟨gb394, 3, none⟩ (.int .i64 t392)).setCell ⟨gb394, 4, none⟩ (.int .i64 t393)) w.heap.size (fun k_ => k_ ≠ gb341 ∧ k_ ≠ gb371) (.slice (some ad386) t379.length co71) t379) := ⟨by (with_reducible repeat (first | apply Kd.R_alloc | apply Kd.R_drewN | apply Kd.R_drew)); exact Kd.R_mono (Kd.R_far (p := ⟨gb394, 4, none⟩) (Kd.R_far (p := ⟨gb394, 3, none⟩) (Kd.R_far (p := ⟨gb394, 2, none⟩) (Kd.R_far (p := ⟨gb394, 1, none⟩) (Kd.R_far (p := ⟨gb394, 0, none⟩) (Kd.R_types HO_14.out BK394.out (by decide)) FK (.int .i64 t387)) FK (.slice Ao108 t388.length co108)) FK (.int .i64 t391)) FK (.int .i64 t392)) FK (.int .i64 t393)) (fun _ hk => by first | exact ⟨hk.1.1, hk.1.2⟩ | simp_all)⟩
                      have n2_ : Aside0 (Kd.R (Kd.int .i64) 3 (((((w102.setCell ⟨gb394, 0, none⟩ (.int .i64 t387)).setCell ⟨gb394, 1, none⟩ (.slice Ao108 t388.length co108)).setCell ⟨gb394, 2, none⟩ (.int .i64 t391)).setCell ⟨gb394, 3, none⟩ (.int .i64 t392)).setCell ⟨gb394, 4, none⟩ (.int .i64 t393)) w.heap.size (fun k_ => some k_ ≠ (.slice Ao69 t373.length co69 : Value).ownBlock ∧ some k_ ≠ (.slice Ao108 t388.length co108 : Value).ownBlock) (.slice Ao15 t343.length co15) t343) := ⟨by (with_reducible repeat (first | apply Kd.R_alloc | apply Kd.R_drewN | apply Kd.R_drew)); exact Kd.R_mono (Kd.R_far (p := ⟨gb394, 4, none⟩) (Kd.R_far (p := ⟨gb394, 3, none⟩) (Kd.R_far (p := ⟨gb394, 2, none⟩) (Kd.R_far (p := ⟨gb394, 1, none⟩) (Kd.R_far (p := ⟨gb394, 0, none⟩) (Kd.R_types HO_350001.out BK394.out (by decide)) FK (.int .i64 t387)) FK (.slice Ao108 t388.length co108)) FK (.int .i64 t391)) FK (.int .i64 t392)) FK (.int .i64 t393)) (fun _ hk => by first | exact ⟨hk.1.1, hk.1.2⟩ | simp_all)⟩
                      have n3_ : Aside0 (Kd.R (Kd.int .i64) 3 (((((w102.setCell ⟨gb394, 0, none⟩ (.int .i64 t387)).setCell ⟨gb394, 1, none⟩ (.slice Ao108 t388.length co108)).setCell ⟨gb394, 2, none⟩ (.int .i64 t391)).setCell ⟨gb394, 3, none⟩ (.int .i64 t392)).setCell ⟨gb394, 4, none⟩ (.int .i64 t393)) w.heap.size (fun k_ => some k_ ≠ (.slice Ao15 t343.length co15 : Value).ownBlock ∧ some k_ ≠ (.slice Ao108 t388.length co108 : Value).ownBlock) (.slice Ao69 t373.length co69) t373) := ⟨by (with_reducible repeat (first | apply Kd.R_alloc | apply Kd.R_drewN | apply Kd.R_drew)); exact Kd.R_mono (Kd.R_far (p := ⟨gb394, 4, none⟩) (Kd.R_far (p := ⟨gb394, 3, none⟩) (Kd.R_far (p := ⟨gb394, 2, none⟩) (Kd.R_far (p := ⟨gb394, 1, none⟩) (Kd.R_far (p := ⟨gb394, 0, none⟩) (Kd.R_types HO_383001.out BK394.out (by decide)) FK (.int .i64 t387)) FK (.slice Ao108 t388.length co108)) FK (.int .i64 t391)) FK (.int .i64 t392)) FK (.int .i64 t393)) (fun _ hk => by first | exact ⟨hk.1.1, hk.1.2⟩ | simp_all)⟩
                      have n4_ : Aside0 (Kd.R (Kd.int .i64) 3 (((((w102.setCell ⟨gb394, 0, none⟩ (.int .i64 t387)).setCell ⟨gb394, 1, none⟩ (.slice Ao108 t388.length co108)).setCell ⟨gb394, 2, none⟩ (.int .i64 t391)).setCell ⟨gb394, 3, none⟩ (.int .i64 t392)).setCell ⟨gb394, 4, none⟩ (.int .i64 t393)) w.heap.size (fun k_ => some k_ ≠ (.slice Ao15 t343.length co15 : Value).ownBlock ∧ some k_ ≠ (.slice Ao69 t373.length co69 : Value).ownBlock) (.slice Ao108 t388.length co108) t388) := ⟨by (with_reducible repeat (first | apply Kd.R_alloc | apply Kd.R_drewN | apply Kd.R_drew)); exact Kd.R_mono (Kd.R_far (p := ⟨gb394, 4, none⟩) (Kd.R_far (p := ⟨gb394, 3, none⟩) (Kd.R_far (p := ⟨gb394, 2, none⟩) (Kd.R_far (p := ⟨gb394, 1, none⟩) (Kd.R_far (p := ⟨gb394, 0, none⟩) (Kd.R_types HO390.out BK394.out (by decide)) FK (.int .i64 t387)) FK (.slice Ao108 t388.length co108)) FK (.int .i64 t391)) FK (.int .i64 t392)) FK (.int .i64 t393)) (fun _ hk => by first | exact ⟨hk.1.1.2, hk.1.2⟩ | simp_all)⟩
                      have n5_ : Aside0 ((((((w102.setCell ⟨gb394, 0, none⟩ (.int .i64 t387)).setCell ⟨gb394, 1, none⟩ (.slice Ao108 t388.length co108)).setCell ⟨gb394, 2, none⟩ (.int .i64 t391)).setCell ⟨gb394, 3, none⟩ (.int .i64 t392)).setCell ⟨gb394, 4, none⟩ (.int .i64 t393)).heap[gb341]? = some (.cells #[.int .i64 t337, .int .i64 t338, .int .i64 t339] 26 (0, 0))) := ⟨PF BK341⟩
                      have n6_ : Aside0 ((((((w102.setCell ⟨gb394, 0, none⟩ (.int .i64 t387)).setCell ⟨gb394, 1, none⟩ (.slice Ao108 t388.length co108)).setCell ⟨gb394, 2, none⟩ (.int .i64 t391)).setCell ⟨gb394, 3, none⟩ (.int .i64 t392)).setCell ⟨gb394, 4, none⟩ (.int .i64 t393)).heap[gb349]? = some (.cells #[.int .i64 t342, .slice Ao15 t343.length co15, .int .i64 t346, .int .i64 t347, .int .i64 t348] 31 (0, 0))) := ⟨PF BK349⟩
                      have n7_ : Aside0 ((((((w102.setCell ⟨gb394, 0, none⟩ (.int .i64 t387)).setCell ⟨gb394, 1, none⟩ (.slice Ao108 t388.length co108)).setCell ⟨gb394, 2, none⟩ (.int .i64 t391)).setCell ⟨gb394, 3, none⟩ (.int .i64 t392)).setCell ⟨gb394, 4, none⟩ (.int .i64 t393)).heap[gb371]? = some (.cells #[.int .i64 t367, .int .i64 t368, .int .i64 t369] 26 (0, 0))) := ⟨PF BK371⟩
                      have n8_ : Aside0 ((((((w102.setCell ⟨gb394, 0, none⟩ (.int .i64 t387)).setCell ⟨gb394, 1, none⟩ (.slice Ao108 t388.length co108)).setCell ⟨gb394, 2, none⟩ (.int .i64 t391)).setCell ⟨gb394, 3, none⟩ (.int .i64 t392)).setCell ⟨gb394, 4, none⟩ (.int .i64 t393)).heap[gb382]? = some (.cells #[.int .i64 t372, .slice Ao69 t373.length co69, .int .i64 t376, .int .i64 t377, .int .i64 t378] 31 (0, 0))) := ⟨PF BK382⟩
                      have n9_ : Aside0 ((((((w102.setCell ⟨gb394, 0, none⟩ (.int .i64 t387)).setCell ⟨gb394, 1, none⟩ (.slice Ao108 t388.length co108)).setCell ⟨gb394, 2, none⟩ (.int .i64 t391)).setCell ⟨gb394, 3, none⟩ (.int .i64 t392)).setCell ⟨gb394, 4, none⟩ (.int .i64 t393)).heap[gb394]? = some (.cells #[.int .i64 t387, .slice Ao108 t388.length co108, .int .i64 t391, .int .i64 t392, .int .i64 t393] 31 (0, 0))) := ⟨by (with_reducible repeat (first | refine blk_drewN ?_ _ | refine blk_drew ?_ | refine blk_alloc ?_ _)); refine blk_put (cs := #[.int .i64 t387, .slice Ao108 t388.length co108, .int .i64 t391, .int .i64 t392, .int .i64 0]) ?_ 4 _ rfl; (with_reducible repeat (first | refine blk_drewN ?_ _ | refine blk_drew ?_ | refine blk_alloc ?_ _)); refine blk_put (cs := #[.int .i64 t387, .slice Ao108 t388.length co108, .int .i64 t391, .int .i64 0, .int .i64 0]) ?_ 3 _ rfl; (with_reducible repeat (first | refine blk_drewN ?_ _ | refine blk_drew ?_ | refine blk_alloc ?_ _)); refine blk_put (cs := #[.int .i64 t387, .slice Ao108 t388.length co108, .int .i64 0, .int .i64 0, .int .i64 0]) ?_ 2 _ rfl; (with_reducible repeat (first | refine blk_drewN ?_ _ | refine blk_drew ?_ | refine blk_alloc ?_ _)); refine blk_put (cs := #[.int .i64 t387, .slice none 0 0, .int .i64 0, .int .i64 0, .int .i64 0]) ?_ 1 _ rfl; (with_reducible repeat (first | refine blk_drewN ?_ _ | refine blk_drew ?_ | refine blk_alloc ?_ _)); refine blk_put (cs := #[.int .i64 0, .slice none 0 0, .int .i64 0, .int .i64 0, .int .i64 0]) ?_ 0 _ rfl; (with_reducible repeat (first | refine blk_drewN ?_ _ | refine blk_drew ?_ | refine blk_alloc ?_ _)); exact BK394.out⟩
                      have n10_ : Aside0 (Below w.heap.size w (((((w102.setCell ⟨gb394, 0, none⟩ (.int .i64 t387)).setCell ⟨gb394, 1, none⟩ (.slice Ao108 t388.length co108)).setCell ⟨gb394, 2, none⟩ (.int .i64 t391)).setCell ⟨gb394, 3, none⟩ (.int .i64 t392)).setCell ⟨gb394, 4, none⟩ (.int .i64 t393))) := ⟨PB⟩
                      (try clear HO_10)
                      (try clear HO_14)
                      (try clear HO_350001)
                      (try clear HO_383001)
                      (try clear HO390)
                      (try clear BK341)
                      (try clear BK349)
                      (try clear BK371)
                      (try clear BK382)
                      (try clear BK394)
                      (try clear HB)
                      generalize (((((w102.setCell ⟨gb394, 0, none⟩ (.int .i64 t387)).setCell ⟨gb394, 1, none⟩ (.slice Ao108 t388.length co108)).setCell ⟨gb394, 2, none⟩ (.int .i64 t391)).setCell ⟨gb394, 3, none⟩ (.int .i64 t392)).setCell ⟨gb394, 4, none⟩ (.int .i64 t393)) = w109 at n0_ n1_ n2_ n3_ n4_ n5_ n6_ n7_ n8_ n9_ n10_ ⊢
                      have HO_10 := n0_
                      have HO_14 := n1_
                      have HO_350001 := n2_
                      have HO_383001 := n3_
                      have HO390 := n4_
                      have BK341 := n5_
                      have BK349 := n6_
                      have BK371 := n7_
                      have BK382 := n8_
                      have BK394 := n9_
                      have HB := n10_
                      clear n0_ n1_ n2_ n3_ n4_ n5_ n6_ n7_ n8_ n9_ n10_
                      have n0_ := ak (Kd.S_drew HO_10.out)
                      have n1_ := ak (Kd.R_drew HO_14.out)
                      have n2_ := ak (Kd.R_drew HO_350001.out)
                      have n3_ := ak (Kd.R_drew HO_383001.out)
                      have n4_ := ak (Kd.R_drew HO390.out)
                      have n5_ := ak (blk_drew BK341.out)
                      have n6_ := ak (blk_drew BK349.out)
                      have n7_ := ak (blk_drew BK371.out)
                      have n8_ := ak (blk_drew BK382.out)
                      have n9_ := ak (blk_drew BK394.out)
                      have n10_ := ak (below_drew1 HB.out)
                      clear HO_10
                      clear HO_14
                      clear HO_350001
                      clear HO_383001
                      clear HO390
                      clear BK341
                      clear BK349
                      clear BK371
                      clear BK382
                      clear BK394
                      clear HB
                      have HO_10 := n0_
                      have HO_14 := n1_
                      have HO_350001 := n2_
                      have HO_383001 := n3_
                      have HO390 := n4_
                      have BK341 := n5_
                      have BK349 := n6_
                      have BK371 := n7_
                      have BK382 := n8_
                      have BK394 := n9_
                      have HB := n10_
                      clear n0_ n1_ n2_ n3_ n4_ n5_ n6_ n7_ n8_ n9_ n10_
                      have p395 : 0 ≤ ((ji85) : Int) := of_decide_eq_true (by first | (with_reducible assumption) | assumption)
                      have q395 : (ji85) < (t379.length : Int) := of_decide_eq_true (by first | (with_reducible assumption) | assumption)
                      obtain ⟨ad395, e395, hx395_0, hx395_1, hx395_2⟩ := at_T26 (Kd.R_reads' HO_14.out).2.2 (ji85) p395 q395
                      obtain rfl : ad386 = ad395 := (by injection e395)
                      replace p395 := eq_true p395
                      replace q395 := eq_true q395
                      refine start_ (n := 33) (S := fun w' => w'.cell? ⟨gb394, 0, none⟩ = some (.int .i64 t387) ∧ w'.cell? ⟨gb394, 1, none⟩ = some (.slice Ao108 t388.length co108) ∧ w'.cell? ⟨gb394, 2, none⟩ = some (.int .i64 t391) ∧ w'.cell? ⟨gb394, 3, none⟩ = some (.int .i64 t392) ∧ w'.cell? ⟨gb394, 4, none⟩ = some (.int .i64 t393) ∧ w'.cell? ⟨gb382, 0, none⟩ = some (.int .i64 t372) ∧ w'.cell? ⟨gb382, 1, none⟩ = some (.slice Ao69 t373.length co69) ∧ w'.cell? ⟨gb382, 2, none⟩ = some (.int .i64 t376) ∧ w'.cell? ⟨gb382, 3, none⟩ = some (.int .i64 t377) ∧ w'.cell? ⟨gb382, 4, none⟩ = some (.int .i64 t378) ∧ w'.cell? (ad386.add (((ji85)).toNat * 3)) = some (.int .i64 ((rd_T26 t379 (ji85)).f0)) ∧ w'.cell? ⟨(ad386.add (((ji85)).toNat * 3)).block, (ad386.add (((ji85)).toNat * 3)).off + 1, none⟩ = some (.int .i64 ((rd_T26 t379 (ji85)).f1)) ∧ w'.cell? ⟨(ad386.add (((ji85)).toNat * 3)).block, (ad386.add (((ji85)).toNat * 3)).off + 2, none⟩ = some (.int .i64 ((rd_T26 t379 (ji85)).f2))) (ds := []) b6_98 KR rfl rfl ⟨(blk_cell BK394.out 0).trans rfl, (blk_cell BK394.out 1).trans rfl, (blk_cell BK394.out 2).trans rfl, (blk_cell BK394.out 3).trans rfl, (blk_cell BK394.out 4).trans rfl, (blk_cell BK382.out 0).trans rfl, (blk_cell BK382.out 1).trans rfl, (blk_cell BK382.out 2).trans rfl, (blk_cell BK382.out 3).trans rfl, (blk_cell BK382.out 4).trans rfl, hx395_0, hx395_1, hx395_2⟩ (fun hHeld => ?_); refine with_tabW laws_FnSites.tab25 laws_FnSites.bits25 (fun HT_ HW_ => ?_)
                      generalize w109.drew = w110 at HO_10 HO_14 HO_350001 HO_383001 HO390 BK341 BK349 BK371 BK382 BK394 HB hx395_0 hx395_1 hx395_2 hHeld ⊢
                      refine pu_ (i := 0) (N := some 117) b6_97 HT_ ?_
                      refine pu_ (i := 1) (N := some 118) b6_96 HT_ ?_
                      refine pu_ (i := 2) (N := some 119) b6_95 HT_ ?_
                      refine pu_ (i := 3) (N := some 120) b6_94 HT_ ?_
                      refine pu_ (i := 4) (N := some 121) b6_93 HT_ ?_
                      refine pu_ (i := 5) (N := some 122) b6_92 HT_ ?_
                      refine pu_ (i := 6) (N := some 123) b6_91 HT_ ?_
                      refine tk_ (i := 7) (N := some 124) b6_90 rfl rfl HT_ HW_ hHeld ?_
                      refine pu_ (i := 8) (N := some 125) b6_89 HT_ ?_
                      refine pu_ (i := 9) (N := some 126) b6_88 HT_ ?_
                      refine pu_ (i := 10) (N := some 127) b6_87 HT_ ?_
                      refine pu_ (i := 12) (N := some 129) b6_85 HT_ ?_
                      refine pu_ (i := 13) (N := some 130) b6_83 HT_ ?_
                      refine pu_ (i := 14) (N := some 131) b6_81 HT_ ?_
                      refine pu_ (i := 15) (N := some 132) b6_79 HT_ ?_
                      refine tk_ (i := 11) (N := some 128) b6_78 rfl rfl HT_ HW_ hHeld ?_
                      refine take_ (i := 16) (N := some 133) (v := ?_) (a' := ?_) b6_77 rfl rfl (take_ofW HT_.out HW_.out KR) (fun _ _ _ h => h) (Or.inl ⟨by rfl, ?_⟩) hHeld ?_ ?_
                      rotate_left
                      ·rintro w' ⟨s0, s1, s2, s3, s4, s5, s6, s7, s8, s9, s10, s11, s12⟩
                       go_simp
                       with_reducible rfl
                      rotate_left
                      ·simp only [Act.put, List.setIfInBounds_toArray, List.set_cons_zero, List.set_cons_succ, i64_w, i32_w]
                       rfl
                      refine pu_ (i := 17) (N := some 134) b6_76 HT_ ?_
                      refine pu_ (i := 18) (N := some 135) b6_75 HT_ ?_
                      refine pu_ (i := 19) (N := some 136) b6_74 HT_ ?_
                      refine pu_ (i := 20) (N := some 137) b6_73 HT_ ?_
                      refine pu_ (i := 21) (N := some 138) b6_72 HT_ ?_
                      refine pu_ (i := 22) (N := some 139) b6_71 HT_ ?_
                      refine pu_ (i := 23) (N := some 140) b6_70 HT_ ?_
                      refine pu_ (i := 24) (N := some 141) b6_69 HT_ ?_
                      refine pu_ (i := 25) (N := some 142) b6_68 HT_ ?_
                      refine pu_ (i := 26) (N := some 143) b6_67 HT_ ?_
                      refine tk_ (i := 27) (N := some 144) b6_66 rfl rfl HT_ HW_ hHeld ?_
                      refine take_ (i := 28) (N := some 145) (v := ?_) (a' := ?_) b6_65 rfl rfl (take_ofW HT_.out HW_.out KR) (fun _ _ _ h => h) (Or.inl ⟨by rfl, ?_⟩) hHeld ?_ ?_
                      rotate_left
                      ·rintro w' ⟨s0, s1, s2, s3, s4, s5, s6, s7, s8, s9, s10, s11, s12⟩
                       go_simp
                       with_reducible rfl
                      rotate_left
                      ·simp only [Act.put, List.setIfInBounds_toArray, List.set_cons_zero, List.set_cons_succ, i64_w, i32_w]
                       rfl
                      refine one_ (i := 29) (N := some 146) b6_64 rfl rfl (one_of HT_.out KR) (by decide) (fun K hK => ?_)
                      refine goes_ Try.func14 KR rfl #[.agg #[.int .i64 t387, .slice Ao108 t388.length co108, .int .i64 t391, .int .i64 t392, .int .i64 t393], .agg #[.int .i64 t372, .slice Ao69 t373.length co69, .int .i64 t376, .int .i64 t377, .int .i64 t378]] (by rfl) rfl rfl AR ?_
                      with_reducible refine (impl_EqualResources.calls k4 t387 _ _ t388 t391 t392 t393 t372 _ _ t373 t376 t377 t378 true _ ?side1 ?side2 ?side3 ?side4 A99.out).mono ?_
                      (case side1 => exact CR ((Kd.R_reads' HO390.out).2.2))
                      (case side2 => exact (Kd.R_reads' HO390.out).2.1)
                      (case side3 => exact CR ((Kd.R_reads' HO_383001.out).2.2))
                      (case side4 => exact (Kd.R_reads' HO_383001.out).2.1)
                      rintro e w111 ⟨rfl, hb⟩
                      have HS10_ := hs_ hb hHeld.2.2.2.2.2.2.2.2.2.2.1; have HS11_ := hs_ hb hHeld.2.2.2.2.2.2.2.2.2.2.2.1; have HS12_ := hs_ hb hHeld.2.2.2.2.2.2.2.2.2.2.2.2
                      refine ⟨_, rfl, ?_⟩
                      have n0_ := ak (Kd.S_below (PS HO_10) hb)
                      have n1_ := ak (Kd.R_below (PR HO_14) hb)
                      have n2_ := ak (Kd.R_below (PR HO_350001) hb)
                      have n3_ := ak (Kd.R_below (PR HO_383001) hb)
                      have n4_ := ak (Kd.R_below (PR HO390) hb)
                      have n5_ := ak (kb BK341 hb)
                      have n6_ := ak (kb BK349 hb)
                      have n7_ := ak (kb BK371 hb)
                      have n8_ := ak (kb BK382 hb)
                      have n9_ := ak (kb BK394 hb)
                      have n10_ := ak (below_step PB hb)
                      clear HO_10
                      clear HO_14
                      clear HO_350001
                      clear HO_383001
                      clear HO390
                      clear BK341
                      clear BK349
                      clear BK371
                      clear BK382
                      clear BK394
                      clear HB
                      have HO_10 := n0_
                      have HO_14 := n1_
                      have HO_350001 := n2_
                      have HO_383001 := n3_
                      have HO390 := n4_
                      have BK341 := n5_
                      have BK349 := n6_
                      have BK371 := n7_
                      have BK382 := n8_
                      have BK394 := n9_
                      have HB := n10_
                      clear n0_ n1_ n2_ n3_ n4_ n5_ n6_ n7_ n8_ n9_ n10_
                      (try clear hb)
                      (try clear hb2)
                      (try clear hk)
                      (try clear hi)
                      refine hK.out _ _ ⟨(blk_cell BK394.out 0).trans rfl, (blk_cell BK394.out 1).trans rfl, (blk_cell BK394.out 2).trans rfl, (blk_cell BK394.out 3).trans rfl, (blk_cell BK394.out 4).trans rfl, (blk_cell BK382.out 0).trans rfl, (blk_cell BK382.out 1).trans rfl, (blk_cell BK382.out 2).trans rfl, (blk_cell BK382.out 3).trans rfl, (blk_cell BK382.out 4).trans rfl, HS10_, HS11_, HS12_⟩ (fun hHeld => ?_)
                      clear hK K
                      refine norm_ (a' := ?_) ?_ ?_
                      rotate_left
                      ·show Act.put _ (some 146) _ = _
                       simp only [Act.put, List.setIfInBounds_toArray, List.set_cons_zero, List.set_cons_succ, i64_w, i32_w]
                       rfl
                      refine pu_ (i := 30) (N := some 147) b6_63 HT_ ?_
                      refine pu_ (i := 31) (N := some 148) b6_62 HT_ ?_
                      refine pu_ (i := 32) (N := some 149) b6_61 HT_ ?_
                      refine done_ (done_of HT_.out KR) ?_
                      try go_wp2
                      go_roundg k4
                      case measure => have := HK1.out; have := HJ22.out; have := HK3.out; have := HK4.out; omega
                      case rel => exact ⟨(ji85), (by first | rfl | (simp; done) | (simp only [← hji85] <;> (first | rfl | (simp; done) | (simp [mn, mx]; done) | (unfold mn; split <;> omega) | (unfold mx; split <;> omega))) | (simp [*]; done)), H', ⟨by have := HK1.out; have := HJ22.out; have := HK3.out; have := HK4.out; omega⟩, ⟨by (with_reducible repeat (first | apply Kd.S_alloc | apply Kd.S_drewN | apply Kd.S_drew)); exact Kd.S_mono HO_10.out (fun _ hk => by first | exact ⟨hk.1, hk.2.1⟩ | simp_all)⟩, ⟨PR HO_14⟩, ⟨by (with_reducible repeat (first | apply Kd.R_alloc | apply Kd.R_drewN | apply Kd.R_drew)); exact Kd.R_mono HO_350001.out (fun _ hk => by first | exact hk.1 | simp_all)⟩, ⟨by (with_reducible repeat (first | apply Kd.R_alloc | apply Kd.R_drewN | apply Kd.R_drew)); exact Kd.R_mono HO_383001.out (fun _ hk => by first | exact hk.1 | simp_all)⟩, ⟨PK BK341⟩, ⟨PK BK349⟩, ⟨PK BK371⟩, ⟨PK BK382⟩, ⟨PB⟩⟩
                     ·replace c100 := Bool.eq_false_iff.mpr c100
                      subst c100
                      have H1 : (some false) = some r := by rw [if_neg (show ¬ (false = true) by decide)] at H; exact H
                      clear H
                      have H := H1
                      clear H1
                      cases (Option.some.inj H).trans hT_
                    ·rw [if_neg c98] at H
                     have c98b0 : ((ji85) == (t379.length : Int)) = false := beq_eq_false_iff_ne.mpr c98
                     have c98b1 : ((ji85) != (t379.length : Int)) = true := bne_iff_ne.mpr c98
                     have H' := Aside0.mk H
                     clear H
                     have p386 : 0 ≤ (x15_3 : Int) := of_decide_eq_true (by first | (with_reducible assumption) | assumption)
                     have q386 : x15_3 < (t379.length : Int) := of_decide_eq_true (by first | (with_reducible assumption) | assumption)
                     obtain ⟨ad386, e386, hx386_0, hx386_1, hx386_2⟩ := at_T26 (Kd.R_reads' HO_14.out).2.2 x15_3 p386 q386
                     cases e386
                     replace p386 := eq_true p386
                     replace q386 := eq_true q386
                     try go_wp2_with (first | ((with_reducible refine gate_callee (f := 12) rfl ?_); refine goesL_ (some 116) rfl rfl Try.func12 KR rfl #[.slice Ao62 t364.length co62, .agg #[.int .i64 ((rd_T26 t379 x15_3).f0), .int .i64 ((rd_T26 t379 x15_3).f1), .int .i64 ((rd_T26 t379 x15_3).f2)], .int .i64 t370] rfl AR ?_; (with_reducible refine (impl_AnswerAt.calls k4 _ _ t364 ((rd_T26 t379 x15_3).f0) ((rd_T26 t379 x15_3).f1) ((rd_T26 t379 x15_3).f2) t370 t387 t388 t391 t392 t393 _ ?side1 ?side2 A82.out).mono ?_); (case side1 => exact CR ((Kd.S_reads' HO_10.out).2.2)); (case side2 => exact (Kd.S_reads' HO_10.out).2.1); rintro e w123 ⟨v389, rfl, ho0, hb⟩; refine ⟨_, rfl, ?_⟩; have n0_ := ak (Kd.S_elder' (PS HO_10) (Kd.R_base ho0) hb); have n1_ := ak (Kd.R_below (PR HO_14) hb); have n2_ := ak (Kd.R_elder' (PR HO_350001) (Kd.R_base ho0) hb); have n3_ := ak (Kd.R_elder' (PR HO_383001) (Kd.R_base ho0) hb); have n4_ := ak (Kd.R_lower (Kd.R_new' (Kd.R_new' ho0 (Kd.R_lt (PR HO_350001))) (Kd.R_lt (PR HO_383001))) (below_size PB)); have n5_ := ak (kb BK341 hb); have n6_ := ak (kb BK349 hb); have n7_ := ak (kb BK371 hb); have n8_ := ak (kb BK382 hb); have n9_ := ak (below_step PB hb); clear HO_10 HO_14 HO_350001 HO_383001 BK341 BK349 BK371 BK382 HB; have HO_10 := n0_; have HO_14 := n1_; have HO_350001 := n2_; have HO_383001 := n3_; have HO390 := n4_; have BK341 := n5_; have BK349 := n6_; have BK371 := n7_; have BK382 := n8_; have HB := n9_; clear n0_ n1_ n2_ n3_ n4_ n5_ n6_ n7_ n8_ n9_; (try clear hb); (try clear hb2); (try clear hk); (try clear hi); (try clear ho0)) | ((with_reducible refine gate_dst (N := 17) rfl ?_); (try (refine gate_guard (by rfl) ?_; dsimp only)); refine bx_ (N := 17) #[.int .i64 0, .slice none 0 0, .int .i64 0, .int .i64 0, .int .i64 0] 31 ?_; intro gb394 hg w124 hbox hb; have n0_ := ak (Kd.S_below (PS HO_10) hb); have n1_ := ak (Kd.R_below (PR HO_14) hb); have n2_ := ak (Kd.R_below (PR HO_350001) hb); have n3_ := ak (Kd.R_below (PR HO_383001) hb); have n4_ := ak (Kd.R_below (PR HO390) hb); have n5_ := ak (kb BK341 hb); have n6_ := ak (kb BK349 hb); have n7_ := ak (kb BK371 hb); have n8_ := ak (kb BK382 hb); have n9_ := ak (below_step PB hb); have n10_ := ak (hbox); have n11_ := ak ((gz hg PB : w.heap.size ≤ gb394)); have n12_ := ak ((gz hg PB : w.heap.size ≤ gb394)); have n13_ := ak ((gl hg BK341 : gb341 ≠ gb394)); have n14_ := ak (((gl hg BK341).symm : gb394 ≠ gb341)); have n15_ := ak ((gl hg BK349 : gb349 ≠ gb394)); have n16_ := ak (((gl hg BK349).symm : gb394 ≠ gb349)); have n17_ := ak ((gl hg BK371 : gb371 ≠ gb394)); have n18_ := ak (((gl hg BK371).symm : gb394 ≠ gb371)); have n19_ := ak ((gl hg BK382 : gb382 ≠ gb394)); have n20_ := ak (((gl hg BK382).symm : gb394 ≠ gb382)); clear HO_10 HO_14 HO_350001 HO_383001 HO390 BK341 BK349 BK371 BK382 HB; have HO_10 := n0_; have HO_14 := n1_; have HO_350001 := n2_; have HO_383001 := n3_; have HO390 := n4_; have BK341 := n5_; have BK349 := n6_; have BK371 := n7_; have BK382 := n8_; have HB := n9_; have BK394 := n10_; have GW394 := n11_; have GE394 := n12_; have NB341_394 := n13_; have NB394_341 := n14_; have NB349_394 := n15_; have NB394_349 := n16_; have NB371_394 := n17_; have NB394_371 := n18_; have NB382_394 := n19_; have NB394_382 := n20_; clear n0_ n1_ n2_ n3_ n4_ n5_ n6_ n7_ n8_ n9_ n10_ n11_ n12_ n13_ n14_ n15_ n16_ n17_ n18_ n19_ n20_; clear hb hbox hg; have hnb125 := NB394_341.out; have hnc125 := NB341_394.out; have hnb126 := NB394_349.out; have hnc126 := NB349_394.out; have hnb127 := NB394_371.out; have hnc127 := NB371_394.out; have hnb128 := NB394_382.out; have hnc128 := NB382_394.out; have hcz129_0 : w124.cell? ⟨gb394, 0, none⟩ = some (.int .i64 0) := (blk_cell BK394.out 0).trans rfl; have hcz129_1 : w124.cell? ⟨gb394, 1, none⟩ = some (.slice none 0 0) := (blk_cell BK394.out 1).trans rfl; have hcz129_2 : w124.cell? ⟨gb394, 2, none⟩ = some (.int .i64 0) := (blk_cell BK394.out 2).trans rfl; have hcz129_3 : w124.cell? ⟨gb394, 3, none⟩ = some (.int .i64 0) := (blk_cell BK394.out 3).trans rfl; have hcz129_4 : w124.cell? ⟨gb394, 4, none⟩ = some (.int .i64 0) := (blk_cell BK394.out 4).trans rfl; have hfz129_0 := blk_frozen BK394.out 0; have hfz129_1 := blk_frozen BK394.out 1; have hfz129_2 := blk_frozen BK394.out 2; have hfz129_3 := blk_frozen BK394.out 3; have hfz129_4 := blk_frozen BK394.out 4; obtain ⟨Ao130, co130, eo130⟩ := Kd.R_slice HO390.out; subst eo130))
                     have n0_ : Aside0 (Kd.S k98 98 (((((w124.setCell ⟨gb394, 0, none⟩ (.int .i64 t387)).setCell ⟨gb394, 1, none⟩ (.slice Ao130 t388.length co130)).setCell ⟨gb394, 2, none⟩ (.int .i64 t391)).setCell ⟨gb394, 3, none⟩ (.int .i64 t392)).setCell ⟨gb394, 4, none⟩ (.int .i64 t393)) w.heap.size (fun k_ => some k_ ≠ (.slice Ao15 t343.length co15 : Value).ownBlock ∧ some k_ ≠ (.slice Ao69 t373.length co69 : Value).ownBlock ∧ some k_ ≠ (.slice Ao130 t388.length co130 : Value).ownBlock) (.slice Ao62 t364.length co62) t364) := ⟨by (with_reducible repeat (first | apply Kd.S_alloc | apply Kd.S_drewN | apply Kd.S_drew)); exact Kd.S_mono (Kd.S_far (p := ⟨gb394, 4, none⟩) (Kd.S_far (p := ⟨gb394, 3, none⟩) (Kd.S_far (p := ⟨gb394, 2, none⟩) (Kd.S_far (p := ⟨gb394, 1, none⟩) (Kd.S_far (p := ⟨gb394, 0, none⟩) (Kd.S_types HO_10.out BK394.out (by decide)) FK (.int .i64 t387)) FK (.slice Ao130 t388.length co130)) FK (.int .i64 t391)) FK (.int .i64 t392)) FK (.int .i64 t393)) (fun _ hk => ⟨hk.1.1.1, ⟨hk.1.1.2, hk.1.2⟩⟩)⟩
                     have n1_ : Aside0 (Kd.R k26 26 (((((w124.setCell ⟨gb394, 0, none⟩ (.int .i64 t387)).setCell ⟨gb394, 1, none⟩ (.slice Ao130 t388.length co130)).setCell ⟨gb394, 2, none⟩ (.int .i64 t391)).setCell ⟨gb394, 3, none⟩ (.int .i64 t392)).setCell ⟨gb394, 4, none⟩ (.int .i64 t393)) w.heap.size (fun k_ => k_ ≠ gb341 ∧ k_ ≠ gb371) (.slice (some ad386) t379.length co71) t379) := ⟨by (with_reducible repeat (first | apply Kd.R_alloc | apply Kd.R_drewN | apply Kd.R_drew)); exact Kd.R_mono (Kd.R_far (p := ⟨gb394, 4, none⟩) (Kd.R_far (p := ⟨gb394, 3, none⟩) (Kd.R_far (p := ⟨gb394, 2, none⟩) (Kd.R_far (p := ⟨gb394, 1, none⟩) (Kd.R_far (p := ⟨gb394, 0, none⟩) (Kd.R_types HO_14.out BK394.out (by decide)) FK (.int .i64 t387)) FK (.slice Ao130 t388.length co130)) FK (.int .i64 t391)) FK (.int .i64 t392)) FK (.int .i64 t393)) (fun _ hk => by first | exact ⟨hk.1.1, hk.1.2⟩ | simp_all)⟩
                     have n2_ : Aside0 (Kd.R (Kd.int .i64) 3 (((((w124.setCell ⟨gb394, 0, none⟩ (.int .i64 t387)).setCell ⟨gb394, 1, none⟩ (.slice Ao130 t388.length co130)).setCell ⟨gb394, 2, none⟩ (.int .i64 t391)).setCell ⟨gb394, 3, none⟩ (.int .i64 t392)).setCell ⟨gb394, 4, none⟩ (.int .i64 t393)) w.heap.size (fun k_ => some k_ ≠ (.slice Ao69 t373.length co69 : Value).ownBlock ∧ some k_ ≠ (.slice Ao130 t388.length co130 : Value).ownBlock) (.slice Ao15 t343.length co15) t343) := ⟨by (with_reducible repeat (first | apply Kd.R_alloc | apply Kd.R_drewN | apply Kd.R_drew)); exact Kd.R_mono (Kd.R_far (p := ⟨gb394, 4, none⟩) (Kd.R_far (p := ⟨gb394, 3, none⟩) (Kd.R_far (p := ⟨gb394, 2, none⟩) (Kd.R_far (p := ⟨gb394, 1, none⟩) (Kd.R_far (p := ⟨gb394, 0, none⟩) (Kd.R_types HO_350001.out BK394.out (by decide)) FK (.int .i64 t387)) FK (.slice Ao130 t388.length co130)) FK (.int .i64 t391)) FK (.int .i64 t392)) FK (.int .i64 t393)) (fun _ hk => by first | exact ⟨hk.1.1, hk.1.2⟩ | simp_all)⟩
                     have n3_ : Aside0 (Kd.R (Kd.int .i64) 3 (((((w124.setCell ⟨gb394, 0, none⟩ (.int .i64 t387)).setCell ⟨gb394, 1, none⟩ (.slice Ao130 t388.length co130)).setCell ⟨gb394, 2, none⟩ (.int .i64 t391)).setCell ⟨gb394, 3, none⟩ (.int .i64 t392)).setCell ⟨gb394, 4, none⟩ (.int .i64 t393)) w.heap.size (fun k_ => some k_ ≠ (.slice Ao15 t343.length co15 : Value).ownBlock ∧ some k_ ≠ (.slice Ao130 t388.length co130 : Value).ownBlock) (.slice Ao69 t373.length co69) t373) := ⟨by (with_reducible repeat (first | apply Kd.R_alloc | apply Kd.R_drewN | apply Kd.R_drew)); exact Kd.R_mono (Kd.R_far (p := ⟨gb394, 4, none⟩) (Kd.R_far (p := ⟨gb394, 3, none⟩) (Kd.R_far (p := ⟨gb394, 2, none⟩) (Kd.R_far (p := ⟨gb394, 1, none⟩) (Kd.R_far (p := ⟨gb394, 0, none⟩) (Kd.R_types HO_383001.out BK394.out (by decide)) FK (.int .i64 t387)) FK (.slice Ao130 t388.length co130)) FK (.int .i64 t391)) FK (.int .i64 t392)) FK (.int .i64 t393)) (fun _ hk => by first | exact ⟨hk.1.1, hk.1.2⟩ | simp_all)⟩
                     have n4_ : Aside0 (Kd.R (Kd.int .i64) 3 (((((w124.setCell ⟨gb394, 0, none⟩ (.int .i64 t387)).setCell ⟨gb394, 1, none⟩ (.slice Ao130 t388.length co130)).setCell ⟨gb394, 2, none⟩ (.int .i64 t391)).setCell ⟨gb394, 3, none⟩ (.int .i64 t392)).setCell ⟨gb394, 4, none⟩ (.int .i64 t393)) w.heap.size (fun k_ => some k_ ≠ (.slice Ao15 t343.length co15 : Value).ownBlock ∧ some k_ ≠ (.slice Ao69 t373.length co69 : Value).ownBlock) (.slice Ao130 t388.length co130) t388) := ⟨by (with_reducible repeat (first | apply Kd.R_alloc | apply Kd.R_drewN | apply Kd.R_drew)); exact Kd.R_mono (Kd.R_far (p := ⟨gb394, 4, none⟩) (Kd.R_far (p := ⟨gb394, 3, none⟩) (Kd.R_far (p := ⟨gb394, 2, none⟩) (Kd.R_far (p := ⟨gb394, 1, none⟩) (Kd.R_far (p := ⟨gb394, 0, none⟩) (Kd.R_types HO390.out BK394.out (by decide)) FK (.int .i64 t387)) FK (.slice Ao130 t388.length co130)) FK (.int .i64 t391)) FK (.int .i64 t392)) FK (.int .i64 t393)) (fun _ hk => by first | exact ⟨hk.1.1.2, hk.1.2⟩ | simp_all)⟩
                     have n5_ : Aside0 ((((((w124.setCell ⟨gb394, 0, none⟩ (.int .i64 t387)).setCell ⟨gb394, 1, none⟩ (.slice Ao130 t388.length co130)).setCell ⟨gb394, 2, none⟩ (.int .i64 t391)).setCell ⟨gb394, 3, none⟩ (.int .i64 t392)).setCell ⟨gb394, 4, none⟩ (.int .i64 t393)).heap[gb341]? = some (.cells #[.int .i64 t337, .int .i64 t338, .int .i64 t339] 26 (0, 0))) := ⟨PF BK341⟩
                     have n6_ : Aside0 ((((((w124.setCell ⟨gb394, 0, none⟩ (.int .i64 t387)).setCell ⟨gb394, 1, none⟩ (.slice Ao130 t388.length co130)).setCell ⟨gb394, 2, none⟩ (.int .i64 t391)).setCell ⟨gb394, 3, none⟩ (.int .i64 t392)).setCell ⟨gb394, 4, none⟩ (.int .i64 t393)).heap[gb349]? = some (.cells #[.int .i64 t342, .slice Ao15 t343.length co15, .int .i64 t346, .int .i64 t347, .int .i64 t348] 31 (0, 0))) := ⟨PF BK349⟩
                     have n7_ : Aside0 ((((((w124.setCell ⟨gb394, 0, none⟩ (.int .i64 t387)).setCell ⟨gb394, 1, none⟩ (.slice Ao130 t388.length co130)).setCell ⟨gb394, 2, none⟩ (.int .i64 t391)).setCell ⟨gb394, 3, none⟩ (.int .i64 t392)).setCell ⟨gb394, 4, none⟩ (.int .i64 t393)).heap[gb371]? = some (.cells #[.int .i64 t367, .int .i64 t368, .int .i64 t369] 26 (0, 0))) := ⟨PF BK371⟩
                     have n8_ : Aside0 ((((((w124.setCell ⟨gb394, 0, none⟩ (.int .i64 t387)).setCell ⟨gb394, 1, none⟩ (.slice Ao130 t388.length co130)).setCell ⟨gb394, 2, none⟩ (.int .i64 t391)).setCell ⟨gb394, 3, none⟩ (.int .i64 t392)).setCell ⟨gb394, 4, none⟩ (.int .i64 t393)).heap[gb382]? = some (.cells #[.int .i64 t372, .slice Ao69 t373.length co69, .int .i64 t376, .int .i64 t377, .int .i64 t378] 31 (0, 0))) := ⟨PF BK382⟩
                     have n9_ : Aside0 ((((((w124.setCell ⟨gb394, 0, none⟩ (.int .i64 t387)).setCell ⟨gb394, 1, none⟩ (.slice Ao130 t388.length co130)).setCell ⟨gb394, 2, none⟩ (.int .i64 t391)).setCell ⟨gb394, 3, none⟩ (.int .i64 t392)).setCell ⟨gb394, 4, none⟩ (.int .i64 t393)).heap[gb394]? = some (.cells #[.int .i64 t387, .slice Ao130 t388.length co130, .int .i64 t391, .int .i64 t392, .int .i64 t393] 31 (0, 0))) := ⟨by (with_reducible repeat (first | refine blk_drewN ?_ _ | refine blk_drew ?_ | refine blk_alloc ?_ _)); refine blk_put (cs := #[.int .i64 t387, .slice Ao130 t388.length co130, .int .i64 t391, .int .i64 t392, .int .i64 0]) ?_ 4 _ rfl; (with_reducible repeat (first | refine blk_drewN ?_ _ | refine blk_drew ?_ | refine blk_alloc ?_ _)); refine blk_put (cs := #[.int .i64 t387, .slice Ao130 t388.length co130, .int .i64 t391, .int .i64 0, .int .i64 0]) ?_ 3 _ rfl; (with_reducible repeat (first | refine blk_drewN ?_ _ | refine blk_drew ?_ | refine blk_alloc ?_ _)); refine blk_put (cs := #[.int .i64 t387, .slice Ao130 t388.length co130, .int .i64 0, .int .i64 0, .int .i64 0]) ?_ 2 _ rfl; (with_reducible repeat (first | refine blk_drewN ?_ _ | refine blk_drew ?_ | refine blk_alloc ?_ _)); refine blk_put (cs := #[.int .i64 t387, .slice none 0 0, .int .i64 0, .int .i64 0, .int .i64 0]) ?_ 1 _ rfl; (with_reducible repeat (first | refine blk_drewN ?_ _ | refine blk_drew ?_ | refine blk_alloc ?_ _)); refine blk_put (cs := #[.int .i64 0, .slice none 0 0, .int .i64 0, .int .i64 0, .int .i64 0]) ?_ 0 _ rfl; (with_reducible repeat (first | refine blk_drewN ?_ _ | refine blk_drew ?_ | refine blk_alloc ?_ _)); exact BK394.out⟩
                     have n10_ : Aside0 (Below w.heap.size w (((((w124.setCell ⟨gb394, 0, none⟩ (.int .i64 t387)).setCell ⟨gb394, 1, none⟩ (.slice Ao130 t388.length co130)).setCell ⟨gb394, 2, none⟩ (.int .i64 t391)).setCell ⟨gb394, 3, none⟩ (.int .i64 t392)).setCell ⟨gb394, 4, none⟩ (.int .i64 t393))) := ⟨PB⟩
                     (try clear HO_10)
                     (try clear HO_14)
                     (try clear HO_350001)
                     (try clear HO_383001)
                     (try clear HO390)
                     (try clear BK341)
                     (try clear BK349)
                     (try clear BK371)
                     (try clear BK382)
                     (try clear BK394)
                     (try clear HB)
                     generalize (((((w124.setCell ⟨gb394, 0, none⟩ (.int .i64 t387)).setCell ⟨gb394, 1, none⟩ (.slice Ao130 t388.length co130)).setCell ⟨gb394, 2, none⟩ (.int .i64 t391)).setCell ⟨gb394, 3, none⟩ (.int .i64 t392)).setCell ⟨gb394, 4, none⟩ (.int .i64 t393)) = w131 at n0_ n1_ n2_ n3_ n4_ n5_ n6_ n7_ n8_ n9_ n10_ ⊢
                     have HO_10 := n0_
                     have HO_14 := n1_
                     have HO_350001 := n2_
                     have HO_383001 := n3_
                     have HO390 := n4_
                     have BK341 := n5_
                     have BK349 := n6_
                     have BK371 := n7_
                     have BK382 := n8_
                     have BK394 := n9_
                     have HB := n10_
                     clear n0_ n1_ n2_ n3_ n4_ n5_ n6_ n7_ n8_ n9_ n10_
                     have n0_ := ak (Kd.S_drew HO_10.out)
                     have n1_ := ak (Kd.R_drew HO_14.out)
                     have n2_ := ak (Kd.R_drew HO_350001.out)
                     have n3_ := ak (Kd.R_drew HO_383001.out)
                     have n4_ := ak (Kd.R_drew HO390.out)
                     have n5_ := ak (blk_drew BK341.out)
                     have n6_ := ak (blk_drew BK349.out)
                     have n7_ := ak (blk_drew BK371.out)
                     have n8_ := ak (blk_drew BK382.out)
                     have n9_ := ak (blk_drew BK394.out)
                     have n10_ := ak (below_drew1 HB.out)
                     clear HO_10
                     clear HO_14
                     clear HO_350001
                     clear HO_383001
                     clear HO390
                     clear BK341
                     clear BK349
                     clear BK371
                     clear BK382
                     clear BK394
                     clear HB
                     have HO_10 := n0_
                     have HO_14 := n1_
                     have HO_350001 := n2_
                     have HO_383001 := n3_
                     have HO390 := n4_
                     have BK341 := n5_
                     have BK349 := n6_
                     have BK371 := n7_
                     have BK382 := n8_
                     have BK394 := n9_
                     have HB := n10_
                     clear n0_ n1_ n2_ n3_ n4_ n5_ n6_ n7_ n8_ n9_ n10_
                     have p395 : 0 ≤ ((ji85) : Int) := of_decide_eq_true (by first | (with_reducible assumption) | assumption)
                     have q395 : (ji85) < (t379.length : Int) := of_decide_eq_true (by first | (with_reducible assumption) | assumption)
                     obtain ⟨ad395, e395, hx395_0, hx395_1, hx395_2⟩ := at_T26 (Kd.R_reads' HO_14.out).2.2 (ji85) p395 q395
                     obtain rfl : ad386 = ad395 := (by injection e395)
                     replace p395 := eq_true p395
                     replace q395 := eq_true q395
                     refine start_ (n := 33) (S := fun w' => w'.cell? ⟨gb394, 0, none⟩ = some (.int .i64 t387) ∧ w'.cell? ⟨gb394, 1, none⟩ = some (.slice Ao130 t388.length co130) ∧ w'.cell? ⟨gb394, 2, none⟩ = some (.int .i64 t391) ∧ w'.cell? ⟨gb394, 3, none⟩ = some (.int .i64 t392) ∧ w'.cell? ⟨gb394, 4, none⟩ = some (.int .i64 t393) ∧ w'.cell? (ad386.add (((ji85)).toNat * 3)) = some (.int .i64 ((rd_T26 t379 (ji85)).f0)) ∧ w'.cell? ⟨(ad386.add (((ji85)).toNat * 3)).block, (ad386.add (((ji85)).toNat * 3)).off + 1, none⟩ = some (.int .i64 ((rd_T26 t379 (ji85)).f1)) ∧ w'.cell? ⟨(ad386.add (((ji85)).toNat * 3)).block, (ad386.add (((ji85)).toNat * 3)).off + 2, none⟩ = some (.int .i64 ((rd_T26 t379 (ji85)).f2))) (ds := []) b6_98 KR rfl rfl ⟨(blk_cell BK394.out 0).trans rfl, (blk_cell BK394.out 1).trans rfl, (blk_cell BK394.out 2).trans rfl, (blk_cell BK394.out 3).trans rfl, (blk_cell BK394.out 4).trans rfl, hx395_0, hx395_1, hx395_2⟩ (fun hHeld => ?_); refine with_tabW laws_FnSites.tab25 laws_FnSites.bits25 (fun HT_ HW_ => ?_)
                     generalize w131.drew = w132 at HO_10 HO_14 HO_350001 HO_383001 HO390 BK341 BK349 BK371 BK382 BK394 HB hx395_0 hx395_1 hx395_2 hHeld ⊢
                     refine pu_ (i := 0) (N := some 117) b6_97 HT_ ?_
                     refine pu_ (i := 1) (N := some 118) b6_96 HT_ ?_
                     refine pu_ (i := 2) (N := some 119) b6_95 HT_ ?_
                     refine pu_ (i := 3) (N := some 120) b6_94 HT_ ?_
                     refine pu_ (i := 4) (N := some 121) b6_93 HT_ ?_
                     refine pu_ (i := 5) (N := some 122) b6_92 HT_ ?_
                     refine pu_ (i := 6) (N := some 123) b6_91 HT_ ?_
                     refine tk_ (i := 7) (N := some 124) b6_90 rfl rfl HT_ HW_ hHeld ?_
                     refine pu_ (i := 8) (N := some 125) b6_89 HT_ ?_
                     refine pu_ (i := 9) (N := some 126) b6_88 HT_ ?_
                     refine pu_ (i := 10) (N := some 127) b6_87 HT_ ?_
                     refine pu_ (i := 12) (N := some 129) b6_85 HT_ ?_
                     refine pu_ (i := 13) (N := some 130) b6_83 HT_ ?_
                     refine pu_ (i := 14) (N := some 131) b6_81 HT_ ?_
                     refine pu_ (i := 15) (N := some 132) b6_79 HT_ ?_
                     refine tk_ (i := 11) (N := some 128) b6_78 rfl rfl HT_ HW_ hHeld ?_
                     refine take_ (i := 16) (N := some 133) (v := ?_) (a' := ?_) b6_77 rfl rfl (take_ofW HT_.out HW_.out KR) (fun _ _ _ h => h) (Or.inl ⟨by rfl, ?_⟩) hHeld ?_ ?_
                     rotate_left
                     ·rintro w' ⟨s0, s1, s2, s3, s4, s5, s6, s7⟩
                      go_simp
                      with_reducible rfl
                     rotate_left
                     ·simp only [Act.put, List.setIfInBounds_toArray, List.set_cons_zero, List.set_cons_succ, i64_w, i32_w]
                      rfl
                     refine pu_ (i := 17) (N := some 134) b6_76 HT_ ?_
                     refine pu_ (i := 18) (N := some 135) b6_75 HT_ ?_
                     refine pu_ (i := 19) (N := some 136) b6_74 HT_ ?_
                     refine pu_ (i := 20) (N := some 137) b6_73 HT_ ?_
                     refine pu_ (i := 21) (N := some 138) b6_72 HT_ ?_
                     refine pu_ (i := 22) (N := some 139) b6_71 HT_ ?_
                     refine pu_ (i := 23) (N := some 140) b6_70 HT_ ?_
                     refine pu_ (i := 24) (N := some 141) b6_69 HT_ ?_
                     refine pu_ (i := 25) (N := some 142) b6_68 HT_ ?_
                     refine pu_ (i := 26) (N := some 143) b6_67 HT_ ?_
                     refine un_ (i := 27) (N := some 144) b6_66 HT_ ?_
                     refine un_ (i := 28) (N := some 145) b6_65 HT_ ?_
                     refine un_ (i := 29) (N := some 146) b6_64 HT_ ?_
                     refine un_ (i := 30) (N := some 147) b6_63 HT_ ?_
                     refine pu_ (i := 31) (N := some 148) b6_62 HT_ ?_
                     refine pu_ (i := 32) (N := some 149) b6_61 HT_ ?_
                     refine done_ (done_of HT_.out KR) ?_
                     try go_wp2
                     go_roundg k4
                     case measure => have := HK1.out; have := HJ22.out; have := HK3.out; have := HK4.out; omega
                     case rel => exact ⟨(ji85), (by first | rfl | (simp; done) | (simp only [← hji85] <;> (first | rfl | (simp; done) | (simp [mn, mx]; done) | (unfold mn; split <;> omega) | (unfold mx; split <;> omega))) | (simp [*]; done)), H', ⟨by have := HK1.out; have := HJ22.out; have := HK3.out; have := HK4.out; omega⟩, ⟨by (with_reducible repeat (first | apply Kd.S_alloc | apply Kd.S_drewN | apply Kd.S_drew)); exact Kd.S_mono HO_10.out (fun _ hk => by first | exact ⟨hk.1, hk.2.1⟩ | simp_all)⟩, ⟨PR HO_14⟩, ⟨by (with_reducible repeat (first | apply Kd.R_alloc | apply Kd.R_drewN | apply Kd.R_drew)); exact Kd.R_mono HO_350001.out (fun _ hk => by first | exact hk.1 | simp_all)⟩, ⟨by (with_reducible repeat (first | apply Kd.R_alloc | apply Kd.R_drewN | apply Kd.R_drew)); exact Kd.R_mono HO_383001.out (fun _ hk => by first | exact hk.1 | simp_all)⟩, ⟨PK BK341⟩, ⟨PK BK349⟩, ⟨PK BK371⟩, ⟨PK BK382⟩, ⟨PB⟩⟩
                  ·rw [if_neg c86] at H
                   exact absurd H (by simp)
                 ·rw [if_neg c84] at H
                  have c84b0 : (t387 == 3) = false := beq_eq_false_iff_ne.mpr c84
                  have c84b1 : (t387 != 3) = true := bne_iff_ne.mpr c84
                  cases (Option.some.inj H).trans hT_
                ·rw [if_neg c83] at H
                 have c83b0 : decide ((wrap64 (x15_3 + 1)) < (t379.length : Int)) = false := decide_eq_false c83
                 clear c83
                 by_cases c143 : (wrap64 (x15_3 + 1)) = (t379.length : Int)
                 ·rw [if_pos c143] at H
                  have c143b0 : ((wrap64 (x15_3 + 1)) == (t379.length : Int)) = true := beq_iff_eq.mpr c143
                  have c143b1 : ((wrap64 (x15_3 + 1)) != (t379.length : Int)) = false := bne_eq_false_iff_eq.mpr c143
                  clear c143
                  replace H := Option.bind_eq_some_iff.mp H
                  obtain ⟨t397, A1440, H⟩ := H
                  replace H : (if t397 = true then (laws_FnSites.l1 k4 t364 t370 t379 (wrap64 (x15_3 + 1)) t367 t368 t369 t372 t373 t376 t377 t378) else (some false)) = some r := H
                  have A144 := Aside0.mk A1440
                  clear A1440
                  by_cases c145 : t397 = true
                  ·subst c145
                   have H1 : (laws_FnSites.l1 k4 t364 t370 t379 (wrap64 (x15_3 + 1)) t367 t368 t369 t372 t373 t376 t377 t378) = some r := by rw [if_pos rfl] at H; exact H
                   clear H
                   have H := H1
                   clear H1
                   have H' := Aside0.mk H
                   clear H
                   have p386 : 0 ≤ (x15_3 : Int) := of_decide_eq_true (by first | (with_reducible assumption) | assumption)
                   have q386 : x15_3 < (t379.length : Int) := of_decide_eq_true (by first | (with_reducible assumption) | assumption)
                   obtain ⟨ad386, e386, hx386_0, hx386_1, hx386_2⟩ := at_T26 (Kd.R_reads' HO_14.out).2.2 x15_3 p386 q386
                   cases e386
                   replace p386 := eq_true p386
                   replace q386 := eq_true q386
                   try go_wp2_with (first | ((with_reducible refine gate_callee (f := 12) rfl ?_); refine goesL_ (some 116) rfl rfl Try.func12 KR rfl #[.slice Ao62 t364.length co62, .agg #[.int .i64 ((rd_T26 t379 x15_3).f0), .int .i64 ((rd_T26 t379 x15_3).f1), .int .i64 ((rd_T26 t379 x15_3).f2)], .int .i64 t370] rfl AR ?_; (with_reducible refine (impl_AnswerAt.calls k4 _ _ t364 ((rd_T26 t379 x15_3).f0) ((rd_T26 t379 x15_3).f1) ((rd_T26 t379 x15_3).f2) t370 t387 t388 t391 t392 t393 _ ?side1 ?side2 A82.out).mono ?_); (case side1 => exact CR ((Kd.S_reads' HO_10.out).2.2)); (case side2 => exact (Kd.S_reads' HO_10.out).2.1); rintro e w146 ⟨v389, rfl, ho0, hb⟩; refine ⟨_, rfl, ?_⟩; have n0_ := ak (Kd.S_elder' (PS HO_10) (Kd.R_base ho0) hb); have n1_ := ak (Kd.R_below (PR HO_14) hb); have n2_ := ak (Kd.R_elder' (PR HO_350001) (Kd.R_base ho0) hb); have n3_ := ak (Kd.R_elder' (PR HO_383001) (Kd.R_base ho0) hb); have n4_ := ak (Kd.R_lower (Kd.R_new' (Kd.R_new' ho0 (Kd.R_lt (PR HO_350001))) (Kd.R_lt (PR HO_383001))) (below_size PB)); have n5_ := ak (kb BK341 hb); have n6_ := ak (kb BK349 hb); have n7_ := ak (kb BK371 hb); have n8_ := ak (kb BK382 hb); have n9_ := ak (below_step PB hb); clear HO_10 HO_14 HO_350001 HO_383001 BK341 BK349 BK371 BK382 HB; have HO_10 := n0_; have HO_14 := n1_; have HO_350001 := n2_; have HO_383001 := n3_; have HO390 := n4_; have BK341 := n5_; have BK349 := n6_; have BK371 := n7_; have BK382 := n8_; have HB := n9_; clear n0_ n1_ n2_ n3_ n4_ n5_ n6_ n7_ n8_ n9_; (try clear hb); (try clear hb2); (try clear hk); (try clear hi); (try clear ho0)) | ((with_reducible refine gate_dst (N := 17) rfl ?_); (try (refine gate_guard (by rfl) ?_; dsimp only)); refine bx_ (N := 17) #[.int .i64 0, .slice none 0 0, .int .i64 0, .int .i64 0, .int .i64 0] 31 ?_; intro gb394 hg w147 hbox hb; have n0_ := ak (Kd.S_below (PS HO_10) hb); have n1_ := ak (Kd.R_below (PR HO_14) hb); have n2_ := ak (Kd.R_below (PR HO_350001) hb); have n3_ := ak (Kd.R_below (PR HO_383001) hb); have n4_ := ak (Kd.R_below (PR HO390) hb); have n5_ := ak (kb BK341 hb); have n6_ := ak (kb BK349 hb); have n7_ := ak (kb BK371 hb); have n8_ := ak (kb BK382 hb); have n9_ := ak (below_step PB hb); have n10_ := ak (hbox); have n11_ := ak ((gz hg PB : w.heap.size ≤ gb394)); have n12_ := ak ((gz hg PB : w.heap.size ≤ gb394)); have n13_ := ak ((gl hg BK341 : gb341 ≠ gb394)); have n14_ := ak (((gl hg BK341).symm : gb394 ≠ gb341)); have n15_ := ak ((gl hg BK349 : gb349 ≠ gb394)); have n16_ := ak (((gl hg BK349).symm : gb394 ≠ gb349)); have n17_ := ak ((gl hg BK371 : gb371 ≠ gb394)); have n18_ := ak (((gl hg BK371).symm : gb394 ≠ gb371)); have n19_ := ak ((gl hg BK382 : gb382 ≠ gb394)); have n20_ := ak (((gl hg BK382).symm : gb394 ≠ gb382)); clear HO_10 HO_14 HO_350001 HO_383001 HO390 BK341 BK349 BK371 BK382 HB; have HO_10 := n0_; have HO_14 := n1_; have HO_350001 := n2_; have HO_383001 := n3_; have HO390 := n4_; have BK341 := n5_; have BK349 := n6_; have BK371 := n7_; have BK382 := n8_; have HB := n9_; have BK394 := n10_; have GW394 := n11_; have GE394 := n12_; have NB341_394 := n13_; have NB394_341 := n14_; have NB349_394 := n15_; have NB394_349 := n16_; have NB371_394 := n17_; have NB394_371 := n18_; have NB382_394 := n19_; have NB394_382 := n20_; clear n0_ n1_ n2_ n3_ n4_ n5_ n6_ n7_ n8_ n9_ n10_ n11_ n12_ n13_ n14_ n15_ n16_ n17_ n18_ n19_ n20_; clear hb hbox hg; have hnb148 := NB394_341.out; have hnc148 := NB341_394.out; have hnb149 := NB394_349.out; have hnc149 := NB349_394.out; have hnb150 := NB394_371.out; have hnc150 := NB371_394.out; have hnb151 := NB394_382.out; have hnc151 := NB382_394.out; have hcz152_0 : w147.cell? ⟨gb394, 0, none⟩ = some (.int .i64 0) := (blk_cell BK394.out 0).trans rfl; have hcz152_1 : w147.cell? ⟨gb394, 1, none⟩ = some (.slice none 0 0) := (blk_cell BK394.out 1).trans rfl; have hcz152_2 : w147.cell? ⟨gb394, 2, none⟩ = some (.int .i64 0) := (blk_cell BK394.out 2).trans rfl; have hcz152_3 : w147.cell? ⟨gb394, 3, none⟩ = some (.int .i64 0) := (blk_cell BK394.out 3).trans rfl; have hcz152_4 : w147.cell? ⟨gb394, 4, none⟩ = some (.int .i64 0) := (blk_cell BK394.out 4).trans rfl; have hfz152_0 := blk_frozen BK394.out 0; have hfz152_1 := blk_frozen BK394.out 1; have hfz152_2 := blk_frozen BK394.out 2; have hfz152_3 := blk_frozen BK394.out 3; have hfz152_4 := blk_frozen BK394.out 4; obtain ⟨Ao153, co153, eo153⟩ := Kd.R_slice HO390.out; subst eo153))
                   have n0_ : Aside0 (Kd.S k98 98 (((((w147.setCell ⟨gb394, 0, none⟩ (.int .i64 t387)).setCell ⟨gb394, 1, none⟩ (.slice Ao153 t388.length co153)).setCell ⟨gb394, 2, none⟩ (.int .i64 t391)).setCell ⟨gb394, 3, none⟩ (.int .i64 t392)).setCell ⟨gb394, 4, none⟩ (.int .i64 t393)) w.heap.size (fun k_ => some k_ ≠ (.slice Ao15 t343.length co15 : Value).ownBlock ∧ some k_ ≠ (.slice Ao69 t373.length co69 : Value).ownBlock ∧ some k_ ≠ (.slice Ao153 t388.length co153 : Value).ownBlock) (.slice Ao62 t364.length co62) t364) := ⟨by (with_reducible repeat (first | apply Kd.S_alloc | apply Kd.S_drewN | apply Kd.S_drew)); exact Kd.S_mono (Kd.S_far (p := ⟨gb394, 4, none⟩) (Kd.S_far (p := ⟨gb394, 3, none⟩) (Kd.S_far (p := ⟨gb394, 2, none⟩) (Kd.S_far (p := ⟨gb394, 1, none⟩) (Kd.S_far (p := ⟨gb394, 0, none⟩) (Kd.S_types HO_10.out BK394.out (by decide)) FK (.int .i64 t387)) FK (.slice Ao153 t388.length co153)) FK (.int .i64 t391)) FK (.int .i64 t392)) FK (.int .i64 t393)) (fun _ hk => ⟨hk.1.1.1, ⟨hk.1.1.2, hk.1.2⟩⟩)⟩
                   have n1_ : Aside0 (Kd.R k26 26 (((((w147.setCell ⟨gb394, 0, none⟩ (.int .i64 t387)).setCell ⟨gb394, 1, none⟩ (.slice Ao153 t388.length co153)).setCell ⟨gb394, 2, none⟩ (.int .i64 t391)).setCell ⟨gb394, 3, none⟩ (.int .i64 t392)).setCell ⟨gb394, 4, none⟩ (.int .i64 t393)) w.heap.size (fun k_ => k_ ≠ gb341 ∧ k_ ≠ gb371) (.slice (some ad386) t379.length co71) t379) := ⟨by (with_reducible repeat (first | apply Kd.R_alloc | apply Kd.R_drewN | apply Kd.R_drew)); exact Kd.R_mono (Kd.R_far (p := ⟨gb394, 4, none⟩) (Kd.R_far (p := ⟨gb394, 3, none⟩) (Kd.R_far (p := ⟨gb394, 2, none⟩) (Kd.R_far (p := ⟨gb394, 1, none⟩) (Kd.R_far (p := ⟨gb394, 0, none⟩) (Kd.R_types HO_14.out BK394.out (by decide)) FK (.int .i64 t387)) FK (.slice Ao153 t388.length co153)) FK (.int .i64 t391)) FK (.int .i64 t392)) FK (.int .i64 t393)) (fun _ hk => by first | exact ⟨hk.1.1, hk.1.2⟩ | simp_all)⟩
                   have n2_ : Aside0 (Kd.R (Kd.int .i64) 3 (((((w147.setCell ⟨gb394, 0, none⟩ (.int .i64 t387)).setCell ⟨gb394, 1, none⟩ (.slice Ao153 t388.length co153)).setCell ⟨gb394, 2, none⟩ (.int .i64 t391)).setCell ⟨gb394, 3, none⟩ (.int .i64 t392)).setCell ⟨gb394, 4, none⟩ (.int .i64 t393)) w.heap.size (fun k_ => some k_ ≠ (.slice Ao69 t373.length co69 : Value).ownBlock ∧ some k_ ≠ (.slice Ao153 t388.length co153 : Value).ownBlock) (.slice Ao15 t343.length co15) t343) := ⟨by (with_reducible repeat (first | apply Kd.R_alloc | apply Kd.R_drewN | apply Kd.R_drew)); exact Kd.R_mono (Kd.R_far (p := ⟨gb394, 4, none⟩) (Kd.R_far (p := ⟨gb394, 3, none⟩) (Kd.R_far (p := ⟨gb394, 2, none⟩) (Kd.R_far (p := ⟨gb394, 1, none⟩) (Kd.R_far (p := ⟨gb394, 0, none⟩) (Kd.R_types HO_350001.out BK394.out (by decide)) FK (.int .i64 t387)) FK (.slice Ao153 t388.length co153)) FK (.int .i64 t391)) FK (.int .i64 t392)) FK (.int .i64 t393)) (fun _ hk => by first | exact ⟨hk.1.1, hk.1.2⟩ | simp_all)⟩
                   have n3_ : Aside0 (Kd.R (Kd.int .i64) 3 (((((w147.setCell ⟨gb394, 0, none⟩ (.int .i64 t387)).setCell ⟨gb394, 1, none⟩ (.slice Ao153 t388.length co153)).setCell ⟨gb394, 2, none⟩ (.int .i64 t391)).setCell ⟨gb394, 3, none⟩ (.int .i64 t392)).setCell ⟨gb394, 4, none⟩ (.int .i64 t393)) w.heap.size (fun k_ => some k_ ≠ (.slice Ao15 t343.length co15 : Value).ownBlock ∧ some k_ ≠ (.slice Ao153 t388.length co153 : Value).ownBlock) (.slice Ao69 t373.length co69) t373) := ⟨by (with_reducible repeat (first | apply Kd.R_alloc | apply Kd.R_drewN | apply Kd.R_drew)); exact Kd.R_mono (Kd.R_far (p := ⟨gb394, 4, none⟩) (Kd.R_far (p := ⟨gb394, 3, none⟩) (Kd.R_far (p := ⟨gb394, 2, none⟩) (Kd.R_far (p := ⟨gb394, 1, none⟩) (Kd.R_far (p := ⟨gb394, 0, none⟩) (Kd.R_types HO_383001.out BK394.out (by decide)) FK (.int .i64 t387)) FK (.slice Ao153 t388.length co153)) FK (.int .i64 t391)) FK (.int .i64 t392)) FK (.int .i64 t393)) (fun _ hk => by first | exact ⟨hk.1.1, hk.1.2⟩ | simp_all)⟩
                   have n4_ : Aside0 (Kd.R (Kd.int .i64) 3 (((((w147.setCell ⟨gb394, 0, none⟩ (.int .i64 t387)).setCell ⟨gb394, 1, none⟩ (.slice Ao153 t388.length co153)).setCell ⟨gb394, 2, none⟩ (.int .i64 t391)).setCell ⟨gb394, 3, none⟩ (.int .i64 t392)).setCell ⟨gb394, 4, none⟩ (.int .i64 t393)) w.heap.size (fun k_ => some k_ ≠ (.slice Ao15 t343.length co15 : Value).ownBlock ∧ some k_ ≠ (.slice Ao69 t373.length co69 : Value).ownBlock) (.slice Ao153 t388.length co153) t388) := ⟨by (with_reducible repeat (first | apply Kd.R_alloc | apply Kd.R_drewN | apply Kd.R_drew)); exact Kd.R_mono (Kd.R_far (p := ⟨gb394, 4, none⟩) (Kd.R_far (p := ⟨gb394, 3, none⟩) (Kd.R_far (p := ⟨gb394, 2, none⟩) (Kd.R_far (p := ⟨gb394, 1, none⟩) (Kd.R_far (p := ⟨gb394, 0, none⟩) (Kd.R_types HO390.out BK394.out (by decide)) FK (.int .i64 t387)) FK (.slice Ao153 t388.length co153)) FK (.int .i64 t391)) FK (.int .i64 t392)) FK (.int .i64 t393)) (fun _ hk => by first | exact ⟨hk.1.1.2, hk.1.2⟩ | simp_all)⟩
                   have n5_ : Aside0 ((((((w147.setCell ⟨gb394, 0, none⟩ (.int .i64 t387)).setCell ⟨gb394, 1, none⟩ (.slice Ao153 t388.length co153)).setCell ⟨gb394, 2, none⟩ (.int .i64 t391)).setCell ⟨gb394, 3, none⟩ (.int .i64 t392)).setCell ⟨gb394, 4, none⟩ (.int .i64 t393)).heap[gb341]? = some (.cells #[.int .i64 t337, .int .i64 t338, .int .i64 t339] 26 (0, 0))) := ⟨PF BK341⟩
                   have n6_ : Aside0 ((((((w147.setCell ⟨gb394, 0, none⟩ (.int .i64 t387)).setCell ⟨gb394, 1, none⟩ (.slice Ao153 t388.length co153)).setCell ⟨gb394, 2, none⟩ (.int .i64 t391)).setCell ⟨gb394, 3, none⟩ (.int .i64 t392)).setCell ⟨gb394, 4, none⟩ (.int .i64 t393)).heap[gb349]? = some (.cells #[.int .i64 t342, .slice Ao15 t343.length co15, .int .i64 t346, .int .i64 t347, .int .i64 t348] 31 (0, 0))) := ⟨PF BK349⟩
                   have n7_ : Aside0 ((((((w147.setCell ⟨gb394, 0, none⟩ (.int .i64 t387)).setCell ⟨gb394, 1, none⟩ (.slice Ao153 t388.length co153)).setCell ⟨gb394, 2, none⟩ (.int .i64 t391)).setCell ⟨gb394, 3, none⟩ (.int .i64 t392)).setCell ⟨gb394, 4, none⟩ (.int .i64 t393)).heap[gb371]? = some (.cells #[.int .i64 t367, .int .i64 t368, .int .i64 t369] 26 (0, 0))) := ⟨PF BK371⟩
                   have n8_ : Aside0 ((((((w147.setCell ⟨gb394, 0, none⟩ (.int .i64 t387)).setCell ⟨gb394, 1, none⟩ (.slice Ao153 t388.length co153)).setCell ⟨gb394, 2, none⟩ (.int .i64 t391)).setCell ⟨gb394, 3, none⟩ (.int .i64 t392)).setCell ⟨gb394, 4, none⟩ (.int .i64 t393)).heap[gb382]? = some (.cells #[.int .i64 t372, .slice Ao69 t373.length co69, .int .i64 t376, .int .i64 t377, .int .i64 t378] 31 (0, 0))) := ⟨PF BK382⟩
                   have n9_ : Aside0 ((((((w147.setCell ⟨gb394, 0, none⟩ (.int .i64 t387)).setCell ⟨gb394, 1, none⟩ (.slice Ao153 t388.length co153)).setCell ⟨gb394, 2, none⟩ (.int .i64 t391)).setCell ⟨gb394, 3, none⟩ (.int .i64 t392)).setCell ⟨gb394, 4, none⟩ (.int .i64 t393)).heap[gb394]? = some (.cells #[.int .i64 t387, .slice Ao153 t388.length co153, .int .i64 t391, .int .i64 t392, .int .i64 t393] 31 (0, 0))) := ⟨by (with_reducible repeat (first | refine blk_drewN ?_ _ | refine blk_drew ?_ | refine blk_alloc ?_ _)); refine blk_put (cs := #[.int .i64 t387, .slice Ao153 t388.length co153, .int .i64 t391, .int .i64 t392, .int .i64 0]) ?_ 4 _ rfl; (with_reducible repeat (first | refine blk_drewN ?_ _ | refine blk_drew ?_ | refine blk_alloc ?_ _)); refine blk_put (cs := #[.int .i64 t387, .slice Ao153 t388.length co153, .int .i64 t391, .int .i64 0, .int .i64 0]) ?_ 3 _ rfl; (with_reducible repeat (first | refine blk_drewN ?_ _ | refine blk_drew ?_ | refine blk_alloc ?_ _)); refine blk_put (cs := #[.int .i64 t387, .slice Ao153 t388.length co153, .int .i64 0, .int .i64 0, .int .i64 0]) ?_ 2 _ rfl; (with_reducible repeat (first | refine blk_drewN ?_ _ | refine blk_drew ?_ | refine blk_alloc ?_ _)); refine blk_put (cs := #[.int .i64 t387, .slice none 0 0, .int .i64 0, .int .i64 0, .int .i64 0]) ?_ 1 _ rfl; (with_reducible repeat (first | refine blk_drewN ?_ _ | refine blk_drew ?_ | refine blk_alloc ?_ _)); refine blk_put (cs := #[.int .i64 0, .slice none 0 0, .int .i64 0, .int .i64 0, .int .i64 0]) ?_ 0 _ rfl; (with_reducible repeat (first | refine blk_drewN ?_ _ | refine blk_drew ?_ | refine blk_alloc ?_ _)); exact BK394.out⟩
                   have n10_ : Aside0 (Below w.heap.size w (((((w147.setCell ⟨gb394, 0, none⟩ (.int .i64 t387)).setCell ⟨gb394, 1, none⟩ (.slice Ao153 t388.length co153)).setCell ⟨gb394, 2, none⟩ (.int .i64 t391)).setCell ⟨gb394, 3, none⟩ (.int .i64 t392)).setCell ⟨gb394, 4, none⟩ (.int .i64 t393))) := ⟨PB⟩
                   (try clear HO_10)
                   (try clear HO_14)
                   (try clear HO_350001)
                   (try clear HO_383001)
                   (try clear HO390)
                   (try clear BK341)
                   (try clear BK349)
                   (try clear BK371)
                   (try clear BK382)
                   (try clear BK394)
                   (try clear HB)
                   generalize (((((w147.setCell ⟨gb394, 0, none⟩ (.int .i64 t387)).setCell ⟨gb394, 1, none⟩ (.slice Ao153 t388.length co153)).setCell ⟨gb394, 2, none⟩ (.int .i64 t391)).setCell ⟨gb394, 3, none⟩ (.int .i64 t392)).setCell ⟨gb394, 4, none⟩ (.int .i64 t393)) = w154 at n0_ n1_ n2_ n3_ n4_ n5_ n6_ n7_ n8_ n9_ n10_ ⊢
                   have HO_10 := n0_
                   have HO_14 := n1_
                   have HO_350001 := n2_
                   have HO_383001 := n3_
                   have HO390 := n4_
                   have BK341 := n5_
                   have BK349 := n6_
                   have BK371 := n7_
                   have BK382 := n8_
                   have BK394 := n9_
                   have HB := n10_
                   clear n0_ n1_ n2_ n3_ n4_ n5_ n6_ n7_ n8_ n9_ n10_
                   have n0_ := ak (Kd.S_drew HO_10.out)
                   have n1_ := ak (Kd.R_drew HO_14.out)
                   have n2_ := ak (Kd.R_drew HO_350001.out)
                   have n3_ := ak (Kd.R_drew HO_383001.out)
                   have n4_ := ak (Kd.R_drew HO390.out)
                   have n5_ := ak (blk_drew BK341.out)
                   have n6_ := ak (blk_drew BK349.out)
                   have n7_ := ak (blk_drew BK371.out)
                   have n8_ := ak (blk_drew BK382.out)
                   have n9_ := ak (blk_drew BK394.out)
                   have n10_ := ak (below_drew1 HB.out)
                   clear HO_10
                   clear HO_14
                   clear HO_350001
                   clear HO_383001
                   clear HO390
                   clear BK341
                   clear BK349
                   clear BK371
                   clear BK382
                   clear BK394
                   clear HB
                   have HO_10 := n0_
                   have HO_14 := n1_
                   have HO_350001 := n2_
                   have HO_383001 := n3_
                   have HO390 := n4_
                   have BK341 := n5_
                   have BK349 := n6_
                   have BK371 := n7_
                   have BK382 := n8_
                   have BK394 := n9_
                   have HB := n10_
                   clear n0_ n1_ n2_ n3_ n4_ n5_ n6_ n7_ n8_ n9_ n10_
                   refine start_ (n := 33) (S := fun w' => w'.cell? ⟨gb394, 0, none⟩ = some (.int .i64 t387) ∧ w'.cell? ⟨gb394, 1, none⟩ = some (.slice Ao153 t388.length co153) ∧ w'.cell? ⟨gb394, 2, none⟩ = some (.int .i64 t391) ∧ w'.cell? ⟨gb394, 3, none⟩ = some (.int .i64 t392) ∧ w'.cell? ⟨gb394, 4, none⟩ = some (.int .i64 t393) ∧ w'.cell? ⟨gb382, 0, none⟩ = some (.int .i64 t372) ∧ w'.cell? ⟨gb382, 1, none⟩ = some (.slice Ao69 t373.length co69) ∧ w'.cell? ⟨gb382, 2, none⟩ = some (.int .i64 t376) ∧ w'.cell? ⟨gb382, 3, none⟩ = some (.int .i64 t377) ∧ w'.cell? ⟨gb382, 4, none⟩ = some (.int .i64 t378)) (ds := []) b6_98 KR rfl rfl ⟨(blk_cell BK394.out 0).trans rfl, (blk_cell BK394.out 1).trans rfl, (blk_cell BK394.out 2).trans rfl, (blk_cell BK394.out 3).trans rfl, (blk_cell BK394.out 4).trans rfl, (blk_cell BK382.out 0).trans rfl, (blk_cell BK382.out 1).trans rfl, (blk_cell BK382.out 2).trans rfl, (blk_cell BK382.out 3).trans rfl, (blk_cell BK382.out 4).trans rfl⟩ (fun hHeld => ?_); refine with_tabW laws_FnSites.tab25 laws_FnSites.bits25 (fun HT_ HW_ => ?_)
                   generalize w154.drew = w155 at HO_10 HO_14 HO_350001 HO_383001 HO390 BK341 BK349 BK371 BK382 BK394 HB hHeld ⊢
                   refine pu_ (i := 0) (N := some 117) b6_97 HT_ ?_
                   refine pu_ (i := 1) (N := some 118) b6_96 HT_ ?_
                   refine pu_ (i := 2) (N := some 119) b6_95 HT_ ?_
                   refine pu_ (i := 3) (N := some 120) b6_94 HT_ ?_
                   refine pu_ (i := 4) (N := some 121) b6_93 HT_ ?_
                   refine pu_ (i := 5) (N := some 122) b6_92 HT_ ?_
                   refine un_ (i := 6) (N := some 123) b6_91 HT_ ?_
                   refine un_ (i := 7) (N := some 124) b6_90 HT_ ?_
                   refine un_ (i := 8) (N := some 125) b6_89 HT_ ?_
                   refine un_ (i := 9) (N := some 126) b6_88 HT_ ?_
                   refine un_ (i := 10) (N := some 127) b6_87 HT_ ?_
                   refine un_ (i := 11) (N := some 128) b6_86 HT_ ?_
                   refine un_ (i := 12) (N := some 129) b6_84 HT_ ?_
                   refine un_ (i := 13) (N := some 130) b6_82 HT_ ?_
                   refine un_ (i := 14) (N := some 131) b6_80 HT_ ?_
                   refine un_ (i := 15) (N := some 132) b6_78 HT_ ?_
                   refine un_ (i := 16) (N := some 133) b6_77 HT_ ?_
                   refine un_ (i := 17) (N := some 134) b6_76 HT_ ?_
                   refine un_ (i := 18) (N := some 135) b6_75 HT_ ?_
                   refine pu_ (i := 19) (N := some 136) b6_74 HT_ ?_
                   refine pu_ (i := 20) (N := some 137) b6_73 HT_ ?_
                   refine pu_ (i := 21) (N := some 138) b6_72 HT_ ?_
                   refine pu_ (i := 22) (N := some 139) b6_71 HT_ ?_
                   refine pu_ (i := 23) (N := some 140) b6_70 HT_ ?_
                   refine pu_ (i := 24) (N := some 141) b6_69 HT_ ?_
                   refine pu_ (i := 25) (N := some 142) b6_68 HT_ ?_
                   refine pu_ (i := 26) (N := some 143) b6_67 HT_ ?_
                   refine tk_ (i := 27) (N := some 144) b6_66 rfl rfl HT_ HW_ hHeld ?_
                   refine take_ (i := 28) (N := some 145) (v := ?_) (a' := ?_) b6_65 rfl rfl (take_ofW HT_.out HW_.out KR) (fun _ _ _ h => h) (Or.inl ⟨by rfl, ?_⟩) hHeld ?_ ?_
                   rotate_left
                   ·rintro w' ⟨s0, s1, s2, s3, s4, s5, s6, s7, s8, s9⟩
                    go_simp
                    with_reducible rfl
                   rotate_left
                   ·simp only [Act.put, List.setIfInBounds_toArray, List.set_cons_zero, List.set_cons_succ, i64_w, i32_w]
                    rfl
                   refine one_ (i := 29) (N := some 146) b6_64 rfl rfl (one_of HT_.out KR) (by decide) (fun K hK => ?_)
                   refine goes_ Try.func14 KR rfl #[.agg #[.int .i64 t387, .slice Ao153 t388.length co153, .int .i64 t391, .int .i64 t392, .int .i64 t393], .agg #[.int .i64 t372, .slice Ao69 t373.length co69, .int .i64 t376, .int .i64 t377, .int .i64 t378]] (by rfl) rfl rfl AR ?_
                   with_reducible refine (impl_EqualResources.calls k4 t387 _ _ t388 t391 t392 t393 t372 _ _ t373 t376 t377 t378 true _ ?side1 ?side2 ?side3 ?side4 A144.out).mono ?_
                   (case side1 => exact CR ((Kd.R_reads' HO390.out).2.2))
                   (case side2 => exact (Kd.R_reads' HO390.out).2.1)
                   (case side3 => exact CR ((Kd.R_reads' HO_383001.out).2.2))
                   (case side4 => exact (Kd.R_reads' HO_383001.out).2.1)
                   rintro e w156 ⟨rfl, hb⟩
                   refine ⟨_, rfl, ?_⟩
                   have n0_ := ak (Kd.S_below (PS HO_10) hb)
                   have n1_ := ak (Kd.R_below (PR HO_14) hb)
                   have n2_ := ak (Kd.R_below (PR HO_350001) hb)
                   have n3_ := ak (Kd.R_below (PR HO_383001) hb)
                   have n4_ := ak (Kd.R_below (PR HO390) hb)
                   have n5_ := ak (kb BK341 hb)
                   have n6_ := ak (kb BK349 hb)
                   have n7_ := ak (kb BK371 hb)
                   have n8_ := ak (kb BK382 hb)
                   have n9_ := ak (kb BK394 hb)
                   have n10_ := ak (below_step PB hb)
                   clear HO_10
                   clear HO_14
                   clear HO_350001
                   clear HO_383001
                   clear HO390
                   clear BK341
                   clear BK349
                   clear BK371
                   clear BK382
                   clear BK394
                   clear HB
                   have HO_10 := n0_
                   have HO_14 := n1_
                   have HO_350001 := n2_
                   have HO_383001 := n3_
                   have HO390 := n4_
                   have BK341 := n5_
                   have BK349 := n6_
                   have BK371 := n7_
                   have BK382 := n8_
                   have BK394 := n9_
                   have HB := n10_
                   clear n0_ n1_ n2_ n3_ n4_ n5_ n6_ n7_ n8_ n9_ n10_
                   (try clear hb)
                   (try clear hb2)
                   (try clear hk)
                   (try clear hi)
                   refine hK.out _ _ ⟨(blk_cell BK394.out 0).trans rfl, (blk_cell BK394.out 1).trans rfl, (blk_cell BK394.out 2).trans rfl, (blk_cell BK394.out 3).trans rfl, (blk_cell BK394.out 4).trans rfl, (blk_cell BK382.out 0).trans rfl, (blk_cell BK382.out 1).trans rfl, (blk_cell BK382.out 2).trans rfl, (blk_cell BK382.out 3).trans rfl, (blk_cell BK382.out 4).trans rfl⟩ (fun hHeld => ?_)
                   clear hK K
                   refine norm_ (a' := ?_) ?_ ?_
                   rotate_left
                   ·show Act.put _ (some 146) _ = _
                    simp only [Act.put, List.setIfInBounds_toArray, List.set_cons_zero, List.set_cons_succ, i64_w, i32_w]
                    rfl
                   refine pu_ (i := 30) (N := some 147) b6_63 HT_ ?_
                   refine pu_ (i := 31) (N := some 148) b6_62 HT_ ?_
                   refine pu_ (i := 32) (N := some 149) b6_61 HT_ ?_
                   refine done_ (done_of HT_.out KR) ?_
                   try go_wp2
                   go_roundg k4
                   case measure => have := HK1.out; have := HJ22.out; have := HK3.out; have := HK4.out; omega
                   case rel => exact ⟨(wrap64 (x15_3 + 1)), (by first | rfl | (simp; done) | (simp [*]; done)), H', ⟨by have := HK1.out; have := HJ22.out; have := HK3.out; have := HK4.out; omega⟩, ⟨by (with_reducible repeat (first | apply Kd.S_alloc | apply Kd.S_drewN | apply Kd.S_drew)); exact Kd.S_mono HO_10.out (fun _ hk => by first | exact ⟨hk.1, hk.2.1⟩ | simp_all)⟩, ⟨PR HO_14⟩, ⟨by (with_reducible repeat (first | apply Kd.R_alloc | apply Kd.R_drewN | apply Kd.R_drew)); exact Kd.R_mono HO_350001.out (fun _ hk => by first | exact hk.1 | simp_all)⟩, ⟨by (with_reducible repeat (first | apply Kd.R_alloc | apply Kd.R_drewN | apply Kd.R_drew)); exact Kd.R_mono HO_383001.out (fun _ hk => by first | exact hk.1 | simp_all)⟩, ⟨PK BK341⟩, ⟨PK BK349⟩, ⟨PK BK371⟩, ⟨PK BK382⟩, ⟨PB⟩⟩
                  ·replace c145 := Bool.eq_false_iff.mpr c145
                   subst c145
                   have H1 : (some false) = some r := by rw [if_neg (show ¬ (false = true) by decide)] at H; exact H
                   clear H
                   have H := H1
                   clear H1
                   cases (Option.some.inj H).trans hT_
                 ·rw [if_neg c143] at H
                  have c143b0 : ((wrap64 (x15_3 + 1)) == (t379.length : Int)) = false := beq_eq_false_iff_ne.mpr c143
                  have c143b1 : ((wrap64 (x15_3 + 1)) != (t379.length : Int)) = true := bne_iff_ne.mpr c143
                  have H' := Aside0.mk H
                  clear H
                  have p386 : 0 ≤ (x15_3 : Int) := of_decide_eq_true (by first | (with_reducible assumption) | assumption)
                  have q386 : x15_3 < (t379.length : Int) := of_decide_eq_true (by first | (with_reducible assumption) | assumption)
                  obtain ⟨ad386, e386, hx386_0, hx386_1, hx386_2⟩ := at_T26 (Kd.R_reads' HO_14.out).2.2 x15_3 p386 q386
                  cases e386
                  replace p386 := eq_true p386
                  replace q386 := eq_true q386
                  try go_wp2_with (first | ((with_reducible refine gate_callee (f := 12) rfl ?_); refine goesL_ (some 116) rfl rfl Try.func12 KR rfl #[.slice Ao62 t364.length co62, .agg #[.int .i64 ((rd_T26 t379 x15_3).f0), .int .i64 ((rd_T26 t379 x15_3).f1), .int .i64 ((rd_T26 t379 x15_3).f2)], .int .i64 t370] rfl AR ?_; (with_reducible refine (impl_AnswerAt.calls k4 _ _ t364 ((rd_T26 t379 x15_3).f0) ((rd_T26 t379 x15_3).f1) ((rd_T26 t379 x15_3).f2) t370 t387 t388 t391 t392 t393 _ ?side1 ?side2 A82.out).mono ?_); (case side1 => exact CR ((Kd.S_reads' HO_10.out).2.2)); (case side2 => exact (Kd.S_reads' HO_10.out).2.1); rintro e w168 ⟨v389, rfl, ho0, hb⟩; refine ⟨_, rfl, ?_⟩; have n0_ := ak (Kd.S_elder' (PS HO_10) (Kd.R_base ho0) hb); have n1_ := ak (Kd.R_below (PR HO_14) hb); have n2_ := ak (Kd.R_elder' (PR HO_350001) (Kd.R_base ho0) hb); have n3_ := ak (Kd.R_elder' (PR HO_383001) (Kd.R_base ho0) hb); have n4_ := ak (Kd.R_lower (Kd.R_new' (Kd.R_new' ho0 (Kd.R_lt (PR HO_350001))) (Kd.R_lt (PR HO_383001))) (below_size PB)); have n5_ := ak (kb BK341 hb); have n6_ := ak (kb BK349 hb); have n7_ := ak (kb BK371 hb); have n8_ := ak (kb BK382 hb); have n9_ := ak (below_step PB hb); clear HO_10 HO_14 HO_350001 HO_383001 BK341 BK349 BK371 BK382 HB; have HO_10 := n0_; have HO_14 := n1_; have HO_350001 := n2_; have HO_383001 := n3_; have HO390 := n4_; have BK341 := n5_; have BK349 := n6_; have BK371 := n7_; have BK382 := n8_; have HB := n9_; clear n0_ n1_ n2_ n3_ n4_ n5_ n6_ n7_ n8_ n9_; (try clear hb); (try clear hb2); (try clear hk); (try clear hi); (try clear ho0)) | ((with_reducible refine gate_dst (N := 17) rfl ?_); (try (refine gate_guard (by rfl) ?_; dsimp only)); refine bx_ (N := 17) #[.int .i64 0, .slice none 0 0, .int .i64 0, .int .i64 0, .int .i64 0] 31 ?_; intro gb394 hg w169 hbox hb; have n0_ := ak (Kd.S_below (PS HO_10) hb); have n1_ := ak (Kd.R_below (PR HO_14) hb); have n2_ := ak (Kd.R_below (PR HO_350001) hb); have n3_ := ak (Kd.R_below (PR HO_383001) hb); have n4_ := ak (Kd.R_below (PR HO390) hb); have n5_ := ak (kb BK341 hb); have n6_ := ak (kb BK349 hb); have n7_ := ak (kb BK371 hb); have n8_ := ak (kb BK382 hb); have n9_ := ak (below_step PB hb); have n10_ := ak (hbox); have n11_ := ak ((gz hg PB : w.heap.size ≤ gb394)); have n12_ := ak ((gz hg PB : w.heap.size ≤ gb394)); have n13_ := ak ((gl hg BK341 : gb341 ≠ gb394)); have n14_ := ak (((gl hg BK341).symm : gb394 ≠ gb341)); have n15_ := ak ((gl hg BK349 : gb349 ≠ gb394)); have n16_ := ak (((gl hg BK349).symm : gb394 ≠ gb349)); have n17_ := ak ((gl hg BK371 : gb371 ≠ gb394)); have n18_ := ak (((gl hg BK371).symm : gb394 ≠ gb371)); have n19_ := ak ((gl hg BK382 : gb382 ≠ gb394)); have n20_ := ak (((gl hg BK382).symm : gb394 ≠ gb382)); clear HO_10 HO_14 HO_350001 HO_383001 HO390 BK341 BK349 BK371 BK382 HB; have HO_10 := n0_; have HO_14 := n1_; have HO_350001 := n2_; have HO_383001 := n3_; have HO390 := n4_; have BK341 := n5_; have BK349 := n6_; have BK371 := n7_; have BK382 := n8_; have HB := n9_; have BK394 := n10_; have GW394 := n11_; have GE394 := n12_; have NB341_394 := n13_; have NB394_341 := n14_; have NB349_394 := n15_; have NB394_349 := n16_; have NB371_394 := n17_; have NB394_371 := n18_; have NB382_394 := n19_; have NB394_382 := n20_; clear n0_ n1_ n2_ n3_ n4_ n5_ n6_ n7_ n8_ n9_ n10_ n11_ n12_ n13_ n14_ n15_ n16_ n17_ n18_ n19_ n20_; clear hb hbox hg; have hnb170 := NB394_341.out; have hnc170 := NB341_394.out; have hnb171 := NB394_349.out; have hnc171 := NB349_394.out; have hnb172 := NB394_371.out; have hnc172 := NB371_394.out; have hnb173 := NB394_382.out; have hnc173 := NB382_394.out; have hcz174_0 : w169.cell? ⟨gb394, 0, none⟩ = some (.int .i64 0) := (blk_cell BK394.out 0).trans rfl; have hcz174_1 : w169.cell? ⟨gb394, 1, none⟩ = some (.slice none 0 0) := (blk_cell BK394.out 1).trans rfl; have hcz174_2 : w169.cell? ⟨gb394, 2, none⟩ = some (.int .i64 0) := (blk_cell BK394.out 2).trans rfl; have hcz174_3 : w169.cell? ⟨gb394, 3, none⟩ = some (.int .i64 0) := (blk_cell BK394.out 3).trans rfl; have hcz174_4 : w169.cell? ⟨gb394, 4, none⟩ = some (.int .i64 0) := (blk_cell BK394.out 4).trans rfl; have hfz174_0 := blk_frozen BK394.out 0; have hfz174_1 := blk_frozen BK394.out 1; have hfz174_2 := blk_frozen BK394.out 2; have hfz174_3 := blk_frozen BK394.out 3; have hfz174_4 := blk_frozen BK394.out 4; obtain ⟨Ao175, co175, eo175⟩ := Kd.R_slice HO390.out; subst eo175))
                  have n0_ : Aside0 (Kd.S k98 98 (((((w169.setCell ⟨gb394, 0, none⟩ (.int .i64 t387)).setCell ⟨gb394, 1, none⟩ (.slice Ao175 t388.length co175)).setCell ⟨gb394, 2, none⟩ (.int .i64 t391)).setCell ⟨gb394, 3, none⟩ (.int .i64 t392)).setCell ⟨gb394, 4, none⟩ (.int .i64 t393)) w.heap.size (fun k_ => some k_ ≠ (.slice Ao15 t343.length co15 : Value).ownBlock ∧ some k_ ≠ (.slice Ao69 t373.length co69 : Value).ownBlock ∧ some k_ ≠ (.slice Ao175 t388.length co175 : Value).ownBlock) (.slice Ao62 t364.length co62) t364) := ⟨by (with_reducible repeat (first | apply Kd.S_alloc | apply Kd.S_drewN | apply Kd.S_drew)); exact Kd.S_mono (Kd.S_far (p := ⟨gb394, 4, none⟩) (Kd.S_far (p := ⟨gb394, 3, none⟩) (Kd.S_far (p := ⟨gb394, 2, none⟩) (Kd.S_far (p := ⟨gb394, 1, none⟩) (Kd.S_far (p := ⟨gb394, 0, none⟩) (Kd.S_types HO_10.out BK394.out (by decide)) FK (.int .i64 t387)) FK (.slice Ao175 t388.length co175)) FK (.int .i64 t391)) FK (.int .i64 t392)) FK (.int .i64 t393)) (fun _ hk => ⟨hk.1.1.1, ⟨hk.1.1.2, hk.1.2⟩⟩)⟩
                  have n1_ : Aside0 (Kd.R k26 26 (((((w169.setCell ⟨gb394, 0, none⟩ (.int .i64 t387)).setCell ⟨gb394, 1, none⟩ (.slice Ao175 t388.length co175)).setCell ⟨gb394, 2, none⟩ (.int .i64 t391)).setCell ⟨gb394, 3, none⟩ (.int .i64 t392)).setCell ⟨gb394, 4, none⟩ (.int .i64 t393)) w.heap.size (fun k_ => k_ ≠ gb341 ∧ k_ ≠ gb371) (.slice (some ad386) t379.length co71) t379) := ⟨by (with_reducible repeat (first | apply Kd.R_alloc | apply Kd.R_drewN | apply Kd.R_drew)); exact Kd.R_mono (Kd.R_far (p := ⟨gb394, 4, none⟩) (Kd.R_far (p := ⟨gb394, 3, none⟩) (Kd.R_far (p := ⟨gb394, 2, none⟩) (Kd.R_far (p := ⟨gb394, 1, none⟩) (Kd.R_far (p := ⟨gb394, 0, none⟩) (Kd.R_types HO_14.out BK394.out (by decide)) FK (.int .i64 t387)) FK (.slice Ao175 t388.length co175)) FK (.int .i64 t391)) FK (.int .i64 t392)) FK (.int .i64 t393)) (fun _ hk => by first | exact ⟨hk.1.1, hk.1.2⟩ | simp_all)⟩
                  have n2_ : Aside0 (Kd.R (Kd.int .i64) 3 (((((w169.setCell ⟨gb394, 0, none⟩ (.int .i64 t387)).setCell ⟨gb394, 1, none⟩ (.slice Ao175 t388.length co175)).setCell ⟨gb394, 2, none⟩ (.int .i64 t391)).setCell ⟨gb394, 3, none⟩ (.int .i64 t392)).setCell ⟨gb394, 4, none⟩ (.int .i64 t393)) w.heap.size (fun k_ => some k_ ≠ (.slice Ao69 t373.length co69 : Value).ownBlock ∧ some k_ ≠ (.slice Ao175 t388.length co175 : Value).ownBlock) (.slice Ao15 t343.length co15) t343) := ⟨by (with_reducible repeat (first | apply Kd.R_alloc | apply Kd.R_drewN | apply Kd.R_drew)); exact Kd.R_mono (Kd.R_far (p := ⟨gb394, 4, none⟩) (Kd.R_far (p := ⟨gb394, 3, none⟩) (Kd.R_far (p := ⟨gb394, 2, none⟩) (Kd.R_far (p := ⟨gb394, 1, none⟩) (Kd.R_far (p := ⟨gb394, 0, none⟩) (Kd.R_types HO_350001.out BK394.out (by decide)) FK (.int .i64 t387)) FK (.slice Ao175 t388.length co175)) FK (.int .i64 t391)) FK (.int .i64 t392)) FK (.int .i64 t393)) (fun _ hk => by first | exact ⟨hk.1.1, hk.1.2⟩ | simp_all)⟩
                  have n3_ : Aside0 (Kd.R (Kd.int .i64) 3 (((((w169.setCell ⟨gb394, 0, none⟩ (.int .i64 t387)).setCell ⟨gb394, 1, none⟩ (.slice Ao175 t388.length co175)).setCell ⟨gb394, 2, none⟩ (.int .i64 t391)).setCell ⟨gb394, 3, none⟩ (.int .i64 t392)).setCell ⟨gb394, 4, none⟩ (.int .i64 t393)) w.heap.size (fun k_ => some k_ ≠ (.slice Ao15 t343.length co15 : Value).ownBlock ∧ some k_ ≠ (.slice Ao175 t388.length co175 : Value).ownBlock) (.slice Ao69 t373.length co69) t373) := ⟨by (with_reducible repeat (first | apply Kd.R_alloc | apply Kd.R_drewN | apply Kd.R_drew)); exact Kd.R_mono (Kd.R_far (p := ⟨gb394, 4, none⟩) (Kd.R_far (p := ⟨gb394, 3, none⟩) (Kd.R_far (p := ⟨gb394, 2, none⟩) (Kd.R_far (p := ⟨gb394, 1, none⟩) (Kd.R_far (p := ⟨gb394, 0, none⟩) (Kd.R_types HO_383001.out BK394.out (by decide)) FK (.int .i64 t387)) FK (.slice Ao175 t388.length co175)) FK (.int .i64 t391)) FK (.int .i64 t392)) FK (.int .i64 t393)) (fun _ hk => by first | exact ⟨hk.1.1, hk.1.2⟩ | simp_all)⟩
                  have n4_ : Aside0 (Kd.R (Kd.int .i64) 3 (((((w169.setCell ⟨gb394, 0, none⟩ (.int .i64 t387)).setCell ⟨gb394, 1, none⟩ (.slice Ao175 t388.length co175)).setCell ⟨gb394, 2, none⟩ (.int .i64 t391)).setCell ⟨gb394, 3, none⟩ (.int .i64 t392)).setCell ⟨gb394, 4, none⟩ (.int .i64 t393)) w.heap.size (fun k_ => some k_ ≠ (.slice Ao15 t343.length co15 : Value).ownBlock ∧ some k_ ≠ (.slice Ao69 t373.length co69 : Value).ownBlock) (.slice Ao175 t388.length co175) t388) := ⟨by (with_reducible repeat (first | apply Kd.R_alloc | apply Kd.R_drewN | apply Kd.R_drew)); exact Kd.R_mono (Kd.R_far (p := ⟨gb394, 4, none⟩) (Kd.R_far (p := ⟨gb394, 3, none⟩) (Kd.R_far (p := ⟨gb394, 2, none⟩) (Kd.R_far (p := ⟨gb394, 1, none⟩) (Kd.R_far (p := ⟨gb394, 0, none⟩) (Kd.R_types HO390.out BK394.out (by decide)) FK (.int .i64 t387)) FK (.slice Ao175 t388.length co175)) FK (.int .i64 t391)) FK (.int .i64 t392)) FK (.int .i64 t393)) (fun _ hk => by first | exact ⟨hk.1.1.2, hk.1.2⟩ | simp_all)⟩
                  have n5_ : Aside0 ((((((w169.setCell ⟨gb394, 0, none⟩ (.int .i64 t387)).setCell ⟨gb394, 1, none⟩ (.slice Ao175 t388.length co175)).setCell ⟨gb394, 2, none⟩ (.int .i64 t391)).setCell ⟨gb394, 3, none⟩ (.int .i64 t392)).setCell ⟨gb394, 4, none⟩ (.int .i64 t393)).heap[gb341]? = some (.cells #[.int .i64 t337, .int .i64 t338, .int .i64 t339] 26 (0, 0))) := ⟨PF BK341⟩
                  have n6_ : Aside0 ((((((w169.setCell ⟨gb394, 0, none⟩ (.int .i64 t387)).setCell ⟨gb394, 1, none⟩ (.slice Ao175 t388.length co175)).setCell ⟨gb394, 2, none⟩ (.int .i64 t391)).setCell ⟨gb394, 3, none⟩ (.int .i64 t392)).setCell ⟨gb394, 4, none⟩ (.int .i64 t393)).heap[gb349]? = some (.cells #[.int .i64 t342, .slice Ao15 t343.length co15, .int .i64 t346, .int .i64 t347, .int .i64 t348] 31 (0, 0))) := ⟨PF BK349⟩
                  have n7_ : Aside0 ((((((w169.setCell ⟨gb394, 0, none⟩ (.int .i64 t387)).setCell ⟨gb394, 1, none⟩ (.slice Ao175 t388.length co175)).setCell ⟨gb394, 2, none⟩ (.int .i64 t391)).setCell ⟨gb394, 3, none⟩ (.int .i64 t392)).setCell ⟨gb394, 4, none⟩ (.int .i64 t393)).heap[gb371]? = some (.cells #[.int .i64 t367, .int .i64 t368, .int .i64 t369] 26 (0, 0))) := ⟨PF BK371⟩
                  have n8_ : Aside0 ((((((w169.setCell ⟨gb394, 0, none⟩ (.int .i64 t387)).setCell ⟨gb394, 1, none⟩ (.slice Ao175 t388.length co175)).setCell ⟨gb394, 2, none⟩ (.int .i64 t391)).setCell ⟨gb394, 3, none⟩ (.int .i64 t392)).setCell ⟨gb394, 4, none⟩ (.int .i64 t393)).heap[gb382]? = some (.cells #[.int .i64 t372, .slice Ao69 t373.length co69, .int .i64 t376, .int .i64 t377, .int .i64 t378] 31 (0, 0))) := ⟨PF BK382⟩
                  have n9_ : Aside0 ((((((w169.setCell ⟨gb394, 0, none⟩ (.int .i64 t387)).setCell ⟨gb394, 1, none⟩ (.slice Ao175 t388.length co175)).setCell ⟨gb394, 2, none⟩ (.int .i64 t391)).setCell ⟨gb394, 3, none⟩ (.int .i64 t392)).setCell ⟨gb394, 4, none⟩ (.int .i64 t393)).heap[gb394]? = some (.cells #[.int .i64 t387, .slice Ao175 t388.length co175, .int .i64 t391, .int .i64 t392, .int .i64 t393] 31 (0, 0))) := ⟨by (with_reducible repeat (first | refine blk_drewN ?_ _ | refine blk_drew ?_ | refine blk_alloc ?_ _)); refine blk_put (cs := #[.int .i64 t387, .slice Ao175 t388.length co175, .int .i64 t391, .int .i64 t392, .int .i64 0]) ?_ 4 _ rfl; (with_reducible repeat (first | refine blk_drewN ?_ _ | refine blk_drew ?_ | refine blk_alloc ?_ _)); refine blk_put (cs := #[.int .i64 t387, .slice Ao175 t388.length co175, .int .i64 t391, .int .i64 0, .int .i64 0]) ?_ 3 _ rfl; (with_reducible repeat (first | refine blk_drewN ?_ _ | refine blk_drew ?_ | refine blk_alloc ?_ _)); refine blk_put (cs := #[.int .i64 t387, .slice Ao175 t388.length co175, .int .i64 0, .int .i64 0, .int .i64 0]) ?_ 2 _ rfl; (with_reducible repeat (first | refine blk_drewN ?_ _ | refine blk_drew ?_ | refine blk_alloc ?_ _)); refine blk_put (cs := #[.int .i64 t387, .slice none 0 0, .int .i64 0, .int .i64 0, .int .i64 0]) ?_ 1 _ rfl; (with_reducible repeat (first | refine blk_drewN ?_ _ | refine blk_drew ?_ | refine blk_alloc ?_ _)); refine blk_put (cs := #[.int .i64 0, .slice none 0 0, .int .i64 0, .int .i64 0, .int .i64 0]) ?_ 0 _ rfl; (with_reducible repeat (first | refine blk_drewN ?_ _ | refine blk_drew ?_ | refine blk_alloc ?_ _)); exact BK394.out⟩
                  have n10_ : Aside0 (Below w.heap.size w (((((w169.setCell ⟨gb394, 0, none⟩ (.int .i64 t387)).setCell ⟨gb394, 1, none⟩ (.slice Ao175 t388.length co175)).setCell ⟨gb394, 2, none⟩ (.int .i64 t391)).setCell ⟨gb394, 3, none⟩ (.int .i64 t392)).setCell ⟨gb394, 4, none⟩ (.int .i64 t393))) := ⟨PB⟩
                  (try clear HO_10)
                  (try clear HO_14)
                  (try clear HO_350001)
                  (try clear HO_383001)
                  (try clear HO390)
                  (try clear BK341)
                  (try clear BK349)
                  (try clear BK371)
                  (try clear BK382)
                  (try clear BK394)
                  (try clear HB)
                  generalize (((((w169.setCell ⟨gb394, 0, none⟩ (.int .i64 t387)).setCell ⟨gb394, 1, none⟩ (.slice Ao175 t388.length co175)).setCell ⟨gb394, 2, none⟩ (.int .i64 t391)).setCell ⟨gb394, 3, none⟩ (.int .i64 t392)).setCell ⟨gb394, 4, none⟩ (.int .i64 t393)) = w176 at n0_ n1_ n2_ n3_ n4_ n5_ n6_ n7_ n8_ n9_ n10_ ⊢
                  have HO_10 := n0_
                  have HO_14 := n1_
                  have HO_350001 := n2_
                  have HO_383001 := n3_
                  have HO390 := n4_
                  have BK341 := n5_
                  have BK349 := n6_
                  have BK371 := n7_
                  have BK382 := n8_
                  have BK394 := n9_
                  have HB := n10_
                  clear n0_ n1_ n2_ n3_ n4_ n5_ n6_ n7_ n8_ n9_ n10_
                  have n0_ := ak (Kd.S_drew HO_10.out)
                  have n1_ := ak (Kd.R_drew HO_14.out)
                  have n2_ := ak (Kd.R_drew HO_350001.out)
                  have n3_ := ak (Kd.R_drew HO_383001.out)
                  have n4_ := ak (Kd.R_drew HO390.out)
                  have n5_ := ak (blk_drew BK341.out)
                  have n6_ := ak (blk_drew BK349.out)
                  have n7_ := ak (blk_drew BK371.out)
                  have n8_ := ak (blk_drew BK382.out)
                  have n9_ := ak (blk_drew BK394.out)
                  have n10_ := ak (below_drew1 HB.out)
                  clear HO_10
                  clear HO_14
                  clear HO_350001
                  clear HO_383001
                  clear HO390
                  clear BK341
                  clear BK349
                  clear BK371
                  clear BK382
                  clear BK394
                  clear HB
                  have HO_10 := n0_
                  have HO_14 := n1_
                  have HO_350001 := n2_
                  have HO_383001 := n3_
                  have HO390 := n4_
                  have BK341 := n5_
                  have BK349 := n6_
                  have BK371 := n7_
                  have BK382 := n8_
                  have BK394 := n9_
                  have HB := n10_
                  clear n0_ n1_ n2_ n3_ n4_ n5_ n6_ n7_ n8_ n9_ n10_
                  refine start_ (n := 33) (S := fun w' => True) (ds := []) b6_98 KR rfl rfl trivial (fun hHeld => ?_); refine with_tabW laws_FnSites.tab25 laws_FnSites.bits25 (fun HT_ HW_ => ?_)
                  generalize w176.drew = w177 at HO_10 HO_14 HO_350001 HO_383001 HO390 BK341 BK349 BK371 BK382 BK394 HB hHeld ⊢
                  refine pu_ (i := 0) (N := some 117) b6_97 HT_ ?_
                  refine pu_ (i := 1) (N := some 118) b6_96 HT_ ?_
                  refine pu_ (i := 2) (N := some 119) b6_95 HT_ ?_
                  refine pu_ (i := 3) (N := some 120) b6_94 HT_ ?_
                  refine pu_ (i := 4) (N := some 121) b6_93 HT_ ?_
                  refine pu_ (i := 5) (N := some 122) b6_92 HT_ ?_
                  refine un_ (i := 6) (N := some 123) b6_91 HT_ ?_
                  refine un_ (i := 7) (N := some 124) b6_90 HT_ ?_
                  refine un_ (i := 8) (N := some 125) b6_89 HT_ ?_
                  refine un_ (i := 9) (N := some 126) b6_88 HT_ ?_
                  refine un_ (i := 10) (N := some 127) b6_87 HT_ ?_
                  refine un_ (i := 11) (N := some 128) b6_86 HT_ ?_
                  refine un_ (i := 12) (N := some 129) b6_84 HT_ ?_
                  refine un_ (i := 13) (N := some 130) b6_82 HT_ ?_
                  refine un_ (i := 14) (N := some 131) b6_80 HT_ ?_
                  refine un_ (i := 15) (N := some 132) b6_78 HT_ ?_
                  refine un_ (i := 16) (N := some 133) b6_77 HT_ ?_
                  refine un_ (i := 17) (N := some 134) b6_76 HT_ ?_
                  refine un_ (i := 18) (N := some 135) b6_75 HT_ ?_
                  refine pu_ (i := 19) (N := some 136) b6_74 HT_ ?_
                  refine pu_ (i := 20) (N := some 137) b6_73 HT_ ?_
                  refine pu_ (i := 21) (N := some 138) b6_72 HT_ ?_
                  refine pu_ (i := 22) (N := some 139) b6_71 HT_ ?_
                  refine pu_ (i := 23) (N := some 140) b6_70 HT_ ?_
                  refine pu_ (i := 24) (N := some 141) b6_69 HT_ ?_
                  refine pu_ (i := 25) (N := some 142) b6_68 HT_ ?_
                  refine pu_ (i := 26) (N := some 143) b6_67 HT_ ?_
                  refine un_ (i := 27) (N := some 144) b6_66 HT_ ?_
                  refine un_ (i := 28) (N := some 145) b6_65 HT_ ?_
                  refine un_ (i := 29) (N := some 146) b6_64 HT_ ?_
                  refine un_ (i := 30) (N := some 147) b6_63 HT_ ?_
                  refine pu_ (i := 31) (N := some 148) b6_62 HT_ ?_
                  refine pu_ (i := 32) (N := some 149) b6_61 HT_ ?_
                  refine done_ (done_of HT_.out KR) ?_
                  try go_wp2
                  go_roundg k4
                  case measure => have := HK1.out; have := HJ22.out; have := HK3.out; have := HK4.out; omega
                  case rel => exact ⟨(wrap64 (x15_3 + 1)), (by first | rfl | (simp; done) | (simp [*]; done)), H', ⟨by have := HK1.out; have := HJ22.out; have := HK3.out; have := HK4.out; omega⟩, ⟨by (with_reducible repeat (first | apply Kd.S_alloc | apply Kd.S_drewN | apply Kd.S_drew)); exact Kd.S_mono HO_10.out (fun _ hk => by first | exact ⟨hk.1, hk.2.1⟩ | simp_all)⟩, ⟨PR HO_14⟩, ⟨by (with_reducible repeat (first | apply Kd.R_alloc | apply Kd.R_drewN | apply Kd.R_drew)); exact Kd.R_mono HO_350001.out (fun _ hk => by first | exact hk.1 | simp_all)⟩, ⟨by (with_reducible repeat (first | apply Kd.R_alloc | apply Kd.R_drewN | apply Kd.R_drew)); exact Kd.R_mono HO_383001.out (fun _ hk => by first | exact hk.1 | simp_all)⟩, ⟨PK BK341⟩, ⟨PK BK349⟩, ⟨PK BK371⟩, ⟨PK BK382⟩, ⟨PB⟩⟩
               ·rw [if_neg c81] at H
                exact absurd H (by simp)
              ·rw [if_neg c80] at H
               exact absurd H (by simp)
          ·rw [if_neg c70] at H
           have c70b0 : decide (x15_3 < (t379.length : Int)) = false := decide_eq_false c70
           clear c70
           by_cases c178 : (t379.length : Int) ≥ 1
           ·rw [if_pos c178] at H
            have c178b0 : decide (1 ≤ (t379.length : Int)) = true := decide_eq_true c178
            have c178b1 : decide (1 ≤ t379.length) = true := decide_eq_true (by omega)
            clear c178
            by_cases c179 : (t379.length : Int) ≤ 5
            ·rw [if_pos c179] at H
             have c179b0 : decide ((t379.length : Int) ≤ 5) = true := decide_eq_true c179
             have c179b1 : decide (t379.length ≤ 5) = true := decide_eq_true (by omega)
             clear c179
             by_cases c180 : 0 < (t379.length : Int)
             ·rw [if_pos c180] at H
              have c180b0 : decide (0 < (t379.length : Int)) = true := decide_eq_true c180
              have c180b1 : decide (0 < t379.length) = true := decide_eq_true (by omega)
              clear c180
              obtain rfl := Option.some.inj H
              obtain ⟨Ao181, co181, eo181⟩ := Kd.R_slice HO_14.out
              subst eo181
              try go_wp2
              have n0_ := ak (Kd.S_drew HO_10.out)
              have n1_ := ak (Kd.R_drew HO_14.out)
              have n2_ := ak (Kd.R_drew HO_350001.out)
              have n3_ := ak (Kd.R_drew HO_383001.out)
              have n4_ := ak (blk_drew BK341.out)
              have n5_ := ak (blk_drew BK349.out)
              have n6_ := ak (blk_drew BK371.out)
              have n7_ := ak (blk_drew BK382.out)
              have n8_ := ak (below_drew1 HB.out)
              clear HO_10
              clear HO_14
              clear HO_350001
              clear HO_383001
              clear BK341
              clear BK349
              clear BK371
              clear BK382
              clear HB
              have HO_10 := n0_
              have HO_14 := n1_
              have HO_350001 := n2_
              have HO_383001 := n3_
              have BK341 := n4_
              have BK349 := n5_
              have BK371 := n6_
              have BK382 := n7_
              have HB := n8_
              clear n0_ n1_ n2_ n3_ n4_ n5_ n6_ n7_ n8_
              have p383 : 0 ≤ (0 : Int) := (by omega)
              have q383 : 0 < (t379.length : Int) := of_decide_eq_true (by first | (with_reducible assumption) | assumption)
              obtain ⟨ad383, e383, hx383_0, hx383_1, hx383_2⟩ := at_T26 (Kd.R_reads' HO_14.out).2.2 0 p383 q383
              cases e383
              have qi383 : (0 < t379.length) = True := eq_true (by omega)
              (try rw [show ((0 : Int)).toNat = 0 from rfl] at hx383_0)
              (try rw [show 0 * 3 = 0 from rfl] at hx383_0)
              (try rw [Addr.add_zero'] at hx383_0)
              (try rw [show ((0 : Int)).toNat = 0 from rfl] at hx383_1)
              (try rw [show 0 * 3 = 0 from rfl] at hx383_1)
              (try rw [Addr.add_zero'] at hx383_1)
              (try rw [show ((0 : Int)).toNat = 0 from rfl] at hx383_2)
              (try rw [show 0 * 3 = 0 from rfl] at hx383_2)
              (try rw [Addr.add_zero'] at hx383_2)
              replace p383 := eq_true p383
              replace q383 := eq_true q383
              refine start_ (n := 16) (S := fun w' => w'.cell? ⟨gb371, 0, none⟩ = some (.int .i64 t367) ∧ w'.cell? ⟨gb371, 1, none⟩ = some (.int .i64 t368) ∧ w'.cell? ⟨gb371, 2, none⟩ = some (.int .i64 t369) ∧ w'.cell? ad383 = some (.int .i64 ((rd_T26 t379 0).f0)) ∧ w'.cell? ⟨ad383.block, ad383.off + 1, none⟩ = some (.int .i64 ((rd_T26 t379 0).f1)) ∧ w'.cell? ⟨ad383.block, ad383.off + 2, none⟩ = some (.int .i64 ((rd_T26 t379 0).f2))) (ds := []) #[false, false, false, false, false, false, false, false, false, false, false, false, false, false, false, false] KR rfl rfl ⟨(blk_cell BK371.out 0).trans rfl, (blk_cell BK371.out 1).trans rfl, (blk_cell BK371.out 2).trans rfl, hx383_0, hx383_1, hx383_2⟩ (fun hHeld => ?_); refine with_tabW laws_FnSites.tab27 laws_FnSites.bits27 (fun HT_ HW_ => ?_)
              generalize wr.drew = w182 at HO_10 HO_14 HO_350001 HO_383001 BK341 BK349 BK371 BK382 HB hx383_0 hx383_1 hx383_2 hHeld ⊢
              refine pu_ (i := 0) (N := some 150) #[true, false, false, false, false, false, false, false, false, false, false, false, false, false, false, false] HT_ ?_
              refine pu_ (i := 1) (N := some 151) #[true, true, false, false, false, false, false, false, false, false, false, false, false, false, false, false] HT_ ?_
              refine pu_ (i := 2) (N := some 152) #[true, true, true, false, false, false, false, false, false, false, false, false, false, false, false, false] HT_ ?_
              refine pu_ (i := 3) (N := some 153) #[true, true, true, true, false, false, false, false, false, false, false, false, false, false, false, false] HT_ ?_
              refine pu_ (i := 4) (N := some 154) #[true, true, true, true, true, false, false, false, false, false, false, false, false, false, false, false] HT_ ?_
              refine pu_ (i := 5) (N := some 155) #[true, true, true, true, true, true, false, false, false, false, false, false, false, false, false, false] HT_ ?_
              refine pu_ (i := 6) (N := some 156) #[true, true, true, true, true, true, true, false, false, false, false, false, false, false, false, false] HT_ ?_
              refine pu_ (i := 7) (N := some 157) #[true, true, true, true, true, true, true, true, false, false, false, false, false, false, false, false] HT_ ?_
              refine pu_ (i := 8) (N := some 158) #[true, true, true, true, true, true, true, true, true, false, false, false, false, false, false, false] HT_ ?_
              refine pu_ (i := 9) (N := some 159) #[true, true, true, true, true, true, true, true, true, true, false, false, false, false, false, false] HT_ ?_
              refine pu_ (i := 10) (N := some 160) #[true, true, true, true, true, true, true, true, true, true, true, false, false, false, false, false] HT_ ?_
              refine tk_ (i := 11) (N := some 161) #[true, true, true, true, true, true, true, true, true, true, true, true, false, false, false, false] rfl rfl HT_ HW_ hHeld ?_
              refine take_ (i := 12) (N := some 162) (v := ?_) (a' := ?_) #[true, true, true, true, true, true, true, true, true, true, true, true, true, false, false, false] rfl rfl (take_ofW HT_.out HW_.out KR) (fun _ _ _ h => h) (Or.inl ⟨by rfl, ?_⟩) hHeld ?_ ?_
              rotate_left
              ·rintro w' ⟨s0, s1, s2, s3, s4, s5⟩
               go_simp
               with_reducible rfl
              rotate_left
              ·simp only [Act.put, List.setIfInBounds_toArray, List.set_cons_zero, List.set_cons_succ, i64_w, i32_w]
               rfl
              refine pu_ (i := 13) (N := some 163) #[true, true, true, true, true, true, true, true, true, true, true, true, true, true, false, false] HT_ ?_
              refine pu_ (i := 14) (N := some 164) #[true, true, true, true, true, true, true, true, true, true, true, true, true, true, true, false] HT_ ?_
              refine pu_ (i := 15) (N := some 2) #[true, true, true, true, true, true, true, true, true, true, true, true, true, true, true, true] HT_ ?_
              refine done_ (done_of HT_.out KR) ?_
              try go_wp2
              go_ret
              exact ⟨RT, PB⟩
             ·rw [if_neg c180] at H
              exact absurd H (by simp)
            ·rw [if_neg c179] at H
             have c179b0 : decide ((t379.length : Int) ≤ 5) = false := decide_eq_false c179
             have c179b1 : decide (t379.length ≤ 5) = false := decide_eq_false (by omega)
             clear c179
             cases (Option.some.inj H).trans hT_
           ·rw [if_neg c178] at H
            have c178b0 : decide (1 ≤ (t379.length : Int)) = false := decide_eq_false c178
            have c178b1 : decide (1 ≤ t379.length) = false := decide_eq_false (by omega)
            clear c178
            cases (Option.some.inj H).trans hT_
/-- THE ONE PURE STATEMENT of laws_FnSites: yours. -/
def laws_FnSites.Pure : Prop := ∀ (l0 : List Int), l0.length ≤ maxLen → l0.length * 1 ≤ 140737488351232 → (∀ x ∈ l0, (Lit.int .u8 x).wf = true) → ∃ k, laws_FnSites.f k l0 = some true
theorem laws_FnSites.walk (P : laws_FnSites.Pure) (a0 : Option Addr) (len0 cap0 : Nat) (z0 : List Int) (w : World) (w0 : (a0 = none ∧ len0 = 0 ∧ cap0 = 0 ∧ z0 = []) ∨ ∃ x, a0 = some x ∧ len0 ≤ cap0 ∧ cap0 ≤ maxLen ∧ z0.length = cap0 ∧ (∀ i, i < z0.length → w.cell? (x.add i) = some (.int .u8 (z0.getD i 0))) ∧ ∀ n ∈ z0, (Lit.int .u8 n).wf = true) (y0 : len0 * 1 ≤ 140737488351232) :
    Calls Try.prog 3 #[.slice a0 len0 cap0] w fun e w' => e = .returned (.bool true) ∧ Below w.heap.size w w' := by
  obtain ⟨l0, rfl, hr0, hm0, hw0, hc0⟩ := ReadsInt.ofRowC w0
  obtain ⟨k, h⟩ := P l0 hm0 y0 hw0
  refine (laws_FnSites.calls k _ _ l0 true w (Kd.C_of_reads (d := (0 : Int)) (h1 := fun _ => rfl) hr0) hc0 rfl h).mono ?_
  rintro e w' ⟨rfl, hd⟩
  exact ⟨rfl, hd⟩

end Go.Proofs.Ytdpkidjddlnafaa.MFnSites
