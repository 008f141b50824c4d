-- Written by a program of this session out of the translation's own print. Not trusted: Lean checks it.
import Derived.Test.YtgcamebeonodeaaShr2
import Derived.Test.YtgcamebeonodeaaMFnFormsx0
import Derived.Test.YtgcamebeonodeaaMFnFormsx3
import Derived.Test.YtgcamebeonodeaaMFnFormsx4
namespace Go.Proofs.Ytgcamebeonodeaa.MFnForms
open Go.RowKit Go.Proofs.YtgcamebeonodeaaW.PrintWords Go.Proofs.YtgcamebeonodeaaW.PrintLast Go.Proofs.YtgcamebeonodeaaW.PrintMore
attribute [local go_sem] max2_int min2_int max_two min_two max_three min_three max_four min_four   -- for this text's walks alone
set_option linter.unusedVariables false
set_option linter.unusedSimpArgs false

abbrev b11_0 : Array Bool := mkB 37 137438953471
abbrev b11_1 : Array Bool := mkB 37 68719476735
abbrev b11_2 : Array Bool := mkB 37 34359738367
abbrev b11_3 : Array Bool := mkB 37 17179869183
abbrev b11_4 : Array Bool := mkB 37 8589934591
abbrev b11_6 : Array Bool := mkB 37 4294967295
abbrev b11_8 : Array Bool := mkB 37 2147483647
abbrev b11_10 : Array Bool := mkB 37 1073741823
abbrev b11_12 : Array Bool := mkB 37 536870911
abbrev b11_14 : Array Bool := mkB 37 268435455
abbrev b11_15 : Array Bool := mkB 37 134217727
abbrev b11_16 : Array Bool := mkB 37 67108863
abbrev b11_17 : Array Bool := mkB 37 33554431
abbrev b11_18 : Array Bool := mkB 37 16777215
abbrev b11_19 : Array Bool := mkB 37 8388607
abbrev b11_20 : Array Bool := mkB 37 4194303
abbrev b11_21 : Array Bool := mkB 37 2097151
abbrev b11_22 : Array Bool := mkB 37 1048575
abbrev b11_23 : Array Bool := mkB 37 524287
abbrev b11_24 : Array Bool := mkB 37 262143
abbrev b11_25 : Array Bool := mkB 37 131071
abbrev b11_26 : Array Bool := mkB 37 65535
abbrev b11_27 : Array Bool := mkB 37 32767
abbrev b11_28 : Array Bool := mkB 37 16383
abbrev b11_29 : Array Bool := mkB 37 8191
abbrev b11_30 : Array Bool := mkB 37 4095
abbrev b11_31 : Array Bool := mkB 37 2047
abbrev b11_32 : Array Bool := mkB 37 1023
abbrev b11_33 : Array Bool := mkB 37 511
abbrev b11_34 : Array Bool := mkB 37 255
abbrev b11_35 : Array Bool := mkB 37 127
abbrev b11_36 : Array Bool := mkB 37 63
abbrev b11_37 : Array Bool := mkB 37 31
abbrev b11_38 : Array Bool := mkB 37 15
abbrev b11_39 : Array Bool := mkB 37 7
abbrev b11_40 : Array Bool := mkB 37 3
abbrev b11_41 : Array Bool := mkB 37 1
abbrev b11_42 : Array Bool := #[false, false, false, false, false, false, false, false, false, false, false, false, false, false, false, false, false, false, false, false, false, false, false, false, false, false, false, false, false, false, false, false, false, false, false, false, false]
/-! ### impl_FitsForm: function 59 -/
def impl_FitsForm.f (k : Nat) (a0_0 : Int) (a0_1 : Int) (a0_2 : Int) (a0_3 : Bool) (a1_0 : Int) (a1_1 : Int) (a1_2 : Int) (a1_3 : Int) (a1_4 : Int) (l1_5 : List Int) (a1_6 : Int) (a1_7 : Int) (a1_8 : Int) : Option (Bool) := (impl_InRange.f a0_0 0 999).bind fun t435 => (if t435 = true then ((impl_InRange.f a0_1 0 999).bind fun t436 => (if t436 = true then ((impl_IsResource.f k a1_4 l1_5 a1_6 a1_7 a1_8).bind fun t437 => (if t437 = true then ((impl_hasBody.f a1_4).bind fun t438 => (if t438 = true then ((impl_InRange.f a1_2 0 99).bind fun t439 => (if t439 = true then ((impl_ValueOfResource.f k a1_4 l1_5 a1_6 a1_7 a1_8).bind fun t440 => ((impl_Model_says.f a0_0 a0_1 a0_2 a0_3 a1_2).bind fun t441 => (some (t440 == t441)))) else (some false))) else (some false))) else (some false))) else (some false))) else (some false))
def impl_FitsForm.T1 : Bool × List (List Nat × List Nat) := (true, [([], []), ([0], [0]), ([1], [1]), ([2, 2], [2]), ([3], [3]), ([4, 3], [3, 4]), ([5, 3, 3], [3, 5]), ([3, 6], [3, 6]), ([7, 6], [7]), ([8], [8]), ([9, 8], [8, 9]), ([10, 8, 8], [8, 10]), ([8, 11], [8, 11]), ([12, 11], [12]), ([13], [13]), ([14, 13], [13, 14]), ([15, 13], [13, 15]), ([16, 13, 13], [13, 16]), ([13, 17], [13, 17]), ([18, 17], [18]), ([19], [19]), ([20, 19], [19, 20]), ([21, 19], [19, 21]), ([22, 19, 19], [19, 22]), ([19, 23], [19, 23]), ([24, 23], [24]), ([25], [25]), ([26, 25], [25, 26]), ([27, 25, 25], [25, 27]), ([25], [25]), ([25], [25]), ([30, 25], [25, 30]), ([31, 25], [25, 31]), ([29, 32, 28, 25], [25, 29, 32]), ([28, 33, 25], [25, 28, 33]), ([25, 34], [25, 34]), ([35, 33, 0, 1, 2, 3, 4, 5, 6, 7, 8, 9, 10, 11, 12, 13, 14, 15, 16, 17, 18, 19, 20, 21, 22, 23, 24, 25, 26, 27, 28, 29, 30, 31, 32, 33, 34, 35], [35])])
def impl_FitsForm.B1 : List Nat := [0, 1, 3, 7, 15, 31, 63, 127, 255, 511, 1023, 2047, 4095, 8191, 16383, 32767, 65535, 131071, 262143, 524287, 1048575, 2097151, 4194303, 8388607, 16777215, 33554431, 67108863, 134217727, 268435455, 67108863, 67108863, 1140850687, 3288334335, 8589934591, 17179869183, 34359738367, 68719476735]
theorem impl_FitsForm.tab1 : rtab .any (opsOf Try.f59 1) = impl_FitsForm.T1 := by kernel_rfl
theorem impl_FitsForm.bits1 : waitsOk impl_FitsForm.T1.2 impl_FitsForm.B1 = true := by kernel_rfl
set_option maxHeartbeats 8000000 in
set_option maxRecDepth 100000 in
theorem impl_FitsForm.calls (k : Nat) (a0_0 : Int) (a0_1 : Int) (a0_2 : Int) (a0_3 : Bool) (a1_0 : Int) (a1_1 : Int) (a1_2 : Int) (a1_3 : Int) (a1_4 : Int) (A1_5 : Option Addr) (c1_5 : Nat) (l1_5 : List Int) (a1_6 : Int) (a1_7 : Int) (a1_8 : Int) (r : Bool) (w : World) (hr1_5 : Kd.C (Kd.int .i64) w A1_5 l1_5.length l1_5) (hc1_5 : l1_5.length ≤ c1_5) (h : impl_FitsForm.f k a0_0 a0_1 a0_2 a0_3 a1_0 a1_1 a1_2 a1_3 a1_4 l1_5 a1_6 a1_7 a1_8 = some r) :
  Calls Try.prog 59 #[.agg #[.int .i64 a0_0, .int .i64 a0_1, .int .i64 a0_2, .bool a0_3], .agg #[.int .i64 a1_0, .int .i64 a1_1, .int .i64 a1_2, .int .i64 a1_3, .int .i64 a1_4, .slice A1_5 l1_5.length c1_5, .int .i64 a1_6, .int .i64 a1_7, .int .i64 a1_8]] w fun e w' => e = .returned (.bool r) ∧ Below w.heap.size w w' := by
 have hu85 := Try.underlying85
 have hu40 := Try.underlying40
 have hu38 := Try.underlying38
 have HR1_5 := Aside0.mk hr1_5
 have HC1_5 := Aside0.mk hc1_5
 clear hr1_5 hc1_5
 have HB := ak (Below.refl w.heap.size w)
 have H : ((impl_InRange.f a0_0 0 999).bind fun t435 => (if t435 = true then ((impl_InRange.f a0_1 0 999).bind fun t436 => (if t436 = true then ((impl_IsResource.f k a1_4 l1_5 a1_6 a1_7 a1_8).bind fun t437 => (if t437 = true then ((impl_hasBody.f a1_4).bind fun t438 => (if t438 = true then ((impl_InRange.f a1_2 0 99).bind fun t439 => (if t439 = true then ((impl_ValueOfResource.f k a1_4 l1_5 a1_6 a1_7 a1_8).bind fun t440 => ((impl_Model_says.f a0_0 a0_1 a0_2 a0_3 a1_2).bind fun t441 => (some (t440 == t441)))) else (some false))) else (some false))) else (some false))) else (some false))) else (some false))) = some r := h
 clear h
 replace H := Option.bind_eq_some_iff.mp H
 obtain ⟨t435, A30, H⟩ := H
 replace H : (if t435 = true then ((impl_InRange.f a0_1 0 999).bind fun t436 => (if t436 = true then ((impl_IsResource.f k a1_4 l1_5 a1_6 a1_7 a1_8).bind fun t437 => (if t437 = true then ((impl_hasBody.f a1_4).bind fun t438 => (if t438 = true then ((impl_InRange.f a1_2 0 99).bind fun t439 => (if t439 = true then ((impl_ValueOfResource.f k a1_4 l1_5 a1_6 a1_7 a1_8).bind fun t440 => ((impl_Model_says.f a0_0 a0_1 a0_2 a0_3 a1_2).bind fun t441 => (some (t440 == t441)))) else (some false))) else (some false))) else (some false))) else (some false))) else (some false)) = some r := H
 have A3 := Aside0.mk A30
 clear A30
 by_cases c4 : t435 = true
 ·subst c4
  have H1 : ((impl_InRange.f a0_1 0 999).bind fun t436 => (if t436 = true then ((impl_IsResource.f k a1_4 l1_5 a1_6 a1_7 a1_8).bind fun t437 => (if t437 = true then ((impl_hasBody.f a1_4).bind fun t438 => (if t438 = true then ((impl_InRange.f a1_2 0 99).bind fun t439 => (if t439 = true then ((impl_ValueOfResource.f k a1_4 l1_5 a1_6 a1_7 a1_8).bind fun t440 => ((impl_Model_says.f a0_0 a0_1 a0_2 a0_3 a1_2).bind fun t441 => (some (t440 == t441)))) else (some false))) else (some false))) else (some false))) else (some false))) = some r := by rw [if_pos rfl] at H; exact H
  clear H
  have H := H1
  clear H1
  replace H := Option.bind_eq_some_iff.mp H
  obtain ⟨t436, A50, H⟩ := H
  replace H : (if t436 = true then ((impl_IsResource.f k a1_4 l1_5 a1_6 a1_7 a1_8).bind fun t437 => (if t437 = true then ((impl_hasBody.f a1_4).bind fun t438 => (if t438 = true then ((impl_InRange.f a1_2 0 99).bind fun t439 => (if t439 = true then ((impl_ValueOfResource.f k a1_4 l1_5 a1_6 a1_7 a1_8).bind fun t440 => ((impl_Model_says.f a0_0 a0_1 a0_2 a0_3 a1_2).bind fun t441 => (some (t440 == t441)))) else (some false))) else (some false))) else (some false))) else (some false)) = some r := H
  have A5 := Aside0.mk A50
  clear A50
  by_cases c6 : t436 = true
  ·subst c6
   have H1 : ((impl_IsResource.f k a1_4 l1_5 a1_6 a1_7 a1_8).bind fun t437 => (if t437 = true then ((impl_hasBody.f a1_4).bind fun t438 => (if t438 = true then ((impl_InRange.f a1_2 0 99).bind fun t439 => (if t439 = true then ((impl_ValueOfResource.f k a1_4 l1_5 a1_6 a1_7 a1_8).bind fun t440 => ((impl_Model_says.f a0_0 a0_1 a0_2 a0_3 a1_2).bind fun t441 => (some (t440 == t441)))) else (some false))) else (some false))) else (some false))) = some r := by rw [if_pos rfl] at H; exact H
   clear H
   have H := H1
   clear H1
   replace H := Option.bind_eq_some_iff.mp H
   obtain ⟨t437, A70, H⟩ := H
   replace H : (if t437 = true then ((impl_hasBody.f a1_4).bind fun t438 => (if t438 = true then ((impl_InRange.f a1_2 0 99).bind fun t439 => (if t439 = true then ((impl_ValueOfResource.f k a1_4 l1_5 a1_6 a1_7 a1_8).bind fun t440 => ((impl_Model_says.f a0_0 a0_1 a0_2 a0_3 a1_2).bind fun t441 => (some (t440 == t441)))) else (some false))) else (some false))) else (some false)) = some r := H
   have A7 := Aside0.mk A70
   clear A70
   by_cases c8 : t437 = true
   ·subst c8
    have H1 : ((impl_hasBody.f a1_4).bind fun t438 => (if t438 = true then ((impl_InRange.f a1_2 0 99).bind fun t439 => (if t439 = true then ((impl_ValueOfResource.f k a1_4 l1_5 a1_6 a1_7 a1_8).bind fun t440 => ((impl_Model_says.f a0_0 a0_1 a0_2 a0_3 a1_2).bind fun t441 => (some (t440 == t441)))) else (some false))) else (some false))) = some r := by rw [if_pos rfl] at H; exact H
    clear H
    have H := H1
    clear H1
    replace H := Option.bind_eq_some_iff.mp H
    obtain ⟨t438, A90, H⟩ := H
    replace H : (if t438 = true then ((impl_InRange.f a1_2 0 99).bind fun t439 => (if t439 = true then ((impl_ValueOfResource.f k a1_4 l1_5 a1_6 a1_7 a1_8).bind fun t440 => ((impl_Model_says.f a0_0 a0_1 a0_2 a0_3 a1_2).bind fun t441 => (some (t440 == t441)))) else (some false))) else (some false)) = some r := H
    have A9 := Aside0.mk A90
    clear A90
    by_cases c10 : t438 = true
    ·subst c10
     have H1 : ((impl_InRange.f a1_2 0 99).bind fun t439 => (if t439 = true then ((impl_ValueOfResource.f k a1_4 l1_5 a1_6 a1_7 a1_8).bind fun t440 => ((impl_Model_says.f a0_0 a0_1 a0_2 a0_3 a1_2).bind fun t441 => (some (t440 == t441)))) else (some false))) = some r := by rw [if_pos rfl] at H; exact H
     clear H
     have H := H1
     clear H1
     replace H := Option.bind_eq_some_iff.mp H
     obtain ⟨t439, A110, H⟩ := H
     replace H : (if t439 = true then ((impl_ValueOfResource.f k a1_4 l1_5 a1_6 a1_7 a1_8).bind fun t440 => ((impl_Model_says.f a0_0 a0_1 a0_2 a0_3 a1_2).bind fun t441 => (some (t440 == t441)))) else (some false)) = some r := H
     have A11 := Aside0.mk A110
     clear A110
     by_cases c12 : t439 = true
     ·subst c12
      have H1 : ((impl_ValueOfResource.f k a1_4 l1_5 a1_6 a1_7 a1_8).bind fun t440 => ((impl_Model_says.f a0_0 a0_1 a0_2 a0_3 a1_2).bind fun t441 => (some (t440 == t441)))) = some r := by rw [if_pos rfl] at H; exact H
      clear H
      have H := H1
      clear H1
      replace H := Option.bind_eq_some_iff.mp H
      obtain ⟨t440, A130, H⟩ := H
      replace H : ((impl_Model_says.f a0_0 a0_1 a0_2 a0_3 a1_2).bind fun t441 => (some (t440 == t441))) = some r := H
      have A13 := Aside0.mk A130
      clear A130
      replace H := Option.bind_eq_some_iff.mp H
      obtain ⟨t441, A140, H⟩ := H
      replace H : (some (t440 == t441)) = some r := H
      have A14 := Aside0.mk A140
      clear A140
      obtain rfl := Option.some.inj H
      go_enter Try.func59, Try.ntmps59
      try go_wp2_with (first | ((with_reducible refine gate_dst (N := 2) rfl ?_); refine bx_ (N := 2) #[.int .i64 a0_0, .int .i64 a0_1, .int .i64 a0_2, .bool a0_3] 85 ?_; intro gb433 hg w15 hbox hb; have BK433 := ak hbox; have GW433 := gy hg HB; have GE433 := gy hg HB; replace HB := bs HB hb; clear hb hbox hg) | ((with_reducible refine gate_dst (N := 3) rfl ?_); refine bx_ (N := 3) #[.int .i64 a1_0, .int .i64 a1_1, .int .i64 a1_2, .int .i64 a1_3, .int .i64 a1_4, .slice A1_5 l1_5.length c1_5, .int .i64 a1_6, .int .i64 a1_7, .int .i64 a1_8] 40 ?_; intro gb434 hg w16 hbox hb; have BK434 := ak hbox; have GW434 := gy hg HB; have GE434 := gy hg HB; replace HB := bs HB hb; have NB433_434 := gm hg BK433; have NB434_433 := gn hg BK433; replace BK433 := kf BK433 hb; clear hb hbox hg))
      replace BK433 := ak (blk_drew BK433.out)
      replace BK434 := ak (blk_drew BK434.out)
      replace HB := ak (below_drew1 HB.out)
      refine start_ (n := 37) (S := fun w' => w'.cell? ⟨gb433, 0, none⟩ = some (.int .i64 a0_0) ∧ w'.cell? ⟨gb433, 1, none⟩ = some (.int .i64 a0_1) ∧ w'.cell? ⟨gb433, 2, none⟩ = some (.int .i64 a0_2) ∧ w'.cell? ⟨gb433, 3, none⟩ = some (.bool a0_3) ∧ w'.cell? ⟨gb434, 0, none⟩ = some (.int .i64 a1_0) ∧ w'.cell? ⟨gb434, 1, none⟩ = some (.int .i64 a1_1) ∧ w'.cell? ⟨gb434, 2, none⟩ = some (.int .i64 a1_2) ∧ w'.cell? ⟨gb434, 3, none⟩ = some (.int .i64 a1_3) ∧ w'.cell? ⟨gb434, 4, none⟩ = some (.int .i64 a1_4) ∧ w'.cell? ⟨gb434, 5, none⟩ = some (.slice A1_5 l1_5.length c1_5) ∧ w'.cell? ⟨gb434, 6, none⟩ = some (.int .i64 a1_6) ∧ w'.cell? ⟨gb434, 7, none⟩ = some (.int .i64 a1_7) ∧ w'.cell? ⟨gb434, 8, none⟩ = some (.int .i64 a1_8)) (ds := []) b11_42 KR rfl rfl ⟨(blk_cell BK433.out 0).trans rfl, (blk_cell BK433.out 1).trans rfl, (blk_cell BK433.out 2).trans rfl, (blk_cell BK433.out 3).trans rfl, (blk_cell BK434.out 0).trans rfl, (blk_cell BK434.out 1).trans rfl, (blk_cell BK434.out 2).trans rfl, (blk_cell BK434.out 3).trans rfl, (blk_cell BK434.out 4).trans rfl, (blk_cell BK434.out 5).trans rfl, (blk_cell BK434.out 6).trans rfl, (blk_cell BK434.out 7).trans rfl, (blk_cell BK434.out 8).trans rfl⟩ (fun hHeld => ?_); refine with_tabW impl_FitsForm.tab1 impl_FitsForm.bits1 (fun HT_ HW_ => ?_)
      generalize w16.drew = w17 at BK433 BK434 HB hHeld ⊢
      refine pu_ (i := 0) (N := some 5) b11_41 HT_ ?_
      refine tk_ (i := 1) (N := some 6) b11_40 rfl rfl HT_ HW_ hHeld ?_
      refine one_ (i := 2) (N := some 7) b11_39 rfl rfl (one_of HT_.out KR) (by decide) (fun K hK => ?_)
      refine goes_ Try.func69 KR rfl #[.int .i64 a0_0, .int .i64 0, .int .i64 999] (by rfl) rfl rfl AR ?_
      with_reducible refine (impl_InRange.calls a0_0 0 999 true _ A3.out).mono ?_
      rintro e w' ⟨rfl, ⟨nd, rfl⟩⟩
      refine ⟨_, rfl, ?_⟩
      refine hK.out _ _ ⟨(blk_cell BK433.out 0).trans rfl, (blk_cell BK433.out 1).trans rfl, (blk_cell BK433.out 2).trans rfl, (blk_cell BK433.out 3).trans rfl, (blk_cell BK434.out 0).trans rfl, (blk_cell BK434.out 1).trans rfl, (blk_cell BK434.out 2).trans rfl, (blk_cell BK434.out 3).trans rfl, (blk_cell BK434.out 4).trans rfl, (blk_cell BK434.out 5).trans rfl, (blk_cell BK434.out 6).trans rfl, (blk_cell BK434.out 7).trans rfl, (blk_cell BK434.out 8).trans rfl⟩ (fun hHeld => ?_)
      clear hK K
      refine norm_ (a' := ?_) ?_ ?_
      rotate_left
      ·show Act.put _ (some 7) _ = _
       simp only [Act.put, List.setIfInBounds_toArray, List.set_cons_zero, List.set_cons_succ, i64_w, i32_w]
       rfl
      refine pu_ (i := 3) (N := some 8) b11_38 HT_ ?_
      refine pu_ (i := 4) (N := some 9) b11_37 HT_ ?_
      refine tk_ (i := 5) (N := some 10) b11_36 rfl rfl HT_ HW_ hHeld ?_
      refine one_ (i := 6) (N := some 11) b11_35 rfl rfl (one_of HT_.out KR) (by decide) (fun K hK => ?_)
      refine goes_ Try.func69 KR rfl #[.int .i64 a0_1, .int .i64 0, .int .i64 999] (by rfl) rfl rfl AR ?_
      with_reducible refine (impl_InRange.calls a0_1 0 999 true _ A5.out).mono ?_
      rintro e w' ⟨rfl, ⟨nd, rfl⟩⟩
      refine ⟨_, rfl, ?_⟩
      refine hK.out _ _ ⟨(blk_cell BK433.out 0).trans rfl, (blk_cell BK433.out 1).trans rfl, (blk_cell BK433.out 2).trans rfl, (blk_cell BK433.out 3).trans rfl, (blk_cell BK434.out 0).trans rfl, (blk_cell BK434.out 1).trans rfl, (blk_cell BK434.out 2).trans rfl, (blk_cell BK434.out 3).trans rfl, (blk_cell BK434.out 4).trans rfl, (blk_cell BK434.out 5).trans rfl, (blk_cell BK434.out 6).trans rfl, (blk_cell BK434.out 7).trans rfl, (blk_cell BK434.out 8).trans rfl⟩ (fun hHeld => ?_)
      clear hK K
      refine norm_ (a' := ?_) ?_ ?_
      rotate_left
      ·show Act.put _ (some 11) _ = _
       simp only [Act.put, List.setIfInBounds_toArray, List.set_cons_zero, List.set_cons_succ, i64_w, i32_w]
       rfl
      refine pu_ (i := 7) (N := some 12) b11_34 HT_ ?_
      refine pu_ (i := 8) (N := some 13) b11_33 HT_ ?_
      refine pu_ (i := 9) (N := some 14) b11_32 HT_ ?_
      refine tk_ (i := 10) (N := some 15) b11_31 rfl rfl HT_ HW_ hHeld ?_
      refine one_ (i := 11) (N := some 16) b11_30 rfl rfl (one_of HT_.out KR) (by decide) (fun K hK => ?_)
      refine goes_ Try.func36 KR rfl #[.agg #[.int .i64 a1_4, .slice A1_5 l1_5.length c1_5, .int .i64 a1_6, .int .i64 a1_7, .int .i64 a1_8]] (by rfl) rfl rfl AR ?_
      with_reducible refine (impl_IsResource.calls k a1_4 _ _ l1_5 a1_6 a1_7 a1_8 true _ ?side1 ?side2 A7.out).mono ?_
      (case side1 => repeat (first | exact (Kd.C_below HR1_5.out PB) | (with_reducible refine Kd.C_alloc ?_ _) | (with_reducible refine Kd.C_drewN ?_ _) | (with_reducible refine Kd.C_drew ?_)))
      (case side2 => exact HC1_5.out)
      rintro e w18 ⟨rfl, hb⟩
      refine ⟨_, rfl, ?_⟩
      replace BK433 := kf BK433 hb
      replace BK434 := kf BK434 hb
      replace HB := bs HB hb
      (try clear hb)
      (try clear hb2)
      (try clear hk)
      (try clear hi)
      refine hK.out _ _ ⟨(blk_cell BK433.out 0).trans rfl, (blk_cell BK433.out 1).trans rfl, (blk_cell BK433.out 2).trans rfl, (blk_cell BK433.out 3).trans rfl, (blk_cell BK434.out 0).trans rfl, (blk_cell BK434.out 1).trans rfl, (blk_cell BK434.out 2).trans rfl, (blk_cell BK434.out 3).trans rfl, (blk_cell BK434.out 4).trans rfl, (blk_cell BK434.out 5).trans rfl, (blk_cell BK434.out 6).trans rfl, (blk_cell BK434.out 7).trans rfl, (blk_cell BK434.out 8).trans rfl⟩ (fun hHeld => ?_)
      clear hK K
      refine norm_ (a' := ?_) ?_ ?_
      rotate_left
      ·show Act.put _ (some 16) _ = _
       simp only [Act.put, List.setIfInBounds_toArray, List.set_cons_zero, List.set_cons_succ, i64_w, i32_w]
       rfl
      refine pu_ (i := 12) (N := some 17) b11_29 HT_ ?_
      refine pu_ (i := 13) (N := some 18) b11_28 HT_ ?_
      refine pu_ (i := 14) (N := some 19) b11_27 HT_ ?_
      refine pu_ (i := 15) (N := some 20) b11_26 HT_ ?_
      refine tk_ (i := 16) (N := some 21) b11_25 rfl rfl HT_ HW_ hHeld ?_
      refine one_ (i := 17) (N := some 22) b11_24 rfl rfl (one_of HT_.out KR) (by decide) (fun K hK => ?_)
      refine goes_ Try.func95 KR rfl #[.int .i64 a1_4] (by rfl) rfl rfl AR ?_
      with_reducible refine (impl_hasBody.calls a1_4 true _ A9.out).mono ?_
      rintro e w' ⟨rfl, ⟨nd, rfl⟩⟩
      refine ⟨_, rfl, ?_⟩
      refine hK.out _ _ ⟨(blk_cell BK433.out 0).trans rfl, (blk_cell BK433.out 1).trans rfl, (blk_cell BK433.out 2).trans rfl, (blk_cell BK433.out 3).trans rfl, (blk_cell BK434.out 0).trans rfl, (blk_cell BK434.out 1).trans rfl, (blk_cell BK434.out 2).trans rfl, (blk_cell BK434.out 3).trans rfl, (blk_cell BK434.out 4).trans rfl, (blk_cell BK434.out 5).trans rfl, (blk_cell BK434.out 6).trans rfl, (blk_cell BK434.out 7).trans rfl, (blk_cell BK434.out 8).trans rfl⟩ (fun hHeld => ?_)
      clear hK K
      refine norm_ (a' := ?_) ?_ ?_
      rotate_left
      ·show Act.put _ (some 22) _ = _
       simp only [Act.put, List.setIfInBounds_toArray, List.set_cons_zero, List.set_cons_succ, i64_w, i32_w]
       rfl
      refine pu_ (i := 18) (N := some 23) b11_23 HT_ ?_
      refine pu_ (i := 19) (N := some 24) b11_22 HT_ ?_
      refine pu_ (i := 20) (N := some 25) b11_21 HT_ ?_
      refine pu_ (i := 21) (N := some 26) b11_20 HT_ ?_
      refine tk_ (i := 22) (N := some 27) b11_19 rfl rfl HT_ HW_ hHeld ?_
      refine one_ (i := 23) (N := some 28) b11_18 rfl rfl (one_of HT_.out KR) (by decide) (fun K hK => ?_)
      refine goes_ Try.func69 KR rfl #[.int .i64 a1_2, .int .i64 0, .int .i64 99] (by rfl) rfl rfl AR ?_
      with_reducible refine (impl_InRange.calls a1_2 0 99 true _ A11.out).mono ?_
      rintro e w' ⟨rfl, ⟨nd, rfl⟩⟩
      refine ⟨_, rfl, ?_⟩
      refine hK.out _ _ ⟨(blk_cell BK433.out 0).trans rfl, (blk_cell BK433.out 1).trans rfl, (blk_cell BK433.out 2).trans rfl, (blk_cell BK433.out 3).trans rfl, (blk_cell BK434.out 0).trans rfl, (blk_cell BK434.out 1).trans rfl, (blk_cell BK434.out 2).trans rfl, (blk_cell BK434.out 3).trans rfl, (blk_cell BK434.out 4).trans rfl, (blk_cell BK434.out 5).trans rfl, (blk_cell BK434.out 6).trans rfl, (blk_cell BK434.out 7).trans rfl, (blk_cell BK434.out 8).trans rfl⟩ (fun hHeld => ?_)
      clear hK K
      refine norm_ (a' := ?_) ?_ ?_
      rotate_left
      ·show Act.put _ (some 28) _ = _
       simp only [Act.put, List.setIfInBounds_toArray, List.set_cons_zero, List.set_cons_succ, i64_w, i32_w]
       rfl
      refine pu_ (i := 24) (N := some 29) b11_17 HT_ ?_
      refine pu_ (i := 25) (N := some 30) b11_16 HT_ ?_
      refine pu_ (i := 26) (N := some 31) b11_15 HT_ ?_
      refine pu_ (i := 30) (N := some 35) #[true, true, true, true, true, true, true, true, true, true, true, true, true, true, true, true, true, true, true, true, true, true, true, true, true, true, true, false, false, false, true, false, false, false, false, false, false] HT_ ?_
      refine pu_ (i := 31) (N := some 36) #[true, true, true, true, true, true, true, true, true, true, true, true, true, true, true, true, true, true, true, true, true, true, true, true, true, true, true, false, false, false, true, true, false, false, false, false, false] HT_ ?_
      refine tk_ (i := 27) (N := some 32) #[true, true, true, true, true, true, true, true, true, true, true, true, true, true, true, true, true, true, true, true, true, true, true, true, true, true, true, true, false, false, true, true, false, false, false, false, false] rfl rfl HT_ HW_ hHeld ?_
      refine take_ (i := 29) (N := some 34) (v := ?_) (a' := ?_) #[true, true, true, true, true, true, true, true, true, true, true, true, true, true, true, true, true, true, true, true, true, true, true, true, true, true, true, true, false, true, true, true, false, false, false, false, false] rfl rfl (take_ofW HT_.out HW_.out KR) (fun _ _ _ h => h) (Or.inl ⟨by rfl, ?_⟩) hHeld ?_ ?_
      rotate_left
      ·rintro w' ⟨s0, s1, s2, s3, s4, s5, s6, s7, s8, s9, s10, s11, s12⟩
       go_simp
       with_reducible rfl
      rotate_left
      ·simp only [Act.put, List.setIfInBounds_toArray, List.set_cons_zero, List.set_cons_succ, i64_w, i32_w]
       rfl
      refine tk_ (i := 32) (N := some 37) #[true, true, true, true, true, true, true, true, true, true, true, true, true, true, true, true, true, true, true, true, true, true, true, true, true, true, true, true, false, true, true, true, true, false, false, false, false] rfl rfl HT_ HW_ hHeld ?_
      refine one_ (i := 28) (N := some 33) b11_4 rfl rfl (one_of HT_.out KR) (by decide) (fun K hK => ?_)
      refine goes_ Try.func35 KR rfl #[.agg #[.int .i64 a1_4, .slice A1_5 l1_5.length c1_5, .int .i64 a1_6, .int .i64 a1_7, .int .i64 a1_8]] (by rfl) rfl rfl AR ?_
      with_reducible refine (impl_ValueOfResource.calls k a1_4 _ _ l1_5 a1_6 a1_7 a1_8 t440 _ ?side1 ?side2 A13.out).mono ?_
      (case side1 => repeat (first | exact (Kd.C_below HR1_5.out PB) | (with_reducible refine Kd.C_alloc ?_ _) | (with_reducible refine Kd.C_drewN ?_ _) | (with_reducible refine Kd.C_drew ?_)))
      (case side2 => exact HC1_5.out)
      rintro e w19 ⟨rfl, hb⟩
      refine ⟨_, rfl, ?_⟩
      replace BK433 := kf BK433 hb
      replace BK434 := kf BK434 hb
      replace HB := bs HB hb
      (try clear hb)
      (try clear hb2)
      (try clear hk)
      (try clear hi)
      refine hK.out _ _ ⟨(blk_cell BK433.out 0).trans rfl, (blk_cell BK433.out 1).trans rfl, (blk_cell BK433.out 2).trans rfl, (blk_cell BK433.out 3).trans rfl, (blk_cell BK434.out 0).trans rfl, (blk_cell BK434.out 1).trans rfl, (blk_cell BK434.out 2).trans rfl, (blk_cell BK434.out 3).trans rfl, (blk_cell BK434.out 4).trans rfl, (blk_cell BK434.out 5).trans rfl, (blk_cell BK434.out 6).trans rfl, (blk_cell BK434.out 7).trans rfl, (blk_cell BK434.out 8).trans rfl⟩ (fun hHeld => ?_)
      clear hK K
      refine norm_ (a' := ?_) ?_ ?_
      rotate_left
      ·show Act.put _ (some 33) _ = _
       simp only [Act.put, List.setIfInBounds_toArray, List.set_cons_zero, List.set_cons_succ, i64_w, i32_w]
       rfl
      refine one_ (i := 33) (N := some 38) b11_3 rfl rfl (one_of HT_.out KR) (by decide) (fun K hK => ?_)
      refine goes_ Try.func116 KR rfl #[.agg #[.int .i64 a0_0, .int .i64 a0_1, .int .i64 a0_2, .bool a0_3], .int .i64 a1_2] (by rfl) rfl rfl AR ?_
      with_reducible refine (impl_Model_says.calls a0_0 a0_1 a0_2 a0_3 a1_2 t441 _ A14.out).mono ?_
      rintro e w20 ⟨rfl, hb⟩
      refine ⟨_, rfl, ?_⟩
      replace BK433 := kf BK433 hb
      replace BK434 := kf BK434 hb
      replace HB := bs HB hb
      (try clear hb)
      (try clear hb2)
      (try clear hk)
      (try clear hi)
      refine hK.out _ _ ⟨(blk_cell BK433.out 0).trans rfl, (blk_cell BK433.out 1).trans rfl, (blk_cell BK433.out 2).trans rfl, (blk_cell BK433.out 3).trans rfl, (blk_cell BK434.out 0).trans rfl, (blk_cell BK434.out 1).trans rfl, (blk_cell BK434.out 2).trans rfl, (blk_cell BK434.out 3).trans rfl, (blk_cell BK434.out 4).trans rfl, (blk_cell BK434.out 5).trans rfl, (blk_cell BK434.out 6).trans rfl, (blk_cell BK434.out 7).trans rfl, (blk_cell BK434.out 8).trans rfl⟩ (fun hHeld => ?_)
      clear hK K
      refine norm_ (a' := ?_) ?_ ?_
      rotate_left
      ·show Act.put _ (some 38) _ = _
       simp only [Act.put, List.setIfInBounds_toArray, List.set_cons_zero, List.set_cons_succ, i64_w, i32_w]
       rfl
      refine pu_ (i := 34) (N := some 39) b11_2 HT_ ?_
      refine pu_ (i := 35) (N := some 40) b11_1 HT_ ?_
      refine pu_ (i := 36) (N := some 4) b11_0 HT_ ?_
      refine done_ (done_of HT_.out KR) ?_
      try go_wp2
      go_ret
      exact ⟨RT, PB⟩
     ·replace c12 := Bool.eq_false_iff.mpr c12
      subst c12
      have H1 : (some false) = some r := by rw [if_neg (show ¬ (false = true) by decide)] at H; exact H
      clear H
      have H := H1
      clear H1
      obtain rfl := Option.some.inj H
      go_enter Try.func59, Try.ntmps59
      try go_wp2_with (first | ((with_reducible refine gate_dst (N := 2) rfl ?_); refine bx_ (N := 2) #[.int .i64 a0_0, .int .i64 a0_1, .int .i64 a0_2, .bool a0_3] 85 ?_; intro gb433 hg w21 hbox hb; have BK433 := ak hbox; have GW433 := gy hg HB; have GE433 := gy hg HB; replace HB := bs HB hb; clear hb hbox hg) | ((with_reducible refine gate_dst (N := 3) rfl ?_); refine bx_ (N := 3) #[.int .i64 a1_0, .int .i64 a1_1, .int .i64 a1_2, .int .i64 a1_3, .int .i64 a1_4, .slice A1_5 l1_5.length c1_5, .int .i64 a1_6, .int .i64 a1_7, .int .i64 a1_8] 40 ?_; intro gb434 hg w22 hbox hb; have BK434 := ak hbox; have GW434 := gy hg HB; have GE434 := gy hg HB; replace HB := bs HB hb; have NB433_434 := gm hg BK433; have NB434_433 := gn hg BK433; replace BK433 := kf BK433 hb; clear hb hbox hg))
      replace BK433 := ak (blk_drew BK433.out)
      replace BK434 := ak (blk_drew BK434.out)
      replace HB := ak (below_drew1 HB.out)
      refine start_ (n := 37) (S := fun w' => w'.cell? ⟨gb433, 0, none⟩ = some (.int .i64 a0_0) ∧ w'.cell? ⟨gb433, 1, none⟩ = some (.int .i64 a0_1) ∧ w'.cell? ⟨gb433, 2, none⟩ = some (.int .i64 a0_2) ∧ w'.cell? ⟨gb433, 3, none⟩ = some (.bool a0_3) ∧ w'.cell? ⟨gb434, 0, none⟩ = some (.int .i64 a1_0) ∧ w'.cell? ⟨gb434, 1, none⟩ = some (.int .i64 a1_1) ∧ w'.cell? ⟨gb434, 2, none⟩ = some (.int .i64 a1_2) ∧ w'.cell? ⟨gb434, 3, none⟩ = some (.int .i64 a1_3) ∧ w'.cell? ⟨gb434, 4, none⟩ = some (.int .i64 a1_4) ∧ w'.cell? ⟨gb434, 5, none⟩ = some (.slice A1_5 l1_5.length c1_5) ∧ w'.cell? ⟨gb434, 6, none⟩ = some (.int .i64 a1_6) ∧ w'.cell? ⟨gb434, 7, none⟩ = some (.int .i64 a1_7) ∧ w'.cell? ⟨gb434, 8, none⟩ = some (.int .i64 a1_8)) (ds := []) b11_42 KR rfl rfl ⟨(blk_cell BK433.out 0).trans rfl, (blk_cell BK433.out 1).trans rfl, (blk_cell BK433.out 2).trans rfl, (blk_cell BK433.out 3).trans rfl, (blk_cell BK434.out 0).trans rfl, (blk_cell BK434.out 1).trans rfl, (blk_cell BK434.out 2).trans rfl, (blk_cell BK434.out 3).trans rfl, (blk_cell BK434.out 4).trans rfl, (blk_cell BK434.out 5).trans rfl, (blk_cell BK434.out 6).trans rfl, (blk_cell BK434.out 7).trans rfl, (blk_cell BK434.out 8).trans rfl⟩ (fun hHeld => ?_); refine with_tabW impl_FitsForm.tab1 impl_FitsForm.bits1 (fun HT_ HW_ => ?_)
      generalize w22.drew = w23 at BK433 BK434 HB hHeld ⊢
      refine pu_ (i := 0) (N := some 5) b11_41 HT_ ?_
      refine tk_ (i := 1) (N := some 6) b11_40 rfl rfl HT_ HW_ hHeld ?_
      refine one_ (i := 2) (N := some 7) b11_39 rfl rfl (one_of HT_.out KR) (by decide) (fun K hK => ?_)
      refine goes_ Try.func69 KR rfl #[.int .i64 a0_0, .int .i64 0, .int .i64 999] (by rfl) rfl rfl AR ?_
      with_reducible refine (impl_InRange.calls a0_0 0 999 true _ A3.out).mono ?_
      rintro e w' ⟨rfl, ⟨nd, rfl⟩⟩
      refine ⟨_, rfl, ?_⟩
      refine hK.out _ _ ⟨(blk_cell BK433.out 0).trans rfl, (blk_cell BK433.out 1).trans rfl, (blk_cell BK433.out 2).trans rfl, (blk_cell BK433.out 3).trans rfl, (blk_cell BK434.out 0).trans rfl, (blk_cell BK434.out 1).trans rfl, (blk_cell BK434.out 2).trans rfl, (blk_cell BK434.out 3).trans rfl, (blk_cell BK434.out 4).trans rfl, (blk_cell BK434.out 5).trans rfl, (blk_cell BK434.out 6).trans rfl, (blk_cell BK434.out 7).trans rfl, (blk_cell BK434.out 8).trans rfl⟩ (fun hHeld => ?_)
      clear hK K
      refine norm_ (a' := ?_) ?_ ?_
      rotate_left
      ·show Act.put _ (some 7) _ = _
       simp only [Act.put, List.setIfInBounds_toArray, List.set_cons_zero, List.set_cons_succ, i64_w, i32_w]
       rfl
      refine pu_ (i := 3) (N := some 8) b11_38 HT_ ?_
      refine pu_ (i := 4) (N := some 9) b11_37 HT_ ?_
      refine tk_ (i := 5) (N := some 10) b11_36 rfl rfl HT_ HW_ hHeld ?_
      refine one_ (i := 6) (N := some 11) b11_35 rfl rfl (one_of HT_.out KR) (by decide) (fun K hK => ?_)
      refine goes_ Try.func69 KR rfl #[.int .i64 a0_1, .int .i64 0, .int .i64 999] (by rfl) rfl rfl AR ?_
      with_reducible refine (impl_InRange.calls a0_1 0 999 true _ A5.out).mono ?_
      rintro e w' ⟨rfl, ⟨nd, rfl⟩⟩
      refine ⟨_, rfl, ?_⟩
      refine hK.out _ _ ⟨(blk_cell BK433.out 0).trans rfl, (blk_cell BK433.out 1).trans rfl, (blk_cell BK433.out 2).trans rfl, (blk_cell BK433.out 3).trans rfl, (blk_cell BK434.out 0).trans rfl, (blk_cell BK434.out 1).trans rfl, (blk_cell BK434.out 2).trans rfl, (blk_cell BK434.out 3).trans rfl, (blk_cell BK434.out 4).trans rfl, (blk_cell BK434.out 5).trans rfl, (blk_cell BK434.out 6).trans rfl, (blk_cell BK434.out 7).trans rfl, (blk_cell BK434.out 8).trans rfl⟩ (fun hHeld => ?_)
      clear hK K
      refine norm_ (a' := ?_) ?_ ?_
      rotate_left
      ·show Act.put _ (some 11) _ = _
       simp only [Act.put, List.setIfInBounds_toArray, List.set_cons_zero, List.set_cons_succ, i64_w, i32_w]
       rfl
      refine pu_ (i := 7) (N := some 12) b11_34 HT_ ?_
      refine pu_ (i := 8) (N := some 13) b11_33 HT_ ?_
      refine pu_ (i := 9) (N := some 14) b11_32 HT_ ?_
      refine tk_ (i := 10) (N := some 15) b11_31 rfl rfl HT_ HW_ hHeld ?_
      refine one_ (i := 11) (N := some 16) b11_30 rfl rfl (one_of HT_.out KR) (by decide) (fun K hK => ?_)
      refine goes_ Try.func36 KR rfl #[.agg #[.int .i64 a1_4, .slice A1_5 l1_5.length c1_5, .int .i64 a1_6, .int .i64 a1_7, .int .i64 a1_8]] (by rfl) rfl rfl AR ?_
      with_reducible refine (impl_IsResource.calls k a1_4 _ _ l1_5 a1_6 a1_7 a1_8 true _ ?side1 ?side2 A7.out).mono ?_
      (case side1 => repeat (first | exact (Kd.C_below HR1_5.out PB) | (with_reducible refine Kd.C_alloc ?_ _) | (with_reducible refine Kd.C_drewN ?_ _) | (with_reducible refine Kd.C_drew ?_)))
      (case side2 => exact HC1_5.out)
      rintro e w24 ⟨rfl, hb⟩
      refine ⟨_, rfl, ?_⟩
      replace BK433 := kf BK433 hb
      replace BK434 := kf BK434 hb
      replace HB := bs HB hb
      (try clear hb)
      (try clear hb2)
      (try clear hk)
      (try clear hi)
      refine hK.out _ _ ⟨(blk_cell BK433.out 0).trans rfl, (blk_cell BK433.out 1).trans rfl, (blk_cell BK433.out 2).trans rfl, (blk_cell BK433.out 3).trans rfl, (blk_cell BK434.out 0).trans rfl, (blk_cell BK434.out 1).trans rfl, (blk_cell BK434.out 2).trans rfl, (blk_cell BK434.out 3).trans rfl, (blk_cell BK434.out 4).trans rfl, (blk_cell BK434.out 5).trans rfl, (blk_cell BK434.out 6).trans rfl, (blk_cell BK434.out 7).trans rfl, (blk_cell BK434.out 8).trans rfl⟩ (fun hHeld => ?_)
      clear hK K
      refine norm_ (a' := ?_) ?_ ?_
      rotate_left
      ·show Act.put _ (some 16) _ = _
       simp only [Act.put, List.setIfInBounds_toArray, List.set_cons_zero, List.set_cons_succ, i64_w, i32_w]
       rfl
      refine pu_ (i := 12) (N := some 17) b11_29 HT_ ?_
      refine pu_ (i := 13) (N := some 18) b11_28 HT_ ?_
      refine pu_ (i := 14) (N := some 19) b11_27 HT_ ?_
      refine pu_ (i := 15) (N := some 20) b11_26 HT_ ?_
      refine tk_ (i := 16) (N := some 21) b11_25 rfl rfl HT_ HW_ hHeld ?_
      refine one_ (i := 17) (N := some 22) b11_24 rfl rfl (one_of HT_.out KR) (by decide) (fun K hK => ?_)
      refine goes_ Try.func95 KR rfl #[.int .i64 a1_4] (by rfl) rfl rfl AR ?_
      with_reducible refine (impl_hasBody.calls a1_4 true _ A9.out).mono ?_
      rintro e w' ⟨rfl, ⟨nd, rfl⟩⟩
      refine ⟨_, rfl, ?_⟩
      refine hK.out _ _ ⟨(blk_cell BK433.out 0).trans rfl, (blk_cell BK433.out 1).trans rfl, (blk_cell BK433.out 2).trans rfl, (blk_cell BK433.out 3).trans rfl, (blk_cell BK434.out 0).trans rfl, (blk_cell BK434.out 1).trans rfl, (blk_cell BK434.out 2).trans rfl, (blk_cell BK434.out 3).trans rfl, (blk_cell BK434.out 4).trans rfl, (blk_cell BK434.out 5).trans rfl, (blk_cell BK434.out 6).trans rfl, (blk_cell BK434.out 7).trans rfl, (blk_cell BK434.out 8).trans rfl⟩ (fun hHeld => ?_)
      clear hK K
      refine norm_ (a' := ?_) ?_ ?_
      rotate_left
      ·show Act.put _ (some 22) _ = _
       simp only [Act.put, List.setIfInBounds_toArray, List.set_cons_zero, List.set_cons_succ, i64_w, i32_w]
       rfl
      refine pu_ (i := 18) (N := some 23) b11_23 HT_ ?_
      refine pu_ (i := 19) (N := some 24) b11_22 HT_ ?_
      refine pu_ (i := 20) (N := some 25) b11_21 HT_ ?_
      refine pu_ (i := 21) (N := some 26) b11_20 HT_ ?_
      refine tk_ (i := 22) (N := some 27) b11_19 rfl rfl HT_ HW_ hHeld ?_
      refine one_ (i := 23) (N := some 28) b11_18 rfl rfl (one_of HT_.out KR) (by decide) (fun K hK => ?_)
      refine goes_ Try.func69 KR rfl #[.int .i64 a1_2, .int .i64 0, .int .i64 99] (by rfl) rfl rfl AR ?_
      with_reducible refine (impl_InRange.calls a1_2 0 99 false _ A11.out).mono ?_
      rintro e w' ⟨rfl, ⟨nd, rfl⟩⟩
      refine ⟨_, rfl, ?_⟩
      refine hK.out _ _ ⟨(blk_cell BK433.out 0).trans rfl, (blk_cell BK433.out 1).trans rfl, (blk_cell BK433.out 2).trans rfl, (blk_cell BK433.out 3).trans rfl, (blk_cell BK434.out 0).trans rfl, (blk_cell BK434.out 1).trans rfl, (blk_cell BK434.out 2).trans rfl, (blk_cell BK434.out 3).trans rfl, (blk_cell BK434.out 4).trans rfl, (blk_cell BK434.out 5).trans rfl, (blk_cell BK434.out 6).trans rfl, (blk_cell BK434.out 7).trans rfl, (blk_cell BK434.out 8).trans rfl⟩ (fun hHeld => ?_)
      clear hK K
      refine norm_ (a' := ?_) ?_ ?_
      rotate_left
      ·show Act.put _ (some 28) _ = _
       simp only [Act.put, List.setIfInBounds_toArray, List.set_cons_zero, List.set_cons_succ, i64_w, i32_w]
       rfl
      refine pu_ (i := 24) (N := some 29) b11_17 HT_ ?_
      refine pu_ (i := 25) (N := some 30) b11_16 HT_ ?_
      refine un_ (i := 26) (N := some 31) b11_15 HT_ ?_
      refine un_ (i := 27) (N := some 32) b11_14 HT_ ?_
      refine un_ (i := 28) (N := some 33) b11_12 HT_ ?_
      refine un_ (i := 29) (N := some 34) b11_10 HT_ ?_
      refine un_ (i := 30) (N := some 35) b11_8 HT_ ?_
      refine un_ (i := 31) (N := some 36) b11_6 HT_ ?_
      refine un_ (i := 32) (N := some 37) b11_4 HT_ ?_
      refine un_ (i := 33) (N := some 38) b11_3 HT_ ?_
      refine un_ (i := 34) (N := some 39) b11_2 HT_ ?_
      refine pu_ (i := 35) (N := some 40) b11_1 HT_ ?_
      refine pu_ (i := 36) (N := some 4) b11_0 HT_ ?_
      refine done_ (done_of HT_.out KR) ?_
      try go_wp2
      go_ret
      exact ⟨RT, PB⟩
    ·replace c10 := Bool.eq_false_iff.mpr c10
     subst c10
     have H1 : (some false) = some r := by rw [if_neg (show ¬ (false = true) by decide)] at H; exact H
     clear H
     have H := H1
     clear H1
     obtain rfl := Option.some.inj H
     go_enter Try.func59, Try.ntmps59
     try go_wp2_with (first | ((with_reducible refine gate_dst (N := 2) rfl ?_); refine bx_ (N := 2) #[.int .i64 a0_0, .int .i64 a0_1, .int .i64 a0_2, .bool a0_3] 85 ?_; intro gb433 hg w25 hbox hb; have BK433 := ak hbox; have GW433 := gy hg HB; have GE433 := gy hg HB; replace HB := bs HB hb; clear hb hbox hg) | ((with_reducible refine gate_dst (N := 3) rfl ?_); refine bx_ (N := 3) #[.int .i64 a1_0, .int .i64 a1_1, .int .i64 a1_2, .int .i64 a1_3, .int .i64 a1_4, .slice A1_5 l1_5.length c1_5, .int .i64 a1_6, .int .i64 a1_7, .int .i64 a1_8] 40 ?_; intro gb434 hg w26 hbox hb; have BK434 := ak hbox; have GW434 := gy hg HB; have GE434 := gy hg HB; replace HB := bs HB hb; have NB433_434 := gm hg BK433; have NB434_433 := gn hg BK433; replace BK433 := kf BK433 hb; clear hb hbox hg))
     replace BK433 := ak (blk_drew BK433.out)
     replace BK434 := ak (blk_drew BK434.out)
     replace HB := ak (below_drew1 HB.out)
     refine start_ (n := 37) (S := fun w' => w'.cell? ⟨gb433, 0, none⟩ = some (.int .i64 a0_0) ∧ w'.cell? ⟨gb433, 1, none⟩ = some (.int .i64 a0_1) ∧ w'.cell? ⟨gb433, 2, none⟩ = some (.int .i64 a0_2) ∧ w'.cell? ⟨gb433, 3, none⟩ = some (.bool a0_3) ∧ w'.cell? ⟨gb434, 0, none⟩ = some (.int .i64 a1_0) ∧ w'.cell? ⟨gb434, 1, none⟩ = some (.int .i64 a1_1) ∧ w'.cell? ⟨gb434, 2, none⟩ = some (.int .i64 a1_2) ∧ w'.cell? ⟨gb434, 3, none⟩ = some (.int .i64 a1_3) ∧ w'.cell? ⟨gb434, 4, none⟩ = some (.int .i64 a1_4) ∧ w'.cell? ⟨gb434, 5, none⟩ = some (.slice A1_5 l1_5.length c1_5) ∧ w'.cell? ⟨gb434, 6, none⟩ = some (.int .i64 a1_6) ∧ w'.cell? ⟨gb434, 7, none⟩ = some (.int .i64 a1_7) ∧ w'.cell? ⟨gb434, 8, none⟩ = some (.int .i64 a1_8)) (ds := []) b11_42 KR rfl rfl ⟨(blk_cell BK433.out 0).trans rfl, (blk_cell BK433.out 1).trans rfl, (blk_cell BK433.out 2).trans rfl, (blk_cell BK433.out 3).trans rfl, (blk_cell BK434.out 0).trans rfl, (blk_cell BK434.out 1).trans rfl, (blk_cell BK434.out 2).trans rfl, (blk_cell BK434.out 3).trans rfl, (blk_cell BK434.out 4).trans rfl, (blk_cell BK434.out 5).trans rfl, (blk_cell BK434.out 6).trans rfl, (blk_cell BK434.out 7).trans rfl, (blk_cell BK434.out 8).trans rfl⟩ (fun hHeld => ?_); refine with_tabW impl_FitsForm.tab1 impl_FitsForm.bits1 (fun HT_ HW_ => ?_)
     generalize w26.drew = w27 at BK433 BK434 HB hHeld ⊢
     refine pu_ (i := 0) (N := some 5) b11_41 HT_ ?_
     refine tk_ (i := 1) (N := some 6) b11_40 rfl rfl HT_ HW_ hHeld ?_
     refine one_ (i := 2) (N := some 7) b11_39 rfl rfl (one_of HT_.out KR) (by decide) (fun K hK => ?_)
     refine goes_ Try.func69 KR rfl #[.int .i64 a0_0, .int .i64 0, .int .i64 999] (by rfl) rfl rfl AR ?_
     with_reducible refine (impl_InRange.calls a0_0 0 999 true _ A3.out).mono ?_
     rintro e w' ⟨rfl, ⟨nd, rfl⟩⟩
     refine ⟨_, rfl, ?_⟩
     refine hK.out _ _ ⟨(blk_cell BK433.out 0).trans rfl, (blk_cell BK433.out 1).trans rfl, (blk_cell BK433.out 2).trans rfl, (blk_cell BK433.out 3).trans rfl, (blk_cell BK434.out 0).trans rfl, (blk_cell BK434.out 1).trans rfl, (blk_cell BK434.out 2).trans rfl, (blk_cell BK434.out 3).trans rfl, (blk_cell BK434.out 4).trans rfl, (blk_cell BK434.out 5).trans rfl, (blk_cell BK434.out 6).trans rfl, (blk_cell BK434.out 7).trans rfl, (blk_cell BK434.out 8).trans rfl⟩ (fun hHeld => ?_)
     clear hK K
     refine norm_ (a' := ?_) ?_ ?_
     rotate_left
     ·show Act.put _ (some 7) _ = _
      simp only [Act.put, List.setIfInBounds_toArray, List.set_cons_zero, List.set_cons_succ, i64_w, i32_w]
      rfl
     refine pu_ (i := 3) (N := some 8) b11_38 HT_ ?_
     refine pu_ (i := 4) (N := some 9) b11_37 HT_ ?_
     refine tk_ (i := 5) (N := some 10) b11_36 rfl rfl HT_ HW_ hHeld ?_
     refine one_ (i := 6) (N := some 11) b11_35 rfl rfl (one_of HT_.out KR) (by decide) (fun K hK => ?_)
     refine goes_ Try.func69 KR rfl #[.int .i64 a0_1, .int .i64 0, .int .i64 999] (by rfl) rfl rfl AR ?_
     with_reducible refine (impl_InRange.calls a0_1 0 999 true _ A5.out).mono ?_
     rintro e w' ⟨rfl, ⟨nd, rfl⟩⟩
     refine ⟨_, rfl, ?_⟩
     refine hK.out _ _ ⟨(blk_cell BK433.out 0).trans rfl, (blk_cell BK433.out 1).trans rfl, (blk_cell BK433.out 2).trans rfl, (blk_cell BK433.out 3).trans rfl, (blk_cell BK434.out 0).trans rfl, (blk_cell BK434.out 1).trans rfl, (blk_cell BK434.out 2).trans rfl, (blk_cell BK434.out 3).trans rfl, (blk_cell BK434.out 4).trans rfl, (blk_cell BK434.out 5).trans rfl, (blk_cell BK434.out 6).trans rfl, (blk_cell BK434.out 7).trans rfl, (blk_cell BK434.out 8).trans rfl⟩ (fun hHeld => ?_)
     clear hK K
     refine norm_ (a' := ?_) ?_ ?_
     rotate_left
     ·show Act.put _ (some 11) _ = _
      simp only [Act.put, List.setIfInBounds_toArray, List.set_cons_zero, List.set_cons_succ, i64_w, i32_w]
      rfl
     refine pu_ (i := 7) (N := some 12) b11_34 HT_ ?_
     refine pu_ (i := 8) (N := some 13) b11_33 HT_ ?_
     refine pu_ (i := 9) (N := some 14) b11_32 HT_ ?_
     refine tk_ (i := 10) (N := some 15) b11_31 rfl rfl HT_ HW_ hHeld ?_
     refine one_ (i := 11) (N := some 16) b11_30 rfl rfl (one_of HT_.out KR) (by decide) (fun K hK => ?_)
     refine goes_ Try.func36 KR rfl #[.agg #[.int .i64 a1_4, .slice A1_5 l1_5.length c1_5, .int .i64 a1_6, .int .i64 a1_7, .int .i64 a1_8]] (by rfl) rfl rfl AR ?_
     with_reducible refine (impl_IsResource.calls k a1_4 _ _ l1_5 a1_6 a1_7 a1_8 true _ ?side1 ?side2 A7.out).mono ?_
     (case side1 => repeat (first | exact (Kd.C_below HR1_5.out PB) | (with_reducible refine Kd.C_alloc ?_ _) | (with_reducible refine Kd.C_drewN ?_ _) | (with_reducible refine Kd.C_drew ?_)))
     (case side2 => exact HC1_5.out)
     rintro e w28 ⟨rfl, hb⟩
     refine ⟨_, rfl, ?_⟩
     replace BK433 := kf BK433 hb
     replace BK434 := kf BK434 hb
     replace HB := bs HB hb
     (try clear hb)
     (try clear hb2)
     (try clear hk)
     (try clear hi)
     refine hK.out _ _ ⟨(blk_cell BK433.out 0).trans rfl, (blk_cell BK433.out 1).trans rfl, (blk_cell BK433.out 2).trans rfl, (blk_cell BK433.out 3).trans rfl, (blk_cell BK434.out 0).trans rfl, (blk_cell BK434.out 1).trans rfl, (blk_cell BK434.out 2).trans rfl, (blk_cell BK434.out 3).trans rfl, (blk_cell BK434.out 4).trans rfl, (blk_cell BK434.out 5).trans rfl, (blk_cell BK434.out 6).trans rfl, (blk_cell BK434.out 7).trans rfl, (blk_cell BK434.out 8).trans rfl⟩ (fun hHeld => ?_)
     clear hK K
     refine norm_ (a' := ?_) ?_ ?_
     rotate_left
     ·show Act.put _ (some 16) _ = _
      simp only [Act.put, List.setIfInBounds_toArray, List.set_cons_zero, List.set_cons_succ, i64_w, i32_w]
      rfl
     refine pu_ (i := 12) (N := some 17) b11_29 HT_ ?_
     refine pu_ (i := 13) (N := some 18) b11_28 HT_ ?_
     refine pu_ (i := 14) (N := some 19) b11_27 HT_ ?_
     refine pu_ (i := 15) (N := some 20) b11_26 HT_ ?_
     refine tk_ (i := 16) (N := some 21) b11_25 rfl rfl HT_ HW_ hHeld ?_
     refine one_ (i := 17) (N := some 22) b11_24 rfl rfl (one_of HT_.out KR) (by decide) (fun K hK => ?_)
     refine goes_ Try.func95 KR rfl #[.int .i64 a1_4] (by rfl) rfl rfl AR ?_
     with_reducible refine (impl_hasBody.calls a1_4 false _ A9.out).mono ?_
     rintro e w' ⟨rfl, ⟨nd, rfl⟩⟩
     refine ⟨_, rfl, ?_⟩
     refine hK.out _ _ ⟨(blk_cell BK433.out 0).trans rfl, (blk_cell BK433.out 1).trans rfl, (blk_cell BK433.out 2).trans rfl, (blk_cell BK433.out 3).trans rfl, (blk_cell BK434.out 0).trans rfl, (blk_cell BK434.out 1).trans rfl, (blk_cell BK434.out 2).trans rfl, (blk_cell BK434.out 3).trans rfl, (blk_cell BK434.out 4).trans rfl, (blk_cell BK434.out 5).trans rfl, (blk_cell BK434.out 6).trans rfl, (blk_cell BK434.out 7).trans rfl, (blk_cell BK434.out 8).trans rfl⟩ (fun hHeld => ?_)
     clear hK K
     refine norm_ (a' := ?_) ?_ ?_
     rotate_left
     ·show Act.put _ (some 22) _ = _
      simp only [Act.put, List.setIfInBounds_toArray, List.set_cons_zero, List.set_cons_succ, i64_w, i32_w]
      rfl
     refine pu_ (i := 18) (N := some 23) b11_23 HT_ ?_
     refine pu_ (i := 19) (N := some 24) b11_22 HT_ ?_
     refine un_ (i := 20) (N := some 25) b11_21 HT_ ?_
     refine un_ (i := 21) (N := some 26) b11_20 HT_ ?_
     refine un_ (i := 22) (N := some 27) b11_19 HT_ ?_
     refine un_ (i := 23) (N := some 28) b11_18 HT_ ?_
     refine pu_ (i := 24) (N := some 29) b11_17 HT_ ?_
     refine pu_ (i := 25) (N := some 30) b11_16 HT_ ?_
     refine un_ (i := 26) (N := some 31) b11_15 HT_ ?_
     refine un_ (i := 27) (N := some 32) b11_14 HT_ ?_
     refine un_ (i := 28) (N := some 33) b11_12 HT_ ?_
     refine un_ (i := 29) (N := some 34) b11_10 HT_ ?_
     refine un_ (i := 30) (N := some 35) b11_8 HT_ ?_
     refine un_ (i := 31) (N := some 36) b11_6 HT_ ?_
     refine un_ (i := 32) (N := some 37) b11_4 HT_ ?_
     refine un_ (i := 33) (N := some 38) b11_3 HT_ ?_
     refine un_ (i := 34) (N := some 39) b11_2 HT_ ?_
     refine pu_ (i := 35) (N := some 40) b11_1 HT_ ?_
     refine pu_ (i := 36) (N := some 4) b11_0 HT_ ?_
     refine done_ (done_of HT_.out KR) ?_
     try go_wp2
     go_ret
     exact ⟨RT, PB⟩
   ·replace c8 := Bool.eq_false_iff.mpr c8
    subst c8
    have H1 : (some false) = some r := by rw [if_neg (show ¬ (false = true) by decide)] at H; exact H
    clear H
    have H := H1
    clear H1
    obtain rfl := Option.some.inj H
    go_enter Try.func59, Try.ntmps59
    try go_wp2_with (first | ((with_reducible refine gate_dst (N := 2) rfl ?_); refine bx_ (N := 2) #[.int .i64 a0_0, .int .i64 a0_1, .int .i64 a0_2, .bool a0_3] 85 ?_; intro gb433 hg w29 hbox hb; have BK433 := ak hbox; have GW433 := gy hg HB; have GE433 := gy hg HB; replace HB := bs HB hb; clear hb hbox hg) | ((with_reducible refine gate_dst (N := 3) rfl ?_); refine bx_ (N := 3) #[.int .i64 a1_0, .int .i64 a1_1, .int .i64 a1_2, .int .i64 a1_3, .int .i64 a1_4, .slice A1_5 l1_5.length c1_5, .int .i64 a1_6, .int .i64 a1_7, .int .i64 a1_8] 40 ?_; intro gb434 hg w30 hbox hb; have BK434 := ak hbox; have GW434 := gy hg HB; have GE434 := gy hg HB; replace HB := bs HB hb; have NB433_434 := gm hg BK433; have NB434_433 := gn hg BK433; replace BK433 := kf BK433 hb; clear hb hbox hg))
    replace BK433 := ak (blk_drew BK433.out)
    replace BK434 := ak (blk_drew BK434.out)
    replace HB := ak (below_drew1 HB.out)
    refine start_ (n := 37) (S := fun w' => w'.cell? ⟨gb433, 0, none⟩ = some (.int .i64 a0_0) ∧ w'.cell? ⟨gb433, 1, none⟩ = some (.int .i64 a0_1) ∧ w'.cell? ⟨gb433, 2, none⟩ = some (.int .i64 a0_2) ∧ w'.cell? ⟨gb433, 3, none⟩ = some (.bool a0_3) ∧ w'.cell? ⟨gb434, 0, none⟩ = some (.int .i64 a1_0) ∧ w'.cell? ⟨gb434, 1, none⟩ = some (.int .i64 a1_1) ∧ w'.cell? ⟨gb434, 2, none⟩ = some (.int .i64 a1_2) ∧ w'.cell? ⟨gb434, 3, none⟩ = some (.int .i64 a1_3) ∧ w'.cell? ⟨gb434, 4, none⟩ = some (.int .i64 a1_4) ∧ w'.cell? ⟨gb434, 5, none⟩ = some (.slice A1_5 l1_5.length c1_5) ∧ w'.cell? ⟨gb434, 6, none⟩ = some (.int .i64 a1_6) ∧ w'.cell? ⟨gb434, 7, none⟩ = some (.int .i64 a1_7) ∧ w'.cell? ⟨gb434, 8, none⟩ = some (.int .i64 a1_8)) (ds := []) b11_42 KR rfl rfl ⟨(blk_cell BK433.out 0).trans rfl, (blk_cell BK433.out 1).trans rfl, (blk_cell BK433.out 2).trans rfl, (blk_cell BK433.out 3).trans rfl, (blk_cell BK434.out 0).trans rfl, (blk_cell BK434.out 1).trans rfl, (blk_cell BK434.out 2).trans rfl, (blk_cell BK434.out 3).trans rfl, (blk_cell BK434.out 4).trans rfl, (blk_cell BK434.out 5).trans rfl, (blk_cell BK434.out 6).trans rfl, (blk_cell BK434.out 7).trans rfl, (blk_cell BK434.out 8).trans rfl⟩ (fun hHeld => ?_); refine with_tabW impl_FitsForm.tab1 impl_FitsForm.bits1 (fun HT_ HW_ => ?_)
    generalize w30.drew = w31 at BK433 BK434 HB hHeld ⊢
    refine pu_ (i := 0) (N := some 5) b11_41 HT_ ?_
    refine tk_ (i := 1) (N := some 6) b11_40 rfl rfl HT_ HW_ hHeld ?_
    refine one_ (i := 2) (N := some 7) b11_39 rfl rfl (one_of HT_.out KR) (by decide) (fun K hK => ?_)
    refine goes_ Try.func69 KR rfl #[.int .i64 a0_0, .int .i64 0, .int .i64 999] (by rfl) rfl rfl AR ?_
    with_reducible refine (impl_InRange.calls a0_0 0 999 true _ A3.out).mono ?_
    rintro e w' ⟨rfl, ⟨nd, rfl⟩⟩
    refine ⟨_, rfl, ?_⟩
    refine hK.out _ _ ⟨(blk_cell BK433.out 0).trans rfl, (blk_cell BK433.out 1).trans rfl, (blk_cell BK433.out 2).trans rfl, (blk_cell BK433.out 3).trans rfl, (blk_cell BK434.out 0).trans rfl, (blk_cell BK434.out 1).trans rfl, (blk_cell BK434.out 2).trans rfl, (blk_cell BK434.out 3).trans rfl, (blk_cell BK434.out 4).trans rfl, (blk_cell BK434.out 5).trans rfl, (blk_cell BK434.out 6).trans rfl, (blk_cell BK434.out 7).trans rfl, (blk_cell BK434.out 8).trans rfl⟩ (fun hHeld => ?_)
    clear hK K
    refine norm_ (a' := ?_) ?_ ?_
    rotate_left
    ·show Act.put _ (some 7) _ = _
     simp only [Act.put, List.setIfInBounds_toArray, List.set_cons_zero, List.set_cons_succ, i64_w, i32_w]
     rfl
    refine pu_ (i := 3) (N := some 8) b11_38 HT_ ?_
    refine pu_ (i := 4) (N := some 9) b11_37 HT_ ?_
    refine tk_ (i := 5) (N := some 10) b11_36 rfl rfl HT_ HW_ hHeld ?_
    refine one_ (i := 6) (N := some 11) b11_35 rfl rfl (one_of HT_.out KR) (by decide) (fun K hK => ?_)
    refine goes_ Try.func69 KR rfl #[.int .i64 a0_1, .int .i64 0, .int .i64 999] (by rfl) rfl rfl AR ?_
    with_reducible refine (impl_InRange.calls a0_1 0 999 true _ A5.out).mono ?_
    rintro e w' ⟨rfl, ⟨nd, rfl⟩⟩
    refine ⟨_, rfl, ?_⟩
    refine hK.out _ _ ⟨(blk_cell BK433.out 0).trans rfl, (blk_cell BK433.out 1).trans rfl, (blk_cell BK433.out 2).trans rfl, (blk_cell BK433.out 3).trans rfl, (blk_cell BK434.out 0).trans rfl, (blk_cell BK434.out 1).trans rfl, (blk_cell BK434.out 2).trans rfl, (blk_cell BK434.out 3).trans rfl, (blk_cell BK434.out 4).trans rfl, (blk_cell BK434.out 5).trans rfl, (blk_cell BK434.out 6).trans rfl, (blk_cell BK434.out 7).trans rfl, (blk_cell BK434.out 8).trans rfl⟩ (fun hHeld => ?_)
    clear hK K
    refine norm_ (a' := ?_) ?_ ?_
    rotate_left
    ·show Act.put _ (some 11) _ = _
     simp only [Act.put, List.setIfInBounds_toArray, List.set_cons_zero, List.set_cons_succ, i64_w, i32_w]
     rfl
    refine pu_ (i := 7) (N := some 12) b11_34 HT_ ?_
    refine pu_ (i := 8) (N := some 13) b11_33 HT_ ?_
    refine pu_ (i := 9) (N := some 14) b11_32 HT_ ?_
    refine tk_ (i := 10) (N := some 15) b11_31 rfl rfl HT_ HW_ hHeld ?_
    refine one_ (i := 11) (N := some 16) b11_30 rfl rfl (one_of HT_.out KR) (by decide) (fun K hK => ?_)
    refine goes_ Try.func36 KR rfl #[.agg #[.int .i64 a1_4, .slice A1_5 l1_5.length c1_5, .int .i64 a1_6, .int .i64 a1_7, .int .i64 a1_8]] (by rfl) rfl rfl AR ?_
    with_reducible refine (impl_IsResource.calls k a1_4 _ _ l1_5 a1_6 a1_7 a1_8 false _ ?side1 ?side2 A7.out).mono ?_
    (case side1 => repeat (first | exact (Kd.C_below HR1_5.out PB) | (with_reducible refine Kd.C_alloc ?_ _) | (with_reducible refine Kd.C_drewN ?_ _) | (with_reducible refine Kd.C_drew ?_)))
    (case side2 => exact HC1_5.out)
    rintro e w32 ⟨rfl, hb⟩
    refine ⟨_, rfl, ?_⟩
    replace BK433 := kf BK433 hb
    replace BK434 := kf BK434 hb
    replace HB := bs HB hb
    (try clear hb)
    (try clear hb2)
    (try clear hk)
    (try clear hi)
    refine hK.out _ _ ⟨(blk_cell BK433.out 0).trans rfl, (blk_cell BK433.out 1).trans rfl, (blk_cell BK433.out 2).trans rfl, (blk_cell BK433.out 3).trans rfl, (blk_cell BK434.out 0).trans rfl, (blk_cell BK434.out 1).trans rfl, (blk_cell BK434.out 2).trans rfl, (blk_cell BK434.out 3).trans rfl, (blk_cell BK434.out 4).trans rfl, (blk_cell BK434.out 5).trans rfl, (blk_cell BK434.out 6).trans rfl, (blk_cell BK434.out 7).trans rfl, (blk_cell BK434.out 8).trans rfl⟩ (fun hHeld => ?_)
    clear hK K
    refine norm_ (a' := ?_) ?_ ?_
    rotate_left
    ·show Act.put _ (some 16) _ = _
     simp only [Act.put, List.setIfInBounds_toArray, List.set_cons_zero, List.set_cons_succ, i64_w, i32_w]
     rfl
    refine pu_ (i := 12) (N := some 17) b11_29 HT_ ?_
    refine pu_ (i := 13) (N := some 18) b11_28 HT_ ?_
    refine un_ (i := 14) (N := some 19) b11_27 HT_ ?_
    refine un_ (i := 15) (N := some 20) b11_26 HT_ ?_
    refine un_ (i := 16) (N := some 21) b11_25 HT_ ?_
    refine un_ (i := 17) (N := some 22) b11_24 HT_ ?_
    refine pu_ (i := 18) (N := some 23) b11_23 HT_ ?_
    refine pu_ (i := 19) (N := some 24) b11_22 HT_ ?_
    refine un_ (i := 20) (N := some 25) b11_21 HT_ ?_
    refine un_ (i := 21) (N := some 26) b11_20 HT_ ?_
    refine un_ (i := 22) (N := some 27) b11_19 HT_ ?_
    refine un_ (i := 23) (N := some 28) b11_18 HT_ ?_
    refine pu_ (i := 24) (N := some 29) b11_17 HT_ ?_
    refine pu_ (i := 25) (N := some 30) b11_16 HT_ ?_
    refine un_ (i := 26) (N := some 31) b11_15 HT_ ?_
    refine un_ (i := 27) (N := some 32) b11_14 HT_ ?_
    refine un_ (i := 28) (N := some 33) b11_12 HT_ ?_
    refine un_ (i := 29) (N := some 34) b11_10 HT_ ?_
    refine un_ (i := 30) (N := some 35) b11_8 HT_ ?_
    refine un_ (i := 31) (N := some 36) b11_6 HT_ ?_
    refine un_ (i := 32) (N := some 37) b11_4 HT_ ?_
    refine un_ (i := 33) (N := some 38) b11_3 HT_ ?_
    refine un_ (i := 34) (N := some 39) b11_2 HT_ ?_
    refine pu_ (i := 35) (N := some 40) b11_1 HT_ ?_
    refine pu_ (i := 36) (N := some 4) b11_0 HT_ ?_
    refine done_ (done_of HT_.out KR) ?_
    try go_wp2
    go_ret
    exact ⟨RT, PB⟩
  ·replace c6 := Bool.eq_false_iff.mpr c6
   subst c6
   have H1 : (some false) = some r := by rw [if_neg (show ¬ (false = true) by decide)] at H; exact H
   clear H
   have H := H1
   clear H1
   obtain rfl := Option.some.inj H
   go_enter Try.func59, Try.ntmps59
   try go_wp2_with (first | ((with_reducible refine gate_dst (N := 2) rfl ?_); refine bx_ (N := 2) #[.int .i64 a0_0, .int .i64 a0_1, .int .i64 a0_2, .bool a0_3] 85 ?_; intro gb433 hg w33 hbox hb; have BK433 := ak hbox; have GW433 := gy hg HB; have GE433 := gy hg HB; replace HB := bs HB hb; clear hb hbox hg) | ((with_reducible refine gate_dst (N := 3) rfl ?_); refine bx_ (N := 3) #[.int .i64 a1_0, .int .i64 a1_1, .int .i64 a1_2, .int .i64 a1_3, .int .i64 a1_4, .slice A1_5 l1_5.length c1_5, .int .i64 a1_6, .int .i64 a1_7, .int .i64 a1_8] 40 ?_; intro gb434 hg w34 hbox hb; have BK434 := ak hbox; have GW434 := gy hg HB; have GE434 := gy hg HB; replace HB := bs HB hb; have NB433_434 := gm hg BK433; have NB434_433 := gn hg BK433; replace BK433 := kf BK433 hb; clear hb hbox hg))
   replace BK433 := ak (blk_drew BK433.out)
   replace BK434 := ak (blk_drew BK434.out)
   replace HB := ak (below_drew1 HB.out)
   refine start_ (n := 37) (S := fun w' => w'.cell? ⟨gb433, 0, none⟩ = some (.int .i64 a0_0) ∧ w'.cell? ⟨gb433, 1, none⟩ = some (.int .i64 a0_1) ∧ w'.cell? ⟨gb433, 2, none⟩ = some (.int .i64 a0_2) ∧ w'.cell? ⟨gb433, 3, none⟩ = some (.bool a0_3)) (ds := []) b11_42 KR rfl rfl ⟨(blk_cell BK433.out 0).trans rfl, (blk_cell BK433.out 1).trans rfl, (blk_cell BK433.out 2).trans rfl, (blk_cell BK433.out 3).trans rfl⟩ (fun hHeld => ?_); refine with_tabW impl_FitsForm.tab1 impl_FitsForm.bits1 (fun HT_ HW_ => ?_)
   generalize w34.drew = w35 at BK433 BK434 HB hHeld ⊢
   refine pu_ (i := 0) (N := some 5) b11_41 HT_ ?_
   refine tk_ (i := 1) (N := some 6) b11_40 rfl rfl HT_ HW_ hHeld ?_
   refine one_ (i := 2) (N := some 7) b11_39 rfl rfl (one_of HT_.out KR) (by decide) (fun K hK => ?_)
   refine goes_ Try.func69 KR rfl #[.int .i64 a0_0, .int .i64 0, .int .i64 999] (by rfl) rfl rfl AR ?_
   with_reducible refine (impl_InRange.calls a0_0 0 999 true _ A3.out).mono ?_
   rintro e w' ⟨rfl, ⟨nd, rfl⟩⟩
   refine ⟨_, rfl, ?_⟩
   refine hK.out _ _ ⟨(blk_cell BK433.out 0).trans rfl, (blk_cell BK433.out 1).trans rfl, (blk_cell BK433.out 2).trans rfl, (blk_cell BK433.out 3).trans rfl⟩ (fun hHeld => ?_)
   clear hK K
   refine norm_ (a' := ?_) ?_ ?_
   rotate_left
   ·show Act.put _ (some 7) _ = _
    simp only [Act.put, List.setIfInBounds_toArray, List.set_cons_zero, List.set_cons_succ, i64_w, i32_w]
    rfl
   refine pu_ (i := 3) (N := some 8) b11_38 HT_ ?_
   refine pu_ (i := 4) (N := some 9) b11_37 HT_ ?_
   refine tk_ (i := 5) (N := some 10) b11_36 rfl rfl HT_ HW_ hHeld ?_
   refine one_ (i := 6) (N := some 11) b11_35 rfl rfl (one_of HT_.out KR) (by decide) (fun K hK => ?_)
   refine goes_ Try.func69 KR rfl #[.int .i64 a0_1, .int .i64 0, .int .i64 999] (by rfl) rfl rfl AR ?_
   with_reducible refine (impl_InRange.calls a0_1 0 999 false _ A5.out).mono ?_
   rintro e w' ⟨rfl, ⟨nd, rfl⟩⟩
   refine ⟨_, rfl, ?_⟩
   refine hK.out _ _ ⟨(blk_cell BK433.out 0).trans rfl, (blk_cell BK433.out 1).trans rfl, (blk_cell BK433.out 2).trans rfl, (blk_cell BK433.out 3).trans rfl⟩ (fun hHeld => ?_)
   clear hK K
   refine norm_ (a' := ?_) ?_ ?_
   rotate_left
   ·show Act.put _ (some 11) _ = _
    simp only [Act.put, List.setIfInBounds_toArray, List.set_cons_zero, List.set_cons_succ, i64_w, i32_w]
    rfl
   refine pu_ (i := 7) (N := some 12) b11_34 HT_ ?_
   refine pu_ (i := 8) (N := some 13) b11_33 HT_ ?_
   refine un_ (i := 9) (N := some 14) b11_32 HT_ ?_
   refine un_ (i := 10) (N := some 15) b11_31 HT_ ?_
   refine un_ (i := 11) (N := some 16) b11_30 HT_ ?_
   refine pu_ (i := 12) (N := some 17) b11_29 HT_ ?_
   refine pu_ (i := 13) (N := some 18) b11_28 HT_ ?_
   refine un_ (i := 14) (N := some 19) b11_27 HT_ ?_
   refine un_ (i := 15) (N := some 20) b11_26 HT_ ?_
   refine un_ (i := 16) (N := some 21) b11_25 HT_ ?_
   refine un_ (i := 17) (N := some 22) b11_24 HT_ ?_
   refine pu_ (i := 18) (N := some 23) b11_23 HT_ ?_
   refine pu_ (i := 19) (N := some 24) b11_22 HT_ ?_
   refine un_ (i := 20) (N := some 25) b11_21 HT_ ?_
   refine un_ (i := 21) (N := some 26) b11_20 HT_ ?_
   refine un_ (i := 22) (N := some 27) b11_19 HT_ ?_
   refine un_ (i := 23) (N := some 28) b11_18 HT_ ?_
   refine pu_ (i := 24) (N := some 29) b11_17 HT_ ?_
   refine pu_ (i := 25) (N := some 30) b11_16 HT_ ?_
   refine un_ (i := 26) (N := some 31) b11_15 HT_ ?_
   refine un_ (i := 27) (N := some 32) b11_14 HT_ ?_
   refine un_ (i := 28) (N := some 33) b11_12 HT_ ?_
   refine un_ (i := 29) (N := some 34) b11_10 HT_ ?_
   refine un_ (i := 30) (N := some 35) b11_8 HT_ ?_
   refine un_ (i := 31) (N := some 36) b11_6 HT_ ?_
   refine un_ (i := 32) (N := some 37) b11_4 HT_ ?_
   refine un_ (i := 33) (N := some 38) b11_3 HT_ ?_
   refine un_ (i := 34) (N := some 39) b11_2 HT_ ?_
   refine pu_ (i := 35) (N := some 40) b11_1 HT_ ?_
   refine pu_ (i := 36) (N := some 4) b11_0 HT_ ?_
   refine done_ (done_of HT_.out KR) ?_
   try go_wp2
   go_ret
   exact ⟨RT, PB⟩
 ·replace c4 := Bool.eq_false_iff.mpr c4
  subst c4
  have H1 : (some false) = some r := by rw [if_neg (show ¬ (false = true) by decide)] at H; exact H
  clear H
  have H := H1
  clear H1
  obtain rfl := Option.some.inj H
  go_enter Try.func59, Try.ntmps59
  try go_wp2_with (first | ((with_reducible refine gate_dst (N := 2) rfl ?_); refine bx_ (N := 2) #[.int .i64 a0_0, .int .i64 a0_1, .int .i64 a0_2, .bool a0_3] 85 ?_; intro gb433 hg w36 hbox hb; have BK433 := ak hbox; have GW433 := gy hg HB; have GE433 := gy hg HB; replace HB := bs HB hb; clear hb hbox hg) | ((with_reducible refine gate_dst (N := 3) rfl ?_); refine bx_ (N := 3) #[.int .i64 a1_0, .int .i64 a1_1, .int .i64 a1_2, .int .i64 a1_3, .int .i64 a1_4, .slice A1_5 l1_5.length c1_5, .int .i64 a1_6, .int .i64 a1_7, .int .i64 a1_8] 40 ?_; intro gb434 hg w37 hbox hb; have BK434 := ak hbox; have GW434 := gy hg HB; have GE434 := gy hg HB; replace HB := bs HB hb; have NB433_434 := gm hg BK433; have NB434_433 := gn hg BK433; replace BK433 := kf BK433 hb; clear hb hbox hg))
  replace BK433 := ak (blk_drew BK433.out)
  replace BK434 := ak (blk_drew BK434.out)
  replace HB := ak (below_drew1 HB.out)
  refine start_ (n := 37) (S := fun w' => w'.cell? ⟨gb433, 0, none⟩ = some (.int .i64 a0_0) ∧ w'.cell? ⟨gb433, 1, none⟩ = some (.int .i64 a0_1) ∧ w'.cell? ⟨gb433, 2, none⟩ = some (.int .i64 a0_2) ∧ w'.cell? ⟨gb433, 3, none⟩ = some (.bool a0_3)) (ds := []) b11_42 KR rfl rfl ⟨(blk_cell BK433.out 0).trans rfl, (blk_cell BK433.out 1).trans rfl, (blk_cell BK433.out 2).trans rfl, (blk_cell BK433.out 3).trans rfl⟩ (fun hHeld => ?_); refine with_tabW impl_FitsForm.tab1 impl_FitsForm.bits1 (fun HT_ HW_ => ?_)
  generalize w37.drew = w38 at BK433 BK434 HB hHeld ⊢
  refine pu_ (i := 0) (N := some 5) b11_41 HT_ ?_
  refine tk_ (i := 1) (N := some 6) b11_40 rfl rfl HT_ HW_ hHeld ?_
  refine one_ (i := 2) (N := some 7) b11_39 rfl rfl (one_of HT_.out KR) (by decide) (fun K hK => ?_)
  refine goes_ Try.func69 KR rfl #[.int .i64 a0_0, .int .i64 0, .int .i64 999] (by rfl) rfl rfl AR ?_
  with_reducible refine (impl_InRange.calls a0_0 0 999 false _ A3.out).mono ?_
  rintro e w' ⟨rfl, ⟨nd, rfl⟩⟩
  refine ⟨_, rfl, ?_⟩
  refine hK.out _ _ ⟨(blk_cell BK433.out 0).trans rfl, (blk_cell BK433.out 1).trans rfl, (blk_cell BK433.out 2).trans rfl, (blk_cell BK433.out 3).trans rfl⟩ (fun hHeld => ?_)
  clear hK K
  refine norm_ (a' := ?_) ?_ ?_
  rotate_left
  ·show Act.put _ (some 7) _ = _
   simp only [Act.put, List.setIfInBounds_toArray, List.set_cons_zero, List.set_cons_succ, i64_w, i32_w]
   rfl
  refine pu_ (i := 3) (N := some 8) b11_38 HT_ ?_
  refine un_ (i := 4) (N := some 9) b11_37 HT_ ?_
  refine un_ (i := 5) (N := some 10) b11_36 HT_ ?_
  refine un_ (i := 6) (N := some 11) b11_35 HT_ ?_
  refine pu_ (i := 7) (N := some 12) b11_34 HT_ ?_
  refine pu_ (i := 8) (N := some 13) b11_33 HT_ ?_
  refine un_ (i := 9) (N := some 14) b11_32 HT_ ?_
  refine un_ (i := 10) (N := some 15) b11_31 HT_ ?_
  refine un_ (i := 11) (N := some 16) b11_30 HT_ ?_
  refine pu_ (i := 12) (N := some 17) b11_29 HT_ ?_
  refine pu_ (i := 13) (N := some 18) b11_28 HT_ ?_
  refine un_ (i := 14) (N := some 19) b11_27 HT_ ?_
  refine un_ (i := 15) (N := some 20) b11_26 HT_ ?_
  refine un_ (i := 16) (N := some 21) b11_25 HT_ ?_
  refine un_ (i := 17) (N := some 22) b11_24 HT_ ?_
  refine pu_ (i := 18) (N := some 23) b11_23 HT_ ?_
  refine pu_ (i := 19) (N := some 24) b11_22 HT_ ?_
  refine un_ (i := 20) (N := some 25) b11_21 HT_ ?_
  refine un_ (i := 21) (N := some 26) b11_20 HT_ ?_
  refine un_ (i := 22) (N := some 27) b11_19 HT_ ?_
  refine un_ (i := 23) (N := some 28) b11_18 HT_ ?_
  refine pu_ (i := 24) (N := some 29) b11_17 HT_ ?_
  refine pu_ (i := 25) (N := some 30) b11_16 HT_ ?_
  refine un_ (i := 26) (N := some 31) b11_15 HT_ ?_
  refine un_ (i := 27) (N := some 32) b11_14 HT_ ?_
  refine un_ (i := 28) (N := some 33) b11_12 HT_ ?_
  refine un_ (i := 29) (N := some 34) b11_10 HT_ ?_
  refine un_ (i := 30) (N := some 35) b11_8 HT_ ?_
  refine un_ (i := 31) (N := some 36) b11_6 HT_ ?_
  refine un_ (i := 32) (N := some 37) b11_4 HT_ ?_
  refine un_ (i := 33) (N := some 38) b11_3 HT_ ?_
  refine un_ (i := 34) (N := some 39) b11_2 HT_ ?_
  refine pu_ (i := 35) (N := some 40) b11_1 HT_ ?_
  refine pu_ (i := 36) (N := some 4) b11_0 HT_ ?_
  refine done_ (done_of HT_.out KR) ?_
  try go_wp2
  go_ret
  exact ⟨RT, PB⟩

end Go.Proofs.Ytgcamebeonodeaa.MFnForms
