-- Written by a program of this session out of the translation's own print. Not trusted: Lean checks it.
import Derived.Test.YtgcamebeonodeaaShr2
import Derived.Test.YtgcamebeonodeaaMFnMachinex0
import Derived.Test.YtgcamebeonodeaaMFnMachinex4
namespace Go.Proofs.Ytgcamebeonodeaa.MFnMachine
open Go.RowKit Go.Proofs.YtgcamebeonodeaaW.PrintWords Go.Proofs.YtgcamebeonodeaaW.PrintLast Go.Proofs.YtgcamebeonodeaaW.PrintMore
attribute [local go_sem] max2_int min2_int max_two min_two max_three min_three max_four min_four   -- for this text's walks alone
set_option linter.unusedVariables false
set_option linter.unusedSimpArgs false

/-! ### impl_copyState: function 77 -/
def impl_copyState.f (a0_0 : Int) (l0_1 : List Int) (l0_2 : List Int) (l0_3 : List Int) : Option (Int × List Int × List Int × List Int) := (slices_Clone_int_int.f l0_1).bind fun t350 => ((slices_Clone_int_int.f l0_2).bind fun t353 => ((slices_Clone_int_int.f l0_3).bind fun t356 => (some (a0_0, t350, t353, t356))))
def impl_copyState.T1 : Bool × List (List Nat × List Nat) := (true, [([], []), ([0], [0]), ([], []), ([2], [2]), ([3], [3]), ([], []), ([5], [5]), ([6, 4], [6]), ([], []), ([8], [8]), ([9, 7], [9]), ([1, 4, 7, 10], [1, 4, 7, 10]), ([11, 10, 0, 1, 2, 3, 4, 5, 6, 7, 8, 9, 10, 11], [11])])
def impl_copyState.B1 : List Nat := [0, 1, 0, 4, 12, 0, 32, 124, 0, 256, 1020, 2047, 4095]
theorem impl_copyState.tab1 : rtab .any (opsOf Try.f77 1) = impl_copyState.T1 := by kernel_rfl
theorem impl_copyState.bits1 : waitsOk impl_copyState.T1.2 impl_copyState.B1 = true := by kernel_rfl
set_option maxHeartbeats 8000000 in
set_option maxRecDepth 100000 in
theorem impl_copyState.calls (a0_0 : Int) (A0_1 : Option Addr) (c0_1 : Nat) (l0_1 : List Int) (A0_2 : Option Addr) (c0_2 : Nat) (l0_2 : List Int) (A0_3 : Option Addr) (c0_3 : Nat) (l0_3 : List Int) (r1 : Int) (r2 : List Int) (r3 : List Int) (r4 : List Int) (w : World) (hr0_1 : Kd.C (Kd.int .i64) w A0_1 l0_1.length l0_1) (hc0_1 : l0_1.length ≤ c0_1) (hr0_2 : Kd.C (Kd.int .i64) w A0_2 l0_2.length l0_2) (hc0_2 : l0_2.length ≤ c0_2) (hr0_3 : Kd.C (Kd.int .i64) w A0_3 l0_3.length l0_3) (hc0_3 : l0_3.length ≤ c0_3) (h : impl_copyState.f a0_0 l0_1 l0_2 l0_3 = some (r1, r2, r3, r4)) :
  Calls Try.prog 77 #[.agg #[.int .i64 a0_0, .slice A0_1 l0_1.length c0_1, .slice A0_2 l0_2.length c0_2, .slice A0_3 l0_3.length c0_3]] w fun e w' => ∃ v1_ v2_ v3_ : Value, e = .returned (.agg #[.int .i64 r1, v1_, v2_, v3_]) ∧ Kd.R (Kd.int .i64) 3 w' w.heap.size (fun k_ => some k_ ≠ (v2_ : Value).ownBlock ∧ some k_ ≠ (v3_ : Value).ownBlock) v1_ r2 ∧ Kd.R (Kd.int .i64) 3 w' w.heap.size (fun k_ => some k_ ≠ (v1_ : Value).ownBlock ∧ some k_ ≠ (v3_ : Value).ownBlock) v2_ r3 ∧ Kd.R (Kd.int .i64) 3 w' w.heap.size (fun k_ => some k_ ≠ (v1_ : Value).ownBlock ∧ some k_ ≠ (v2_ : Value).ownBlock) v3_ r4 ∧ Below w.heap.size w w' := by
 have hu45 := Try.underlying45
 have HR0_1 := Aside0.mk hr0_1
 have HC0_1 := Aside0.mk hc0_1
 clear hr0_1 hc0_1
 have HR0_2 := Aside0.mk hr0_2
 have HC0_2 := Aside0.mk hc0_2
 clear hr0_2 hc0_2
 have HR0_3 := Aside0.mk hr0_3
 have HC0_3 := Aside0.mk hc0_3
 clear hr0_3 hc0_3
 have HB := ak (Below.refl w.heap.size w)
 have H : ((slices_Clone_int_int.f l0_1).bind fun t350 => ((slices_Clone_int_int.f l0_2).bind fun t353 => ((slices_Clone_int_int.f l0_3).bind fun t356 => (some (a0_0, t350, t353, t356))))) = some (r1, r2, r3, r4) := h
 clear h
 replace H := Option.bind_eq_some_iff.mp H
 obtain ⟨t350, A20, H⟩ := H
 replace H : ((slices_Clone_int_int.f l0_2).bind fun t353 => ((slices_Clone_int_int.f l0_3).bind fun t356 => (some (a0_0, t350, t353, t356)))) = some (r1, r2, r3, r4) := H
 have A2 := Aside0.mk A20
 clear A20
 replace H := Option.bind_eq_some_iff.mp H
 obtain ⟨t353, A30, H⟩ := H
 replace H : ((slices_Clone_int_int.f l0_3).bind fun t356 => (some (a0_0, t350, t353, t356))) = some (r1, r2, r3, r4) := H
 have A3 := Aside0.mk A30
 clear A30
 replace H := Option.bind_eq_some_iff.mp H
 obtain ⟨t356, A40, H⟩ := H
 replace H : (some (a0_0, t350, t353, t356)) = some (r1, r2, r3, r4) := H
 have A4 := Aside0.mk A40
 clear A40
 simp only [Option.some.injEq, Prod.mk.injEq] at H
 obtain ⟨rfl, rfl, rfl, rfl⟩ := H
 go_enter Try.func77, Try.ntmps77
 try go_wp2_with (first | ((with_reducible refine gate_dst (N := 1) rfl ?_); refine bx_ (N := 1) #[.int .i64 a0_0, .slice A0_1 l0_1.length c0_1, .slice A0_2 l0_2.length c0_2, .slice A0_3 l0_3.length c0_3] 45 ?_; intro gb348 hg w5 hbox hb; have BK348 := ak hbox; have GW348 := gy hg HB; have GE348 := gy hg HB; replace HB := bs HB hb; clear hb hbox hg) | ((with_reducible refine gate_dst (N := 2) rfl ?_); refine bx_ (N := 2) #[.int .i64 0, .slice none 0 0, .slice none 0 0, .slice none 0 0] 45 ?_; intro gb349 hg w6 hbox hb; have BK349 := ak hbox; have GW349 := gy hg HB; have GE349 := gy hg HB; replace HB := bs HB hb; have NB348_349 := gm hg BK348; have NB349_348 := gn hg BK348; replace BK348 := kf BK348 hb; clear hb hbox hg))
 replace BK348 := ak (blk_drew BK348.out)
 replace BK349 := ak (blk_drew BK349.out)
 replace HB := ak (below_drew1 HB.out)
 refine start_ (n := 13) (S := fun w' => w'.cell? ⟨gb348, 0, none⟩ = some (.int .i64 a0_0) ∧ w'.cell? ⟨gb348, 1, none⟩ = some (.slice A0_1 l0_1.length c0_1) ∧ w'.cell? ⟨gb348, 2, none⟩ = some (.slice A0_2 l0_2.length c0_2) ∧ w'.cell? ⟨gb348, 3, none⟩ = some (.slice A0_3 l0_3.length c0_3)) (ds := []) #[false, false, false, false, false, false, false, false, false, false, false, false, false] KR rfl rfl ⟨(blk_cell BK348.out 0).trans rfl, (blk_cell BK348.out 1).trans rfl, (blk_cell BK348.out 2).trans rfl, (blk_cell BK348.out 3).trans rfl⟩ (fun hHeld => ?_); refine with_tabW impl_copyState.tab1 impl_copyState.bits1 (fun HT_ HW_ => ?_)
 generalize w6.drew = w7 at BK348 BK349 HB hHeld ⊢
 refine pu_ (i := 0) (N := some 3) #[true, false, false, false, false, false, false, false, false, false, false, false, false] HT_ ?_
 refine pu_ (i := 2) (N := some 5) #[true, false, true, false, false, false, false, false, false, false, false, false, false] HT_ ?_
 refine pu_ (i := 5) (N := some 8) #[true, false, true, false, false, true, false, false, false, false, false, false, false] HT_ ?_
 refine pu_ (i := 8) (N := some 11) #[true, false, true, false, false, true, false, false, true, false, false, false, false] HT_ ?_
 refine tk_ (i := 1) (N := some 4) #[true, true, true, false, false, true, false, false, true, false, false, false, false] rfl rfl HT_ HW_ hHeld ?_
 refine take_ (i := 3) (N := some 6) (v := ?_) (a' := ?_) #[true, true, true, true, false, true, false, false, true, false, false, false, false] rfl rfl (take_ofW HT_.out HW_.out KR) (fun _ _ _ h => h) (Or.inl ⟨by rfl, ?_⟩) hHeld ?_ ?_
 rotate_left
 ·rintro w' ⟨s0, s1, s2, s3⟩
  go_simp
  with_reducible rfl
 rotate_left
 ·simp only [Act.put, List.setIfInBounds_toArray, List.set_cons_zero, List.set_cons_succ, i64_w, i32_w]
  rfl
 refine tk_ (i := 6) (N := some 9) #[true, true, true, true, false, true, true, false, true, false, false, false, false] rfl rfl HT_ HW_ hHeld ?_
 refine take_ (i := 9) (N := some 12) (v := ?_) (a' := ?_) #[true, true, true, true, false, true, true, false, true, true, false, false, false] rfl rfl (take_ofW HT_.out HW_.out KR) (fun _ _ _ h => h) (Or.inl ⟨by rfl, ?_⟩) hHeld ?_ ?_
 rotate_left
 ·rintro w' ⟨s0, s1, s2, s3⟩
  go_simp
  with_reducible rfl
 rotate_left
 ·simp only [Act.put, List.setIfInBounds_toArray, List.set_cons_zero, List.set_cons_succ, i64_w, i32_w]
  rfl
 refine one_ (i := 4) (N := some 7) #[true, true, true, true, true, true, true, false, true, true, false, false, false] rfl rfl (one_of HT_.out KR) (by decide) (fun K hK => ?_)
 refine goes_ Try.func131 KR rfl #[.slice A0_1 l0_1.length c0_1] (by rfl) rfl rfl AR ?_
 with_reducible refine (slices_Clone_int_int.calls _ _ l0_1 t350 _ ?side1 ?side2 A2.out).mono ?_
 (case side1 => exact CR (Kd.C_below HR0_1.out HB.out))
 (case side2 => exact HC0_1.out)
 rintro e w8 ⟨v351, rfl, ho0, hb⟩
 refine ⟨_, rfl, ?_⟩
 have HO352 := Rn0 ho0 HB
 replace BK348 := kf BK348 hb
 replace BK349 := kf BK349 hb
 replace HB := bs HB hb
 (try clear hb)
 (try clear hb2)
 (try clear hk)
 (try clear hi)
 (try clear ho0)
 obtain ⟨Ao351_, co351_, eo351_⟩ := Kd.R_slice HO352.out
 subst eo351_
 refine hK.out _ _ ⟨(blk_cell BK348.out 0).trans rfl, (blk_cell BK348.out 1).trans rfl, (blk_cell BK348.out 2).trans rfl, (blk_cell BK348.out 3).trans rfl⟩ (fun hHeld => ?_)
 clear hK K
 refine norm_ (a' := ?_) ?_ ?_
 rotate_left
 ·show Act.put _ (some 7) _ = _
  simp only [Act.put, List.setIfInBounds_toArray, List.set_cons_zero, List.set_cons_succ, i64_w, i32_w]
  rfl
 refine one_ (i := 7) (N := some 10) #[true, true, true, true, true, true, true, true, true, true, false, false, false] rfl rfl (one_of HT_.out KR) (by decide) (fun K hK => ?_)
 refine goes_ Try.func131 KR rfl #[.slice A0_2 l0_2.length c0_2] (by rfl) rfl rfl AR ?_
 with_reducible refine (slices_Clone_int_int.calls _ _ l0_2 t353 _ ?side1 ?side2 A3.out).mono ?_
 (case side1 => exact CR (Kd.C_below HR0_2.out HB.out))
 (case side2 => exact HC0_2.out)
 rintro e w9 ⟨v354, rfl, ho0, hb⟩
 refine ⟨_, rfl, ?_⟩
 have HO355 := Rn1 ho0 HB HO352
 replace HO352 := ak (Kd.R_elder' (PR HO352) (Kd.R_base ho0) hb)
 replace BK348 := kf BK348 hb
 replace BK349 := kf BK349 hb
 replace HB := bs HB hb
 (try clear hb)
 (try clear hb2)
 (try clear hk)
 (try clear hi)
 (try clear ho0)
 refine hK.out _ _ ⟨(blk_cell BK348.out 0).trans rfl, (blk_cell BK348.out 1).trans rfl, (blk_cell BK348.out 2).trans rfl, (blk_cell BK348.out 3).trans rfl⟩ (fun hHeld => ?_)
 clear hK K
 refine norm_ (a' := ?_) ?_ ?_
 rotate_left
 ·show Act.put _ (some 10) _ = _
  simp only [Act.put, List.setIfInBounds_toArray, List.set_cons_zero, List.set_cons_succ, i64_w, i32_w]
  rfl
 refine one_ (i := 10) (N := some 13) #[true, true, true, true, true, true, true, true, true, true, true, false, false] rfl rfl (one_of HT_.out KR) (by decide) (fun K hK => ?_)
 refine goes_ Try.func131 KR rfl #[.slice A0_3 l0_3.length c0_3] (by rfl) rfl rfl AR ?_
 with_reducible refine (slices_Clone_int_int.calls _ _ l0_3 t356 _ ?side1 ?side2 A4.out).mono ?_
 (case side1 => exact CR (Kd.C_below HR0_3.out HB.out))
 (case side2 => exact HC0_3.out)
 rintro e w10 ⟨v357, rfl, ho0, hb⟩
 refine ⟨_, rfl, ?_⟩
 have HO358 := Rn2 ho0 HB HO352 HO355
 replace HO352 := ak (Kd.R_elder' (PR HO352) (Kd.R_base ho0) hb)
 replace HO355 := ak (Kd.R_elder' (PR HO355) (Kd.R_base ho0) hb)
 replace BK348 := kf BK348 hb
 replace BK349 := kf BK349 hb
 replace HB := bs HB hb
 (try clear hb)
 (try clear hb2)
 (try clear hk)
 (try clear hi)
 (try clear ho0)
 obtain ⟨Ao11, co11, eo11⟩ := Kd.R_slice HO358.out
 (first | subst eo11 | (injection eo11 with f1_ f2_ f3_; have f4_ := f1_.symm; have f5_ := f3_.symm; clear f1_ f2_ f3_; subst f4_; subst f5_))
 obtain ⟨Ao12, co12, eo12⟩ := Kd.R_slice HO355.out
 (first | subst eo12 | (injection eo12 with f1_ f2_ f3_; have f4_ := f1_.symm; have f5_ := f3_.symm; clear f1_ f2_ f3_; subst f4_; subst f5_))
 obtain ⟨Ao13, co13, eo13⟩ := Kd.R_slice HO352.out
 (first | subst eo13 | (injection eo13 with f1_ f2_ f3_; have f4_ := f1_.symm; have f5_ := f3_.symm; clear f1_ f2_ f3_; subst f4_; subst f5_))
 refine hK.out _ _ ⟨(blk_cell BK348.out 0).trans rfl, (blk_cell BK348.out 1).trans rfl, (blk_cell BK348.out 2).trans rfl, (blk_cell BK348.out 3).trans rfl⟩ (fun hHeld => ?_)
 clear hK K
 refine norm_ (a' := ?_) ?_ ?_
 rotate_left
 ·show Act.put _ (some 13) _ = _
  simp only [Act.put, List.setIfInBounds_toArray, List.set_cons_zero, List.set_cons_succ, i64_w, i32_w]
  rfl
 refine pu_ (i := 11) (N := some 14) #[true, true, true, true, true, true, true, true, true, true, true, true, false] HT_ ?_
 refine one_ (i := 12) (N := none) #[true, true, true, true, true, true, true, true, true, true, true, true, true] rfl rfl (one_of HT_.out KR) (by decide) (fun K hK => ?_)
 have hs14 : w10.cell? ⟨gb349, 0, none⟩ = some (.int .i64 0) := (blk_cell BK349.out 0).trans rfl
 have hfs14 := blk_frozen BK349.out 0
 have hns14_0 := NB348_349.out
 have hms14_0 := NB349_348.out
 have hs15 : w10.cell? ⟨gb349, 1, none⟩ = some (.slice none 0 0) := (blk_cell BK349.out 1).trans rfl
 have hfs15 := blk_frozen BK349.out 1
 have hns15_0 := NB348_349.out
 have hms15_0 := NB349_348.out
 have hs16 : w10.cell? ⟨gb349, 2, none⟩ = some (.slice none 0 0) := (blk_cell BK349.out 2).trans rfl
 have hfs16 := blk_frozen BK349.out 2
 have hns16_0 := NB348_349.out
 have hms16_0 := NB349_348.out
 have hs17 : w10.cell? ⟨gb349, 3, none⟩ = some (.slice none 0 0) := (blk_cell BK349.out 3).trans rfl
 have hfs17 := blk_frozen BK349.out 3
 have hns17_0 := NB348_349.out
 have hms17_0 := NB349_348.out
 refine skip_ (w1 := ?_) (by rfl) rfl ?_ ?_
 rotate_left
 ·go_simp
  rfl
 refine hK.out _ _ ⟨((cell_far (p := ⟨gb349, _, none⟩) NB348_349.out _).trans (((cell_far (p := ⟨gb349, _, none⟩) NB348_349.out _).trans (((cell_far (p := ⟨gb349, _, none⟩) NB348_349.out _).trans (((cell_far (p := ⟨gb349, _, none⟩) NB348_349.out _).trans (hHeld.1)))))))), ((cell_far (p := ⟨gb349, _, none⟩) NB348_349.out _).trans (((cell_far (p := ⟨gb349, _, none⟩) NB348_349.out _).trans (((cell_far (p := ⟨gb349, _, none⟩) NB348_349.out _).trans (((cell_far (p := ⟨gb349, _, none⟩) NB348_349.out _).trans (hHeld.2.1)))))))), ((cell_far (p := ⟨gb349, _, none⟩) NB348_349.out _).trans (((cell_far (p := ⟨gb349, _, none⟩) NB348_349.out _).trans (((cell_far (p := ⟨gb349, _, none⟩) NB348_349.out _).trans (((cell_far (p := ⟨gb349, _, none⟩) NB348_349.out _).trans (hHeld.2.2.1)))))))), ((cell_far (p := ⟨gb349, _, none⟩) NB348_349.out _).trans (((cell_far (p := ⟨gb349, _, none⟩) NB348_349.out _).trans (((cell_far (p := ⟨gb349, _, none⟩) NB348_349.out _).trans (((cell_far (p := ⟨gb349, _, none⟩) NB348_349.out _).trans (hHeld.2.2.2))))))))⟩ (fun hHeld => ?_)
 clear hK K
 refine done_ (done_of HT_.out KR) ?_
 try go_wp2
 refine bodyPost_ret (results_cell_row rfl _ _ gb349 45 #[.int .i64 a0_0, .slice Ao13 t350.length co13, .slice Ao12 t353.length co12, .slice Ao11 t356.length co11] (0, 0) _ rfl (PX BK349) Try.underlying45 rfl KR) rfl ?_
 exact ⟨_, _, _, RT, RX (Rt HO352.out BK349) (fun _ hk => by first | exact ⟨hk.1.1.2, hk.1.2⟩ | simp_all), RX (Rt HO355.out BK349) (fun _ hk => by first | exact ⟨hk.1.1.2, hk.1.2⟩ | simp_all), RX (Rt HO358.out BK349) (fun _ hk => by first | exact ⟨hk.1.1.2, hk.1.2⟩ | simp_all), PB⟩

/-! ### impl_InRange: function 69 -/
def impl_InRange.f (a0 : Int) (a1 : Int) (a2 : Int) : Option (Bool) := if a1 ≤ a0 then (some (decide (a0 ≤ a2))) else (some false)
set_option maxHeartbeats 8000000 in
set_option maxRecDepth 100000 in
theorem impl_InRange.calls (a0 : Int) (a1 : Int) (a2 : Int) (r : Bool) (w : World) (h : impl_InRange.f a0 a1 a2 = some r) :
  Calls Try.prog 69 #[.int .i64 a0, .int .i64 a1, .int .i64 a2] w fun e w' => e = .returned (.bool r) ∧ Drawn0 w w' := by
 have H : (if a1 ≤ a0 then (some (decide (a0 ≤ a2))) else (some false)) = some r := h
 clear h
 by_cases c4 : a1 ≤ a0
 ·rw [if_pos c4] at H
  have c4b0 : decide (a1 ≤ a0) = true := decide_eq_true c4
  clear c4
  obtain rfl := Option.some.inj H
  go_enter Try.func69, Try.ntmps69
  go_wp2
  go_ret
  exact ⟨by first | rfl | (simp; done) | (simp [*]; done), by repeat (first | exact Drawn0.refl _ | apply Drawn0.step)⟩
 ·rw [if_neg c4] at H
  have c4b0 : decide (a1 ≤ a0) = false := decide_eq_false c4
  clear c4
  obtain rfl := Option.some.inj H
  go_enter Try.func69, Try.ntmps69
  go_wp2
  go_ret
  exact ⟨by first | rfl | (simp; done) | (simp [*]; done), by repeat (first | exact Drawn0.refl _ | apply Drawn0.step)⟩

/-! ### impl_at: function 71 -/
def impl_at.f (a0 : Int) (a1 : Int) : Option (Bool) := if a0 ≥ 0 then (some (decide (a0 < a1))) else (some false)
set_option maxHeartbeats 8000000 in
set_option maxRecDepth 100000 in
theorem impl_at.calls (a0 : Int) (a1 : Int) (r : Bool) (w : World) (h : impl_at.f a0 a1 = some r) :
  Calls Try.prog 71 #[.int .i64 a0, .int .i64 a1] w fun e w' => e = .returned (.bool r) ∧ Drawn0 w w' := by
 have H : (if a0 ≥ 0 then (some (decide (a0 < a1))) else (some false)) = some r := h
 clear h
 by_cases c3 : a0 ≥ 0
 ·rw [if_pos c3] at H
  have c3b0 : decide (0 ≤ a0) = true := decide_eq_true c3
  clear c3
  obtain rfl := Option.some.inj H
  go_enter Try.func71, Try.ntmps71
  go_wp2
  go_ret
  exact ⟨by first | rfl | (simp; done) | (simp [*]; done), by repeat (first | exact Drawn0.refl _ | apply Drawn0.step)⟩
 ·rw [if_neg c3] at H
  have c3b0 : decide (0 ≤ a0) = false := decide_eq_false c3
  clear c3
  obtain rfl := Option.some.inj H
  go_enter Try.func71, Try.ntmps71
  go_wp2
  go_ret
  exact ⟨by first | rfl | (simp; done) | (simp [*]; done), by repeat (first | exact Drawn0.refl _ | apply Drawn0.step)⟩

/-! ### impl_isOp: function 81 -/
def impl_isOp.j0 : Nat → Int → Bool → Int → Int → Int → Int → Option (Bool)
  | 0, _, _, _, _, _, _ => none
  | k + 1, x8, x19, x360000, x360001, x360002, x360003 => if x19 = true then (if x360002 = 0 then (some (x360003 == 0)) else (some false)) else (if x8 = 5 then ((impl_at.f x360002 4).bind fun t363 => (if t363 = true then ((impl_at.f x360003 4).bind fun t364 => (some t364)) else (some false))) else (if x8 = 6 then ((impl_at.f x360002 4).bind fun t365 => (if t365 = true then (some (x360003 == 0)) else (some false))) else (if x8 = 7 then ((impl_InRange.f x360002 1 3).bind fun t366 => (if t366 = true then (some (x360003 == 0)) else (some false))) else (if x8 = 8 then ((impl_at.f x360002 3).bind fun t367 => (if t367 = true then (some (x360003 == 0)) else (some false))) else (if x8 = 9 then ((impl_at.f x360002 3).bind fun t368 => (if t368 = true then (some (x360003 == 0)) else (some false))) else (some false))))))
def impl_isOp.f (k : Nat) (a0_0 : Int) (a0_1 : Int) (a0_2 : Int) (a0_3 : Int) : Option (Bool) := (impl_at.f a0_1 4).bind fun t360 => (if t360 = true then (if a0_0 = 1 then ((impl_InRange.f a0_2 1 9).bind fun t361 => (if t361 = true then ((impl_InRange.f a0_3 0 99).bind fun t362 => (some t362)) else (some false))) else (if a0_0 = 2 then (impl_isOp.j0 k a0_0 (a0_0 == 2) a0_0 a0_1 a0_2 a0_3) else (if a0_0 = 3 then (impl_isOp.j0 k a0_0 (a0_0 == 3) a0_0 a0_1 a0_2 a0_3) else (impl_isOp.j0 k a0_0 (a0_0 == 4) a0_0 a0_1 a0_2 a0_3)))) else (some false))
set_option maxHeartbeats 8000000 in
set_option maxRecDepth 100000 in
theorem impl_isOp.calls (k : Nat) (a0_0 : Int) (a0_1 : Int) (a0_2 : Int) (a0_3 : Int) (r : Bool) (w : World) (h : impl_isOp.f k a0_0 a0_1 a0_2 a0_3 = some r) :
  Calls Try.prog 81 #[.agg #[.int .i64 a0_0, .int .i64 a0_1, .int .i64 a0_2, .int .i64 a0_3]] w fun e w' => e = .returned (.bool r) ∧ Below w.heap.size w w' := by
 have hu121 := Try.underlying121
 have HB := ak (Below.refl w.heap.size w)
 have H : ((impl_at.f a0_1 4).bind fun t360 => (if t360 = true then (if a0_0 = 1 then ((impl_InRange.f a0_2 1 9).bind fun t361 => (if t361 = true then ((impl_InRange.f a0_3 0 99).bind fun t362 => (some t362)) else (some false))) else (if a0_0 = 2 then (impl_isOp.j0 k a0_0 (a0_0 == 2) a0_0 a0_1 a0_2 a0_3) else (if a0_0 = 3 then (impl_isOp.j0 k a0_0 (a0_0 == 3) a0_0 a0_1 a0_2 a0_3) else (impl_isOp.j0 k a0_0 (a0_0 == 4) a0_0 a0_1 a0_2 a0_3)))) else (some false))) = some r := h
 clear h
 replace H := Option.bind_eq_some_iff.mp H
 obtain ⟨t360, A20, H⟩ := H
 replace H : (if t360 = true then (if a0_0 = 1 then ((impl_InRange.f a0_2 1 9).bind fun t361 => (if t361 = true then ((impl_InRange.f a0_3 0 99).bind fun t362 => (some t362)) else (some false))) else (if a0_0 = 2 then (impl_isOp.j0 k a0_0 (a0_0 == 2) a0_0 a0_1 a0_2 a0_3) else (if a0_0 = 3 then (impl_isOp.j0 k a0_0 (a0_0 == 3) a0_0 a0_1 a0_2 a0_3) else (impl_isOp.j0 k a0_0 (a0_0 == 4) a0_0 a0_1 a0_2 a0_3)))) else (some false)) = some r := H
 have A2 := Aside0.mk A20
 clear A20
 by_cases c3 : t360 = true
 ·subst c3
  have H1 : (if a0_0 = 1 then ((impl_InRange.f a0_2 1 9).bind fun t361 => (if t361 = true then ((impl_InRange.f a0_3 0 99).bind fun t362 => (some t362)) else (some false))) else (if a0_0 = 2 then (impl_isOp.j0 k a0_0 (a0_0 == 2) a0_0 a0_1 a0_2 a0_3) else (if a0_0 = 3 then (impl_isOp.j0 k a0_0 (a0_0 == 3) a0_0 a0_1 a0_2 a0_3) else (impl_isOp.j0 k a0_0 (a0_0 == 4) a0_0 a0_1 a0_2 a0_3)))) = some r := by rw [if_pos rfl] at H; exact H
  clear H
  have H := H1
  clear H1
  by_cases c4 : a0_0 = 1
  ·rw [if_pos c4] at H
   have c4b0 : (a0_0 == 1) = true := beq_iff_eq.mpr c4
   have c4b1 : (a0_0 != 1) = false := bne_eq_false_iff_eq.mpr c4
   clear c4
   replace H := Option.bind_eq_some_iff.mp H
   obtain ⟨t361, A50, H⟩ := H
   replace H : (if t361 = true then ((impl_InRange.f a0_3 0 99).bind fun t362 => (some t362)) else (some false)) = some r := H
   have A5 := Aside0.mk A50
   clear A50
   by_cases c6 : t361 = true
   ·subst c6
    have H1 : ((impl_InRange.f a0_3 0 99).bind fun t362 => (some t362)) = some r := by rw [if_pos rfl] at H; exact H
    clear H
    have H := H1
    clear H1
    replace H := Option.bind_eq_some_iff.mp H
    obtain ⟨t362, A70, H⟩ := H
    replace H : (some t362) = some r := H
    have A7 := Aside0.mk A70
    clear A70
    obtain rfl := Option.some.inj H
    go_enter Try.func81, Try.ntmps81
    go_wp2_with (first | ((with_reducible refine gate_dst (N := 1) rfl ?_); refine bx_ (N := 1) #[.int .i64 a0_0, .int .i64 a0_1, .int .i64 a0_2, .int .i64 a0_3] 121 ?_; intro gb359 hg w8 hbox hb; have BK359 := ak hbox; have GW359 := gy hg HB; have GE359 := gy hg HB; replace HB := bs HB hb; clear hb hbox hg; obtain ⟨hcz9_0, hcz9_1, hcz9_2, hcz9_3, hfz9_0, hfz9_1, hfz9_2, hfz9_3⟩ := bc4 BK359) | ((with_reducible refine gate_callee (f := 71) rfl ?_); refine goesL_ (some 5) rfl rfl Try.func71 KR rfl #[.int .i64 a0_1, .int .i64 4] rfl AR ?_; (with_reducible refine (impl_at.calls a0_1 4 true _ A2.out).mono ?_); rintro e w' ⟨rfl, ⟨nd, rfl⟩⟩; refine ⟨_, rfl, ?_⟩) | ((with_reducible refine gate_callee (f := 69) rfl ?_); refine goesL_ (some 13) rfl rfl Try.func69 KR rfl #[.int .i64 a0_2, .int .i64 1, .int .i64 9] rfl AR ?_; (with_reducible refine (impl_InRange.calls a0_2 1 9 true _ A5.out).mono ?_); rintro e w' ⟨rfl, ⟨nd, rfl⟩⟩; refine ⟨_, rfl, ?_⟩) | (go_at_call 69; (with_reducible refine (impl_InRange.calls a0_3 0 99 t362 _ A7.out).mono ?_); rintro e w' ⟨rfl, ⟨nd, rfl⟩⟩))
    go_ret
    exact ⟨RT, PB⟩
   ·replace c6 := Bool.eq_false_iff.mpr c6
    subst c6
    have H1 : (some false) = some r := by rw [if_neg (show ¬ (false = true) by decide)] at H; exact H
    clear H
    have H := H1
    clear H1
    obtain rfl := Option.some.inj H
    go_enter Try.func81, Try.ntmps81
    go_wp2_with (first | ((with_reducible refine gate_dst (N := 1) rfl ?_); refine bx_ (N := 1) #[.int .i64 a0_0, .int .i64 a0_1, .int .i64 a0_2, .int .i64 a0_3] 121 ?_; intro gb359 hg w10 hbox hb; have BK359 := ak hbox; have GW359 := gy hg HB; have GE359 := gy hg HB; replace HB := bs HB hb; clear hb hbox hg; obtain ⟨hcz11_0, hcz11_1, hcz11_2, hcz11_3, hfz11_0, hfz11_1, hfz11_2, hfz11_3⟩ := bc4 BK359) | ((with_reducible refine gate_callee (f := 71) rfl ?_); refine goesL_ (some 5) rfl rfl Try.func71 KR rfl #[.int .i64 a0_1, .int .i64 4] rfl AR ?_; (with_reducible refine (impl_at.calls a0_1 4 true _ A2.out).mono ?_); rintro e w' ⟨rfl, ⟨nd, rfl⟩⟩; refine ⟨_, rfl, ?_⟩) | ((with_reducible refine gate_callee (f := 69) rfl ?_); refine goesL_ (some 13) rfl rfl Try.func69 KR rfl #[.int .i64 a0_2, .int .i64 1, .int .i64 9] rfl AR ?_; (with_reducible refine (impl_InRange.calls a0_2 1 9 false _ A5.out).mono ?_); rintro e w' ⟨rfl, ⟨nd, rfl⟩⟩; refine ⟨_, rfl, ?_⟩))
    go_ret
    exact ⟨RT, PB⟩
  ·rw [if_neg c4] at H
   have c4b0 : (a0_0 == 1) = false := beq_eq_false_iff_ne.mpr c4
   have c4b1 : (a0_0 != 1) = true := bne_iff_ne.mpr c4
   have HC12 := Aside0.mk H
   clear H
   go_enter Try.func81, Try.ntmps81
   go_upto_if 19 with (first | ((with_reducible refine gate_dst (N := 1) rfl ?_); refine bx_ (N := 1) #[.int .i64 a0_0, .int .i64 a0_1, .int .i64 a0_2, .int .i64 a0_3] 121 ?_; intro gb359 hg w13 hbox hb; have BK359 := ak hbox; have GW359 := gy hg HB; have GE359 := gy hg HB; replace HB := bs HB hb; clear hb hbox hg; obtain ⟨hcz14_0, hcz14_1, hcz14_2, hcz14_3, hfz14_0, hfz14_1, hfz14_2, hfz14_3⟩ := bc4 BK359) | ((with_reducible refine gate_callee (f := 71) rfl ?_); refine goesL_ (some 5) rfl rfl Try.func71 KR rfl #[.int .i64 a0_1, .int .i64 4] rfl AR ?_; (with_reducible refine (impl_at.calls a0_1 4 true _ A2.out).mono ?_); rintro e w' ⟨rfl, ⟨nd, rfl⟩⟩; refine ⟨_, rfl, ?_⟩))
   (try simp only [Act.put, List.setIfInBounds_toArray, List.set_cons_zero, List.set_cons_succ])
   go_cut [19] (fun v19 wc => ∃ (kq : Nat) (x19_11 : Bool), v19 = .bool x19_11 ∧ Aside0 (impl_isOp.j0 kq a0_0 x19_11 a0_0 a0_1 a0_2 a0_3 = some r) ∧ Aside0 (kq ≤ k) ∧ Aside0 (wc.heap[gb359]? = some (.cells #[.int .i64 a0_0, .int .i64 a0_1, .int .i64 a0_2, .int .i64 a0_3] 121 (0, 0))) ∧ Aside0 (Below w.heap.size w wc))
   case first =>
    have H := HC12.out
    clear HC12
    by_cases c15 : a0_0 = 2
    ·rw [if_pos c15] at H
     have c15b0 : (a0_0 == 2) = true := beq_iff_eq.mpr c15
     have c15b1 : (a0_0 != 2) = false := bne_eq_false_iff_eq.mpr c15
     clear c15
     (first | rw [c15b0] | (simp only [i64_w, i32_w]; rw [c15b0]) | skip)
     have H' := Aside0.mk H
     clear H
     go_wp2
     go_meet
     case rel => exact ⟨_, ((a0_0 == 2)), (by first | rfl | (simp; done) | (simp [*]; done)), H', ⟨by first | omega | exact Nat.le_refl _⟩, ⟨PK BK359⟩, ⟨PB⟩⟩
    ·rw [if_neg c15] at H
     have c15b0 : (a0_0 == 2) = false := beq_eq_false_iff_ne.mpr c15
     have c15b1 : (a0_0 != 2) = true := bne_iff_ne.mpr c15
     (first | rw [c15b0] | (simp only [i64_w, i32_w]; rw [c15b0]) | skip)
     by_cases c16 : a0_0 = 3
     ·rw [if_pos c16] at H
      have c16b0 : (a0_0 == 3) = true := beq_iff_eq.mpr c16
      have c16b1 : (a0_0 != 3) = false := bne_eq_false_iff_eq.mpr c16
      clear c16
      have H' := Aside0.mk H
      clear H
      go_wp2
      go_meet
      case rel => exact ⟨_, ((a0_0 == 3)), (by first | rfl | (simp; done) | (simp [*]; done)), H', ⟨by first | omega | exact Nat.le_refl _⟩, ⟨PK BK359⟩, ⟨PB⟩⟩
     ·rw [if_neg c16] at H
      have c16b0 : (a0_0 == 3) = false := beq_eq_false_iff_ne.mpr c16
      have c16b1 : (a0_0 != 3) = true := bne_iff_ne.mpr c16
      have H' := Aside0.mk H
      clear H
      go_wp2
      go_meet
      case rel => exact ⟨_, ((a0_0 == 4)), (by first | rfl | (simp; done) | (simp [*]; done)), H', ⟨by first | omega | exact Nat.le_refl _⟩, ⟨PK BK359⟩, ⟨PB⟩⟩
   case rest =>
    clear HC12
    (try clear c1); (try clear p2); (try clear c3); (try clear c4); (try clear c4b0); (try clear c4b1); (try clear c6); (try clear c7); (try clear c8); (try clear c15); (try clear c15b0); (try clear c15b1); (try clear c16); (try clear c16b0); (try clear c16b1); (try clear hcz11_0); (try clear hcz11_1); (try clear hcz11_2); (try clear hcz11_3); (try clear hcz14_0); (try clear hcz14_1); (try clear hcz14_2); (try clear hcz14_3); (try clear hcz9_0); (try clear hcz9_1); (try clear hcz9_2); (try clear hcz9_3); (try clear hfz11_0); (try clear hfz11_1); (try clear hfz11_2); (try clear hfz11_3); (try clear hfz14_0); (try clear hfz14_1); (try clear hfz14_2); (try clear hfz14_3); (try clear hfz9_0); (try clear hfz9_1); (try clear hfz9_2); (try clear hfz9_3)
    obtain ⟨kq, x19_11, rfl, HA, HJ11, BK359, HB⟩ := hcut
    cases kq with
    | zero => exact absurd HA.out (by simp [impl_isOp.j0])
    | succ kj11 =>
     have H := HA.out
     clear HA
     simp only [impl_isOp.j0] at H
     by_cases c17 : x19_11 = true
     ·subst c17
      have H1 : (if a0_2 = 0 then (some (a0_3 == 0)) else (some false)) = some r := by rw [if_pos rfl] at H; exact H
      clear H
      have H := H1
      clear H1
      by_cases c18 : a0_2 = 0
      ·rw [if_pos c18] at H
       have c18b0 : (a0_2 == 0) = true := beq_iff_eq.mpr c18
       have c18b1 : (a0_2 != 0) = false := bne_eq_false_iff_eq.mpr c18
       clear c18
       obtain rfl := Option.some.inj H
       obtain ⟨_, _, _, _, _, _, _, _⟩ := bc4 BK359
       go_wp2
       go_ret
       exact ⟨RT, PB⟩
      ·rw [if_neg c18] at H
       have c18b0 : (a0_2 == 0) = false := beq_eq_false_iff_ne.mpr c18
       have c18b1 : (a0_2 != 0) = true := bne_iff_ne.mpr c18
       obtain rfl := Option.some.inj H
       obtain ⟨_, _, _, _, _, _, _, _⟩ := bc4 BK359
       go_wp2
       go_ret
       exact ⟨RT, PB⟩
     ·replace c17 := Bool.eq_false_iff.mpr c17
      subst c17
      have H1 : (if a0_0 = 5 then ((impl_at.f a0_2 4).bind fun t363 => (if t363 = true then ((impl_at.f a0_3 4).bind fun t364 => (some t364)) else (some false))) else (if a0_0 = 6 then ((impl_at.f a0_2 4).bind fun t365 => (if t365 = true then (some (a0_3 == 0)) else (some false))) else (if a0_0 = 7 then ((impl_InRange.f a0_2 1 3).bind fun t366 => (if t366 = true then (some (a0_3 == 0)) else (some false))) else (if a0_0 = 8 then ((impl_at.f a0_2 3).bind fun t367 => (if t367 = true then (some (a0_3 == 0)) else (some false))) else (if a0_0 = 9 then ((impl_at.f a0_2 3).bind fun t368 => (if t368 = true then (some (a0_3 == 0)) else (some false))) else (some false)))))) = some r := by rw [if_neg (show ¬ (false = true) by decide)] at H; exact H
      clear H
      have H := H1
      clear H1
      by_cases c21 : a0_0 = 5
      ·rw [if_pos c21] at H
       have c21b0 : (a0_0 == 5) = true := beq_iff_eq.mpr c21
       have c21b1 : (a0_0 != 5) = false := bne_eq_false_iff_eq.mpr c21
       clear c21
       replace H := Option.bind_eq_some_iff.mp H
       obtain ⟨t363, A220, H⟩ := H
       replace H : (if t363 = true then ((impl_at.f a0_3 4).bind fun t364 => (some t364)) else (some false)) = some r := H
       have A22 := Aside0.mk A220
       clear A220
       by_cases c23 : t363 = true
       ·subst c23
        have H1 : ((impl_at.f a0_3 4).bind fun t364 => (some t364)) = some r := by rw [if_pos rfl] at H; exact H
        clear H
        have H := H1
        clear H1
        replace H := Option.bind_eq_some_iff.mp H
        obtain ⟨t364, A240, H⟩ := H
        replace H : (some t364) = some r := H
        have A24 := Aside0.mk A240
        clear A240
        obtain rfl := Option.some.inj H
        obtain ⟨_, _, _, _, _, _, _, _⟩ := bc4 BK359
        go_wp2_with (first | ((with_reducible refine gate_callee (f := 71) rfl ?_); refine goesL_ (some 35) rfl rfl Try.func71 KR rfl #[.int .i64 a0_2, .int .i64 4] rfl AR ?_; (with_reducible refine (impl_at.calls a0_2 4 true _ A22.out).mono ?_); rintro e w' ⟨rfl, ⟨nd, rfl⟩⟩; refine ⟨_, rfl, ?_⟩) | (go_at_call 71; (with_reducible refine (impl_at.calls a0_3 4 t364 _ A24.out).mono ?_); rintro e w' ⟨rfl, ⟨nd, rfl⟩⟩))
        go_ret
        exact ⟨RT, PB⟩
       ·replace c23 := Bool.eq_false_iff.mpr c23
        subst c23
        have H1 : (some false) = some r := by rw [if_neg (show ¬ (false = true) by decide)] at H; exact H
        clear H
        have H := H1
        clear H1
        obtain rfl := Option.some.inj H
        obtain ⟨_, _, _, _, _, _, _, _⟩ := bc4 BK359
        go_wp2_with (first | ((with_reducible refine gate_callee (f := 71) rfl ?_); refine goesL_ (some 35) rfl rfl Try.func71 KR rfl #[.int .i64 a0_2, .int .i64 4] rfl AR ?_; (with_reducible refine (impl_at.calls a0_2 4 false _ A22.out).mono ?_); rintro e w' ⟨rfl, ⟨nd, rfl⟩⟩; refine ⟨_, rfl, ?_⟩))
        go_ret
        exact ⟨RT, PB⟩
      ·rw [if_neg c21] at H
       have c21b0 : (a0_0 == 5) = false := beq_eq_false_iff_ne.mpr c21
       have c21b1 : (a0_0 != 5) = true := bne_iff_ne.mpr c21
       by_cases c27 : a0_0 = 6
       ·rw [if_pos c27] at H
        have c27b0 : (a0_0 == 6) = true := beq_iff_eq.mpr c27
        have c27b1 : (a0_0 != 6) = false := bne_eq_false_iff_eq.mpr c27
        clear c27
        replace H := Option.bind_eq_some_iff.mp H
        obtain ⟨t365, A280, H⟩ := H
        replace H : (if t365 = true then (some (a0_3 == 0)) else (some false)) = some r := H
        have A28 := Aside0.mk A280
        clear A280
        by_cases c29 : t365 = true
        ·subst c29
         have H1 : (some (a0_3 == 0)) = some r := by rw [if_pos rfl] at H; exact H
         clear H
         have H := H1
         clear H1
         obtain rfl := Option.some.inj H
         obtain ⟨_, _, _, _, _, _, _, _⟩ := bc4 BK359
         go_wp2_with (first | ((with_reducible refine gate_callee (f := 71) rfl ?_); refine goesL_ (some 45) rfl rfl Try.func71 KR rfl #[.int .i64 a0_2, .int .i64 4] rfl AR ?_; (with_reducible refine (impl_at.calls a0_2 4 true _ A28.out).mono ?_); rintro e w' ⟨rfl, ⟨nd, rfl⟩⟩; refine ⟨_, rfl, ?_⟩))
         go_ret
         exact ⟨RT, PB⟩
        ·replace c29 := Bool.eq_false_iff.mpr c29
         subst c29
         have H1 : (some false) = some r := by rw [if_neg (show ¬ (false = true) by decide)] at H; exact H
         clear H
         have H := H1
         clear H1
         obtain rfl := Option.some.inj H
         obtain ⟨_, _, _, _, _, _, _, _⟩ := bc4 BK359
         go_wp2_with (first | ((with_reducible refine gate_callee (f := 71) rfl ?_); refine goesL_ (some 45) rfl rfl Try.func71 KR rfl #[.int .i64 a0_2, .int .i64 4] rfl AR ?_; (with_reducible refine (impl_at.calls a0_2 4 false _ A28.out).mono ?_); rintro e w' ⟨rfl, ⟨nd, rfl⟩⟩; refine ⟨_, rfl, ?_⟩))
         go_ret
         exact ⟨RT, PB⟩
       ·rw [if_neg c27] at H
        have c27b0 : (a0_0 == 6) = false := beq_eq_false_iff_ne.mpr c27
        have c27b1 : (a0_0 != 6) = true := bne_iff_ne.mpr c27
        by_cases c32 : a0_0 = 7
        ·rw [if_pos c32] at H
         have c32b0 : (a0_0 == 7) = true := beq_iff_eq.mpr c32
         have c32b1 : (a0_0 != 7) = false := bne_eq_false_iff_eq.mpr c32
         clear c32
         replace H := Option.bind_eq_some_iff.mp H
         obtain ⟨t366, A330, H⟩ := H
         replace H : (if t366 = true then (some (a0_3 == 0)) else (some false)) = some r := H
         have A33 := Aside0.mk A330
         clear A330
         by_cases c34 : t366 = true
         ·subst c34
          have H1 : (some (a0_3 == 0)) = some r := by rw [if_pos rfl] at H; exact H
          clear H
          have H := H1
          clear H1
          obtain rfl := Option.some.inj H
          obtain ⟨_, _, _, _, _, _, _, _⟩ := bc4 BK359
          go_wp2_with (first | ((with_reducible refine gate_callee (f := 69) rfl ?_); refine goesL_ (some 55) rfl rfl Try.func69 KR rfl #[.int .i64 a0_2, .int .i64 1, .int .i64 3] rfl AR ?_; (with_reducible refine (impl_InRange.calls a0_2 1 3 true _ A33.out).mono ?_); rintro e w' ⟨rfl, ⟨nd, rfl⟩⟩; refine ⟨_, rfl, ?_⟩))
          go_ret
          exact ⟨RT, PB⟩
         ·replace c34 := Bool.eq_false_iff.mpr c34
          subst c34
          have H1 : (some false) = some r := by rw [if_neg (show ¬ (false = true) by decide)] at H; exact H
          clear H
          have H := H1
          clear H1
          obtain rfl := Option.some.inj H
          obtain ⟨_, _, _, _, _, _, _, _⟩ := bc4 BK359
          go_wp2_with (first | ((with_reducible refine gate_callee (f := 69) rfl ?_); refine goesL_ (some 55) rfl rfl Try.func69 KR rfl #[.int .i64 a0_2, .int .i64 1, .int .i64 3] rfl AR ?_; (with_reducible refine (impl_InRange.calls a0_2 1 3 false _ A33.out).mono ?_); rintro e w' ⟨rfl, ⟨nd, rfl⟩⟩; refine ⟨_, rfl, ?_⟩))
          go_ret
          exact ⟨RT, PB⟩
        ·rw [if_neg c32] at H
         have c32b0 : (a0_0 == 7) = false := beq_eq_false_iff_ne.mpr c32
         have c32b1 : (a0_0 != 7) = true := bne_iff_ne.mpr c32
         by_cases c37 : a0_0 = 8
         ·rw [if_pos c37] at H
          have c37b0 : (a0_0 == 8) = true := beq_iff_eq.mpr c37
          have c37b1 : (a0_0 != 8) = false := bne_eq_false_iff_eq.mpr c37
          clear c37
          replace H := Option.bind_eq_some_iff.mp H
          obtain ⟨t367, A380, H⟩ := H
          replace H : (if t367 = true then (some (a0_3 == 0)) else (some false)) = some r := H
          have A38 := Aside0.mk A380
          clear A380
          by_cases c39 : t367 = true
          ·subst c39
           have H1 : (some (a0_3 == 0)) = some r := by rw [if_pos rfl] at H; exact H
           clear H
           have H := H1
           clear H1
           obtain rfl := Option.some.inj H
           obtain ⟨_, _, _, _, _, _, _, _⟩ := bc4 BK359
           go_wp2_with (first | ((with_reducible refine gate_callee (f := 71) rfl ?_); refine goesL_ (some 66) rfl rfl Try.func71 KR rfl #[.int .i64 a0_2, .int .i64 3] rfl AR ?_; (with_reducible refine (impl_at.calls a0_2 3 true _ A38.out).mono ?_); rintro e w' ⟨rfl, ⟨nd, rfl⟩⟩; refine ⟨_, rfl, ?_⟩))
           go_ret
           exact ⟨RT, PB⟩
          ·replace c39 := Bool.eq_false_iff.mpr c39
           subst c39
           have H1 : (some false) = some r := by rw [if_neg (show ¬ (false = true) by decide)] at H; exact H
           clear H
           have H := H1
           clear H1
           obtain rfl := Option.some.inj H
           obtain ⟨_, _, _, _, _, _, _, _⟩ := bc4 BK359
           go_wp2_with (first | ((with_reducible refine gate_callee (f := 71) rfl ?_); refine goesL_ (some 66) rfl rfl Try.func71 KR rfl #[.int .i64 a0_2, .int .i64 3] rfl AR ?_; (with_reducible refine (impl_at.calls a0_2 3 false _ A38.out).mono ?_); rintro e w' ⟨rfl, ⟨nd, rfl⟩⟩; refine ⟨_, rfl, ?_⟩))
           go_ret
           exact ⟨RT, PB⟩
         ·rw [if_neg c37] at H
          have c37b0 : (a0_0 == 8) = false := beq_eq_false_iff_ne.mpr c37
          have c37b1 : (a0_0 != 8) = true := bne_iff_ne.mpr c37
          by_cases c42 : a0_0 = 9
          ·rw [if_pos c42] at H
           have c42b0 : (a0_0 == 9) = true := beq_iff_eq.mpr c42
           have c42b1 : (a0_0 != 9) = false := bne_eq_false_iff_eq.mpr c42
           clear c42
           replace H := Option.bind_eq_some_iff.mp H
           obtain ⟨t368, A430, H⟩ := H
           replace H : (if t368 = true then (some (a0_3 == 0)) else (some false)) = some r := H
           have A43 := Aside0.mk A430
           clear A430
           by_cases c44 : t368 = true
           ·subst c44
            have H1 : (some (a0_3 == 0)) = some r := by rw [if_pos rfl] at H; exact H
            clear H
            have H := H1
            clear H1
            obtain rfl := Option.some.inj H
            obtain ⟨_, _, _, _, _, _, _, _⟩ := bc4 BK359
            go_wp2_with (first | ((with_reducible refine gate_callee (f := 71) rfl ?_); refine goesL_ (some 66) rfl rfl Try.func71 KR rfl #[.int .i64 a0_2, .int .i64 3] rfl AR ?_; (with_reducible refine (impl_at.calls a0_2 3 true _ A43.out).mono ?_); rintro e w' ⟨rfl, ⟨nd, rfl⟩⟩; refine ⟨_, rfl, ?_⟩))
            go_ret
            exact ⟨RT, PB⟩
           ·replace c44 := Bool.eq_false_iff.mpr c44
            subst c44
            have H1 : (some false) = some r := by rw [if_neg (show ¬ (false = true) by decide)] at H; exact H
            clear H
            have H := H1
            clear H1
            obtain rfl := Option.some.inj H
            obtain ⟨_, _, _, _, _, _, _, _⟩ := bc4 BK359
            go_wp2_with (first | ((with_reducible refine gate_callee (f := 71) rfl ?_); refine goesL_ (some 66) rfl rfl Try.func71 KR rfl #[.int .i64 a0_2, .int .i64 3] rfl AR ?_; (with_reducible refine (impl_at.calls a0_2 3 false _ A43.out).mono ?_); rintro e w' ⟨rfl, ⟨nd, rfl⟩⟩; refine ⟨_, rfl, ?_⟩))
            go_ret
            exact ⟨RT, PB⟩
          ·rw [if_neg c42] at H
           have c42b0 : (a0_0 == 9) = false := beq_eq_false_iff_ne.mpr c42
           have c42b1 : (a0_0 != 9) = true := bne_iff_ne.mpr c42
           obtain rfl := Option.some.inj H
           go_wp2
           go_ret
           exact ⟨RT, PB⟩
 ·replace c3 := Bool.eq_false_iff.mpr c3
  subst c3
  have H1 : (some false) = some r := by rw [if_neg (show ¬ (false = true) by decide)] at H; exact H
  clear H
  have H := H1
  clear H1
  obtain rfl := Option.some.inj H
  go_enter Try.func81, Try.ntmps81
  go_wp2_with (first | ((with_reducible refine gate_dst (N := 1) rfl ?_); refine bx_ (N := 1) #[.int .i64 a0_0, .int .i64 a0_1, .int .i64 a0_2, .int .i64 a0_3] 121 ?_; intro gb359 hg w47 hbox hb; have BK359 := ak hbox; have GW359 := gy hg HB; have GE359 := gy hg HB; replace HB := bs HB hb; clear hb hbox hg; obtain ⟨_, _, _, _, _, _, _, _⟩ := bc4 BK359) | ((with_reducible refine gate_callee (f := 71) rfl ?_); refine goesL_ (some 5) rfl rfl Try.func71 KR rfl #[.int .i64 a0_1, .int .i64 4] rfl AR ?_; (with_reducible refine (impl_at.calls a0_1 4 false _ A2.out).mono ?_); rintro e w' ⟨rfl, ⟨nd, rfl⟩⟩; refine ⟨_, rfl, ?_⟩))
  go_ret
  exact ⟨RT, PB⟩

/-! ### impl_IsScript_lit1: function 80 -/
def impl_IsScript_lit1.f (k : Nat) (a0_0 : Int) (a0_1 : Int) (a0_2 : Int) (a0_3 : Int) : Option (Bool) := (impl_isOp.f k a0_0 a0_1 a0_2 a0_3).bind fun t370 => (some (!t370))
set_option maxHeartbeats 8000000 in
set_option maxRecDepth 100000 in
theorem impl_IsScript_lit1.calls (k : Nat) (a0_0 : Int) (a0_1 : Int) (a0_2 : Int) (a0_3 : Int) (r : Bool) (w : World) (h : impl_IsScript_lit1.f k a0_0 a0_1 a0_2 a0_3 = some r) :
  Calls Try.prog 80 #[.agg #[.int .i64 a0_0, .int .i64 a0_1, .int .i64 a0_2, .int .i64 a0_3]] w fun e w' => e = .returned (.bool r) ∧ Below w.heap.size w w' := by
 have hu121 := Try.underlying121
 have HB := ak (Below.refl w.heap.size w)
 have H : ((impl_isOp.f k a0_0 a0_1 a0_2 a0_3).bind fun t370 => (some (!t370))) = some r := h
 clear h
 replace H := Option.bind_eq_some_iff.mp H
 obtain ⟨t370, A20, H⟩ := H
 replace H : (some (!t370)) = some r := H
 have A2 := Aside0.mk A20
 clear A20
 obtain rfl := Option.some.inj H
 go_enter Try.func80, Try.ntmps80
 go_wp2_with (first | ((with_reducible refine gate_dst (N := 1) rfl ?_); refine bx_ (N := 1) #[.int .i64 a0_0, .int .i64 a0_1, .int .i64 a0_2, .int .i64 a0_3] 121 ?_; intro gb369 hg w3 hbox hb; have BK369 := ak hbox; have GW369 := gy hg HB; have GE369 := gy hg HB; replace HB := bs HB hb; clear hb hbox hg; obtain ⟨_, _, _, _, _, _, _, _⟩ := bc4 BK369) | ((with_reducible refine gate_callee (f := 81) rfl ?_); refine goesL_ (some 4) rfl rfl Try.func81 KR rfl #[.agg #[.int .i64 a0_0, .int .i64 a0_1, .int .i64 a0_2, .int .i64 a0_3]] rfl AR ?_; (with_reducible refine (impl_isOp.calls k a0_0 a0_1 a0_2 a0_3 t370 _ A2.out).mono ?_); rintro e w5 ⟨rfl, hb⟩; refine ⟨_, rfl, ?_⟩; replace BK369 := kf BK369 hb; replace HB := bs HB hb; (try clear hb); (try clear hb2); (try clear hk); (try clear hi)))
 go_ret
 exact ⟨RT, PB⟩

end Go.Proofs.Ytgcamebeonodeaa.MFnMachine
